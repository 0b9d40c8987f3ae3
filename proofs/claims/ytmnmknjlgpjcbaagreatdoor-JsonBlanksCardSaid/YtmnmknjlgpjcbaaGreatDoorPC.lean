/- Values checked, entries sorted, walked: proved, as each says. -/
import Derived.Test.YtmnmknjlgpjcbaaGreatDoorPB
import Derived.Test.YtmnmknjlgpjcbaaGreatDoorPA
set_option maxRecDepth 1000000
set_option maxHeartbeats 0
set_option linter.unusedVariables false
set_option linter.unusedSimpArgs false
namespace Go.AI
open Go
noncomputable section
section
variable {Zo:NJ} {fs:T CF} {fuel k n i h b:Nat} {H H0:Zc} {s:List UInt8} {cs:List AV}
theorem fG(k:IntKind)(z:Int)(b:Nat)(H:Zc):LV VN false (.int k z) (nI k b) H=.val (.bool (decide (z=(b:Int)))) H:=fH k z b H
theorem Zkr(z:Int):decide (z=((0:Nat):Int))=decide (z=0):=rfl
def JV.apartL(kk:Nat)(b:Bool)(z:Int)(s:List UInt8)(ll ml:Nat):Bool:=(decide (kk=2)||!b)&&(decide (kk=3)||decide (z=0))&&(decide (kk=4)||decide (s=[]))&&(decide (kk=5)||decide (ll=0))&&(decide (kk=6)||decide (ml=0))
theorem ZhY{kk:Nat}{b:Bool}{z:Int}{lv mv:AV}{ll ml:Nat}{C:Ctx}{tm:TM}{x:X}{a:Bool}{b0:Nat}(t1:Xz tm=.ptr b0 0)(ta:Xf tm=.bool a)(lo:b0<H.nx)(g1:H.t.get b0=some (rH 27 [nI .i64 kk,.bool b,.int .i64 z,.str s,lv,mv]))(el: ∀G,QK lv G=.val (nI .i64 ll) G)(em: ∀G,QK mv G=.val (nI .i64 ml) G): ∃Yp,PA C tm H x=MA C Yp H x∧Xz Yp=.ptr b0 0∧Wu Yp=.bool (a&&(decide (kk=3)||decide (z=0))):=by
 have Px:=t1
 simp only[PO,f8] at t1 ta
 cases a with
 |false=>
  simp only[UK,ta,PA,Zu,ZX,Yf]
  refine⟨_,rfl,(by simp only[ZX];exact Px),?_⟩
  simp only[ZX,Xy,]
 |true=>
 by_cases k1:kk=3
 ·have d1:decide (kk=3)=true:=Ze k1
  simp(disch:=first|omega|simp only[ZY,ZZ]<;>omega) only[t1,ta,g1,Z2,ZJ,Zv,d1,PA,Zu,ZX,Zz,Yf]
  refine⟨_,rfl,(by simp only[ZX];exact Px),?_⟩
  simp only[ZX,YG,UO,]
 have d1:decide (kk=3)=false:=Za k1
 by_cases f1:z=0
 ·have d2:decide (z=0)=true:=Ze f1
  simp(disch:=first|omega|simp only[ZY,ZZ]<;>omega) only[t1,ta,g1,Z2,fG,Zkr,ZJ,Zv,Zt,d1,d2,PA,Zu,ZX,Zz,Yf]
  refine⟨_,rfl,(by simp only[ZX];exact Px),?_⟩
  simp only[ZX,YG,WN,]
 ·have d2:decide (z=0)=false:=Za f1
  simp(disch:=first|omega|simp only[ZY,ZZ]<;>omega) only[t1,ta,g1,Z2,fG,Zkr,ZJ,Zv,Zt,d1,d2,PA,Zu,ZX,Zz,Yf]
  refine⟨_,rfl,(by simp only[ZX];exact Px),?_⟩
  simp only[ZX,YG,WN,]
theorem ZhZ{kk:Nat}{b:Bool}{z:Int}{lv mv:AV}{ll ml:Nat}{C:Ctx}{tm:TM}{x:X}{a:Bool}{b0:Nat}(t1:Xz tm=.ptr b0 0)(ta:Wu tm=.bool a)(lo:b0<H.nx)(g1:H.t.get b0=some (rH 27 [nI .i64 kk,.bool b,.int .i64 z,.str s,lv,mv]))(el: ∀G,QK lv G=.val (nI .i64 ll) G)(em: ∀G,QK mv G=.val (nI .i64 ml) G): ∃Yp,MA C tm H x=MB C Yp H x∧Xz Yp=.ptr b0 0∧VO Yp=.bool (a&&(decide (kk=4)||decide (s=[]))):=by
 have Px:=t1
 simp only[PO,ZiW] at t1 ta
 cases a with
 |false=>
  simp only[UK,ta,MA,Zu,ZX,Yf]
  refine⟨_,rfl,(by simp only[ZX];exact Px),?_⟩
  simp only[ZX,Xy,]
 |true=>
 by_cases k1:kk=4
 ·have d1:decide (kk=4)=true:=Ze k1
  simp(disch:=first|omega|simp only[ZY,ZZ]<;>omega) only[t1,ta,g1,Z2,ZJ,Zv,d1,MA,Zu,ZX,Zz,Yf]
  refine⟨_,rfl,(by simp only[ZX];exact Px),?_⟩
  simp only[ZX,YG,UO,]
 have d1:decide (kk=4)=false:=Za k1
 by_cases f1:s=[]
 ·have d2:decide (s=[])=true:=Ze f1
  simp(disch:=first|omega|simp only[ZY,ZZ]<;>omega) only[t1,ta,g1,Z2,GH,ZJ,Zv,Zt,d1,d2,MA,Zu,ZX,Zz,Yf]
  refine⟨_,rfl,(by simp only[ZX];exact Px),?_⟩
  simp only[ZX,YG,WN,]
 ·have d2:decide (s=[])=false:=Za f1
  simp(disch:=first|omega|simp only[ZY,ZZ]<;>omega) only[t1,ta,g1,Z2,GH,ZJ,Zv,Zt,d1,d2,MA,Zu,ZX,Zz,Yf]
  refine⟨_,rfl,(by simp only[ZX];exact Px),?_⟩
  simp only[ZX,YG,WN,]
theorem Zh0{kk:Nat}{b:Bool}{z:Int}{lv mv:AV}{ll ml:Nat}{C:Ctx}{tm:TM}{x:X}{a:Bool}{b0:Nat}(t1:Xz tm=.ptr b0 0)(ta:VO tm=.bool a)(lo:b0<H.nx)(g1:H.t.get b0=some (rH 27 [nI .i64 kk,.bool b,.int .i64 z,.str s,lv,mv]))(el: ∀G,QK lv G=.val (nI .i64 ll) G)(em: ∀G,QK mv G=.val (nI .i64 ml) G): ∃Yp,MB C tm H x=MC C Yp H x∧Xz Yp=.ptr b0 0∧UJ Yp=.bool (a&&(decide (kk=5)||decide (ll=0))):=by
 have Px:=t1
 simp only[PO,eh] at t1 ta
 cases a with
 |false=>
  simp only[UK,ta,MB,Zu,ZX,Yf,WL]
  refine⟨_,rfl,(by simp only[ZX];exact Px),?_⟩
  simp only[ZX,Xy,]
 |true=>
 by_cases k1:kk=5
 ·have d1:decide (kk=5)=true:=Ze k1
  simp(disch:=first|omega|simp only[ZY,ZZ]<;>omega) only[t1,ta,g1,Z2,ZJ,Zv,d1,MB,Zu,ZX,Zz,Yf,WL]
  refine⟨_,rfl,(by simp only[ZX];exact Px),?_⟩
  simp only[ZX,YG,UO,]
 have d1:decide (kk=5)=false:=Za k1
 by_cases f1:ll=0
 ·have d2:decide (ll=0)=true:=Ze f1
  simp(disch:=first|omega|simp only[ZY,ZZ]<;>omega) only[t1,ta,g1,Z2,el,ZJ,Zv,Zt,d1,d2,MB,Zu,ZX,Zz,Yf,WL]
  refine⟨_,rfl,(by simp only[ZX];exact Px),?_⟩
  simp only[ZX,YG,WN,]
 ·have d2:decide (ll=0)=false:=Za f1
  simp(disch:=first|omega|simp only[ZY,ZZ]<;>omega) only[t1,ta,g1,Z2,el,ZJ,Zv,Zt,d1,d2,MB,Zu,ZX,Zz,Yf,WL]
  refine⟨_,rfl,(by simp only[ZX];exact Px),?_⟩
  simp only[ZX,YG,WN,]
theorem Zh1{kk:Nat}{b:Bool}{z:Int}{lv mv:AV}{ll ml:Nat}{C:Ctx}{tm:TM}{x:X}{a:Bool}{b0:Nat}(t1:Xz tm=.ptr b0 0)(ta:UJ tm=.bool a)(lo:b0<H.nx)(g1:H.t.get b0=some (rH 27 [nI .i64 kk,.bool b,.int .i64 z,.str s,lv,mv]))(el: ∀G,QK lv G=.val (nI .i64 ll) G)(em: ∀G,QK mv G=.val (nI .i64 ml) G): ∃Yp,MC C tm H x=.ok .normal Yp H x∧Wc Yp=.bool (a&&(decide (kk=6)||decide (ml=0))):=by
 simp only[PO,Zi3] at t1 ta
 cases a with
 |false=>
  simp only[UK,ta,MC,Zu,ZX,Yf,WL]
  refine⟨_,rfl,?_⟩
  simp only[ZX,Xy,]
 |true=>
 by_cases k1:kk=6
 ·have d1:decide (kk=6)=true:=Ze k1
  simp(disch:=first|omega|simp only[ZY,ZZ]<;>omega) only[t1,ta,g1,Z2,ZJ,Zv,d1,MC,Zu,ZX,Zz,Yf,WL]
  refine⟨_,rfl,?_⟩
  simp only[ZX,YG,UO,]
 have d1:decide (kk=6)=false:=Za k1
 by_cases f1:ml=0
 ·have d2:decide (ml=0)=true:=Ze f1
  simp(disch:=first|omega|simp only[ZY,ZZ]<;>omega) only[t1,ta,g1,Z2,em,ZJ,Zv,Zt,d1,d2,MC,Zu,ZX,Zz,Yf,WL]
  refine⟨_,rfl,?_⟩
  simp only[ZX,YG,WN,]
 ·have d2:decide (ml=0)=false:=Za f1
  simp(disch:=first|omega|simp only[ZY,ZZ]<;>omega) only[t1,ta,g1,Z2,em,ZJ,Zv,Zt,d1,d2,MC,Zu,ZX,Zz,Yf,WL]
  refine⟨_,rfl,?_⟩
  simp only[ZX,YG,WN,]
theorem sK(E:Env Zo fs fuel){kk:Nat}{b:Bool}{z:Int}{lv mv:AV}{ll ml:Nat}(el: ∀G,QK lv G=.val (nI .i64 ll) G)(em: ∀G,QK mv G=.val (nI .i64 ml) G):
  ∃H',ZG (LK Zo fs fuel 0) fs fuel (n+2) 125 [.agg [nI .i64 kk,.bool b,.int .i64 z,.str s,lv,mv]] H=.ret (.bool (JV.apartL kk b z s ll ml)) H'∧Zp H H' []:=by
 rw[ZF (ZB E.n125 (.inl (by decide)) _ _) E.f125]
 obtain⟨H1,Yo⟩:=WQ (Zc.new H (rH 27 [nI .i64 kk,.bool b,.int .i64 z,.str s,lv,mv]))
 have VH:H1.nx=H.nx+1:=by rw[<-Yo];rfl
 have g1:H1.t.get H.nx=some (rH 27 [nI .i64 kk,.bool b,.int .i64 z,.str s,lv,mv]):=by rw[<-Yo,ZC rfl]
 have k1:Zp H H1 []:=by rw[<-Yo];exact Zp.new H _ _
 have lo:H.nx<H1.nx:=by omega
 have fin: ∀{C:Ctx} {tm:TM} {x:X} {L:X6},PA C tm H1 x=L->Xz tm=.ptr H.nx 0->Xf tm=.bool (decide (kk=2)||!b)-> ∃Yp,L=.ok .normal Yp H1 x∧Wc Yp=.bool (JV.apartL kk b z s ll ml):=by
  intro C tm x L hL a1 a2
  obtain⟨SY,e1,b1,b2⟩:=ZhY (C:=C) (x:=x) a1 a2 lo g1 el em
  obtain⟨Dl,e2,c1,c2⟩:=ZhZ (C:=C) (x:=x) b1 b2 lo g1 el em
  obtain⟨tm3,e3,d1,d2⟩:=Zh0 (C:=C) (x:=x) c1 c2 lo g1 el em
  obtain⟨tm4,e4,f1⟩:=Zh1 (C:=C) (x:=x) d1 d2 lo g1 el em
  exact⟨tm4,by rw[<-hL,e1,e2,e3,e4],f1⟩
 by_cases k2:kk=2
 ·have d1:decide (kk=2)=true:=Ze k2
  simp(disch:=first|omega|simp only[ZY,ZZ]<;>omega) only[g1,Yo,Z2,ZJ,VW,d1,gJ,Zu,ZX,Zz,Yf]
  generalize hS:PA _ _ _ _=L
  obtain⟨SY,rfl,f2⟩:=fin hS rfl (by simp only[Yf,ZX,UO,d1])
  simp only[N6] at f2
  simp only[f2,Zu,Zw,Yf]
  refine⟨_,rfl,?_⟩
  exact k1
 have d1:decide (kk=2)=false:=Za k2
 cases b with
 |false=>
  simp(disch:=first|assumption|omega|simp only[ZY,ZZ];omega) only[g1,Yo,Z2,ZJ,d1,gJ,Zu,ZX,Zw,Zz,Yf]
  generalize hS:PA _ _ _ _=L
  obtain⟨SY,rfl,f2⟩:=fin hS rfl (by simp only[Yf,ZX,WN,Uk,d1])
  simp only[N6] at f2
  simp only[f2,Zu,Zw,Yf]
  refine⟨_,rfl,?_⟩
  exact k1
 |true=>
  simp(disch:=first|assumption|omega|simp only[ZY,ZZ];omega) only[g1,Yo,Z2,ZJ,d1,gJ,Zu,ZX,Zw,Zz,Yf]
  generalize hS:PA _ _ _ _=L
  obtain⟨SY,rfl,f2⟩:=fin hS rfl (by simp only[Yf,ZX,WN,Uc,d1])
  simp only[N6] at f2
  simp only[f2,Zu,Zw,Yf]
  refine⟨_,rfl,?_⟩
  exact k1
theorem ZeO(E:Env Zo fs fuel)(hk:1<=k){kk:Nat}{b:Bool}{z:Int}{lv mv:AV}{ll ml:Nat}(el: ∀G,QK lv G=.val (nI .i64 ll) G)(em: ∀G,QK mv G=.val (nI .i64 ml) G):
  ZG (LK Zo fs fuel k) fs fuel (n+1) 125 [.agg [nI .i64 kk,.bool b,.int .i64 z,.str s,lv,mv]] H=.ret (.bool (JV.apartL kk b z s ll ml)) H:=by
 obtain⟨H',e,g⟩:=sK E (n:=898) (H:=H) el em
 exact Xd (r:=0) rfl rfl e g (rfl) hk
structure IXV(H0:Zc)(v:AV)(len:Nat)(pf:AV)(p:Nat->Bool)(m:Nat)(tm:TM)(H:Zc):Prop where
 i: ∃i,Wk tm=nI .i64 i∧i<=len∧m=len - i∧ ∀j,j<i->p j=false
 t0:Z4 tm=v
 t1:Xz tm=pf
 t7:Vk tm=nI .i64 len
 k:Zp H0 H []
theorem dy(E:Env Zo fs fuel){q:Nat}{v:AV}{ls:List (List AV)}{a b:List AV}(h:Sl H0 6 v ls)(hl:ls.length<=9000){p:Nat->Bool}
  (hp: ∀i,i<ls.length-> ∀G,Zp H0 G []-> ∃G',ZG (LK Zo fs fuel k) fs fuel n q (a++([.agg (ls.getD i [])]++b)) G=.ret (.bool (p i)) G'∧Zp G G' [])(y f d r)(x:X)(m:Nat)(tm:TM)(H:Zc)(hI:IXV H0 v ls.length (.func q a b) p m tm H):
  ∃o Yp H',KX ⟨ZG (LK Zo fs fuel k) fs fuel n,y,f,d,r⟩ tm H x=.ok o Yp H' x∧((o=.normal∧ ∃k,k<m∧IXV H0 v ls.length (.func q a b) p k Yp H')∨(o≠.normal∧Zp H0 H' []∧((o=.exit 0∧Ma p ls.length=.int .i64 (.negSucc 0))∨(o=.ret∧XG Yp=Ma p ls.length)))):=by
 obtain⟨⟨i,t8,hi,rfl,hf⟩,t0,t1,t7,k0⟩:=hI
 simp only[Ct] at t8
 have KQ:=t0;have Px:=t1;have t7':=t7
 simp only[Pi,PO,ek] at t0 t1 t7
 by_cases Y6:i<ls.length
 ·have d1:decide (i<ls.length)=true:=Ze Y6
  obtain⟨b',o',r',eI,hb,gb,eL,_⟩:=(h.keep0 k0).at_ Y6
  obtain⟨G',eC,kC⟩:=hp i Y6 H k0
  cases wQ:p i with
  |true=>
   rw[wQ] at eC
   simp only[t0,t1,t7,t8,d1,eI,gb,eL,eC,ZO,KX,Zu,ZX,Zw,Yf]
   refine⟨_,_,_,rfl,?_⟩
   exact .inr ⟨by simp,k0.trans kC (by simp),.inr ⟨rfl,by unfold Ma;rw[A3 Y6 hf wQ];rfl⟩⟩
  |false=>
   rw[wQ] at eC
   simp(disch:=omega) only[t0,t1,t7,t8,d1,eI,gb,eL,eC,ZO,YQ,KX,Zu,ZX,Zw,Yf]
   exact⟨_,_,_,rfl,.inl ⟨rfl,ls.length - (i+1),by omega,⟨i+1,rfl,by omega,rfl,λj hj=>by
    by_cases e:j=i
    ·subst e;exact wQ
    ·exact hf j (by omega)⟩,KQ,Px,t7',k0.trans kC (by simp)⟩⟩
 ·have d1:decide (i<ls.length)=false:=Za Y6
  simp only[t7,t8,d1,ZO,KX,Zu,ZX,Yf]
  refine⟨_,_,_,rfl,?_⟩
  exact .inr ⟨by simp,k0,.inl ⟨rfl,by unfold Ma;rw[A1 λj hj=>hf j (by omega)]⟩⟩
theorem ixV(E:Env Zo fs fuel){q:Nat}{v:AV}{ls:List (List AV)}{a b:List AV}(h:Sl H 6 v ls)(hl:ls.length<=9000){p:Nat->Bool}
  (hp: ∀i,i<ls.length-> ∀G,Zp H G []-> ∃G',ZG (LK Zo fs fuel k) fs fuel n q (a++([.agg (ls.getD i [])]++b)) G=.ret (.bool (p i)) G'∧Zp G G' []):
  ∃H',ZG (LK Zo fs fuel k) fs fuel (n+1) 171 [v,.func q a b] H=.ret (Ma p ls.length) H'∧Zp H H' []:=by
 rw[ZF (ZB E.n171 (.inr rfl) _ _) E.f171]
 have el:=h.len
 simp only[el,Zfg,Zu,ZX,Yf]
 generalize hL:WR (KX _) fuel _ _ _=L
 obtain⟨o,SY,H1,rfl,_,k1,hq⟩:=Y9 (P:=λT=>IXV H v ls.length (.func q a b) p ls.length T H) (Q:=λo tm H'=>Zp H H' []∧((o=.exit 0∧Ma p ls.length=.int .i64 (.negSucc 0))∨(o=.ret∧XG tm=Ma p ls.length)))
  (λT R0=>Xk (IXV H v ls.length (.func q a b) p) (λo tm H'=>Zp H H' []∧((o=.exit 0∧Ma p ls.length=.int .i64 (.negSucc 0))∨(o=.ret∧XG tm=Ma p ls.length))) (λm tm H' h'=>dy E h hl hp _ _ _ _ _ m tm H' h') fuel ls.length T H (by have:=E.big;omega) R0) hL
  ⟨⟨0,rfl,Z1 _,rfl,λj hj=>by omega⟩,rfl,rfl,rfl,Zp.refl _ _⟩
 rcases hq with⟨rfl,e⟩|⟨rfl,e⟩
 ·rw[e]
  simp only[Zu,ZX,Zw,Yf]
  refine⟨_,rfl,?_⟩
  exact k1
 ·simp only[Ah] at e
  simp only[e,Zu,Zw,Yf]
  refine⟨_,rfl,?_⟩
  exact k1
theorem cfV(E:Env Zo fs fuel){q:Nat}{v:AV}{ls:List (List AV)}{a b:List AV}(h:Sl H 6 v ls)(hl:ls.length<=9000){p:Nat->Bool}
  (hp: ∀i,i<ls.length-> ∀G,Zp H G []-> ∃G',ZG (LK Zo fs fuel k) fs fuel n q (a++([.agg (ls.getD i [])]++b)) G=.ret (.bool (p i)) G'∧Zp G G' []):
  ∃H',ZG (LK Zo fs fuel k) fs fuel (n+2) 127 [v,.func q a b] H=.ret (.bool ((List.range ls.length).any p)) H'∧Zp H H' []:=by
 rw[ZF (ZB E.n127 (.inr rfl) _ _) E.f127]
 obtain⟨H1,e1,k1⟩:=ixV E h hl hp
 simp only[e1,ni,Ze6,Zu,ZX,Zw,Yf]
 refine⟨_,rfl,?_⟩
 exact k1
structure IXE(H0:Zc)(v:AV)(len:Nat)(pf:AV)(p:Nat->Bool)(m:Nat)(tm:TM)(H:Zc):Prop where
 i: ∃i,Wk tm=nI .i64 i∧i<=len∧m=len - i∧ ∀j,j<i->p j=false
 t0:Z4 tm=v
 t1:Xz tm=pf
 t7:Vk tm=nI .i64 len
 k:Zp H0 H []
theorem dx(E:Env Zo fs fuel){q:Nat}{v:AV}{ls:List (List AV)}{a b:List AV}(h:Sl H0 7 v ls)(hl:ls.length<=9000){p:Nat->Bool}
  (hp: ∀i,i<ls.length-> ∀G,Zp H0 G []-> ∃G',ZG (LK Zo fs fuel k) fs fuel n q (a++([.agg (ls.getD i [])]++b)) G=.ret (.bool (p i)) G'∧Zp G G' [])(y f d r)(x:X)(m:Nat)(tm:TM)(H:Zc)(hI:IXE H0 v ls.length (.func q a b) p m tm H):
  ∃o Yp H',KY ⟨ZG (LK Zo fs fuel k) fs fuel n,y,f,d,r⟩ tm H x=.ok o Yp H' x∧((o=.normal∧ ∃k,k<m∧IXE H0 v ls.length (.func q a b) p k Yp H')∨(o≠.normal∧Zp H0 H' []∧((o=.exit 0∧Ma p ls.length=.int .i64 (.negSucc 0))∨(o=.ret∧XG Yp=Ma p ls.length)))):=by
 obtain⟨⟨i,t8,hi,rfl,hf⟩,t0,t1,t7,k0⟩:=hI
 simp only[Ct] at t8
 have KQ:=t0;have Px:=t1;have t7':=t7
 simp only[Pi,PO,ek] at t0 t1 t7
 by_cases Y6:i<ls.length
 ·have d1:decide (i<ls.length)=true:=Ze Y6
  obtain⟨b',o',r',eI,hb,gb,eL,_⟩:=(h.keep0 k0).at_ Y6
  obtain⟨G',eC,kC⟩:=hp i Y6 H k0
  cases wQ:p i with
  |true=>
   rw[wQ] at eC
   simp only[t0,t1,t7,t8,d1,eI,gb,eL,eC,ZO,KY,Zu,ZX,Zw,Yf]
   refine⟨_,_,_,rfl,?_⟩
   exact .inr ⟨by simp,k0.trans kC (by simp),.inr ⟨rfl,by unfold Ma;rw[A3 Y6 hf wQ];rfl⟩⟩
  |false=>
   rw[wQ] at eC
   simp(disch:=omega) only[t0,t1,t7,t8,d1,eI,gb,eL,eC,ZO,YQ,KY,Zu,ZX,Zw,Yf]
   exact⟨_,_,_,rfl,.inl ⟨rfl,ls.length - (i+1),by omega,⟨i+1,rfl,by omega,rfl,λj hj=>by
    by_cases e:j=i
    ·subst e;exact wQ
    ·exact hf j (by omega)⟩,KQ,Px,t7',k0.trans kC (by simp)⟩⟩
 ·have d1:decide (i<ls.length)=false:=Za Y6
  simp only[t7,t8,d1,ZO,KY,Zu,ZX,Yf]
  refine⟨_,_,_,rfl,?_⟩
  exact .inr ⟨by simp,k0,.inl ⟨rfl,by unfold Ma;rw[A1 λj hj=>hf j (by omega)]⟩⟩
theorem ixE(E:Env Zo fs fuel){q:Nat}{v:AV}{ls:List (List AV)}{a b:List AV}(h:Sl H 7 v ls)(hl:ls.length<=9000){p:Nat->Bool}
  (hp: ∀i,i<ls.length-> ∀G,Zp H G []-> ∃G',ZG (LK Zo fs fuel k) fs fuel n q (a++([.agg (ls.getD i [])]++b)) G=.ret (.bool (p i)) G'∧Zp G G' []):
  ∃H',ZG (LK Zo fs fuel k) fs fuel (n+1) 172 [v,.func q a b] H=.ret (Ma p ls.length) H'∧Zp H H' []:=by
 rw[ZF (ZB E.n172 (.inr rfl) _ _) E.f172]
 have el:=h.len
 simp only[el,Zfh,Zu,ZX,Yf]
 generalize hL:WR (KY _) fuel _ _ _=L
 obtain⟨o,SY,H1,rfl,_,k1,hq⟩:=Y9 (P:=λT=>IXE H v ls.length (.func q a b) p ls.length T H) (Q:=λo tm H'=>Zp H H' []∧((o=.exit 0∧Ma p ls.length=.int .i64 (.negSucc 0))∨(o=.ret∧XG tm=Ma p ls.length)))
  (λT R0=>Xk (IXE H v ls.length (.func q a b) p) (λo tm H'=>Zp H H' []∧((o=.exit 0∧Ma p ls.length=.int .i64 (.negSucc 0))∨(o=.ret∧XG tm=Ma p ls.length))) (λm tm H' h'=>dx E h hl hp _ _ _ _ _ m tm H' h') fuel ls.length T H (by have:=E.big;omega) R0) hL
  ⟨⟨0,rfl,Z1 _,rfl,λj hj=>by omega⟩,rfl,rfl,rfl,Zp.refl _ _⟩
 rcases hq with⟨rfl,e⟩|⟨rfl,e⟩
 ·rw[e]
  simp only[Zu,ZX,Zw,Yf]
  refine⟨_,rfl,?_⟩
  exact k1
 ·simp only[Ah] at e
  simp only[e,Zu,Zw,Yf]
  refine⟨_,rfl,?_⟩
  exact k1
theorem cfE(E:Env Zo fs fuel){q:Nat}{v:AV}{ls:List (List AV)}{a b:List AV}(h:Sl H 7 v ls)(hl:ls.length<=9000){p:Nat->Bool}
  (hp: ∀i,i<ls.length-> ∀G,Zp H G []-> ∃G',ZG (LK Zo fs fuel k) fs fuel n q (a++([.agg (ls.getD i [])]++b)) G=.ret (.bool (p i)) G'∧Zp G G' []):
  ∃H',ZG (LK Zo fs fuel k) fs fuel (n+2) 130 [v,.func q a b] H=.ret (.bool ((List.range ls.length).any p)) H'∧Zp H H' []:=by
 rw[ZF (ZB E.n130 (.inr rfl) _ _) E.f130]
 obtain⟨H1,e1,k1⟩:=ixE E h hl hp
 simp only[e1,ni,Ze9,Zu,ZX,Zw,Yf]
 refine⟨_,rfl,?_⟩
 exact k1
theorem gi(k:Nat)(b:Bool)(n:Int)(s:List UInt8)(l:List JV)(m:List (List UInt8×JV)):JV.apart (.mk k b n s l m)=JV.apartL k b n s l.length m.length:=rfl
theorem mL(f:JV->Bool)(seen:List (List UInt8))(m:List (List UInt8×JV))(i:Nat)(h:i<m.length):JV.badM f seen (m.drop i)=(decide ((m.getD i default).1∈seen)||!vu (m.getD i default).1||f (m.getD i default).2||JV.badM f (seen++[(m.getD i default).1]) (m.drop (i+1))):=by
 rw[Xs h,Zf,Zi h];rfl
theorem sj{m:List (List UInt8×JV)}(h:i<m.length):(m.take (i+1)).map (·.1)=(m.take i).map (·.1)++[(m.getD i default).1]:=by
 rw[TW,Zi h,Xo,Zf,Zi h];rfl
structure WM(H0:Zc)(d:Nat)(cs:List AV)(mv:AV)(mm:List (List UInt8×JV))(m:Nat)(tm:TM)(H:Zc):Prop where
 i: ∃i,UI tm=nI .i64 i∧i<=mm.length∧m=mm.length - i∧JV.badM (JV.wrong d) [] mm=JV.badM (JV.wrong d) ((mm.take i).map (·.1)) (mm.drop i)∧ ∃es q,H.t.get (H0.nx+2)=some (.map es q)∧Seen es ((mm.take i).map (·.1))
 t2:Wc tm=.ptr H0.nx 0
 t3:W6 tm=.ptr (H0.nx+1) 0
 t5:Wp tm=.map (H0.nx+2)
 t31:VO tm=mv
 t32:Sb tm=nI .i64 mm.length
 k:Zp H0 H []
 n:H0.nx+3<=H.nx
 g0:H.t.get H0.nx=some (rH 27 cs)
 g1:H.t.get (H0.nx+1)=some (rH 3 [nI .i64 (d+1)])
theorem oh(E:Env Zo fs fuel){d:Nat}(hd:d<=100)(ih: ∀{h:Nat} {v:JV} {cs:List AV} {H:Zc},V8 H->H.ro<=H.nx->VR H h v cs-> ∃H',ZG (LK Zo fs fuel 2) fs fuel n 69 [.agg cs,nI .i64 d] H=.ret (.bool (JV.wrong d v)) H'∧Zp H H' []){mv:AV}{mm:List (List UInt8×JV)}{ms:List (List AV)}(g:V8 H0)(YL:H0.ro<=H0.nx)(sm:Sl H0 7 mv ms)(e2:ms.length=mm.length)(hl:mm.length<=9000)
  (hm: ∀i,i<mm.length->(mm.getD i default).1.length<=9000∧ ∃t,ms.getD i []=.str (mm.getD i default).1::t∧VR H0 h (mm.getD i default).2 t)(hn: ∃q,n=q+1)(y f r)(dd)(x:X)(m:Nat)(tm:TM)(H:Zc)(hI:WM H0 d cs mv mm m tm H):
  ∃o Yp H',LQ ⟨ZG (LK Zo fs fuel 2) fs fuel n,y,f,r,dd⟩ tm H x=.ok o Yp H' x∧((o=.normal∧ ∃k,k<m∧WM H0 d cs mv mm k Yp H')∨(o≠.normal∧Zp H0 H' []∧((o=.ret∧XG Yp=.bool true∧JV.badM (JV.wrong d) [] mm=true)∨(o=.exit 0∧JV.badM (JV.wrong d) [] mm=false∧Wc Yp=.ptr H0.nx 0∧W6 Yp=.ptr (H0.nx+1) 0∧H0.nx+3<=H'.nx∧H'.t.get H0.nx=some (rH 27 cs)∧H'.t.get (H0.nx+1)=some (rH 3 [nI .i64 (d+1)]))))):=by
 obtain⟨⟨i,t33,hi,rfl,J9,es,c,gm,I9⟩,t2,t3,t5,t31,t32,k0,B5,g0,g1⟩:=hI
 have mD:=t2;have Di:=t3;have Dj:=t5;have Zhh:=t31;have Zhi:=t32
 simp only[N6,J7,GU,eh,ZdT,ZdU] at t2 t3 t5 t31 t32 t33
 by_cases Y6:i<mm.length
 ·have d1:decide (i<mm.length)=true:=Ze Y6
  obtain⟨b',o',r',eI,hb,gb,eL,_⟩:=(sm.keep0 k0).at_ (i:=i) (by omega)
  obtain⟨hk9,tt,etl,hv⟩:=hm i Y6
  rw[etl] at eL
  rw[mL _ _ _ _ Y6] at J9
  have lW:=hv.len
  generalize hkey:(mm.getD i default).1=key at*
  generalize Zb1:(mm.getD i default).2=vv at*
  obtain⟨HA,hA⟩:=WQ (H.new (rH 124 (.str key::tt)))
  have nJ:HA.nx=H.nx+1:=by rw[<-hA];rfl
  have roA:HA.ro=H0.ro:=by rw[<-hA];exact k0.ro
  have kA:Zp H0 HA []:=by rw[<-hA];exact k0.then_new _
  have ga0:HA.t.get H0.nx=some (rH 27 cs):=by rw[<-hA,ZK (by omega)];exact g0
  have oQ:HA.t.get (H0.nx+1)=some (rH 3 [nI .i64 (d+1)]):=by rw[<-hA,ZK (by omega)];exact g1
  have ga2:HA.t.get (H0.nx+2)=some (.map es c):=by rw[<-hA,ZK (by omega)];exact gm
  have gaN:HA.t.get H.nx=some (rH 124 (.str key::tt)):=by rw[<-hA,ZC rfl]
  have lk:=λ(G:Zc)=>uq (c:=c) I9 key G
  have hBt: ∀(G:Zc),G.ro<=H.nx->FG 7 (some (rH 124 [.str [],nI .i64 0,.bool false,nI .i64 0,.str [],.nils,.nils])) H.nx 0 (.agg (.str key::tt)) G=.val YS (G.put H.nx (rH 124 (.str key::tt))):=λG hG=>Xg (n:=7) (l:=[.str [],nI .i64 0,.bool false,nI .i64 0,.str [],.nils,.nils]) (vs:=.str key::tt) (by rfl) (by rw[Zl,lW]) (by omega) hG _ _ _ _
  have eX:(H.new (rH 124 [.str [],nI .i64 0,.bool false,nI .i64 0,.str [],.nils,.nils])).ro<=H.nx:=by show H.ro<=_;rw[k0.ro];omega
  have hB:=hBt _ eX
  rw[Vb rfl,hA] at hB
  have ldt: ∀(G:Zc),ldN 6 (some (rH 124 (.str key::tt))) 1 G=.val (.agg tt) G:=λG=>by
   rw[WV (by rw[Zl,lW];omega)]
   congr 2
   rw[Ve,Ye,ZM (by omega)]
  have ld0: ∀(G:Zc),ld1 (some (rH 124 (.str key::tt))) 0 G=.val (.str key) G:=λG=>by
   rw[ZJ (by rw[Zl];omega)];rfl
  obtain⟨q,rfl⟩:=hn
  by_cases hs:key∈(mm.take i).map (·.1)
  ·rw[if_pos hs] at lk
   have b1:JV.badM (JV.wrong d) [] mm=true:=by rw[J9,Ze hs];rfl
   have dl:decide (0<1)=true:=rfl
   simp only[t5,t31,t32,t33,d1,eI,gb,eL,hB,ga2,gaN,ld0,lk,ZO,YK,Rg,PS,dl,LQ,Zu,ZX,Zw,Zz,Yf,WL]
   refine⟨_,_,_,rfl,?_⟩
   exact .inr ⟨by simp,kA,.inl ⟨rfl,rfl,b1⟩⟩
  ·rw[if_neg hs] at lk
   have dl:decide (0<0)=false:=rfl
   have ev:=λ{j}=>ZlC E (k:=2) (n:=j) (by decide) (s:=key) (H:=HA) (g.keep0 kA) (by omega) (by omega)
   cases hvu:vu key with
   |false=>
    rw[hvu] at ev
    have b1:JV.badM (JV.wrong d) [] mm=true:=by rw[J9,hvu];simp
    simp only[t5,t31,t32,t33,d1,eI,gb,eL,hB,ga2,gaN,ld0,lk,ZO,YK,Rg,PS,dl,ev,LQ,Zu,ZX,Zw,Zz,Yf,WL]
    refine⟨_,_,_,rfl,?_⟩
    exact .inr ⟨by simp,kA,.inl ⟨rfl,rfl,b1⟩⟩
   |true=>
    rw[hvu] at ev
    obtain⟨HC,eC,kC⟩:=ih (g.keep0 kA) (by omega) (hv.keep kA)
    cases hw:JV.wrong d vv with
    |true=>
     rw[hw] at eC
     have b1:JV.badM (JV.wrong d) [] mm=true:=by rw[J9,hw];simp
     simp(disch:=first|assumption|omega|simp only[ZY,ZZ];omega) only[t3,t5,t31,t32,t33,d1,eI,gb,eL,hB,oQ,ga2,gaN,ld0,ldt,lk,ZO,YK,Rg,PS,ZJ,Wy,XF,dl,ev,eC,LQ,Zu,ZX,Zw,Zz,Yf,WL]
     refine⟨_,_,_,rfl,?_⟩
     exact .inr ⟨by simp,kA.trans kC (by simp),.inl ⟨rfl,rfl,b1⟩⟩
    |false=>
     rw[hw] at eC
     rw[Za hs,hvu,hw] at J9
     have kAC:=kA.trans kC (by simp)
     have c0:HC.t.get H0.nx=some (rH 27 cs):=by rw[kC.get _ (by omega) (by simp)];exact ga0
     have c1:HC.t.get (H0.nx+1)=some (rH 3 [nI .i64 (d+1)]):=by rw[kC.get _ (by omega) (by simp)];exact oQ
     have c2:HC.t.get (H0.nx+2)=some (.map es c):=by rw[kC.get _ (by omega) (by simp)];exact ga2
     have cN:HC.t.get H.nx=some (rH 124 (.str key::tt)):=by rw[kC.get _ (by omega) (by simp)];exact gaN
     have up:=su (c:=c) I9 hs (b:=H0.nx+2) (H:=HC) (by rw[kAC.ro];omega)
     have hCn:=kC.nx
     simp(disch:=first|assumption|omega|simp only[ZY,ZZ];omega) only[t3,t5,t31,t32,t33,d1,eI,gb,eL,hB,oQ,ga2,gaN,ld0,ldt,lk,ZO,YK,Rg,PS,MZ,DG,ZJ,Wy,XF,dl,ev,eC,c2,cN,up,YQ,LQ,Zu,ZX,Zw,Zz,Yf,WL]
     refine⟨_,_,_,rfl,?_⟩
     exact .inl ⟨rfl,mm.length - (i+1),by omega,⟨⟨i+1,rfl,by omega,rfl,by rw[sj Y6,hkey];exact J9,_,_,ZS ..,by rw[sj Y6,hkey];exact I9.push key c⟩,mD,Di,Dj,Zhh,Zhi,kAC.then_put (λh=>by omega),by rw[Of];omega,by rw[ZD (by omega)];exact c0,by rw[ZD (by omega)];exact c1⟩⟩
 ·have d1:decide (i<mm.length)=false:=Za Y6
  simp only[t32,t33,d1,ZO,LQ,Zu,ZX,Yf,WL]
  refine⟨_,_,_,rfl,?_⟩
  exact .inr ⟨by simp,k0,.inr ⟨rfl,by rw[J9,Y0 (by omega)];rfl,mD,Di,B5,g0,g1⟩⟩
theorem iP(E:Env Zo fs fuel): ∀(d:Nat),d<=100-> ∀{n:Nat},4*d+10<=n-> ∀{h:Nat} {v:JV} {cs:List AV} {H:Zc},V8 H->H.ro<=H.nx->VR H h v cs-> ∃H',ZG (LK Zo fs fuel 2) fs fuel n 69 [.agg cs,nI .i64 d] H=.ret (.bool (JV.wrong d v)) H'∧Zp H H' []:=by
 intro d
 induction d with
 |zero=>
  intro hd n hn h v cs H g YL hv
  obtain⟨n,rfl⟩: ∃q,n=q+1:=⟨n - 1,by omega⟩
  obtain⟨h,rfl⟩: ∃q,h=q+1:=by cases h with|zero=>exact hv.elim|succ q=>exact⟨q,rfl⟩
  obtain⟨kk,b,z,s,l,m⟩:=v
  obtain⟨lv,mv,ls,ms,rfl, -⟩:=hv
  rw[ZF (ZB E.n69 (.inl (by decide)) _ _) E.f69]
  have d0:decide (0=0)=true:=rfl
  obtain⟨H1,Yo⟩:=WQ (Zc.new H (rH 27 [nI .i64 kk,.bool b,.int .i64 z,.str s,lv,mv]))
  obtain⟨H2,XH⟩:=WQ (Zc.new H1 (rH 3 [nI .i64 0]))
  have VH:H1.nx=H.nx+1:=by rw[<-Yo];rfl
  have nx2:H2.nx=H.nx+1+1:=by rw[<-XH,WJ,VH]
  have k2:Zp H H2 []:=by rw[<-XH,<-Yo];exact(Zp.new H _ _).then_new _
  have ga:H2.t.get H.nx=some (rH 27 [nI .i64 kk,.bool b,.int .i64 z,.str s,lv,mv]):=by rw[<-XH,ZK (by omega),<-Yo,ZC rfl]
  have gb:H2.t.get (H.nx+1)=some (rH 3 [nI .i64 0]):=by rw[<-XH,ZC VH]
  simp(disch:=first|assumption|omega|(simp -implicitDefEqProofs only[ZY,ZZ]<;>first|assumption|omega)|decide) only[Yo,VH,XH,gb,Z2,ZJ,JV.wrong,c69,Zu,ZX,Zw,Zz,Yf]
  refine⟨_,rfl,?_⟩
  exact k2
 |succ d ih=>
  intro hd n hn h v cs H g YL hv
  obtain⟨n,rfl⟩: ∃q,n=q+4:=⟨n - 4,by omega⟩
  obtain⟨h,rfl⟩: ∃q,h=q+1:=by cases h with|zero=>exact hv.elim|succ q=>exact⟨q,rfl⟩
  obtain⟨kk,b,z,s,l,m⟩:=v
  obtain⟨lv,mv,ls,ms,rfl,hz1,Ej,hs9,hl9,hm9,sl,sm,e1,e2,hl,hm⟩:=hv
  rw[ZF (ZB E.n69 (.inl (by decide)) _ _) E.f69]
  obtain⟨H1,Yo⟩:=WQ (Zc.new H (rH 27 [nI .i64 kk,.bool b,.int .i64 z,.str s,lv,mv]))
  obtain⟨H2,XH⟩:=WQ (Zc.new H1 (rH 3 [nI .i64 (d+1)]))
  have VH:H1.nx=H.nx+1:=by rw[<-Yo];rfl
  have nx2:H2.nx=H.nx+1+1:=by rw[<-XH,WJ,VH]
  have k2:Zp H H2 []:=by rw[<-XH,<-Yo];exact(Zp.new H _ _).then_new _
  have ga:H2.t.get H.nx=some (rH 27 [nI .i64 kk,.bool b,.int .i64 z,.str s,lv,mv]):=by rw[<-XH,ZK (by omega),<-Yo,ZC rfl]
  have gb:H2.t.get (H.nx+1)=some (rH 3 [nI .i64 (d+1)]):=by rw[<-XH,ZC VH]
  have ea:=λ{j}=>ZeO E (k:=2) (n:=j) (by decide) (kk:=kk) (b:=b) (z:=z) (s:=s) (H:=H2) sl.len sm.len
  have ev:=λ{j}=>ZlC E (k:=2) (n:=j) (by decide) (s:=s) (H:=H2) (g.keep0 k2) (by rw[k2.ro];omega) (by omega)
  have el:=sm.len
  rw[e1,e2,<-gi kk b z s l m] at ea
  rw[e2] at el
  unfold JV.wrong
  by_cases h1:kk<1
  ·have dd1:decide (kk<1)=true:=Ze h1
   simp(disch:=first|assumption|omega|(simp -implicitDefEqProofs only[ZY,ZZ]<;>first|assumption|omega)|decide) only[Yo,VH,XH,ga,gb,dd1,Z2,ZO,ZJ,c69,Zu,ZX,Zw,Zz,reduceCtorEq,Yf]
   refine⟨_,rfl,?_⟩
   exact k2
  have dd1:decide (kk<1)=false:=Za h1
  by_cases h6:6<kk
  ·have dd6:decide (6<kk)=true:=Ze h6
   simp(disch:=first|assumption|omega|(simp -implicitDefEqProofs only[ZY,ZZ]<;>first|assumption|omega)|decide) only[Yo,VH,XH,ga,gb,dd1,dd6,Z2,ZO,YK,ZJ,c69,Zu,ZX,Zw,Zz,reduceCtorEq,Yf]
   refine⟨_,rfl,?_⟩
   exact k2
  have dd6:decide (6<kk)=false:=Za h6
  cases hap:JV.apart (.mk kk b z s l m) with
  |false=>
   rw[hap] at ea
   simp(disch:=first|assumption|omega|(simp -implicitDefEqProofs only[ZY,ZZ]<;>first|assumption|omega)|decide) only[Yo,VH,XH,ga,gb,dd1,dd6,ea,Z2,ZO,YK,ZJ,WV,Ye,Tc,Um,c69,Zu,ZX,Zw,Zz,reduceCtorEq,Yf]
   refine⟨_,rfl,?_⟩
   exact k2
  |true=>
  rw[hap] at ea
  cases hvu:vu s with
  |false=>
   rw[hvu] at ev
   simp(disch:=first|assumption|omega|(simp -implicitDefEqProofs only[ZY,ZZ]<;>first|assumption|omega)|decide) only[Yo,VH,XH,ga,gb,dd1,dd6,ea,ev,Z2,ZO,YK,ZJ,WV,Ye,Tc,Um,c69,Zu,ZX,Zw,Zz,reduceCtorEq,Yf]
   refine⟨_,rfl,?_⟩
   exact k2
  |true=>
  rw[hvu] at ev
  obtain⟨H3,V9⟩:=WQ (Zc.new H2 (.map [] 0))
  have Fe:H3.nx=H.nx+1+1+1:=by rw[<-V9,WJ,nx2]
  have k3:Zp H H3 []:=by rw[<-V9];exact k2.then_new _
  have gc0:H3.t.get H.nx=some (rH 27 [nI .i64 kk,.bool b,.int .i64 z,.str s,lv,mv]):=by rw[<-V9,ZK (by omega)];exact ga
  have gc1:H3.t.get (H.nx+1)=some (rH 3 [nI .i64 (d+1)]):=by rw[<-V9,ZK (by omega)];exact gb
  have gc2:H3.t.get (H.nx+2)=some (.map [] 0):=by rw[<-V9,ZC nx2]
  simp(disch:=first|assumption|omega|(simp -implicitDefEqProofs only[ZY,ZZ]<;>first|assumption|omega)|decide) only[Yo,VH,XH,nx2,ga,gb,dd1,dd6,ea,ev,V9,gc0,el,Fg,Z2,ZO,YK,ZJ,WV,Ye,Tc,Um,c69,Zu,ZX,Zw,Zz,reduceCtorEq,Yf,WL]
  generalize hL:WR (LQ _) fuel _ _ _=L
  obtain⟨o,SY,H4,rfl,_,k4,hq⟩:=Y9 (P:=λT=>WM H d [nI .i64 kk,.bool b,.int .i64 z,.str s,lv,mv] mv m m.length T H3) (Q:=λo Yp H'=>Zp H H' []∧((o=.ret∧XG Yp=.bool true∧JV.badM (JV.wrong d) [] m=true)∨(o=.exit 0∧JV.badM (JV.wrong d) [] m=false∧Wc Yp=.ptr H.nx 0∧W6 Yp=.ptr (H.nx+1) 0∧H.nx+3<=H'.nx∧H'.t.get H.nx=some (rH 27 [nI .i64 kk,.bool b,.int .i64 z,.str s,lv,mv])∧H'.t.get (H.nx+1)=some (rH 3 [nI .i64 (d+1)]))))
   (λT R0=>Xk (WM H d [nI .i64 kk,.bool b,.int .i64 z,.str s,lv,mv] mv m) _ (λq tm H' h'=>oh E (n:=n+3) (d:=d) (by omega) (λg' r' v'=>ih (by omega) (by omega) g' r' v') g YL sm e2 hm9 hm ⟨n+2,rfl⟩ _ _ _ _ _ q tm H' h') fuel m.length T H3 (by have:=E.big;omega) R0) hL
   ⟨⟨0,rfl,Z1 _,rfl,rfl,[],0,gc2,Seen.nil⟩,rfl,rfl,rfl,rfl,rfl,k3,by omega,gc0,gc1⟩
  rcases hq with⟨rfl,e4,J9⟩|⟨rfl,J9,e2',e3',lT,g4,g5⟩
  ·simp only[Ah] at e4
   rw[J9]
   simp only[e4,Zu,Zw,Yf]
   simp only[Bool.or_true,UO]
   refine⟨_,rfl,?_⟩
   exact k4
  ·simp only[N6,J7] at e2' e3'
   rw[J9]
   have hcf:=cfV E (k:=2) (n:=n+1) (q:=128) (a:=[]) (b:=[.ptr (H.nx+1) 0]) (sl.keep0 k4) (by omega) (p:=λi=>JV.wrong d (l.getD i default)) (λi hi G kG=>by
    have kk0:=k4.trans kG (by simp)
    have g5':G.t.get (H.nx+1)=some (rH 3 [nI .i64 (d+1)]):=by rw[kG.get _ (by omega) (by simp)];exact g5
    rw[Xp,Ti,ZF (ZB E.n128 (.inr rfl) _ _) E.f128]
    have hv:=(hl i (by omega)).keep kk0
    have hlen:=hv.len
    obtain⟨H7,Is⟩:=WQ (Zc.new G (rH 27 (ls.getD i [])))
    have g7:H7.t.get G.nx=some (rH 27 (ls.getD i [])):=by rw[<-Is,ZC rfl]
    have g7':H7.t.get (H.nx+1)=some (rH 3 [nI .i64 (d+1)]):=by rw[<-Is,ZK (by have:=kG.nx;omega)];exact g5'
    have k7:Zp G H7 []:=by rw[<-Is];exact Zp.new _ _ _
    obtain⟨H8,e8,k8⟩:=ih (by omega) (n:=n) (by omega) (g.keep0 (kk0.trans k7 (by simp))) (by rw[k7.ro,kk0.ro];have:=kk0.nx;have:=k7.nx;omega) (hv.keep k7)
    have ldx: ∀(G':Zc),ldN 6 (some (rH 27 (ls.getD i []))) 0 G'=.val (.agg (ls.getD i [])) G':=λG'=>by
     rw[WV (by omega)];congr 2;rw[Ye,ZM (by omega)]
    have bx:=VW (l:=ls.getD i []) (by omega) 27 G
    rw[Is] at bx
    simp(disch:=first|omega|simp only[ZY,ZZ]<;>omega) only[bx,g7,g7',ldx,ZJ,Wy,XF,e8,Ze7,Zu,ZX,Zw,Zz,Yf]
    exact⟨_,rfl,k7.trans k8 (by simp)⟩)
   obtain⟨H9,e9,k9⟩:=hcf
   rw[show(List.range ls.length).any (λi=>JV.wrong d (l.getD i default))=l.any (JV.wrong d) by rw[e1];exact Gv l _] at e9
   simp(disch:=first|omega|simp only[ZY,ZZ]<;>omega) only[e2',e3',g4,ZJ,e9,Zu,ZX,Zw,Zz,Yf,WL]
   simp only[Bool.or_false,WN,]
   refine⟨_,rfl,?_⟩
   exact k4.trans k9 (by simp)
theorem fm(E:Env Zo fs fuel): ∀(d:Nat),d<=100-> ∀{n:Nat},4*d+10<=n-> ∀{h:Nat} {v:JV} {cs:List AV} {H:Zc},VR H h v cs-> ∃H',ZG (LK Zo fs fuel 2) fs fuel n 70 [.agg cs,nI .i64 d] H=.ret (.bool (JV.deep d v)) H'∧Zp H H' []:=by
 intro d
 induction d with
 |zero=>
  intro hd n hn h v cs H hv
  obtain⟨n,rfl⟩: ∃q,n=q+1:=⟨n - 1,by omega⟩
  obtain⟨h,rfl⟩: ∃q,h=q+1:=by cases h with|zero=>exact hv.elim|succ q=>exact⟨q,rfl⟩
  obtain⟨kk,b,z,s,l,m⟩:=v
  obtain⟨lv,mv,ls,ms,rfl, -⟩:=hv
  rw[ZF (ZB E.n70 (.inl (by decide)) _ _) E.f70]
  have d0:decide (0=0)=true:=rfl
  obtain⟨H1,Yo⟩:=WQ (Zc.new H (rH 27 [nI .i64 kk,.bool b,.int .i64 z,.str s,lv,mv]))
  obtain⟨H2,XH⟩:=WQ (Zc.new H1 (rH 3 [nI .i64 0]))
  have VH:H1.nx=H.nx+1:=by rw[<-Yo];rfl
  have nx2:H2.nx=H.nx+1+1:=by rw[<-XH,WJ,VH]
  have k2:Zp H H2 []:=by rw[<-XH,<-Yo];exact(Zp.new H _ _).then_new _
  have ga:H2.t.get H.nx=some (rH 27 [nI .i64 kk,.bool b,.int .i64 z,.str s,lv,mv]):=by rw[<-XH,ZK (by omega),<-Yo,ZC rfl]
  have gb:H2.t.get (H.nx+1)=some (rH 3 [nI .i64 0]):=by rw[<-XH,ZC VH]
  simp(disch:=first|assumption|omega|(simp -implicitDefEqProofs only[ZY,ZZ]<;>first|assumption|omega)|decide) only[Yo,VH,XH,gb,Z2,ZJ,JV.deep,c70,Zu,ZX,Zw,Zz,Yf]
  refine⟨_,rfl,?_⟩
  exact k2
 |succ d ih=>
  intro hd n hn h v cs H hv
  obtain⟨n,rfl⟩: ∃q,n=q+4:=⟨n - 4,by omega⟩
  obtain⟨h,rfl⟩: ∃q,h=q+1:=by cases h with|zero=>exact hv.elim|succ q=>exact⟨q,rfl⟩
  obtain⟨kk,b,z,s,l,m⟩:=v
  obtain⟨lv,mv,ls,ms,rfl,hz1,Ej,hs9,hl9,hm9,sl,sm,e1,e2,hl,hm⟩:=hv
  rw[ZF (ZB E.n70 (.inl (by decide)) _ _) E.f70]
  obtain⟨H1,Yo⟩:=WQ (Zc.new H (rH 27 [nI .i64 kk,.bool b,.int .i64 z,.str s,lv,mv]))
  obtain⟨H2,XH⟩:=WQ (Zc.new H1 (rH 3 [nI .i64 (d+1)]))
  have VH:H1.nx=H.nx+1:=by rw[<-Yo];rfl
  have nx2:H2.nx=H.nx+1+1:=by rw[<-XH,WJ,VH]
  have k2:Zp H H2 []:=by rw[<-XH,<-Yo];exact(Zp.new H _ _).then_new _
  have ga:H2.t.get H.nx=some (rH 27 [nI .i64 kk,.bool b,.int .i64 z,.str s,lv,mv]):=by rw[<-XH,ZK (by omega),<-Yo,ZC rfl]
  have gb:H2.t.get (H.nx+1)=some (rH 3 [nI .i64 (d+1)]):=by rw[<-XH,ZC VH]
  obtain⟨H4,eV,k4'⟩:=cfV E (k:=2) (n:=n+1) (q:=129) (a:=[]) (b:=[.ptr (H.nx+1) 0]) (sl.keep0 k2) (by omega) (p:=λi=>JV.deep d (l.getD i default)) (λi hi G kG=>by
   have kk0:=k2.trans kG (by simp)
   have g5':G.t.get (H.nx+1)=some (rH 3 [nI .i64 (d+1)]):=by rw[kG.get _ (by omega) (by simp)];exact gb
   rw[Xp,Ti,ZF (ZB E.n129 (.inr rfl) _ _) E.f129]
   have hv:=(hl i (by omega)).keep kk0
   have hlen:=hv.len
   obtain⟨H7,Is⟩:=WQ (Zc.new G (rH 27 (ls.getD i [])))
   have g7:H7.t.get G.nx=some (rH 27 (ls.getD i [])):=by rw[<-Is,ZC rfl]
   have ldx: ∀(G':Zc),ldN 6 (some (rH 27 (ls.getD i []))) 0 G'=.val (.agg (ls.getD i [])) G':=λG'=>by
    rw[WV (by omega)];congr 2;rw[Ye,ZM (by omega)]
   have bx:=VW (l:=ls.getD i []) (by omega) 27 G
   have g7':H7.t.get (H.nx+1)=some (rH 3 [nI .i64 (d+1)]):=by rw[<-Is,ZK (by have:=kG.nx;omega)];exact g5'
   have k7:Zp G H7 []:=by rw[<-Is];exact Zp.new _ _ _
   obtain⟨H8,e8,k8⟩:=ih (by omega) (n:=n) (by omega) (hv.keep k7)
   rw[Is] at bx
   simp(disch:=first|omega|simp only[ZY,ZZ]<;>omega) only[bx,g7,g7',ldx,ZJ,Wy,XF,e8,Ze8,Zu,ZX,Zw,Zz,Yf]
   exact⟨_,rfl,k7.trans k8 (by simp)⟩)
  rw[show(List.range ls.length).any (λi=>JV.deep d (l.getD i default))=l.any (JV.deep d) by rw[e1];exact Gv l _] at eV
  have k4:=k2.trans k4' (by simp)
  have n4:=k4'.nx
  have g4:H4.t.get H.nx=some (rH 27 [nI .i64 kk,.bool b,.int .i64 z,.str s,lv,mv]):=by rw[k4'.get _ (by omega) (by simp)];exact ga
  have g5:H4.t.get (H.nx+1)=some (rH 3 [nI .i64 (d+1)]):=by rw[k4'.get _ (by omega) (by simp)];exact gb
  unfold JV.deep
  cases hL:l.any (JV.deep d) with
  |true=>
   rw[hL] at eV
   simp(disch:=first|assumption|omega|(simp -implicitDefEqProofs only[ZY,ZZ]<;>first|assumption|omega)|decide) only[Yo,VH,XH,ga,gb,Z2,ZJ,eV,UO,c70,Zu,ZX,Zw,Zz,reduceCtorEq,Yf]
   refine⟨_,rfl,?_⟩
   exact k4
  |false=>
   rw[hL] at eV
   obtain⟨H5,eE,k5⟩:=cfE E (k:=2) (n:=n+1) (q:=131) (a:=[]) (b:=[.ptr (H.nx+1) 0]) (sm.keep0 k4) (by omega) (p:=λi=>JV.deep d (m.getD i default).2) (λi hi G kG=>by
    have kk0:=k4.trans kG (by simp)
    have g5':G.t.get (H.nx+1)=some (rH 3 [nI .i64 (d+1)]):=by rw[kG.get _ (by omega) (by simp)];exact g5
    rw[Xp,Ti,ZF (ZB E.n131 (.inr rfl) _ _) E.f131]
    obtain⟨hk9,tt,etl,hv⟩:=hm i (by omega)
    have hv:=hv.keep kk0
    have hlen:=hv.len
    obtain⟨H7,Is⟩:=WQ (Zc.new G (rH 124 (.str (m.getD i default).1::tt)))
    have g7:H7.t.get G.nx=some (rH 124 (.str (m.getD i default).1::tt)):=by rw[<-Is,ZC rfl]
    have ldx: ∀(G':Zc),ldN 6 (some (rH 124 (.str (m.getD i default).1::tt))) 1 G'=.val (.agg tt) G':=λG'=>by
     rw[WV (by rw[Zl];omega)];congr 2;rw[Ve,Ye,ZM (by omega)]
    have bx:=VW (l:=.str (m.getD i default).1::tt) (by rw[Zl];omega) 124 G
    rw[etl]
    have g7':H7.t.get (H.nx+1)=some (rH 3 [nI .i64 (d+1)]):=by rw[<-Is,ZK (by have:=kG.nx;omega)];exact g5'
    have k7:Zp G H7 []:=by rw[<-Is];exact Zp.new _ _ _
    obtain⟨H8,e8,k8⟩:=ih (by omega) (n:=n) (by omega) (hv.keep k7)
    rw[Is] at bx
    simp(disch:=first|omega|simp only[ZY,ZZ]<;>omega) only[bx,g7,g7',ldx,ZJ,Wy,XF,e8,Zfa,Zu,ZX,Zw,Zz,Yf]
    exact⟨_,rfl,k7.trans k8 (by simp)⟩)
   rw[show(List.range ms.length).any (λi=>JV.deep d (m.getD i default).2)=m.any (λe=>JV.deep d e.2) by rw[e2];exact Gv m λe=>JV.deep d e.2] at eE
   simp(disch:=first|assumption|omega|(simp -implicitDefEqProofs only[ZY,ZZ]<;>first|assumption|omega)|decide) only[Yo,VH,XH,ga,gb,g4,Z2,ZJ,eV,eE,WN,c70,Zu,ZX,Zw,Zz,reduceCtorEq,Yf]
   refine⟨_,rfl,?_⟩
   exact k4.trans k5 (by simp)
theorem Zht(E:Env Zo fs fuel)(hk:3<=k){v:JV}(g:V8 H)(YL:H.ro<=H.nx)(hv:VR H h v cs):ZG (LK Zo fs fuel k) fs fuel (n+1) 69 [.agg cs,nI .i64 32] H=.ret (.bool (JV.wrong 32 v)) H:=by
 obtain⟨H',e,g⟩:=iP E 32 (by omega) (n:=900) (by omega) g YL hv
 exact Xd (r:=2) rfl rfl e g rfl hk
theorem Zih(E:Env Zo fs fuel)(hk:3<=k){v:JV}(hv:VR H h v cs):ZG (LK Zo fs fuel k) fs fuel (n+1) 70 [.agg cs,nI .i64 32] H=.ret (.bool (JV.deep 32 v)) H:=by
 obtain⟨H',e,g⟩:=fm E 32 (by omega) (n:=900) (by omega) hv
 exact Xd (r:=2) rfl rfl e g rfl hk
theorem sV(E:Env Zo fs fuel){v:JV}(g:V8 H)(YL:H.ro<=H.nx)(hv:VR H h v cs):
  ∃H',ZG (LK Zo fs fuel 3) fs fuel (n+2) 20 [.agg cs] H=.ret (nI .i64 (JV.check v)) H'∧Zp H H' []:=by
 rw[ZF (ZB E.n20 (.inl (by decide)) _ _) E.f20]
 have hlen:=hv.len
 obtain⟨H1,Yo⟩:=WQ (Zc.new H (rH 27 cs))
 have g1:H1.t.get H.nx=some (rH 27 cs):=by rw[<-Yo,ZC rfl]
 have k1:Zp H H1 []:=by rw[<-Yo];exact Zp.new H _ _
 have ldx: ∀(G':Zc),ldN 6 (some (rH 27 cs)) 0 G'=.val (.agg cs) G':=λG'=>by
  rw[WV (by omega)];congr 2;rw[Ye,ZM (by omega)]
 have bx:=VW (l:=cs) (by omega) 27 H
 rw[Yo] at bx
 have ew:=λ{j}=>Zht E (k:=3) (n:=j) (by decide) (g.keep0 k1) (by rw[k1.ro];have:=k1.nx;omega) (hv.keep k1)
 have ed:=λ{j}=>Zih E (k:=3) (n:=j) (by decide) (hv.keep k1)
 unfold JV.check
 cases hw:JV.wrong 32 v with
 |true=>
  rw[hw] at ew
  simp only[bx,g1,ldx,ew,if_true,c20,Zu,ZX,Zw,Yf]
  refine⟨_,rfl,?_⟩
  exact k1
 |false=>
  rw[hw] at ew
  cases hd:JV.deep 32 v with
  |true=>
   rw[hd] at ed
   simp only[bx,g1,ldx,ew,ed,if_true,YO,if_false,c20,Zu,ZX,Zw,Yf]
   refine⟨_,rfl,?_⟩
   exact k1
  |false=>
   rw[hd] at ed
   simp only[bx,g1,ldx,ew,ed,YO,if_false,c20,Zu,ZX,Zw,Yf]
   refine⟨_,rfl,?_⟩
   exact k1
theorem Zft(E:Env Zo fs fuel)(hk:4<=k){v:JV}(g:V8 H)(YL:H.ro<=H.nx)(hv:VR H h v cs):
  ZG (LK Zo fs fuel k) fs fuel (n+1) 20 [.agg cs] H=.ret (nI .i64 (JV.check v)) H:=by
 obtain⟨H',e,g⟩:=sV E (n:=898) (H:=H) g YL hv
 exact Xd (r:=3) rfl rfl e g (rfl) hk
def JY(a b:List UInt8):AV:=if YD a b=true then .int .i64 (.negSucc 0) else if YD b a=true then nI .i64 1 else nI .i64 0
theorem Zbm(a b:List UInt8)(H:Zc):P6 XY YD (JY a b) (nI .i64 0) H=.val (.bool (YD a b)) H:=by
 unfold JY
 split
 ·rename_i h;rw[h];rfl
 ·rename_i h
  rw[Bool.eq_false_iff.2 h]
  split<;>rfl
theorem xa(a b:List UInt8)(H:Zc):P6 XY YD (.str a) (.str b) H=.val (.bool (YD a b)) H:=by
 show SE (YD a b) H=_
 cases YD a b<;>rfl
theorem oC(a b:List UInt8)(H:Zc):P6 OA SX (.str a) (.str b) H=.val (.bool (YD b a)) H:=by
 show SE (YD b a) H=_
 cases YD b a<;>rfl
theorem re(a:List UInt8)(H:Zc):LV Lt true (.str a) (.str a) H=.val (.bool false) H:=by
 rw[GI,Ze rfl];rfl
theorem l5(E:Env Zo fs fuel):
  ∃H',ZG (LK Zo fs fuel 0) fs fuel (n+2) 123 [.str s] H=.ret (.bool false) H'∧Zp H H' []:=by
 rw[ZF (ZB E.n123 (.inl (by decide)) _ _) E.f123]
 simp only[re,Ze3,Zu,ZX,Zw,Yf]
 refine⟨_,rfl,?_⟩
 exact Zp.refl _ _
theorem Zek(E:Env Zo fs fuel)(hk:1<=k):
  ZG (LK Zo fs fuel k) fs fuel (n+1) 123 [.str s] H=.ret (.bool false) H:=by
 obtain⟨H',e,g⟩:=l5 E (n:=898) (H:=H)
 exact Xd (r:=0) rfl rfl e g (rfl) hk
theorem xb(E:Env Zo fs fuel){a b:List UInt8}:
  ∃H',ZG (LK Zo fs fuel 1) fs fuel (n+3) 64 [.str a,.str b] H=.ret (JY a b) H'∧Zp H H' []:=by
 rw[ZF (ZB E.n64 (.inl (by decide)) _ _) E.f64]
 have n1:=λ{j}=>Zek E (k:=1) (n:=j) (by decide) (s:=a) (H:=H)
 have n2:=λ{j}=>Zek E (k:=1) (n:=j) (by decide) (s:=b) (H:=H)
 unfold JY
 cases h1:YD a b with
 |true=>
  simp only[n1,n2,h1,xa,if_true,c64,Zu,ZX,Zw,Yf]
  refine⟨_,rfl,?_⟩
  exact Zp.refl _ _
 |false=>
  cases h2:YD b a with
  |true=>
   simp only[n1,n2,h1,h2,xa,oC,if_true,YO,if_false,c64,Zu,ZX,Zw,Yf]
   refine⟨_,rfl,?_⟩
   exact Zp.refl _ _
  |false=>
   simp only[n1,n2,h1,h2,xa,oC,YO,if_false,c64,Zu,ZX,Zw,Yf]
   refine⟨_,rfl,?_⟩
   exact Zp.refl _ _
theorem vC(E:Env Zo fs fuel)(hk:2<=k){a b:List UInt8}:
  ZG (LK Zo fs fuel k) fs fuel (n+1) 64 [.str a,.str b] H=.ret (JY a b) H:=by
 obtain⟨H',e,g⟩:=xb E (n:=897) (H:=H)
 exact Xd (r:=1) rfl rfl e g (by unfold JY;split;rfl;split<;>rfl) hk
theorem fc(E:Env Zo fs fuel){a b:List UInt8}{t u:List AV}(ht:t.length=6)(hu:u.length=6):
  ∃H',ZG (LK Zo fs fuel 2) fs fuel (n+3) 114 [.agg (.str a::t),.agg (.str b::u)] H=.ret (JY a b) H'∧Zp H H' []:=by
 rw[ZF (ZB E.n114 (.inl (by decide)) _ _) E.f114]
 obtain⟨H1,Yo⟩:=WQ (H.new (rH 124 (.str a::t)))
 have bx:=VW (l:=.str a::t) (by rw[Zl];omega) 124 H
 rw[Yo] at bx
 have VH:H1.nx=H.nx+1:=by rw[<-Yo];rfl
 have g1:H1.t.get H.nx=some (rH 124 (.str a::t)):=by rw[<-Yo,ZC rfl]
 obtain⟨H2,XH⟩:=WQ (H1.new (rH 124 (.str b::u)))
 have Z3:=VW (l:=.str b::u) (by rw[Zl];omega) 124 H1
 rw[XH,VH] at Z3
 have g2:H2.t.get H.nx=some (rH 124 (.str a::t)):=by rw[<-XH,ZK (by omega)];exact g1
 have g3:H2.t.get (H.nx+1)=some (rH 124 (.str b::u)):=by rw[<-XH,ZC VH]
 have l2: ∀G:Zc,ld1 (some (rH 124 (.str a::t))) 0 G=.val (.str a) G:=λG=>by rw[ZJ (by rw[Zl];omega)];rfl
 have l3: ∀G:Zc,ld1 (some (rH 124 (.str b::u))) 0 G=.val (.str b) G:=λG=>by rw[ZJ (by rw[Zl];omega)];rfl
 have k2:Zp H H2 []:=by rw[<-XH,<-Yo];exact(Zp.new H _ _).then_new _
 have ec:=λ{j}=>vC E (k:=2) (n:=j) (by decide) (a:=a) (b:=b) (H:=H2)
 simp only[bx,Z3,g2,g3,l2,l3,ec,Zv,Ze1,Zu,ZX,Zw,Yf]
 refine⟨_,rfl,?_⟩
 exact k2
theorem Zm7(E:Env Zo fs fuel)(hk:3<=k){a b:List UInt8}{t u:List AV}(ht:t.length=6)(hu:u.length=6):
  ZG (LK Zo fs fuel k) fs fuel (n+1) 114 [.agg (.str a::t),.agg (.str b::u)] H=.ret (JY a b) H:=by
 obtain⟨H',e,g⟩:=fc E (n:=897) (H:=H) ht hu
 exact Xd (r:=2) rfl rfl e g (by unfold JY;split;rfl;split<;>rfl) hk
theorem fa(E:Env Zo fs fuel){a b:List UInt8}{t u:List AV}(ht:t.length=6)(hu:u.length=6):
  ∃H',ZG (LK Zo fs fuel 2) fs fuel (n+3) 63 [.agg (.str a::t),.agg (.str b::u)] H=.ret (JY a b) H'∧Zp H H' []:=by
 rw[ZF (ZB E.n63 (.inl (by decide)) _ _) E.f63]
 obtain⟨H1,Yo⟩:=WQ (H.new (rH 124 (.str a::t)))
 have bx:=VW (l:=.str a::t) (by rw[Zl];omega) 124 H
 rw[Yo] at bx
 have VH:H1.nx=H.nx+1:=by rw[<-Yo];rfl
 have g1:H1.t.get H.nx=some (rH 124 (.str a::t)):=by rw[<-Yo,ZC rfl]
 obtain⟨H2,XH⟩:=WQ (H1.new (rH 124 (.str b::u)))
 have Z3:=VW (l:=.str b::u) (by rw[Zl];omega) 124 H1
 rw[XH,VH] at Z3
 have g2:H2.t.get H.nx=some (rH 124 (.str a::t)):=by rw[<-XH,ZK (by omega)];exact g1
 have g3:H2.t.get (H.nx+1)=some (rH 124 (.str b::u)):=by rw[<-XH,ZC VH]
 have l2: ∀G:Zc,ld1 (some (rH 124 (.str a::t))) 0 G=.val (.str a) G:=λG=>by rw[ZJ (by rw[Zl];omega)];rfl
 have l3: ∀G:Zc,ld1 (some (rH 124 (.str b::u))) 0 G=.val (.str b) G:=λG=>by rw[ZJ (by rw[Zl];omega)];rfl
 have k2:Zp H H2 []:=by rw[<-XH,<-Yo];exact(Zp.new H _ _).then_new _
 have ec:=λ{j}=>vC E (k:=2) (n:=j) (by decide) (a:=a) (b:=b) (H:=H2)
 simp only[bx,Z3,g2,g3,l2,l3,ec,Zv,c63,Zu,ZX,Zw,Yf]
 refine⟨_,rfl,?_⟩
 exact k2
theorem Zm6(E:Env Zo fs fuel)(hk:3<=k){a b:List UInt8}{t u:List AV}(ht:t.length=6)(hu:u.length=6):
  ZG (LK Zo fs fuel k) fs fuel (n+1) 63 [.agg (.str a::t),.agg (.str b::u)] H=.ret (JY a b) H:=by
 obtain⟨H',e,g⟩:=fa E (n:=897) (H:=H) ht hu
 exact Xd (r:=2) rfl rfl e g (by unfold JY;split;rfl;split<;>rfl) hk
def sF(H0:Zc)(h:Nat)(x:List AV)(e:List UInt8×JV):Prop:=e.1.length<=9000∧ ∃t,x=.str e.1::t∧VR H0 h e.2 t
theorem Lr.ldN{e sz:Nat}{ls:List (List AV)}{r:Row}(h:Lr H b e sz ls r)(hi:i<ls.length)(G:Zc):AI.ldN sz (some (.row r)) (i*sz) G=.val (.agg (ls.getD i [])) G:=by
 have hm:(i+1)*sz<=ls.length*sz:=Vg _ hi
 rw[XQ,U0] at hm
 have hf:=TZ h.each
 show(cond (Nat.ble (Nat.add (i*sz) sz) r.size) (OR.val (.agg (loadN r (i*sz) sz)) G) .fail)=_
 rw[Zg (show Nat.add (i*sz) sz<=r.size by rw[h.size];exact hm),h.cells.load (by rw[hf];exact hm),IS h.each hi];rfl
structure OS(H0:Zc)(h b:Nat)(M:List (List UInt8×JV))(H:Zc):Prop where
 ok: ∃L r,Lr H b 124 7 L r∧L.length=M.length∧ ∀i,i<M.length->sF H0 h (L.getD i []) (M.getD i default)
theorem OS.keep{M:List (List UInt8×JV)}{H H':Zc}(s:OS H0 h b M H)(k:Zp H H' []):OS H0 h b M H':=by
 obtain⟨L,r,h1,h2⟩:=s.ok
 exact⟨L,r,h1.moved (k.get b h1.low (by simp)) k.ro k.nx,h2⟩
theorem OS.at_{M:List (List UInt8×JV)}(s:OS H0 h b M H):
  ∃r,H.t.get b=some (.row r)∧b<H.nx∧H.ro<=b∧ ∀i,i<M.length-> ∃t,t.length=6∧VR H0 h (M.getD i default).2 t∧(M.getD i default).1.length<=9000∧ ∀G:Zc,ldN 7 (some (.row r)) (i*7) G=.val (.agg (.str (M.getD i default).1::t)) G:=by
 obtain⟨L,r,h1,h2,h3⟩:=s.ok
 refine⟨r,h1.at_,h1.low,h1.ro,λi hi=>?_⟩
 obtain⟨h4,t,h5,h6⟩:=h3 i hi
 refine⟨t,h6.len,h6,h4,λG=>?_⟩
 rw[<-h5];exact h1.ldN (by omega) G
theorem sF.len{x:List AV}{e:List UInt8×JV}(r:sF H0 h x e):x.length=7:=by
 obtain⟨_,t,rfl,h1⟩:=r
 rw[Zl,h1.len]
theorem mz{α:Type}[Inhabited α]{L:List α}{j:Nat}(h:j+1<L.length)(d:α)(i:Nat):(swp L j).getD i d=if i=j then L.getD (j+1) default else if i=j+1 then L.getD j default else L.getD i d:=by
 unfold swp
 rw[Zf]
 by_cases h1:i=j
 ·subst h1;rw[if_pos rfl,Ul (by rw[Xv];omega)];rfl
 ·rw[if_neg h1,U9 (λe=>h1 e.symm)]
  by_cases h2:i=j+1
  ·subst h2;rw[if_pos rfl,Ul h];rfl
  ·rw[if_neg h2,U9 (λe=>h2 e.symm),<-Zf]
theorem OS.swap{M:List (List UInt8×JV)}(s:OS H0 h b M H){j:Nat}(hj:j+1<M.length):
  ∃r r1 r2 t u,H.t.get b=some (.row r)∧b<H.nx∧H.ro<=b∧t.length=6∧u.length=6∧VR H0 h (M.getD (j+1) default).2 t∧VR H0 h (M.getD j default).2 u∧
   (∀G:Zc,ldN 7 (some (.row r)) ((j+1)*7) G=.val (.agg (.str (M.getD (j+1) default).1::t)) G)∧(∀G:Zc,ldN 7 (some (.row r)) (j*7) G=.val (.agg (.str (M.getD j default).1::u)) G)∧
   FG 7 (some (.row r)) b ((j+1)*7) (.agg (.str (M.getD j default).1::u)) H=.val YS (H.put b (.row r1))∧
   FG 7 (some (.row r1)) b (j*7) (.agg (.str (M.getD (j+1) default).1::t)) (H.put b (.row r1))=.val YS (H.put b (.row r2))∧OS H0 h b (swp M j) (H.put b (.row r2)):=by
 obtain⟨L,r,h1,h2,h3⟩:=s.ok
 have ea:=h3 (j+1) hj
 have eb:=h3 j (by omega)
 have la:=ea.len
 have lb:=eb.len
 obtain⟨h4,t,h5,h6⟩:=ea
 obtain⟨h7,u,h8,h9⟩:=eb
 obtain⟨r1,s1,q1⟩:=h1.store (i:=j+1) (by omega) (vs:=L.getD j []) lb (by omega)
 obtain⟨r2,s2,q2⟩:=q1.store (i:=j) (by rw[Xv];omega) (vs:=L.getD (j+1) []) la (by omega)
 rw[Hx] at s2 q2
 have d1: ∀G:Zc,ldN 7 (some (.row r)) ((j+1)*7) G=.val (.agg (L.getD (j+1) [])) G:=λG=>h1.ldN (by omega) G
 have d2: ∀G:Zc,ldN 7 (some (.row r)) (j*7) G=.val (.agg (L.getD j [])) G:=λG=>h1.ldN (by omega) G
 have q3:OS H0 h b (swp M j) (H.put b (.row r2)):=⟨_,r2,q2,by rw[Xv,Xv,NG];exact h2,λi hi=>by
  rw[NG] at hi
  rw[mz hj,show((L.set (j+1) (L.getD j [])).set j (L.getD (j+1) [])).getD i []=(swp L j).getD i [] from rfl,mz (by omega)]
  by_cases i1:i=j
  ·rw[if_pos i1,if_pos i1];exact h3 (j+1) hj
  ·rw[if_neg i1,if_neg i1]
   by_cases i2:i=j+1
   ·rw[if_pos i2,if_pos i2];exact h3 j (by omega)
   ·rw[if_neg i2,if_neg i2];exact h3 i hi⟩
 rw[h5] at d1 s2
 rw[h8] at d2 s1
 exact⟨r,r1,r2,t,u,h1.at_,h1.low,h1.ro,h6.len,h9.len,h6,h9,d1,d2,s1,s2,q3⟩
theorem Sl.sameV{sz:Nat}{v:AV}{ls:List (List AV)}(h:Sl H sz v ls):AI.same v v=true:=by
 rcases h.here with⟨rfl,rfl⟩|⟨b,o,c,rfl,_⟩
 ·unfold AI.same;rfl
 ·unfold AI.same;rw[Yb,Yb,Yb]
  cases c with
  |none=>rfl
  |some c=>exact Yb c
theorem VR.low: ∀{h:Nat} {v:JV} {cs:List AV},VR H h v cs-> ∀{n:Nat},H.nx<=n->Ob n cs=true
 |h+1,.mk _ _ _ _ l m,cs,⟨lv,mv,ls,ms,e,a1,a2,a3,a4,a5,sl,sm,_⟩,n,hn=>by
  rw[e]
  show cond (Xt n lv) (cond (Xt n mv) true false) false=true
  rw[sl.low hn,sm.low hn];rfl
theorem VR.same: ∀{h:Nat} {v:JV} {cs:List AV},VR H h v cs->Sg cs cs=true
 |h+1,.mk k b z s l m,cs,⟨lv,mv,ls,ms,e,a1,a2,a3,a4,a5,sl,sm,_⟩=>by
  rw[e]
  unfold Sg;rw[mc];unfold Sg
  rw[show AI.same (.bool b) (.bool b)=true by unfold AI.same;cases b<;>rfl];unfold Sg
  rw[HS];unfold Sg;rw[HU];unfold Sg;rw[sl.sameV];unfold Sg;rw[sm.sameV];unfold Sg;rfl
theorem wY{t:List AV}(h:Sg t t=true)(n:Nat)(q:T Obj):VP (.val (.agg (.str s::t)) ⟨n,q,n⟩) (.agg (.str s::t)) n=true:=Ic (by unfold Sg;rw[HU];exact h) n q
theorem CK(n f:Nat):Xt n (.func f [] [])=true:=rfl
def yN(Zo:NJ)(fs:T CF)(fuel k f:Nat):Prop:= ∀{a b:List UInt8} {t u:List AV} {H:Zc} {j:Nat},t.length=6->u.length=6->ZG (LK Zo fs fuel k) fs fuel (j+1) f [.agg (.str a::t),.agg (.str b::u)] H=.ret (JY a b) H
structure ZaA(H0 HK:Zc)(S:List Nat)(h b f n i:Nat)(cp:Option Nat)(T:List (List UInt8×JV))(m:Nat)(tm:TM)(H:Zc):Prop where
 j: ∃j M,Vn tm=nI .i64 j∧m=j∧j<=i∧M.length=n∧OS H0 h b M H∧NQ TG j M=T
 t0:Z4 tm=.slice b 0 n cp
 t1:Xz tm=nI .i64 0
 t2:Wc tm=nI .i64 n
 t3:W6 tm=.func f [] []
 t8:Wk tm=nI .i64 i
 k:Zp HK H S
theorem Zgs(E:Env Zo fs fuel){n0 f:Nat}(hf:yN Zo fs fuel k f){HK:Zc}{S:List Nat}{cp:Option Nat}{T:List (List UInt8×JV)}(hi:i<n)(hn:n<=9000)(hnk:H0.nx<=HK.nx)(hb:b<HK.nx->b∈S)(y fr d r)(x:X)(m:Nat)(tm:TM)(H:Zc)(hI:ZaA H0 HK S h b f n i cp T m tm H):
  ∃o Yp H',KW ⟨ZG (LK Zo fs fuel k) fs fuel (n0+1),y,fr,d,r⟩ tm H x=.ok o Yp H' x∧((o=.normal∧ ∃q,q<m∧ZaA H0 HK S h b f n i cp T q Yp H')∨(o≠.normal∧(o=.exit 2∧Z4 Yp=.slice b 0 n cp∧Xz Yp=nI .i64 0∧Wc Yp=nI .i64 n∧W6 Yp=.func f [] []∧Wk Yp=nI .i64 i∧Zp HK H' S∧OS H0 h b T H'))):=by
 obtain⟨⟨j,M,t9,rfl,hj,hM,sr,hT⟩,t0,t1,t2,t3,t8,k0⟩:=hI
 have KQ:=t0;have Px:=t1;have mD:=t2;have Di:=t3;have EQ:=t8
 simp only[Pi,PO,J7,ZbA] at t0 t1 t3 t9
 cases m with
 |zero=>
  have d0:decide (0<0)=false:=rfl
  have hT:M=T:=hT
  subst hT
  simp only[t1,t9,d0,YK,KW,Zu,ZX,Zz,ZQ,Yf,WL]
  refine⟨_,_,_,rfl,?_⟩
  exact .inr ⟨by simp,rfl,(by simp only[ZX];exact KQ),(by simp only[ZX];exact Px),(by simp only[ZX];exact mD),(by simp only[ZX];exact Di),(by simp only[ZX];exact EQ),k0,sr⟩
 |succ q=>
  have d0:decide (0<q+1)=true:=rfl
  obtain⟨rw0,r1,r2,t,u,g,blo,bro,ht,hu,vt,vu_,l1,l2,s1,s2,sr2⟩:=sr.swap (j:=q) (by omega)
  have sa1:=λ(n:Nat) (z:AI.T Obj)=>wY (s:=(M.getD (q+1) default).1) vt.same n z
  have sa2:=λ(n:Nat) (z:AI.T Obj)=>wY (s:=(M.getD q default).1) vu_.same n z
  have hc:=λ{j}=>hf (j:=j) (a:=(M.getD (q+1) default).1) (b:=(M.getD q default).1) (H:=H) ht hu
  have lt:=Zbm (M.getD (q+1) default).1 (M.getD q default).1
  have hT:(if YD (M.getD (q+1) default).1 (M.getD q default).1 then NQ TG q (swp M q) else M)=T:=hT
  have lwb:Xt H.nx (.slice b 0 n cp)=true:=We blo 0 n cp
  generalize hk1:(M.getD (q+1) default).1=k1 at*
  generalize hk2:(M.getD q default).1=k2 at*
  have ca: ∀n,Xt n (JY k1 k2)=true:=λn=>by unfold JY;split;rfl;split<;>rfl
  cases hs:YD k1 k2 with
  |false=>
   rw[hs] at lt hT
   have hT:M=T:=hT
   subst hT
   simp(disch:=omega) only[t0,t1,t3,t9,d0,g,l1,l2,sa1,sa2,hc,lt,lwb,ca,CK,YK,Qm,Wy,XF,KW,Zu,ZX,Zw,Zz,ZQ,Yk,Nat.reducePow,Nat.reduceDiv,Nat.reduceMod,Yf,WL]
   refine⟨_,_,_,rfl,?_⟩
   exact .inr ⟨by simp,rfl,(by simp only[ZX];exact KQ),(by simp only[ZX];exact Px),(by simp only[ZX];exact mD),(by simp only[ZX];exact Di),(by simp only[ZX];exact EQ),k0,sr⟩
  |true=>
   rw[hs] at lt hT
   simp(disch:=first|omega|simp only[ZY,ZZ]<;>omega) only[t0,t1,t3,t9,d0,g,l1,l2,sa1,sa2,hc,lt,lwb,ca,s1,s2,CK,YK,Qm,Wy,XF,KW,Zu,ZX,Zw,Zz,ZQ,Yk,Nat.reducePow,Nat.reduceDiv,Nat.reduceMod,Yf,WL]
   refine⟨_,_,_,rfl,?_⟩
   exact .inl ⟨rfl,q,YZ _,⟨⟨q,swp M q,rfl,rfl,by omega,by rw[NG];exact hM,sr2,hT⟩,KQ,Px,mD,Di,EQ,k0.then_put hb⟩⟩
structure ZaB(H0 HK:Zc)(S:List Nat)(h b f n:Nat)(cp:Option Nat)(T:List (List UInt8×JV))(m:Nat)(tm:TM)(H:Zc):Prop where
 i: ∃i M,Wk tm=nI .i64 i∧m=n - i∧1<=i∧M.length=n∧OS H0 h b M H∧Jq TG (n - i) i M=T
 t0:Z4 tm=.slice b 0 n cp
 t1:Xz tm=nI .i64 0
 t2:Wc tm=nI .i64 n
 t3:W6 tm=.func f [] []
 k:Zp HK H S
theorem Zb9(E:Env Zo fs fuel){n0 f:Nat}(hf:yN Zo fs fuel k f){HK:Zc}{S:List Nat}{cp:Option Nat}{T:List (List UInt8×JV)}(hn:n<=9000)(hnk:H0.nx<=HK.nx)(hb:b<HK.nx->b∈S)(y fr r)(x:X)(m:Nat)(tm:TM)(H:Zc)(hI:ZaB H0 HK S h b f n cp T m tm H):
  ∃o Yp H',Ou ⟨ZG (LK Zo fs fuel k) fs fuel (n0+1),y,fr,fuel,r⟩ tm H x=.ok o Yp H' x∧((o=.normal∧ ∃q,q<m∧ZaB H0 HK S h b f n cp T q Yp H')∨(o≠.normal∧(o=.exit 0∧Zp HK H' S∧OS H0 h b T H'))):=by
 obtain⟨⟨i,M,t8,rfl,hi1,hM,sr,hT⟩,t0,t1,t2,t3,k0⟩:=hI
 have KQ:=t0;have Px:=t1;have mD:=t2;have Di:=t3;have EQ:=t8
 simp only[N6,Ct] at t2 t8
 by_cases Y6:i<n
 ·have d1:decide (i<n)=true:=Ze Y6
  simp only[t2,t8,d1,ZO,Ou,Zu,ZX,Yf]
  generalize hL:WR (KW _) fuel _ _ _=L
  obtain⟨o,SY,H1,rfl,_,rfl,a0,a1,a2,a3,a8,k1,sr1⟩:=Y9 (P:=λT'=>ZaA H0 HK S h b f n i cp (NQ TG i M) i T' H) (Q:=λo Yp H'=>o=.exit 2∧Z4 Yp=.slice b 0 n cp∧Xz Yp=nI .i64 0∧Wc Yp=nI .i64 n∧W6 Yp=.func f [] []∧Wk Yp=nI .i64 i∧Zp HK H' S∧OS H0 h b (NQ TG i M) H')
   (λT' R0=>Xk (ZaA H0 HK S h b f n i cp (NQ TG i M)) _ (λm tm H' h'=>Zgs E hf Y6 hn hnk hb _ _ _ _ _ m tm H' h') fuel i T' H (by have:=E.big;omega) R0) hL
   ⟨⟨i,M,rfl,rfl,Zj _,hM,sr,rfl⟩,KQ,Px,mD,Di,EQ,k0⟩
  simp only[Ct] at a8
  simp(disch:=omega) only[a8,YQ,Zu,ZX,Yf]
  refine⟨_,_,_,rfl,?_⟩
  exact .inl ⟨rfl,n - (i+1),by omega,⟨⟨i+1,NQ TG i M,rfl,rfl,by omega,by rw[PR];exact hM,sr1,by rw[show n - i=(n - (i+1))+1 by omega] at hT;exact hT⟩,a0,a1,a2,a3,k1⟩⟩
 ·have d1:decide (i<n)=false:=Za Y6
  rw[show n - i=0 by omega] at hT
  have hT:M=T:=hT
  subst hT
  simp only[t2,t8,d1,ZO,Ou,Zu,ZX,Yf]
  refine⟨_,_,_,rfl,?_⟩
  exact .inr ⟨by simp,rfl,k0,sr⟩
theorem nr(E:Env Zo fs fuel){n0 f:Nat}(hf:yN Zo fs fuel k f){HK:Zc}{S:List Nat}{cp:Option Nat}{M:List (List UInt8×JV)}(hn:n<=9000)(hnk:H0.nx<=HK.nx)(hb:b<HK.nx->b∈S)(hM:M.length=n)(k0:Zp HK H S)(sr:OS H0 h b M H):
  ∃H',ZG (LK Zo fs fuel k) fs fuel (n0+2) 168 [.slice b 0 n cp,nI .i64 0,nI .i64 n,.func f [] []] H=.ret (.tup []) H'∧Zp HK H' S∧OS H0 h b (Xi TG M) H':=by
 rw[ZF (ZB E.n168 (.inr rfl) _ _) E.f168]
 simp(disch:=omega) only[YQ,Zt,gN,Zu,ZX,Yf]
 generalize hL:WR (Ou _) fuel _ _ _=L
 obtain⟨o,SY,H1,rfl,_,rfl,k1,sr1⟩:=Y9 (P:=λT'=>ZaB H0 HK S h b f n cp (Xi TG M) (n - 1) T' H) (Q:=λo Yp H'=>o=.exit 0∧Zp HK H' S∧OS H0 h b (Xi TG M) H')
  (λT' R0=>Xk (ZaB H0 HK S h b f n cp (Xi TG M)) _ (λm tm H' h'=>Zb9 E hf hn hnk hb _ _ _ _ m tm H' h') fuel (n - 1) T' H (by have:=E.big;omega) R0) hL
  ⟨⟨1,M,rfl,rfl,Zj _,hM,sr,by unfold Xi;rw[hM]⟩,rfl,rfl,rfl,rfl,k0⟩
 simp only[Zu,Zw,]
 refine⟨_,rfl,?_⟩
 exact⟨k1,sr1⟩
theorem zP{a:TM->Zc->X->X6}{F:Nat}{tm:TM}{H H':Zc}{x:X}{L:X6}(hL:WR a F tm H x=L)(hF:0<F)(h: ∃Yp,a tm H x=.ok .ret Yp H' x): ∃Yp,L=.ok .ret Yp H' x:=by
 obtain⟨Yp,h⟩:=h
 cases F with
 |zero=>omega
 |succ F=>
  refine⟨Yp,?_⟩
  rw[<-hL]
  show QV (a tm H x) _=_
  rw[h];rfl
theorem TY(k:IntKind)(a b:Nat)(H:Zc):P6 Nm RG (nI k a) (nI k b) H=.val (.bool (decide (a<=b))) H:=WG k a b H
theorem Zc5(E:Env Zo fs fuel){n0 f:Nat}(hf:yN Zo fs fuel k f){lim:Nat}{cp:Option Nat}{M:List (List UInt8×JV)}(hn:n<=12)(hb:H0.nx<=b)(hM:M.length=n)(k0:Zp H0 H [])(sr:OS H0 h b M H):
  ∃H',ZG (LK Zo fs fuel k) fs fuel (n0+3) 198 [.slice b 0 n cp,nI .i64 0,nI .i64 n,nI .i64 lim,.func f [] []] H=.ret (.tup []) H'∧Zp H0 H' []∧OS H0 h b (Xi TG M) H':=by
 rw[ZF (ZB E.n198 (.inr rfl) _ _) E.f198]
 obtain⟨H1,e1,k1,sr1⟩:=nr E (k:=k) (n0:=n0) hf (cp:=cp) (HK:=H0) (S:=[]) (by omega) (Zj _) (λh=>absurd h (by omega)) hM k0 sr
 have d1:decide (n<=12)=true:=Ze hn
 simp only[yV,Zbg,Zu,Yf]
 generalize hL:WR (IF _) fuel _ _ _=L
 obtain⟨Yp,h⟩: ∃Yp,L=.ok .ret Yp H1 ⟨[],none⟩:=by
  have hF:0<fuel:=by have:=E.big;omega
  refine zP hL hF ?_
  simp(disch:=omega) only[d1,e1,Wy,TY,Qx,IF,Zu,ZX,Yf,]
  exact⟨_,rfl⟩
 subst h
 simp only[Zu,Zw,]
 refine⟨_,rfl,?_⟩
 exact⟨k1,sr1⟩
end
theorem OV(l:List PI)(p q:PI)(a b:Yc)(c:Ctx)(tm:TM)(H:Zc)(x:X):GG l p q a b c tm H x=VL (l.map (·.dst)) (JK p q a b) l c [] tm H x:=rfl
theorem Fl(f g:W2)(o1 o2:List (ZP×Yc))(d1 d2:ZP)(k1 k2:JR)(i1 i2 b1 b2:Nat)(e1 e2:Option (Yc×Bool))(a b:Yc)(rs:List RD)(tm:TM)(H:Zc)(x:X):JK ⟨f,e1,o1,d1,k1,i1,b1⟩ ⟨g,e2,o2,d2,k2,i2,b2⟩ a b rs tm H x=kM (Uq b1 rs) (kM (Uq b2 rs) (AI.apart (a (RP tm o1)) (b (RP tm o2)) (onV (f (RP tm o1) H) λH1=>onV (g (RP tm o2) H1) λH2=>.ok .normal tm H2 x))):=rfl
theorem CP(k:X6):kM [] k=k:=rfl
theorem DN{b c:Nat}(h: ¬b=c)(o q:Nat)(k:X6):AI.apart (.ptr b o) (.ptr c q) k=k:=by
 show cond (Nat.beq b c) .fail k=k
 rw[Ym,Za h];rfl
theorem we(v:AV)(H:Zc)(k:Zc->X6):onV (.val v H) k=k H:=rfl
theorem an{α:Type}(l:List α)(a b:α):(l++[a]).set l.length b=l++[b]:=by
 induction l with
 |nil=>rfl
 |cons x l ih=>show x::(l++[a]).set l.length b=_;rw[ih];rfl
theorem ZmW(H:Zc):Py 124 7 1 [.str [],nI .i64 0,.bool false,nI .i64 0,.str [],.nils,.nils] [(0,7,.agg [.str [],nI .i64 0,.bool false,nI .i64 0,.str [],.nils,.nils])] H=.val (.slice H.nx 0 1 none) (H.new (rG 124 7 [.str [],nI .i64 0,.bool false,nI .i64 0,.str [],.nils,.nils] 0 false true true)):=rfl
theorem bL{H:Zc}{v:AV}{ls:List (List AV)}{lo:Nat}(h:V0 H v 124 7 ls lo)(hl:ls.length<=9000)(YL:H.ro<=H.nx)(Pj:lo<=H.nx){x:List AV}(hx:x.length=7):
  ∃b r r' H',Uw 124 7 104 v (.slice H.nx 0 1 none) (H.new (rG 124 7 [.str [],nI .i64 0,.bool false,nI .i64 0,.str [],.nils,.nils] 0 false true true))=.val (.slice b 0 (ls.length+1) none) H'∧lo<=b∧b<H'.nx∧H'.t.get b=some (.row r)∧
   (∀G:Zc,Ha 7 (.slice b 0 (ls.length+1) none) (nI .i64 ls.length) G=.val (.ptr b (ls.length*7)) G)∧FG 7 (some (.row r)) b (ls.length*7) (.agg x) H'=.val YS (H'.put b (.row r'))∧V0 (H'.put b (.row r')) (.slice b 0 (ls.length+1) none) 124 7 (ls++[x]) lo∧Below lo H H':=by
 obtain⟨v',H',e,hb,w⟩:=Jc h (bytes:=104) (by omega) (by omega) (by omega) YL Pj (x:=[.str [],nI .i64 0,.bool false,nI .i64 0,.str [],.nils,.nils]) rfl
 rcases hb with⟨h1,_⟩|⟨_,b,r,rfl,hr,hlb⟩
 ·simp at h1
 ·rw[Zm,Zl,ZA] at e
  obtain⟨r',s1,q1⟩:=hr.store (i:=ls.length) (by simp) hx (by omega)
  rw[an] at q1
  refine⟨b,r,r',H',e,hlb,hr.low,hr.at_,λG=>?_,s1,.inr ⟨by simp,b,r',by rw[Zm];rfl,q1,hlb⟩,w⟩
  rw[Qm (by omega),Zt]
theorem gk{C:Ctx}{tm:TM}{H:Zc}{X0:X}{sb:Nat}{v:AV}{ls:List (List AV)}{x:List AV}(t2:Wc tm=.ptr sb 0)(g:H.t.get sb=some (rH 25 [v]))(hr:V0 H v 124 7 ls (sb+1))(ne:sb<H.nx)(YL:H.ro<=sb)(hx:x.length=7)(lx: ∀n,H.nx<=n->Ob n x=true)(sx:Sg x x=true)(hl:ls.length<=9000):
  ∃Yp H' v',y9 C (VG tm (.agg x)) H X0=.ok .normal Yp H' X0∧H'.t.get sb=some (rH 25 [v'])∧V0 H' v' 124 7 (ls++[x]) (sb+1)∧Below sb H H':=by
 simp only[N6] at t2
 obtain⟨H1,Yo⟩:=WQ (H.new (rH 124 x))
 have VH:H1.nx=H.nx+1:=by rw[<-Yo];rfl
 have Nn:H1.ro=H.ro:=by rw[<-Yo];rfl
 have hB:=Xg (n:=7) (l:=[.str [],nI .i64 0,.bool false,nI .i64 0,.str [],.nils,.nils]) (vs:=x) (by rfl) hx (by omega) (show(H.new (rH 124 [.str [],nI .i64 0,.bool false,nI .i64 0,.str [],.nils,.nils])).ro<=H.nx by show H.ro<=_;omega) 124 1 false true
 rw[Vb rfl,Yo] at hB
 have gs1:H1.t.get sb=some (rH 25 [v]):=by rw[<-Yo,ZK (by omega)];exact g
 have gx1:H1.t.get H.nx=some (rH 124 x):=by rw[<-Yo,ZC rfl]
 have ldx: ∀G:Zc,ldN 7 (some (rH 124 x)) 0 G=.val (.agg x) G:=λG=>by rw[WV (by omega)];congr 2;rw[Ye,ZM (by omega)]
 have b1:Below sb H H1:=by rw[<-Yo];exact Below.new sb H _
 have hr1:V0 H1 v 124 7 ls (sb+1):=hr.below (λc h1 h2=>by rw[<-Yo,ZK (by omega)]) Nn (by omega)
 obtain⟨b,r,r',H2,ea,hlb,QY,gr,ix,s1,r2,w2⟩:=bL hr1 hl (by omega) (by omega) hx
 rw[VH] at ea
 have gs2:H2.t.get sb=some (rH 25 [v]):=by rw[w2.get sb (by omega) (by omega)];exact gs1
 have VY: ¬b=sb:=by omega
 have gs3:(H2.put b (.row r')).t.get sb=some (rH 25 [v]):=by rw[ZD VY];exact gs2
 have st:=XK (fz:=0) (b:=sb) (H:=H2.put b (.row r')) (l:=[v]) (o:=0) (v:=.slice b 0 (ls.length+1) none) rfl (by simp) (by show H2.ro<=sb;rw[w2.ro,Nn];exact YL) (by omega) 25 1 false true
 have lsv:=hr1.low (n:=H.nx+1) (by omega)
 have lv:=hr1.len
 have ssv:=hr1.same
 have ax:=Ic sx
 have lsl:Xt H2.nx (.slice b 0 (ls.length+1) none)=true:=We QY _ _ _
 simp(disch:=first|assumption|omega|(simp -implicitDefEqProofs only[ZY,ZZ]<;>first|assumption|omega)|decide) only[t2,hB,gs1,gx1,VH,ldx,lv,ea,gr,ix,s1,gs3,st,lsv,ssv,ax,lsl,OV,Fl,CP,we,DN,ZmW,ZJ,y9,Zu,ZX,Zw,Zz,ZQ,Yk,WW,Nat.reducePow,Nat.reduceDiv,Nat.reduceMod,Yf]
 refine⟨_,_,.slice b 0 (ls.length+1) none,rfl,ZS ..,?_,?_⟩
 ·exact r2.below (λc h1 _=>by rw[ZD (by omega)]) rfl (Zj _)
 ·exact b1.trans ((w2.mono (XZ _)).trans ((Below.put (by omega)).trans (Below.put (Zj _))))
section
variable {Zo:NJ} {fs:T CF} {fuel k n i h b:Nat} {H H0:Zc} {s:List UInt8} {cs:List AV}
theorem rx(nx:TM->Zc->X->X6)(d:ZP)(c:Ctx)(tm:TM)(H H':Zc)(x:X)(b:Nat)(l:List AV):Pf nx d c tm H x (.oth (.yield b l H'))=E3 nx d tm x (c.yld b l H'):=rfl
theorem vy(P:Program)(b:Nat)(l:List AV)(H:Zc):vx P (.yield b) l H=.oth (.yield b l H):=rfl
theorem jT{fs:T CF}{g:Nat}{cf:CF}(h:fs.get g=some cf)(fuel:Nat)(call:Nat->List AV->Zc->CR)(a b:List AV)(round:List AV->Zc->CR)(tm:TM)(H:Zc)(x:X):
  NV fs fuel call (.func g a b) round tm H x=gR (Mh (λ_ _ _ _=>.fail) cf.rs (cf.body ⟨call,λl ys H'=>cond (Nat.beq l H.nx) (round ys H') .fail,VB,fuel,false⟩ (TX (a++(.yield H.nx::b))) (H.new .loop) ⟨[],none⟩)) tm x:=by
 show Js X6.fail fs g _=_
 unfold Js
 rw[h]
theorem pm(q:Yc)(ps:List ZP)(a:D)(c:Ctx)(tm:TM)(H:Zc)(x:X):wo q ps a c tm H x=c.rng (q tm) (λys H=>cond (Nat.beq (YH ys) (YH ps)) (M6 (a ⟨c.call,Vt,VB,c.fuel,true⟩ (Pp tm ps ys) H ⟨[],none⟩)) .fail) tm H x:=rfl
structure sC(H0:Zc)(sb:Nat)(xs:List (List AV))(i:Nat)(G:Zc):Prop where
 k:Zp H0 G []
 low:sb<G.nx
 hi:H0.nx<=sb
 ro:G.ro<=sb
 ok: ∃v,G.t.get sb=some (rH 25 [v])∧V0 G v 124 7 (xs.take i) (sb+1)
theorem sC.keep{sb:Nat}{xs:List (List AV)}{G G':Zc}(g:sC H0 sb xs i G)(k:Zp G G' []):sC H0 sb xs i G':=by
 obtain⟨v,h1,h2⟩:=g.ok
 exact⟨g.k.trans k (by simp),ZH g.low k.nx,g.hi,by rw[k.ro];exact g.ro,v,by rw[k.get _ g.low (by simp)];exact h1,h2.below (λc _ hc=>k.get c hc (by simp)) k.ro k.nx⟩
structure VI2(H0:Zc)(sb B:Nat)(src:AV)(xs:List (List AV))(m:Nat)(tm:TM)(H:Zc):Prop where
 i: ∃i,Vk tm=nI .i64 i∧i<=xs.length∧m=xs.length - i∧sC H0 sb xs i H
 t0:Z4 tm=.yield B
 t5:Wp tm=src
 t6:Wi tm=nI .i64 xs.length
theorem Zho{cl:Nat->List AV->Zc->CR}{Y:Nat->List AV->Zc->CR}{sb B:Nat}{src:AV}{xs:List (List AV)}(sl:Sl H0 7 src xs)(hn:xs.length<=9000)
  (hy: ∀i G,i<xs.length->sC H0 sb xs i G-> ∃G',Y B [.agg (xs.getD i [])] G=.ret (.bool true) G'∧sC H0 sb xs (i+1) G')(f d r)(x:X)(m:Nat)(tm:TM)(H:Zc)(h:VI2 H0 sb B src xs m tm H):
  ∃o Yp H',ID ⟨cl,Y,f,d,r⟩ tm H x=.ok o Yp H' x∧((o=.normal∧ ∃q,q<m∧VI2 H0 sb B src xs q Yp H')∨(o≠.normal∧(o=.exit 0∧sC H0 sb xs xs.length H'))):=by
 obtain⟨⟨i,t7,hi,rfl,g⟩,t0,t5,t6⟩:=h
 have KQ:=t0;have Dj:=t5;have wS:=t6
 simp only[Pi,GU,GV,ek] at t0 t5 t6 t7
 by_cases Y6:i<xs.length
 ·have d1:decide (i<xs.length)=true:=Ze Y6
  obtain⟨b,o,rw_,eI,hb,gb,eL,_⟩:=(sl.keep0 g.k).at_ Y6
  have hx:(xs.getD i []).length=7:=sl.each _ (by rw[Zf,Zi Y6];exact YJ Y6)
  obtain⟨H1,Yo⟩:=WQ (H.new (rH 124 (xs.getD i [])))
  have YL:H.ro<=H.nx:=by have:=g.ro;have:=g.low;omega
  have hB:=Xg (n:=7) (l:=[.str [],nI .i64 0,.bool false,nI .i64 0,.str [],.nils,.nils]) (vs:=xs.getD i []) (by rfl) hx (by omega) (show(H.new (rH 124 [.str [],nI .i64 0,.bool false,nI .i64 0,.str [],.nils,.nils])).ro<=H.nx from YL) 124 1 false true
  rw[Vb rfl,Yo] at hB
  have gx1:H1.t.get H.nx=some (rH 124 (xs.getD i [])):=by rw[<-Yo,ZC rfl]
  have ldx: ∀G:Zc,ldN 7 (some (rH 124 (xs.getD i []))) 0 G=.val (.agg (xs.getD i [])) G:=λG=>by rw[WV (by omega)];congr 2;rw[Ye,ZM (by omega)]
  have k1:Zp H H1 []:=by rw[<-Yo];exact Zp.new H _ _
  obtain⟨G',ey,g'⟩:=hy i H1 Y6 (g.keep k1)
  generalize xs.getD i []=xx at*
  simp(disch:=omega) only[t0,t5,t6,t7,d1,eI,gb,eL,hB,gx1,ldx,ey,ZO,rx,vy,Kx,YQ,ID,Zu,ZX,Zw,Zz,Yf]
  refine⟨_,_,_,rfl,?_⟩
  exact .inl ⟨rfl,xs.length - (i+1),by omega,⟨⟨i+1,rfl,by omega,rfl,g'⟩,KQ,Dj,wS⟩⟩
 ·have d1:decide (i<xs.length)=false:=Za Y6
  have:i=xs.length:=by omega
  subst this
  simp only[t6,t7,d1,ZO,ID,Zu,ZX,Yf]
  refine⟨_,_,_,rfl,?_⟩
  exact .inr ⟨by simp,rfl,g⟩
theorem ZlD(E:Env Zo fs fuel){sb vb:Nat}{src:AV}{xs:List (List AV)}(sl:Sl H0 7 src xs)(hn:xs.length<=9000){call:Nat->List AV->Zc->CR}{round:List AV->Zc->CR}(gv:H0.t.get vb=some (rH 25 [src]))(lvb:vb<H0.nx)
  (hy: ∀i G,i<xs.length->sC H0 sb xs i G-> ∃G',round [.agg (xs.getD i [])] G=.ret (.bool true) G'∧sC H0 sb xs (i+1) G')(g:sC H0 sb xs 0 H)(tm:TM)(x:X):
  ∃H',NV fs fuel call (.func 159 [] [.ptr vb 0]) round tm H x=.ok .normal tm H' x∧sC H0 sb xs xs.length H':=by
 rw[jT E.f159]
 have k1:Zp H (H.new .loop) []:=Zp.new _ _ _
 have g1:=g.keep k1
 have gv1:(H.new .loop).t.get vb=some (rH 25 [src]):=by rw[g1.k.get _ lvb (by simp)];exact gv
 have el:=sl.len
 have hy': ∀i G,i<xs.length->sC H0 sb xs i G-> ∃G',(λl ys H'=>cond (Nat.beq l H.nx) (round ys H') CR.fail) H.nx [.agg (xs.getD i [])] G=.ret (.bool true) G'∧sC H0 sb xs (i+1) G':=λi G h1 h2=>by
  obtain⟨G',e,h3⟩:=hy i G h1 h2
  refine⟨G',?_,h3⟩
  show cond (Nat.beq H.nx H.nx) (round _ G) CR.fail=_
  rw[Yb];exact e
 generalize(λl ys H'=>cond (Nat.beq l H.nx) (round ys H') CR.fail)=Y at hy'
 simp(disch:=first|omega|simp only[ZY,ZZ]<;>omega) only[gv1,el,ZJ,Xp,Zfd,Zu,ZX,Zz,Yf]
 generalize hL:WR (ID _) fuel _ _ _=L
 obtain⟨o,SY,H1,rfl,_,rfl,g2⟩:=Y9 (P:=λT=>VI2 H0 sb H.nx src xs xs.length T (H.new .loop)) (Q:=λo Yp H'=>o=.exit 0∧sC H0 sb xs xs.length H')
  (λT R0=>Xk (VI2 H0 sb H.nx src xs) _ (λm tm H' h'=>Zho sl hn hy' _ _ _ _ m tm H' h') fuel xs.length T _ (by have:=E.big;omega) R0) hL
  ⟨⟨0,rfl,Z1 _,rfl,g1⟩,rfl,rfl,rfl⟩
 simp only[Zu,Zw,]
 refine⟨_,rfl,?_⟩
 exact g2
theorem ZfO(E:Env Zo fs fuel){n0:Nat}{vb:Nat}{src:AV}{xs:List (List AV)}(sl:Sl H0 7 src xs)(hn:xs.length<=9000)(gv:H0.t.get vb=some (rH 25 [src]))(lvb:vb<H0.nx)
  (hx: ∀i,i<xs.length->(∀n,H0.nx<=n->Ob n (xs.getD i [])=true)∧Sg (xs.getD i []) (xs.getD i [])=true)(k0:Zp H0 H [])(YL:H.ro<=H.nx):
  ∃v H',ZG (LK Zo fs fuel k) fs fuel (n0+1) 197 [.nils,.func 159 [] [.ptr vb 0]] H=.ret v H'∧Zp H0 H' []∧V0 H' v 124 7 xs (H.nx+1)∧H'.ro<=H'.nx:=by
 rw[ZF (ZB E.n197 (.inr rfl) _ _) E.f197]
 obtain⟨H1,Yo⟩:=WQ (H.new (rH 25 [.nils]))
 have VH:H1.nx=H.nx+1:=by rw[<-Yo];rfl
 have k1:Zp H0 H1 []:=by rw[<-Yo];exact k0.then_new _
 have g1:sC H0 H.nx xs 0 H1:=⟨k1,by omega,k0.nx,by rw[<-Yo];exact YL,.nils,by rw[<-Yo,ZC rfl],.inl ⟨rfl,rfl⟩⟩
 simp only[Yo,pm,Zfm,Zu,ZX,Zw,Yf]
 generalize hR:NV fs fuel _ _ _ _ _ _=R
 obtain⟨H2,rfl,g2⟩: ∃H2,R=.ok .normal ((N8.u0 (N8.u0 (N8.u6 λ_=>.func 159 [] [.ptr vb 0])) (N8.u0 (N8.u0 (N8.u4 λ_=>.nils)) (N8.u0 (N8.u0 (N8.u2 λ_=>.ptr H.nx 0)) (N8.u0 (N8.u0 (N8.u1 λ_=>.func 159 [] [.ptr vb 0])) (N8.u0 (N8.u0 (N8.u0 λ_=>.nils)) Lb)))))) H2 ⟨[],none⟩∧sC H0 H.nx xs xs.length H2:=by
  rw[<-hR]
  refine ZlD E sl hn gv lvb (λi G hi g=>?_) g1 _ _
  obtain⟨v,h1,h2⟩:=g.ok
  have hx7:(xs.getD i []).length=7:=sl.each _ (by rw[Zf,Zi hi];exact YJ hi)
  obtain⟨Yp,G',v',e,h3,h4,w⟩:=gk (C:=⟨ZG (LK Zo fs fuel k) fs fuel n0,Vt,VB,fuel,true⟩) (X0:=⟨[],none⟩) (tm:=(N8.u0 (N8.u0 (N8.u6 λ_=>.func 159 [] [.ptr vb 0])) (N8.u0 (N8.u0 (N8.u4 λ_=>.nils)) (N8.u0 (N8.u0 (N8.u2 λ_=>.ptr H.nx 0)) (N8.u0 (N8.u0 (N8.u1 λ_=>.func 159 [] [.ptr vb 0])) (N8.u0 (N8.u0 (N8.u0 λ_=>.nils)) Lb)))))) (by rfl) h1 h2 g.low g.ro hx7 (λn oY=>(hx i hi).1 n (Yt g.k.nx oY)) (hx i hi).2 (by rw[Z9];omega)
  refine⟨G',?_,?_⟩
  ·exact congrArg M6 e
  ·exact⟨Below.keep g.k w g.hi,by have:=w.nx;have:=g.low;omega,g.hi,by rw[w.ro];exact g.ro,v',h3,by rw[OP hi []];exact h4⟩
 obtain⟨v,h1,h2⟩:=g2.ok
 rw[ZM (Zj _)] at h2
 simp only[h1,Zu,ZX,Yf]
 refine⟨_,_,rfl,g2.k,h2,?_⟩
 have:=g2.ro;have:=g2.low;omega
theorem nt(h:n<9223372036854775808)(H:Zc):MW .u64 (nI .i64 n) H=.val (nI .u64 n) H:=by
 unfold nI;rw[Mb,YY]
 show OR.val (.int .u64 (IntKind.u64.wrap (.ofNat n))) H=_
 rw[R5,ZV (by omega)]
theorem ZaW(E:Env Zo fs fuel)(hk:1<=k){x:Nat}(hx:x<18446744073709551616):ZG (LK Zo fs fuel k) fs fuel (n+2) 183 [nI .u64 x] H=.ret (nI .i64 (Qt x)) H:=by
 rw[ZF (ZB E.n183 (.inr rfl) _ _) E.f183]
 have e:=λ{j}=>Zeo E (k:=k) (n:=j) hk (x:=x) hx (H:=H)
 simp only[e,Zfi,Zu,ZX,Zw,Yf]
theorem Zhp(E:Env Zo fs fuel){src:AV}(hs:src.cells=[src]):ZG (LK Zo fs fuel k) fs fuel (n+1) 113 [src] H=.ret (.func 159 [] [.ptr H.nx 0]) (H.new (rH 25 [src])):=by
 rw[ZF (ZB E.n113 (.inr rfl) _ _) E.f113]
 have bx:=vm hs 25 H
 simp only[bx,Ze0,Zu,ZX,Zw,Yf]
structure mH(H0:Zc)(m:Nat)(tm:TM)(H:Zc):Prop where
 t8:Wk tm=nI .i64 1
 t2:Wc tm=nI .i64 0
 h:H=H0
theorem zB{C:Ctx}(x:X)(m:Nat)(tm:TM)(H:Zc)(h:mH H0 m tm H): ∃o Yp H',Ou C tm H x=.ok o Yp H' x∧((o=.normal∧ ∃q,q<m∧mH H0 q Yp H')∨(o≠.normal∧(o=.exit 0∧H'=H0))):=by
 obtain⟨t8,t2,rfl⟩:=h
 simp only[Ct,N6] at t8 t2
 have d1:decide (1<0)=false:=rfl
 simp only[t2,t8,d1,ZO,Ou,Zu,ZX,Yf]
 refine⟨_,_,_,rfl,?_⟩
 exact .inr ⟨by simp,rfl,rfl⟩
theorem Zb8(E:Env Zo fs fuel){n0 f:Nat}:ZG (LK Zo fs fuel k) fs fuel (n0+1) 168 [.nils,nI .i64 0,nI .i64 0,.func f [] []] H=.ret (.tup []) H:=by
 rw[ZF (ZB E.n168 (.inr rfl) _ _) E.f168]
 simp(disch:=omega) only[YQ,Zt,gN,Zu,ZX,Yf]
 generalize hL:WR (Ou _) fuel _ _ _=L
 obtain⟨o,SY,H1,rfl,_,rfl,rfl⟩:=Y9 (P:=λT'=>mH H 0 T' H) (Q:=λo Yp H'=>o=.exit 0∧H'=H)
  (λT' R0=>Xk (mH H) _ (λm tm H' h'=>zB _ m tm H' h') fuel 0 T' H (by have:=E.big;omega) R0) hL ⟨rfl,rfl,rfl⟩
 simp only[Zu,Zw,]
theorem Zc4(E:Env Zo fs fuel){n0 f lim:Nat}:ZG (LK Zo fs fuel k) fs fuel (n0+2) 198 [.nils,nI .i64 0,nI .i64 0,nI .i64 lim,.func f [] []] H=.ret (.tup []) H:=by
 rw[ZF (ZB E.n198 (.inr rfl) _ _) E.f198]
 have e1:=Zb8 E (k:=k) (n0:=n0) (f:=f) (H:=H)
 have d1:decide (0<=12)=true:=rfl
 simp only[yV,Zbg,Zu,Yf]
 generalize hL:WR (IF _) fuel _ _ _=L
 obtain⟨Yp,h⟩: ∃Yp,L=.ok .ret Yp H ⟨[],none⟩:=by
  have hF:0<fuel:=by have:=E.big;omega
  refine zP hL hF ?_
  simp(disch:=omega) only[d1,e1,Wy,TY,Sm,IF,Zu,ZX,Yf,]
  exact⟨_,rfl⟩
 subst h
 simp only[Zu,Zw,]
def ZhV(H0:Zc)(h:Nat)(M:List (List UInt8×JV))(v:AV)(H:Zc):Prop:=(M=[]∧v=.nils)∨(M≠[]∧ ∃b,v=.slice b 0 M.length none∧H0.nx<=b∧OS H0 h b (Xi TG M) H)
theorem Zk9(E:Env Zo fs fuel){n0 f:Nat}(hk:1<=k)(hf:yN Zo fs fuel k f){lo:Nat}{v:AV}{ms:List (List AV)}{M:List (List UInt8×JV)}(hn:M.length<=12)(Pj:H0.nx<=lo)(e:ms.length=M.length)(hE: ∀i,i<M.length->sF H0 h (ms.getD i []) (M.getD i default))(k0:Zp H0 H [])(rb:V0 H v 124 7 ms lo):
  ∃H',ZG (LK Zo fs fuel k) fs fuel (n0+4) 158 [v,.func f [] []] H=.ret (.tup []) H'∧Zp H0 H' []∧ZhV H0 h M v H':=by
 rw[ZF (ZB E.n158 (.inr rfl) _ _) E.f158]
 have el:=rb.len
 rw[e] at el
 have eb:=λ{j}=>ZaW E (k:=k) (n:=j) hk (x:=M.length) (by omega) (H:=H)
 rcases rb with⟨h1,rfl⟩|⟨h1,b,r,rfl,hr,hb⟩
 ·subst h1
  have hM:M=[]:=Yj.1 e.symm
  subst hM
  have ep:=λ{j}=>Zc4 E (k:=k) (n0:=j) (f:=f) (lim:=Qt 0) (H:=H)
  simp only[ZA] at el eb
  simp(disch:=omega) only[el,eb,ep,nt,Za9,Zu,ZX,Zw,Yf]
  refine⟨_,rfl,?_⟩
  exact⟨k0,.inl ⟨rfl,rfl⟩⟩
 ·have hM:M≠[]:=by rintro rfl;exact h1 (Yj.1 e)
  rw[e] at el ⊢
  obtain⟨H1,ep,k1,sr⟩:=Zc5 E (k:=k) (n0:=n0) (lim:=Qt M.length) hf (cp:=none) hn (Yt Pj hb) rfl k0 ⟨ms,r,hr,e,hE⟩
  simp(disch:=omega) only[el,eb,ep,nt,Za9,Zu,ZX,Zw,Yf]
  refine⟨_,rfl,?_⟩
  exact⟨k1,.inr ⟨hM,b,rfl,Yt Pj hb,sr⟩⟩
theorem Zds(E:Env Zo fs fuel){n0 f:Nat}(hk:1<=k)(hf:yN Zo fs fuel k f){vb:Nat}{src:AV}{ms:List (List AV)}{M:List (List UInt8×JV)}(sl:Sl H 7 src ms)(gv:H.t.get vb=some (rH 25 [src]))(lvb:vb<H.nx)(YL:H.ro<=H.nx)
  (hn:M.length<=12)(e:ms.length=M.length)(hE: ∀i,i<M.length->sF H h (ms.getD i []) (M.getD i default)):
  ∃v H',ZG (LK Zo fs fuel k) fs fuel (n0+5) 112 [.func 159 [] [.ptr vb 0],.func f [] []] H=.ret v H'∧Zp H H' []∧ZhV H h M v H':=by
 rw[ZF (ZB E.n112 (.inr rfl) _ _) E.f112]
 obtain⟨v,H1,e1,k1,rb,Nn⟩:=ZfO E (k:=k) (n0:=n0+2) sl (by omega) gv lvb (λi hi=>by
  obtain⟨_,t,e2,hv⟩:=hE i (by omega)
  rw[e2]
  exact⟨λn oY=>hv.low oY,by unfold Sg;rw[HU];exact hv.same⟩) (Zp.refl H []) YL
 have ec:ZG (LK Zo fs fuel k) fs fuel (n0+4) 157 [.func 159 [] [.ptr vb 0]] H=.ret v H1:=by
  rw[ZF (ZB E.n157 (.inr rfl) _ _) E.f157]
  simp only[e1,Zfc,Zu,ZX,Zw,Yf]
 obtain⟨H2,e2,k2,sr⟩:=Zk9 E (k:=k) (n0:=n0) hk hf hn (XZ _) e hE k1 rb
 simp only[ec,e2,ZeZ,Zu,ZX,Zw,Yf]
 refine⟨_,_,rfl,?_⟩
 exact⟨k2,sr⟩
end
end
end Go.AI
