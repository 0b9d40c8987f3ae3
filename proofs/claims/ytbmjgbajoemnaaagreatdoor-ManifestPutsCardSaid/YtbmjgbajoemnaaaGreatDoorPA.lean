/- Values that are checked: walked: proved without conditions but those that each names. -/
import Derived.Test.YtbmjgbajoemnaaaGreatDoorP8
import Derived.Test.YtbmjgbajoemnaaaGreatDoorP9
set_option maxRecDepth 1000000
set_option maxHeartbeats 0
set_option linter.unusedVariables false
set_option linter.unusedSimpArgs false
namespace Go.AI
open Go
noncomputable section
def XS:List (List UInt8)->List UInt8
 |[]=>[]
 |s::r=>s++r.flatMap λx=>44::x
def Ln(l:List (List UInt8)):Nat:=(l.map List.length).sum
theorem Ef(s:List UInt8)(l:List (List UInt8)):Ln (s::l)=s.length+Ln l:=by unfold Ln;simp
theorem uu(a b:List (List UInt8)):Ln (a++b)=Ln a+Ln b:=by unfold Ln;simp
theorem zd{l:List (List UInt8)}(h:l≠[])(r:List (List UInt8)):XS (l++r)=XS l++r.flatMap λx=>44::x:=by
 cases l with
 |nil=>exact absurd rfl h
 |cons s l=>show s++(l++r).flatMap _=(s++l.flatMap _)++_;rw[TD,Y6]
theorem AT: ∀r:List (List UInt8),(r.flatMap λx=>(44:UInt8)::x).length=r.length+Ln r
 |[]=>rfl
 |x::r=>by
  rw[List.flatMap_cons,Zf,AT r,Zh,Zh,Ef];omega
theorem ze{l:List (List UInt8)}(h:l≠[]):(XS l).length=(l.length - 1)+Ln l:=by
 cases l with
 |nil=>exact absurd rfl h
 |cons s l=>
  show(s++l.flatMap _).length=_
  rw[Zf,AT,Ef,Zh];omega
theorem TU{α:Type}[Inhabited α]{l:List α}{i:Nat}(h:i<l.length)(d:α):l.take (i+1)=l.take i++[l.getD i d]:=by
 rw[UH,Zg h,Za,Zg h];rfl
theorem M1{l:List (List UInt8)}{i:Nat}(h:i+1<l.length):XS (l.take (i+2))=XS (l.take (i+1))++[44]++l.getD (i+1) []:=by
 rw[TU h [],zd (by intro e;have:=congrArg List.length e;rw[ZP,Zv] at this;omega)]
 simp
theorem ve{l:List (List UInt8)}{k:Nat}(h:0<k)(hl:l≠[]):(XS (l.take k)).length<=(XS l).length:=by
 have e:l.take k≠[]:=by intro e;have:=congrArg List.length e;rw[ZP,Zv] at this;have:=Ws.2 hl;omega
 have:=zd e (l.drop k)
 rw[Th] at this
 rw[this,Zf];omega
theorem lE{l:List (List UInt8)}{i:Nat}(h:i<l.length):Ln (l.take (i+1))=Ln (l.take i)+(l.getD i []).length:=by
 rw[TU h [],uu];unfold Ln;simp
theorem aA(l:List (List UInt8))(k:Nat):Ln (l.take k)<=Ln l:=by
 have:=uu (l.take k) (l.drop k)
 rw[Th] at this;omega
inductive JV where
 |mk (k:Nat) (b:Bool) (n:Int) (s:List UInt8) (l:List JV) (m:List (List UInt8×JV))
instance:Inhabited JV:=⟨.mk 0 false 0 [] [] []⟩
namespace JV
def apart:JV->Bool
 |.mk k b n s l m=>(decide (k=2)||!b)&&(decide (k=3)||decide (n=0))&&(decide (k=4)||decide (s=[]))&&(decide (k=5)||decide (l.length=0))&&(decide (k=6)||decide (m.length=0))
def badM(f:JV->Bool):List (List UInt8)->List (List UInt8×JV)->Bool
 |_,[]=>false
 |seen,e::m=>decide (e.1∈seen)||!vu e.1||f e.2||badM f (seen++[e.1]) m
def wrong:Nat->JV->Bool
 |0,_=>false
 |d+1,.mk k b n s l m=>decide (k<1)||decide (6<k)||!apart (.mk k b n s l m)||!vu s||badM (wrong d) [] m||l.any (wrong d)
def deep:Nat->JV->Bool
 |0,_=>true
 |d+1,.mk _ _ _ _ l m=>l.any (deep d)||m.any λe=>deep d e.2
def check(v:JV):Nat:=if wrong 32 v then 1 else if deep 32 v then 23 else 0
end JV
section
def VR(H:Heap):Nat->JV->List AV->Prop
 |0,_,_=>False
 |h+1,.mk k b n s l m,cs=> ∃lv mv ls ms,cs=[nI .i64 k,.bool b,.int .i64 n,.str s,lv,mv]∧ -9223372036854775808<=n∧n<9223372036854775808∧s.length<=9000∧l.length<=9000∧m.length<=9000∧Sl H 6 lv ls∧Sl H 7 mv ms∧ls.length=l.length∧ms.length=m.length∧
  (∀i,i<l.length->VR H h (l.getD i default) (ls.getD i []))∧ ∀i,i<m.length->(m.getD i default).1.length<=9000∧ ∃t,ms.getD i []=.str (m.getD i default).1::t∧VR H h (m.getD i default).2 t
theorem VR.keep{H H':Heap}(k:Zq H H' []): ∀{h:Nat} {v:JV} {cs:List AV},VR H h v cs->VR H' h v cs
 |h+1,.mk _ _ _ _ l m,cs,⟨lv,mv,ls,ms,e,a1,a2,a3,a4,a5,sl,sm,e1,e2,hl,hm⟩=>
  ⟨lv,mv,ls,ms,e,a1,a2,a3,a4,a5,sl.keep0 k,sm.keep0 k,e1,e2,λi hi=>(hl i hi).keep k,λi hi=>by
   obtain⟨b,t,c,d⟩:=hm i hi
   exact⟨b,t,c,d.keep k⟩⟩
theorem VR.up{H:Heap}: ∀{h h':Nat} {v:JV} {cs:List AV},h<=h'->VR H h v cs->VR H h' v cs
 |h+1,h'+1,.mk _ _ _ _ l m,cs,hh,⟨lv,mv,ls,ms,e,a1,a2,a3,a4,a5,sl,sm,e1,e2,hl,hm⟩=>
  ⟨lv,mv,ls,ms,e,a1,a2,a3,a4,a5,sl,sm,e1,e2,λi hi=>(hl i hi).up (by omega),λi hi=>by
   obtain⟨b,t,c,d⟩:=hm i hi
   exact⟨b,t,c,d.up (by omega)⟩⟩
 |h+1,0,_,_,hh,_=>by omega
theorem VR.len{H:Heap}: ∀{h:Nat} {v:JV} {cs:List AV},VR H h v cs->cs.length=6
 |h+1,.mk _ _ _ _ l m,cs,⟨lv,mv,ls,ms,e,_⟩=>by rw[e];rfl
end
section
variable {Zp:Lib} {fs:T CF} {fuel k n i h b:Nat} {H H0:Heap} {s:List UInt8} {cs:List AV}
theorem jh(k:IntKind)(z:Int)(b:Nat)(H:Heap):Fd Sn false (.int k z) (nI k b) H=.val (.bool (decide (z=(b:Int)))) H:=Zbs k z b H
theorem Zfu(z:Int):decide (z=((0:Nat):Int))=decide (z=0):=rfl
def JV.apartL(kk:Nat)(b:Bool)(z:Int)(s:List UInt8)(ll ml:Nat):Bool:=(decide (kk=2)||!b)&&(decide (kk=3)||decide (z=0))&&(decide (kk=4)||decide (s=[]))&&(decide (kk=5)||decide (ll=0))&&(decide (kk=6)||decide (ml=0))
theorem Zdr{kk:Nat}{b:Bool}{z:Int}{lv mv:AV}{ll ml:Nat}{C:Ctx}{tm:TM}{x:X}{a:Bool}{b0:Nat}(t1:Y2 tm=.ptr b0 0)(ta:Xc tm=.bool a)(lo:b0<H.nx)(g1:H.t.get b0=some (rH 73 [nI .i64 kk,.bool b,.int .i64 z,.str s,lv,mv]))(el: ∀G,RV lv G=.val (nI .i64 ll) G)(em: ∀G,RV mv G=.val (nI .i64 ml) G): ∃tm',NA C tm H x=Ip C tm' H x∧Y2 tm'=.ptr b0 0∧WH tm'=.bool (a&&(decide (kk=3)||decide (z=0))):=by
 have t1':=t1
 simp only[PM,qN] at t1 ta
 cases a with
 |false=>
  simp only[QC,ta,NA,ZC,ZY,Z4]
  refine⟨_,rfl,(by simp only[ZY];exact t1'),?_⟩
  simp only[ZY,Y4,]
 |true=>
 by_cases k1:kk=3
 ·have d1:decide (kk=3)=true:=Ze k1
  simp(disch:=first|assumption|omega|(simp -implicitDefEqProofs only[ZQ,ZR]<;>first|assumption|omega)|decide) only[t1,ta,g1,YD,Z2,ZZ,d1,NA,ZC,ZY,Zw,Z4]
  refine⟨_,rfl,(by simp only[ZY];exact t1'),?_⟩
  simp only[ZY,Yz,VC,]
 have d1:decide (kk=3)=false:=Zb k1
 by_cases f1:z=0
 ·have d2:decide (z=0)=true:=Ze f1
  simp(disch:=first|assumption|omega|(simp -implicitDefEqProofs only[ZQ,ZR]<;>first|assumption|omega)|decide) only[t1,ta,g1,YD,jh,Zfu,Z2,ZZ,Zs,d1,d2,NA,ZC,ZY,Zw,Z4]
  refine⟨_,rfl,(by simp only[ZY];exact t1'),?_⟩
  simp only[ZY,Yz,Wh,]
 ·have d2:decide (z=0)=false:=Zb f1
  simp(disch:=first|assumption|omega|(simp -implicitDefEqProofs only[ZQ,ZR]<;>first|assumption|omega)|decide) only[t1,ta,g1,YD,jh,Zfu,Z2,ZZ,Zs,d1,d2,NA,ZC,ZY,Zw,Z4]
  refine⟨_,rfl,(by simp only[ZY];exact t1'),?_⟩
  simp only[ZY,Yz,Wh,]
theorem Zds{kk:Nat}{b:Bool}{z:Int}{lv mv:AV}{ll ml:Nat}{C:Ctx}{tm:TM}{x:X}{a:Bool}{b0:Nat}(t1:Y2 tm=.ptr b0 0)(ta:WH tm=.bool a)(lo:b0<H.nx)(g1:H.t.get b0=some (rH 73 [nI .i64 kk,.bool b,.int .i64 z,.str s,lv,mv]))(el: ∀G,RV lv G=.val (nI .i64 ll) G)(em: ∀G,RV mv G=.val (nI .i64 ml) G): ∃tm',Ip C tm H x=Iq C tm' H x∧Y2 tm'=.ptr b0 0∧VL tm'=.bool (a&&(decide (kk=4)||decide (s=[]))):=by
 have t1':=t1
 simp only[PM,ZeI] at t1 ta
 cases a with
 |false=>
  simp only[QC,ta,Ip,ZC,ZY,Z4]
  refine⟨_,rfl,(by simp only[ZY];exact t1'),?_⟩
  simp only[ZY,Y4,]
 |true=>
 by_cases k1:kk=4
 ·have d1:decide (kk=4)=true:=Ze k1
  simp(disch:=first|assumption|omega|(simp -implicitDefEqProofs only[ZQ,ZR]<;>first|assumption|omega)|decide) only[t1,ta,g1,YD,Z2,ZZ,d1,Ip,ZC,ZY,Zw,Z4]
  refine⟨_,rfl,(by simp only[ZY];exact t1'),?_⟩
  simp only[ZY,Yz,VC,]
 have d1:decide (kk=4)=false:=Zb k1
 by_cases f1:s=[]
 ·have d2:decide (s=[])=true:=Ze f1
  simp(disch:=first|assumption|omega|(simp -implicitDefEqProofs only[ZQ,ZR]<;>first|assumption|omega)|decide) only[t1,ta,g1,YD,Tq,Z2,ZZ,Zs,d1,d2,Ip,ZC,ZY,Zw,Z4]
  refine⟨_,rfl,(by simp only[ZY];exact t1'),?_⟩
  simp only[ZY,Yz,Wh,]
 ·have d2:decide (s=[])=false:=Zb f1
  simp(disch:=first|assumption|omega|(simp -implicitDefEqProofs only[ZQ,ZR]<;>first|assumption|omega)|decide) only[t1,ta,g1,YD,Tq,Z2,ZZ,Zs,d1,d2,Ip,ZC,ZY,Zw,Z4]
  refine⟨_,rfl,(by simp only[ZY];exact t1'),?_⟩
  simp only[ZY,Yz,Wh,]
theorem Zdt{kk:Nat}{b:Bool}{z:Int}{lv mv:AV}{ll ml:Nat}{C:Ctx}{tm:TM}{x:X}{a:Bool}{b0:Nat}(t1:Y2 tm=.ptr b0 0)(ta:VL tm=.bool a)(lo:b0<H.nx)(g1:H.t.get b0=some (rH 73 [nI .i64 kk,.bool b,.int .i64 z,.str s,lv,mv]))(el: ∀G,RV lv G=.val (nI .i64 ll) G)(em: ∀G,RV mv G=.val (nI .i64 ml) G): ∃tm',Iq C tm H x=Ir C tm' H x∧Y2 tm'=.ptr b0 0∧UM tm'=.bool (a&&(decide (kk=5)||decide (ll=0))):=by
 have t1':=t1
 simp only[PM,jA] at t1 ta
 cases a with
 |false=>
  simp only[QC,ta,Iq,ZC,ZY,Z4,WG]
  refine⟨_,rfl,(by simp only[ZY];exact t1'),?_⟩
  simp only[ZY,Y4,]
 |true=>
 by_cases k1:kk=5
 ·have d1:decide (kk=5)=true:=Ze k1
  simp(disch:=first|assumption|omega|(simp -implicitDefEqProofs only[ZQ,ZR]<;>first|assumption|omega)|decide) only[t1,ta,g1,YD,Z2,ZZ,d1,Iq,ZC,ZY,Zw,Z4,WG]
  refine⟨_,rfl,(by simp only[ZY];exact t1'),?_⟩
  simp only[ZY,Yz,VC,]
 have d1:decide (kk=5)=false:=Zb k1
 by_cases f1:ll=0
 ·have d2:decide (ll=0)=true:=Ze f1
  simp(disch:=first|assumption|omega|(simp -implicitDefEqProofs only[ZQ,ZR]<;>first|assumption|omega)|decide) only[t1,ta,g1,YD,el,Z2,ZZ,Zs,d1,d2,Iq,ZC,ZY,Zw,Z4,WG]
  refine⟨_,rfl,(by simp only[ZY];exact t1'),?_⟩
  simp only[ZY,Yz,Wh,]
 ·have d2:decide (ll=0)=false:=Zb f1
  simp(disch:=first|assumption|omega|(simp -implicitDefEqProofs only[ZQ,ZR]<;>first|assumption|omega)|decide) only[t1,ta,g1,YD,el,Z2,ZZ,Zs,d1,d2,Iq,ZC,ZY,Zw,Z4,WG]
  refine⟨_,rfl,(by simp only[ZY];exact t1'),?_⟩
  simp only[ZY,Yz,Wh,]
theorem Zdu{kk:Nat}{b:Bool}{z:Int}{lv mv:AV}{ll ml:Nat}{C:Ctx}{tm:TM}{x:X}{a:Bool}{b0:Nat}(t1:Y2 tm=.ptr b0 0)(ta:UM tm=.bool a)(lo:b0<H.nx)(g1:H.t.get b0=some (rH 73 [nI .i64 kk,.bool b,.int .i64 z,.str s,lv,mv]))(el: ∀G,RV lv G=.val (nI .i64 ll) G)(em: ∀G,RV mv G=.val (nI .i64 ml) G): ∃tm',Ir C tm H x=.ok .normal tm' H x∧Xy tm'=.bool (a&&(decide (kk=6)||decide (ml=0))):=by
 simp only[PM,ZeP] at t1 ta
 cases a with
 |false=>
  simp only[QC,ta,Ir,ZC,ZY,Z4,WG]
  refine⟨_,rfl,?_⟩
  simp only[ZY,Y4,]
 |true=>
 by_cases k1:kk=6
 ·have d1:decide (kk=6)=true:=Ze k1
  simp(disch:=first|assumption|omega|(simp -implicitDefEqProofs only[ZQ,ZR]<;>first|assumption|omega)|decide) only[t1,ta,g1,YD,Z2,ZZ,d1,Ir,ZC,ZY,Zw,Z4,WG]
  refine⟨_,rfl,?_⟩
  simp only[ZY,Yz,VC,]
 have d1:decide (kk=6)=false:=Zb k1
 by_cases f1:ml=0
 ·have d2:decide (ml=0)=true:=Ze f1
  simp(disch:=first|assumption|omega|(simp -implicitDefEqProofs only[ZQ,ZR]<;>first|assumption|omega)|decide) only[t1,ta,g1,YD,em,Z2,ZZ,Zs,d1,d2,Ir,ZC,ZY,Zw,Z4,WG]
  refine⟨_,rfl,?_⟩
  simp only[ZY,Yz,Wh,]
 ·have d2:decide (ml=0)=false:=Zb f1
  simp(disch:=first|assumption|omega|(simp -implicitDefEqProofs only[ZQ,ZR]<;>first|assumption|omega)|decide) only[t1,ta,g1,YD,em,Z2,ZZ,Zs,d1,d2,Ir,ZC,ZY,Zw,Z4,WG]
  refine⟨_,rfl,?_⟩
  simp only[ZY,Yz,Wh,]
theorem uN(E:Env Zp fs fuel){kk:Nat}{b:Bool}{z:Int}{lv mv:AV}{ll ml:Nat}(el: ∀G,RV lv G=.val (nI .i64 ll) G)(em: ∀G,RV mv G=.val (nI .i64 ml) G):
  ∃H',ZJ (LK Zp fs fuel 0) fs fuel (n+2) 74 [.agg [nI .i64 kk,.bool b,.int .i64 z,.str s,lv,mv]] H=.ret (.bool (JV.apartL kk b z s ll ml)) H'∧Zq H H' []:=by
 rw[ZL (ZF E.n74 (.inl (by decide)) _ _) E.f74]
 obtain⟨H1,hH1⟩:=XZ (Heap.new H (rH 73 [nI .i64 kk,.bool b,.int .i64 z,.str s,lv,mv]))
 have U2:H1.nx=H.nx+1:=by rw[<-hH1];rfl
 have g1:H1.t.get H.nx=some (rH 73 [nI .i64 kk,.bool b,.int .i64 z,.str s,lv,mv]):=by rw[<-hH1,Zx rfl]
 have k1:Zq H H1 []:=by rw[<-hH1];exact Zq.new H _ _
 have lo:H.nx<H1.nx:=by omega
 have fin: ∀{C:Ctx} {tm:TM} {x:X} {L:Wd},NA C tm H1 x=L->Y2 tm=.ptr H.nx 0->Xc tm=.bool (decide (kk=2)||!b)-> ∃tm',L=.ok .normal tm' H1 x∧Xy tm'=.bool (JV.apartL kk b z s ll ml):=by
  intro C tm x L hL a1 a2
  obtain⟨Tx,e1,b1,b2⟩:=Zdr (C:=C) (x:=x) a1 a2 lo g1 el em
  obtain⟨fL,e2,c1,c2⟩:=Zds (C:=C) (x:=x) b1 b2 lo g1 el em
  obtain⟨tm3,e3,d1,d2⟩:=Zdt (C:=C) (x:=x) c1 c2 lo g1 el em
  obtain⟨tm4,e4,f1⟩:=Zdu (C:=C) (x:=x) d1 d2 lo g1 el em
  exact⟨tm4,by rw[<-hL,e1,e2,e3,e4],f1⟩
 by_cases k2:kk=2
 ·have d1:decide (kk=2)=true:=Ze k2
  simp(disch:=first|assumption|omega|(simp -implicitDefEqProofs only[ZQ,ZR]<;>first|assumption|omega)|decide) only[g1,hH1,YD,Z2,YU,d1,c74,ZC,ZY,Zw,Z4]
  generalize hS:NA _ _ _ _=L
  obtain⟨Tx,rfl,f2⟩:=fin hS rfl (by simp only[Z4,ZY,VC,d1])
  simp only[PN] at f2
  simp only[f2,ZC,Zz,Z4]
  refine⟨_,rfl,?_⟩
  exact k1
 have d1:decide (kk=2)=false:=Zb k2
 cases b with
 |false=>
  simp(disch:=first|assumption|omega|(simp -implicitDefEqProofs only[ZQ,ZR]<;>first|assumption|omega)|decide) only[g1,hH1,YD,Z2,d1,c74,ZC,ZY,Zz,Zw,Z4]
  generalize hS:NA _ _ _ _=L
  obtain⟨Tx,rfl,f2⟩:=fin hS rfl (by simp only[Z4,ZY,Wh,Xi,d1])
  simp only[PN] at f2
  simp only[f2,ZC,Zz,Z4]
  refine⟨_,rfl,?_⟩
  exact k1
 |true=>
  simp(disch:=first|assumption|omega|(simp -implicitDefEqProofs only[ZQ,ZR]<;>first|assumption|omega)|decide) only[g1,hH1,YD,Z2,d1,c74,ZC,ZY,Zz,Zw,Z4]
  generalize hS:NA _ _ _ _=L
  obtain⟨Tx,rfl,f2⟩:=fin hS rfl (by simp only[Z4,ZY,Wh,Xn,d1])
  simp only[PN] at f2
  simp only[f2,ZC,Zz,Z4]
  refine⟨_,rfl,?_⟩
  exact k1
theorem ZaY(E:Env Zp fs fuel)(hk:1<=k){kk:Nat}{b:Bool}{z:Int}{lv mv:AV}{ll ml:Nat}(el: ∀G,RV lv G=.val (nI .i64 ll) G)(em: ∀G,RV mv G=.val (nI .i64 ml) G):
  ZJ (LK Zp fs fuel k) fs fuel (n+1) 74 [.agg [nI .i64 kk,.bool b,.int .i64 z,.str s,lv,mv]] H=.ret (.bool (JV.apartL kk b z s ll ml)) H:=by
 obtain⟨H',e,g⟩:=uN E (n:=898) (H:=H) el em
 exact Wn (r:=0) rfl rfl e g (rfl) hk
structure IXV(H0:Heap)(v:AV)(len:Nat)(pf:AV)(p:Nat->Bool)(m:Nat)(tm:TM)(H:Heap):Prop where
 i: ∃i,Wc tm=nI .i64 i∧i<=len∧m=len - i∧ ∀j,j<i->p j=false
 t0:Ys tm=v
 t1:Y2 tm=pf
 t7:WB tm=nI .i64 len
 k:Zq H0 H []
theorem jV(E:Env Zp fs fuel){q:Nat}{v:AV}{ls:List (List AV)}{a b:List AV}(h:Sl H0 6 v ls)(hl:ls.length<=9000){p:Nat->Bool}
  (hp: ∀i,i<ls.length-> ∀G,Zq H0 G []-> ∃G',ZJ (LK Zp fs fuel k) fs fuel n q (a++([.agg (ls.getD i [])]++b)) G=.ret (.bool (p i)) G'∧Zq G G' [])(y f d r)(x:X)(m:Nat)(tm:TM)(H:Heap)(hI:IXV H0 v ls.length (.func q a b) p m tm H):
  ∃o tm' H',Ft ⟨ZJ (LK Zp fs fuel k) fs fuel n,y,f,d,r⟩ tm H x=.ok o tm' H' x∧((o=.normal∧ ∃k,k<m∧IXV H0 v ls.length (.func q a b) p k tm' H')∨(o≠.normal∧Zq H0 H' []∧((o=.exit 0∧Mg p ls.length=.int .i64 (.negSucc 0))∨(o=.ret∧Xf tm'=Mg p ls.length)))):=by
 obtain⟨⟨i,t8,hi,rfl,hf⟩,t0,t1,t7,k0⟩:=hI
 simp only[Jw] at t8
 have t0':=t0;have t1':=t1;have lZ:=t7
 simp only[Pn,PM,CK] at t0 t1 t7
 by_cases hlt:i<ls.length
 ·have d1:decide (i<ls.length)=true:=Ze hlt
  obtain⟨b',o',r',eI,hb,gb,eL,_⟩:=(h.keep0 k0).at_ hlt
  obtain⟨G',eC,kC⟩:=hp i hlt H k0
  cases hpi:p i with
  |true=>
   rw[hpi] at eC
   simp only[t0,t1,t7,t8,d1,eI,gb,eL,eC,ZH,Ft,ZC,ZY,Zz,Z4]
   refine⟨_,_,_,rfl,?_⟩
   exact .inr ⟨by simp,k0.trans kC (by simp),.inr ⟨rfl,by unfold Mg;rw[AS hlt hf hpi];rfl⟩⟩
  |false=>
   rw[hpi] at eC
   simp(disch:=omega) only[t0,t1,t7,t8,d1,eI,gb,eL,eC,ZH,YZ,Ft,ZC,ZY,Zz,Z4]
   exact⟨_,_,_,rfl,.inl ⟨rfl,ls.length - (i+1),by omega,⟨i+1,rfl,by omega,rfl,λj hj=>by
    by_cases e:j=i
    ·subst e;exact hpi
    ·exact hf j (by omega)⟩,t0',t1',lZ,k0.trans kC (by simp)⟩⟩
 ·have d1:decide (i<ls.length)=false:=Zb hlt
  simp only[t7,t8,d1,ZH,Ft,ZC,ZY,Z4]
  refine⟨_,_,_,rfl,?_⟩
  exact .inr ⟨by simp,k0,.inl ⟨rfl,by unfold Mg;rw[AR λj hj=>hf j (by omega)]⟩⟩
theorem ixV(E:Env Zp fs fuel){q:Nat}{v:AV}{ls:List (List AV)}{a b:List AV}(h:Sl H 6 v ls)(hl:ls.length<=9000){p:Nat->Bool}
  (hp: ∀i,i<ls.length-> ∀G,Zq H G []-> ∃G',ZJ (LK Zp fs fuel k) fs fuel n q (a++([.agg (ls.getD i [])]++b)) G=.ret (.bool (p i)) G'∧Zq G G' []):
  ∃H',ZJ (LK Zp fs fuel k) fs fuel (n+1) 90 [v,.func q a b] H=.ret (Mg p ls.length) H'∧Zq H H' []:=by
 rw[ZL (ZF E.n90 (.inr rfl) _ _) E.f90]
 have el:=h.len
 simp only[el,c90,ZC,ZY,Z4]
 generalize hL:XQ (Ft _) fuel _ _ _=L
 obtain⟨o,Tx,H1,rfl,_,k1,hq⟩:=YA (P:=λT=>IXV H v ls.length (.func q a b) p ls.length T H) (Q:=λo tm H'=>Zq H H' []∧((o=.exit 0∧Mg p ls.length=.int .i64 (.negSucc 0))∨(o=.ret∧Xf tm=Mg p ls.length)))
  (λT hi'=>YK (IXV H v ls.length (.func q a b) p) (λo tm H'=>Zq H H' []∧((o=.exit 0∧Mg p ls.length=.int .i64 (.negSucc 0))∨(o=.ret∧Xf tm=Mg p ls.length))) (λm tm H' h'=>jV E h hl hp _ _ _ _ _ m tm H' h') fuel ls.length T H (by have:=E.big;omega) hi') hL
  ⟨⟨0,rfl,Z8 _,rfl,λj hj=>by omega⟩,rfl,rfl,rfl,Zq.refl _ _⟩
 rcases hq with⟨rfl,e⟩|⟨rfl,e⟩
 ·rw[e]
  simp only[ZC,ZY,Zz,Z4]
  refine⟨_,rfl,?_⟩
  exact k1
 ·simp only[OI] at e
  simp only[e,ZC,Zz,Z4]
  refine⟨_,rfl,?_⟩
  exact k1
theorem cfV(E:Env Zp fs fuel){q:Nat}{v:AV}{ls:List (List AV)}{a b:List AV}(h:Sl H 6 v ls)(hl:ls.length<=9000){p:Nat->Bool}
  (hp: ∀i,i<ls.length-> ∀G,Zq H G []-> ∃G',ZJ (LK Zp fs fuel k) fs fuel n q (a++([.agg (ls.getD i [])]++b)) G=.ret (.bool (p i)) G'∧Zq G G' []):
  ∃H',ZJ (LK Zp fs fuel k) fs fuel (n+2) 75 [v,.func q a b] H=.ret (.bool ((List.range ls.length).any p)) H'∧Zq H H' []:=by
 rw[ZL (ZF E.n75 (.inr rfl) _ _) E.f75]
 obtain⟨H1,e1,k1⟩:=ixV E h hl hp
 simp only[e1,qV,c75,ZC,ZY,Zz,Z4]
 refine⟨_,rfl,?_⟩
 exact k1
structure IXE(H0:Heap)(v:AV)(len:Nat)(pf:AV)(p:Nat->Bool)(m:Nat)(tm:TM)(H:Heap):Prop where
 i: ∃i,Wc tm=nI .i64 i∧i<=len∧m=len - i∧ ∀j,j<i->p j=false
 t0:Ys tm=v
 t1:Y2 tm=pf
 t7:WB tm=nI .i64 len
 k:Zq H0 H []
theorem jU(E:Env Zp fs fuel){q:Nat}{v:AV}{ls:List (List AV)}{a b:List AV}(h:Sl H0 7 v ls)(hl:ls.length<=9000){p:Nat->Bool}
  (hp: ∀i,i<ls.length-> ∀G,Zq H0 G []-> ∃G',ZJ (LK Zp fs fuel k) fs fuel n q (a++([.agg (ls.getD i [])]++b)) G=.ret (.bool (p i)) G'∧Zq G G' [])(y f d r)(x:X)(m:Nat)(tm:TM)(H:Heap)(hI:IXE H0 v ls.length (.func q a b) p m tm H):
  ∃o tm' H',Fu ⟨ZJ (LK Zp fs fuel k) fs fuel n,y,f,d,r⟩ tm H x=.ok o tm' H' x∧((o=.normal∧ ∃k,k<m∧IXE H0 v ls.length (.func q a b) p k tm' H')∨(o≠.normal∧Zq H0 H' []∧((o=.exit 0∧Mg p ls.length=.int .i64 (.negSucc 0))∨(o=.ret∧Xf tm'=Mg p ls.length)))):=by
 obtain⟨⟨i,t8,hi,rfl,hf⟩,t0,t1,t7,k0⟩:=hI
 simp only[Jw] at t8
 have t0':=t0;have t1':=t1;have lZ:=t7
 simp only[Pn,PM,CK] at t0 t1 t7
 by_cases hlt:i<ls.length
 ·have d1:decide (i<ls.length)=true:=Ze hlt
  obtain⟨b',o',r',eI,hb,gb,eL,_⟩:=(h.keep0 k0).at_ hlt
  obtain⟨G',eC,kC⟩:=hp i hlt H k0
  cases hpi:p i with
  |true=>
   rw[hpi] at eC
   simp only[t0,t1,t7,t8,d1,eI,gb,eL,eC,ZH,Fu,ZC,ZY,Zz,Z4]
   refine⟨_,_,_,rfl,?_⟩
   exact .inr ⟨by simp,k0.trans kC (by simp),.inr ⟨rfl,by unfold Mg;rw[AS hlt hf hpi];rfl⟩⟩
  |false=>
   rw[hpi] at eC
   simp(disch:=omega) only[t0,t1,t7,t8,d1,eI,gb,eL,eC,ZH,YZ,Fu,ZC,ZY,Zz,Z4]
   exact⟨_,_,_,rfl,.inl ⟨rfl,ls.length - (i+1),by omega,⟨i+1,rfl,by omega,rfl,λj hj=>by
    by_cases e:j=i
    ·subst e;exact hpi
    ·exact hf j (by omega)⟩,t0',t1',lZ,k0.trans kC (by simp)⟩⟩
 ·have d1:decide (i<ls.length)=false:=Zb hlt
  simp only[t7,t8,d1,ZH,Fu,ZC,ZY,Z4]
  refine⟨_,_,_,rfl,?_⟩
  exact .inr ⟨by simp,k0,.inl ⟨rfl,by unfold Mg;rw[AR λj hj=>hf j (by omega)]⟩⟩
theorem ixE(E:Env Zp fs fuel){q:Nat}{v:AV}{ls:List (List AV)}{a b:List AV}(h:Sl H 7 v ls)(hl:ls.length<=9000){p:Nat->Bool}
  (hp: ∀i,i<ls.length-> ∀G,Zq H G []-> ∃G',ZJ (LK Zp fs fuel k) fs fuel n q (a++([.agg (ls.getD i [])]++b)) G=.ret (.bool (p i)) G'∧Zq G G' []):
  ∃H',ZJ (LK Zp fs fuel k) fs fuel (n+1) 91 [v,.func q a b] H=.ret (Mg p ls.length) H'∧Zq H H' []:=by
 rw[ZL (ZF E.n91 (.inr rfl) _ _) E.f91]
 have el:=h.len
 simp only[el,c91,ZC,ZY,Z4]
 generalize hL:XQ (Fu _) fuel _ _ _=L
 obtain⟨o,Tx,H1,rfl,_,k1,hq⟩:=YA (P:=λT=>IXE H v ls.length (.func q a b) p ls.length T H) (Q:=λo tm H'=>Zq H H' []∧((o=.exit 0∧Mg p ls.length=.int .i64 (.negSucc 0))∨(o=.ret∧Xf tm=Mg p ls.length)))
  (λT hi'=>YK (IXE H v ls.length (.func q a b) p) (λo tm H'=>Zq H H' []∧((o=.exit 0∧Mg p ls.length=.int .i64 (.negSucc 0))∨(o=.ret∧Xf tm=Mg p ls.length))) (λm tm H' h'=>jU E h hl hp _ _ _ _ _ m tm H' h') fuel ls.length T H (by have:=E.big;omega) hi') hL
  ⟨⟨0,rfl,Z8 _,rfl,λj hj=>by omega⟩,rfl,rfl,rfl,Zq.refl _ _⟩
 rcases hq with⟨rfl,e⟩|⟨rfl,e⟩
 ·rw[e]
  simp only[ZC,ZY,Zz,Z4]
  refine⟨_,rfl,?_⟩
  exact k1
 ·simp only[OI] at e
  simp only[e,ZC,Zz,Z4]
  refine⟨_,rfl,?_⟩
  exact k1
theorem cfE(E:Env Zp fs fuel){q:Nat}{v:AV}{ls:List (List AV)}{a b:List AV}(h:Sl H 7 v ls)(hl:ls.length<=9000){p:Nat->Bool}
  (hp: ∀i,i<ls.length-> ∀G,Zq H G []-> ∃G',ZJ (LK Zp fs fuel k) fs fuel n q (a++([.agg (ls.getD i [])]++b)) G=.ret (.bool (p i)) G'∧Zq G G' []):
  ∃H',ZJ (LK Zp fs fuel k) fs fuel (n+2) 78 [v,.func q a b] H=.ret (.bool ((List.range ls.length).any p)) H'∧Zq H H' []:=by
 rw[ZL (ZF E.n78 (.inr rfl) _ _) E.f78]
 obtain⟨H1,e1,k1⟩:=ixE E h hl hp
 simp only[e1,qV,c78,ZC,ZY,Zz,Z4]
 refine⟨_,rfl,?_⟩
 exact k1
theorem kl(k:Nat)(b:Bool)(n:Int)(s:List UInt8)(l:List JV)(m:List (List UInt8×JV)):JV.apart (.mk k b n s l m)=JV.apartL k b n s l.length m.length:=rfl
theorem oc(f:JV->Bool)(seen:List (List UInt8))(m:List (List UInt8×JV))(i:Nat)(h:i<m.length):JV.badM f seen (m.drop i)=(decide ((m.getD i default).1∈seen)||!vu (m.getD i default).1||f (m.getD i default).2||JV.badM f (seen++[(m.getD i default).1]) (m.drop (i+1))):=by
 rw[List.drop_eq_getElem_cons h,Za,Zg h];rfl
theorem ux{m:List (List UInt8×JV)}(h:i<m.length):(m.take (i+1)).map (·.1)=(m.take i).map (·.1)++[(m.getD i default).1]:=by
 rw[UH,Zg h,Xe,Za,Zg h];rfl
structure WM(H0:Heap)(d:Nat)(cs:List AV)(mv:AV)(mm:List (List UInt8×JV))(m:Nat)(tm:TM)(H:Heap):Prop where
 i: ∃i,UV tm=nI .i64 i∧i<=mm.length∧m=mm.length - i∧JV.badM (JV.wrong d) [] mm=JV.badM (JV.wrong d) ((mm.take i).map (·.1)) (mm.drop i)∧ ∃es q,H.t.get (H0.nx+2)=some (.map es q)∧Seen es ((mm.take i).map (·.1))
 t2:Xy tm=.ptr H0.nx 0
 t3:XK tm=.ptr (H0.nx+1) 0
 t5:X5 tm=.map (H0.nx+2)
 t31:VL tm=mv
 t32:Un tm=nI .i64 mm.length
 k:Zq H0 H []
 n:H0.nx+3<=H.nx
 g0:H.t.get H0.nx=some (rH 73 cs)
 g1:H.t.get (H0.nx+1)=some (rH 3 [nI .i64 (d+1)])
theorem qd(E:Env Zp fs fuel){d:Nat}(hd:d<=100)(ih: ∀{h:Nat} {v:JV} {cs:List AV} {H:Heap},Vy H->H.ro<=H.nx->VR H h v cs-> ∃H',ZJ (LK Zp fs fuel 2) fs fuel n 59 [.agg cs,nI .i64 d] H=.ret (.bool (JV.wrong d v)) H'∧Zq H H' []){mv:AV}{mm:List (List UInt8×JV)}{ms:List (List AV)}(g:Vy H0)(hro:H0.ro<=H0.nx)(sm:Sl H0 7 mv ms)(e2:ms.length=mm.length)(hl:mm.length<=9000)
  (hm: ∀i,i<mm.length->(mm.getD i default).1.length<=9000∧ ∃t,ms.getD i []=.str (mm.getD i default).1::t∧VR H0 h (mm.getD i default).2 t)(hn: ∃q,n=q+1)(y f r)(dd)(x:X)(m:Nat)(tm:TM)(H:Heap)(hI:WM H0 d cs mv mm m tm H):
  ∃o tm' H',LX ⟨ZJ (LK Zp fs fuel 2) fs fuel n,y,f,r,dd⟩ tm H x=.ok o tm' H' x∧((o=.normal∧ ∃k,k<m∧WM H0 d cs mv mm k tm' H')∨(o≠.normal∧Zq H0 H' []∧((o=.ret∧Xf tm'=.bool true∧JV.badM (JV.wrong d) [] mm=true)∨(o=.exit 0∧JV.badM (JV.wrong d) [] mm=false∧Xy tm'=.ptr H0.nx 0∧XK tm'=.ptr (H0.nx+1) 0∧H0.nx+3<=H'.nx∧H'.t.get H0.nx=some (rH 73 cs)∧H'.t.get (H0.nx+1)=some (rH 3 [nI .i64 (d+1)]))))):=by
 obtain⟨⟨i,t33,hi,rfl,hbad,es,c,gm,wU⟩,t2,t3,t5,t31,t32,k0,hnx,g0,g1⟩:=hI
 have t2':=t2;have O9:=t3;have aC:=t5;have ZcP:=t31;have ZcQ:=t32
 simp only[PN,Qg,yL,jA,Zac,Zad] at t2 t3 t5 t31 t32 t33
 by_cases hlt:i<mm.length
 ·have d1:decide (i<mm.length)=true:=Ze hlt
  obtain⟨b',o',r',eI,hb,gb,eL,_⟩:=(sm.keep0 k0).at_ (i:=i) (by omega)
  obtain⟨hk9,tt,etl,hv⟩:=hm i hlt
  rw[etl] at eL
  rw[oc _ _ _ _ hlt] at hbad
  have htl:=hv.len
  generalize hkey:(mm.getD i default).1=key at*
  generalize hval:(mm.getD i default).2=vv at*
  obtain⟨HA,hA⟩:=XZ (H.new (rH 77 (.str key::tt)))
  have nxA:HA.nx=H.nx+1:=by rw[<-hA];rfl
  have roA:HA.ro=H0.ro:=by rw[<-hA];exact k0.ro
  have kA:Zq H0 HA []:=by rw[<-hA];exact k0.then_new _
  have ga0:HA.t.get H0.nx=some (rH 73 cs):=by rw[<-hA,YV (by omega)];exact g0
  have ga1:HA.t.get (H0.nx+1)=some (rH 3 [nI .i64 (d+1)]):=by rw[<-hA,YV (by omega)];exact g1
  have ga2:HA.t.get (H0.nx+2)=some (.map es c):=by rw[<-hA,YV (by omega)];exact gm
  have gaN:HA.t.get H.nx=some (rH 77 (.str key::tt)):=by rw[<-hA,Zx rfl]
  have lk:=λ(G:Heap)=>ik (c:=c) wU key G
  have hBt: ∀(G:Heap),G.ro<=H.nx->rK 7 (some (rH 77 eV)) H.nx 0 (.agg (.str key::tt)) G=.val Xl (G.put H.nx (rH 77 (.str key::tt))):=λG hG=>WQ (n:=7) (l:=eV) (vs:=.str key::tt) (by rfl) (by rw[Zh,htl]) (by omega) hG _ _ _ _
  have hrn:(H.new (rH 77 eV)).ro<=H.nx:=by show H.ro<=_;rw[k0.ro];omega
  have hB:=hBt _ hrn
  rw[SU rfl,hA] at hB
  have ldt: ∀(G:Heap),ldN 6 (some (rH 77 (.str key::tt))) 1 G=.val (.agg tt) G:=λG=>by
   rw[X8 (by rw[Zh,htl];omega)]
   congr 2
   rw[WS,Z6,ZB (by omega)]
  have ld0: ∀(G:Heap),ld1 (some (rH 77 (.str key::tt))) 0 G=.val (.str key) G:=λG=>by
   rw[Z2 (by rw[Zh];omega)];rfl
  obtain⟨q,rfl⟩:=hn
  by_cases hs:key∈(mm.take i).map (·.1)
  ·rw[if_pos hs] at lk
   have b1:JV.badM (JV.wrong d) [] mm=true:=by rw[hbad,Ze hs];rfl
   have dl:decide (0<1)=true:=rfl
   simp only[t5,t31,t32,t33,d1,eI,gb,eL,hB,ga2,gaN,ld0,lk,ZH,Yi,M4,Gg,dl,LX,ZC,ZY,Zz,Zw,Z4,WG]
   refine⟨_,_,_,rfl,?_⟩
   exact .inr ⟨by simp,kA,.inl ⟨rfl,rfl,b1⟩⟩
  ·rw[if_neg hs] at lk
   have dl:decide (0<0)=false:=rfl
   have ev:=λ{j}=>ZcX E (k:=2) (n:=j) (by decide) (s:=key) (H:=HA) (g.keep0 kA) (by omega) (by omega)
   cases hvu:vu key with
   |false=>
    rw[hvu] at ev
    have b1:JV.badM (JV.wrong d) [] mm=true:=by rw[hbad,hvu];simp
    simp only[t5,t31,t32,t33,d1,eI,gb,eL,hB,ga2,gaN,ld0,lk,ZH,Yi,M4,Gg,dl,ev,LX,ZC,ZY,Zz,Zw,Z4,WG]
    refine⟨_,_,_,rfl,?_⟩
    exact .inr ⟨by simp,kA,.inl ⟨rfl,rfl,b1⟩⟩
   |true=>
    rw[hvu] at ev
    obtain⟨HC,eC,kC⟩:=ih (g.keep0 kA) (by omega) (hv.keep kA)
    cases hw:JV.wrong d vv with
    |true=>
     rw[hw] at eC
     have b1:JV.badM (JV.wrong d) [] mm=true:=by rw[hbad,hw];simp
     simp(disch:=first|assumption|omega|(simp -implicitDefEqProofs only[ZQ,ZR]<;>first|assumption|omega)|decide) only[t3,t5,t31,t32,t33,d1,eI,gb,eL,hB,ga1,ga2,gaN,ld0,ldt,lk,ZH,Yi,M4,Gg,Z2,Vj,Va,dl,ev,eC,LX,ZC,ZY,Zz,Zw,Z4,WG]
     refine⟨_,_,_,rfl,?_⟩
     exact .inr ⟨by simp,kA.trans kC (by simp),.inl ⟨rfl,rfl,b1⟩⟩
    |false=>
     rw[hw] at eC
     rw[Zb hs,hvu,hw] at hbad
     have kAC:=kA.trans kC (by simp)
     have c0:HC.t.get H0.nx=some (rH 73 cs):=by rw[kC.get _ (by omega) (by simp)];exact ga0
     have c1:HC.t.get (H0.nx+1)=some (rH 3 [nI .i64 (d+1)]):=by rw[kC.get _ (by omega) (by simp)];exact ga1
     have c2:HC.t.get (H0.nx+2)=some (.map es c):=by rw[kC.get _ (by omega) (by simp)];exact ga2
     have cN:HC.t.get H.nx=some (rH 77 (.str key::tt)):=by rw[kC.get _ (by omega) (by simp)];exact gaN
     have up:=fP (c:=c) wU hs (b:=H0.nx+2) (H:=HC) (by rw[kAC.ro];omega)
     have hCn:=kC.nx
     simp(disch:=first|assumption|omega|(simp -implicitDefEqProofs only[ZQ,ZR]<;>first|assumption|omega)|decide) only[t3,t5,t31,t32,t33,d1,eI,gb,eL,hB,ga1,ga2,gaN,ld0,ldt,lk,ZH,Yi,M4,Gg,sM,aH,Z2,Vj,Va,dl,ev,eC,c2,cN,up,YZ,LX,ZC,ZY,Zz,Zw,Z4,WG]
     refine⟨_,_,_,rfl,?_⟩
     exact .inl ⟨rfl,mm.length - (i+1),by omega,⟨⟨i+1,rfl,by omega,rfl,by rw[ux hlt,hkey];exact hbad,_,_,Y1 ..,by rw[ux hlt,hkey];exact wU.push key c⟩,t2',O9,aC,ZcP,ZcQ,kAC.then_put (λh=>by omega),by rw[ri];omega,by rw[YT (by omega)];exact c0,by rw[YT (by omega)];exact c1⟩⟩
 ·have d1:decide (i<mm.length)=false:=Zb hlt
  simp only[t32,t33,d1,ZH,LX,ZC,ZY,Z4,WG]
  refine⟨_,_,_,rfl,?_⟩
  exact .inr ⟨by simp,k0,.inr ⟨rfl,by rw[hbad,Uu (by omega)];rfl,t2',O9,hnx,g0,g1⟩⟩
theorem lW(E:Env Zp fs fuel): ∀(d:Nat),d<=100-> ∀{n:Nat},4*d+10<=n-> ∀{h:Nat} {v:JV} {cs:List AV} {H:Heap},Vy H->H.ro<=H.nx->VR H h v cs-> ∃H',ZJ (LK Zp fs fuel 2) fs fuel n 59 [.agg cs,nI .i64 d] H=.ret (.bool (JV.wrong d v)) H'∧Zq H H' []:=by
 intro d
 induction d with
 |zero=>
  intro hd n hn h v cs H g hro hv
  obtain⟨n,rfl⟩: ∃q,n=q+1:=⟨n - 1,by omega⟩
  obtain⟨h,rfl⟩: ∃q,h=q+1:=by cases h with|zero=>exact hv.elim|succ q=>exact⟨q,rfl⟩
  obtain⟨kk,b,z,s,l,m⟩:=v
  obtain⟨lv,mv,ls,ms,rfl, -⟩:=hv
  rw[ZL (ZF E.n59 (.inl (by decide)) _ _) E.f59]
  have d0:decide (0=0)=true:=rfl
  obtain⟨H1,hH1⟩:=XZ (Heap.new H (rH 73 [nI .i64 kk,.bool b,.int .i64 z,.str s,lv,mv]))
  obtain⟨H2,hH2⟩:=XZ (Heap.new H1 (rH 3 [nI .i64 0]))
  have U2:H1.nx=H.nx+1:=by rw[<-hH1];rfl
  have nx2:H2.nx=H.nx+1+1:=by rw[<-hH2,IM,U2]
  have k2:Zq H H2 []:=by rw[<-hH2,<-hH1];exact(Zq.new H _ _).then_new _
  have ga:H2.t.get H.nx=some (rH 73 [nI .i64 kk,.bool b,.int .i64 z,.str s,lv,mv]):=by rw[<-hH2,YV (by omega),<-hH1,Zx rfl]
  have gb:H2.t.get (H.nx+1)=some (rH 3 [nI .i64 0]):=by rw[<-hH2,Zx U2]
  simp(disch:=first|assumption|omega|(simp -implicitDefEqProofs only[ZQ,ZR]<;>first|assumption|omega)|decide) only[hH1,U2,hH2,gb,YD,Z2,JV.wrong,c59,ZC,ZY,Zz,Zw,Z4]
  refine⟨_,rfl,?_⟩
  exact k2
 |succ d ih=>
  intro hd n hn h v cs H g hro hv
  obtain⟨n,rfl⟩: ∃q,n=q+4:=⟨n - 4,by omega⟩
  obtain⟨h,rfl⟩: ∃q,h=q+1:=by cases h with|zero=>exact hv.elim|succ q=>exact⟨q,rfl⟩
  obtain⟨kk,b,z,s,l,m⟩:=v
  obtain⟨lv,mv,ls,ms,rfl,hz1,hz2,hs9,hl9,hm9,sl,sm,e1,e2,hl,hm⟩:=hv
  rw[ZL (ZF E.n59 (.inl (by decide)) _ _) E.f59]
  obtain⟨H1,hH1⟩:=XZ (Heap.new H (rH 73 [nI .i64 kk,.bool b,.int .i64 z,.str s,lv,mv]))
  obtain⟨H2,hH2⟩:=XZ (Heap.new H1 (rH 3 [nI .i64 (d+1)]))
  have U2:H1.nx=H.nx+1:=by rw[<-hH1];rfl
  have nx2:H2.nx=H.nx+1+1:=by rw[<-hH2,IM,U2]
  have k2:Zq H H2 []:=by rw[<-hH2,<-hH1];exact(Zq.new H _ _).then_new _
  have ga:H2.t.get H.nx=some (rH 73 [nI .i64 kk,.bool b,.int .i64 z,.str s,lv,mv]):=by rw[<-hH2,YV (by omega),<-hH1,Zx rfl]
  have gb:H2.t.get (H.nx+1)=some (rH 3 [nI .i64 (d+1)]):=by rw[<-hH2,Zx U2]
  have ea:=λ{j}=>ZaY E (k:=2) (n:=j) (by decide) (kk:=kk) (b:=b) (z:=z) (s:=s) (H:=H2) sl.len sm.len
  have ev:=λ{j}=>ZcX E (k:=2) (n:=j) (by decide) (s:=s) (H:=H2) (g.keep0 k2) (by rw[k2.ro];omega) (by omega)
  have el:=sm.len
  rw[e1,e2,<-kl kk b z s l m] at ea
  rw[e2] at el
  unfold JV.wrong
  by_cases h1:kk<1
  ·have dd1:decide (kk<1)=true:=Ze h1
   simp(disch:=first|assumption|omega|(simp -implicitDefEqProofs only[ZQ,ZR]<;>first|assumption|omega)|decide) only[hH1,U2,hH2,ga,gb,dd1,YD,ZH,Z2,c59,ZC,ZY,Zz,Zw,reduceCtorEq,Z4]
   refine⟨_,rfl,?_⟩
   exact k2
  have dd1:decide (kk<1)=false:=Zb h1
  by_cases h6:6<kk
  ·have dd6:decide (6<kk)=true:=Ze h6
   simp(disch:=first|assumption|omega|(simp -implicitDefEqProofs only[ZQ,ZR]<;>first|assumption|omega)|decide) only[hH1,U2,hH2,ga,gb,dd1,dd6,YD,ZH,Yi,Z2,c59,ZC,ZY,Zz,Zw,reduceCtorEq,Z4]
   refine⟨_,rfl,?_⟩
   exact k2
  have dd6:decide (6<kk)=false:=Zb h6
  cases hap:JV.apart (.mk kk b z s l m) with
  |false=>
   rw[hap] at ea
   simp(disch:=first|assumption|omega|(simp -implicitDefEqProofs only[ZQ,ZR]<;>first|assumption|omega)|decide) only[hH1,U2,hH2,ga,gb,dd1,dd6,ea,YD,ZH,Yi,Z2,X8,Z6,List.take_succ_cons,VD,c59,ZC,ZY,Zz,Zw,reduceCtorEq,Z4]
   refine⟨_,rfl,?_⟩
   exact k2
  |true=>
  rw[hap] at ea
  cases hvu:vu s with
  |false=>
   rw[hvu] at ev
   simp(disch:=first|assumption|omega|(simp -implicitDefEqProofs only[ZQ,ZR]<;>first|assumption|omega)|decide) only[hH1,U2,hH2,ga,gb,dd1,dd6,ea,ev,YD,ZH,Yi,Z2,X8,Z6,List.take_succ_cons,VD,c59,ZC,ZY,Zz,Zw,reduceCtorEq,Z4]
   refine⟨_,rfl,?_⟩
   exact k2
  |true=>
  rw[hvu] at ev
  obtain⟨H3,hH3⟩:=XZ (Heap.new H2 (.map [] 0))
  have nx3:H3.nx=H.nx+1+1+1:=by rw[<-hH3,IM,nx2]
  have k3:Zq H H3 []:=by rw[<-hH3];exact k2.then_new _
  have gc0:H3.t.get H.nx=some (rH 73 [nI .i64 kk,.bool b,.int .i64 z,.str s,lv,mv]):=by rw[<-hH3,YV (by omega)];exact ga
  have gc1:H3.t.get (H.nx+1)=some (rH 3 [nI .i64 (d+1)]):=by rw[<-hH3,YV (by omega)];exact gb
  have gc2:H3.t.get (H.nx+2)=some (.map [] 0):=by rw[<-hH3,Zx nx2]
  simp(disch:=first|assumption|omega|(simp -implicitDefEqProofs only[ZQ,ZR]<;>first|assumption|omega)|decide) only[hH1,U2,hH2,nx2,ga,gb,dd1,dd6,ea,ev,hH3,gc0,el,nX,YD,ZH,Yi,Z2,X8,Z6,List.take_succ_cons,VD,c59,ZC,ZY,Zz,Zw,reduceCtorEq,Z4,WG]
  generalize hL:XQ (LX _) fuel _ _ _=L
  obtain⟨o,Tx,H4,rfl,_,k4,hq⟩:=YA (P:=λT=>WM H d [nI .i64 kk,.bool b,.int .i64 z,.str s,lv,mv] mv m m.length T H3) (Q:=λo tm' H'=>Zq H H' []∧((o=.ret∧Xf tm'=.bool true∧JV.badM (JV.wrong d) [] m=true)∨(o=.exit 0∧JV.badM (JV.wrong d) [] m=false∧Xy tm'=.ptr H.nx 0∧XK tm'=.ptr (H.nx+1) 0∧H.nx+3<=H'.nx∧H'.t.get H.nx=some (rH 73 [nI .i64 kk,.bool b,.int .i64 z,.str s,lv,mv])∧H'.t.get (H.nx+1)=some (rH 3 [nI .i64 (d+1)]))))
   (λT hi'=>YK (WM H d [nI .i64 kk,.bool b,.int .i64 z,.str s,lv,mv] mv m) _ (λq tm H' h'=>qd E (n:=n+3) (d:=d) (by omega) (λg' r' v'=>ih (by omega) (by omega) g' r' v') g hro sm e2 hm9 hm ⟨n+2,rfl⟩ _ _ _ _ _ q tm H' h') fuel m.length T H3 (by have:=E.big;omega) hi') hL
   ⟨⟨0,rfl,Z8 _,rfl,rfl,[],0,gc2,Seen.nil⟩,rfl,rfl,rfl,rfl,rfl,k3,by omega,gc0,gc1⟩
  rcases hq with⟨rfl,e4,hbad⟩|⟨rfl,hbad,e2',e3',hn3,g4,g5⟩
  ·simp only[OI] at e4
   rw[hbad]
   simp only[e4,ZC,Zz,Z4]
   simp only[Bool.or_true,VC]
   refine⟨_,rfl,?_⟩
   exact k4
  ·simp only[PN,Qg] at e2' e3'
   rw[hbad]
   have hcf:=cfV E (k:=2) (n:=n+1) (q:=76) (a:=[]) (b:=[.ptr (H.nx+1) 0]) (sl.keep0 k4) (by omega) (p:=λi=>JV.wrong d (l.getD i default)) (λi hi G kG=>by
    have kk0:=k4.trans kG (by simp)
    have g5':G.t.get (H.nx+1)=some (rH 3 [nI .i64 (d+1)]):=by rw[kG.get _ (by omega) (by simp)];exact g5
    rw[Xs,UZ,ZL (ZF E.n76 (.inr rfl) _ _) E.f76]
    have hv:=(hl i (by omega)).keep kk0
    have hlen:=hv.len
    obtain⟨H7,hH7⟩:=XZ (Heap.new G (rH 73 (ls.getD i [])))
    have g7:H7.t.get G.nx=some (rH 73 (ls.getD i [])):=by rw[<-hH7,Zx rfl]
    have g7':H7.t.get (H.nx+1)=some (rH 3 [nI .i64 (d+1)]):=by rw[<-hH7,YV (by have:=kG.nx;omega)];exact g5'
    have k7:Zq G H7 []:=by rw[<-hH7];exact Zq.new _ _ _
    obtain⟨H8,e8,k8⟩:=ih (by omega) (n:=n) (by omega) (g.keep0 (kk0.trans k7 (by simp))) (by rw[k7.ro,kk0.ro];have:=kk0.nx;have:=k7.nx;omega) (hv.keep k7)
    have ldx: ∀(G':Heap),ldN 6 (some (rH 73 (ls.getD i []))) 0 G'=.val (.agg (ls.getD i [])) G':=λG'=>by
     rw[X8 (by omega)];congr 2;rw[Z6,ZB (by omega)]
    have bx:=YU (l:=ls.getD i []) (by omega) 73 G
    rw[hH7] at bx
    simp(disch:=first|assumption|omega|(simp -implicitDefEqProofs only[ZQ,ZR]<;>first|assumption|omega)|decide) only[bx,g7,g7',ldx,Z2,Vj,Va,e8,c76,ZC,ZY,Zz,Zw,Z4]
    exact⟨_,rfl,k7.trans k8 (by simp)⟩)
   obtain⟨H9,e9,k9⟩:=hcf
   rw[show(List.range ls.length).any (λi=>JV.wrong d (l.getD i default))=l.any (JV.wrong d) by rw[e1];exact Fh l _] at e9
   simp(disch:=first|assumption|omega|(simp -implicitDefEqProofs only[ZQ,ZR]<;>first|assumption|omega)|decide) only[e2',e3',g4,Z2,e9,ZC,ZY,Zz,Zw,Z4,WG]
   simp only[Bool.or_false,Wh,]
   refine⟨_,rfl,?_⟩
   exact k4.trans k9 (by simp)
theorem kX(E:Env Zp fs fuel): ∀(d:Nat),d<=100-> ∀{n:Nat},4*d+10<=n-> ∀{h:Nat} {v:JV} {cs:List AV} {H:Heap},VR H h v cs-> ∃H',ZJ (LK Zp fs fuel 2) fs fuel n 60 [.agg cs,nI .i64 d] H=.ret (.bool (JV.deep d v)) H'∧Zq H H' []:=by
 intro d
 induction d with
 |zero=>
  intro hd n hn h v cs H hv
  obtain⟨n,rfl⟩: ∃q,n=q+1:=⟨n - 1,by omega⟩
  obtain⟨h,rfl⟩: ∃q,h=q+1:=by cases h with|zero=>exact hv.elim|succ q=>exact⟨q,rfl⟩
  obtain⟨kk,b,z,s,l,m⟩:=v
  obtain⟨lv,mv,ls,ms,rfl, -⟩:=hv
  rw[ZL (ZF E.n60 (.inl (by decide)) _ _) E.f60]
  have d0:decide (0=0)=true:=rfl
  obtain⟨H1,hH1⟩:=XZ (Heap.new H (rH 73 [nI .i64 kk,.bool b,.int .i64 z,.str s,lv,mv]))
  obtain⟨H2,hH2⟩:=XZ (Heap.new H1 (rH 3 [nI .i64 0]))
  have U2:H1.nx=H.nx+1:=by rw[<-hH1];rfl
  have nx2:H2.nx=H.nx+1+1:=by rw[<-hH2,IM,U2]
  have k2:Zq H H2 []:=by rw[<-hH2,<-hH1];exact(Zq.new H _ _).then_new _
  have ga:H2.t.get H.nx=some (rH 73 [nI .i64 kk,.bool b,.int .i64 z,.str s,lv,mv]):=by rw[<-hH2,YV (by omega),<-hH1,Zx rfl]
  have gb:H2.t.get (H.nx+1)=some (rH 3 [nI .i64 0]):=by rw[<-hH2,Zx U2]
  simp(maxSteps:=4000000) (disch:=first|assumption|omega|(simp -implicitDefEqProofs only[ZQ,ZR]<;>first|assumption|omega)|decide) only[hH1,U2,hH2,nx2,ga,gb,d0,YD,Z2,JV.deep,c60,ZC,ZY,Zz,Zw,Zr,Zt,ZA,Nat.reduceEqDiff,reduceCtorEq,Z4]
  refine⟨_,rfl,?_⟩
  exact k2
 |succ d ih=>
  intro hd n hn h v cs H hv
  obtain⟨n,rfl⟩: ∃q,n=q+4:=⟨n - 4,by omega⟩
  obtain⟨h,rfl⟩: ∃q,h=q+1:=by cases h with|zero=>exact hv.elim|succ q=>exact⟨q,rfl⟩
  obtain⟨kk,b,z,s,l,m⟩:=v
  obtain⟨lv,mv,ls,ms,rfl,hz1,hz2,hs9,hl9,hm9,sl,sm,e1,e2,hl,hm⟩:=hv
  rw[ZL (ZF E.n60 (.inl (by decide)) _ _) E.f60]
  have d0:decide (d+1=0)=false:=Zb (by omega)
  obtain⟨H1,hH1⟩:=XZ (Heap.new H (rH 73 [nI .i64 kk,.bool b,.int .i64 z,.str s,lv,mv]))
  obtain⟨H2,hH2⟩:=XZ (Heap.new H1 (rH 3 [nI .i64 (d+1)]))
  have U2:H1.nx=H.nx+1:=by rw[<-hH1];rfl
  have nx2:H2.nx=H.nx+1+1:=by rw[<-hH2,IM,U2]
  have k2:Zq H H2 []:=by rw[<-hH2,<-hH1];exact(Zq.new H _ _).then_new _
  have ga:H2.t.get H.nx=some (rH 73 [nI .i64 kk,.bool b,.int .i64 z,.str s,lv,mv]):=by rw[<-hH2,YV (by omega),<-hH1,Zx rfl]
  have gb:H2.t.get (H.nx+1)=some (rH 3 [nI .i64 (d+1)]):=by rw[<-hH2,Zx U2]
  obtain⟨H4,eV,FJ⟩:=cfV E (k:=2) (n:=n+1) (q:=77) (a:=[]) (b:=[.ptr (H.nx+1) 0]) (sl.keep0 k2) (by omega) (p:=λi=>JV.deep d (l.getD i default)) (λi hi G kG=>by
   have kk0:=k2.trans kG (by simp)
   have g5':G.t.get (H.nx+1)=some (rH 3 [nI .i64 (d+1)]):=by rw[kG.get _ (by omega) (by simp)];exact gb
   rw[Xs,UZ,ZL (ZF E.n77 (.inr rfl) _ _) E.f77]
   have hv:=(hl i (by omega)).keep kk0
   have hlen:=hv.len
   obtain⟨H7,hH7⟩:=XZ (Heap.new G (rH 73 (ls.getD i [])))
   have g7:H7.t.get G.nx=some (rH 73 (ls.getD i [])):=by rw[<-hH7,Zx rfl]
   have ldx: ∀(G':Heap),ldN 6 (some (rH 73 (ls.getD i []))) 0 G'=.val (.agg (ls.getD i [])) G':=λG'=>by
    rw[X8 (by omega)];congr 2;rw[Z6,ZB (by omega)]
   have bx:=YU (l:=ls.getD i []) (by omega) 73 G
   have g7':H7.t.get (H.nx+1)=some (rH 3 [nI .i64 (d+1)]):=by rw[<-hH7,YV (by have:=kG.nx;omega)];exact g5'
   have k7:Zq G H7 []:=by rw[<-hH7];exact Zq.new _ _ _
   obtain⟨H8,e8,k8⟩:=ih (by omega) (n:=n) (by omega) (hv.keep k7)
   rw[hH7] at bx
   simp(maxSteps:=4000000) (disch:=first|assumption|omega|(simp -implicitDefEqProofs only[ZQ,ZR]<;>first|assumption|omega)|decide) only[bx,g7,g7',ldx,Z2,Vj,Va,e8,c77,ZC,ZY,Zz,Zw,Zr,Zt,ZA,Nat.reduceEqDiff,reduceCtorEq,Z4]
   exact⟨_,rfl,k7.trans k8 (by simp)⟩)
  rw[show(List.range ls.length).any (λi=>JV.deep d (l.getD i default))=l.any (JV.deep d) by rw[e1];exact Fh l _] at eV
  have k4:=k2.trans FJ (by simp)
  have n4:=FJ.nx
  have g4:H4.t.get H.nx=some (rH 73 [nI .i64 kk,.bool b,.int .i64 z,.str s,lv,mv]):=by rw[FJ.get _ (by omega) (by simp)];exact ga
  have g5:H4.t.get (H.nx+1)=some (rH 3 [nI .i64 (d+1)]):=by rw[FJ.get _ (by omega) (by simp)];exact gb
  unfold JV.deep
  cases hL:l.any (JV.deep d) with
  |true=>
   rw[hL] at eV
   simp(maxSteps:=4000000) (disch:=first|assumption|omega|(simp -implicitDefEqProofs only[ZQ,ZR]<;>first|assumption|omega)|decide) only[hH1,U2,hH2,nx2,ga,gb,g4,g5,d0,YD,Z2,eV,VC,c60,ZC,ZY,Zz,Zw,Zr,Zt,ZA,Nat.reduceEqDiff,reduceCtorEq,Z4]
   refine⟨_,rfl,?_⟩
   exact k4
  |false=>
   rw[hL] at eV
   obtain⟨H5,eE,k5⟩:=cfE E (k:=2) (n:=n+1) (q:=79) (a:=[]) (b:=[.ptr (H.nx+1) 0]) (sm.keep0 k4) (by omega) (p:=λi=>JV.deep d (m.getD i default).2) (λi hi G kG=>by
    have kk0:=k4.trans kG (by simp)
    have g5':G.t.get (H.nx+1)=some (rH 3 [nI .i64 (d+1)]):=by rw[kG.get _ (by omega) (by simp)];exact g5
    rw[Xs,UZ,ZL (ZF E.n79 (.inr rfl) _ _) E.f79]
    obtain⟨hk9,tt,etl,hv⟩:=hm i (by omega)
    have hv:=hv.keep kk0
    have hlen:=hv.len
    obtain⟨H7,hH7⟩:=XZ (Heap.new G (rH 77 (.str (m.getD i default).1::tt)))
    have g7:H7.t.get G.nx=some (rH 77 (.str (m.getD i default).1::tt)):=by rw[<-hH7,Zx rfl]
    have ldx: ∀(G':Heap),ldN 6 (some (rH 77 (.str (m.getD i default).1::tt))) 1 G'=.val (.agg tt) G':=λG'=>by
     rw[X8 (by rw[Zh];omega)];congr 2;rw[WS,Z6,ZB (by omega)]
    have bx:=YU (l:=.str (m.getD i default).1::tt) (by rw[Zh];omega) 77 G
    rw[etl]
    have g7':H7.t.get (H.nx+1)=some (rH 3 [nI .i64 (d+1)]):=by rw[<-hH7,YV (by have:=kG.nx;omega)];exact g5'
    have k7:Zq G H7 []:=by rw[<-hH7];exact Zq.new _ _ _
    obtain⟨H8,e8,k8⟩:=ih (by omega) (n:=n) (by omega) (hv.keep k7)
    rw[hH7] at bx
    simp(maxSteps:=4000000) (disch:=first|assumption|omega|(simp -implicitDefEqProofs only[ZQ,ZR]<;>first|assumption|omega)|decide) only[bx,g7,g7',ldx,Z2,Vj,Va,e8,c79,ZC,ZY,Zz,Zw,Zr,Zt,ZA,Nat.reduceEqDiff,reduceCtorEq,Z4]
    exact⟨_,rfl,k7.trans k8 (by simp)⟩)
   rw[show(List.range ms.length).any (λi=>JV.deep d (m.getD i default).2)=m.any (λe=>JV.deep d e.2) by rw[e2];exact Fh m λe=>JV.deep d e.2] at eE
   simp(maxSteps:=4000000) (disch:=first|assumption|omega|(simp -implicitDefEqProofs only[ZQ,ZR]<;>first|assumption|omega)|decide) only[hH1,U2,hH2,nx2,ga,gb,g4,g5,d0,YD,Z2,eV,eE,Wh,c60,ZC,ZY,Zz,Zw,Zr,Zt,ZA,Nat.reduceEqDiff,reduceCtorEq,Z4]
   refine⟨_,rfl,?_⟩
   exact k4.trans k5 (by simp)
theorem Zc3(E:Env Zp fs fuel)(hk:3<=k){v:JV}(g:Vy H)(hro:H.ro<=H.nx)(hv:VR H h v cs):ZJ (LK Zp fs fuel k) fs fuel (n+1) 59 [.agg cs,nI .i64 32] H=.ret (.bool (JV.wrong 32 v)) H:=by
 obtain⟨H',e,g⟩:=lW E 32 (by omega) (n:=900) (by omega) g hro hv
 exact Wn (r:=2) rfl rfl e g rfl hk
theorem ZdR(E:Env Zp fs fuel)(hk:3<=k){v:JV}(hv:VR H h v cs):ZJ (LK Zp fs fuel k) fs fuel (n+1) 60 [.agg cs,nI .i64 32] H=.ret (.bool (JV.deep 32 v)) H:=by
 obtain⟨H',e,g⟩:=kX E 32 (by omega) (n:=900) (by omega) hv
 exact Wn (r:=2) rfl rfl e g rfl hk
theorem tc(E:Env Zp fs fuel){v:JV}(g:Vy H)(hro:H.ro<=H.nx)(hv:VR H h v cs):
  ∃H',ZJ (LK Zp fs fuel 3) fs fuel (n+2) 47 [.agg cs] H=.ret (nI .i64 (JV.check v)) H'∧Zq H H' []:=by
 rw[ZL (ZF E.n47 (.inl (by decide)) _ _) E.f47]
 have hlen:=hv.len
 obtain⟨H1,hH1⟩:=XZ (Heap.new H (rH 73 cs))
 have g1:H1.t.get H.nx=some (rH 73 cs):=by rw[<-hH1,Zx rfl]
 have k1:Zq H H1 []:=by rw[<-hH1];exact Zq.new H _ _
 have ldx: ∀(G':Heap),ldN 6 (some (rH 73 cs)) 0 G'=.val (.agg cs) G':=λG'=>by
  rw[X8 (by omega)];congr 2;rw[Z6,ZB (by omega)]
 have bx:=YU (l:=cs) (by omega) 73 H
 rw[hH1] at bx
 have ew:=λ{j}=>Zc3 (Zp:=Zp) (fs:=fs) (fuel:=fuel) E (k:=3) (n:=j) (by decide) (g.keep0 k1) (by rw[k1.ro];have:=k1.nx;omega) (hv.keep k1)
 have ed:=λ{j}=>ZdR (Zp:=Zp) (fs:=fs) (fuel:=fuel) E (k:=3) (n:=j) (by decide) (hv.keep k1)
 unfold JV.check
 cases hw:JV.wrong 32 v with
 |true=>
  rw[hw] at ew
  simp(maxSteps:=4000000) (disch:=first|assumption|omega|(simp -implicitDefEqProofs only[ZQ,ZR]<;>first|assumption|omega)|decide) only[bx,g1,ldx,ew,if_true,YJ,if_false,c47,ZC,ZY,Zz,Zw,Zr,Zt,ZA,Nat.reduceEqDiff,reduceCtorEq,Z4]
  refine⟨_,rfl,?_⟩
  exact k1
 |false=>
  rw[hw] at ew
  cases hd:JV.deep 32 v with
  |true=>
   rw[hd] at ed
   simp(maxSteps:=4000000) (disch:=first|assumption|omega|(simp -implicitDefEqProofs only[ZQ,ZR]<;>first|assumption|omega)|decide) only[bx,g1,ldx,ew,ed,if_true,YJ,if_false,c47,ZC,ZY,Zz,Zw,Zr,Zt,ZA,Nat.reduceEqDiff,reduceCtorEq,Z4]
   refine⟨_,rfl,?_⟩
   exact k1
  |false=>
   rw[hd] at ed
   simp(maxSteps:=4000000) (disch:=first|assumption|omega|(simp -implicitDefEqProofs only[ZQ,ZR]<;>first|assumption|omega)|decide) only[bx,g1,ldx,ew,ed,if_true,YJ,if_false,c47,ZC,ZY,Zz,Zw,Zr,Zt,ZA,Nat.reduceEqDiff,reduceCtorEq,Z4]
   refine⟨_,rfl,?_⟩
   exact k1
theorem Zbg(E:Env Zp fs fuel)(hk:4<=k){v:JV}(g:Vy H)(hro:H.ro<=H.nx)(hv:VR H h v cs):
  ZJ (LK Zp fs fuel k) fs fuel (n+1) 47 [.agg cs] H=.ret (nI .i64 (JV.check v)) H:=by
 obtain⟨H',e,g⟩:=tc E (n:=898) (H:=H) g hro hv
 exact Wn (r:=3) rfl rfl e g (rfl) hk
end
end
end Go.AI
