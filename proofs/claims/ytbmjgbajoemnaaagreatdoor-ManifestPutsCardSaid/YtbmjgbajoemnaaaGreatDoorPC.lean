/- Values' texts: walked: proved without conditions but those that each names. -/
import Derived.Test.YtbmjgbajoemnaaaGreatDoorPB
import Derived.Test.YtbmjgbajoemnaaaGreatDoorPA
set_option maxRecDepth 1000000
set_option maxHeartbeats 0
set_option linter.unusedVariables false
set_option linter.unusedSimpArgs false
namespace Go.AI
open Go
noncomputable section
section
variable {Zp:Lib} {fs:T CF} {fuel k n i h b:Nat} {H H0:Heap} {s:List UInt8} {cs:List AV}
theorem Ev(n:Nat)(h:n<18446744073709551616):(dec n).length<=20:=by rw[Hp];exact Dr (by omega) (by omega)
def yd(Zp:Lib)(fs:T CF)(fuel n h:Nat):Prop:= ∀{v:JV} {cs:List AV} {H:Heap},PC H->H.ro<=H.nx->VR H h v cs->JV.ok h v->JV.tb h v<=800000000->
 ∃H',ZJ (LK Zp fs fuel 4) fs fuel n 48 [.agg cs] H=.ret (.str (JV.text h v)) H'∧Zq H H' []
structure TLI(H0:Heap)(h:Nat)(l:List JV)(lv:AV)(m:Nat)(tm:TM)(H:Heap):Prop where
 i: ∃i v,UV tm=nI .i64 i∧i<=l.length∧m=l.length - i∧XK tm=v∧VT H v 9 1 (((l.take i).map (JV.text h)).map λs=>[AV.str s]) H0.nx
 t31:VL tm=lv
 t32:Un tm=nI .i64 l.length
 k:Zq H0 H []
 ro:H.ro<=H.nx
theorem ZcT(E:Env Zp fs fuel)(ih:yd Zp fs fuel n h){l:List JV}{lv:AV}{ls:List (List AV)}(g0:PC H0)(sl:Sl H0 6 lv ls)(e:ls.length=l.length)(hl:l.length<=9000)(hv: ∀i,i<l.length->VR H0 h (l.getD i default) (ls.getD i []))(ho: ∀x∈l,JV.ok h x)(hb: ∀x∈l,JV.tb h x<=800000000)(y f d r)(x:X)(m:Nat)(tm:TM)(H:Heap)(hI:TLI H0 h l lv m tm H):
  ∃o tm' H',DY ⟨ZJ (LK Zp fs fuel 4) fs fuel n,y,f,d,r⟩ tm H x=.ok o tm' H' x∧((o=.normal∧ ∃q,q<m∧TLI H0 h l lv q tm' H')∨(o≠.normal∧(o=.exit 1∧ ∃v,XK tm'=v∧VT H' v 9 1 ((l.map (JV.text h)).map λs=>[AV.str s]) H0.nx∧Zq H0 H' []∧H'.ro<=H'.nx))):=by
 obtain⟨⟨i,v,t33,hi,rfl,t3,rb⟩,t31,t32,k0,hro⟩:=hI
 have O9:=t3;have ZcP:=t31;have ZcQ:=t32
 simp only[Qg,jA,Zac,Zad] at t3 t31 t32 t33
 by_cases hlt:i<l.length
 ·have d1:decide (i<l.length)=true:=Ze hlt
  obtain⟨b',o',r',eI,hb',gb,eL,_⟩:=(sl.keep0 k0).at_ (i:=i) (by omega)
  have hmem:l.getD i default∈l:=by rw[Za,Zg hlt];exact Y0 hlt
  have hvi:=hv i hlt
  have hx:=hvi.len
  have hoi:=ho _ hmem
  have hbi:=hb _ hmem
  have ets:=TU hlt (default:JV)
  generalize l.getD i default=xv at*
  generalize ls.getD i []=xs at*
  obtain⟨HA,hA⟩:=XZ (H.new (rH 73 xs))
  have nxA:HA.nx=H.nx+1:=by rw[<-hA];rfl
  have hB:=WQ (n:=6) (l:=zV) (vs:=xs) (by rfl) hx (by omega) (show(H.new (rH 73 zV)).ro<=H.nx from hro) 73 1 false true
  rw[SU rfl,hA] at hB
  have gA:HA.t.get H.nx=some (rH 73 xs):=by rw[<-hA,Zx rfl]
  have ldx: ∀G:Heap,ldN 6 (some (rH 73 xs)) 0 G=.val (.agg xs) G:=λG=>by rw[X8 (by omega)];congr 2;rw[Z6,ZB (by omega)]
  have kA:Zq H0 HA []:=by rw[<-hA];exact k0.then_new _
  obtain⟨HC,eC,kC⟩:=ih (g0.keep kA (by simp)) (by rw[<-hA];show H.ro<=H.nx+1;omega) (hvi.keep kA) hoi hbi
  have rC:VT HC v 9 1 _ H0.nx:=rb.below (λc h1 h2=>by rw[kC.get c (by omega) (by simp),<-hA,YV (by omega)]) (by rw[kC.ro,<-hA];rfl) (by have:=kC.nx;omega)
  have roC:HC.ro<=HC.nx:=by rw[kC.ro,<-hA];show H.ro<=_;have:=kC.nx;omega
  obtain⟨v',H',ea,r2,w⟩:=Jl rC (bytes:=16) (by omega) (by omega) (by rw[Zi,Zi,ZP];omega) roC (by have:=kC.nx;have:=k0.nx;omega) (x:=[.str (JV.text h xv)]) rfl
  rw[UN] at ea
  have k2:=Below.keep (kA.trans kC (by simp)) w (Zl _)
  have r3:VT H' v' 9 1 (((l.take (i+1)).map (JV.text h)).map λs=>[AV.str s]) H0.nx:=by rw[ets,Xe,Xe];exact r2
  simp(disch:=first|assumption|omega|(simp -implicitDefEqProofs only[ZQ,ZR]<;>first|assumption|omega)|decide) only[t3,t31,t32,t33,d1,eI,gb,eL,hB,gA,ldx,eC,ea,PF,UN,ZH,YZ,DY,ZC,ZY,Zz,Zw,Z4,WG]
  refine⟨_,_,_,rfl,?_⟩
  exact .inl ⟨rfl,l.length - (i+1),by omega,⟨⟨i+1,v',rfl,by omega,rfl,rfl,r3⟩,ZcP,ZcQ,k2,by rw[w.ro];have:=w.nx;omega⟩⟩
 ·have d1:decide (i<l.length)=false:=Zb hlt
  rw[ZB (by omega)] at rb
  simp only[t32,t33,d1,ZH,DY,ZC,ZY,Z4,WG]
  refine⟨_,_,_,rfl,?_⟩
  exact .inr ⟨by simp,rfl,v,(by simp only[ZY];exact O9),rb,k0,hro⟩
def Cj(h:Nat)(e:List UInt8×JV):List UInt8:=quo e.1++[58]++JV.text h e.2
structure TMI(H0 HB:Heap)(h b:Nat)(M:List (List UInt8×JV))(m:Nat)(tm:TM)(H:Heap):Prop where
 i: ∃i v,Pj tm=nI .i64 i∧i<=M.length∧m=M.length - i∧XK tm=v∧VT H v 9 1 (((M.take i).map (Cj h)).map λs=>[AV.str s]) HB.nx
 t51:M≠[]->S7 tm=.slice b 0 M.length none
 t52:RH tm=nI .i64 M.length
 k:Zq HB H []
 ro:H.ro<=H.nx
theorem ZcU(E:Env Zp fs fuel)(ih:yd Zp fs fuel (n+1) h){HB:Heap}{M:List (List UInt8×JV)}(g0:PC H0)(kB:Zq H0 HB [])(sr:M≠[]->R9 H0 h b M HB)(hl:M.length<=9000)(ho: ∀x∈M,JV.ok h x.2)(hb: ∀x∈M,JV.tb h x.2<=800000000)(y f d r)(x:X)(m:Nat)(tm:TM)(H:Heap)(hI:TMI H0 HB h b M m tm H):
  ∃o tm' H',DZ ⟨ZJ (LK Zp fs fuel 4) fs fuel (n+1),y,f,d,r⟩ tm H x=.ok o tm' H' x∧((o=.normal∧ ∃q,q<m∧TMI H0 HB h b M q tm' H')∨(o≠.normal∧(o=.exit 3∧ ∃v,XK tm'=v∧VT H' v 9 1 ((M.map (Cj h)).map λs=>[AV.str s]) HB.nx∧Zq HB H' []∧H'.ro<=H'.nx))):=by
 obtain⟨⟨i,v,t53,hi,rfl,t3,rb⟩,t51,t52,k0,hro⟩:=hI
 have O9:=t3;have Zj3:=t51;have Zj4:=t52
 simp only[Qg,ZeR,ZeS] at t3 t52 t53
 by_cases hlt:i<M.length
 ·have d1:decide (i<M.length)=true:=Ze hlt
  have hne:M≠[]:=by rintro rfl;cases hlt
  have t51:=t51 hne
  simp only[ZeQ] at t51
  obtain⟨r',gb,hb',_,hat⟩:=((sr hne).keep k0).at_
  obtain⟨tt,htl,hvi,hk9,eL⟩:=hat i hlt
  have hmem:M.getD i default∈M:=by rw[Za,Zg hlt];exact Y0 hlt
  have hoi:=ho _ hmem
  have hbi:=hb _ hmem
  have ets:=TU hlt (default:List UInt8×JV)
  generalize M.getD i default=e at*
  obtain⟨key,ev⟩:=e
  have ix:=λ(G:Heap)=>Ua (sz:=7) hlt b 0 none .i64 G
  rw[Zs] at ix
  obtain⟨HA,hA⟩:=XZ (H.new (rH 77 (.str key::tt)))
  have nxA:HA.nx=H.nx+1:=by rw[<-hA];rfl
  have roA:HA.ro<=HA.nx:=by rw[<-hA];show H.ro<=H.nx+1;omega
  have hB:=WQ (n:=7) (l:=eV) (vs:=.str key::tt) (by rfl) (by rw[Zh,htl]) (by omega) (show(H.new (rH 77 eV)).ro<=H.nx from hro) 77 1 false true
  rw[SU rfl,hA] at hB
  have gA:HA.t.get H.nx=some (rH 77 (.str key::tt)):=by rw[<-hA,Zx rfl]
  have ldt: ∀(G:Heap),ldN 6 (some (rH 77 (.str key::tt))) 1 G=.val (.agg tt) G:=λG=>by
   rw[X8 (by rw[Zh,htl];omega)]
   congr 2
   rw[WS,Z6,ZB (by omega)]
  have ld0: ∀(G:Heap),ld1 (some (rH 77 (.str key::tt))) 0 G=.val (.str key) G:=λG=>by
   rw[Z2 (by rw[Zh];omega)];rfl
  have kA:Zq HB HA []:=by rw[<-hA];exact k0.then_new _
  have kA0:=kB.trans kA (by simp)
  have eq_:=λ{j}=>gX E (k:=4) (n:=j) (by decide) (s:=key) (H:=HA) hk9 roA
  obtain⟨HC,eC,kC⟩:=ih (g0.keep kA0 (by simp)) roA (hvi.keep kA0) hoi hbi
  have rC:VT HC v 9 1 _ HB.nx:=rb.below (λc h1 h2=>by rw[kC.get c (by omega) (by simp),<-hA,YV (by omega)]) (by rw[kC.ro,<-hA];rfl) (by have:=kC.nx;omega)
  have roC:HC.ro<=HC.nx:=by rw[kC.ro];have:=kC.nx;omega
  obtain⟨v',H',ea,r2,w⟩:=Jl rC (bytes:=16) (by omega) (by omega) (by rw[Zi,Zi,ZP];omega) roC (by have:=kC.nx;have:=k0.nx;omega) (x:=[.str (quo key++[58]++JV.text h ev)]) rfl
  rw[UN] at ea
  have k2:=Below.keep (kA.trans kC (by simp)) w (Zl _)
  have r3:VT H' v' 9 1 (((M.take (i+1)).map (Cj h)).map λs=>[AV.str s]) HB.nx:=by rw[ets,Xe,Xe];exact r2
  have hk9:key.length<=9000:=hk9
  have q1:=(xz key).1
  have q2:(JV.text h ev).length<=800000000:=Zn (JV.text_len Ev h ev hoi) hbi
  have q3:(quo key++[58]).length<=60000:=by rw[Zf,Zh,Zv];omega
  have lt2:=VE hvi.same
  have lv1:=rb.low (n:=H.nx+1) (by omega)
  have lA: ∀o,Xm (H.nx+1) (.ptr H.nx o)=true:=λo=>Yp (by omega) o
  simp(disch:=first|assumption|omega|(simp -implicitDefEqProofs only[ZQ,ZR]<;>first|assumption|omega)|decide) only[t3,t51,t52,t53,d1,ix,gb,eL,hB,gA,nxA,ldt,ld0,eq_,eC,ea,lt2,lv1,lA,PF,UN,ZH,YZ,YI,ZZ,Zs,Gi,DZ,ZC,ZY,Zz,Zw,Zr,Zt,ZA,Nat.reducePow,Nat.reduceDiv,Nat.reduceMod,reduceCtorEq,Z4,WG,Rn]
  refine⟨_,_,_,rfl,?_⟩
  exact .inl ⟨rfl,M.length - (i+1),by omega,⟨⟨i+1,v',rfl,by omega,rfl,rfl,r3⟩,λhh=>(by simp only[WG,ZY];exact Zj3 hh),Zj4,k2,by rw[w.ro];have:=w.nx;omega⟩⟩
 ·have d1:decide (i<M.length)=false:=Zb hlt
  rw[ZB (by omega)] at rb
  simp only[t52,t53,d1,ZH,DZ,ZC,ZY,Z4,WG]
  refine⟨_,_,_,rfl,?_⟩
  exact .inr ⟨by simp,rfl,v,(by simp only[ZY];exact O9),rb,k0,hro⟩
theorem oH(E:Env Zp fs fuel){b:Bool}:
  ∃H',ZJ (LK Zp fs fuel 0) fs fuel (n+2) 80 [.bool b] H=.ret (.str (if b=true then [116,114,117,101] else [102,97,108,115,101])) H'∧Zq H H' []:=by
 rw[ZL (ZF E.n80 (.inl (by decide)) _ _) E.f80]
 cases b with
 |true=>
  simp only[if_true,c80,ZC,ZY,Zz,Z4]
  refine⟨_,rfl,?_⟩
  exact Zq.refl _ _
 |false=>
  simp only[YJ,if_false,c80,ZC,ZY,Zz,Z4]
  refine⟨_,rfl,?_⟩
  exact Zq.refl _ _
theorem Zd3(E:Env Zp fs fuel)(hk:1<=k){b:Bool}:
  ZJ (LK Zp fs fuel k) fs fuel (n+1) 80 [.bool b] H=.ret (.str (if b=true then [116,114,117,101] else [102,97,108,115,101])) H:=by
 obtain⟨H',e,g⟩:=oH E (n:=898) (H:=H)
 exact Wn (r:=0) rfl rfl e g (rfl) hk
theorem jo(E:Env Zp fs fuel){b:Bool}:
  ∃H',ZJ (LK Zp fs fuel 1) fs fuel (n+3) 61 [.bool b] H=.ret (.str (if b=true then [116,114,117,101] else [102,97,108,115,101])) H'∧Zq H H' []:=by
 rw[ZL (ZF E.n61 (.inl (by decide)) _ _) E.f61]
 have e:=λ{j}=>Zd3 E (k:=1) (n:=j) (by decide) (b:=b) (H:=H)
 simp only[e,c61,ZC,ZY,Zz,Z4]
 refine⟨_,rfl,?_⟩
 exact Zq.refl _ _
theorem ZiF(E:Env Zp fs fuel)(hk:2<=k){b:Bool}:
  ZJ (LK Zp fs fuel k) fs fuel (n+1) 61 [.bool b] H=.ret (.str (if b=true then [116,114,117,101] else [102,97,108,115,101])) H:=by
 obtain⟨H',e,g⟩:=jo E (n:=897) (H:=H)
 exact Wn (r:=1) rfl rfl e g (rfl) hk
theorem fK(E:Env Zp fs fuel)(M:pY Zp): ∀(h:Nat),h<=100-> ∀{n:Nat},h+20<=n->yd Zp fs fuel n h:=by
 intro h
 induction h with
 |zero=>intro _ n _ v cs H _ _ hv;exact hv.elim
 |succ h ih=>
 intro hh n hn v cs H g hro hv hok htb
 obtain⟨n,rfl⟩: ∃q,n=q+10:=⟨n - 10,by omega⟩
 have hlen:=JV.text_len Ev (h+1) v hok
 obtain⟨kk,b,z,s,l,m⟩:=v
 obtain⟨lv,mv,ls,ms,rfl,hz1,hz2,hs9,hl9,hm9,sl,sm,e1,e2,hl,hm⟩:=hv
 obtain⟨_,Zi7,hol,hom⟩:=hok
 rw[ZL (ZF E.n48 (.inl (by decide)) _ _) E.f48]
 obtain⟨H1,hH1⟩:=XZ (H.new (rH 73 [nI .i64 kk,.bool b,.int .i64 z,.str s,lv,mv]))
 have U2:H1.nx=H.nx+1:=by rw[<-hH1];rfl
 have Rm:H1.ro<=H1.nx:=by rw[<-hH1];show H.ro<=H.nx+1;omega
 have g1:H1.t.get H.nx=some (rH 73 [nI .i64 kk,.bool b,.int .i64 z,.str s,lv,mv]):=by rw[<-hH1,Zx rfl]
 have k1:Zq H H1 []:=by rw[<-hH1];exact Zq.new H _ _
 have tbl: ∀x∈l,JV.tb h x<=800000000:=λx hx=>by
  have a:1+JV.tb h x<=(l.map λx=>1+JV.tb h x).sum:=JV.mem_sum (λx=>1+JV.tb h x) hx
  have b:50+6*s.length+(l.map λx=>1+JV.tb h x).sum+(m.map λe=>6*e.1.length+4+JV.tb h e.2).sum<=800000000:=htb
  omega
 have tbm: ∀e∈m,JV.tb h e.2<=800000000:=λx hx=>by
  have a:6*x.1.length+4+JV.tb h x.2<=(m.map λe=>6*e.1.length+4+JV.tb h e.2).sum:=JV.mem_sum (λe:List UInt8×JV=>6*e.1.length+4+JV.tb h e.2) hx
  have b:50+6*s.length+(l.map λx=>1+JV.tb h x).sum+(m.map λe=>6*e.1.length+4+JV.tb h e.2).sum<=800000000:=htb
  omega
 have hte:JV.text (h+1) (.mk kk b z s l m)=(if kk=1 then [110,117,108,108] else if kk=2 then(if b=true then [116,114,117,101] else [102,97,108,115,101]) else if kk=3 then SF z else if kk=4 then quo s else if kk=5 then [91]++XS (l.map (JV.text h))++[93] else [123]++XS ((VN NL m).map (Cj h))++[125]):=rfl
 rw[hte] at hlen ⊢
 by_cases k1':kk=1
 ·have d1:decide (kk=1)=true:=Ze k1'
  rw[if_pos k1']
  simp(disch:=first|assumption|omega|(simp -implicitDefEqProofs only[ZQ,ZR]<;>first|assumption|omega)|decide) only[g1,hH1,YD,Z2,d1,aV,ZC,ZY,Zz,Zw,Z4,]
  refine⟨_,rfl,?_⟩
  exact k1
 have d1:decide (kk=1)=false:=Zb k1'
 rw[if_neg k1'] at hlen ⊢
 by_cases k2':kk=2
 ·have d2:decide (kk=2)=true:=Ze k2'
  have e:=λ{j}=>ZiF E (k:=4) (n:=j) (by decide) (b:=b) (H:=H1)
  rw[if_pos k2']
  generalize(if b=true then [116,114,117,101] else [102,97,108,115,101])=bt at e ⊢
  simp(disch:=first|assumption|omega|(simp -implicitDefEqProofs only[ZQ,ZR]<;>first|assumption|omega)|decide) only[g1,hH1,YD,Z2,d1,d2,e,aV,ZC,ZY,Zz,Zw,Z4,]
  refine⟨_,rfl,?_⟩
  exact k1
 have d2:decide (kk=2)=false:=Zb k2'
 rw[if_neg k2'] at hlen ⊢
 by_cases k3':kk=3
 ·have d3:decide (kk=3)=true:=Ze k3'
  have e:=λ{j}=>jp E (k:=4) (n:=j) (by decide) (z:=z) (H:=H1) (g.keep k1 (by simp)) Rm hz1 hz2
  rw[if_pos k3']
  simp(disch:=first|assumption|omega|(simp -implicitDefEqProofs only[ZQ,ZR]<;>first|assumption|omega)|decide) only[g1,hH1,YD,Z2,d1,d2,d3,e,aV,ZC,ZY,Zz,Zw,Z4,]
  refine⟨_,rfl,?_⟩
  exact k1
 have d3:decide (kk=3)=false:=Zb k3'
 rw[if_neg k3'] at hlen ⊢
 by_cases FJ:kk=4
 ·have d4:decide (kk=4)=true:=Ze FJ
  have e:=λ{j}=>gX E (k:=4) (n:=j) (by decide) (s:=s) (H:=H1) hs9 Rm
  rw[if_pos FJ]
  simp(disch:=first|assumption|omega|(simp -implicitDefEqProofs only[ZQ,ZR]<;>first|assumption|omega)|decide) only[g1,hH1,YD,Z2,d1,d2,d3,d4,e,aV,ZC,ZY,Zz,Zw,Z4,]
  refine⟨_,rfl,?_⟩
  exact k1
 have d4:decide (kk=4)=false:=Zb FJ
 rw[if_neg FJ] at hlen ⊢
 have ihn:yd Zp fs fuel (n+9) h:=ih (by omega) (by omega)
 by_cases Ae:kk=5
 ·have d5:decide (kk=5)=true:=Ze Ae
  have el:=sl.len
  rw[e1] at el
  rw[if_pos Ae] at hlen ⊢
  simp(disch:=first|assumption|omega|(simp -implicitDefEqProofs only[ZQ,ZR]<;>first|assumption|omega)|decide) only[g1,hH1,YD,Z2,d1,d2,d3,d4,d5,el,aV,ZC,ZY,Zz,Zw,Z4,WG]
  generalize hL:XQ (DY _) fuel _ _ _=L
  obtain⟨o,Tx,H2,rfl,_,rfl,v,t3,rb,k2,Qw⟩:=YA (P:=λT=>TLI H1 h l lv l.length T H1) (Q:=λo tm' H'=>o=.exit 1∧ ∃v,XK tm'=v∧VT H' v 9 1 ((l.map (JV.text h)).map λs=>[AV.str s]) H1.nx∧Zq H1 H' []∧H'.ro<=H'.nx)
   (λT hi'=>YK (TLI H1 h l lv) _ (λq tm H' h'=>ZcT E ihn (g.keep k1 (by simp)) (sl.keep0 k1) e1 hl9 (λi hi=>(hl i hi).keep k1) hol tbl _ _ _ _ _ q tm H' h') fuel l.length T H1 (by have:=E.big;omega) hi') hL
   ⟨⟨0,.nils,rfl,Z8 _,rfl,rfl,.inl ⟨rfl,rfl⟩⟩,rfl,rfl,Zq.refl _ _,Rm⟩
  simp only[Qg] at t3
  have hj:(XS (l.map (JV.text h))).length<=800000000:=by
   simp only[Zf,Zh,Zv] at hlen;omega
  have ej:=λ{j}=>ZfA E (k:=4) (n:=j) (by decide) M rb (by rw[Zi];exact hl9) (by omega) Qw
  generalize XS (l.map (JV.text h))=J at ej hj ⊢
  have q1:([91]:List UInt8).length+J.length<=900000000:=by rw[Zh,Zv];omega
  have q2:([91]++J).length+([93]:List UInt8).length<=900000010:=by simp only[Zf,Zh,Zv];omega
  simp(disch:=omega) only[t3,ej,YI,ZC,ZY,Zz,Z4,WG]
  refine⟨_,rfl,?_⟩
  exact k1.trans k2 (by simp)
 have d5:decide (kk=5)=false:=Zb Ae
 rw[if_neg Ae] at hlen ⊢
 obtain⟨H2,hH2⟩:=XZ (H1.new (rH 71 [mv]))
 have k2:Zq H1 H2 []:=by rw[<-hH2];exact Zq.new H1 _ _
 have Kq:=k1.trans k2 (by simp)
 have nx2:H2.nx=H1.nx+1:=by rw[<-hH2];rfl
 have Qw:H2.ro<=H2.nx:=by rw[<-hH2];show H1.ro<=H1.nx+1;omega
 have eva:=λ{j}=>ZcZ E (k:=4) (n:=j) (src:=mv) (H:=H1) sm.cells
 rw[hH2] at eva
 have hf:Hf Zp fs fuel 4 67:=λ{a b t u H j} ht hu=>Ziz E (k:=4) (n:=j) (by decide) ht hu
 obtain⟨sv,H3,es,k3,srt⟩:=ay E (k:=4) (n0:=n+2) (by decide) hf (H:=H2) (h:=h) (vb:=H1.nx) (M:=m) (sm.keep0 Kq) (by rw[<-hH2,Zx rfl]) (by omega) Qw Zi7 e2 (λi hi=>by
  obtain⟨a1,t,a2,a3⟩:=hm i hi
  exact⟨a1,t,a2,a3.keep Kq⟩)
 rw[U2] at es
 have GJ:H3.ro<=H3.nx:=by rw[k3.ro];have:=k3.nx;omega
 have tI:(VN NL m).length=m.length:=nk NL m
 obtain⟨els,b2,hsl,hsr⟩:(∀G,RV sv G=.val (nI .i64 m.length) G)∧ ∃b2,(VN NL m≠[]->sv=.slice b2 0 (VN NL m).length none)∧(VN NL m≠[]->R9 H2 h b2 (VN NL m) H3):=by
  rcases srt with⟨rfl,rfl⟩|⟨_,b2,rfl,_,sr⟩
  ·exact⟨λG=>OL G,0,λhne=>absurd rfl hne,λhne=>absurd rfl hne⟩
  ·exact⟨λG=>XP ..,b2,λ_=>by rw[tI],λ_=>sr⟩
 simp(disch:=first|assumption|omega|(simp -implicitDefEqProofs only[ZQ,ZR]<;>first|assumption|omega)|decide) only[U2,g1,hH1,YD,Z2,d1,d2,d3,d4,d5,eva,es,els,aV,ZC,ZY,Zz,Zw,Z4,WG]
 generalize hL:XQ (DZ _) fuel _ _ _=L
 obtain⟨o,Tx,H4,rfl,_,rfl,v,t3,rb,k4,B5⟩:=YA (P:=λT=>TMI H2 H3 h b2 (VN NL m) (VN NL m).length T H3) (Q:=λo tm' H'=>o=.exit 3∧ ∃v,XK tm'=v∧VT H' v 9 1 (((VN NL m).map (Cj h)).map λs=>[AV.str s]) H3.nx∧Zq H3 H' []∧H'.ro<=H'.nx)
  (λT hi'=>YK (TMI H2 H3 h b2 (VN NL m)) _ (λq tm H' h'=>ZcU E (n:=n+8) ihn (g.keep Kq (by simp)) k3 hsr (by omega) (λx hx=>hom x (FH NL x hx)) (λx hx=>tbm x (FH NL x hx)) _ _ _ _ _ q tm H' h') fuel (VN NL m).length T H3 (by have:=E.big;omega) hi') hL
  ⟨⟨0,.nils,rfl,Z8 _,rfl,rfl,.inl ⟨rfl,rfl⟩⟩,λhne=>hsl hne,by rw[tI];rfl,Zq.refl _ _,GJ⟩
 simp only[Qg] at t3
 have hj:(XS ((VN NL m).map (Cj h))).length<=800000000:=by
  simp only[Zf,Zh,Zv] at hlen;omega
 have ej:=λ{j}=>ZfA E (k:=4) (n:=j) (by decide) M rb (by rw[Zi,tI];omega) (by omega) B5
 generalize XS ((VN NL m).map (Cj h))=J at ej hj ⊢
 have q1:([123]:List UInt8).length+J.length<=900000000:=by rw[Zh,Zv];omega
 have q2:([123]++J).length+([125]:List UInt8).length<=900000010:=by simp only[Zf,Zh,Zv];omega
 simp(disch:=omega) only[t3,ej,YI,ZC,ZY,Zz,Z4,Rn]
 refine⟨_,rfl,?_⟩
 exact(Kq.trans k3 (by simp)).trans k4 (by simp)
theorem ZgY(E:Env Zp fs fuel)(M:pY Zp)(hk:5<=k)(hh:h<=100){v:JV}(g:PC H)(hro:H.ro<=H.nx)(hv:VR H h v cs)(hok:JV.ok h v)(htb:JV.tb h v<=800000000):
  ZJ (LK Zp fs fuel k) fs fuel (n+1) 48 [.agg cs] H=.ret (.str (JV.text h v)) H:=by
 obtain⟨H',e,g⟩:=fK E M h hh (n:=900) (by omega) g hro hv hok htb
 exact Wn (r:=4) rfl rfl e g rfl hk
theorem ZjJ(E:Env Zp fs fuel)(M:pY Zp)(hk:5<=k)(hh:h<=100){v:JV}(g:PC H)(gu:Vy H)(hro:H.ro<=H.nx)(hv:VR H h v cs)(hok:JV.ok h v)(htb:JV.tb h v<=800000000)(hne:JV.text h v≠[]):
  ZJ (LK Zp fs fuel k) fs fuel (n+2) 31 [.agg cs] H=if JV.check v=0 then .ret (.tup [.slice (H.nx+1) 0 (JV.text h v).length none,nI .i64 0]) ((H.new (rH 73 cs)).new (rG 5 1 ((JV.text h v).map XM) 0 true true false))
   else .ret (.tup [.nils,nI .i64 (JV.check v)]) (H.new (rH 73 cs)):=by
 have hlen:=hv.len
 have htl:=JV.text_len Ev h v hok
 rw[ZL (ZF E.n31 (.inr rfl) _ _) E.f31]
 obtain⟨H1,hH1⟩:=XZ (Heap.new H (rH 73 cs))
 have U2:H1.nx=H.nx+1:=by rw[<-hH1];rfl
 have Rm:H1.ro<=H1.nx:=by rw[<-hH1];show H.ro<=H.nx+1;omega
 have g1:H1.t.get H.nx=some (rH 73 cs):=by rw[<-hH1,Zx rfl]
 have k1:Zq H H1 []:=by rw[<-hH1];exact Zq.new H _ _
 have ldx: ∀(G':Heap),ldN 6 (some (rH 73 cs)) 0 G'=.val (.agg cs) G':=λG'=>by
  rw[X8 (by omega)];congr 2;rw[Z6,ZB (by omega)]
 have bx:=YU (l:=cs) (by omega) 73 H
 rw[hH1] at bx
 have ec:=λ{j}=>Zbg (Zp:=Zp) (fs:=fs) (fuel:=fuel) E (k:=k) (n:=j) (by omega) (gu.keep0 k1) Rm (hv.keep k1)
 have et:=λ{j}=>ZgY (Zp:=Zp) (fs:=fs) (fuel:=fuel) E M (k:=k) (n:=j) hk hh (g.keep k1 (by simp)) Rm (hv.keep k1) hok htb
 generalize JV.text h v=T at*
 have hT:T.length<=800000000:=by omega
 have hT0:0<T.length:=Ws.2 hne
 by_cases hc:JV.check v=0
 ·rw[if_pos hc]
  rw[hc] at ec
  have d0:(!decide (0=0))=false:=rfl
  have d1:decide (0≠0)=false:=rfl
  simp(maxSteps:=4000000) (disch:=first|assumption|omega|(simp -implicitDefEqProofs only[ZQ,ZR]<;>first|assumption|omega)|decide) only[hH1,bx,U2,g1,ldx,ec,et,d0,d1,P3,c31,ZC,ZY,Zz,Zw,Zr,Zt,ZA,Nat.reduceEqDiff,reduceCtorEq,Z4]
 ·rw[if_neg hc]
  have d0:decide (JV.check v≠0)=true:=Ze hc
  have d1:(!decide (JV.check v=0))=true:=by rw[Zb hc];rfl
  generalize JV.check v=cv at*
  simp(maxSteps:=4000000) (disch:=first|assumption|omega|(simp -implicitDefEqProofs only[ZQ,ZR]<;>first|assumption|omega)|decide) only[hH1,bx,U2,g1,ldx,ec,et,d0,d1,P3,c31,ZC,ZY,Zz,Zw,Zr,Zt,ZA,Nat.reduceEqDiff,reduceCtorEq,Z4]
theorem V8{u t:Nat}(h:Nat.beq u t=false)(zv v:AV)(H:Heap):MO t zv true (.iface u v) H=.val (.tup [zv,.bool false]) H:=by
 show RP zv true H (cond (Nat.beq u t) (some v) none)=_
 rw[h];rfl
theorem zh{Zp:Lib}{fs:T CF}{fuel:Nat}{f r:Nat}{args:List AV}{H H':Heap}{v:AV}(h:TP f=r+1)(hs:RM f args H=none)(hr:ZJ (LK Zp fs fuel r) fs fuel 900 f args H=.ret v H')(hv:Xm 0 v=false)(h0: ∀l H,Zp f l H=none)(hk:r+1<=k):
  LK Zp fs fuel k f args H=none:=by
 show Gf Zp fs fuel TP RM k f args H=none
 rw[pa h args H k hk]
 show Gd TP RM (ZJ (LK Zp fs fuel r) fs fuel 900) (LK Zp fs fuel r) (r+1) f args H=none
 unfold Gd
 rw[if_pos h,hs]
 simp only
 rw[if_neg]
 ·exact ZF h0 (.inl (by omega)) args H
 ·rintro ⟨v',H'',e,_,l⟩
  rw[hr] at e;cases e;rw[hv] at l;cases l
theorem mc(E:Env Zp fs fuel){z:Int}(hro:H.ro<=H.nx):
  ∃H',ZJ (LK Zp fs fuel 0) fs fuel (n+2) 41 [.iface 2 (.int .i64 z)] H=.ret (.agg [nI .i64 3,.bool false,.int .i64 z,.str [],.nils,.nils]) H'∧Zq H H' []:=by
 rw[ZL (ZF E.n41 (.inl (by decide)) _ _) E.f41]
 obtain⟨H1,hH1⟩:=XZ (Heap.new H (rH 73 [nI .i64 3,.bool false,.int .i64 z,.str [],.nils,.nils]))
 have yS:H.ro<=H.nx:=hro
 have hB:=WQ (n:=6) (l:=zV) (vs:=[nI .i64 3,.bool false,.int .i64 z,.str [],.nils,.nils]) (b:=H.nx) (H:=H.new (rH 73 zV)) (by rfl) (by rfl) (by omega) yS 73 1 false true
 rw[SU rfl,hH1] at hB
 have g1:H1.t.get H.nx=some (rH 73 [nI .i64 3,.bool false,.int .i64 z,.str [],.nils,.nils]):=by rw[<-hH1,Zx rfl]
 have k1:Zq H H1 []:=by rw[<-hH1];exact Zq.new H _ _
 have ldx: ∀(G':Heap),ldN 6 (some (rH 73 [nI .i64 3,.bool false,.int .i64 z,.str [],.nils,.nils])) 0 G'=.val (.agg [nI .i64 3,.bool false,.int .i64 z,.str [],.nils,.nils]) G':=λG'=>by
  rw[X8 (Zl _)];rfl
 have eT:=λ(zv v:AV) (G:Heap)=>V8 (u:=2) (t:=4) rfl zv v G
 simp(disch:=first|assumption|omega|(simp -implicitDefEqProofs only[ZQ,ZR]<;>first|assumption|omega)|decide) only[hB,g1,eT,c41,ZC,ZY,Zz,Zw,Z4]
 refine⟨_,rfl,?_⟩
 exact k1
theorem ZfT(E:Env Zp fs fuel)(hk:1<=k){z:Int}(hro:H.ro<=H.nx):
  ZJ (LK Zp fs fuel k) fs fuel (n+1) 41 [.iface 2 (.int .i64 z)] H=.ret (.agg [nI .i64 3,.bool false,.int .i64 z,.str [],.nils,.nils]) H:=by
 obtain⟨H',e,g⟩:=mc E (n:=898) (H:=H) hro
 exact Wn (r:=0) rfl rfl e g (rfl) hk
theorem mf(E:Env Zp fs fuel){z:Int}(hro:H.ro<=H.nx):
  ∃H',ZJ (LK Zp fs fuel 0) fs fuel (n+2) 41 [.iface 3 (.int .i64 z)] H=.ret (.agg [nI .i64 3,.bool false,.int .i64 z,.str [],.nils,.nils]) H'∧Zq H H' []:=by
 rw[ZL (ZF E.n41 (.inl (by decide)) _ _) E.f41]
 obtain⟨H1,hH1⟩:=XZ (Heap.new H (rH 73 [nI .i64 3,.bool false,.int .i64 z,.str [],.nils,.nils]))
 have yS:H.ro<=H.nx:=hro
 have hB:=WQ (n:=6) (l:=zV) (vs:=[nI .i64 3,.bool false,.int .i64 z,.str [],.nils,.nils]) (b:=H.nx) (H:=H.new (rH 73 zV)) (by rfl) (by rfl) (by omega) yS 73 1 false true
 rw[SU rfl,hH1] at hB
 have g1:H1.t.get H.nx=some (rH 73 [nI .i64 3,.bool false,.int .i64 z,.str [],.nils,.nils]):=by rw[<-hH1,Zx rfl]
 have k1:Zq H H1 []:=by rw[<-hH1];exact Zq.new H _ _
 have ldx: ∀(G':Heap),ldN 6 (some (rH 73 [nI .i64 3,.bool false,.int .i64 z,.str [],.nils,.nils])) 0 G'=.val (.agg [nI .i64 3,.bool false,.int .i64 z,.str [],.nils,.nils]) G':=λG'=>by
  rw[X8 (Zl _)];rfl
 have eT:=λ(zv v:AV) (G:Heap)=>V8 (u:=3) (t:=4) rfl zv v G
 have an2:=λ(zv v:AV) (G:Heap)=>V8 (u:=3) (t:=2) rfl zv v G
 simp(disch:=first|assumption|omega|(simp -implicitDefEqProofs only[ZQ,ZR]<;>first|assumption|omega)|decide) only[hB,g1,eT,an2,c41,ZC,ZY,Zz,Zw,Z4]
 refine⟨_,rfl,?_⟩
 exact k1
theorem ofInt(E:Env Zp fs fuel)(hk:1<=k){z:Int}(hro:H.ro<=H.nx):
  ZJ (LK Zp fs fuel k) fs fuel (n+1) 41 [.iface 3 (.int .i64 z)] H=.ret (.agg [nI .i64 3,.bool false,.int .i64 z,.str [],.nils,.nils]) H:=by
 obtain⟨H',e,g⟩:=mf E (n:=898) (H:=H) hro
 exact Wn (r:=0) rfl rfl e g (rfl) hk
theorem mg(E:Env Zp fs fuel)(hro:H.ro<=H.nx):
  ∃H',ZJ (LK Zp fs fuel 0) fs fuel (n+2) 41 [.iface 9 (.str s)] H=.ret (.agg [nI .i64 4,.bool false,nI .i64 0,.str s,.nils,.nils]) H'∧Zq H H' []:=by
 rw[ZL (ZF E.n41 (.inl (by decide)) _ _) E.f41]
 obtain⟨H1,hH1⟩:=XZ (Heap.new H (rH 73 [nI .i64 4,.bool false,nI .i64 0,.str s,.nils,.nils]))
 have yS:H.ro<=H.nx:=hro
 have hB:=WQ (n:=6) (l:=zV) (vs:=[nI .i64 4,.bool false,nI .i64 0,.str s,.nils,.nils]) (b:=H.nx) (H:=H.new (rH 73 zV)) (by rfl) (by rfl) (by omega) yS 73 1 false true
 rw[SU rfl,hH1] at hB
 have g1:H1.t.get H.nx=some (rH 73 [nI .i64 4,.bool false,nI .i64 0,.str s,.nils,.nils]):=by rw[<-hH1,Zx rfl]
 have k1:Zq H H1 []:=by rw[<-hH1];exact Zq.new H _ _
 have ldx: ∀(G':Heap),ldN 6 (some (rH 73 [nI .i64 4,.bool false,nI .i64 0,.str s,.nils,.nils])) 0 G'=.val (.agg [nI .i64 4,.bool false,nI .i64 0,.str s,.nils,.nils]) G':=λG'=>by
  rw[X8 (Zl _)];rfl
 have eT:=λ(zv v:AV) (G:Heap)=>V8 (u:=9) (t:=4) rfl zv v G
 have an2:=λ(zv v:AV) (G:Heap)=>V8 (u:=9) (t:=2) rfl zv v G
 have an3:=λ(zv v:AV) (G:Heap)=>V8 (u:=9) (t:=3) rfl zv v G
 simp(disch:=first|assumption|omega|(simp -implicitDefEqProofs only[ZQ,ZR]<;>first|assumption|omega)|decide) only[hB,g1,eT,an2,an3,c41,ZC,ZY,Zz,Zw,Z4,WG]
 refine⟨_,rfl,?_⟩
 exact k1
theorem ZaB(E:Env Zp fs fuel)(hk:1<=k)(hro:H.ro<=H.nx):
  ZJ (LK Zp fs fuel k) fs fuel (n+1) 41 [.iface 9 (.str s)] H=.ret (.agg [nI .i64 4,.bool false,nI .i64 0,.str s,.nils,.nils]) H:=by
 obtain⟨H',e,g⟩:=mg E (n:=898) (H:=H) hro
 exact Wn (r:=0) rfl rfl e g (rfl) hk
theorem Bd(E:Env Zp fs fuel){v:AV}(hl:LK Zp fs fuel k 41 [.iface 70 v] H=none)(hv:v.cells=[v])(hro:H.ro<=H.nx):
  ∃H',ZJ (LK Zp fs fuel k) fs fuel (n+2) 41 [.iface 70 v] H=.ret (.agg [nI .i64 5,.bool false,nI .i64 0,.str [],v,.nils]) H'∧Zq H H' []:=by
 rw[ZL hl E.f41]
 obtain⟨H1,hH1⟩:=XZ (Heap.new H (rH 73 [nI .i64 5,.bool false,nI .i64 0,.str [],v,.nils]))
 have yS:H.ro<=H.nx:=hro
 have hB:=WQ (n:=6) (l:=zV) (vs:=[nI .i64 5,.bool false,nI .i64 0,.str [],v,.nils]) (b:=H.nx) (H:=H.new (rH 73 zV)) (by rfl) (by rfl) (by omega) yS 73 1 false true
 rw[SU rfl,hH1] at hB
 have g1:H1.t.get H.nx=some (rH 73 [nI .i64 5,.bool false,nI .i64 0,.str [],v,.nils]):=by rw[<-hH1,Zx rfl]
 have k1:Zq H H1 []:=by rw[<-hH1];exact Zq.new H _ _
 have ldx: ∀(G':Heap),ldN 6 (some (rH 73 [nI .i64 5,.bool false,nI .i64 0,.str [],v,.nils])) 0 G'=.val (.agg [nI .i64 5,.bool false,nI .i64 0,.str [],v,.nils]) G':=λG'=>by
  rw[X8 (Zl _)];rfl
 have eT:=λ(zv v:AV) (G:Heap)=>V8 (u:=70) (t:=4) rfl zv v G
 have an2:=λ(zv v:AV) (G:Heap)=>V8 (u:=70) (t:=2) rfl zv v G
 have an3:=λ(zv v:AV) (G:Heap)=>V8 (u:=70) (t:=3) rfl zv v G
 have an9:=λ(zv v:AV) (G:Heap)=>V8 (u:=70) (t:=9) rfl zv v G
 simp(disch:=first|assumption|omega|(simp -implicitDefEqProofs only[ZQ,ZR]<;>first|assumption|omega)|decide) only[hB,g1,eT,an2,an3,an9,c41,ZC,ZY,Zz,Zw,Z4,WG]
 refine⟨_,rfl,?_⟩
 exact k1
theorem ofList(E:Env Zp fs fuel)(hk:1<=k){v:AV}(hv:v=.nils∨ ∃b o m c,v=.slice b o m c)(hro:H.ro<=H.nx):
  ∃H',ZJ (LK Zp fs fuel k) fs fuel (n+2) 41 [.iface 70 v] H=.ret (.agg [nI .i64 5,.bool false,nI .i64 0,.str [],v,.nils]) H'∧Zq H H' []:=by
 have hc:v.cells=[v]:=by rcases hv with rfl|⟨b,o,m,c,rfl⟩<;>rfl
 obtain⟨H',e,g⟩:=Bd E (k:=0) (n:=898) (v:=v) (H:=H) (ZF E.n41 (.inl (by decide)) _ _) hc hro
 rcases hv with rfl|⟨b,o,m,c,rfl⟩
 ·exact⟨H,Wn (r:=0) rfl rfl e g rfl hk,Zq.refl _ _⟩
 ·exact Bd E (n:=n) (zh (r:=0) rfl rfl e rfl E.n41 hk) hc hro
theorem ER(E:Env Zp fs fuel){v:AV}(hl:LK Zp fs fuel k 41 [.iface 71 v] H=none)(hv:v.cells=[v])(hro:H.ro<=H.nx):
  ∃H',ZJ (LK Zp fs fuel k) fs fuel (n+2) 41 [.iface 71 v] H=.ret (.agg [nI .i64 6,.bool false,nI .i64 0,.str [],.nils,v]) H'∧Zq H H' []:=by
 rw[ZL hl E.f41]
 obtain⟨H1,hH1⟩:=XZ (Heap.new H (rH 73 [nI .i64 6,.bool false,nI .i64 0,.str [],.nils,v]))
 have yS:H.ro<=H.nx:=hro
 have hB:=WQ (n:=6) (l:=zV) (vs:=[nI .i64 6,.bool false,nI .i64 0,.str [],.nils,v]) (b:=H.nx) (H:=H.new (rH 73 zV)) (by rfl) (by rfl) (by omega) yS 73 1 false true
 rw[SU rfl,hH1] at hB
 have g1:H1.t.get H.nx=some (rH 73 [nI .i64 6,.bool false,nI .i64 0,.str [],.nils,v]):=by rw[<-hH1,Zx rfl]
 have k1:Zq H H1 []:=by rw[<-hH1];exact Zq.new H _ _
 have ldx: ∀(G':Heap),ldN 6 (some (rH 73 [nI .i64 6,.bool false,nI .i64 0,.str [],.nils,v])) 0 G'=.val (.agg [nI .i64 6,.bool false,nI .i64 0,.str [],.nils,v]) G':=λG'=>by
  rw[X8 (Zl _)];rfl
 have eT:=λ(zv v:AV) (G:Heap)=>V8 (u:=71) (t:=4) rfl zv v G
 have an2:=λ(zv v:AV) (G:Heap)=>V8 (u:=71) (t:=2) rfl zv v G
 have an3:=λ(zv v:AV) (G:Heap)=>V8 (u:=71) (t:=3) rfl zv v G
 have an9:=λ(zv v:AV) (G:Heap)=>V8 (u:=71) (t:=9) rfl zv v G
 have Zh4:=λ(zv v:AV) (G:Heap)=>V8 (u:=71) (t:=70) rfl zv v G
 simp(disch:=first|assumption|omega|(simp -implicitDefEqProofs only[ZQ,ZR]<;>first|assumption|omega)|decide) only[hB,g1,eT,an2,an3,an9,Zh4,c41,ZC,ZY,Zz,Zw,Z4,WG]
 refine⟨_,rfl,?_⟩
 exact k1
theorem pv(E:Env Zp fs fuel)(hk:1<=k){v:AV}(hv:v=.nils∨ ∃b o m c,v=.slice b o m c)(hro:H.ro<=H.nx):
  ∃H',ZJ (LK Zp fs fuel k) fs fuel (n+2) 41 [.iface 71 v] H=.ret (.agg [nI .i64 6,.bool false,nI .i64 0,.str [],.nils,v]) H'∧Zq H H' []:=by
 have hc:v.cells=[v]:=by rcases hv with rfl|⟨b,o,m,c,rfl⟩<;>rfl
 obtain⟨H',e,g⟩:=ER E (k:=0) (n:=898) (v:=v) (H:=H) (ZF E.n41 (.inl (by decide)) _ _) hc hro
 rcases hv with rfl|⟨b,o,m,c,rfl⟩
 ·exact⟨H,Wn (r:=0) rfl rfl e g rfl hk,Zq.refl _ _⟩
 ·exact ER E (n:=n) (zh (r:=0) rfl rfl e rfl E.n41 hk) hc hro
theorem yo(hc:cs.length=6)(G:Heap):Qd eV [(0,1,.str s),(1,6,.agg cs)] G=.val (.agg (.str s::cs)) G:=by
 match cs,hc with
 |[a,b,c,d,e,f],_=>rfl
theorem Ja(E:Env Zp fs fuel){x:AV}(hro:H.ro<=H.nx)(hc:cs.length=6)(ho: ∀G,Zq H G []-> ∃G',ZJ (LK Zp fs fuel k) fs fuel (n+2) 41 [x] G=.ret (.agg cs) G'∧Zq G G' []):
  ∃H',ZJ (LK Zp fs fuel k) fs fuel (n+3) 37 [.str s,x] H=.ret (.agg (.str s::cs)) H'∧Zq H H' []:=by
 rw[ZL (ZF E.n37 (.inr rfl) _ _) E.f37]
 obtain⟨H1,hH1⟩:=XZ (H.new (rH 77 eV))
 have k1:Zq H H1 []:=by rw[<-hH1];exact Zq.new _ _ _
 have U2:H1.nx=H.nx+1:=by rw[<-hH1];rfl
 have g1:H1.t.get H.nx=some (rH 77 eV):=by rw[<-hH1];exact Zx rfl _
 obtain⟨H2,e2,k2⟩:=ho H1 k1
 have g2:H2.t.get H.nx=some (rH 77 eV):=by rw[k2.get _ (by omega) (by simp)];exact g1
 have Kq:=k1.trans' k2
 have b7:=λG=>yo (s:=s) hc G
 have st:=WQ (n:=7) (b:=H.nx) (l:=eV) (vs:=.str s::cs) (H:=H2) rfl (by rw[Zh,hc]) (by decide) (by rw[Kq.ro];exact hro) 77 1 false true
 have gp:=Y1 H2 H.nx (rH 77 (.str s::cs))
 have rv: ∀kk,rV 7 true (some (rH 77 (.str s::cs))) 0 kk=kk (.agg (.str s::cs)):=λkk=>Pr (n:=7) (l:=.str s::cs) (by rw[Zh,hc]) kk
 simp(maxSteps:=4000000) (disch:=first|assumption|omega|(simp -implicitDefEqProofs only[ZQ,ZR]<;>first|assumption|omega)|decide) only[hH1,e2,g2,b7,st,gp,rv,Tt,ZE,Yb,c37,ZC,ZY,Zz,Zw,Zr,Zt,ZA,Nat.reduceEqDiff,reduceCtorEq,Z4]
 refine⟨_,rfl,?_⟩
 exact Kq.then_put λh=>absurd h (VA _)
theorem FK(E:Env Zp fs fuel){s0:List UInt8}(hro:H.ro<=H.nx)(hc:cs.length=6):
  ∃H',ZJ (LK Zp fs fuel k) fs fuel (n+1) 35 [.str s,.agg (.str s0::cs)] H=.ret (.agg (.str s::cs)) H'∧Zq H H' []:=by
 rw[ZL (ZF E.n35 (.inr rfl) _ _) E.f35]
 obtain⟨H1,hH1⟩:=XZ (H.new (rH 77 (.str s0::cs)))
 obtain⟨H2,hH2⟩:=XZ (H1.new (rH 77 eV))
 have k1:Zq H H1 []:=by rw[<-hH1];exact Zq.new _ _ _
 have k2:Zq H H2 []:=by rw[<-hH2];exact k1.then_new _
 have k12:Zq H1 H2 []:=by rw[<-hH2];exact Zq.new _ _ _
 have U2:H1.nx=H.nx+1:=by rw[<-hH1];rfl
 have g1:H2.t.get H.nx=some (rH 77 (.str s0::cs)):=by rw[k12.get _ (by omega) (by simp),<-hH1];exact Zx rfl _
 have g2:H2.t.get H1.nx=some (rH 77 eV):=by rw[<-hH2];exact Zx rfl _
 have bx: ∀G:Heap,Fk 77 (.agg (.str s0::cs)) G=.val (.ptr G.nx 0) (G.new (rH 77 (.str s0::cs))):=λG=>YU (l:=.str s0::cs) (by rw[Zh];omega) 77 G
 have ld: ∀G,ldN 6 (some (rH 77 (.str s0::cs))) 1 G=.val (.agg cs) G:=λG=>by
  rw[X8 (by rw[Zh];omega)]
  show OR.val (.agg (cs.take 6)) G=_
  rw[ZB (by omega)]
 have b7:=λG=>yo (s:=s) hc G
 have st:=WQ (n:=7) (b:=H1.nx) (l:=eV) (vs:=.str s::cs) (H:=H2) rfl (by rw[Zh,hc]) (by decide) (by rw[k2.ro];omega) 77 1 false true
 have gp:=Y1 H2 H1.nx (rH 77 (.str s::cs))
 have rv: ∀kk,rV 7 true (some (rH 77 (.str s::cs))) 0 kk=kk (.agg (.str s::cs)):=λkk=>Pr (n:=7) (l:=.str s::cs) (by rw[Zh,hc]) kk
 simp(maxSteps:=4000000) (disch:=first|assumption|omega|(simp -implicitDefEqProofs only[ZQ,ZR]<;>first|assumption|omega)|decide) only[bx,hH1,hH2,g1,g2,ld,b7,st,gp,rv,Tt,Y8,WP,ZE,Yb,Zs,c35,ZC,ZY,Zz,Zw,Zr,Zt,ZA,Nat.reduceEqDiff,reduceCtorEq,Z4]
 refine⟨_,rfl,?_⟩
 exact k2.then_put λh=>by omega
theorem Oy(E:Env Zp fs fuel)(hk:1<=k){v:AV}(hv:v=.nils∨ ∃b o m c,v=.slice b o m c)(hro:H.ro<=H.nx):
  ∃H',ZJ (LK Zp fs fuel k) fs fuel (n+3) 33 [v] H=.ret (.agg [nI .i64 6,.bool false,nI .i64 0,.str [],.nils,v]) H'∧Zq H H' []:=by
 rw[ZL (ZF E.n33 (.inr rfl) _ _) E.f33]
 obtain⟨H1,hH1⟩:=XZ (H.new (rH 73 zV))
 have k1:Zq H H1 []:=by rw[<-hH1];exact Zq.new _ _ _
 have U2:H1.nx=H.nx+1:=by rw[<-hH1];rfl
 have g1:H1.t.get H.nx=some (rH 73 zV):=by rw[<-hH1];exact Zx rfl _
 obtain⟨H2,e2,k2⟩:=pv E (n:=n) hk (v:=v) (H:=H1) hv (by rw[k1.ro];omega)
 have g2:H2.t.get H.nx=some (rH 73 zV):=by rw[k2.get _ (by omega) (by simp)];exact g1
 have Kq:=k1.trans' k2
 have st:=WQ (n:=6) (b:=H.nx) (l:=zV) (vs:=[nI .i64 6,.bool false,nI .i64 0,.str [],.nils,v]) (H:=H2) rfl rfl (by decide) (by rw[Kq.ro];exact hro) 73 1 false true
 have gp:=Y1 H2 H.nx (rH 73 [nI .i64 6,.bool false,nI .i64 0,.str [],.nils,v])
 have rv: ∀kk,rV 6 true (some (rH 73 [nI .i64 6,.bool false,nI .i64 0,.str [],.nils,v])) 0 kk=kk (.agg [nI .i64 6,.bool false,nI .i64 0,.str [],.nils,v]):=λkk=>Pr (n:=6) (l:=[nI .i64 6,.bool false,nI .i64 0,.str [],.nils,v]) rfl kk
 simp(maxSteps:=4000000) (disch:=first|assumption|omega|(simp -implicitDefEqProofs only[ZQ,ZR]<;>first|assumption|omega)|decide) only[hH1,e2,g2,st,gp,rv,c33,ZC,ZY,Zz,Zw,Zr,Zt,ZA,Nat.reduceEqDiff,reduceCtorEq,Z4]
 refine⟨_,rfl,?_⟩
 exact Kq.then_put λh=>absurd h (VA _)
end
end
end Go.AI
