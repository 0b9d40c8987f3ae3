/- Values' texts, and values compared, walked: proved, as each says. -/
import Derived.Test.YtmnmknjlgpjcbaaGreatDoorPC
import Derived.Test.YtmnmknjlgpjcbaaGreatDoorPB
import Derived.Test.YtmnmknjlgpjcbaaGreatDoorPA
set_option maxRecDepth 1000000
set_option maxHeartbeats 0
set_option linter.unusedVariables false
set_option linter.unusedSimpArgs false
namespace Go.AI
open Go
noncomputable section
section
variable {Zo:NJ} {fs:T CF} {fuel k n i h b:Nat} {H H0:Zc} {s:List UInt8} {cs:List AV}
theorem oE(n:Nat)(h:n<18446744073709551616):(dec n).length<=20:=by rw[MH];exact xU (by omega) (by omega)
def yR(Zo:NJ)(fs:T CF)(fuel n h:Nat):Prop:= ∀{v:JV} {cs:List AV} {H:Zc},Sh H->H.ro<=H.nx->VR H h v cs->JV.ok h v->JV.tb h v<=800000000->
 ∃H',ZG (LK Zo fs fuel 4) fs fuel n 54 [.agg cs] H=.ret (.str (JV.text h v)) H'∧Zp H H' []
structure TLI(H0:Zc)(h:Nat)(l:List JV)(lv:AV)(m:Nat)(tm:TM)(H:Zc):Prop where
 i: ∃i v,UI tm=nI .i64 i∧i<=l.length∧m=l.length - i∧W6 tm=v∧V0 H v 9 1 (((l.take i).map (JV.text h)).map λs=>[AV.str s]) H0.nx
 t31:VO tm=lv
 t32:Sb tm=nI .i64 l.length
 k:Zp H0 H []
 ro:H.ro<=H.nx
theorem Zhl(E:Env Zo fs fuel)(ih:yR Zo fs fuel n h){l:List JV}{lv:AV}{ls:List (List AV)}(g0:Sh H0)(sl:Sl H0 6 lv ls)(e:ls.length=l.length)(hl:l.length<=9000)(hv: ∀i,i<l.length->VR H0 h (l.getD i default) (ls.getD i []))(ho: ∀x∈l,JV.ok h x)(hb: ∀x∈l,JV.tb h x<=800000000)(y f d r)(x:X)(m:Nat)(tm:TM)(H:Zc)(hI:TLI H0 h l lv m tm H):
  ∃o Yp H',DV ⟨ZG (LK Zo fs fuel 4) fs fuel n,y,f,d,r⟩ tm H x=.ok o Yp H' x∧((o=.normal∧ ∃q,q<m∧TLI H0 h l lv q Yp H')∨(o≠.normal∧(o=.exit 1∧ ∃v,W6 Yp=v∧V0 H' v 9 1 ((l.map (JV.text h)).map λs=>[AV.str s]) H0.nx∧Zp H0 H' []∧H'.ro<=H'.nx))):=by
 obtain⟨⟨i,v,t33,hi,rfl,t3,rb⟩,t31,t32,k0,YL⟩:=hI
 have Di:=t3;have Zhh:=t31;have Zhi:=t32
 simp only[J7,eh,ZdT,ZdU] at t3 t31 t32 t33
 by_cases Y6:i<l.length
 ·have d1:decide (i<l.length)=true:=Ze Y6
  obtain⟨b',o',r',eI,B3,gb,eL,_⟩:=(sl.keep0 k0).at_ (i:=i) (by omega)
  have QG:l.getD i default∈l:=by rw[Zf,Zi Y6];exact YJ Y6
  have hvi:=hv i Y6
  have hx:=hvi.len
  have hoi:=ho _ QG
  have hbi:=hb _ QG
  have ets:=OP Y6 (default:JV)
  generalize l.getD i default=xv at*
  generalize ls.getD i []=xs at*
  obtain⟨HA,hA⟩:=WQ (H.new (rH 27 xs))
  have nJ:HA.nx=H.nx+1:=by rw[<-hA];rfl
  have hB:=Xg (n:=6) (l:=zV) (vs:=xs) (by rfl) hx (by omega) (show(H.new (rH 27 zV)).ro<=H.nx from YL) 27 1 false true
  rw[Vb rfl,hA] at hB
  have gA:HA.t.get H.nx=some (rH 27 xs):=by rw[<-hA,ZC rfl]
  have ldx: ∀G:Zc,ldN 6 (some (rH 27 xs)) 0 G=.val (.agg xs) G:=λG=>by rw[WV (by omega)];congr 2;rw[Ye,ZM (by omega)]
  have kA:Zp H0 HA []:=by rw[<-hA];exact k0.then_new _
  obtain⟨HC,eC,kC⟩:=ih (g0.keep kA (by simp)) (by rw[<-hA];show H.ro<=H.nx+1;omega) (hvi.keep kA) hoi hbi
  have rC:V0 HC v 9 1 _ H0.nx:=rb.below (λc h1 h2=>by rw[kC.get c (by omega) (by simp),<-hA,ZK (by omega)]) (by rw[kC.ro,<-hA];rfl) (by have:=kC.nx;omega)
  have roC:HC.ro<=HC.nx:=by rw[kC.ro,<-hA];show H.ro<=_;have:=kC.nx;omega
  obtain⟨v',H',ea,r2,w⟩:=Jc rC (bytes:=16) (by omega) (by omega) (by rw[Zr,Zr,Z9];omega) roC (by have:=kC.nx;have:=k0.nx;omega) (x:=[.str (JV.text h xv)]) rfl
  rw[Uy] at ea
  have k2:=Below.keep (kA.trans kC (by simp)) w (Zj _)
  have r3:V0 H' v' 9 1 (((l.take (i+1)).map (JV.text h)).map λs=>[AV.str s]) H0.nx:=by rw[ets,Xo,Xo];exact r2
  simp(disch:=first|assumption|omega|(simp -implicitDefEqProofs only[ZY,ZZ]<;>first|assumption|omega)|decide) only[t3,t31,t32,t33,d1,eI,gb,eL,hB,gA,ldx,eC,ea,LN,Uy,ZO,YQ,DV,Zu,ZX,Zw,Zz,Yf,WL]
  refine⟨_,_,_,rfl,?_⟩
  exact .inl ⟨rfl,l.length - (i+1),by omega,⟨⟨i+1,v',rfl,by omega,rfl,rfl,r3⟩,Zhh,Zhi,k2,by rw[w.ro];have:=w.nx;omega⟩⟩
 ·have d1:decide (i<l.length)=false:=Za Y6
  rw[ZM (by omega)] at rb
  simp only[t32,t33,d1,ZO,DV,Zu,ZX,Yf,WL]
  refine⟨_,_,_,rfl,?_⟩
  exact .inr ⟨by simp,rfl,v,(by simp only[ZX];exact Di),rb,k0,YL⟩
def D7(h:Nat)(e:List UInt8×JV):List UInt8:=quo e.1++[58]++JV.text h e.2
structure TMI(H0 HB:Zc)(h b:Nat)(M:List (List UInt8×JV))(m:Nat)(tm:TM)(H:Zc):Prop where
 i: ∃i v,Qu tm=nI .i64 i∧i<=M.length∧m=M.length - i∧W6 tm=v∧V0 H v 9 1 (((M.take i).map (D7 h)).map λs=>[AV.str s]) HB.nx
 t51:M≠[]->SZ tm=.slice b 0 M.length none
 t52:US tm=nI .i64 M.length
 k:Zp HB H []
 ro:H.ro<=H.nx
theorem Zhm(E:Env Zo fs fuel)(ih:yR Zo fs fuel (n+1) h){HB:Zc}{M:List (List UInt8×JV)}(g0:Sh H0)(kB:Zp H0 HB [])(sr:M≠[]->OS H0 h b M HB)(hl:M.length<=9000)(ho: ∀x∈M,JV.ok h x.2)(hb: ∀x∈M,JV.tb h x.2<=800000000)(y f d r)(x:X)(m:Nat)(tm:TM)(H:Zc)(hI:TMI H0 HB h b M m tm H):
  ∃o Yp H',DW ⟨ZG (LK Zo fs fuel 4) fs fuel (n+1),y,f,d,r⟩ tm H x=.ok o Yp H' x∧((o=.normal∧ ∃q,q<m∧TMI H0 HB h b M q Yp H')∨(o≠.normal∧(o=.exit 3∧ ∃v,W6 Yp=v∧V0 H' v 9 1 ((M.map (D7 h)).map λs=>[AV.str s]) HB.nx∧Zp HB H' []∧H'.ro<=H'.nx))):=by
 obtain⟨⟨i,v,t53,hi,rfl,t3,rb⟩,t51,t52,k0,YL⟩:=hI
 have Di:=t3;have Zpd:=t51;have Zpe:=t52
 simp only[J7,Zi5,Zi6] at t3 t52 t53
 by_cases Y6:i<M.length
 ·have d1:decide (i<M.length)=true:=Ze Y6
  have VY:M≠[]:=by rintro rfl;cases Y6
  have t51:=t51 VY
  simp only[Zi4] at t51
  obtain⟨r',gb,B3,_,Q2⟩:=((sr VY).keep k0).at_
  obtain⟨tt,lW,hvi,hk9,eL⟩:=Q2 i Y6
  have QG:M.getD i default∈M:=by rw[Zf,Zi Y6];exact YJ Y6
  have hoi:=ho _ QG
  have hbi:=hb _ QG
  have ets:=OP Y6 (default:List UInt8×JV)
  generalize M.getD i default=e at*
  obtain⟨key,ev⟩:=e
  have ix:=λ(G:Zc)=>Qm (sz:=7) Y6 b 0 none .i64 G
  rw[Zt] at ix
  obtain⟨HA,hA⟩:=WQ (H.new (rH 124 (.str key::tt)))
  have nJ:HA.nx=H.nx+1:=by rw[<-hA];rfl
  have roA:HA.ro<=HA.nx:=by rw[<-hA];show H.ro<=H.nx+1;omega
  have hB:=Xg (n:=7) (l:=[.str [],nI .i64 0,.bool false,nI .i64 0,.str [],.nils,.nils]) (vs:=.str key::tt) (by rfl) (by rw[Zl,lW]) (by omega) (show(H.new (rH 124 [.str [],nI .i64 0,.bool false,nI .i64 0,.str [],.nils,.nils])).ro<=H.nx from YL) 124 1 false true
  rw[Vb rfl,hA] at hB
  have gA:HA.t.get H.nx=some (rH 124 (.str key::tt)):=by rw[<-hA,ZC rfl]
  have ldt: ∀(G:Zc),ldN 6 (some (rH 124 (.str key::tt))) 1 G=.val (.agg tt) G:=λG=>by
   rw[WV (by rw[Zl,lW];omega)]
   congr 2
   rw[Ve,Ye,ZM (by omega)]
  have ld0: ∀(G:Zc),ld1 (some (rH 124 (.str key::tt))) 0 G=.val (.str key) G:=λG=>by
   rw[ZJ (by rw[Zl];omega)];rfl
  have kA:Zp HB HA []:=by rw[<-hA];exact k0.then_new _
  have kA0:=kB.trans kA (by simp)
  have eq_:=λ{j}=>bA E (k:=4) (n:=j) (by decide) (s:=key) (H:=HA) hk9 roA
  obtain⟨HC,eC,kC⟩:=ih (g0.keep kA0 (by simp)) roA (hvi.keep kA0) hoi hbi
  have rC:V0 HC v 9 1 _ HB.nx:=rb.below (λc h1 h2=>by rw[kC.get c (by omega) (by simp),<-hA,ZK (by omega)]) (by rw[kC.ro,<-hA];rfl) (by have:=kC.nx;omega)
  have roC:HC.ro<=HC.nx:=by rw[kC.ro];have:=kC.nx;omega
  obtain⟨v',H',ea,r2,w⟩:=Jc rC (bytes:=16) (by omega) (by omega) (by rw[Zr,Zr,Z9];omega) roC (by have:=kC.nx;have:=k0.nx;omega) (x:=[.str (quo key++[58]++JV.text h ev)]) rfl
  rw[Uy] at ea
  have k2:=Below.keep (kA.trans kC (by simp)) w (Zj _)
  have r3:V0 H' v' 9 1 (((M.take (i+1)).map (D7 h)).map λs=>[AV.str s]) HB.nx:=by rw[ets,Xo,Xo];exact r2
  have hk9:key.length<=9000:=hk9
  have q1:=(Dz key).1
  have q2:(JV.text h ev).length<=800000000:=Yt (JV.text_len oE h ev hoi) hbi
  have q3:(quo key++[58]).length<=60000:=by rw[Zm,Zl,ZA];omega
  have lt2:=Ic hvi.same
  have lv1:=rb.low (n:=H.nx+1) (by omega)
  have lA: ∀o,Xt (H.nx+1) (.ptr H.nx o)=true:=λo=>Yq (by omega) o
  simp(disch:=first|assumption|omega|(simp -implicitDefEqProofs only[ZY,ZZ]<;>first|assumption|omega)|decide) only[t3,t51,t52,t53,d1,ix,gb,eL,hB,gA,nJ,ldt,ld0,eq_,eC,ea,lt2,lv1,lA,LN,Uy,ZO,YQ,Qw,Zv,Zt,CL,DW,Zu,ZX,Zw,Zz,ZQ,Yk,WW,Nat.reducePow,Nat.reduceDiv,Nat.reduceMod,reduceCtorEq,Yf,WL,RA]
  refine⟨_,_,_,rfl,?_⟩
  exact .inl ⟨rfl,M.length - (i+1),by omega,⟨⟨i+1,v',rfl,by omega,rfl,rfl,r3⟩,λhh=>(by simp only[WL,ZX];exact Zpd hh),Zpe,k2,by rw[w.ro];have:=w.nx;omega⟩⟩
 ·have d1:decide (i<M.length)=false:=Za Y6
  rw[ZM (by omega)] at rb
  simp only[t52,t53,d1,ZO,DW,Zu,ZX,Yf,WL]
  refine⟨_,_,_,rfl,?_⟩
  exact .inr ⟨by simp,rfl,v,(by simp only[ZX];exact Di),rb,k0,YL⟩
theorem m9(E:Env Zo fs fuel){b:Bool}:
  ∃H',ZG (LK Zo fs fuel 0) fs fuel (n+2) 154 [.bool b] H=.ret (.str (if b=true then [116,114,117,101] else [102,97,108,115,101])) H'∧Zp H H' []:=by
 rw[ZF (ZB E.n154 (.inl (by decide)) _ _) E.f154]
 cases b with
 |true=>
  simp only[if_true,Za8,Zu,ZX,Zw,Yf]
  refine⟨_,rfl,?_⟩
  exact Zp.refl _ _
 |false=>
  simp only[YO,if_false,Za8,Zu,ZX,Zw,Yf]
  refine⟨_,rfl,?_⟩
  exact Zp.refl _ _
theorem Zit(E:Env Zo fs fuel)(hk:1<=k){b:Bool}:
  ZG (LK Zo fs fuel k) fs fuel (n+1) 154 [.bool b] H=.ret (.str (if b=true then [116,114,117,101] else [102,97,108,115,101])) H:=by
 obtain⟨H',e,g⟩:=m9 E (n:=898) (H:=H)
 exact Xd (r:=0) rfl rfl e g (rfl) hk
theorem fN(E:Env Zo fs fuel){b:Bool}:
  ∃H',ZG (LK Zo fs fuel 1) fs fuel (n+3) 108 [.bool b] H=.ret (.str (if b=true then [116,114,117,101] else [102,97,108,115,101])) H'∧Zp H H' []:=by
 rw[ZF (ZB E.n108 (.inl (by decide)) _ _) E.f108]
 have e:=λ{j}=>Zit E (k:=1) (n:=j) (by decide) (b:=b) (H:=H)
 simp only[e,ZeW,Zu,ZX,Zw,Yf]
 refine⟨_,rfl,?_⟩
 exact Zp.refl _ _
theorem Znf(E:Env Zo fs fuel)(hk:2<=k){b:Bool}:
  ZG (LK Zo fs fuel k) fs fuel (n+1) 108 [.bool b] H=.ret (.str (if b=true then [116,114,117,101] else [102,97,108,115,101])) H:=by
 obtain⟨H',e,g⟩:=fN E (n:=897) (H:=H)
 exact Xd (r:=1) rfl rfl e g (rfl) hk
theorem aR(E:Env Zo fs fuel)(M:MNZ Zo): ∀(h:Nat),h<=100-> ∀{n:Nat},h+20<=n->yR Zo fs fuel n h:=by
 intro h
 induction h with
 |zero=>intro _ n _ v cs H _ _ hv;exact hv.elim
 |succ h ih=>
 intro hh n hn v cs H g YL hv OL nf
 obtain⟨n,rfl⟩: ∃q,n=q+10:=⟨n - 10,by omega⟩
 have hlen:=JV.text_len oE (h+1) v OL
 obtain⟨kk,b,z,s,l,m⟩:=v
 obtain⟨lv,mv,ls,ms,rfl,hz1,Ej,hs9,hl9,hm9,sl,sm,e1,e2,hl,hm⟩:=hv
 obtain⟨_,Zn2,hol,hom⟩:=OL
 rw[ZF (ZB E.n54 (.inl (by decide)) _ _) E.f54]
 obtain⟨H1,Yo⟩:=WQ (H.new (rH 27 [nI .i64 kk,.bool b,.int .i64 z,.str s,lv,mv]))
 have VH:H1.nx=H.nx+1:=by rw[<-Yo];rfl
 have Nn:H1.ro<=H1.nx:=by rw[<-Yo];show H.ro<=H.nx+1;omega
 have g1:H1.t.get H.nx=some (rH 27 [nI .i64 kk,.bool b,.int .i64 z,.str s,lv,mv]):=by rw[<-Yo,ZC rfl]
 have k1:Zp H H1 []:=by rw[<-Yo];exact Zp.new H _ _
 have tbl: ∀x∈l,JV.tb h x<=800000000:=λx hx=>by
  have a:1+JV.tb h x<=(l.map λx=>1+JV.tb h x).sum:=JV.mem_sum (λx=>1+JV.tb h x) hx
  have b:50+6*s.length+(l.map λx=>1+JV.tb h x).sum+(m.map λe=>6*e.1.length+4+JV.tb h e.2).sum<=800000000:=nf
  omega
 have tbm: ∀e∈m,JV.tb h e.2<=800000000:=λx hx=>by
  have a:6*x.1.length+4+JV.tb h x.2<=(m.map λe=>6*e.1.length+4+JV.tb h e.2).sum:=JV.mem_sum (λe:List UInt8×JV=>6*e.1.length+4+JV.tb h e.2) hx
  have b:50+6*s.length+(l.map λx=>1+JV.tb h x).sum+(m.map λe=>6*e.1.length+4+JV.tb h e.2).sum<=800000000:=nf
  omega
 have hte:JV.text (h+1) (.mk kk b z s l m)=(if kk=1 then [110,117,108,108] else if kk=2 then(if b=true then [116,114,117,101] else [102,97,108,115,101]) else if kk=3 then P7 z else if kk=4 then quo s else if kk=5 then [91]++Vq (l.map (JV.text h))++[93] else [123]++Vq ((Xi TG m).map (D7 h))++[125]):=rfl
 rw[hte] at hlen ⊢
 by_cases k1':kk=1
 ·have d1:decide (kk=1)=true:=Ze k1'
  rw[if_pos k1']
  simp(disch:=first|assumption|omega|simp only[ZY,ZZ];omega) only[g1,Yo,Z2,ZJ,d1,c54,Zu,ZX,Zw,Zz,Yf,]
  refine⟨_,rfl,?_⟩
  exact k1
 have d1:decide (kk=1)=false:=Za k1'
 rw[if_neg k1'] at hlen ⊢
 by_cases k2':kk=2
 ·have d2:decide (kk=2)=true:=Ze k2'
  have e:=λ{j}=>Znf E (k:=4) (n:=j) (by decide) (b:=b) (H:=H1)
  rw[if_pos k2']
  generalize(if b=true then [116,114,117,101] else [102,97,108,115,101])=bt at e ⊢
  simp(disch:=first|assumption|omega|simp only[ZY,ZZ];omega) only[g1,Yo,Z2,ZJ,d1,d2,e,c54,Zu,ZX,Zw,Zz,Yf,]
  refine⟨_,rfl,?_⟩
  exact k1
 have d2:decide (kk=2)=false:=Za k2'
 rw[if_neg k2'] at hlen ⊢
 by_cases k3':kk=3
 ·have d3:decide (kk=3)=true:=Ze k3'
  have e:=λ{j}=>fO E (k:=4) (n:=j) (by decide) (z:=z) (H:=H1) (g.keep k1 (by simp)) Nn hz1 Ej
  rw[if_pos k3']
  simp(disch:=first|assumption|omega|simp only[ZY,ZZ];omega) only[g1,Yo,Z2,ZJ,d1,d2,d3,e,c54,Zu,ZX,Zw,Zz,Yf,]
  refine⟨_,rfl,?_⟩
  exact k1
 have d3:decide (kk=3)=false:=Za k3'
 rw[if_neg k3'] at hlen ⊢
 by_cases k4':kk=4
 ·have d4:decide (kk=4)=true:=Ze k4'
  have e:=λ{j}=>bA E (k:=4) (n:=j) (by decide) (s:=s) (H:=H1) hs9 Nn
  rw[if_pos k4']
  simp(disch:=first|assumption|omega|simp only[ZY,ZZ];omega) only[g1,Yo,Z2,ZJ,d1,d2,d3,d4,e,c54,Zu,ZX,Zw,Zz,Yf,]
  refine⟨_,rfl,?_⟩
  exact k1
 have d4:decide (kk=4)=false:=Za k4'
 rw[if_neg k4'] at hlen ⊢
 have ihn:yR Zo fs fuel (n+9) h:=ih (by omega) (by omega)
 by_cases k5':kk=5
 ·have d5:decide (kk=5)=true:=Ze k5'
  have el:=sl.len
  rw[e1] at el
  rw[if_pos k5'] at hlen ⊢
  simp(disch:=first|assumption|omega|simp only[ZY,ZZ];omega) only[g1,Yo,Z2,ZJ,d1,d2,d3,d4,d5,el,c54,Zu,ZX,Zw,Zz,Yf,WL]
  generalize hL:WR (DV _) fuel _ _ _=L
  obtain⟨o,SY,H2,rfl,_,rfl,v,t3,rb,k2,DB⟩:=Y9 (P:=λT=>TLI H1 h l lv l.length T H1) (Q:=λo Yp H'=>o=.exit 1∧ ∃v,W6 Yp=v∧V0 H' v 9 1 ((l.map (JV.text h)).map λs=>[AV.str s]) H1.nx∧Zp H1 H' []∧H'.ro<=H'.nx)
   (λT R0=>Xk (TLI H1 h l lv) _ (λq tm H' h'=>Zhl E ihn (g.keep k1 (by simp)) (sl.keep0 k1) e1 hl9 (λi hi=>(hl i hi).keep k1) hol tbl _ _ _ _ _ q tm H' h') fuel l.length T H1 (by have:=E.big;omega) R0) hL
   ⟨⟨0,.nils,rfl,Z1 _,rfl,rfl,.inl ⟨rfl,rfl⟩⟩,rfl,rfl,Zp.refl _ _,Nn⟩
  simp only[J7] at t3
  have hj:(Vq (l.map (JV.text h))).length<=800000000:=by
   simp only[Zm,Zl,ZA] at hlen;omega
  have ej:=λ{j}=>Zkt E (k:=4) (n:=j) (by decide) M rb (by rw[Zr];exact hl9) (by omega) DB
  generalize Vq (l.map (JV.text h))=J at ej hj ⊢
  have q1:([91]:List UInt8).length+J.length<=900000000:=by rw[Zl,ZA];omega
  have q2:([91]++J).length+([93]:List UInt8).length<=900000010:=by simp only[Zm,Zl,ZA];omega
  simp(disch:=omega) only[t3,ej,Qw,Zu,ZX,Zw,Yf,WL]
  refine⟨_,rfl,?_⟩
  exact k1.trans k2 (by simp)
 have d5:decide (kk=5)=false:=Za k5'
 rw[if_neg k5'] at hlen ⊢
 obtain⟨H2,XH⟩:=WQ (H1.new (rH 25 [mv]))
 have k2:Zp H1 H2 []:=by rw[<-XH];exact Zp.new H1 _ _
 have k02:=k1.trans k2 (by simp)
 have nx2:H2.nx=H1.nx+1:=by rw[<-XH];rfl
 have DB:H2.ro<=H2.nx:=by rw[<-XH];show H1.ro<=H1.nx+1;omega
 have eva:=λ{j}=>Zhp E (k:=4) (n:=j) (src:=mv) (H:=H1) sm.cells
 rw[XH] at eva
 have hf:yN Zo fs fuel 4 114:=λ{a b t u H j} ht hu=>Zm7 E (k:=4) (n:=j) (by decide) ht hu
 obtain⟨sv,H3,es,k3,srt⟩:=Zds E (k:=4) (n0:=n+4) (by decide) hf (H:=H2) (h:=h) (vb:=H1.nx) (M:=m) (sm.keep0 k02) (by rw[<-XH,ZC rfl]) (by omega) DB Zn2 e2 (λi hi=>by
  obtain⟨a1,t,a2,a3⟩:=hm i hi
  exact⟨a1,t,a2,a3.keep k02⟩)
 rw[VH] at es
 have jZ:H3.ro<=H3.nx:=by rw[k3.ro];have:=k3.nx;omega
 have hml:(Xi TG m).length=m.length:=SH TG m
 obtain⟨els,b2,hsl,hsr⟩:(∀G,QK sv G=.val (nI .i64 m.length) G)∧ ∃b2,(Xi TG m≠[]->sv=.slice b2 0 (Xi TG m).length none)∧(Xi TG m≠[]->OS H2 h b2 (Xi TG m) H3):=by
  rcases srt with⟨rfl,rfl⟩|⟨_,b2,rfl,_,sr⟩
  ·exact⟨λG=>O3 G,0,λVY=>absurd rfl VY,λVY=>absurd rfl VY⟩
  ·exact⟨λG=>Vl ..,b2,λ_=>by rw[hml],λ_=>sr⟩
 simp(disch:=first|assumption|omega|simp only[ZY,ZZ];omega) only[VH,g1,Yo,Z2,ZJ,d1,d2,d3,d4,d5,eva,es,els,c54,Zu,ZX,Zw,Zz,Yf,WL]
 generalize hL:WR (DW _) fuel _ _ _=L
 obtain⟨o,SY,H4,rfl,_,rfl,v,t3,rb,k4,pz⟩:=Y9 (P:=λT=>TMI H2 H3 h b2 (Xi TG m) (Xi TG m).length T H3) (Q:=λo Yp H'=>o=.exit 3∧ ∃v,W6 Yp=v∧V0 H' v 9 1 (((Xi TG m).map (D7 h)).map λs=>[AV.str s]) H3.nx∧Zp H3 H' []∧H'.ro<=H'.nx)
  (λT R0=>Xk (TMI H2 H3 h b2 (Xi TG m)) _ (λq tm H' h'=>Zhm E (n:=n+8) ihn (g.keep k02 (by simp)) k3 hsr (by omega) (λx hx=>hom x (T4 TG x hx)) (λx hx=>tbm x (T4 TG x hx)) _ _ _ _ _ q tm H' h') fuel (Xi TG m).length T H3 (by have:=E.big;omega) R0) hL
  ⟨⟨0,.nils,rfl,Z1 _,rfl,rfl,.inl ⟨rfl,rfl⟩⟩,λVY=>hsl VY,by rw[hml];rfl,Zp.refl _ _,jZ⟩
 simp only[J7] at t3
 have hj:(Vq ((Xi TG m).map (D7 h))).length<=800000000:=by
  simp only[Zm,Zl,ZA] at hlen;omega
 have ej:=λ{j}=>Zkt E (k:=4) (n:=j) (by decide) M rb (by rw[Zr,hml];omega) (by omega) pz
 generalize Vq ((Xi TG m).map (D7 h))=J at ej hj ⊢
 have q1:([123]:List UInt8).length+J.length<=900000000:=by rw[Zl,ZA];omega
 have q2:([123]++J).length+([125]:List UInt8).length<=900000010:=by simp only[Zm,Zl,ZA];omega
 simp(disch:=omega) only[t3,ej,Qw,Zu,ZX,Zw,Yf,RA]
 refine⟨_,rfl,?_⟩
 exact(k02.trans k3 (by simp)).trans k4 (by simp)
theorem Zlz(E:Env Zo fs fuel)(M:MNZ Zo)(hk:5<=k)(hh:h<=100){v:JV}(g:Sh H)(YL:H.ro<=H.nx)(hv:VR H h v cs)(OL:JV.ok h v)(nf:JV.tb h v<=800000000):
  ZG (LK Zo fs fuel k) fs fuel (n+1) 54 [.agg cs] H=.ret (.str (JV.text h v)) H:=by
 obtain⟨H',e,g⟩:=aR E M h hh (n:=900) (by omega) g YL hv OL nf
 exact Xd (r:=4) rfl rfl e g rfl hk
theorem Zo0(E:Env Zo fs fuel)(M:MNZ Zo)(hk:5<=k)(hh:h<=100){v:JV}(g:Sh H)(gu:V8 H)(YL:H.ro<=H.nx)(hv:VR H h v cs)(OL:JV.ok h v)(nf:JV.tb h v<=800000000)(VY:JV.text h v≠[]):
  ZG (LK Zo fs fuel k) fs fuel (n+2) 11 [.agg cs] H=if JV.check v=0 then .ret (.tup [.slice (H.nx+1) 0 (JV.text h v).length none,nI .i64 0]) ((H.new (rH 27 cs)).new (rG 5 1 ((JV.text h v).map UZ) 0 true true false))
   else .ret (.tup [.nils,nI .i64 (JV.check v)]) (H.new (rH 27 cs)):=by
 have hlen:=hv.len
 have lW:=JV.text_len oE h v OL
 rw[ZF (ZB E.n11 (.inr rfl) _ _) E.f11]
 obtain⟨H1,Yo⟩:=WQ (Zc.new H (rH 27 cs))
 have VH:H1.nx=H.nx+1:=by rw[<-Yo];rfl
 have Nn:H1.ro<=H1.nx:=by rw[<-Yo];show H.ro<=H.nx+1;omega
 have g1:H1.t.get H.nx=some (rH 27 cs):=by rw[<-Yo,ZC rfl]
 have k1:Zp H H1 []:=by rw[<-Yo];exact Zp.new H _ _
 have ldx: ∀(G':Zc),ldN 6 (some (rH 27 cs)) 0 G'=.val (.agg cs) G':=λG'=>by
  rw[WV (by omega)];congr 2;rw[Ye,ZM (by omega)]
 have bx:=VW (l:=cs) (by omega) 27 H
 rw[Yo] at bx
 have ec:=λ{j}=>Zft E (k:=k) (n:=j) (by omega) (gu.keep0 k1) Nn (hv.keep k1)
 have et:=λ{j}=>Zlz E M (k:=k) (n:=j) hk hh (g.keep k1 (by simp)) Nn (hv.keep k1) OL nf
 generalize JV.text h v=T at*
 by_cases hc:JV.check v=0
 ·rw[if_pos hc]
  rw[hc] at ec
  have d0:(!decide (0=0))=false:=rfl
  have d1:decide (0≠0)=false:=rfl
  simp only[Yo,bx,VH,g1,ldx,ec,et,d1,Vi,c11,Zu,ZX,Zw,Yf]
 ·rw[if_neg hc]
  have d0:decide (JV.check v≠0)=true:=Ze hc
  generalize JV.check v=cv at*
  simp only[Yo,bx,g1,ldx,ec,d0,Vi,c11,Zu,ZX,Zw,Yf]
theorem V3{u t:Nat}(h:Nat.beq u t=false)(zv v:AV)(H:Zc):Np t zv true (.iface u v) H=.val (.tup [zv,.bool false]) H:=by
 show S7 zv true H (cond (Nat.beq u t) (some v) none)=_
 rw[h];rfl
theorem zI{Zo:NJ}{fs:T CF}{fuel:Nat}{f r:Nat}{args:List AV}{H H':Zc}{v:AV}(h:Ur f=r+1)(hs:Ts f args H=none)(hr:ZG (LK Zo fs fuel r) fs fuel 900 f args H=.ret v H')(hv:Xt 0 v=false)(h0: ∀l H,Zo f l H=none)(hk:r+1<=k):
  LK Zo fs fuel k f args H=none:=by
 show Mc Zo fs fuel Ur Ts k f args H=none
 rw[xL h args H k hk]
 show Ko Ur Ts (ZG (LK Zo fs fuel r) fs fuel 900) (LK Zo fs fuel r) (r+1) f args H=none
 unfold Ko
 rw[if_pos h,hs]
 simp only
 rw[if_neg]
 ·exact ZB h0 (.inl (by omega)) args H
 ·rintro ⟨v',H'',e,_,l⟩
  rw[hr] at e;cases e;rw[hv] at l;cases l
theorem qO(E:Env Zo fs fuel)(YL:H.ro<=H.nx):
  ∃H',ZG (LK Zo fs fuel 0) fs fuel (n+2) 106 [.nili] H=.ret (.agg [nI .i64 1,.bool false,nI .i64 0,.str [],.nils,.nils]) H'∧Zp H H' []:=by
 rw[ZF (ZB E.n106 (.inl (by decide)) _ _) E.f106]
 obtain⟨H1,Yo⟩:=WQ (Zc.new H (rH 27 [nI .i64 1,.bool false,nI .i64 0,.str [],.nils,.nils]))
 have G3:H.ro<=H.nx:=YL
 have hB:=Xg (n:=6) (l:=zV) (vs:=[nI .i64 1,.bool false,nI .i64 0,.str [],.nils,.nils]) (b:=H.nx) (H:=H.new (rH 27 zV)) (by rfl) (by rfl) (by omega) G3 27 1 false true
 rw[Vb rfl,Yo] at hB
 have g1:H1.t.get H.nx=some (rH 27 [nI .i64 1,.bool false,nI .i64 0,.str [],.nils,.nils]):=by rw[<-Yo,ZC rfl]
 have k1:Zp H H1 []:=by rw[<-Yo];exact Zp.new H _ _
 have ldx: ∀(G':Zc),ldN 6 (some (rH 27 [nI .i64 1,.bool false,nI .i64 0,.str [],.nils,.nils])) 0 G'=.val (.agg [nI .i64 1,.bool false,nI .i64 0,.str [],.nils,.nils]) G':=λG'=>by
  rw[WV (Zj _)];rfl
 simp(disch:=first|assumption|omega|(simp -implicitDefEqProofs only[ZY,ZZ]<;>first|assumption|omega)|decide) only[hB,g1,B7,Zu,ZX,Zw,Zz,Yf]
 refine⟨_,rfl,?_⟩
 exact k1
theorem cJ(E:Env Zo fs fuel)(hk:1<=k)(YL:H.ro<=H.nx):
  ZG (LK Zo fs fuel k) fs fuel (n+1) 106 [.nili] H=.ret (.agg [nI .i64 1,.bool false,nI .i64 0,.str [],.nils,.nils]) H:=by
 obtain⟨H',e,g⟩:=qO E (n:=898) (H:=H) YL
 exact Xd (r:=0) rfl rfl e g (rfl) hk
theorem qN(E:Env Zo fs fuel){b:Bool}(YL:H.ro<=H.nx):
  ∃H',ZG (LK Zo fs fuel 0) fs fuel (n+2) 106 [.iface 4 (.bool b)] H=.ret (.agg [nI .i64 2,.bool b,nI .i64 0,.str [],.nils,.nils]) H'∧Zp H H' []:=by
 rw[ZF (ZB E.n106 (.inl (by decide)) _ _) E.f106]
 obtain⟨H1,Yo⟩:=WQ (Zc.new H (rH 27 [nI .i64 2,.bool b,nI .i64 0,.str [],.nils,.nils]))
 have G3:H.ro<=H.nx:=YL
 have hB:=Xg (n:=6) (l:=zV) (vs:=[nI .i64 2,.bool b,nI .i64 0,.str [],.nils,.nils]) (b:=H.nx) (H:=H.new (rH 27 zV)) (by rfl) (by rfl) (by omega) G3 27 1 false true
 rw[Vb rfl,Yo] at hB
 have g1:H1.t.get H.nx=some (rH 27 [nI .i64 2,.bool b,nI .i64 0,.str [],.nils,.nils]):=by rw[<-Yo,ZC rfl]
 have k1:Zp H H1 []:=by rw[<-Yo];exact Zp.new H _ _
 have ldx: ∀(G':Zc),ldN 6 (some (rH 27 [nI .i64 2,.bool b,nI .i64 0,.str [],.nils,.nils])) 0 G'=.val (.agg [nI .i64 2,.bool b,nI .i64 0,.str [],.nils,.nils]) G':=λG'=>by
  rw[WV (Zj _)];rfl
 simp(disch:=first|assumption|omega|(simp -implicitDefEqProofs only[ZY,ZZ]<;>first|assumption|omega)|decide) only[hB,g1,B7,Zu,ZX,Zw,Zz,Yf]
 refine⟨_,rfl,?_⟩
 exact k1
theorem qM(E:Env Zo fs fuel)(hk:1<=k){b:Bool}(YL:H.ro<=H.nx):
  ZG (LK Zo fs fuel k) fs fuel (n+1) 106 [.iface 4 (.bool b)] H=.ret (.agg [nI .i64 2,.bool b,nI .i64 0,.str [],.nils,.nils]) H:=by
 obtain⟨H',e,g⟩:=qN E (n:=898) (H:=H) YL
 exact Xd (r:=0) rfl rfl e g (rfl) hk
theorem jn(E:Env Zo fs fuel){z:Int}(YL:H.ro<=H.nx):
  ∃H',ZG (LK Zo fs fuel 0) fs fuel (n+2) 106 [.iface 2 (.int .i64 z)] H=.ret (.agg [nI .i64 3,.bool false,.int .i64 z,.str [],.nils,.nils]) H'∧Zp H H' []:=by
 rw[ZF (ZB E.n106 (.inl (by decide)) _ _) E.f106]
 obtain⟨H1,Yo⟩:=WQ (Zc.new H (rH 27 [nI .i64 3,.bool false,.int .i64 z,.str [],.nils,.nils]))
 have G3:H.ro<=H.nx:=YL
 have hB:=Xg (n:=6) (l:=zV) (vs:=[nI .i64 3,.bool false,.int .i64 z,.str [],.nils,.nils]) (b:=H.nx) (H:=H.new (rH 27 zV)) (by rfl) (by rfl) (by omega) G3 27 1 false true
 rw[Vb rfl,Yo] at hB
 have g1:H1.t.get H.nx=some (rH 27 [nI .i64 3,.bool false,.int .i64 z,.str [],.nils,.nils]):=by rw[<-Yo,ZC rfl]
 have k1:Zp H H1 []:=by rw[<-Yo];exact Zp.new H _ _
 have ldx: ∀(G':Zc),ldN 6 (some (rH 27 [nI .i64 3,.bool false,.int .i64 z,.str [],.nils,.nils])) 0 G'=.val (.agg [nI .i64 3,.bool false,.int .i64 z,.str [],.nils,.nils]) G':=λG'=>by
  rw[WV (Zj _)];rfl
 have an4:=λ(zv v:AV) (G:Zc)=>V3 (u:=2) (t:=4) rfl zv v G
 simp(disch:=first|assumption|omega|(simp -implicitDefEqProofs only[ZY,ZZ]<;>first|assumption|omega)|decide) only[hB,g1,an4,B7,Zu,ZX,Zw,Zz,Yf]
 refine⟨_,rfl,?_⟩
 exact k1
theorem ZkM(E:Env Zo fs fuel)(hk:1<=k){z:Int}(YL:H.ro<=H.nx):
  ZG (LK Zo fs fuel k) fs fuel (n+1) 106 [.iface 2 (.int .i64 z)] H=.ret (.agg [nI .i64 3,.bool false,.int .i64 z,.str [],.nils,.nils]) H:=by
 obtain⟨H',e,g⟩:=jn E (n:=898) (H:=H) YL
 exact Xd (r:=0) rfl rfl e g (rfl) hk
theorem jo(E:Env Zo fs fuel){z:Int}(YL:H.ro<=H.nx):
  ∃H',ZG (LK Zo fs fuel 0) fs fuel (n+2) 106 [.iface 3 (.int .i64 z)] H=.ret (.agg [nI .i64 3,.bool false,.int .i64 z,.str [],.nils,.nils]) H'∧Zp H H' []:=by
 rw[ZF (ZB E.n106 (.inl (by decide)) _ _) E.f106]
 obtain⟨H1,Yo⟩:=WQ (Zc.new H (rH 27 [nI .i64 3,.bool false,.int .i64 z,.str [],.nils,.nils]))
 have G3:H.ro<=H.nx:=YL
 have hB:=Xg (n:=6) (l:=zV) (vs:=[nI .i64 3,.bool false,.int .i64 z,.str [],.nils,.nils]) (b:=H.nx) (H:=H.new (rH 27 zV)) (by rfl) (by rfl) (by omega) G3 27 1 false true
 rw[Vb rfl,Yo] at hB
 have g1:H1.t.get H.nx=some (rH 27 [nI .i64 3,.bool false,.int .i64 z,.str [],.nils,.nils]):=by rw[<-Yo,ZC rfl]
 have k1:Zp H H1 []:=by rw[<-Yo];exact Zp.new H _ _
 have ldx: ∀(G':Zc),ldN 6 (some (rH 27 [nI .i64 3,.bool false,.int .i64 z,.str [],.nils,.nils])) 0 G'=.val (.agg [nI .i64 3,.bool false,.int .i64 z,.str [],.nils,.nils]) G':=λG'=>by
  rw[WV (Zj _)];rfl
 have an4:=λ(zv v:AV) (G:Zc)=>V3 (u:=3) (t:=4) rfl zv v G
 have an2:=λ(zv v:AV) (G:Zc)=>V3 (u:=3) (t:=2) rfl zv v G
 simp(disch:=first|assumption|omega|(simp -implicitDefEqProofs only[ZY,ZZ]<;>first|assumption|omega)|decide) only[hB,g1,an4,an2,B7,Zu,ZX,Zw,Zz,Yf]
 refine⟨_,rfl,?_⟩
 exact k1
theorem ofInt(E:Env Zo fs fuel)(hk:1<=k){z:Int}(YL:H.ro<=H.nx):
  ZG (LK Zo fs fuel k) fs fuel (n+1) 106 [.iface 3 (.int .i64 z)] H=.ret (.agg [nI .i64 3,.bool false,.int .i64 z,.str [],.nils,.nils]) H:=by
 obtain⟨H',e,g⟩:=jo E (n:=898) (H:=H) YL
 exact Xd (r:=0) rfl rfl e g (rfl) hk
theorem jp(E:Env Zo fs fuel)(YL:H.ro<=H.nx):
  ∃H',ZG (LK Zo fs fuel 0) fs fuel (n+2) 106 [.iface 9 (.str s)] H=.ret (.agg [nI .i64 4,.bool false,nI .i64 0,.str s,.nils,.nils]) H'∧Zp H H' []:=by
 rw[ZF (ZB E.n106 (.inl (by decide)) _ _) E.f106]
 obtain⟨H1,Yo⟩:=WQ (Zc.new H (rH 27 [nI .i64 4,.bool false,nI .i64 0,.str s,.nils,.nils]))
 have G3:H.ro<=H.nx:=YL
 have hB:=Xg (n:=6) (l:=zV) (vs:=[nI .i64 4,.bool false,nI .i64 0,.str s,.nils,.nils]) (b:=H.nx) (H:=H.new (rH 27 zV)) (by rfl) (by rfl) (by omega) G3 27 1 false true
 rw[Vb rfl,Yo] at hB
 have g1:H1.t.get H.nx=some (rH 27 [nI .i64 4,.bool false,nI .i64 0,.str s,.nils,.nils]):=by rw[<-Yo,ZC rfl]
 have k1:Zp H H1 []:=by rw[<-Yo];exact Zp.new H _ _
 have ldx: ∀(G':Zc),ldN 6 (some (rH 27 [nI .i64 4,.bool false,nI .i64 0,.str s,.nils,.nils])) 0 G'=.val (.agg [nI .i64 4,.bool false,nI .i64 0,.str s,.nils,.nils]) G':=λG'=>by
  rw[WV (Zj _)];rfl
 have an4:=λ(zv v:AV) (G:Zc)=>V3 (u:=9) (t:=4) rfl zv v G
 have an2:=λ(zv v:AV) (G:Zc)=>V3 (u:=9) (t:=2) rfl zv v G
 have an3:=λ(zv v:AV) (G:Zc)=>V3 (u:=9) (t:=3) rfl zv v G
 simp(disch:=first|assumption|omega|(simp -implicitDefEqProofs only[ZY,ZZ]<;>first|assumption|omega)|decide) only[hB,g1,an4,an2,an3,B7,Zu,ZX,Zw,Zz,Yf,WL]
 refine⟨_,rfl,?_⟩
 exact k1
theorem cK(E:Env Zo fs fuel)(hk:1<=k)(YL:H.ro<=H.nx):
  ZG (LK Zo fs fuel k) fs fuel (n+1) 106 [.iface 9 (.str s)] H=.ret (.agg [nI .i64 4,.bool false,nI .i64 0,.str s,.nils,.nils]) H:=by
 obtain⟨H',e,g⟩:=jp E (n:=898) (H:=H) YL
 exact Xd (r:=0) rfl rfl e g (rfl) hk
theorem CW(E:Env Zo fs fuel){v:AV}(hl:LK Zo fs fuel k 106 [.iface 24 v] H=none)(hv:v.cells=[v])(YL:H.ro<=H.nx):
  ∃H',ZG (LK Zo fs fuel k) fs fuel (n+2) 106 [.iface 24 v] H=.ret (.agg [nI .i64 5,.bool false,nI .i64 0,.str [],v,.nils]) H'∧Zp H H' []:=by
 rw[ZF hl E.f106]
 obtain⟨H1,Yo⟩:=WQ (Zc.new H (rH 27 [nI .i64 5,.bool false,nI .i64 0,.str [],v,.nils]))
 have G3:H.ro<=H.nx:=YL
 have hB:=Xg (n:=6) (l:=zV) (vs:=[nI .i64 5,.bool false,nI .i64 0,.str [],v,.nils]) (b:=H.nx) (H:=H.new (rH 27 zV)) (by rfl) (by rfl) (by omega) G3 27 1 false true
 rw[Vb rfl,Yo] at hB
 have g1:H1.t.get H.nx=some (rH 27 [nI .i64 5,.bool false,nI .i64 0,.str [],v,.nils]):=by rw[<-Yo,ZC rfl]
 have k1:Zp H H1 []:=by rw[<-Yo];exact Zp.new H _ _
 have ldx: ∀(G':Zc),ldN 6 (some (rH 27 [nI .i64 5,.bool false,nI .i64 0,.str [],v,.nils])) 0 G'=.val (.agg [nI .i64 5,.bool false,nI .i64 0,.str [],v,.nils]) G':=λG'=>by
  rw[WV (Zj _)];rfl
 have an4:=λ(zv v:AV) (G:Zc)=>V3 (u:=24) (t:=4) rfl zv v G
 have an2:=λ(zv v:AV) (G:Zc)=>V3 (u:=24) (t:=2) rfl zv v G
 have an3:=λ(zv v:AV) (G:Zc)=>V3 (u:=24) (t:=3) rfl zv v G
 have an9:=λ(zv v:AV) (G:Zc)=>V3 (u:=24) (t:=9) rfl zv v G
 simp(disch:=first|assumption|omega|(simp -implicitDefEqProofs only[ZY,ZZ]<;>first|assumption|omega)|decide) only[hB,g1,an4,an2,an3,an9,B7,Zu,ZX,Zw,Zz,Yf,WL]
 refine⟨_,rfl,?_⟩
 exact k1
theorem ofList(E:Env Zo fs fuel)(hk:1<=k){v:AV}(hv:v=.nils∨ ∃b o m c,v=.slice b o m c)(YL:H.ro<=H.nx):
  ∃H',ZG (LK Zo fs fuel k) fs fuel (n+2) 106 [.iface 24 v] H=.ret (.agg [nI .i64 5,.bool false,nI .i64 0,.str [],v,.nils]) H'∧Zp H H' []:=by
 have hc:v.cells=[v]:=by rcases hv with rfl|⟨b,o,m,c,rfl⟩<;>rfl
 obtain⟨H',e,g⟩:=CW E (k:=0) (n:=898) (v:=v) (H:=H) (ZB E.n106 (.inl (by decide)) _ _) hc YL
 rcases hv with rfl|⟨b,o,m,c,rfl⟩
 ·exact⟨H,Xd (r:=0) rfl rfl e g rfl hk,Zp.refl _ _⟩
 ·exact CW E (n:=n) (zI (r:=0) rfl rfl e rfl E.n106 hk) hc YL
theorem Es(E:Env Zo fs fuel){v:AV}(hl:LK Zo fs fuel k 106 [.iface 25 v] H=none)(hv:v.cells=[v])(YL:H.ro<=H.nx):
  ∃H',ZG (LK Zo fs fuel k) fs fuel (n+2) 106 [.iface 25 v] H=.ret (.agg [nI .i64 6,.bool false,nI .i64 0,.str [],.nils,v]) H'∧Zp H H' []:=by
 rw[ZF hl E.f106]
 obtain⟨H1,Yo⟩:=WQ (Zc.new H (rH 27 [nI .i64 6,.bool false,nI .i64 0,.str [],.nils,v]))
 have G3:H.ro<=H.nx:=YL
 have hB:=Xg (n:=6) (l:=zV) (vs:=[nI .i64 6,.bool false,nI .i64 0,.str [],.nils,v]) (b:=H.nx) (H:=H.new (rH 27 zV)) (by rfl) (by rfl) (by omega) G3 27 1 false true
 rw[Vb rfl,Yo] at hB
 have g1:H1.t.get H.nx=some (rH 27 [nI .i64 6,.bool false,nI .i64 0,.str [],.nils,v]):=by rw[<-Yo,ZC rfl]
 have k1:Zp H H1 []:=by rw[<-Yo];exact Zp.new H _ _
 have ldx: ∀(G':Zc),ldN 6 (some (rH 27 [nI .i64 6,.bool false,nI .i64 0,.str [],.nils,v])) 0 G'=.val (.agg [nI .i64 6,.bool false,nI .i64 0,.str [],.nils,v]) G':=λG'=>by
  rw[WV (Zj _)];rfl
 have an4:=λ(zv v:AV) (G:Zc)=>V3 (u:=25) (t:=4) rfl zv v G
 have an2:=λ(zv v:AV) (G:Zc)=>V3 (u:=25) (t:=2) rfl zv v G
 have an3:=λ(zv v:AV) (G:Zc)=>V3 (u:=25) (t:=3) rfl zv v G
 have an9:=λ(zv v:AV) (G:Zc)=>V3 (u:=25) (t:=9) rfl zv v G
 have ZmL:=λ(zv v:AV) (G:Zc)=>V3 (u:=25) (t:=24) rfl zv v G
 simp(disch:=first|assumption|omega|(simp -implicitDefEqProofs only[ZY,ZZ]<;>first|assumption|omega)|decide) only[hB,g1,an4,an2,an3,an9,ZmL,B7,Zu,ZX,Zw,Zz,Yf,WL]
 refine⟨_,rfl,?_⟩
 exact k1
theorem ZcP(E:Env Zo fs fuel)(hk:1<=k){v:AV}(hv:v=.nils∨ ∃b o m c,v=.slice b o m c)(YL:H.ro<=H.nx):
  ∃H',ZG (LK Zo fs fuel k) fs fuel (n+2) 106 [.iface 25 v] H=.ret (.agg [nI .i64 6,.bool false,nI .i64 0,.str [],.nils,v]) H'∧Zp H H' []:=by
 have hc:v.cells=[v]:=by rcases hv with rfl|⟨b,o,m,c,rfl⟩<;>rfl
 obtain⟨H',e,g⟩:=Es E (k:=0) (n:=898) (v:=v) (H:=H) (ZB E.n106 (.inl (by decide)) _ _) hc YL
 rcases hv with rfl|⟨b,o,m,c,rfl⟩
 ·exact⟨H,Xd (r:=0) rfl rfl e g rfl hk,Zp.refl _ _⟩
 ·exact Es E (n:=n) (zI (r:=0) rfl rfl e rfl E.n106 hk) hc YL
def wL(H0:Zc)(h:Nat)(M:List (List UInt8×JV))(v:AV)(H:Zc):Prop:=(M=[]∧(v=.nils∨ ∃b,v=.slice b 0 0 none∧b<H.nx))∨(M≠[]∧ ∃b,v=.slice b 0 M.length none∧H0.nx<=b∧OS H0 h b M H)
theorem wL.keep{M:List (List UInt8×JV)}{v:AV}{H H':Zc}(c:wL H0 h M v H)(k:Zp H H' []):wL H0 h M v H':=by
 rcases c with⟨h1,h2⟩|⟨h1,b,h2,h3,h4⟩
 ·refine .inl ⟨h1,?_⟩
  rcases h2 with h2|⟨b,h2,h3⟩
  ·exact .inl h2
  ·exact .inr ⟨b,h2,ZH h3 k.nx⟩
 ·exact .inr ⟨h1,b,h2,h3,h4.keep k⟩
theorem wL.len{M:List (List UInt8×JV)}{v:AV}(c:wL H0 h M v H)(G:Zc):QK v G=.val (nI .i64 M.length) G:=by
 rcases c with⟨rfl,rfl|⟨b,rfl,_⟩⟩|⟨_,b,rfl,_⟩
 ·rfl
 ·exact Vl ..
 ·exact Vl ..
theorem wL.low{M:List (List UInt8×JV)}{v:AV}(c:wL H0 h M v H)(hn:H.nx<=n):Xt n v=true:=by
 rcases c with⟨rfl,rfl|⟨b,rfl,hb⟩⟩|⟨_,b,rfl,_,s⟩
 ·rfl
 ·exact We (by omega) ..
 ·obtain⟨L,r,h1,_⟩:=s.ok
  exact We (ZH h1.low hn) ..
theorem wL.same{M:List (List UInt8×JV)}{v:AV}(c:wL H0 h M v H)(n:Nat)(t:T Obj):VP (.val v ⟨n,t,n⟩) v n=true:=by
 rcases c with⟨rfl,rfl|⟨b,rfl,_⟩⟩|⟨_,b,rfl,_⟩
 ·exact Qn ..
 ·exact UU ..
 ·exact UU ..
theorem Sl.loadN{H:Zc}{sz b o:Nat}{q:Option Nat}{ls:List (List AV)}{r:Row}(he: ∀l∈ls,l.length=sz)(h: ∀i,i<ls.length*sz->r.get (o+i)=ls.flatten.getD i .unk):AI.loadN r o (ls.length*sz)=ls.flatten:=by
 have hf:=TZ he
 apply Wl
 intro i
 by_cases hi:i<ls.length*sz
 ·rw[SJ _ _ _ _ hi,h i hi,Zf,Zi (by omega)];rfl
 ·rw[YF (by rw[So];omega),YF (by omega)]
theorem mT{c o q:Nat}{cp:Option Nat}{r:Row}{ls:List (List AV)}(hq:ls.length=q+1)(hl:ls.length<=9000)(he: ∀l∈ls,l.length=7)(hc:c<H.nx)(g:H.t.get c=some (.row r))(h1:o+ls.length*7<=r.size)(h2: ∀i,i<ls.length*7->r.get (o+i)=ls.flatten.getD i .unk):
  Uw 124 7 104 (.slice H.nx 0 0 none) (.slice c o ls.length cp) (H.new (rG 124 7 [] 0 false true true))=.val (.slice (H.nx+1) 0 ls.length none) ((H.new (rG 124 7 [] 0 false true true)).new (rG 124 7 ls.flatten 0 false true false)):=by
 have gc:(H.new (rG 124 7 [] 0 false true true)).t.get c=some (.row r):=by rw[ZK (by omega)];exact g
 have gn:(H.new (rG 124 7 [] 0 false true true)).t.get H.nx=some (rG 124 7 [] 0 false true true):=ZC rfl _
 have ld:=Sl.loadN (H:=H) (b:=c) (q:=cp) he h2
 show Wt (H.new (rG 124 7 [] 0 false true true)) 7 (.slice c o ls.length cp) ls.length (λnew=>Q8 (.slice H.nx 0 0 none) 124 7 104 (H.new (rG 124 7 [] 0 false true true)) ls.length new)=_
 unfold Wt
 rw[Ym,Za (by omega)]
 show Y3 (H.new (rG 124 7 [] 0 false true true)) c (λr=>ZL (Nat.ble (o+ls.length*7) r.size) (Q8 (.slice H.nx 0 0 none) 124 7 104 (H.new (rG 124 7 [] 0 false true true)) ls.length (AI.loadN r o (ls.length*7))))=_
 unfold Y3
 simp only[gc]
 rw[Zg h1,ld]
 show Q8 (.slice H.nx 0 0 none) 124 7 104 (H.new (rG 124 7 [] 0 false true true)) ls.length ls.flatten=_
 show Y3 (H.new (rG 124 7 [] 0 false true true)) H.nx _=_
 unfold Y3
 simp only[gn]
 show cond (Nat.ble (0+ls.length) 0) _ (Mw (H.new (rG 124 7 [] 0 false true true)) 124 H.nx 0 0 ls.length 7 104 none ⟨124,7,YH ([]:List AV),T.ofList [],.unk,0,false,true,true⟩ ls.flatten)=_
 rw[show Nat.ble (0+ls.length) 0=false by rw[Zt,hq];rfl]
 show ZL (Nat.ble ((0+ls.length)*104) 140737488355328) (OR.val (.slice (H.nx+1) 0 (0+ls.length) none) (Zc.newRow (H.new (rG 124 7 [] 0 false true true)) 124 7 ([]++ls.flatten) false))=_
 rw[Zg (by omega),Zt];rfl
theorem AQ(E:Env Zo fs fuel)(k0:Zp H0 H [])(YL:H.ro<=H.nx){mv:AV}{ms:List (List AV)}{M:List (List UInt8×JV)}(sm:Sl H0 7 mv ms)(e:ms.length=M.length)(hE: ∀i,i<M.length->sF H0 h (ms.getD i []) (M.getD i default))(hM:M.length<=9000):
  ∃v H',ZG (LK Zo fs fuel k) fs fuel (n+1) 65 [mv] H=.ret v H'∧Zp H H' []∧wL H0 h M v H'∧ ∀b o n c,v=.slice b o n c->H.nx<=b:=by
 rw[ZF (ZB E.n65 (.inr rfl) _ _) E.f65]
 rcases sm.here with⟨rfl,rfl⟩|⟨c,o,cp,rfl,hc,h2⟩
 ·have hM0:M=[]:=Yj.1 e.symm
  have en: ∀G:Zc,LV eqL false .nils .nils G=.val (.bool true) G:=λ_=>rfl
  simp only[en,c65,Zu,ZX,Zw,Yf]
  exact⟨_,_,rfl,Zp.refl _ _,.inl ⟨hM0,.inl rfl⟩,λ_ _ _ _ e=>by cases e⟩
 ·have en: ∀(n:Nat) (G:Zc),LV eqL false (.slice c o n cp) .nils G=.val (.bool false) G:=λ_ _=>rfl
  have bs:Py 124 7 0 (List.replicate 0 [.str [],nI .i64 0,.bool false,nI .i64 0,.str [],.nils,.nils]).flatten [] H=.val (.slice H.nx 0 0 none) (H.new (rG 124 7 [] 0 false true true)):=rfl
  have k1:Zp H (H.new (rG 124 7 [] 0 false true true)) []:=Zp.new H _ _
  by_cases hn:ms=[]
  ·subst hn
   have hM0:M=[]:=Yj.1 e.symm
   have ea:Uw 124 7 104 (.slice H.nx 0 0 none) (.slice c o ([]:List (List AV)).length cp) (H.new (rG 124 7 [] 0 false true true))=.val (.slice H.nx 0 0 none) (H.new (rG 124 7 [] 0 false true true)):=by
    have gn:(H.new (rG 124 7 [] 0 false true true)).t.get H.nx=some (rG 124 7 [] 0 false true true):=ZC rfl _
    show Y3 (H.new (rG 124 7 [] 0 false true true)) H.nx _=_
    unfold Y3
    simp only[gn]
    rfl
   simp only[en,bs,ea,c65,Zu,ZX,Zw,Zz,Yf]
   exact⟨_,_,rfl,k1,.inl ⟨hM0,.inr ⟨_,rfl,YZ _⟩⟩,λ_ _ _ _ e=>by cases e;exact Zj _⟩
  ·obtain⟨r,g,h3,h4⟩:=h2 hn
   have hM0:M≠[]:=by rintro rfl;exact hn (Yj.1 e)
   obtain⟨q,hq⟩: ∃q,ms.length=q+1:=⟨ms.length - 1,by have:=XU.2 hn;omega⟩
   have ea:=mT (H:=H) (cp:=cp) hq (by omega) sm.each (ZH hc k0.nx) (by rw[k0.get _ hc (by simp)];exact g) h3 h4
   simp only[en,bs,ea,c65,Zu,ZX,Zw,Zz,Yf]
   refine⟨_,_,rfl,k1.then_new _,.inr ⟨hM0,H.nx+1,congrArg (λq=>AV.slice (H.nx+1) 0 q none) e,by have:=k0.nx;omega,⟨ms,⟨124,7,YH ms.flatten,T.ofList ms.flatten,.unk,0,false,true,false⟩,⟨ZC rfl _,rfl,rfl,rfl,rfl,rfl,rfl,V7.new ..,sm.each,by show H.ro<=H.nx+1;omega,by show H.nx+1<H.nx+1+1;omega⟩,e,hE⟩⟩,λ_ _ _ _ e=>by cases e;omega⟩
theorem zO{a:TM->Zc->X->X6}{F:Nat}{tm:TM}{H H':Zc}{x:X}{L:X6}{o:Out}{P:TM->Prop}(hL:WR a F tm H x=L)(hF:0<F)(ho:o≠.normal)(h: ∃Yp,a tm H x=.ok o Yp H' x∧P Yp): ∃Yp,L=.ok o Yp H' x∧P Yp:=by
 obtain⟨Yp,h,hp⟩:=h
 cases F with
 |zero=>omega
 |succ F=>
  refine⟨Yp,?_,hp⟩
  rw[<-hL]
  show QV (a tm H x) _=_
  rw[h]
  cases o with
  |normal=>exact absurd rfl ho
  |_=>rfl
theorem du(E:Env Zo fs fuel){n0 f:Nat}{v:AV}:ZG (LK Zo fs fuel k) fs fuel (n0+1) 168 [v,nI .i64 0,nI .i64 0,.func f [] []] H=.ret (.tup []) H:=by
 rw[ZF (ZB E.n168 (.inr rfl) _ _) E.f168]
 simp(disch:=omega) only[YQ,Zt,gN,Zu,ZX,Yf]
 generalize hL:WR (Ou _) fuel _ _ _=L
 obtain⟨o,SY,H1,rfl,_,rfl,rfl⟩:=Y9 (P:=λT'=>mH H 0 T' H) (Q:=λo Yp H'=>o=.exit 0∧H'=H)
  (λT' R0=>Xk (mH H) _ (λm tm H' h'=>zB _ m tm H' h') fuel 0 T' H (by have:=E.big;omega) R0) hL ⟨rfl,rfl,rfl⟩
 simp only[Zu,Zw,]
theorem BE(E:Env Zo fs fuel){n0 f:Nat}(hf:yN Zo fs fuel k f){v:AV}{M:List (List UInt8×JV)}(hn:M.length<=12)(h0:H0.nx<=H.nx){S:List Nat}(hS: ∀b o n c,v=.slice b o n c->M≠[]->b∈S)(cl:wL H0 h M v H):
  ∃H',ZG (LK Zo fs fuel k) fs fuel (n0+4) 66 [v,.func f [] []] H=.ret (.tup []) H'∧Zp H H' S∧wL H0 h (Xi TG M) v H':=by
 have el:=cl.len
 obtain⟨H1,e1,k1,c1⟩: ∃H1,ZG (LK Zo fs fuel k) fs fuel (n0+2) 168 [v,nI .i64 0,nI .i64 M.length,.func f [] []] H=.ret (.tup []) H1∧Zp H H1 S∧wL H0 h (Xi TG M) v H1:=by
  rcases cl with⟨rfl,hv⟩|⟨h1,b,rfl,h3,h4⟩
  ·exact⟨H,du E,Zp.refl _ _,.inl ⟨rfl,hv⟩⟩
  ·obtain⟨H1,e1,k1,sr⟩:=nr E (k:=k) (n0:=n0) hf (cp:=none) (HK:=H) (S:=S) (n:=M.length) (h:=h) (M:=M) (by omega) h0 (λ_=>hS _ _ _ _ rfl h1) rfl (Zp.refl _ _) h4
   refine⟨H1,e1,k1,.inr ⟨λe=>?_,b,by rw[SH],h3,sr⟩⟩
   have:=SH TG M
   rw[e] at this
   exact h1 (Yj.1 this.symm)
 have hF:0<fuel:=by have:=E.big;omega
 have d1:decide (20<=M.length)=false:=Za (by omega)
 have d2:decide (20<M.length)=false:=Za (by omega)
 have es:ZG (LK Zo fs fuel k) fs fuel (n0+3) 124 [v,nI .i64 M.length,.func f [] []] H=.ret (.tup []) H1:=by
  rw[ZF (ZB E.n124 (.inr rfl) _ _) E.f124]
  simp only[Ze4,Zu,ZX,Yf]
  generalize hL:WR (y7 _) fuel _ _ _=L
  obtain⟨SY,rfl,t0,t1,t2,t6,t7⟩: ∃Yp,L=.ok (.exit 0) Yp H ⟨[],none⟩∧Z4 Yp=v∧Xz Yp=nI .i64 M.length∧Wc Yp=.func f [] []∧Wi Yp=nI .i64 20∧Vk Yp=nI .i64 0:=by
   refine zO hL hF (by simp) ?_
   simp only[d1,TY,y7,Zu,ZX,Yf]
   refine⟨_,rfl,?_⟩
   exact⟨(by simp only[ZX]),(by simp only[ZX]),(by simp only[ZX]),(by simp only[ZX]),(by simp only[ZX])⟩
  simp only[Pi,PO,N6,GV,ek] at t0 t1 t2 t6 t7
  simp only[t0,t1,t2,t7,e1,Zu,ZX,Yf]
  generalize hL:WR (y8 _) fuel _ _ _=L
  obtain⟨Dl,rfl,_⟩: ∃Yp,L=.ok (.exit 2) Yp H1 ⟨[],none⟩∧True:=by
   refine zO hL hF (by simp) ?_
   simp only[t1,t6,d2,ZO,y8,Zu,ZX,Yf]
   refine⟨_,rfl,?_⟩
   exact trivial
  simp only[Zu,Zw,]
 rw[ZF (ZB E.n66 (.inr rfl) _ _) E.f66]
 simp only[el,es,c66,Zu,ZX,Zw,Yf]
 refine⟨_,rfl,?_⟩
 exact⟨k1,c1⟩
def P3(p:Nat->Bool):Nat->Nat->Bool
 |0,_=>true
 |m+1,i=>p i&&P3 p m (i+1)
theorem oH(f:JV->JV->Bool){l m:List JV}(h:l.length=m.length): ∀(k i:Nat),i+k=l.length->JV.eqL f (l.drop i) (m.drop i)=P3 (λi=>f (l.getD i default) (m.getD i default)) k i
 |0,i,e=>by
  rw[Y0 (by omega),Y0 (by omega)];rfl
 |k+1,i,e=>by
  rw[JV.eqL_drop f (by omega) (by omega),oH f h k (i+1) (by omega)];rfl
theorem oI(f:JV->JV->Bool){l m:List (List UInt8×JV)}(h:l.length=m.length): ∀(k i:Nat),i+k=l.length->JV.eqM f (l.drop i) (m.drop i)=P3 (λi=>decide ((l.getD i default).1=(m.getD i default).1)&&f (l.getD i default).2 (m.getD i default).2) k i
 |0,i,e=>by
  rw[Y0 (by omega),Y0 (by omega)];rfl
 |k+1,i,e=>by
  rw[JV.eqM_drop f (by omega) (by omega),oI f h k (i+1) (by omega)];rfl
theorem wL.sl{M:List (List UInt8×JV)}{v:AV}(c:wL H0 h M v H): ∃ms,Sl H 7 v ms∧ms.length=M.length∧ ∀i,i<M.length->sF H0 h (ms.getD i []) (M.getD i default):=by
 rcases c with⟨rfl,rfl|⟨b,rfl,hb⟩⟩|⟨_,b,rfl,_,s⟩
 ·exact⟨[],Sl.nil ..,rfl,λi hi=>absurd hi (Xa _)⟩
 ·exact⟨[],⟨λ_ h=>(by cases h),.inr ⟨b,0,none,rfl,hb,λVY=>absurd rfl VY⟩⟩,rfl,λi hi=>absurd hi (Xa _)⟩
 ·obtain⟨L,r,h1,h2,h3⟩:=s.ok
  exact⟨L,by rw[<-h2];exact Sl.of_recs h1 none,h2,h3⟩
structure EFV(H0:Zc)(v w:AV)(len q:Nat)(p:Nat->Bool)(T:Bool)(m:Nat)(tm:TM)(H:Zc):Prop where
 i: ∃i,X1 tm=nI .i64 i∧i<=len∧m=len - i∧P3 p (len - i) i=T
 t1:Xz tm=w
 t2:Wc tm=.func q [] []
 t15:XS tm=v
 t16:XT tm=nI .i64 len
 k:Zp H0 H []
 ro:H.ro<=H.nx
theorem ft(E:Env Zo fs fuel){q:Nat}{v w:AV}{ls ms:List (List AV)}(h:Sl H0 6 v ls)(h':Sl H0 6 w ms)(e:ls.length=ms.length)(hl:ls.length<=9000){p:Nat->Bool}{T:Bool}
  (hp: ∀i,i<ls.length-> ∀G,Zp H0 G []->G.ro<=G.nx-> ∃G',ZG (LK Zo fs fuel k) fs fuel n q [.agg (ls.getD i []),.agg (ms.getD i [])] G=.ret (.bool (p i)) G'∧Zp G G' [])(y f d r)(x:X)(m:Nat)(tm:TM)(H:Zc)(hI:EFV H0 v w ls.length q p T m tm H):
  ∃o Yp H',GD ⟨ZG (LK Zo fs fuel k) fs fuel n,y,f,d,r⟩ tm H x=.ok o Yp H' x∧((o=.normal∧ ∃k,k<m∧EFV H0 v w ls.length q p T k Yp H')∨(o≠.normal∧Zp H0 H' []∧((o=.exit 0∧T=true)∨(o=.ret∧Wi Yp=.bool false∧T=false)))):=by
 obtain⟨⟨i,t17,hi,rfl,hT⟩,t1,t2,t15,t16,k0,YL⟩:=hI
 have Px:=t1;have mD:=t2;have Zhd:=t15;have Zhe:=t16
 simp only[PO,N6,ZdP,ZdQ,ZdR] at t1 t2 t15 t16 t17
 by_cases Y6:i<ls.length
 ·have d1:decide (i<ls.length)=true:=Ze Y6
  obtain⟨b1,o1,r1,eI1,Q3,GL,eL1,_⟩:=(h.keep0 k0).at_ Y6
  obtain⟨b2,o2,r2,eI2,QY,gb2,eL2,_⟩:=(h'.keep0 k0).at_ (i:=i) (by omega)
  have hx:(ls.getD i []).length=6:=h.each _ (by rw[Zf,Zi Y6];exact YJ Y6)
  have hy:(ms.getD i []).length=6:=h'.each _ (by rw[Zf,Zi (show i<ms.length by omega)];exact YJ _)
  have hp:=λ(G:Zc) (hk:Zp H0 G []) (hr:G.ro<=G.nx)=>hp i Y6 G hk hr
  generalize ls.getD i []=xs at*
  generalize ms.getD i []=ys at*
  obtain⟨HA,hA⟩:=WQ (H.new (rH 27 xs))
  have nJ:HA.nx=H.nx+1:=by rw[<-hA];rfl
  have roA:HA.ro=H.ro:=by rw[<-hA];rfl
  have hBx:=Xg (n:=6) (l:=zV) (vs:=xs) (by rfl) hx (by omega) (show(H.new (rH 27 zV)).ro<=H.nx from YL) 27 1 false true
  rw[Vb rfl,hA] at hBx
  have gA:HA.t.get H.nx=some (rH 27 xs):=by rw[<-hA,ZC rfl]
  have kA:Zp H0 HA []:=by rw[<-hA];exact k0.then_new _
  obtain⟨HB,hB⟩:=WQ (HA.new (rH 27 ys))
  have nxB:HB.nx=HA.nx+1:=by rw[<-hB];rfl
  have roB:HB.ro=HA.ro:=by rw[<-hB];rfl
  have hBy:=Xg (n:=6) (l:=zV) (vs:=ys) (by rfl) hy (by omega) (show(HA.new (rH 27 zV)).ro<=HA.nx by show HA.ro<=HA.nx;omega) 27 1 false true
  rw[Vb rfl,hB] at hBy
  rw[nJ] at hBy
  have gB:HB.t.get (H.nx+1)=some (rH 27 ys):=by rw[<-hB,ZC nJ]
  have gA2:HB.t.get H.nx=some (rH 27 xs):=by rw[<-hB,ZK (by omega)];exact gA
  have vK:HA.t.get b2=some (.row r2):=by rw[<-hA,ZK (by omega)];exact gb2
  have kB:Zp H0 HB []:=by rw[<-hB];exact kA.then_new _
  have ldx: ∀G:Zc,ldN 6 (some (rH 27 xs)) 0 G=.val (.agg xs) G:=λG=>by rw[WV (by omega)];congr 2;rw[Ye,ZM (by omega)]
  have ldy: ∀G:Zc,ldN 6 (some (rH 27 ys)) 0 G=.val (.agg ys) G:=λG=>by rw[WV (by omega)];congr 2;rw[Ye,ZM (by omega)]
  obtain⟨HC,eC,kC⟩:=hp HB kB (by omega)
  have roC:HC.ro<=HC.nx:=by rw[kC.ro];have:=kC.nx;omega
  have k2:=kB.trans kC (by simp)
  have hT':P3 p (ls.length - i) i=(p i&&P3 p (ls.length - (i+1)) (i+1)):=by rw[show ls.length - i=(ls.length - (i+1))+1 by omega];rfl
  rw[hT'] at hT
  cases wQ:p i with
  |true=>
   rw[wQ] at eC hT
   simp(disch:=omega) only[t1,t2,t15,t16,t17,d1,eI1,GL,eL1,hBx,nJ,vK,eI2,eL2,hBy,gA2,gB,ldx,ldy,eC,ZO,YQ,Kx,GD,Zu,ZX,Zw,Zz,Yf]
   refine⟨_,_,_,rfl,?_⟩
   exact .inl ⟨rfl,ls.length - (i+1),by omega,⟨⟨i+1,rfl,by omega,rfl,hT⟩,Px,mD,Zhd,Zhe,k2,roC⟩⟩
  |false=>
   rw[wQ] at eC hT
   simp only[t1,t2,t15,t16,t17,d1,eI1,GL,eL1,hBx,nJ,vK,eI2,eL2,hBy,gA2,gB,ldx,ldy,eC,ZO,Kx,GD,Zu,ZX,Zw,Zz,Yf]
   refine⟨_,_,_,rfl,?_⟩
   exact .inr ⟨by simp,k2,.inr ⟨rfl,(by simp only[ZX]),hT.symm⟩⟩
 ·have d1:decide (i<ls.length)=false:=Za Y6
  rw[show ls.length - i=0 by omega] at hT
  simp only[t16,t17,d1,ZO,GD,Zu,ZX,Yf]
  refine⟨_,_,_,rfl,?_⟩
  exact .inr ⟨by simp,k0,.inl ⟨rfl,hT.symm⟩⟩
theorem efV(E:Env Zo fs fuel){q:Nat}{v w:AV}{ls ms:List (List AV)}(h:Sl H 6 v ls)(h':Sl H 6 w ms)(YL:H.ro<=H.nx)(hl:ls.length<=9000){p:Nat->Bool}
  (hp:ls.length=ms.length-> ∀i,i<ls.length-> ∀G,Zp H G []->G.ro<=G.nx-> ∃G',ZG (LK Zo fs fuel k) fs fuel n q [.agg (ls.getD i []),.agg (ms.getD i [])] G=.ret (.bool (p i)) G'∧Zp G G' []):
  ∃H',ZG (LK Zo fs fuel k) fs fuel (n+1) 62 [v,w,.func q [] []] H=.ret (.bool (decide (ls.length=ms.length)&&P3 p ls.length 0)) H'∧Zp H H' []:=by
 rw[ZF (ZB E.n62 (.inr rfl) _ _) E.f62]
 have el:=h.len
 have em:=h'.len
 by_cases he:ls.length=ms.length
 ·have d1:decide (ls.length≠ms.length)=false:=Za (λhn=>hn he)
  have d2:decide (ls.length=ms.length)=true:=Ze he
  rw[d2,YG]
  simp only[el,em,d1,Vi,c62,Zu,ZX,Yf]
  generalize hL:WR (GD _) fuel _ _ _=L
  obtain⟨o,SY,H1,rfl,_,k1,hq⟩:=Y9 (P:=λT'=>EFV H v w ls.length q p (P3 p ls.length 0) ls.length T' H) (Q:=λo Yp H'=>Zp H H' []∧((o=.exit 0∧P3 p ls.length 0=true)∨(o=.ret∧Wi Yp=.bool false∧P3 p ls.length 0=false)))
   (λT' R0=>Xk (EFV H v w ls.length q p (P3 p ls.length 0)) (λo Yp H'=>Zp H H' []∧((o=.exit 0∧P3 p ls.length 0=true)∨(o=.ret∧Wi Yp=.bool false∧P3 p ls.length 0=false))) (λm tm H' h2=>ft E h h' he hl (hp he) _ _ _ _ _ m tm H' h2) fuel ls.length T' H (by have:=E.big;omega) R0) hL
   ⟨⟨0,rfl,Z1 _,rfl,rfl⟩,rfl,rfl,rfl,rfl,Zp.refl _ _,YL⟩
  rcases hq with⟨rfl,e⟩|⟨rfl,t6,e⟩
  ·rw[e]
   simp only[Zu,ZX,Zw,Yf]
   refine⟨_,rfl,?_⟩
   exact k1
  ·rw[e]
   simp only[GV] at t6
   simp only[t6,Zu,Zw,Yf]
   refine⟨_,rfl,?_⟩
   exact k1
 ·have d1:decide (ls.length≠ms.length)=true:=Ze he
  have d2:decide (ls.length=ms.length)=false:=Za he
  rw[d2,Xy]
  simp only[el,em,d1,Vi,c62,Zu,ZX,Zw,Yf]
  refine⟨_,rfl,?_⟩
  exact Zp.refl _ _
structure EFE(H0:Zc)(v w:AV)(len q:Nat)(p:Nat->Bool)(T:Bool)(m:Nat)(tm:TM)(H:Zc):Prop where
 i: ∃i,X1 tm=nI .i64 i∧i<=len∧m=len - i∧P3 p (len - i) i=T
 t1:Xz tm=w
 t2:Wc tm=.func q [] []
 t15:XS tm=v
 t16:XT tm=nI .i64 len
 k:Zp H0 H []
 ro:H.ro<=H.nx
theorem fq(E:Env Zo fs fuel){q:Nat}{v w:AV}{ls ms:List (List AV)}(h:Sl H0 7 v ls)(h':Sl H0 7 w ms)(e:ls.length=ms.length)(hl:ls.length<=9000){p:Nat->Bool}{T:Bool}
  (hp: ∀i,i<ls.length-> ∀G,Zp H0 G []->G.ro<=G.nx-> ∃G',ZG (LK Zo fs fuel k) fs fuel n q [.agg (ls.getD i []),.agg (ms.getD i [])] G=.ret (.bool (p i)) G'∧Zp G G' [])(y f d r)(x:X)(m:Nat)(tm:TM)(H:Zc)(hI:EFE H0 v w ls.length q p T m tm H):
  ∃o Yp H',GE ⟨ZG (LK Zo fs fuel k) fs fuel n,y,f,d,r⟩ tm H x=.ok o Yp H' x∧((o=.normal∧ ∃k,k<m∧EFE H0 v w ls.length q p T k Yp H')∨(o≠.normal∧Zp H0 H' []∧((o=.exit 0∧T=true)∨(o=.ret∧Wi Yp=.bool false∧T=false)))):=by
 obtain⟨⟨i,t17,hi,rfl,hT⟩,t1,t2,t15,t16,k0,YL⟩:=hI
 have Px:=t1;have mD:=t2;have Zhd:=t15;have Zhe:=t16
 simp only[PO,N6,ZdP,ZdQ,ZdR] at t1 t2 t15 t16 t17
 by_cases Y6:i<ls.length
 ·have d1:decide (i<ls.length)=true:=Ze Y6
  obtain⟨b1,o1,r1,eI1,Q3,GL,eL1,_⟩:=(h.keep0 k0).at_ Y6
  obtain⟨b2,o2,r2,eI2,QY,gb2,eL2,_⟩:=(h'.keep0 k0).at_ (i:=i) (by omega)
  have hx:(ls.getD i []).length=7:=h.each _ (by rw[Zf,Zi Y6];exact YJ Y6)
  have hy:(ms.getD i []).length=7:=h'.each _ (by rw[Zf,Zi (show i<ms.length by omega)];exact YJ _)
  have hp:=λ(G:Zc) (hk:Zp H0 G []) (hr:G.ro<=G.nx)=>hp i Y6 G hk hr
  generalize ls.getD i []=xs at*
  generalize ms.getD i []=ys at*
  obtain⟨HA,hA⟩:=WQ (H.new (rH 124 xs))
  have nJ:HA.nx=H.nx+1:=by rw[<-hA];rfl
  have roA:HA.ro=H.ro:=by rw[<-hA];rfl
  have hBx:=Xg (n:=7) (l:=[.str [],nI .i64 0,.bool false,nI .i64 0,.str [],.nils,.nils]) (vs:=xs) (by rfl) hx (by omega) (show(H.new (rH 124 [.str [],nI .i64 0,.bool false,nI .i64 0,.str [],.nils,.nils])).ro<=H.nx from YL) 124 1 false true
  rw[Vb rfl,hA] at hBx
  have gA:HA.t.get H.nx=some (rH 124 xs):=by rw[<-hA,ZC rfl]
  have kA:Zp H0 HA []:=by rw[<-hA];exact k0.then_new _
  obtain⟨HB,hB⟩:=WQ (HA.new (rH 124 ys))
  have nxB:HB.nx=HA.nx+1:=by rw[<-hB];rfl
  have roB:HB.ro=HA.ro:=by rw[<-hB];rfl
  have hBy:=Xg (n:=7) (l:=[.str [],nI .i64 0,.bool false,nI .i64 0,.str [],.nils,.nils]) (vs:=ys) (by rfl) hy (by omega) (show(HA.new (rH 124 [.str [],nI .i64 0,.bool false,nI .i64 0,.str [],.nils,.nils])).ro<=HA.nx by show HA.ro<=HA.nx;omega) 124 1 false true
  rw[Vb rfl,hB] at hBy
  rw[nJ] at hBy
  have gB:HB.t.get (H.nx+1)=some (rH 124 ys):=by rw[<-hB,ZC nJ]
  have gA2:HB.t.get H.nx=some (rH 124 xs):=by rw[<-hB,ZK (by omega)];exact gA
  have vK:HA.t.get b2=some (.row r2):=by rw[<-hA,ZK (by omega)];exact gb2
  have kB:Zp H0 HB []:=by rw[<-hB];exact kA.then_new _
  have ldx: ∀G:Zc,ldN 7 (some (rH 124 xs)) 0 G=.val (.agg xs) G:=λG=>by rw[WV (by omega)];congr 2;rw[Ye,ZM (by omega)]
  have ldy: ∀G:Zc,ldN 7 (some (rH 124 ys)) 0 G=.val (.agg ys) G:=λG=>by rw[WV (by omega)];congr 2;rw[Ye,ZM (by omega)]
  obtain⟨HC,eC,kC⟩:=hp HB kB (by omega)
  have roC:HC.ro<=HC.nx:=by rw[kC.ro];have:=kC.nx;omega
  have k2:=kB.trans kC (by simp)
  have hT':P3 p (ls.length - i) i=(p i&&P3 p (ls.length - (i+1)) (i+1)):=by rw[show ls.length - i=(ls.length - (i+1))+1 by omega];rfl
  rw[hT'] at hT
  cases wQ:p i with
  |true=>
   rw[wQ] at eC hT
   simp(disch:=omega) only[t1,t2,t15,t16,t17,d1,eI1,GL,eL1,hBx,nJ,vK,eI2,eL2,hBy,gA2,gB,ldx,ldy,eC,ZO,YQ,Kx,GE,Zu,ZX,Zw,Zz,Yf]
   refine⟨_,_,_,rfl,?_⟩
   exact .inl ⟨rfl,ls.length - (i+1),by omega,⟨⟨i+1,rfl,by omega,rfl,hT⟩,Px,mD,Zhd,Zhe,k2,roC⟩⟩
  |false=>
   rw[wQ] at eC hT
   simp only[t1,t2,t15,t16,t17,d1,eI1,GL,eL1,hBx,nJ,vK,eI2,eL2,hBy,gA2,gB,ldx,ldy,eC,ZO,Kx,GE,Zu,ZX,Zw,Zz,Yf]
   refine⟨_,_,_,rfl,?_⟩
   exact .inr ⟨by simp,k2,.inr ⟨rfl,(by simp only[ZX]),hT.symm⟩⟩
 ·have d1:decide (i<ls.length)=false:=Za Y6
  rw[show ls.length - i=0 by omega] at hT
  simp only[t16,t17,d1,ZO,GE,Zu,ZX,Yf]
  refine⟨_,_,_,rfl,?_⟩
  exact .inr ⟨by simp,k0,.inl ⟨rfl,hT.symm⟩⟩
theorem efE(E:Env Zo fs fuel){q:Nat}{v w:AV}{ls ms:List (List AV)}(h:Sl H 7 v ls)(h':Sl H 7 w ms)(YL:H.ro<=H.nx)(hl:ls.length<=9000){p:Nat->Bool}
  (hp:ls.length=ms.length-> ∀i,i<ls.length-> ∀G,Zp H G []->G.ro<=G.nx-> ∃G',ZG (LK Zo fs fuel k) fs fuel n q [.agg (ls.getD i []),.agg (ms.getD i [])] G=.ret (.bool (p i)) G'∧Zp G G' []):
  ∃H',ZG (LK Zo fs fuel k) fs fuel (n+1) 67 [v,w,.func q [] []] H=.ret (.bool (decide (ls.length=ms.length)&&P3 p ls.length 0)) H'∧Zp H H' []:=by
 rw[ZF (ZB E.n67 (.inr rfl) _ _) E.f67]
 have el:=h.len
 have em:=h'.len
 by_cases he:ls.length=ms.length
 ·have d1:decide (ls.length≠ms.length)=false:=Za (λhn=>hn he)
  have d2:decide (ls.length=ms.length)=true:=Ze he
  rw[d2,YG]
  simp only[el,em,d1,Vi,c67,Zu,ZX,Yf]
  generalize hL:WR (GE _) fuel _ _ _=L
  obtain⟨o,SY,H1,rfl,_,k1,hq⟩:=Y9 (P:=λT'=>EFE H v w ls.length q p (P3 p ls.length 0) ls.length T' H) (Q:=λo Yp H'=>Zp H H' []∧((o=.exit 0∧P3 p ls.length 0=true)∨(o=.ret∧Wi Yp=.bool false∧P3 p ls.length 0=false)))
   (λT' R0=>Xk (EFE H v w ls.length q p (P3 p ls.length 0)) (λo Yp H'=>Zp H H' []∧((o=.exit 0∧P3 p ls.length 0=true)∨(o=.ret∧Wi Yp=.bool false∧P3 p ls.length 0=false))) (λm tm H' h2=>fq E h h' he hl (hp he) _ _ _ _ _ m tm H' h2) fuel ls.length T' H (by have:=E.big;omega) R0) hL
   ⟨⟨0,rfl,Z1 _,rfl,rfl⟩,rfl,rfl,rfl,rfl,Zp.refl _ _,YL⟩
  rcases hq with⟨rfl,e⟩|⟨rfl,t6,e⟩
  ·rw[e]
   simp only[Zu,ZX,Zw,Yf]
   refine⟨_,rfl,?_⟩
   exact k1
  ·rw[e]
   simp only[GV] at t6
   simp only[t6,Zu,Zw,Yf]
   refine⟨_,rfl,?_⟩
   exact k1
 ·have d1:decide (ls.length≠ms.length)=true:=Ze he
  have d2:decide (ls.length=ms.length)=false:=Za he
  rw[d2,Xy]
  simp only[el,em,d1,Vi,c67,Zu,ZX,Zw,Yf]
  refine⟨_,rfl,?_⟩
  exact Zp.refl _ _
theorem dZ{x y:Nat}(h:x≠y)(k:IntKind)(G:Zc):LV VN true (nI k x) (nI k y) G=.val (.bool true) G:=by rw[Vi,Ze h]
theorem Zet{x y:Nat}(h:x=y)(k:IntKind)(G:Zc):LV VN true (nI k x) (nI k y) G=.val (.bool false) G:=by rw[Vi,Za (λhn=>hn h)]
theorem neZ(a b:Int)(k:IntKind)(G:Zc):LV VN true (.int k a) (.int k b) G=.val (.bool (!decide (a=b))) G:=by
 show TN (cond (Qd k k) (some (G5 a b)) none) (λb=>SE (cond true (cond b false true) b) G)=_
 rw[Y4,Oa]
 show SE (cond (decide (a=b)) false true) G=_
 rw[Sa];cases decide (a=b)<;>rfl
theorem neB(a b:Bool)(G:Zc):LV oG true (.bool a) (.bool b) G=.val (.bool (!decide (a=b))) G:=by
 cases a<;>cases b<;>rfl
def yP(Zo:NJ)(fs:T CF)(fuel n h:Nat):Prop:= ∀{v w:JV} {cs ds:List AV} {H:Zc},H.ro<=H.nx->VR H h v cs->VR H h w ds->JV.ok h v->JV.ok h w->
 ∃H',ZG (LK Zo fs fuel 4) fs fuel n 19 [.agg cs,.agg ds] H=.ret (.bool (JV.same h v w)) H'∧Zp H H' []
theorem j7(E:Env Zo fs fuel)(ih:yP Zo fs fuel n h){x y:JV}{a b:List UInt8}{t u:List AV}(YL:H.ro<=H.nx)(hx:VR H h x t)(hy:VR H h y u)(ox:JV.ok h x)(oy:JV.ok h y):
  ∃H',ZG (LK Zo fs fuel 4) fs fuel (n+1) 68 [.agg (.str a::t),.agg (.str b::u)] H=.ret (.bool (decide (a=b)&&JV.same h x y)) H'∧Zp H H' []:=by
 rw[ZF (ZB E.n68 (.inr rfl) _ _) E.f68]
 have ht:=hx.len
 have hu:=hy.len
 obtain⟨H1,Yo⟩:=WQ (H.new (rH 124 (.str a::t)))
 have bx:=VW (l:=.str a::t) (by rw[Zl];omega) 124 H
 rw[Yo] at bx
 have VH:H1.nx=H.nx+1:=by rw[<-Yo];rfl
 have g1:H1.t.get H.nx=some (rH 124 (.str a::t)):=by rw[<-Yo,ZC rfl]
 obtain⟨H2,XH⟩:=WQ (H1.new (rH 124 (.str b::u)))
 have Z3:=VW (l:=.str b::u) (by rw[Zl];omega) 124 H1
 rw[XH,VH] at Z3
 have g2:H2.t.get H.nx=some (rH 124 (.str a::t)):=by rw[<-XH,ZK (by omega)];exact g1
 have g3:H2.t.get (H.nx+1)=some (rH 124 (.str b::u)):=by rw[<-XH,ZC VH]
 have l2: ∀G:Zc,ld1 (some (rH 124 (.str a::t))) 0 G=.val (.str a) G:=λG=>by rw[ZJ (by rw[Zl];omega)];rfl
 have l3: ∀G:Zc,ld1 (some (rH 124 (.str b::u))) 0 G=.val (.str b) G:=λG=>by rw[ZJ (by rw[Zl];omega)];rfl
 have m2: ∀G:Zc,ldN 6 (some (rH 124 (.str a::t))) 1 G=.val (.agg t) G:=λG=>by rw[WV (by rw[Zl];omega)];congr 2;rw[Ve,Ye,ZM (by omega)]
 have m3: ∀G:Zc,ldN 6 (some (rH 124 (.str b::u))) 1 G=.val (.agg u) G:=λG=>by rw[WV (by rw[Zl];omega)];congr 2;rw[Ve,Ye,ZM (by omega)]
 have k2:Zp H H2 []:=by rw[<-XH,<-Yo];exact(Zp.new H _ _).then_new _
 have DB:H2.ro<=H2.nx:=by rw[k2.ro];have:=k2.nx;omega
 obtain⟨H3,e3,k3⟩:=ih DB (hx.keep k2) (hy.keep k2) ox oy
 by_cases Cv:a=b
 ·have d1:decide (a=b)=true:=Ze Cv
  rw[d1,YG]
  simp only[bx,Z3,g2,g3,l2,l3,m2,m3,d1,e3,GH,Zv,Zt,c68,Zu,ZX,Zw,Yf]
  refine⟨_,rfl,?_⟩
  exact k2.trans k3 (by simp)
 ·have d1:decide (a=b)=false:=Za Cv
  rw[d1,Xy]
  simp only[bx,Z3,g2,g3,l2,l3,d1,GH,Zv,c68,Zu,ZX,Zw,Yf]
  refine⟨_,rfl,?_⟩
  exact k2
def sbl:AV->List Nat
 |.slice b _ _ _=>[b]
 |_=>[]
theorem wL.keepS{M:List (List UInt8×JV)}{v:AV}{H H':Zc}{S:List Nat}(c:wL H0 h M v H)(k:Zp H H' S)(hS: ∀b o n c,v=.slice b o n c->b∉S):wL H0 h M v H':=by
 rcases c with⟨h1,h2⟩|⟨h1,b,h2,h3,L,r,h4,h5⟩
 ·refine .inl ⟨h1,?_⟩
  rcases h2 with h2|⟨b,h2,h3⟩
  ·exact .inl h2
  ·exact .inr ⟨b,h2,ZH h3 k.nx⟩
 ·exact .inr ⟨h1,b,h2,h3,L,r,h4.moved (k.get b h4.low (hS _ _ _ _ h2)) k.ro k.nx,h5⟩
theorem ah(E:Env Zo fs fuel): ∀(h:Nat),h<=100-> ∀(n:Nat),3*h+20<=n->yP Zo fs fuel n h:=by
 intro h
 induction h with
 |zero=>intro _ n _ v w cs ds H _ hv;exact hv.elim
 |succ h ih=>
 intro hh n hn v w cs ds H YL hv hw ov ow
 obtain⟨n,rfl⟩: ∃q,n=q+10:=⟨n - 10,by omega⟩
 have ih8:yP Zo fs fuel (n+8) h:=ih (by omega) (n+8) (by omega)
 have ih7:yP Zo fs fuel (n+7) h:=ih (by omega) (n+7) (by omega)
 obtain⟨k1,b1,z1,s1,l1,m1⟩:=v
 obtain⟨k2,b2,z2,s2,l2,m2⟩:=w
 obtain⟨lv1,mv1,ls1,ms1,rfl,_,_,_,NX,_,sl1,sm1,el1,en1,ZoF,ZoH⟩:=hv
 obtain⟨lv2,mv2,ls2,ms2,rfl,_,_,_,Nl,_,sl2,sm2,el2,en2,ZoG,ZoI⟩:=hw
 obtain⟨_,Znr,ol1,om1⟩:=ov
 obtain⟨_,Zns,ol2,om2⟩:=ow
 rw[ZF (ZB E.n19 (.inl (by decide)) _ _) E.f19]
 have Ei:JV.same (h+1) (.mk k1 b1 z1 s1 l1 m1) (.mk k2 b2 z2 s2 l2 m2)=(decide (k1=k2)&&decide (b1=b2)&&decide (z1=z2)&&decide (s1=s2)&&decide (m1.length=m2.length)&&JV.eqL (JV.same h) l1 l2&&JV.eqM (JV.same h) (Xi TG m1) (Xi TG m2)):=rfl
 rw[Ei]
 obtain⟨H1,Yo⟩:=WQ (H.new (rH 27 [nI .i64 k1,.bool b1,.int .i64 z1,.str s1,lv1,mv1]))
 have bx:=VW (l:=[nI .i64 k1,.bool b1,.int .i64 z1,.str s1,lv1,mv1]) (Nat.le_add_left 1 5) 27 H
 rw[Yo] at bx
 have VH:H1.nx=H.nx+1:=by rw[<-Yo];rfl
 have g1:H1.t.get H.nx=some (rH 27 [nI .i64 k1,.bool b1,.int .i64 z1,.str s1,lv1,mv1]):=by rw[<-Yo,ZC rfl]
 obtain⟨H2,XH⟩:=WQ (H1.new (rH 27 [nI .i64 k2,.bool b2,.int .i64 z2,.str s2,lv2,mv2]))
 have Z3:=VW (l:=[nI .i64 k2,.bool b2,.int .i64 z2,.str s2,lv2,mv2]) (Nat.le_add_left 1 5) 27 H1
 rw[XH,VH] at Z3
 have g2:H2.t.get H.nx=some (rH 27 [nI .i64 k1,.bool b1,.int .i64 z1,.str s1,lv1,mv1]):=by rw[<-XH,ZK (by omega)];exact g1
 have g3:H2.t.get (H.nx+1)=some (rH 27 [nI .i64 k2,.bool b2,.int .i64 z2,.str s2,lv2,mv2]):=by rw[<-XH,ZC VH]
 have K2:Zp H H2 []:=by rw[<-XH,<-Yo];exact(Zp.new H _ _).then_new _
 have DB:H2.ro<=H2.nx:=by rw[K2.ro];have:=K2.nx;omega
 have em1:=sm1.len
 have em2:=sm2.len
 rw[en1] at em1
 rw[en2] at em2
 by_cases hk: ¬k1=k2
 ·skip
  have d1:=dZ hk .i64
  rw[Za hk]
  simp only[Xy]
  simp(disch:=first|omega|simp only[ZY,ZZ]<;>omega) only[bx,Z3,g2,g3,ZJ,Zv,d1,c19,Zu,ZX,Zw,Zz,Yf,WL]
  refine⟨_,rfl,?_⟩
  exact K2
 have hk:=Decidable.not_not.1 hk
 have d1:=Zet hk .i64
 rw[Ze hk]
 by_cases hb: ¬b1=b2
 ·skip
  have d2:decide (b1=b2)=false:=Za hb
  rw[d2]
  simp only[Xy,YG]
  simp(disch:=first|omega|simp only[ZY,ZZ]<;>omega) only[bx,Z3,g2,g3,ZJ,Zv,Zt,Uk,neB,d1,d2,c19,Zu,ZX,Zw,Zz,Yf,WL]
  refine⟨_,rfl,?_⟩
  exact K2
 have hb:=Decidable.not_not.1 hb
 have d2:decide (b1=b2)=true:=Ze hb
 rw[d2]
 by_cases hz: ¬z1=z2
 ·skip
  have d3:decide (z1=z2)=false:=Za hz
  rw[d3]
  simp only[Xy,YG]
  simp(disch:=first|omega|simp only[ZY,ZZ]<;>omega) only[bx,Z3,g2,g3,ZJ,Zv,Zt,Uc,Uk,neB,neZ,d1,d2,d3,c19,Zu,ZX,Zw,Zz,Yf,WL]
  refine⟨_,rfl,?_⟩
  exact K2
 have hz:=Decidable.not_not.1 hz
 have d3:decide (z1=z2)=true:=Ze hz
 rw[d3]
 by_cases hs: ¬s1=s2
 ·skip
  have d4:decide (s1=s2)=false:=Za hs
  rw[d4]
  simp only[Xy,YG]
  simp(disch:=first|omega|simp only[ZY,ZZ]<;>omega) only[bx,Z3,g2,g3,ZJ,Zv,Zt,Uc,Uk,neB,neZ,GI,d1,d2,d3,d4,c19,Zu,ZX,Zw,Zz,Yf,WL]
  refine⟨_,rfl,?_⟩
  exact K2
 have hs:=Decidable.not_not.1 hs
 have d4:decide (s1=s2)=true:=Ze hs
 rw[d4]
 by_cases hm: ¬m1.length=m2.length
 ·skip
  have d5:=dZ hm .i64
  rw[Za hm]
  simp only[Xy,YG]
  simp(disch:=first|omega|simp only[ZY,ZZ]<;>omega) only[bx,Z3,g2,g3,ZJ,Zv,Zt,Uc,neB,neZ,GI,em1,em2,d1,d2,d3,d4,d5,c19,Zu,ZX,Zw,Zz,Yf,WL]
  refine⟨_,rfl,?_⟩
  exact K2
 have hm:=Decidable.not_not.1 hm
 have d5:=Zet hm .i64
 rw[Ze hm]
 simp only[YG]
 obtain⟨H3,e3,K3⟩:=efV E (k:=4) (n:=n+8) (q:=19) (sl1.keep0 K2) (sl2.keep0 K2) DB (by omega) (p:=λi=>JV.same h (l1.getD i default) (l2.getD i default)) (λhe i hi G kG rG=>by
  have i1:i<l1.length:=by omega
  have i2:i<l2.length:=by omega
  exact ih8 rG ((ZoF i i1).keep (K2.trans kG (by simp))) ((ZoG i i2).keep (K2.trans kG (by simp))) (ol1 _ (by rw[Zf,Zi i1];exact YJ i1)) (ol2 _ (by rw[Zf,Zi i2];exact YJ i2)))
 have hE:(decide (ls1.length=ls2.length)&&P3 (λi=>JV.same h (l1.getD i default) (l2.getD i default)) ls1.length 0)=JV.eqL (JV.same h) l1 l2:=by
  rw[el1,el2]
  by_cases hl:l1.length=l2.length
  ·rw[Ze hl,YG,<-oH (JV.same h) hl l1.length 0 (by omega)];rfl
  ·rw[Za hl,Xy,JV.eqL_len _ hl]
 rw[hE] at e3
 have K03:=K2.trans K3 (by simp)
 cases hq:JV.eqL (JV.same h) l1 l2 with
 |false=>
  rw[hq] at e3
  simp only[Xy]
  simp(disch:=first|omega|simp only[ZY,ZZ]<;>omega) only[bx,Z3,g2,g3,ZJ,Zv,Zt,Uc,neB,neZ,GI,em1,em2,d1,d2,d3,d4,d5,e3,Kx,c19,Zu,ZX,Zw,Zz,Yf,WL]
  refine⟨_,rfl,?_⟩
  exact K03
 |true=>
  rw[hq] at e3
  rw[YG]
  have Ae:H3.t.get H.nx=some (rH 27 [nI .i64 k1,.bool b1,.int .i64 z1,.str s1,lv1,mv1]):=by rw[K3.get _ (by rw[<-XH,WJ,VH];omega) (by simp)];exact g2
  have g3':H3.t.get (H.nx+1)=some (rH 27 [nI .i64 k2,.bool b2,.int .i64 z2,.str s2,lv2,mv2]):=by rw[K3.get _ (by rw[<-XH,WJ,VH];omega) (by simp)];exact g3
  have nx2:H2.nx=H.nx+1+1:=by rw[<-XH,WJ,VH]
  have Fe:=K3.nx
  have jZ:H3.ro<=H3.nx:=by rw[K3.ro];omega
  obtain⟨v1,H4,e4,K4,c1,f1⟩:=AQ E (k:=4) (n:=n+8) (Zp.refl H3 []) jZ (sm1.keep0 K03) en1 (M:=m1) (h:=h) (λi hi=>by
   obtain⟨a1,t,a2,a3⟩:=ZoH i hi
   exact⟨a1,t,a2,a3.keep K03⟩) (by omega)
  have pz:H4.ro<=H4.nx:=by rw[K4.ro];have:=K4.nx;omega
  obtain⟨v2,H5,e5,K5,c2,f2⟩:=AQ E (k:=4) (n:=n+8) K4 pz (sm2.keep0 K03) en2 (M:=m2) (h:=h) (λi hi=>by
   obtain⟨a1,t,a2,a3⟩:=ZoI i hi
   exact⟨a1,t,a2,a3.keep K03⟩) (by omega)
  have K35:=K4.trans K5 (by simp)
  have nx5:=K5.nx
  have lp1:Xt H3.nx (.ptr H.nx 0)=true:=Yq (by omega) 0
  have lp2:Xt H3.nx (.ptr (H.nx+1) 0)=true:=Yq (by omega) 0
  have ss1:=sm1.same
  have ss2:=sm2.same
  have g34:H4.t.get (H.nx+1)=some (rH 27 [nI .i64 k2,.bool b2,.int .i64 z2,.str s2,lv2,mv2]):=by rw[K4.get _ (by omega) (by simp)];exact g3'
  have c1':=c1.keep K5
  have hf:yN Zo fs fuel 4 63:=λ{a b t u H j} ht hu=>Zm6 E (k:=4) (n:=j) (by decide) ht hu
  have ne: ∀v:AV,∀b o n c,v=.slice b o n c->b∈sbl v:=λv b o n c e=>by subst e;exact Y1.2 rfl
  obtain⟨H6,e6,K6,c16⟩:=BE E (k:=4) (n0:=n+5) hf Znr K35.nx (λb o n c e _=>ne v1 b o n c e) c1'
  have c2':=c2.keepS K6 (λb o n c e hb=>by
   have h2:=f2 _ _ _ _ e
   rcases c1 with⟨_,rfl|⟨b',rfl,B3⟩⟩|⟨_,b',rfl,_,s'⟩
   ·simp[sbl] at hb
   ·simp[sbl] at hb;omega
   ·obtain⟨L,r,q1,_⟩:=s'.ok
    have:=q1.low
    simp[sbl] at hb;omega)
  have K36:Zp H3 H6 []:=K35.trans K6 (λb hb Y6=>by
   cases v1 with
   |slice b' o n c=>simp[sbl] at hb;have:=f1 _ _ _ _ rfl;omega
   |_=>simp[sbl] at hb)
  obtain⟨H7,e7,K7,c27⟩:=BE E (k:=4) (n0:=n+5) hf Zns K36.nx (λb o n c e _=>ne v2 b o n c e) c2'
  have c17:=c16.keepS K7 (λb o n c e hb=>by
   have h1:b<H4.nx:=by
    rcases c1 with⟨_,rfl|⟨b',rfl,B3⟩⟩|⟨_,b',rfl,_,s'⟩
    ·cases e
    ·cases e;exact B3
    ·obtain⟨L,r,q1,_⟩:=s'.ok
     cases e;exact q1.low
   cases v2 with
   |slice b' o n c=>simp[sbl] at hb;have:=f2 _ _ _ _ rfl;omega
   |_=>simp[sbl] at hb)
  have K37:Zp H3 H7 []:=K36.trans K7 (λb hb Y6=>by
   cases v2 with
   |slice b' o n c=>simp[sbl] at hb;have:=f2 _ _ _ _ rfl;have:=K4.nx;omega
   |_=>simp[sbl] at hb)
  have ro7:H7.ro<=H7.nx:=by rw[K37.ro];have:=K37.nx;omega
  obtain⟨xs1,sx1,ex1,hx1⟩:=c17.sl
  obtain⟨xs2,sx2,ex2,hx2⟩:=c27.sl
  rw[SH] at ex1 ex2
  have q1:(Xi TG m1).length=m1.length:=SH TG m1
  have q2:(Xi TG m2).length=m2.length:=SH TG m2
  obtain⟨H8,e8,K8⟩:=efE E (k:=4) (n:=n+8) (q:=68) sx1 sx2 ro7 (by omega) (p:=λi=>decide (((Xi TG m1).getD i default).1=((Xi TG m2).getD i default).1)&&JV.same h ((Xi TG m1).getD i default).2 ((Xi TG m2).getD i default).2) (λhe i hi G kG rG=>by
   have i1:i<(Xi TG m1).length:=by omega
   have i2:i<(Xi TG m2).length:=by omega
   obtain⟨_,t1,w1,y1⟩:=hx1 i i1
   obtain⟨_,t2,w2,y2⟩:=hx2 i i2
   rw[w1,w2]
   have kk:=K37.trans kG (by simp)
   exact j7 E ih7 rG (y1.keep kk) (y2.keep kk) (om1 _ (T4 TG _ (by rw[Zf,Zi i1];exact YJ i1))) (om2 _ (T4 TG _ (by rw[Zf,Zi i2];exact YJ i2))))
  have hM:(decide (xs1.length=xs2.length)&&P3 (λi=>decide (((Xi TG m1).getD i default).1=((Xi TG m2).getD i default).1)&&JV.same h ((Xi TG m1).getD i default).2 ((Xi TG m2).getD i default).2) xs1.length 0)=JV.eqM (JV.same h) (Xi TG m1) (Xi TG m2):=by
   rw[ex1,ex2,Ze hm,YG,<-q1,<-oI (JV.same h) (by omega) (Xi TG m1).length 0 (by omega)];rfl
  rw[hM] at e8
  simp(disch:=first|omega|simp only[ZY,ZZ]<;>omega) only[bx,Z3,g2,g3,ZJ,Zv,Zt,Uc,neB,neZ,GI,em1,em2,d1,d2,d3,d4,d5,e3,Kx,Ae,g3',e4,e5,e6,e7,e8,lp1,lp2,ss1,ss2,g34,c19,Zu,ZX,Zw,Zz,ZQ,Yk,Nat.reducePow,Nat.reduceDiv,Nat.reduceMod,reduceCtorEq,Yf,WL,RA]
  refine⟨_,rfl,?_⟩
  exact(K03.trans K37 (by simp)).trans K8 (by simp)
end
end
end Go.AI
