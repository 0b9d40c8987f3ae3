/- Values made of numbers, walked: proved, as each says. -/
import Derived.Test.YtmnmknjlgpjcbaaGreatDoorPD
import Derived.Test.YtmnmknjlgpjcbaaGreatDoorPA
import Derived.Test.YtmnmknjlgpjcbaaGreatDoorP6
import Derived.Deep.Slices
import Derived.ChangeArms
set_option maxRecDepth 1000000
set_option maxHeartbeats 0
set_option linter.unusedVariables false
set_option linter.unusedSimpArgs false
namespace Go.AI
open Go
noncomputable section
section
variable {Zo:NJ} {fs:T CF} {fuel k n i h b:Nat} {H H0:Zc} {s:List UInt8} {cs:List AV}
structure Mk(H:Zc)(b:Nat)(sv:AV)(xs:List Nat)(at_:Nat):Prop where
 get:H.t.get b=some (rH 112 [sv,nI .i64 at_])
 sl:Sl H 1 sv (xs.map λx=>[nI .u16 x])
 u: ∀x∈xs,x<65536
 le:at_<=xs.length
 few:xs.length<=60
 low:b<H.nx
 ro:H.ro<=b
 old: ∀c o n q,sv=.slice c o n q->c<b
theorem Mk.put{sv:AV}{xs:List Nat}{j:Nat}(m:Mk H b sv xs i)(hj:j<=xs.length):Mk (H.put b (rH 112 [sv,nI .i64 j])) b sv xs j:=
 ⟨ZS ..,m.sl.keep (S:=[b]) (Zp.put λ_=>by simp) (λc o n q e h=>by have:=m.old c o n q e;simp at h;omega),m.u,hj,m.few,m.low,m.ro,m.old⟩
theorem Mk.keep{H H':Zc}{sv:AV}{xs:List Nat}(m:Mk H b sv xs i)(k:Zp H H' []):Mk H' b sv xs i:=
 ⟨by rw[k.get b m.low (by simp)];exact m.get,m.sl.keep0 k,m.u,m.le,m.few,ZH m.low k.nx,by rw[k.ro];exact m.ro,m.old⟩
theorem TH(E:Env Zo fs fuel){sv:AV}{xs:List Nat}{most:Nat}(m:Mk H b sv xs i)(h0:0<most)(hm:most<=65536):
  ∃r j,ZG (LK Zo fs fuel k) fs fuel (n+1) 53 [.ptr b 0,nI .i64 most] H=.ret (nI .i64 r) (H.put b (rH 112 [sv,nI .i64 j]))∧r<most∧i<=j∧j<=xs.length∧(i<xs.length->j=i+1)∧(xs.length<=i->r=0∧j=i):=by
 rw[ZF (ZB E.n53 (.inr rfl) _ _) E.f53]
 have g:=m.get
 have Tn:=m.le
 have ZjE:=m.few
 have Oz:=m.low
 have YL:=m.ro
 have el:=m.sl.len
 rw[Zr] at el
 have lsv:=m.sl.low (n:=H.nx) (Zj _)
 have ssv:=m.sl.same
 have zJ:Xt H.nx (.ptr b 0)=true:=Yq Oz 0
 by_cases Y6:i<xs.length
 ·have d1:decide (xs.length<=i)=false:=Za (by omega)
  obtain⟨c,o,rw_,eI,hc,gc,_,eL⟩:=m.sl.at_ (i:=i) (by rw[Zr];exact Y6)
  have zt:c<b:=by
   rcases m.sl.here with⟨h1,_⟩|⟨c',o',q,e,_⟩
   ·have:=congrArg List.length h1;rw[Zr,ZA] at this;omega
   ·have hcc:c'<b:=m.old _ _ _ _ e
    have e2:=eI .i64 H
    rw[e] at e2
    rw[Qm (by rw[Zr];exact Y6)] at e2
    injection e2 with e3 _
    injection e3 with e4 _
    omega
  have hx:xs.getD i 0<65536:=m.u _ (by rw[Zf,Zi Y6];exact YJ Y6)
  have eL:=λ(G:Zc)=>eL 0 G (by omega)
  rw[show((xs.map λx=>[nI .u16 x]).getD i []).getD 0 .unk=nI .u16 (xs.getD i 0) by
   rw[Zf (l:=xs.map _),YR,Zf (l:=xs),Zi Y6];rfl] at eL
  simp only[Zv] at eL
  generalize xs.getD i 0=xv at*
  obtain⟨H1,Yo⟩:=WQ (H.put b (rH 112 [sv,nI .i64 (i+1)]))
  have VH:H1.nx=H.nx:=by rw[<-Yo];rfl
  have g1:H1.t.get b=some (rH 112 [sv,nI .i64 (i+1)]):=by rw[<-Yo,ZS]
  have gc1:H1.t.get c=some (.row rw_):=by rw[<-Yo,ZD (by omega)];exact gc
  have st:=XK (fz:=0) (b:=b) (H:=H) (l:=[sv,nI .i64 i]) (o:=1) (v:=nI .i64 (i+1)) rfl (by simp) YL (by omega) 112 1 false true
  have st:FG 1 (some (rH 112 [sv,nI .i64 i])) b 1 (nI .i64 (i+1)) H=.val YS H1:=by rw[<-Yo];exact st
  refine⟨xv % most,i+1,?_,W1 _ h0,by omega,by omega,λ_=>rfl,λh=>by omega⟩
  rw[Yo]
  simp(disch:=first|omega|simp only[ZY,ZZ]<;>omega) only[g,el,lsv,ssv,zJ,d1,st,VH,g1,gc1,eI,eL,ZJ,Yu,YQ,Wy,XF,TE,bN,Zv,c53,Zu,ZX,Zw,Zz,ZQ,Yk,Nat.reducePow,Nat.reduceDiv,Nat.reduceMod,Yf,WL]
 ·have d1:decide (xs.length<=i)=true:=Ze (by omega)
  refine⟨0,i,?_,h0,Zj _,Tn,λh=>absurd h Y6,λ_=>⟨rfl,rfl⟩⟩
  rw[O9 g]
  simp(disch:=first|omega|simp only[ZY,ZZ]<;>omega) only[g,el,lsv,ssv,zJ,d1,ZJ,Yu,c53,Zu,ZX,Zw,Zz,ZQ,Yk,Yf]
def Lf:List (List UInt8):=[[],[97],[98],[34],[92],[10],[31],[195,169],[240,157,132,158],[107,101,121],[100,105,103,101,115,116],[127]]
def KR:List AV:=[.str [],.str [97],.str [98],.str [34],.str [92],.str [10],.str [31],.str [195,169],.str [240,157,132,158],.str [107,101,121],.str [100,105,103,101,115,116],.str [127]]
def Zab:List (List UInt8):=Lf++Lf.map λw=>w++[255]
def Wd(s:List UInt8):Prop:=s∈Zab
theorem Wd.len(h:Wd s):s.length<=7:=by
 have: ∀s∈Zab,s.length<=7:=by decide
 exact this s h
theorem iN{r:Nat}(h:r<12):Lf.getD r []∈Lf:=by
 rw[Zf,Zi (show r<Lf.length from h)];exact YJ _
theorem yJ{r:Nat}(h:r<12):KR.getD r .unk=.str (Lf.getD r [])∧(Lf.getD r []).length<=6:=by
 have:r=0∨r=1∨r=2∨r=3∨r=4∨r=5∨r=6∨r=7∨r=8∨r=9∨r=10∨r=11:=by omega
 rcases this with rfl|rfl|rfl|rfl|rfl|rfl|rfl|rfl|rfl|rfl|rfl|rfl<;>exact⟨rfl,by decide⟩
theorem yK:[.str [],.str [97],.str [98],.str [34],.str [92],.str [10],.str [31],.str [195,169],.str [240,157,132,158],.str [107,101,121],.str [100,105,103,101,115,116],.str [127]]=KR:=rfl
theorem BW(E:Env Zo fs fuel){sv:AV}{xs:List Nat}(m:Mk H b sv xs i)(YL:H.ro<=H.nx):
  ∃w j H',ZG (LK Zo fs fuel k) fs fuel (n+2) 107 [.ptr b 0] H=.ret (.str w) H'∧Wd w∧Mk H' b sv xs j∧i<=j∧Zp H H' [b]:=by
 rw[ZF (ZB E.n107 (.inr rfl) _ _) E.f107]
 obtain⟨H1,Yo⟩:=WQ (H.new (rH 227 KR))
 have k1:Zp H H1 []:=by rw[<-Yo];exact Zp.new H _ _
 have hB:=Xg (n:=12) (l:=[.str [],.str [],.str [],.str [],.str [],.str [],.str [],.str [],.str [],.str [],.str [],.str []]) (vs:=KR) (b:=H.nx) (H:=H.new (rH 227 [.str [],.str [],.str [],.str [],.str [],.str [],.str [],.str [],.str [],.str [],.str [],.str []])) (by rfl) (by rfl) (by omega) (show H.ro<=H.nx from YL) 227 1 false true
 rw[Vb rfl,Yo] at hB
 have g1:H1.t.get H.nx=some (rH 227 KR):=by rw[<-Yo,ZC rfl]
 have m1:=m.keep k1
 obtain⟨r,j,e2,hr,eM,hj,_,_⟩:=TH E (k:=k) (n:=n) m1 (most:=12) (by omega) (by omega)
 have m2:=m1.put hj
 have rB:=m.low
 obtain⟨H2,XH⟩:=WQ (H1.put b (rH 112 [sv,nI .i64 j]))
 rw[XH] at e2 m2
 have g2:H2.t.get H.nx=some (rH 227 KR):=by rw[<-XH,ZD (by omega)];exact g1
 obtain⟨r',j',e3,Kg,hij',hj',_,_⟩:=TH E (k:=k) (n:=n) m2 (most:=40) (by omega) (by omega)
 have m3:=m2.put hj'
 obtain⟨H3,V9⟩:=WQ (H2.put b (rH 112 [sv,nI .i64 j']))
 rw[V9] at e3 m3
 have k3:Zp H H3 [b]:=by
  rw[<-V9,<-XH,<-Yo]
  exact((Zp.new H _ _).then_put (λ_=>by simp)).then_put (λ_=>by simp)
 have ld: ∀G:Zc,ld1 (some (rH 227 KR)) r G=.val (.str (Lf.getD r [])) G:=λG=>by
  rw[ZJ (show r<KR.length from hr),(yJ hr).1]
 have hw:=(yJ hr).2
 have hwd:=iN hr
 have ix:=λ(G:Zc)=>G4 (n:=12) (i:=r) hr H.nx 0 .i64 G
 rw[Zt] at ix
 generalize Lf.getD r []=w at ld hw hwd
 by_cases h39:r'=39
 ·have d1:decide (r'=39)=true:=Ze h39
  refine⟨w++[255],j',H3,?_,Zs.2 (.inr (YV.2 ⟨w,hwd,rfl⟩)),m3,by omega,k3⟩
  simp(disch:=first|assumption|omega|(simp -implicitDefEqProofs only[ZY,ZZ]<;>first|assumption|omega)|decide) only[yK,hB,e2,ix,g2,ld,e3,d1,Z2,Qw,Za1,Zu,ZX,Zw,Zz,Yf]
 ·have d1:decide (r'=39)=false:=Za h39
  refine⟨w,j',H3,?_,Zs.2 (.inl hwd),m3,by omega,k3⟩
  simp(disch:=first|assumption|omega|(simp -implicitDefEqProofs only[ZY,ZZ]<;>first|assumption|omega)|decide) only[yK,hB,e2,ix,g2,ld,e3,d1,Z2,Za1,Zu,ZX,Zw,Zz,Yf]
end
def WD:Nat->JV->Prop
 |0,_=>True
 |h+1,.mk _ _ _ s l m=>Wd s∧(∀x∈l,WD h x)∧ ∀e∈m,Wd e.1∧WD h e.2
def iR(h:Nat)(v:JV):Prop:=JV.ok h v∧WD h v
def VOk(Zo:NJ)(fs:T CF)(fuel k n lv b:Nat)(sv:AV)(xs:List Nat):Prop:= ∀{H:Zc} {i:Nat},Mk H b sv xs i->H.ro<=H.nx->
 ∃v cs j H',ZG (LK Zo fs fuel k) fs fuel n 52 [.ptr b 0,nI .i64 lv] H=.ret (.agg cs) H'∧ES H' (λc=>c<H.nx) (lv+1) v cs∧iR (lv+1) v∧JV.tb (lv+1) v<=400*(j - i)+120∧Mk H' b sv xs j∧i<=j∧Zp H H' [b]
theorem ZaZ{cs:List AV}(h:cs.length=6)(e:Nat)(H:Zc):Py e 6 1 zV [(0,6,.agg cs)] H=.val (.slice H.nx 0 1 none) (H.newRow e 6 cs true):=by
 match cs,h with
 |[a,b,c,d,e,f],_=>rfl
theorem Mk.below{H H':Zc}{b lo:Nat}{sv:AV}{xs:List Nat}{i:Nat}(m:Mk H b sv xs i)(hb:b<lo)(w:Below lo H H'):Mk H' b sv xs i:=
 ⟨by rw[w.get b hb m.low];exact m.get,⟨m.sl.each,by
  rcases m.sl.here with h|⟨c,o,q,rfl,hc,h⟩
  ·exact .inl h
  ·refine .inr ⟨c,o,q,rfl,ZH hc w.nx,λVY=>?_⟩
   obtain⟨r,h1,h2⟩:=h VY
   exact⟨r,by rw[w.get c (by have:=m.old c o _ q rfl;omega) hc];exact h1,h2⟩⟩,m.u,m.le,m.few,ZH m.low w.nx,by rw[w.ro];exact m.ro,m.old⟩
structure B0(H:Zc)(b h i0:Nat)(sv:AV)(xs:List Nat)(bv:AV)(lo:Nat)(l:List JV)(j:Nat):Prop where
 ok: ∃bb ls,V0 H bv 27 6 ls lo∧(∀c o n q,bv=.slice c o n q->c=bb)∧ls.length=l.length∧(∀q,q<l.length->ES H (λc=>c<lo∨c=bb) h (l.getD q default) (ls.getD q []))
 good: ∀x∈l,iR h x
 sum:(l.map λx=>1+JV.tb h x).sum<=400*(j - i0)+121*l.length
 maker:Mk H b sv xs j
 le:i0<=j
theorem Qk{α:Type}(l:List α)(a d:α)(q:Nat):(l++[a]).getD q d=if q<l.length then l.getD q d else if q=l.length then a else d:=by
 rw[Zf]
 by_cases h:q<l.length
 ·rw[if_pos h,Yr h,Zf]
 ·rw[if_neg h,YI (by omega)]
  by_cases h2:q=l.length
  ·subst h2;rw[if_pos rfl,Sm];rfl
  ·rw[if_neg h2,YF (by rw[Zl,ZA];omega)];rfl
theorem B0.push{H H2:Zc}{b h i0:Nat}{sv:AV}{xs:List Nat}{bv:AV}{lo:Nat}{l:List JV}{j j2:Nat}{v:JV}{cs:List AV}(s:B0 H b h i0 sv xs bv lo l j)(k:Zp H H2 [b])(hb:b<lo)(Pj:lo<=H.nx)(rO:H2.ro<=H2.nx)
  (hr:ES H2 (λc=>c<H.nx) h v cs)(ho:iR h v)(ht:JV.tb h v<=400*(j2 - j)+120)(m:Mk H2 b sv xs j2)(hj:j<=j2)(hl:l.length<=100):
  ∃P4 H3,Uw 27 6 88 bv (.slice H2.nx 0 1 none) (H2.newRow 27 6 cs true)=.val P4 H3∧B0 H3 b h i0 sv xs P4 lo (l++[v]) j2∧Below lo H2 H3:=by
 obtain⟨bb,ls,rb,B4,e,hv⟩:=s.ok
 have knx:=k.nx
 have rb2:V0 H2 bv 27 6 ls lo:=rb.below (λc h1 h2=>k.get c h2 (by simp;omega)) k.ro k.nx
 obtain⟨P4,H3,ea,rb3,w,only,fresh⟩:=C4 rb2 (bytes:=88) (by omega) (by omega) (by omega) rO (by omega) (x:=cs) hr.vr.len
 refine⟨P4,H3,ea,?_,w⟩
 obtain⟨b3,iW,lT⟩: ∃b3,(∀c o n q,P4=.slice c o n q->c=b3)∧H2.nx<=b3:=by
  rcases rb3 with⟨h1,_⟩|⟨_,c,r,rfl,_⟩
  ·simp at h1
  ·exact⟨c,λ_ _ _ _ e=>(by cases e;rfl),fresh _ _ _ _ rfl⟩
 have hbbH: ∀c o n q,bv=.slice c o n q->c<H.nx:=by
  rcases rb with⟨_,rfl⟩|⟨_,c',r,rfl,Kg,_⟩
  ·intro _ _ _ _ e;cases e
  ·intro _ _ _ _ e;cases e;exact Kg.low
 refine⟨⟨b3,ls++[cs],rb3,iW,by simp[e],λq hq=>?_⟩,λx hx=>?_,?_,m.below hb w,Yt s.le hj⟩
 ·rw[Qk,Qk,e]
  rw[Zm,Zl,ZA] at hq
  by_cases h1:q<l.length
  ·rw[if_pos h1,if_pos h1]
   refine(hv q h1).move (λc hc hS=>?_) (Yt knx w.nx) (λc hc hS=>?_)
   ·rw[only c (by omega) (λb' o' l' q' e' zt=>hS (.inr (by rw[zt];exact B4 _ _ _ _ e'))),k.get c hc (by simp;intro h2;exact hS (.inl (by omega)))]
   ·rcases hS with h2|h2
    ·exact .inl h2
    ·omega
  ·have:q=l.length:=by omega
   subst this
   rw[if_neg h1,if_neg h1,if_pos rfl,if_pos rfl]
   refine hr.move (λc hc hS=>?_) w.nx (λc hc hS=>?_)
   ·exact only c hc (λb' o' l' q' e' zt=>hS (by rw[zt];exact hbbH _ _ _ _ e'))
   ·rcases hS with h2|h2
    ·show c<H.nx;omega
    ·omega
 ·rcases Zs.1 hx with h1|h1
  ·exact s.good x h1
  ·rw[Y1.1 h1];exact ho
 ·have:=s.sum
  have:=s.le
  rw[Xo,List.sum_append,Zm]
  simp only[Y8,List.map_nil,TK,List.sum_nil,Zl,ZA]
  omega
section
variable {Zo:NJ} {fs:T CF} {fuel k n i h b:Nat} {H H0:Zc} {s:List UInt8} {cs:List AV}
theorem Below.keepS{H0 H H':Zc}{S:List Nat}(k:Zp H0 H S)(b:Below n H H')(h:H0.nx<=n):Zp H0 H' S:=
 ⟨Yt k.nx b.nx,b.ro.trans k.ro,λc hc hS=>by rw[b.get c (by omega) (ZH hc k.nx)];exact k.get c hc hS⟩
structure VLI(p4:AV)(H0:Zc)(b lv i0 cnt:Nat)(sv:AV)(xs:List Nat)(m:Nat)(tm:TM)(H:Zc):Prop where
 i: ∃c bv l j,Ph tm=nI .i64 c∧c<=cnt∧m=cnt - c∧Wp tm=bv∧l.length=c∧B0 H b (lv+1) i0 sv xs bv H0.nx l j
 t0:Z4 tm=.ptr b 0
 t4:XG tm=p4
 t1:Xz tm=nI .i64 (lv+1)
 t59:PM tm=nI .i64 cnt
 k:Zp H0 H [b]
 ro:H.ro<=H.nx
theorem mF(E:Env Zo fs fuel){lv:Nat}{sv:AV}{xs:List Nat}(ih:VOk Zo fs fuel k n lv b sv xs)(hlv:lv<=100){p4:AV}{i0 cnt:Nat}(hb:b<H0.nx)(hc:cnt<=10)(y f d r)(x:X)(m:Nat)(tm:TM)(H:Zc)(hI:VLI p4 H0 b lv i0 cnt sv xs m tm H):
  ∃o Yp H',GC ⟨ZG (LK Zo fs fuel k) fs fuel n,y,f,d,r⟩ tm H x=.ok o Yp H' x∧((o=.normal∧ ∃q,q<m∧VLI p4 H0 b lv i0 cnt sv xs q Yp H')∨(o≠.normal∧(o=.exit 1∧ ∃bv l j,Wp Yp=bv∧Z4 Yp=.ptr b 0∧XG Yp=p4∧Xz Yp=nI .i64 (lv+1)∧l.length=cnt∧B0 H' b (lv+1) i0 sv xs bv H0.nx l j∧Zp H0 H' [b]∧H'.ro<=H'.nx))):=by
 obtain⟨⟨c,bv,l,j,t60,hcc,rfl,t5,hl,s⟩,t0,t4,t1,t59,k0,YL⟩:=hI
 have KQ:=t0;have t4':=t4;have Px:=t1;have Dj:=t5;have Zpf:=t59
 simp only[Pi,PO,GU,Zi7,Zi8] at t0 t1 t5 t59 t60
 by_cases Y6:c<cnt
 ·have d1:decide (c<cnt)=true:=Ze Y6
  obtain⟨v,cs,j2,H2,e2,hr,ho,ht,m2,hj,k2⟩:=ih s.maker YL
  have DB:H2.ro<=H2.nx:=by rw[k2.ro];have:=k2.nx;omega
  obtain⟨P4,H3,ea,s3,w⟩:=s.push k2 hb k0.nx DB hr ho ht m2 hj (by omega)
  have bs:=ZaZ (cs:=cs) hr.vr.len 27 H2
  have k3:Zp H0 H3 [b]:=Below.keepS (k0.trans k2 (by simp)) w (Zj _)
  rw[Uy] at ea bs
  simp(disch:=omega) only[t0,t1,t5,t59,t60,d1,e2,bs,ea,ZO,Wy,XF,YQ,GC,Zu,ZX,Zz,Yf,WL,RA]
  refine⟨_,_,_,rfl,?_⟩
  exact .inl ⟨rfl,cnt - (c+1),by omega,⟨⟨c+1,P4,l++[v],j2,rfl,by omega,rfl,rfl,by simp[hl],s3⟩,KQ,t4',Px,Zpf,k3,by rw[w.ro];have:=w.nx;omega⟩⟩
 ·have d1:decide (c<cnt)=false:=Za Y6
  simp only[t59,t60,d1,ZO,GC,Zu,ZX,Yf,WL]
  refine⟨_,_,_,rfl,?_⟩
  exact .inr ⟨by simp,rfl,bv,l,j,(by simp only[ZX];exact Dj),(by simp only[ZX];exact KQ),(by simp only[ZX];exact t4'),(by simp only[ZX];exact Px),by omega,s,k0,YL⟩
theorem Zh2(h:cs.length=6)(w:List UInt8)(H:Zc):LP [.str [],nI .i64 0,.bool false,nI .i64 0,.str [],.nils,.nils] [(0,1,.str w),(1,6,.agg cs)] H=.val (.agg (.str w::cs)) H:=by
 match cs,h with
 |[a,b,c,d,e,f],_=>rfl
theorem Zh7(h:cs.length=6)(w:List UInt8)(e:Nat)(H:Zc):Py e 7 1 [.str [],nI .i64 0,.bool false,nI .i64 0,.str [],.nils,.nils] [(0,7,.agg (.str w::cs))] H=.val (.slice H.nx 0 1 none) (H.newRow e 7 (.str w::cs) true):=by
 match cs,h with
 |[a,b,c,d,e,f],_=>rfl
structure sG(H:Zc)(b h i0:Nat)(sv:AV)(xs:List Nat)(bv:AV)(lo:Nat)(l:List (List UInt8×JV))(j:Nat):Prop where
 ok: ∃bb ls,V0 H bv 124 7 ls lo∧(∀c o n q,bv=.slice c o n q->c=bb)∧ls.length=l.length∧(∀q,q<l.length->(l.getD q default).1.length<=7∧ ∃t,ls.getD q []=.str (l.getD q default).1::t∧ES H (λc=>c<lo∨c=bb) h (l.getD q default).2 t)
 good: ∀x∈l,Wd x.1∧iR h x.2
 sum:(l.map λe=>6*e.1.length+4+JV.tb h e.2).sum<=400*(j - i0)+170*l.length
 maker:Mk H b sv xs j
 le:i0<=j
theorem sG.push{HW H2:Zc}{i0:Nat}{sv:AV}{xs:List Nat}{bv:AV}{lo:Nat}{l:List (List UInt8×JV)}{j jw j2:Nat}{w:List UInt8}{v:JV}(s:sG H b h i0 sv xs bv lo l j)(k0:Zp H HW [b])(k2:Zp HW H2 [b])(hb:b<lo)(Pj:lo<=H.nx)(rO:H2.ro<=H2.nx)(hwd:Wd w)
  (hr:ES H2 (λc=>c<HW.nx) h v cs)(ho:iR h v)(ht:JV.tb h v<=400*(j2 - jw)+120)(m:Mk H2 b sv xs j2)(hj0:j<=jw)(hj:jw<=j2)(hl:l.length<=100):
  ∃P4 H3,Uw 124 7 104 bv (.slice H2.nx 0 1 none) (H2.newRow 124 7 (.str w::cs) true)=.val P4 H3∧sG H3 b h i0 sv xs P4 lo (l++[(w,v)]) j2∧Below lo H2 H3:=by
 have hw:=hwd.len
 have k:=k0.trans k2 (by simp)
 obtain⟨bb,ls,rb,B4,e,hv⟩:=s.ok
 have knx:=k.nx
 have ZoR:=k0.nx
 have rb2:V0 H2 bv 124 7 ls lo:=rb.below (λc h1 h2=>k.get c h2 (by simp;omega)) k.ro k.nx
 obtain⟨P4,H3,ea,rb3,w3,only,fresh⟩:=C4 rb2 (bytes:=104) (by omega) (by omega) (by omega) rO (by omega) (x:=.str w::cs) (by rw[Zl,hr.vr.len])
 refine⟨P4,H3,ea,?_,w3⟩
 obtain⟨b3,iW,lT⟩: ∃b3,(∀c o n q,P4=.slice c o n q->c=b3)∧H2.nx<=b3:=by
  rcases rb3 with⟨h1,_⟩|⟨_,c,r,rfl,_⟩
  ·simp at h1
  ·exact⟨c,λ_ _ _ _ e=>(by cases e;rfl),fresh _ _ _ _ rfl⟩
 have hbbH: ∀c o n q,bv=.slice c o n q->c<HW.nx:=by
  rcases rb with⟨_,rfl⟩|⟨_,c',r,rfl,Kg,_⟩
  ·intro _ _ _ _ e;cases e
  ·intro _ _ _ _ e;cases e;exact ZH Kg.low ZoR
 refine⟨⟨b3,ls++[.str w::cs],rb3,iW,by simp[e],λq hq=>?_⟩,λx hx=>?_,?_,m.below hb w3,by have:=s.le;omega⟩
 ·rw[Qk,Qk,e]
  rw[Zm,Zl,ZA] at hq
  by_cases h1:q<l.length
  ·rw[if_pos h1,if_pos h1]
   obtain⟨a1,t,a2,a3⟩:=hv q h1
   refine⟨a1,t,a2,a3.move (λc hc hS=>?_) (Yt knx w3.nx) (λc hc hS=>?_)⟩
   ·rw[only c (by omega) (λb' o' l' q' e' zt=>hS (.inr (by rw[zt];exact B4 _ _ _ _ e'))),k.get c hc (by simp;intro h2;exact hS (.inl (by omega)))]
   ·rcases hS with h2|h2
    ·exact .inl h2
    ·omega
  ·have:q=l.length:=by omega
   subst this
   rw[if_neg h1,if_neg h1,if_pos rfl,if_pos rfl]
   refine⟨hw,cs,rfl,hr.move (λc hc hS=>?_) w3.nx (λc hc hS=>?_)⟩
   ·exact only c hc (λb' o' l' q' e' zt=>hS (by rw[zt];exact hbbH _ _ _ _ e'))
   ·rcases hS with h2|h2
    ·show c<HW.nx;omega
    ·omega
 ·rcases Zs.1 hx with h1|h1
  ·exact s.good x h1
  ·rw[Y1.1 h1];exact⟨hwd,ho⟩
 ·have:=s.sum
  have:=s.le
  rw[Xo,List.sum_append,Zm]
  simp only[Y8,List.map_nil,TK,List.sum_nil,Zl,ZA]
  omega
structure VTI(p4:AV)(H0:Zc)(b lv i0 cnt:Nat)(sv:AV)(xs:List Nat)(m:Nat)(tm:TM)(H:Zc):Prop where
 i: ∃c bv l j,L7 tm=nI .i64 c∧c<=cnt∧m=cnt - c∧Wi tm=bv∧l.length=c∧sG H b (lv+1) i0 sv xs bv H0.nx l j
 t0:Z4 tm=.ptr b 0
 t4:XG tm=p4
 t1:Xz tm=nI .i64 (lv+1)
 t84:J6 tm=nI .i64 cnt
 k:Zp H0 H [b]
 ro:H.ro<=H.nx
theorem Zdz(E:Env Zo fs fuel){lv:Nat}{sv:AV}{xs:List Nat}(ih:VOk Zo fs fuel k (n+2) lv b sv xs)(hlv:lv<=100){p4:AV}{i0 cnt:Nat}(hb:b<H0.nx)(hc:cnt<=10)(y f d r)(x:X)(m:Nat)(tm:TM)(H:Zc)(hI:VTI p4 H0 b lv i0 cnt sv xs m tm H):
  ∃o Yp H',DU ⟨ZG (LK Zo fs fuel k) fs fuel (n+2),y,f,d,r⟩ tm H x=.ok o Yp H' x∧((o=.normal∧ ∃q,q<m∧VTI p4 H0 b lv i0 cnt sv xs q Yp H')∨(o≠.normal∧(o=.exit 3∧ ∃bv l j,Wi Yp=bv∧Z4 Yp=.ptr b 0∧XG Yp=p4∧l.length=cnt∧sG H' b (lv+1) i0 sv xs bv H0.nx l j∧Zp H0 H' [b]∧H'.ro<=H'.nx))):=by
 obtain⟨⟨c,bv,l,j,t85,hcc,rfl,t6,hl,s⟩,t0,t4,t1,t84,k0,YL⟩:=hI
 have KQ:=t0;have t4':=t4;have Px:=t1;have wS:=t6;have Zpj:=t84
 simp only[Pi,PO,GV,Zjc,Zjd] at t0 t1 t6 t84 t85
 by_cases Y6:c<cnt
 ·have d1:decide (c<cnt)=true:=Ze Y6
  obtain⟨w,jw,HW,ew,hw,mw,hjw,kw⟩:=BW E (k:=k) (n:=n) s.maker YL
  have roW:HW.ro<=HW.nx:=by rw[kw.ro];have:=kw.nx;omega
  obtain⟨v,cs,j2,H2,e2,hr,ho,ht,m2,hj,k2⟩:=ih mw roW
  have DB:H2.ro<=H2.nx:=by rw[k2.ro];have:=k2.nx;omega
  obtain⟨P4,H3,ea,s3,w3⟩:=s.push kw k2 hb k0.nx DB hw hr ho ht m2 hjw hj (by omega)
  have bd:=Zh2 (cs:=cs) hr.vr.len w H2
  have bs:=Zh7 (cs:=cs) hr.vr.len w 124 H2
  have k3:Zp H0 H3 [b]:=Below.keepS ((k0.trans kw (by simp)).trans k2 (by simp)) w3 (Zj _)
  rw[Uy] at ea bs
  simp(disch:=omega) only[t0,t1,t6,t84,t85,d1,ew,e2,bd,bs,ea,ZO,Wy,XF,YQ,DU,Zu,ZX,Zz,Yf,RA,NK]
  refine⟨_,_,_,rfl,?_⟩
  exact .inl ⟨rfl,cnt - (c+1),by omega,⟨⟨c+1,P4,l++[(w,v)],j2,rfl,by omega,rfl,rfl,by simp[hl],s3⟩,KQ,t4',Px,Zpj,k3,by rw[w3.ro];have:=w3.nx;omega⟩⟩
 ·have d1:decide (c<cnt)=false:=Za Y6
  simp only[t84,t85,d1,ZO,DU,Zu,ZX,Yf,RA]
  refine⟨_,_,_,rfl,?_⟩
  exact .inr ⟨by simp,rfl,bv,l,j,(by simp only[ZX];exact wS),(by simp only[ZX];exact KQ),(by simp only[ZX];exact t4'),by omega,s,k0,YL⟩
end
theorem ES.leaf{H:Zc}{S:Nat->Prop}{h k:Nat}{b:Bool}{n:Int}{s:List UInt8}(h1: -9223372036854775808<=n)(h2:n<9223372036854775808)(h3:s.length<=9000):ES H S (h+1) (.mk k b n s [] []) [nI .i64 k,.bool b,.int .i64 n,.str s,.nils,.nils]:=
 ⟨.nils,.nils,[],[],rfl,h1,h2,h3,Z1 _,Z1 _,⟨Sl.nil ..,λ_ _ _ _ e=>by cases e⟩,⟨Sl.nil ..,λ_ _ _ _ e=>by cases e⟩,rfl,rfl,λi hi=>absurd hi (Xa _),λi hi=>absurd hi (Xa _)⟩
theorem ZcT{h k:Nat}{b:Bool}{n:Int}{s:List UInt8}(h1: -9223372036854775808<=n)(h2:n<9223372036854775808):JV.ok (h+1) (.mk k b n s [] []):=
 by
 refine⟨⟨h1,h2⟩,Z1 _,λx hx=>?_,λx hx=>?_⟩
 ·cases hx
 ·cases hx
theorem Mg{h k:Nat}{b:Bool}{n:Int}{s:List UInt8}(h1: -9223372036854775808<=n)(h2:n<9223372036854775808)(hs:Wd s):iR (h+1) (.mk k b n s [] []):=
 ⟨ZcT h1 h2,hs,λx hx=>(by cases hx),λx hx=>by cases hx⟩
theorem FI:Wd []:=by unfold Wd;decide
theorem La(h k:Nat)(b:Bool)(n:Int)(s:List UInt8):JV.tb (h+1) (.mk k b n s [] [])=50+6*s.length:=rfl
theorem Zad(z:Int): -9223372036854775808<=IntKind.i64.wrap z∧IntKind.i64.wrap z<9223372036854775808:=by
 show -9223372036854775808<=(if (true&&decide (z % (18446744073709551616:Int)≥(9223372036854775808:Int)))=true then z % (18446744073709551616:Int) - 18446744073709551616 else z % (18446744073709551616:Int))∧(if (true&&decide (z % (18446744073709551616:Int)≥(9223372036854775808:Int)))=true then z % (18446744073709551616:Int) - 18446744073709551616 else z % (18446744073709551616:Int))<9223372036854775808
 by_cases h:z % (18446744073709551616:Int)≥(9223372036854775808:Int)
 ·rw[Ze h,if_pos (by rfl)];omega
 ·rw[Za h,if_neg (by decide)];omega
theorem Zae{z:Int}(h1: -9223372036854775808<=z)(h2:z<9223372036854775808):IntKind.i64.wrap z=z:=by
 show(if (true&&decide (z % (18446744073709551616:Int)≥(9223372036854775808:Int)))=true then z % (18446744073709551616:Int) - 18446744073709551616 else z % (18446744073709551616:Int))=z
 by_cases h:z % (18446744073709551616:Int)≥(9223372036854775808:Int)
 ·rw[Ze h,if_pos (by rfl)];omega
 ·rw[Za h,if_neg (by decide)];omega
theorem aI{a b:Nat}(h1:a<4611686018427387904)(h2:b<4611686018427387904)(H:Zc):Az (nI .i64 a) (nI .i64 b) H=.val (.int .i64 ((a:Int) - b)) H:=by
 show ZL (Qd .i64 .i64) (Vm .i64 (Km (.ofNat a) (.ofNat b)) H)=_
 have e:Km (.ofNat a) (.ofNat b)=(a:Int) - b:=by
  show cond (Nat.ble b a) (Int.ofNat (Nat.sub a b)) (Int.ofNat a - Int.ofNat b)=_
  cases h:Nat.ble b a with
  |true=>
   have:=ZN h
   show((a - b:Nat):Int)=_
   omega
  |false=>rfl
 rw[Y4,YY,e,Zae (by omega) (by omega)];rfl
theorem au(z:Int)(n:Nat)(H:Zc): ∃w,E5 (.int .i64 z) (nI .i64 n) H=.val (.int .i64 w) H∧ -9223372036854775808<=w∧w<9223372036854775808:=by
 refine⟨_,?_,Zad (Kk z (.ofNat (Nat.pow 2 (cond (Nat.ble n 64) n 64))))⟩
 show Vm .i64 (Kk z (.ofNat (Nat.pow 2 (cond (Nat.ble n 64) n 64)))) H=_
 rw[YY]
theorem B0.vr{H H':Zc}{b h i0:Nat}{sv:AV}{xs:List Nat}{bv:AV}{lo:Nat}{l:List JV}{j NY:Nat}(s:B0 H b h i0 sv xs bv lo l j)(hl:l.length<=9000)(Pj:NY<=lo)(hg: ∀c,c<H.nx->lo<=c->H'.t.get c=H.t.get c)(YL:H'.ro=H.ro)(hn:H.nx<=H'.nx):
  ES H' (λc=>c<NY) (h+1) (.mk 5 false 0 [] l []) [nI .i64 5,.bool false,nI .i64 0,.str [],bv,.nils]:=by
 obtain⟨bb,ls,rb,B4,e,hv⟩:=s.ok
 have rb':=rb.below (λc h1 h2=>hg c h2 h1) YL hn
 refine⟨bv,.nils,ls,[],rfl,by omega,by omega,Z1 _,hl,Z1 _,⟨Sl.of_buf rb',λc o n q ev=>?_⟩,⟨Sl.nil ..,λ_ _ _ _ e=>by cases e⟩,e,rfl,λi hi=>?_,λi hi=>absurd hi (Xa _)⟩
 ·rcases rb with⟨_,rfl⟩|⟨_,c',r,rfl,_,h3⟩
  ·cases ev
  ·cases ev;show ¬c<NY;omega
 ·exact(hv i hi).move (λc hc hS=>hg c hc (by rcases Un c lo with h1|h1;exact absurd (.inl h1) hS;exact h1)) hn (λc hc hS=>.inl (show c<lo from ZH hS Pj))
theorem B0.okv{H:Zc}{b h i0:Nat}{sv:AV}{xs:List Nat}{bv:AV}{lo:Nat}{l:List JV}{j:Nat}(s:B0 H b h i0 sv xs bv lo l j):iR (h+1) (.mk 5 false 0 [] l []):=
 ⟨⟨⟨by omega,by omega⟩,Z1 _,λx hx=>(s.good x hx).1,λx hx=>by cases hx⟩,FI,λx hx=>(s.good x hx).2,λx hx=>by cases hx⟩
theorem B0.tbv{H:Zc}{b h i0:Nat}{sv:AV}{xs:List Nat}{bv:AV}{lo:Nat}{l:List JV}{j:Nat}(s:B0 H b h i0 sv xs bv lo l j):JV.tb (h+1) (.mk 5 false 0 [] l [])<=50+400*(j - i0)+121*l.length:=by
 have:=s.sum
 show 50+6*0+(l.map λx=>1+JV.tb h x).sum+0<=_
 omega
theorem sG.vr{H H':Zc}{b h i0:Nat}{sv:AV}{xs:List Nat}{bv:AV}{lo:Nat}{l:List (List UInt8×JV)}{j NY:Nat}{z:Nat}(s:sG H b h i0 sv xs bv lo l j)(hz:z<=1)(hl:l.length<=9000)(Pj:NY<=lo)(hg: ∀c,c<H.nx->lo<=c->H'.t.get c=H.t.get c)(YL:H'.ro=H.ro)(hn:H.nx<=H'.nx):
  ES H' (λc=>c<NY) (h+1) (.mk 6 false z [] [] l) [nI .i64 6,.bool false,nI .i64 z,.str [],.nils,bv]:=by
 obtain⟨bb,ls,rb,B4,e,hv⟩:=s.ok
 have rb':=rb.below (λc h1 h2=>hg c h2 h1) YL hn
 refine⟨.nils,bv,[],ls,rfl,by omega,by omega,Z1 _,Z1 _,hl,⟨Sl.nil ..,λ_ _ _ _ e=>by cases e⟩,⟨Sl.of_buf rb',λc o n q ev=>?_⟩,rfl,e,λi hi=>absurd hi (Xa _),λi hi=>?_⟩
 ·rcases rb with⟨_,rfl⟩|⟨_,c',r,rfl,_,h3⟩
  ·cases ev
  ·cases ev;show ¬c<NY;omega
 ·obtain⟨h1,t,h2,h3⟩:=hv i hi
  refine⟨by omega,t,h2,h3.move (λc hc hS=>hg c hc (by rcases Un c lo with h1|h1;exact absurd (.inl h1) hS;exact h1)) hn (λc hc hS=>.inl (show c<lo from ZH hS Pj))⟩
theorem sG.okv{H:Zc}{b h i0:Nat}{sv:AV}{xs:List Nat}{bv:AV}{lo:Nat}{l:List (List UInt8×JV)}{j z:Nat}(s:sG H b h i0 sv xs bv lo l j)(hz:z<=1)(hl:l.length<=12):iR (h+1) (.mk 6 false z [] [] l):=
 ⟨⟨⟨by omega,by omega⟩,hl,λx hx=>(by cases hx),λx hx=>(s.good x hx).2.1⟩,FI,λx hx=>(by cases hx),λx hx=>⟨(s.good x hx).1,(s.good x hx).2.2⟩⟩
theorem sG.tbv{H:Zc}{b h i0:Nat}{sv:AV}{xs:List Nat}{bv:AV}{lo:Nat}{l:List (List UInt8×JV)}{j z:Nat}(s:sG H b h i0 sv xs bv lo l j):JV.tb (h+1) (.mk 6 false z [] [] l)<=50+400*(j - i0)+170*l.length:=by
 have:=s.sum
 show 50+6*0+0+(l.map λe=>6*e.1.length+4+JV.tb h e.2).sum<=_
 omega
section
variable {Zo:NJ} {fs:T CF} {fuel k n i h b:Nat} {H H0:Zc} {s:List UInt8} {cs:List AV}
theorem av{z w:Int}(h:E5 (.int .i64 z) (nI .i64 n) H=.val (.int .i64 w) H)(G:Zc):E5 (.int .i64 z) (nI .i64 n) G=.val (.int .i64 w) G:=by
 have e: ∀K:Zc,E5 (.int .i64 z) (nI .i64 n) K=.val (.int .i64 (IntKind.i64.wrap (Kk z (.ofNat (Nat.pow 2 (cond (Nat.ble n 64) n 64)))))) K:=λK=>by
  show Vm .i64 (Kk z (.ofNat (Nat.pow 2 (cond (Nat.ble n 64) n 64)))) K=_
  rw[YY]
 rw[e H] at h
 injection h with h1 _
 injection h1 with _ h2
 rw[e G,h2]
theorem sy(E:Env Zo fs fuel)(hk:1<=k){sv:AV}{xs:List Nat}(m:Mk H b sv xs i)(YL:H.ro<=H.nx){lv:Nat}(hq:lv=0∨xs.length<=i): ∃v cs j H',ZG (LK Zo fs fuel k) fs fuel (n+5) 52 [.ptr b 0,nI .i64 lv] H=.ret (.agg cs) H'∧ES H' (λc=>c<H.nx) (lv+1) v cs∧iR (lv+1) v∧JV.tb (lv+1) v<=400*(j - i)+120∧Mk H' b sv xs j∧i<=j∧Zp H H' [b]:=by
 rw[ZF (ZB E.n52 (.inr rfl) _ _) E.f52]
 obtain⟨H1,Yo⟩:=WQ (H.new (rH 27 zV))
 have VH:H1.nx=H.nx+1:=by rw[<-Yo];rfl
 have Nn:H1.ro=H.ro:=by rw[<-Yo];rfl
 have k1:Zp H H1 []:=by rw[<-Yo];exact Zp.new H _ _
 have m1:=m.keep k1
 have GL:=m1.get
 have rB:=m.low
 have zf:H1.t.get H.nx=some (rH 27 zV):=by rw[<-Yo,ZC rfl]
 have el:=m.sl.len
 rw[Zr] at el
 have lsv:=m1.sl.low (n:=H.nx+1) (by omega)
 have ssv:=m1.sl.same
 have zJ:Xt (H.nx+1) (.ptr b 0)=true:=Yq (by omega) 0
 obtain⟨r,j,er,lr,ler,ltr,oner,_⟩:=TH E (k:=k) (n:=n+3) m1 (most:=5) (by omega) (by omega)
 have mr:=m1.put ltr
 obtain⟨H2,XH⟩:=WQ (Zc.put H1 b (rH 112 [sv,nI .i64 j]))
 rw[XH] at er mr
 have uA:H2.nx=H1.nx:=by rw[<-XH];rfl
 have tj:H2.ro=H1.ro:=by rw[<-XH];rfl
 have L9: ∀c,c≠b->H2.t.get c=H1.t.get c:=λc hc=>by rw[<-XH,ZD (λh=>hc h.symm)]
 have uk:Zp H1 H2 [b]:=by rw[<-XH];exact Zp.put λ_=>by simp
 have g2:H2.t.get H.nx=some (rH 27 zV):=by rw[L9 _ (by omega)];exact zf
 have eo: ∀{q},ZG (LK Zo fs fuel k) fs fuel (q+1) 106 [.iface 3 (nI .i64 r)] H2=.ret (.agg [nI .i64 3,.bool false,nI .i64 r,.str [],.nils,.nils]) H2:=λ{q}=>ofInt E (k:=k) (n:=q) hk (z:=.ofNat r) (H:=H2) (by omega)
 obtain⟨H9,RZ⟩:=WQ (Zc.put H2 H.nx (rH 27 [nI .i64 3,.bool false,nI .i64 r,.str [],.nils,.nils]))
 have hB:=Xg (n:=6) (l:=zV) (vs:=[nI .i64 3,.bool false,nI .i64 r,.str [],.nils,.nils]) (b:=H.nx) (H:=H2) (by rfl) (by rfl) (by omega) (by omega) 27 1 false true
 rw[RZ] at hB
 have g9:H9.t.get H.nx=some (rH 27 [nI .i64 3,.bool false,nI .i64 r,.str [],.nils,.nils]):=by rw[<-RZ,ZS]
 have ldx: ∀(kk:AV->CR),rV 6 true (some (rH 27 [nI .i64 3,.bool false,nI .i64 r,.str [],.nils,.nils])) 0 kk=kk (.agg [nI .i64 3,.bool false,nI .i64 r,.str [],.nils,.nils]):=λkk=>Tf (n:=6) (l:=[nI .i64 3,.bool false,nI .i64 r,.str [],.nils,.nils]) rfl kk
 have w9:Below H.nx H2 H9:=by rw[<-RZ];exact Below.put (Zj _)
 have fin:ES H9 (λc=>c<H.nx) (lv+1) (.mk 3 false (.ofNat r) [] [] []) [nI .i64 3,.bool false,nI .i64 r,.str [],.nils,.nils]:=ES.leaf (n:=.ofNat r) (by have:(0:Int)<=.ofNat r:=Int.natCast_nonneg r;omega) (by have:(.ofNat r:Int)=(r:Int):=rfl;omega) (Z1 _)
 have okf:iR (lv+1) (.mk 3 false (.ofNat r) [] [] []):=Mg (by have:(0:Int)<=.ofNat r:=Int.natCast_nonneg r;omega) (by have:(.ofNat r:Int)=(r:Int):=rfl;omega) FI
 have kf:Zp H H9 [b]:=Below.keepS (k1.trans' uk) w9 (by omega)
 have mf:=mr.below (lo:=H.nx) (by omega) w9
 by_cases h0:lv=0
 ·subst h0
  have d0:decide (0<=0)=true:=rfl
  refine⟨_,_,j,H9,?_,fin,okf,by rw[La];simp only[ZA];omega,mf,ler,kf⟩
  simp only[VH,Yo,d0,TY,er,eo,hB,g2,g9,ldx,iT,Zu,ZX,Zw,Zz,ZQ,Yf,]
 ·have d0:decide (lv<=0)=false:=Za (by omega)
  have d1:decide (xs.length<=i)=true:=Ze (by omega)
  refine⟨_,_,j,H9,?_,fin,okf,by rw[La];simp only[ZA];omega,mf,ler,kf⟩
  simp(disch:=first|omega|simp only[ZY,ZZ]<;>omega) only[VH,Yo,GL,lsv,ssv,zJ,el,d0,TY,Yu,ZJ,d1,er,eo,hB,g2,g9,ldx,iT,Zu,ZX,Zw,Zz,ZQ,Yk,Yf,]
def Jl(Zo:NJ)(fs:T CF)(fuel k n b lv:Nat)(sv:AV)(xs:List Nat)(H:Zc)(i:Nat):Prop:= ∃v cs j H',ZG (LK Zo fs fuel k) fs fuel (n+5) 52 [.ptr b 0,nI .i64 lv] H=.ret (.agg cs) H'∧ES H' (λc=>c<H.nx) (lv+1) v cs∧iR (lv+1) v∧JV.tb (lv+1) v<=400*(j - i)+120∧Mk H' b sv xs j∧i<=j∧Zp H H' [b]
theorem aW(E:Env Zo fs fuel)(hk:1<=k){sv:AV}{xs:List Nat}(m:Mk H b sv xs i)(YL:H.ro<=H.nx){lv:Nat}(hl: ¬xs.length<=i){r j:Nat}{H1 H2:Zc}(Yo:H.new (rH 27 zV)=H1)(XH:Zc.put H1 b (rH 112 [sv,nI .i64 j])=H2)(hr:r=0)(hj:i<j)(mr:Mk H2 b sv xs j)
  (er:ZG (LK Zo fs fuel k) fs fuel (n+4) 53 [.ptr b 0,nI .i64 9] H1=.ret (nI .i64 r) H2):Jl Zo fs fuel k n b (lv+1) sv xs H i:=by
 unfold Jl
 have d0:decide (lv+1<=0)=false:=Za (by omega)
 have d1:decide (xs.length<=i)=false:=Za (by omega)
 rw[ZF (ZB E.n52 (.inr rfl) _ _) E.f52]
 have VH:H1.nx=H.nx+1:=by rw[<-Yo];rfl
 have Nn:H1.ro=H.ro:=by rw[<-Yo];rfl
 have k1:Zp H H1 []:=by rw[<-Yo];exact Zp.new H _ _
 have m1:=m.keep k1
 have GL:=m1.get
 have rB:=m.low
 have zf:H1.t.get H.nx=some (rH 27 zV):=by rw[<-Yo,ZC rfl]
 have el:=m.sl.len
 rw[Zr] at el
 have lsv:=m1.sl.low (n:=H.nx+1) (by omega)
 have ssv:=m1.sl.same
 have zJ:Xt (H.nx+1) (.ptr b 0)=true:=Yq (by omega) 0
 have uA:H2.nx=H1.nx:=by rw[<-XH];rfl
 have tj:H2.ro=H1.ro:=by rw[<-XH];rfl
 have L9: ∀c,c≠b->H2.t.get c=H1.t.get c:=λc hc=>by rw[<-XH,ZD (λh=>hc h.symm)]
 have uk:Zp H1 H2 [b]:=by rw[<-XH];exact Zp.put λ_=>by simp
 have g2:H2.t.get H.nx=some (rH 27 zV):=by rw[L9 _ (by omega)];exact zf
 have k2:Zp H H2 [b]:=k1.trans' uk
 have eo:=λ{q}=>cJ E (k:=k) (n:=q) hk (H:=H2) (by omega)
 obtain⟨H9,RZ⟩:=WQ (Zc.put H2 H.nx (rH 27 [nI .i64 1,.bool false,nI .i64 0,.str [],.nils,.nils]))
 have hB:=Xg (n:=6) (l:=zV) (vs:=[nI .i64 1,.bool false,nI .i64 0,.str [],.nils,.nils]) (b:=H.nx) (H:=H2) (by rfl) (by rfl) (by omega) (by omega) 27 1 false true
 rw[RZ] at hB
 have g9:H9.t.get H.nx=some (rH 27 [nI .i64 1,.bool false,nI .i64 0,.str [],.nils,.nils]):=by rw[<-RZ,ZS]
 have ldx: ∀(kk:AV->CR),rV 6 true (some (rH 27 [nI .i64 1,.bool false,nI .i64 0,.str [],.nils,.nils])) 0 kk=kk (.agg [nI .i64 1,.bool false,nI .i64 0,.str [],.nils,.nils]):=λkk=>Tf (n:=6) (l:=[nI .i64 1,.bool false,nI .i64 0,.str [],.nils,.nils]) rfl kk
 have w9:Below H.nx H2 H9:=by rw[<-RZ];exact Below.put (Zj _)
 have c0:decide (r=0)=true:=Ze hr
 refine⟨.mk 1 false 0 [] [] [],[nI .i64 1,.bool false,nI .i64 0,.str [],.nils,.nils],j,H9,?_,ES.leaf (n:=0) (by omega) (by omega) (by simp),Mg (by omega) (by omega) FI,by rw[La];simp only[ZA];omega,mr.below (lo:=H.nx) (by omega) w9,by omega,Below.keepS k2 w9 (by omega)⟩
 simp(disch:=first|omega|simp only[ZY,ZZ]<;>omega) only[VH,Yo,GL,lsv,ssv,zJ,el,d0,d1,TY,Yu,ZJ,Z2,er,c0,eo,hB,g2,g9,ldx,iT,Zu,ZX,Zw,Zz,ZQ,Yk,Yf,]
theorem aV(E:Env Zo fs fuel)(hk:1<=k){sv:AV}{xs:List Nat}(m:Mk H b sv xs i)(YL:H.ro<=H.nx){lv:Nat}(hl: ¬xs.length<=i){r j:Nat}{H1 H2:Zc}(Yo:H.new (rH 27 zV)=H1)(XH:Zc.put H1 b (rH 112 [sv,nI .i64 j])=H2)(hr:r=1)(hj:i<j)(mr:Mk H2 b sv xs j)
  (er:ZG (LK Zo fs fuel k) fs fuel (n+4) 53 [.ptr b 0,nI .i64 9] H1=.ret (nI .i64 r) H2):Jl Zo fs fuel k n b (lv+1) sv xs H i:=by
 unfold Jl
 have d0:decide (lv+1<=0)=false:=Za (by omega)
 have d1:decide (xs.length<=i)=false:=Za (by omega)
 rw[ZF (ZB E.n52 (.inr rfl) _ _) E.f52]
 have VH:H1.nx=H.nx+1:=by rw[<-Yo];rfl
 have Nn:H1.ro=H.ro:=by rw[<-Yo];rfl
 have k1:Zp H H1 []:=by rw[<-Yo];exact Zp.new H _ _
 have m1:=m.keep k1
 have GL:=m1.get
 have rB:=m.low
 have zf:H1.t.get H.nx=some (rH 27 zV):=by rw[<-Yo,ZC rfl]
 have el:=m.sl.len
 rw[Zr] at el
 have lsv:=m1.sl.low (n:=H.nx+1) (by omega)
 have ssv:=m1.sl.same
 have zJ:Xt (H.nx+1) (.ptr b 0)=true:=Yq (by omega) 0
 have uA:H2.nx=H1.nx:=by rw[<-XH];rfl
 have tj:H2.ro=H1.ro:=by rw[<-XH];rfl
 have L9: ∀c,c≠b->H2.t.get c=H1.t.get c:=λc hc=>by rw[<-XH,ZD (λh=>hc h.symm)]
 have uk:Zp H1 H2 [b]:=by rw[<-XH];exact Zp.put λ_=>by simp
 have g2:H2.t.get H.nx=some (rH 27 zV):=by rw[L9 _ (by omega)];exact zf
 have k2:Zp H H2 [b]:=k1.trans' uk
 have c0:decide (r=0)=false:=Za (by omega)
 have c1:decide (r=1)=true:=Ze hr
 obtain⟨q,j3,eq,lq,leq,ltq,oneq,_⟩:=TH E (k:=k) (n:=n+3) mr (most:=2) (by omega) (by omega)
 have mq:=mr.put ltq
 obtain⟨H3,V9⟩:=WQ (Zc.put H2 b (rH 112 [sv,nI .i64 j3]))
 rw[V9] at eq mq
 have ZcD:H3.nx=H2.nx:=by rw[<-V9];rfl
 have Zdg:H3.ro=H2.ro:=by rw[<-V9];rfl
 have xp: ∀c,c≠b->H3.t.get c=H2.t.get c:=λc hc=>by rw[<-V9,ZD (λh=>hc h.symm)]
 have kH3:Zp H2 H3 [b]:=by rw[<-V9];exact Zp.put λ_=>by simp
 have g3:H3.t.get H.nx=some (rH 27 zV):=by rw[xp _ (by omega)];exact g2
 have eo:=λ{p}=>qM E (k:=k) (n:=p) hk (b:=decide (q=1)) (H:=H3) (by omega)
 obtain⟨H9,RZ⟩:=WQ (Zc.put H3 H.nx (rH 27 [nI .i64 2,.bool (decide (q=1)),nI .i64 0,.str [],.nils,.nils]))
 have hB:=Xg (n:=6) (l:=zV) (vs:=[nI .i64 2,.bool (decide (q=1)),nI .i64 0,.str [],.nils,.nils]) (b:=H.nx) (H:=H3) (by rfl) (by rfl) (by omega) (by omega) 27 1 false true
 rw[RZ] at hB
 have g9:H9.t.get H.nx=some (rH 27 [nI .i64 2,.bool (decide (q=1)),nI .i64 0,.str [],.nils,.nils]):=by rw[<-RZ,ZS]
 have ldx: ∀(kk:AV->CR),rV 6 true (some (rH 27 [nI .i64 2,.bool (decide (q=1)),nI .i64 0,.str [],.nils,.nils])) 0 kk=kk (.agg [nI .i64 2,.bool (decide (q=1)),nI .i64 0,.str [],.nils,.nils]):=λkk=>Tf (n:=6) (l:=[nI .i64 2,.bool (decide (q=1)),nI .i64 0,.str [],.nils,.nils]) rfl kk
 have w9:Below H.nx H3 H9:=by rw[<-RZ];exact Below.put (Zj _)
 refine⟨.mk 2 (decide (q=1)) 0 [] [] [],[nI .i64 2,.bool (decide (q=1)),nI .i64 0,.str [],.nils,.nils],j3,H9,?_,ES.leaf (n:=0) (by omega) (by omega) (by simp),Mg (by omega) (by omega) FI,by rw[La];simp only[ZA];omega,mq.below (lo:=H.nx) (by omega) w9,by omega,Below.keepS (k2.trans kH3 (by simp)) w9 (by omega)⟩
 simp(disch:=first|omega|simp only[ZY,ZZ]<;>omega) only[VH,Yo,GL,lsv,ssv,zJ,el,d0,d1,TY,Yu,ZJ,Z2,er,c0,c1,eq,eo,hB,g3,g9,ldx,iT,Zu,ZX,Zw,Zz,ZQ,Yk,Yf,WL,]
theorem Zdy(E:Env Zo fs fuel)(hk:1<=k){sv:AV}{xs:List Nat}(m:Mk H b sv xs i)(YL:H.ro<=H.nx){lv:Nat}(hl: ¬xs.length<=i){r j:Nat}{H1 H2:Zc}(Yo:H.new (rH 27 zV)=H1)(XH:Zc.put H1 b (rH 112 [sv,nI .i64 j])=H2)(hr:r=2)(hj:i<j)(mr:Mk H2 b sv xs j)
  (er:ZG (LK Zo fs fuel k) fs fuel (n+4) 53 [.ptr b 0,nI .i64 9] H1=.ret (nI .i64 r) H2):Jl Zo fs fuel k n b (lv+1) sv xs H i:=by
 unfold Jl
 have d0:decide (lv+1<=0)=false:=Za (by omega)
 have d1:decide (xs.length<=i)=false:=Za (by omega)
 rw[ZF (ZB E.n52 (.inr rfl) _ _) E.f52]
 have VH:H1.nx=H.nx+1:=by rw[<-Yo];rfl
 have Nn:H1.ro=H.ro:=by rw[<-Yo];rfl
 have k1:Zp H H1 []:=by rw[<-Yo];exact Zp.new H _ _
 have m1:=m.keep k1
 have GL:=m1.get
 have rB:=m.low
 have zf:H1.t.get H.nx=some (rH 27 zV):=by rw[<-Yo,ZC rfl]
 have el:=m.sl.len
 rw[Zr] at el
 have lsv:=m1.sl.low (n:=H.nx+1) (by omega)
 have ssv:=m1.sl.same
 have zJ:Xt (H.nx+1) (.ptr b 0)=true:=Yq (by omega) 0
 have uA:H2.nx=H1.nx:=by rw[<-XH];rfl
 have tj:H2.ro=H1.ro:=by rw[<-XH];rfl
 have L9: ∀c,c≠b->H2.t.get c=H1.t.get c:=λc hc=>by rw[<-XH,ZD (λh=>hc h.symm)]
 have uk:Zp H1 H2 [b]:=by rw[<-XH];exact Zp.put λ_=>by simp
 have g2:H2.t.get H.nx=some (rH 27 zV):=by rw[L9 _ (by omega)];exact zf
 have k2:Zp H H2 [b]:=k1.trans' uk
 have c0:decide (r=0)=false:=Za (by omega)
 have c1:decide (r=1)=false:=Za (by omega)
 have c2:decide (r=2)=true:=Ze hr
 obtain⟨q,j3,eq,lq,leq,ltq,oneq,_⟩:=TH E (k:=k) (n:=n+3) mr (most:=65536) (by omega) (by omega)
 have mq:=mr.put ltq
 obtain⟨H3,V9⟩:=WQ (Zc.put H2 b (rH 112 [sv,nI .i64 j3]))
 rw[V9] at eq mq
 have ZcD:H3.nx=H2.nx:=by rw[<-V9];rfl
 have Zdg:H3.ro=H2.ro:=by rw[<-V9];rfl
 have xp: ∀c,c≠b->H3.t.get c=H2.t.get c:=λc hc=>by rw[<-V9,ZD (λh=>hc h.symm)]
 have kH3:Zp H2 H3 [b]:=by rw[<-V9];exact Zp.put λ_=>by simp
 obtain⟨p,j4,ep,lp,lep,ltp,onep,_⟩:=TH E (k:=k) (n:=n+3) mq (most:=49) (by omega) (by omega)
 have mp:=mq.put ltp
 obtain⟨H4,Oy⟩:=WQ (Zc.put H3 b (rH 112 [sv,nI .i64 j4]))
 rw[Oy] at ep mp
 have nxH4:H4.nx=H3.nx:=by rw[<-Oy];rfl
 have roH4:H4.ro=H3.ro:=by rw[<-Oy];rfl
 have Znn: ∀c,c≠b->H4.t.get c=H3.t.get c:=λc hc=>by rw[<-Oy,ZD (λh=>hc h.symm)]
 have kH4:Zp H3 H4 [b]:=by rw[<-Oy];exact Zp.put λ_=>by simp
 have g4:H4.t.get H.nx=some (rH 27 zV):=by rw[Znn _ (by omega),xp _ (by omega)];exact g2
 obtain⟨w,i6,hw1,It⟩:=au ((q:Int) - (32768:Nat)) p H
 have es:=av i6
 have sb:=λG=>aI (a:=q) (b:=32768) (by omega) (by omega) G
 have eo:=λ{p}=>ZkM E (k:=k) (n:=p) hk (z:=w) (H:=H4) (by omega)
 obtain⟨H9,RZ⟩:=WQ (Zc.put H4 H.nx (rH 27 [nI .i64 3,.bool false,.int .i64 w,.str [],.nils,.nils]))
 have hB:=Xg (n:=6) (l:=zV) (vs:=[nI .i64 3,.bool false,.int .i64 w,.str [],.nils,.nils]) (b:=H.nx) (H:=H4) (by rfl) (by rfl) (by omega) (by omega) 27 1 false true
 rw[RZ] at hB
 have g9:H9.t.get H.nx=some (rH 27 [nI .i64 3,.bool false,.int .i64 w,.str [],.nils,.nils]):=by rw[<-RZ,ZS]
 have ldx: ∀(kk:AV->CR),rV 6 true (some (rH 27 [nI .i64 3,.bool false,.int .i64 w,.str [],.nils,.nils])) 0 kk=kk (.agg [nI .i64 3,.bool false,.int .i64 w,.str [],.nils,.nils]):=λkk=>Tf (n:=6) (l:=[nI .i64 3,.bool false,.int .i64 w,.str [],.nils,.nils]) rfl kk
 have w9:Below H.nx H4 H9:=by rw[<-RZ];exact Below.put (Zj _)
 refine⟨.mk 3 false w [] [] [],[nI .i64 3,.bool false,.int .i64 w,.str [],.nils,.nils],j4,H9,?_,ES.leaf (n:=w) (by omega) (by omega) (by simp),Mg (by omega) (by omega) FI,by rw[La];simp only[ZA];omega,mp.below (lo:=H.nx) (by omega) w9,by omega,Below.keepS ((k2.trans kH3 (by simp)).trans kH4 (by simp)) w9 (by omega)⟩
 simp(disch:=first|omega|simp only[ZY,ZZ]<;>omega) only[VH,Yo,GL,lsv,ssv,zJ,el,d0,d1,TY,Yu,ZJ,Z2,er,c0,c1,c2,eq,ep,sb,es,eo,hB,g4,g9,ldx,iT,Zu,ZX,Zw,Zz,ZQ,Yk,Yf,WL,]
theorem iJ(E:Env Zo fs fuel)(hk:1<=k){sv:AV}{xs:List Nat}(m:Mk H b sv xs i)(YL:H.ro<=H.nx){lv:Nat}(hl: ¬xs.length<=i){r j:Nat}{H1 H2:Zc}(Yo:H.new (rH 27 zV)=H1)(XH:Zc.put H1 b (rH 112 [sv,nI .i64 j])=H2)(hr:r=3)(hj:i<j)(mr:Mk H2 b sv xs j)
  (er:ZG (LK Zo fs fuel k) fs fuel (n+4) 53 [.ptr b 0,nI .i64 9] H1=.ret (nI .i64 r) H2):Jl Zo fs fuel k n b (lv+1) sv xs H i:=by
 unfold Jl
 have d0:decide (lv+1<=0)=false:=Za (by omega)
 have d1:decide (xs.length<=i)=false:=Za (by omega)
 rw[ZF (ZB E.n52 (.inr rfl) _ _) E.f52]
 have VH:H1.nx=H.nx+1:=by rw[<-Yo];rfl
 have Nn:H1.ro=H.ro:=by rw[<-Yo];rfl
 have k1:Zp H H1 []:=by rw[<-Yo];exact Zp.new H _ _
 have m1:=m.keep k1
 have GL:=m1.get
 have rB:=m.low
 have zf:H1.t.get H.nx=some (rH 27 zV):=by rw[<-Yo,ZC rfl]
 have el:=m.sl.len
 rw[Zr] at el
 have lsv:=m1.sl.low (n:=H.nx+1) (by omega)
 have ssv:=m1.sl.same
 have zJ:Xt (H.nx+1) (.ptr b 0)=true:=Yq (by omega) 0
 have uA:H2.nx=H1.nx:=by rw[<-XH];rfl
 have tj:H2.ro=H1.ro:=by rw[<-XH];rfl
 have L9: ∀c,c≠b->H2.t.get c=H1.t.get c:=λc hc=>by rw[<-XH,ZD (λh=>hc h.symm)]
 have uk:Zp H1 H2 [b]:=by rw[<-XH];exact Zp.put λ_=>by simp
 have g2:H2.t.get H.nx=some (rH 27 zV):=by rw[L9 _ (by omega)];exact zf
 have k2:Zp H H2 [b]:=k1.trans' uk
 have c0:decide (r=0)=false:=Za (by omega)
 have c1:decide (r=1)=false:=Za (by omega)
 have c2:decide (r=2)=false:=Za (by omega)
 have c3:decide (r=3)=true:=Ze hr
 obtain⟨w,j3,H3,ew,hw,mw,hjw,kw⟩:=BW E (k:=k) (n:=n+2) mr (by omega)
 have g3:H3.t.get H.nx=some (rH 27 zV):=by rw[kw.get _ (by omega) (by simp;omega)];exact g2
 have jZ:=kw.ro
 have Fe:=kw.nx
 have eo:=λ{p}=>cK E (k:=k) (n:=p) hk (s:=w) (H:=H3) (by omega)
 obtain⟨H9,RZ⟩:=WQ (Zc.put H3 H.nx (rH 27 [nI .i64 4,.bool false,nI .i64 0,.str w,.nils,.nils]))
 have hB:=Xg (n:=6) (l:=zV) (vs:=[nI .i64 4,.bool false,nI .i64 0,.str w,.nils,.nils]) (b:=H.nx) (H:=H3) (by rfl) (by rfl) (by omega) (by omega) 27 1 false true
 rw[RZ] at hB
 have g9:H9.t.get H.nx=some (rH 27 [nI .i64 4,.bool false,nI .i64 0,.str w,.nils,.nils]):=by rw[<-RZ,ZS]
 have ldx: ∀(kk:AV->CR),rV 6 true (some (rH 27 [nI .i64 4,.bool false,nI .i64 0,.str w,.nils,.nils])) 0 kk=kk (.agg [nI .i64 4,.bool false,nI .i64 0,.str w,.nils,.nils]):=λkk=>Tf (n:=6) (l:=[nI .i64 4,.bool false,nI .i64 0,.str w,.nils,.nils]) rfl kk
 have w9:Below H.nx H3 H9:=by rw[<-RZ];exact Below.put (Zj _)
 refine⟨.mk 4 false 0 w [] [],[nI .i64 4,.bool false,nI .i64 0,.str w,.nils,.nils],j3,H9,?_,ES.leaf (n:=0) (by omega) (by omega) (by have:=hw.len;omega),Mg (by omega) (by omega) hw,by rw[La];have:=hw.len;omega,mw.below (lo:=H.nx) (by omega) w9,by omega,Below.keepS (k2.trans kw (by simp)) w9 (by omega)⟩
 simp(disch:=first|omega|simp only[ZY,ZZ]<;>omega) only[VH,Yo,GL,lsv,ssv,zJ,el,d0,d1,TY,Yu,ZJ,Z2,er,c0,c1,c2,c3,ew,eo,hB,g3,g9,ldx,iT,Zu,ZX,Zw,Zz,ZQ,Yk,Yf,WL,]
theorem iK(E:Env Zo fs fuel)(hk:1<=k){sv:AV}{xs:List Nat}(m:Mk H b sv xs i)(YL:H.ro<=H.nx){lv:Nat}(hl: ¬xs.length<=i){r j:Nat}{H1 H2:Zc}(Yo:H.new (rH 27 zV)=H1)(XH:Zc.put H1 b (rH 112 [sv,nI .i64 j])=H2)(hr:r=4)(hj:i<j)(mr:Mk H2 b sv xs j)
  (er:ZG (LK Zo fs fuel k) fs fuel (n+4) 53 [.ptr b 0,nI .i64 9] H1=.ret (nI .i64 r) H2):Jl Zo fs fuel k n b (lv+1) sv xs H i:=by
 unfold Jl
 have d0:decide (lv+1<=0)=false:=Za (by omega)
 have d1:decide (xs.length<=i)=false:=Za (by omega)
 rw[ZF (ZB E.n52 (.inr rfl) _ _) E.f52]
 have VH:H1.nx=H.nx+1:=by rw[<-Yo];rfl
 have Nn:H1.ro=H.ro:=by rw[<-Yo];rfl
 have k1:Zp H H1 []:=by rw[<-Yo];exact Zp.new H _ _
 have m1:=m.keep k1
 have GL:=m1.get
 have rB:=m.low
 have zf:H1.t.get H.nx=some (rH 27 zV):=by rw[<-Yo,ZC rfl]
 have el:=m.sl.len
 rw[Zr] at el
 have lsv:=m1.sl.low (n:=H.nx+1) (by omega)
 have ssv:=m1.sl.same
 have zJ:Xt (H.nx+1) (.ptr b 0)=true:=Yq (by omega) 0
 have uA:H2.nx=H1.nx:=by rw[<-XH];rfl
 have tj:H2.ro=H1.ro:=by rw[<-XH];rfl
 have L9: ∀c,c≠b->H2.t.get c=H1.t.get c:=λc hc=>by rw[<-XH,ZD (λh=>hc h.symm)]
 have uk:Zp H1 H2 [b]:=by rw[<-XH];exact Zp.put λ_=>by simp
 have g2:H2.t.get H.nx=some (rH 27 zV):=by rw[L9 _ (by omega)];exact zf
 have k2:Zp H H2 [b]:=k1.trans' uk
 have c0:decide (r=0)=false:=Za (by omega)
 have c1:decide (r=1)=false:=Za (by omega)
 have c2:decide (r=2)=false:=Za (by omega)
 have c3:decide (r=3)=false:=Za (by omega)
 have c4:decide (r=4)=true:=Ze hr
 obtain⟨w,j3,H3,ew,hw,mw,hjw,kw⟩:=BW E (k:=k) (n:=n+2) mr (by omega)
 have g3:H3.t.get H.nx=some (rH 27 zV):=by rw[kw.get _ (by omega) (by simp;omega)];exact g2
 have jZ:=kw.ro
 have Fe:=kw.nx
 have eo:=λ{p}=>cK E (k:=k) (n:=p) hk (s:=w) (H:=H3) (by omega)
 obtain⟨H9,RZ⟩:=WQ (Zc.put H3 H.nx (rH 27 [nI .i64 4,.bool false,nI .i64 0,.str w,.nils,.nils]))
 have hB:=Xg (n:=6) (l:=zV) (vs:=[nI .i64 4,.bool false,nI .i64 0,.str w,.nils,.nils]) (b:=H.nx) (H:=H3) (by rfl) (by rfl) (by omega) (by omega) 27 1 false true
 rw[RZ] at hB
 have g9:H9.t.get H.nx=some (rH 27 [nI .i64 4,.bool false,nI .i64 0,.str w,.nils,.nils]):=by rw[<-RZ,ZS]
 have ldx: ∀(kk:AV->CR),rV 6 true (some (rH 27 [nI .i64 4,.bool false,nI .i64 0,.str w,.nils,.nils])) 0 kk=kk (.agg [nI .i64 4,.bool false,nI .i64 0,.str w,.nils,.nils]):=λkk=>Tf (n:=6) (l:=[nI .i64 4,.bool false,nI .i64 0,.str w,.nils,.nils]) rfl kk
 have w9:Below H.nx H3 H9:=by rw[<-RZ];exact Below.put (Zj _)
 refine⟨.mk 4 false 0 w [] [],[nI .i64 4,.bool false,nI .i64 0,.str w,.nils,.nils],j3,H9,?_,ES.leaf (n:=0) (by omega) (by omega) (by have:=hw.len;omega),Mg (by omega) (by omega) hw,by rw[La];have:=hw.len;omega,mw.below (lo:=H.nx) (by omega) w9,by omega,Below.keepS (k2.trans kw (by simp)) w9 (by omega)⟩
 simp(disch:=first|omega|simp only[ZY,ZZ]<;>omega) only[VH,Yo,GL,lsv,ssv,zJ,el,d0,d1,TY,Yu,ZJ,Z2,er,c0,c1,c2,c3,c4,ew,eo,hB,g3,g9,ldx,iT,Zu,ZX,Zw,Zz,ZQ,Yk,Yf,WL,]
theorem B0.start{sv:AV}{xs:List Nat}(m:Mk H b sv xs i)(lo:Nat):B0 H b h i sv xs .nils lo [] i:=
 ⟨⟨0,[],.inl ⟨rfl,rfl⟩,λ_ _ _ _ e=>(by cases e),rfl,λq hq=>absurd hq (Xa _)⟩,λ_ h=>(by cases h),by simp,m,Zj _⟩
theorem sG.start{sv:AV}{xs:List Nat}(m:Mk H b sv xs i)(lo:Nat):sG H b h i sv xs .nils lo [] i:=
 ⟨⟨0,[],.inl ⟨rfl,rfl⟩,λ_ _ _ _ e=>(by cases e),rfl,λq hq=>absurd hq (Xa _)⟩,λ_ h=>(by cases h),by simp,m,Zj _⟩
theorem Mi{v:AV}{e sz lo:Nat}{ls:List (List AV)}(h:V0 H v e sz ls lo):v=.nils∨ ∃b o m c,v=.slice b o m c:=by
 rcases h with⟨_,rfl⟩|⟨_,b,r,rfl,_⟩
 ·exact .inl rfl
 ·exact .inr ⟨_,_,_,_,rfl⟩
theorem B0.keep{H H':Zc}{i0:Nat}{sv:AV}{xs:List Nat}{bv:AV}{lo:Nat}{l:List JV}{j j':Nat}(s:B0 H b h i0 sv xs bv lo l j)(hb:b<lo)(k:Zp H H' [b])(m:Mk H' b sv xs j')(hj:j<=j'):B0 H' b h i0 sv xs bv lo l j':=by
 obtain⟨bb,ls,rb,B4,e,hv⟩:=s.ok
 refine⟨⟨bb,ls,rb.below (λc h1 h2=>k.get c h2 (by simp;omega)) k.ro k.nx,B4,e,λq hq=>(hv q hq).move (λc hc hS=>k.get c hc (by simp;intro h2;exact hS (.inl (by omega)))) k.nx (λc hc hS=>hS)⟩,s.good,?_,m,Yt s.le hj⟩
 have:=s.sum
 omega
theorem iH(E:Env Zo fs fuel)(hk:1<=k){sv:AV}{xs:List Nat}(m:Mk H b sv xs i)(YL:H.ro<=H.nx){lv:Nat}(ih:VOk Zo fs fuel k (n+4) lv b sv xs)(hlv:lv<=100)(hl: ¬xs.length<=i){r j:Nat}{H1 H2:Zc}(Yo:H.new (rH 27 zV)=H1)(XH:Zc.put H1 b (rH 112 [sv,nI .i64 j])=H2)(hr:r=5)(hj:i<j)(mr:Mk H2 b sv xs j)
  (er:ZG (LK Zo fs fuel k) fs fuel (n+4) 53 [.ptr b 0,nI .i64 9] H1=.ret (nI .i64 r) H2):Jl Zo fs fuel k n b (lv+1) sv xs H i:=by
 unfold Jl
 have d0:decide (lv+1<=0)=false:=Za (by omega)
 have d1:decide (xs.length<=i)=false:=Za (by omega)
 rw[ZF (ZB E.n52 (.inr rfl) _ _) E.f52]
 have VH:H1.nx=H.nx+1:=by rw[<-Yo];rfl
 have Nn:H1.ro=H.ro:=by rw[<-Yo];rfl
 have k1:Zp H H1 []:=by rw[<-Yo];exact Zp.new H _ _
 have m1:=m.keep k1
 have GL:=m1.get
 have rB:=m.low
 have zf:H1.t.get H.nx=some (rH 27 zV):=by rw[<-Yo,ZC rfl]
 have el:=m.sl.len
 rw[Zr] at el
 have lsv:=m1.sl.low (n:=H.nx+1) (by omega)
 have ssv:=m1.sl.same
 have zJ:Xt (H.nx+1) (.ptr b 0)=true:=Yq (by omega) 0
 have uA:H2.nx=H1.nx:=by rw[<-XH];rfl
 have tj:H2.ro=H1.ro:=by rw[<-XH];rfl
 have L9: ∀c,c≠b->H2.t.get c=H1.t.get c:=λc hc=>by rw[<-XH,ZD (λh=>hc h.symm)]
 have uk:Zp H1 H2 [b]:=by rw[<-XH];exact Zp.put λ_=>by simp
 have g2:H2.t.get H.nx=some (rH 27 zV):=by rw[L9 _ (by omega)];exact zf
 have k2:Zp H H2 [b]:=k1.trans' uk
 have c0:decide (r=0)=false:=Za (by omega)
 have c1:decide (r=1)=false:=Za (by omega)
 have c2:decide (r=2)=false:=Za (by omega)
 have c3:decide (r=3)=false:=Za (by omega)
 have c4:decide (r=4)=false:=Za (by omega)
 have c5:decide (r=5)=true:=Ze hr
 obtain⟨q,j3,eq,lq,leq,ltq,oneq,zq⟩:=TH E (k:=k) (n:=n+3) mr (most:=4) (by omega) (by omega)
 have mq:=mr.put ltq
 obtain⟨H3,V9⟩:=WQ (Zc.put H2 b (rH 112 [sv,nI .i64 j3]))
 rw[V9] at eq mq
 have ZcD:H3.nx=H2.nx:=by rw[<-V9];rfl
 have Zdg:H3.ro=H2.ro:=by rw[<-V9];rfl
 have xp: ∀c,c≠b->H3.t.get c=H2.t.get c:=λc hc=>by rw[<-V9,ZD (λh=>hc h.symm)]
 have kH3:Zp H2 H3 [b]:=by rw[<-V9];exact Zp.put λ_=>by simp
 simp(disch:=first|omega|simp only[ZY,ZZ]<;>omega) only[VH,Yo,GL,lsv,ssv,zJ,el,d0,d1,TY,Yu,ZJ,Z2,er,c0,c1,c2,c3,c4,c5,eq,iT,Zu,ZX,Zz,ZQ,Yk,Yf,WL,]
 generalize hL:WR (GC _) fuel _ _ _=L
 obtain⟨o,SY,H4,rfl,_,rfl,bv,l,j4,t5,t0,t4,t1,hlen,s,k4,pz⟩:=Y9 (P:=λT=>VLI (.ptr H.nx 0) H3 b lv j3 q sv xs q T H3) (Q:=λo Yp H'=>o=.exit 1∧ ∃bv l j,Wp Yp=bv∧Z4 Yp=.ptr b 0∧XG Yp=.ptr H.nx 0∧Xz Yp=nI .i64 (lv+1)∧l.length=q∧B0 H' b (lv+1) j3 sv xs bv H3.nx l j∧Zp H3 H' [b]∧H'.ro<=H'.nx)
  (λT R0=>Xk (VLI (.ptr H.nx 0) H3 b lv j3 q sv xs) _ (λm tm H' h'=>mF E ih hlv (by omega) (by omega) _ _ _ _ _ m tm H' h') fuel q T H3 (by have:=E.big;omega) R0) hL
  ⟨⟨0,.nils,[],j3,rfl,Z1 _,rfl,rfl,rfl,B0.start mq _⟩,rfl,rfl,rfl,rfl,Zp.refl _ _,by omega⟩
 simp only[Pi,PO,Ah,GU] at t0 t1 t4 t5
 obtain⟨p,j5,ep,lp,lep,ltp,onep,_⟩:=TH E (k:=k) (n:=n+3) s.maker (most:=8) (by omega) (by omega)
 have mp:=s.maker.put ltp
 obtain⟨H5,Kb⟩:=WQ (Zc.put H4 b (rH 112 [sv,nI .i64 j5]))
 rw[Kb] at ep mp
 have ZkH:H5.nx=H4.nx:=by rw[<-Kb];rfl
 have Zk7:H5.ro=H4.ro:=by rw[<-Kb];rfl
 have ry: ∀c,c≠b->H5.t.get c=H4.t.get c:=λc hc=>by rw[<-Kb,ZD (λh=>hc h.symm)]
 have kH5:Zp H4 H5 [b]:=by rw[<-Kb];exact Zp.put λ_=>by simp
 have nH:=k4.nx
 have rr4:=k4.ro
 have g5:H5.t.get H.nx=some (rH 27 zV):=by rw[ry _ (by omega),k4.get _ (by omega) (by simp;omega),xp _ (by omega)];exact g2
 have s5:=s.keep (by omega) kH5 mp lep
 have k5:Zp H H5 [b]:=((k2.trans kH3 (by simp)).trans k4 (by simp)).trans kH5 (by simp)
 have bud:l.length=0∨i+2<=j3:=by
  rcases Rr q with h0|h0
  ·exact .inl (by omega)
  ·refine .inr ?_
   have: ¬xs.length<=j:=λhx=>by have:=(zq hx).1;omega
   have:=oneq (by omega)
   omega
 have tbs: ∀(l':List JV) (j':Nat) (P4:AV) (H':Zc),B0 H' b (lv+1) j3 sv xs P4 H3.nx l' j'->l'.length<=l.length+1->JV.tb (lv+1+1) (.mk 5 false 0 [] l' [])<=400*(j' - i)+120:=λl' j' P4 H' s' SS=>by
  have a:=s'.tbv
  have b:=s'.le
  rcases bud with h0|h0<;>omega
 have bT:H5.ro<=H5.nx:=by omega
 have gH5x:=g5
 by_cases h7:p=7
 ·have e7:decide (p=7)=true:=Ze h7
  obtain⟨v,cs,j6,H6,e6,hr6,ho6,ht6,m6,hj6,k6⟩:=ih s5.maker (by omega)
  have ro6:H6.ro<=H6.nx:=by rw[k6.ro];have:=k6.nx;omega
  obtain⟨P4,H7,ea,s7,w7⟩:=s5.push k6 (by omega) (by omega) ro6 hr6 ho6 ht6 m6 hj6 (by omega)
  have bs:=ZaZ (cs:=cs) hr6.vr.len 27 H6
  have k7:Zp H H7 [b]:=Below.keepS (k5.trans k6 (by simp)) w7 (by omega)
  rw[Uy] at ea bs
  have nx6:=k6.nx
  have nx7:=w7.nx
  have C9:H7.ro<=H7.nx:=by rw[w7.ro];omega
  have gH7x:H7.t.get H.nx=some (rH 27 zV):=by rw[w7.get _ (by omega) (by omega),k6.get _ (by omega) (by simp;omega)];exact g5
  rw[w7.ro] at C9
  have ro7:=w7.ro
  have Zo3:=k6.ro
  have C9:H7.ro<=H7.nx:=by omega
  obtain⟨bb,lsx,rbx, -, -, -⟩:=s7.ok
  obtain⟨H8,eo,k8⟩:=ofList E (k:=k) (n:=n+2) hk (v:=P4) (H:=H7) (Mi rbx) C9
  have g8:H8.t.get H.nx=some (rH 27 zV):=by rw[k8.get _ (by omega) (by simp)];exact gH7x
  have nx8:=k8.nx
  have ro8:=k8.ro
  obtain⟨H9,RZ⟩:=WQ (Zc.put H8 H.nx (rH 27 [nI .i64 5,.bool false,nI .i64 0,.str [],P4,.nils]))
  have hB:=Xg (n:=6) (l:=zV) (vs:=[nI .i64 5,.bool false,nI .i64 0,.str [],P4,.nils]) (b:=H.nx) (H:=H8) (by rfl) (by rfl) (by omega) (by omega) 27 1 false true
  rw[RZ] at hB
  have g9:H9.t.get H.nx=some (rH 27 [nI .i64 5,.bool false,nI .i64 0,.str [],P4,.nils]):=by rw[<-RZ,ZS]
  have ldx: ∀(kk:AV->CR),rV 6 true (some (rH 27 [nI .i64 5,.bool false,nI .i64 0,.str [],P4,.nils])) 0 kk=kk (.agg [nI .i64 5,.bool false,nI .i64 0,.str [],P4,.nils]):=λkk=>Tf (n:=6) (l:=[nI .i64 5,.bool false,nI .i64 0,.str [],P4,.nils]) rfl kk
  have w9:Below H.nx H8 H9:=by rw[<-RZ];exact Below.put (Zj _)
  refine⟨.mk 5 false 0 [] (l++[v]) [],_,j6,H9,?_,s7.vr (by rw[Zm,Zl,ZA];omega) (by omega) (λc hc Pj=>by rw[<-RZ,ZD (by omega),k8.get c (by omega) (by simp)]) (by rw[w9.ro,ro8]) (by have:=w9.nx;omega),s7.okv,tbs _ _ _ _ s7 (by simp),(s7.maker.keep k8).below (lo:=H.nx) (by omega) w9,by have:=s7.le;omega,Below.keepS (k7.trans k8 (by simp)) w9 (by omega)⟩
  simp(disch:=omega) only[t0,t1,t4,t5,ep,e7,e6,bs,ea,eo,hB,g8,g9,ldx,Wy,Z2,XF,Zu,ZX,Zw,Zz,Yf,RA]
 ·have e7:decide (p=7)=false:=Za h7
  obtain⟨bb,lsx,rbx, -, -, -⟩:=s5.ok
  obtain⟨H8,eo,k8⟩:=ofList E (k:=k) (n:=n+2) hk (v:=bv) (H:=H5) (Mi rbx) bT
  have g8:H8.t.get H.nx=some (rH 27 zV):=by rw[k8.get _ (by omega) (by simp)];exact gH5x
  have nx8:=k8.nx
  have ro8:=k8.ro
  obtain⟨H9,RZ⟩:=WQ (Zc.put H8 H.nx (rH 27 [nI .i64 5,.bool false,nI .i64 0,.str [],bv,.nils]))
  have hB:=Xg (n:=6) (l:=zV) (vs:=[nI .i64 5,.bool false,nI .i64 0,.str [],bv,.nils]) (b:=H.nx) (H:=H8) (by rfl) (by rfl) (by omega) (by omega) 27 1 false true
  rw[RZ] at hB
  have g9:H9.t.get H.nx=some (rH 27 [nI .i64 5,.bool false,nI .i64 0,.str [],bv,.nils]):=by rw[<-RZ,ZS]
  have ldx: ∀(kk:AV->CR),rV 6 true (some (rH 27 [nI .i64 5,.bool false,nI .i64 0,.str [],bv,.nils])) 0 kk=kk (.agg [nI .i64 5,.bool false,nI .i64 0,.str [],bv,.nils]):=λkk=>Tf (n:=6) (l:=[nI .i64 5,.bool false,nI .i64 0,.str [],bv,.nils]) rfl kk
  have w9:Below H.nx H8 H9:=by rw[<-RZ];exact Below.put (Zj _)
  refine⟨.mk 5 false 0 [] l [],_,j5,H9,?_,s5.vr (by omega) (by omega) (λc hc Pj=>by rw[<-RZ,ZD (by omega),k8.get c (by omega) (by simp)]) (by rw[w9.ro,ro8]) (by have:=w9.nx;omega),s5.okv,tbs _ _ _ _ s5 (by simp),(s5.maker.keep k8).below (lo:=H.nx) (by omega) w9,by have:=s5.le;omega,Below.keepS (k5.trans k8 (by simp)) w9 (by omega)⟩
  simp only[t0,t4,t5,ep,e7,eo,hB,g8,g9,ldx,Z2,Zu,ZX,Zw,Yf,RA]
theorem iI(E:Env Zo fs fuel)(hk:1<=k){sv:AV}{xs:List Nat}(m:Mk H b sv xs i)(YL:H.ro<=H.nx){lv:Nat}(ih:VOk Zo fs fuel k (n+4) lv b sv xs)(hlv:lv<=100)(hl: ¬xs.length<=i){r j:Nat}{H1 H2:Zc}(Yo:H.new (rH 27 zV)=H1)(XH:Zc.put H1 b (rH 112 [sv,nI .i64 j])=H2)(hr:r=6)(hj:i<j)(mr:Mk H2 b sv xs j)
  (er:ZG (LK Zo fs fuel k) fs fuel (n+4) 53 [.ptr b 0,nI .i64 9] H1=.ret (nI .i64 r) H2):Jl Zo fs fuel k n b (lv+1) sv xs H i:=by
 unfold Jl
 have d0:decide (lv+1<=0)=false:=Za (by omega)
 have d1:decide (xs.length<=i)=false:=Za (by omega)
 rw[ZF (ZB E.n52 (.inr rfl) _ _) E.f52]
 have VH:H1.nx=H.nx+1:=by rw[<-Yo];rfl
 have Nn:H1.ro=H.ro:=by rw[<-Yo];rfl
 have k1:Zp H H1 []:=by rw[<-Yo];exact Zp.new H _ _
 have m1:=m.keep k1
 have GL:=m1.get
 have rB:=m.low
 have zf:H1.t.get H.nx=some (rH 27 zV):=by rw[<-Yo,ZC rfl]
 have el:=m.sl.len
 rw[Zr] at el
 have lsv:=m1.sl.low (n:=H.nx+1) (by omega)
 have ssv:=m1.sl.same
 have zJ:Xt (H.nx+1) (.ptr b 0)=true:=Yq (by omega) 0
 have uA:H2.nx=H1.nx:=by rw[<-XH];rfl
 have tj:H2.ro=H1.ro:=by rw[<-XH];rfl
 have L9: ∀c,c≠b->H2.t.get c=H1.t.get c:=λc hc=>by rw[<-XH,ZD (λh=>hc h.symm)]
 have uk:Zp H1 H2 [b]:=by rw[<-XH];exact Zp.put λ_=>by simp
 have g2:H2.t.get H.nx=some (rH 27 zV):=by rw[L9 _ (by omega)];exact zf
 have k2:Zp H H2 [b]:=k1.trans' uk
 have c0:decide (r=0)=false:=Za (by omega)
 have c1:decide (r=1)=false:=Za (by omega)
 have c2:decide (r=2)=false:=Za (by omega)
 have c3:decide (r=3)=false:=Za (by omega)
 have c4:decide (r=4)=false:=Za (by omega)
 have c5:decide (r=5)=false:=Za (by omega)
 have c6:decide (r=6)=true:=Ze hr
 obtain⟨q,j3,eq,lq,leq,ltq,oneq,zq⟩:=TH E (k:=k) (n:=n+3) mr (most:=4) (by omega) (by omega)
 have mq:=mr.put ltq
 obtain⟨H3,V9⟩:=WQ (Zc.put H2 b (rH 112 [sv,nI .i64 j3]))
 rw[V9] at eq mq
 have ZcD:H3.nx=H2.nx:=by rw[<-V9];rfl
 have Zdg:H3.ro=H2.ro:=by rw[<-V9];rfl
 have xp: ∀c,c≠b->H3.t.get c=H2.t.get c:=λc hc=>by rw[<-V9,ZD (λh=>hc h.symm)]
 have kH3:Zp H2 H3 [b]:=by rw[<-V9];exact Zp.put λ_=>by simp
 simp(disch:=first|omega|simp only[ZY,ZZ]<;>omega) only[VH,Yo,GL,lsv,ssv,zJ,el,d0,d1,TY,Yu,ZJ,Z2,er,c0,c1,c2,c3,c4,c5,c6,eq,iT,Zu,ZX,Zz,ZQ,Yk,Yf,WL,]
 generalize hL:WR (GC _) fuel _ _ _=L
 obtain⟨o,SY,H4,rfl,_,rfl,bv,l,j4,t5,t0,t4,t1,hlen,s,k4,pz⟩:=Y9 (P:=λT=>VLI (.ptr H.nx 0) H3 b lv j3 q sv xs q T H3) (Q:=λo Yp H'=>o=.exit 1∧ ∃bv l j,Wp Yp=bv∧Z4 Yp=.ptr b 0∧XG Yp=.ptr H.nx 0∧Xz Yp=nI .i64 (lv+1)∧l.length=q∧B0 H' b (lv+1) j3 sv xs bv H3.nx l j∧Zp H3 H' [b]∧H'.ro<=H'.nx)
  (λT R0=>Xk (VLI (.ptr H.nx 0) H3 b lv j3 q sv xs) _ (λm tm H' h'=>mF E ih hlv (by omega) (by omega) _ _ _ _ _ m tm H' h') fuel q T H3 (by have:=E.big;omega) R0) hL
  ⟨⟨0,.nils,[],j3,rfl,Z1 _,rfl,rfl,rfl,B0.start mq _⟩,rfl,rfl,rfl,rfl,Zp.refl _ _,by omega⟩
 simp only[Pi,PO,Ah,GU] at t0 t1 t4 t5
 obtain⟨p,j5,ep,lp,lep,ltp,onep,_⟩:=TH E (k:=k) (n:=n+3) s.maker (most:=8) (by omega) (by omega)
 have mp:=s.maker.put ltp
 obtain⟨H5,Kb⟩:=WQ (Zc.put H4 b (rH 112 [sv,nI .i64 j5]))
 rw[Kb] at ep mp
 have ZkH:H5.nx=H4.nx:=by rw[<-Kb];rfl
 have Zk7:H5.ro=H4.ro:=by rw[<-Kb];rfl
 have ry: ∀c,c≠b->H5.t.get c=H4.t.get c:=λc hc=>by rw[<-Kb,ZD (λh=>hc h.symm)]
 have kH5:Zp H4 H5 [b]:=by rw[<-Kb];exact Zp.put λ_=>by simp
 have nH:=k4.nx
 have rr4:=k4.ro
 have g5:H5.t.get H.nx=some (rH 27 zV):=by rw[ry _ (by omega),k4.get _ (by omega) (by simp;omega),xp _ (by omega)];exact g2
 have s5:=s.keep (by omega) kH5 mp lep
 have k5:Zp H H5 [b]:=((k2.trans kH3 (by simp)).trans k4 (by simp)).trans kH5 (by simp)
 have bud:l.length=0∨i+2<=j3:=by
  rcases Rr q with h0|h0
  ·exact .inl (by omega)
  ·refine .inr ?_
   have: ¬xs.length<=j:=λhx=>by have:=(zq hx).1;omega
   have:=oneq (by omega)
   omega
 have tbs: ∀(l':List JV) (j':Nat) (P4:AV) (H':Zc),B0 H' b (lv+1) j3 sv xs P4 H3.nx l' j'->l'.length<=l.length+1->JV.tb (lv+1+1) (.mk 5 false 0 [] l' [])<=400*(j' - i)+120:=λl' j' P4 H' s' SS=>by
  have a:=s'.tbv
  have b:=s'.le
  rcases bud with h0|h0<;>omega
 have bT:H5.ro<=H5.nx:=by omega
 have gH5x:=g5
 by_cases h7:p=7
 ·have e7:decide (p=7)=true:=Ze h7
  obtain⟨v,cs,j6,H6,e6,hr6,ho6,ht6,m6,hj6,k6⟩:=ih s5.maker (by omega)
  have ro6:H6.ro<=H6.nx:=by rw[k6.ro];have:=k6.nx;omega
  obtain⟨P4,H7,ea,s7,w7⟩:=s5.push k6 (by omega) (by omega) ro6 hr6 ho6 ht6 m6 hj6 (by omega)
  have bs:=ZaZ (cs:=cs) hr6.vr.len 27 H6
  have k7:Zp H H7 [b]:=Below.keepS (k5.trans k6 (by simp)) w7 (by omega)
  rw[Uy] at ea bs
  have nx6:=k6.nx
  have nx7:=w7.nx
  have C9:H7.ro<=H7.nx:=by rw[w7.ro];omega
  have gH7x:H7.t.get H.nx=some (rH 27 zV):=by rw[w7.get _ (by omega) (by omega),k6.get _ (by omega) (by simp;omega)];exact g5
  rw[w7.ro] at C9
  have ro7:=w7.ro
  have Zo3:=k6.ro
  have C9:H7.ro<=H7.nx:=by omega
  obtain⟨bb,lsx,rbx, -, -, -⟩:=s7.ok
  obtain⟨H8,eo,k8⟩:=ofList E (k:=k) (n:=n+2) hk (v:=P4) (H:=H7) (Mi rbx) C9
  have g8:H8.t.get H.nx=some (rH 27 zV):=by rw[k8.get _ (by omega) (by simp)];exact gH7x
  have nx8:=k8.nx
  have ro8:=k8.ro
  obtain⟨H9,RZ⟩:=WQ (Zc.put H8 H.nx (rH 27 [nI .i64 5,.bool false,nI .i64 0,.str [],P4,.nils]))
  have hB:=Xg (n:=6) (l:=zV) (vs:=[nI .i64 5,.bool false,nI .i64 0,.str [],P4,.nils]) (b:=H.nx) (H:=H8) (by rfl) (by rfl) (by omega) (by omega) 27 1 false true
  rw[RZ] at hB
  have g9:H9.t.get H.nx=some (rH 27 [nI .i64 5,.bool false,nI .i64 0,.str [],P4,.nils]):=by rw[<-RZ,ZS]
  have ldx: ∀(kk:AV->CR),rV 6 true (some (rH 27 [nI .i64 5,.bool false,nI .i64 0,.str [],P4,.nils])) 0 kk=kk (.agg [nI .i64 5,.bool false,nI .i64 0,.str [],P4,.nils]):=λkk=>Tf (n:=6) (l:=[nI .i64 5,.bool false,nI .i64 0,.str [],P4,.nils]) rfl kk
  have w9:Below H.nx H8 H9:=by rw[<-RZ];exact Below.put (Zj _)
  refine⟨.mk 5 false 0 [] (l++[v]) [],_,j6,H9,?_,s7.vr (by rw[Zm,Zl,ZA];omega) (by omega) (λc hc Pj=>by rw[<-RZ,ZD (by omega),k8.get c (by omega) (by simp)]) (by rw[w9.ro,ro8]) (by have:=w9.nx;omega),s7.okv,tbs _ _ _ _ s7 (by simp),(s7.maker.keep k8).below (lo:=H.nx) (by omega) w9,by have:=s7.le;omega,Below.keepS (k7.trans k8 (by simp)) w9 (by omega)⟩
  simp(disch:=omega) only[t0,t1,t4,t5,ep,e7,e6,bs,ea,eo,hB,g8,g9,ldx,Wy,Z2,XF,Zu,ZX,Zw,Zz,Yf,RA]
 ·have e7:decide (p=7)=false:=Za h7
  obtain⟨bb,lsx,rbx, -, -, -⟩:=s5.ok
  obtain⟨H8,eo,k8⟩:=ofList E (k:=k) (n:=n+2) hk (v:=bv) (H:=H5) (Mi rbx) bT
  have g8:H8.t.get H.nx=some (rH 27 zV):=by rw[k8.get _ (by omega) (by simp)];exact gH5x
  have nx8:=k8.nx
  have ro8:=k8.ro
  obtain⟨H9,RZ⟩:=WQ (Zc.put H8 H.nx (rH 27 [nI .i64 5,.bool false,nI .i64 0,.str [],bv,.nils]))
  have hB:=Xg (n:=6) (l:=zV) (vs:=[nI .i64 5,.bool false,nI .i64 0,.str [],bv,.nils]) (b:=H.nx) (H:=H8) (by rfl) (by rfl) (by omega) (by omega) 27 1 false true
  rw[RZ] at hB
  have g9:H9.t.get H.nx=some (rH 27 [nI .i64 5,.bool false,nI .i64 0,.str [],bv,.nils]):=by rw[<-RZ,ZS]
  have ldx: ∀(kk:AV->CR),rV 6 true (some (rH 27 [nI .i64 5,.bool false,nI .i64 0,.str [],bv,.nils])) 0 kk=kk (.agg [nI .i64 5,.bool false,nI .i64 0,.str [],bv,.nils]):=λkk=>Tf (n:=6) (l:=[nI .i64 5,.bool false,nI .i64 0,.str [],bv,.nils]) rfl kk
  have w9:Below H.nx H8 H9:=by rw[<-RZ];exact Below.put (Zj _)
  refine⟨.mk 5 false 0 [] l [],_,j5,H9,?_,s5.vr (by omega) (by omega) (λc hc Pj=>by rw[<-RZ,ZD (by omega),k8.get c (by omega) (by simp)]) (by rw[w9.ro,ro8]) (by have:=w9.nx;omega),s5.okv,tbs _ _ _ _ s5 (by simp),(s5.maker.keep k8).below (lo:=H.nx) (by omega) w9,by have:=s5.le;omega,Below.keepS (k5.trans k8 (by simp)) w9 (by omega)⟩
  simp only[t0,t4,t5,ep,e7,eo,hB,g8,g9,ldx,Z2,Zu,ZX,Zw,Yf,RA]
theorem yH(E:Env Zo fs fuel)(hk:1<=k){sv:AV}{xs:List Nat}(m:Mk H b sv xs i)(YL:H.ro<=H.nx){lv:Nat}(ih:VOk Zo fs fuel k (n+4) lv b sv xs)(hlv:lv<=100)(hl: ¬xs.length<=i){r j:Nat}{H1 H2:Zc}(Yo:H.new (rH 27 zV)=H1)(XH:Zc.put H1 b (rH 112 [sv,nI .i64 j])=H2)(hr:r=7∨r=8)(hj:i<j)(mr:Mk H2 b sv xs j)
  (er:ZG (LK Zo fs fuel k) fs fuel (n+4) 53 [.ptr b 0,nI .i64 9] H1=.ret (nI .i64 r) H2):Jl Zo fs fuel k n b (lv+1) sv xs H i:=by
 unfold Jl
 have d0:decide (lv+1<=0)=false:=Za (by omega)
 have d1:decide (xs.length<=i)=false:=Za (by omega)
 rw[ZF (ZB E.n52 (.inr rfl) _ _) E.f52]
 have VH:H1.nx=H.nx+1:=by rw[<-Yo];rfl
 have Nn:H1.ro=H.ro:=by rw[<-Yo];rfl
 have k1:Zp H H1 []:=by rw[<-Yo];exact Zp.new H _ _
 have m1:=m.keep k1
 have GL:=m1.get
 have rB:=m.low
 have zf:H1.t.get H.nx=some (rH 27 zV):=by rw[<-Yo,ZC rfl]
 have el:=m.sl.len
 rw[Zr] at el
 have lsv:=m1.sl.low (n:=H.nx+1) (by omega)
 have ssv:=m1.sl.same
 have zJ:Xt (H.nx+1) (.ptr b 0)=true:=Yq (by omega) 0
 have uA:H2.nx=H1.nx:=by rw[<-XH];rfl
 have tj:H2.ro=H1.ro:=by rw[<-XH];rfl
 have L9: ∀c,c≠b->H2.t.get c=H1.t.get c:=λc hc=>by rw[<-XH,ZD (λh=>hc h.symm)]
 have uk:Zp H1 H2 [b]:=by rw[<-XH];exact Zp.put λ_=>by simp
 have g2:H2.t.get H.nx=some (rH 27 zV):=by rw[L9 _ (by omega)];exact zf
 have k2:Zp H H2 [b]:=k1.trans' uk
 have c0:decide (r=0)=false:=Za (by omega)
 have c1:decide (r=1)=false:=Za (by omega)
 have c2:decide (r=2)=false:=Za (by omega)
 have c3:decide (r=3)=false:=Za (by omega)
 have c4:decide (r=4)=false:=Za (by omega)
 have c5:decide (r=5)=false:=Za (by omega)
 have c6:decide (r=6)=false:=Za (by omega)
 obtain⟨q,j3,eq,lq,leq,ltq,oneq,zq⟩:=TH E (k:=k) (n:=n+3) mr (most:=4) (by omega) (by omega)
 have mq:=mr.put ltq
 obtain⟨H3,V9⟩:=WQ (Zc.put H2 b (rH 112 [sv,nI .i64 j3]))
 rw[V9] at eq mq
 have ZcD:H3.nx=H2.nx:=by rw[<-V9];rfl
 have Zdg:H3.ro=H2.ro:=by rw[<-V9];rfl
 have xp: ∀c,c≠b->H3.t.get c=H2.t.get c:=λc hc=>by rw[<-V9,ZD (λh=>hc h.symm)]
 have kH3:Zp H2 H3 [b]:=by rw[<-V9];exact Zp.put λ_=>by simp
 simp(disch:=first|omega|simp only[ZY,ZZ]<;>omega) only[VH,Yo,GL,lsv,ssv,zJ,el,d0,d1,TY,Yu,ZJ,Z2,er,c0,c1,c2,c3,c4,c5,c6,eq,iT,Zu,ZX,Zz,ZQ,Yk,Yf,WL,RA]
 generalize hL:WR (DU _) fuel _ _ _=L
 obtain⟨o,SY,H4,rfl,_,rfl,bv,l,j4,t6,t0,t4,hlen,s,k4,pz⟩:=Y9 (P:=λT=>VTI (.ptr H.nx 0) H3 b lv j3 q sv xs q T H3) (Q:=λo Yp H'=>o=.exit 3∧ ∃bv l j,Wi Yp=bv∧Z4 Yp=.ptr b 0∧XG Yp=.ptr H.nx 0∧l.length=q∧sG H' b (lv+1) j3 sv xs bv H3.nx l j∧Zp H3 H' [b]∧H'.ro<=H'.nx)
  (λT R0=>Xk (VTI (.ptr H.nx 0) H3 b lv j3 q sv xs) _ (λm tm H' h'=>Zdz E (n:=n+2) ih hlv (by omega) (by omega) _ _ _ _ _ m tm H' h') fuel q T H3 (by have:=E.big;omega) R0) hL
  ⟨⟨0,.nils,[],j3,rfl,Z1 _,rfl,rfl,rfl,sG.start mq _⟩,rfl,rfl,rfl,rfl,Zp.refl _ _,by omega⟩
 simp only[Pi,Ah,GV] at t0 t4 t6
 have nH:=k4.nx
 have rr4:=k4.ro
 have g4:H4.t.get H.nx=some (rH 27 zV):=by rw[k4.get _ (by omega) (by simp;omega),xp _ (by omega)];exact g2
 have k04:Zp H H4 [b]:=(k2.trans kH3 (by simp)).trans k4 (by simp)
 have bud:l.length=0∨i+2<=j3:=by
  rcases Rr q with h0|h0
  ·exact .inl (by omega)
  ·refine .inr ?_
   have:=oneq (by omega)
   omega
 obtain⟨bb,lsx,rbx, -, -, -⟩:=s.ok
 obtain⟨H8,eo,k8⟩:=ZcP E (k:=k) (n:=n+2) hk (v:=bv) (H:=H4) (Mi rbx) pz
 have nx8:=k8.nx
 have ro8:=k8.ro
 obtain⟨HA,oS⟩:=WQ (Zc.new H8 (rH 27 [nI .i64 6,.bool false,nI .i64 0,.str [],.nils,bv]))
 have hA:=Xg (n:=6) (l:=zV) (vs:=[nI .i64 6,.bool false,nI .i64 0,.str [],.nils,bv]) (b:=H8.nx) (H:=H8.new (rH 27 zV)) (by rfl) (by rfl) (by omega) (show H8.ro<=H8.nx by omega) 27 1 false true
 rw[Vb rfl,oS] at hA
 have nJ:HA.nx=H8.nx+1:=by rw[<-oS];rfl
 have roA:HA.ro=H8.ro:=by rw[<-oS];rfl
 have kA:Zp H8 HA []:=by rw[<-oS];exact Zp.new H8 _ _
 have mA:=(s.maker.keep k8).keep kA
 obtain⟨p,j5,ep,lp,lep,ltp,onep,_⟩:=TH E (k:=k) (n:=n+3) mA (most:=30) (by omega) (by omega)
 have mp:=mA.put ltp
 obtain⟨H5,Kb⟩:=WQ (Zc.put HA b (rH 112 [sv,nI .i64 j5]))
 rw[Kb] at ep mp
 have ZkH:H5.nx=HA.nx:=by rw[<-Kb];rfl
 have Zk7:H5.ro=HA.ro:=by rw[<-Kb];rfl
 have ry: ∀c,c≠b->H5.t.get c=HA.t.get c:=λc hc=>by rw[<-Kb,ZD (λh=>hc h.symm)]
 have kH5:Zp HA H5 [b]:=by rw[<-Kb];exact Zp.put λ_=>by simp
 have g7:H5.t.get H8.nx=some (rH 27 [nI .i64 6,.bool false,nI .i64 0,.str [],.nils,bv]):=by rw[ry _ (by omega),<-oS,ZC rfl]
 have gA:HA.t.get H8.nx=some (rH 27 [nI .i64 6,.bool false,nI .i64 0,.str [],.nils,bv]):=by rw[<-oS,ZC rfl]
 have g5:H5.t.get H.nx=some (rH 27 zV):=by rw[ry _ (by omega),kA.get _ (by omega) (by simp),k8.get _ (by omega) (by simp)];exact g4
 have k5:Zp H H5 [b]:=((k04.trans k8 (by simp)).trans kA (by simp)).trans kH5 (by simp)
 have sl4:=s.le
 have tbs: ∀z,JV.tb (lv+1+1) (.mk 6 false z [] [] l)<=400*(j5 - i)+120:=λz=>by
  have a:JV.tb (lv+1+1) (.mk 6 false z [] [] l)<=50+400*(j4 - j3)+170*l.length:=by
   have:=s.sum
   show 50+6*0+0+(l.map λe=>6*e.1.length+4+JV.tb (lv+1) e.2).sum<=_
   omega
  rcases bud with h0|h0<;>omega
 have hg5: ∀c,c<H4.nx->H3.nx<=c->H5.t.get c=H4.t.get c:=λc hc Pj=>by rw[ry _ (by omega),kA.get _ (by omega) (by simp),k8.get _ (by omega) (by simp)]
 by_cases h7:p=29
 ·have e7:decide (p=29)=true:=Ze h7
  have st:=XK (fz:=0) (b:=H8.nx) (H:=H5) (l:=[nI .i64 6,.bool false,nI .i64 0,.str [],.nils,bv]) (o:=2) (v:=nI .i64 1) rfl (by simp) (by omega) (by omega) 27 1 false true
  have st:FG 1 (some (rH 27 [nI .i64 6,.bool false,nI .i64 0,.str [],.nils,bv])) H8.nx 2 (nI .i64 1) H5=.val YS (H5.put H8.nx (rH 27 [nI .i64 6,.bool false,nI .i64 1,.str [],.nils,bv])):=st
  obtain⟨H6,I8⟩:=WQ (Zc.put H5 H8.nx (rH 27 [nI .i64 6,.bool false,nI .i64 1,.str [],.nils,bv]))
  rw[I8] at st
  have g6:H6.t.get H8.nx=some (rH 27 [nI .i64 6,.bool false,nI .i64 1,.str [],.nils,bv]):=by rw[<-I8,ZS]
  have gz6:H6.t.get H.nx=some (rH 27 zV):=by rw[<-I8,ZD (by omega)];exact g5
  have ro6:H6.ro=H5.ro:=by rw[<-I8];rfl
  have nx6:H6.nx=H5.nx:=by rw[<-I8];rfl
  have ldA: ∀(G':Zc),ldN 6 (some (rH 27 [nI .i64 6,.bool false,nI .i64 1,.str [],.nils,bv])) 0 G'=.val (.agg [nI .i64 6,.bool false,nI .i64 1,.str [],.nils,bv]) G':=λG'=>by rw[WV (Zj _)];rfl
  have k6:Zp H H6 [b]:=by rw[<-I8];exact k5.then_put (λh=>absurd h (by omega))
  have m6:=mp.below (lo:=H8.nx) (by omega) (by rw[<-I8];exact Below.put (Zj _):Below H8.nx H5 H6)
  obtain⟨H9,RZ⟩:=WQ (Zc.put H6 H.nx (rH 27 [nI .i64 6,.bool false,nI .i64 1,.str [],.nils,bv]))
  have hB:=Xg (n:=6) (l:=zV) (vs:=[nI .i64 6,.bool false,nI .i64 1,.str [],.nils,bv]) (b:=H.nx) (H:=H6) (by rfl) (by rfl) (by omega) (by omega) 27 1 false true
  rw[RZ] at hB
  have g9:H9.t.get H.nx=some (rH 27 [nI .i64 6,.bool false,nI .i64 1,.str [],.nils,bv]):=by rw[<-RZ,ZS]
  have ldx: ∀(kk:AV->CR),rV 6 true (some (rH 27 [nI .i64 6,.bool false,nI .i64 1,.str [],.nils,bv])) 0 kk=kk (.agg [nI .i64 6,.bool false,nI .i64 1,.str [],.nils,bv]):=λkk=>Tf (n:=6) (l:=[nI .i64 6,.bool false,nI .i64 1,.str [],.nils,bv]) rfl kk
  have w9:Below H.nx H6 H9:=by rw[<-RZ];exact Below.put (Zj _)
  refine⟨.mk 6 false (1:Nat) [] [] l,[nI .i64 6,.bool false,nI .i64 1,.str [],.nils,bv],j5,H9,?_,s.vr (z:=1) (by omega) (by omega) (by omega) (λc hc Pj=>by rw[<-RZ,ZD (by omega),<-I8,ZD (by omega)];exact hg5 c hc Pj) (by rw[w9.ro];omega) (by have:=w9.nx;omega),s.okv (by omega) (by omega),tbs _,m6.below (lo:=H.nx) (by omega) w9,by omega,Below.keepS k6 w9 (by omega)⟩
  simp only[t0,t4,t6,eo,hA,ep,e7,st,g7,g6,gz6,ldA,hB,g9,ldx,Z2,Zt,Zu,ZX,Zw,Yf,NK]
 ·have e7:decide (p=29)=false:=Za h7
  have ldA: ∀(G':Zc),ldN 6 (some (rH 27 [nI .i64 6,.bool false,nI .i64 0,.str [],.nils,bv])) 0 G'=.val (.agg [nI .i64 6,.bool false,nI .i64 0,.str [],.nils,bv]) G':=λG'=>by rw[WV (Zj _)];rfl
  obtain⟨H9,RZ⟩:=WQ (Zc.put H5 H.nx (rH 27 [nI .i64 6,.bool false,nI .i64 0,.str [],.nils,bv]))
  have hB:=Xg (n:=6) (l:=zV) (vs:=[nI .i64 6,.bool false,nI .i64 0,.str [],.nils,bv]) (b:=H.nx) (H:=H5) (by rfl) (by rfl) (by omega) (by omega) 27 1 false true
  rw[RZ] at hB
  have g9:H9.t.get H.nx=some (rH 27 [nI .i64 6,.bool false,nI .i64 0,.str [],.nils,bv]):=by rw[<-RZ,ZS]
  have ldx: ∀(kk:AV->CR),rV 6 true (some (rH 27 [nI .i64 6,.bool false,nI .i64 0,.str [],.nils,bv])) 0 kk=kk (.agg [nI .i64 6,.bool false,nI .i64 0,.str [],.nils,bv]):=λkk=>Tf (n:=6) (l:=[nI .i64 6,.bool false,nI .i64 0,.str [],.nils,bv]) rfl kk
  have w9:Below H.nx H5 H9:=by rw[<-RZ];exact Below.put (Zj _)
  refine⟨.mk 6 false (0:Nat) [] [] l,[nI .i64 6,.bool false,nI .i64 0,.str [],.nils,bv],j5,H9,?_,s.vr (z:=0) (by omega) (by omega) (by omega) (λc hc Pj=>by rw[<-RZ,ZD (by omega)];exact hg5 c hc Pj) (by rw[w9.ro];omega) (by have:=w9.nx;omega),s.okv (by omega) (by omega),tbs _,mp.below (lo:=H.nx) (by omega) w9,by omega,Below.keepS k5 w9 (by omega)⟩
  simp only[t0,t4,t6,eo,hA,ep,e7,g7,g5,ldA,hB,g9,ldx,Z2,Zu,ZX,Zw,Yf,NK]
theorem iL(E:Env Zo fs fuel)(hk:1<=k){sv:AV}{xs:List Nat}: ∀(lv:Nat),lv<=100-> ∀(n:Nat),lv+5<=n->VOk Zo fs fuel k n lv b sv xs:=by
 intro lv
 induction lv with
 |zero=>
  intro _ n hn H i m YL
  obtain⟨q,rfl⟩: ∃q,n=q+5:=⟨n - 5,by omega⟩
  exact sy E hk m YL (.inl rfl)
 |succ lv ih=>
  intro hl n hn H i m YL
  obtain⟨q,rfl⟩: ∃q,n=q+5:=⟨n - 5,by omega⟩
  have ih:VOk Zo fs fuel k (q+4) lv b sv xs:=ih (by omega) (q+4) (by omega)
  by_cases h:xs.length<=i
  ·exact sy E hk m YL (.inr h)
  ·have m1:=m.keep (Zp.new H (rH 27 zV) [])
   obtain⟨r,j,er,lr,le,lt,one,_⟩:=TH E (k:=k) (n:=q+3) m1 (most:=9) (by omega) (by omega)
   have mr:=m1.put lt
   have hj:i<j:=by have:=one (by omega);omega
   have hr:r=0∨r=1∨r=2∨r=3∨r=4∨r=5∨r=6∨r=7∨r=8:=by omega
   rcases hr with hr|hr|hr|hr|hr|hr|hr|hr|hr
   ·exact aW E hk m YL h rfl rfl hr hj mr er
   ·exact aV E hk m YL h rfl rfl hr hj mr er
   ·exact Zdy E hk m YL h rfl rfl hr hj mr er
   ·exact iJ E hk m YL h rfl rfl hr hj mr er
   ·exact iK E hk m YL h rfl rfl hr hj mr er
   ·exact iH E hk m YL ih (by omega) h rfl rfl hr hj mr er
   ·exact iI E hk m YL ih (by omega) h rfl rfl hr hj mr er
   ·exact yH E hk m YL ih (by omega) h rfl rfl (.inl hr) hj mr er
   ·exact yH E hk m YL ih (by omega) h rfl rfl (.inr hr) hj mr er
end
section
open Go Go.Deep
variable {P:Program} {H:Type} {enc:TypeId×Value->H}
def JP(G:Zc)(a:AV)(l:List Nat):Prop:=(∀x∈l,x<65536)∧((a=.nils∧l=[])∨ ∃b o c r,a=.slice b o l.length (some c)∧G.t.get b=some (.row r)∧l.length<=c∧b<G.nx∧(l≠[]->o+l.length<=r.size∧ ∀i,i<l.length->r.get (o+i)=nI .u16 (l.getD i 0)))
theorem JP.len{G:Zc}{a:AV}{l:List Nat}(h:JP G a l)(H:Zc):QK a H=.val (nI .i64 l.length) H:=by
 rcases h.2 with⟨rfl,rfl⟩|⟨b,o,c,r,rfl,_⟩
 ·rfl
 ·exact Vl ..
theorem JP.low{G:Zc}{a:AV}{l:List Nat}(h:JP G a l){n:Nat}(hn:G.nx<=n):Xt n a=true:=by
 rcases h.2 with⟨rfl,rfl⟩|⟨b,o,c,r,rfl,_,_,hb,_⟩
 ·rfl
 ·exact We (by omega) ..
theorem JP.same{G:Zc}{a:AV}{l:List Nat}(h:JP G a l)(n:Nat)(t:T Obj):VP (.val a ⟨n,t,n⟩) a n=true:=by
 rcases h.2 with⟨rfl,rfl⟩|⟨b,o,c,r,rfl,_⟩
 ·exact Qn ..
 ·exact UU ..
theorem JP.keep{G G':Zc}{a:AV}{l:List Nat}(h:JP G a l)(k:Zp G G' []):JP G' a l:=by
 refine⟨h.1,?_⟩
 rcases h.2 with h1|⟨b,o,c,r,rfl,h2,h3,h4,h5⟩
 ·exact .inl h1
 ·exact .inr ⟨b,o,c,r,rfl,by rw[k.get b h4 (by simp)];exact h2,h3,ZH h4 k.nx,h5⟩
theorem Zis(l:List Nat)(i:Nat)(h:i<l.length):(l.map λx=>[nI .u16 x]).flatten.getD i .unk=nI .u16 (l.getD i 0):=by
 have:(l.map λx=>[nI .u16 x]).flatten=l.map λx=>nI .u16 x:=by
  clear h
  induction l with
  |nil=>rfl
  |cons x l ih=>rw[Y8,Vy,ih];rfl
 rw[this,Zf,YR,Zf,Zi h];rfl
theorem lB{l:List Nat}{k i:Nat}(h:i<k):(l.take k).getD i 0=l.getD i 0:=by
 rw[Zf,Zf,XJ h]
theorem JP.take{G:Zc}{a:AV}{l:List Nat}(h:JP G a l){k:Nat}(hk:k<=l.length):
  ∃v,(∀G':Zc,(∀c,c<G.nx->G'.t.get c=G.t.get c)->Fw 1 a none (some (nI .i64 k)) G'=.val v G')∧Sl G 1 v ((l.take k).map λx=>[nI .u16 x])∧ ∀c o n q,v=.slice c o n q->c<G.nx:=by
 rcases h.2 with⟨rfl,rfl⟩|⟨b,o,c,r,rfl,h2,h3,h4,h5⟩
 ·have:k=0:=by simpa using hk
  subst this
  exact⟨.nils,λ_ _=>rfl,Sl.nil ..,λ_ _ _ _ e=>by cases e⟩
 ·have hl:((l.take k).map λx=>[nI .u16 x]).length=k:=by rw[Zr,Z9];omega
  by_cases e0:c=0
  ·subst e0
   obtain rfl:k=0:=by omega
   refine⟨.slice b o 0 (some 0),λG' e=>?_,⟨λx hx=>by simp at hx,.inr ⟨b,o,some 0,rfl,h4,λVY=>absurd rfl VY⟩⟩,λ_ _ _ _ e=>by cases e;exact h4⟩
   show Y3 G' b _=_
   unfold Y3
   rw[e b h4,h2];rfl
  ·refine⟨.slice b (o+0*1) (k - 0) (some (c - 0)),λG' e=>?_,⟨λx hx=>?_,.inr ⟨b,o,some c,?_,h4,λVY=>?_⟩⟩,λ_ _ _ _ e=>by cases e;exact h4⟩
   ·show Y3 G' b _=_
    unfold Y3
    rw[e b h4,h2]
    show ZL (Nat.ble k c) (ZL (Nat.ble 0 k) (ZL (Nat.ble 0 c) (cond (Nat.beq 0 c) _ (.val (.slice b (o+0*1) (k - 0) (some (c - 0))) G'))))=_
    rw[Zg (by omega),Zg (Z1 k),Zg (Z1 c),Ym,Za (λh=>e0 h.symm)]
    rfl
   ·obtain⟨y,_,rfl⟩:=YV.1 hx;rfl
   ·rw[hl];rfl
   ·have hk0:k≠0:=by rintro rfl;exact VY rfl
    have Zga:l≠[]:=by rintro rfl;simp at hk;exact hk0 hk
    obtain⟨h6,h7⟩:=h5 Zga
    refine⟨r,h2,by rw[hl];omega,λi hi=>?_⟩
    rw[hl,Xr] at hi
    rw[h7 i (by omega),Zis _ _ (by rw[Z9];omega),lB hi]
structure ZmG(W:World)(id:Nat)(v:Value)(a:AV)(ws:List (Nat×FP))(l:List Nat):Prop where
 ids: ∀b x,(b,x)∈ws->b=id
 few:ws.length<=1
 win: ∀σ b x,(b,x)∈ws->hZ W σ x
 rel: ∀σ:Mp,(∀b x,(b,x)∈ws->σ b=some x.loc)->Ys σ a v
 arg: ∀G:Zc,(∀b x,(b,x)∈ws->G.t.get b=some (.row x.row)∧b<G.nx)->JP G a l
theorem cj{W:World}{r:Reach}{base:Nat}{t e:TypeId}{v:Value}{d:DataW H}{p:List MemPlace}(id:Nat)(ht:P.underlying t=some (.slice e))(he:P.underlying e=some (.int .u16))(hc:P.cellsOf e=1)
  (OL:Value.okWide P W r base t v)(h:DataW.Trod enc P W 0 (λ_=>true) true t v d p): ∃a ws l,ZmG W id v a ws l:=by
 obtain⟨fuel,h⟩:=h
 have hk:Cell.ok P W r base t v:=by
  unfold Value.okWide Cell.okWide at OL
  rw[ht] at OL
  simpa using OL
 rcases open_slice1 ht hc h with⟨e1,_⟩|⟨a,len,cap,m,n,V,D,Pl,e1,_,hl,_,hm,_,hV⟩
 ·have:v=.slice none 0 0:=by
   unfold Cell.ok at hk
   rw[ht] at hk
   cases v<;>simp_all [Value.cells]
  subst this
  exact⟨.nils,[],[],⟨(λ_ _ h=>by cases h),Z1 _,(λ_ _ _ h=>by cases h),(λ_ _=>by simp[Ys]),(λ_ _=>⟨λ_ h=>(by cases h),.inl ⟨rfl,rfl⟩⟩)⟩⟩
 ·have hm:m=cap:=by rw[hm];exact if_pos rfl
  have:v=.slice (some a) len cap:=by
   unfold Cell.ok at hk
   rw[ht] at hk
   cases v<;>simp_all [Value.cells]
  subst this
  unfold Cell.ok at hk
  rw[ht] at hk
  obtain⟨_,_,_,hsp,row,cells,v9,_⟩:=hk
  obtain⟨ab,ao,asp⟩:=a
  simp only at hsp
  subst hsp
  obtain⟨cs,el,fr,Gr⟩: ∃cs el fr,W.heap[ab]? =some (.cells cs el fr):=by
   unfold World.shape? at v9
   split at v9
   ·rename_i c e2 f e1;exact⟨c,e2,f,e1⟩
   ·cases v9
  have hcell: ∀i,i<cap-> ∃u:Nat,u<65536∧cs[ao+i]? =some (.int .u16 (.ofNat u)):=by
   intro i hi
   obtain⟨h1,h2⟩:=hV i (by omega)
   obtain⟨n,h3,_,h4⟩:=DataW.trod_int he h2
   have h5:W.cell? (Addr.add ⟨ab,ao,none⟩ i)=cs[ao+i]? :=by
    have h6:Addr.add ⟨ab,ao,none⟩ i=⟨ab,ao+i,none⟩:=by
     unfold Addr.add
     split
     ·rename_i h0;subst h0;rfl
     ·rfl
    rw[h6]
    unfold World.cell?
    rw[Gr]
    rfl
   rw[h5] at h1
   simp only[List.cons.injEq,and_true] at h3
   rw[h1,h3]
   have h6:0<=n∧n<=65535:=by
    simp only[Lit.wf,XE,decide_eq_true_eq] at h4
    exact h4
   refine⟨n.toNat,by omega,?_⟩
   congr 2
   exact(Int.toNat_of_nonneg h6.1).symm
  obtain⟨f,hf⟩:=Classical.axiomOfChoice (r:=λ(i:Nat) (u:Nat)=>u<65536∧(i<cap->cs[ao+i]? =some (.int .u16 (.ofNat u)))) (λi=>by
   by_cases hi:i<cap
   ·obtain⟨u,hu1,hu⟩:=hcell i hi;exact⟨u,hu1,λ_=>hu⟩
   ·exact⟨0,by omega,λh=>absurd h hi⟩)
  have eP: ∀i,i<cap->((List.range cap).map λi=>nI .u16 (f i))[i]? =some (nI .u16 (f i)):=λi hi=>by
   rw[YR,Vf hi];rfl
  have Y6: ∀x∈(List.range len).map f,x<65536:=λx hx=>by
   obtain⟨i,_,rfl⟩:=YV.1 hx;exact(hf i).1
  by_cases h0:cap=0
  ·have Aj:len=0:=by omega
   subst Aj
   refine⟨.slice id ao 0 (some cap),[(id,⟨⟨ab,0,0,1⟩,el,[]⟩)],[],⟨λb x h=>?_,Zj _,λσ b x h=>?_,λσ hσ=>?_,λG hG=>?_⟩⟩
   ·simp at h;exact h.1
   ·simp at h;obtain⟨_,rfl⟩:=h
    exact⟨rfl,Zj _,cs,fr,Gr,Z1 _,λi x hx=>by simp at hx⟩
   ·simp only[Ys]
    exact⟨_,hσ _ _ (Zx ..),by simp⟩
   ·obtain⟨g1,g2⟩:=hG _ _ (Zx ..)
    exact⟨λ_ h=>(by cases h),.inr ⟨id,ao,cap,_,rfl,g1,Z1 _,g2,λh=>absurd rfl h⟩⟩
  ·have hsz:ao+cap<=cs.size:=by
    have:=(hf (cap - 1)).2 (by omega)
    have:=(ZW.1 this).1
    omega
   refine⟨.slice id 0 len (some cap),[(id,⟨⟨ab,ao,cap,1⟩,el,(List.range cap).map λi=>nI .u16 (f i)⟩)],(List.range len).map f,⟨λb x h=>?_,Zj _,λσ b x h=>?_,λσ hσ=>?_,λG hG=>?_⟩⟩
   ·simp at h;exact h.1
   ·simp at h;obtain⟨_,rfl⟩:=h
    refine⟨rfl,by simp,cs,fr,Gr,hsz,λi x hx=>?_⟩
    have hi:i<cap:=by
     have:=(Vz.1 hx).1
     simpa using this
    rw[eP i hi] at hx;cases hx
    exact⟨_,(hf i).2 hi,by simp[Ys,nI],rfl⟩
   ·simp only[Ys]
    exact⟨_,hσ _ _ (Zx ..),rfl⟩
   ·obtain⟨g1,g2⟩:=hG _ _ (Zx ..)
    refine⟨Y6,.inr ⟨id,0,cap,_,by rw[Zr,Uv],g1,by rw[Zr,Uv];exact hl,g2,λ_=>⟨?_,λi hi=>?_⟩⟩⟩
    ·show 0+_<=YH _
     rw[YC];simp;omega
    ·rw[Zr,Uv] at hi
     rw[Zt,FP.get_row (eP i (by omega))]
     rw[Zf,YR,Vf hi]
     rfl
end
section
open Go Go.Deep
variable {P:Program} {H:Type} {enc:TypeId×Value->H}
def Zax(G:Zc)(a:AV)(l:List Nat):Prop:=(∀x∈l,x<256)∧((a=.nils∧l=[])∨ ∃b o c r,a=.slice b o l.length (some c)∧G.t.get b=some (.row r)∧l.length<=c∧b<G.nx∧(l≠[]->o+l.length<=r.size∧ ∀i,i<l.length->r.get (o+i)=nI .u8 (l.getD i 0)))
theorem ZfJ(l:List Nat)(i:Nat)(h:i<l.length):(l.map λx=>[nI .u8 x]).flatten.getD i .unk=nI .u8 (l.getD i 0):=by
 have:(l.map λx=>[nI .u8 x]).flatten=l.map λx=>nI .u8 x:=by
  clear h
  induction l with
  |nil=>rfl
  |cons x l ih=>rw[Y8,Vy,ih];rfl
 rw[this,Zf,YR,Zf,Zi h];rfl
theorem Zax.sl{G:Zc}{a:AV}{l:List Nat}(h:Zax G a l):Sl G 1 a (l.map λx=>[nI .u8 x]):=by
 refine⟨λx hx=>?_,?_⟩
 ·obtain⟨y,_,rfl⟩:=YV.1 hx;rfl
 rcases h.2 with⟨rfl,rfl⟩|⟨b,o,c,r,rfl,h2,h3,h4,h5⟩
 ·exact .inl ⟨rfl,rfl⟩
 ·refine .inr ⟨b,o,some c,by rw[Zr],h4,λVY=>?_⟩
  have Zga:l≠[]:=by rintro rfl;exact VY rfl
  obtain⟨h6,h7⟩:=h5 Zga
  refine⟨r,h2,by rw[Zr];omega,λi hi=>?_⟩
  rw[Zr,Xr] at hi
  rw[h7 i hi,ZfJ _ _ hi]
structure ZmE(W:World)(id:Nat)(v:Value)(a:AV)(ws:List (Nat×FP))(l:List Nat):Prop where
 ids: ∀b x,(b,x)∈ws->b=id
 few:ws.length<=1
 win: ∀σ b x,(b,x)∈ws->hZ W σ x
 rel: ∀σ:Mp,(∀b x,(b,x)∈ws->σ b=some x.loc)->Ys σ a v
 arg: ∀G:Zc,(∀b x,(b,x)∈ws->G.t.get b=some (.row x.row)∧b<G.nx)->Zax G a l
theorem gH{W:World}{r:Reach}{base:Nat}{t e:TypeId}{v:Value}{d:DataW H}{p:List MemPlace}(id:Nat)(ht:P.underlying t=some (.slice e))(he:P.underlying e=some (.int .u8))(hc:P.cellsOf e=1)
  (OL:Value.okWide P W r base t v)(h:DataW.Trod enc P W 0 (λ_=>true) true t v d p): ∃a ws l,ZmE W id v a ws l:=by
 obtain⟨fuel,h⟩:=h
 have hk:Cell.ok P W r base t v:=by
  unfold Value.okWide Cell.okWide at OL
  rw[ht] at OL
  simpa using OL
 rcases open_slice1 ht hc h with⟨e1,_⟩|⟨a,len,cap,m,n,V,D,Pl,e1,_,hl,_,hm,_,hV⟩
 ·have:v=.slice none 0 0:=by
   unfold Cell.ok at hk
   rw[ht] at hk
   cases v<;>simp_all [Value.cells]
  subst this
  exact⟨.nils,[],[],⟨(λ_ _ h=>by cases h),Z1 _,(λ_ _ _ h=>by cases h),(λ_ _=>by simp[Ys]),(λ_ _=>⟨λ_ h=>(by cases h),.inl ⟨rfl,rfl⟩⟩)⟩⟩
 ·have hm:m=cap:=by rw[hm];exact if_pos rfl
  have:v=.slice (some a) len cap:=by
   unfold Cell.ok at hk
   rw[ht] at hk
   cases v<;>simp_all [Value.cells]
  subst this
  unfold Cell.ok at hk
  rw[ht] at hk
  obtain⟨_,_,_,hsp,row,cells,v9,_⟩:=hk
  obtain⟨ab,ao,asp⟩:=a
  simp only at hsp
  subst hsp
  obtain⟨cs,el,fr,Gr⟩: ∃cs el fr,W.heap[ab]? =some (.cells cs el fr):=by
   unfold World.shape? at v9
   split at v9
   ·rename_i c e2 f e1;exact⟨c,e2,f,e1⟩
   ·cases v9
  have hcell: ∀i,i<cap-> ∃u:Nat,u<256∧cs[ao+i]? =some (.int .u8 (.ofNat u)):=by
   intro i hi
   obtain⟨h1,h2⟩:=hV i (by omega)
   obtain⟨n,h3,_,h4⟩:=DataW.trod_int he h2
   have h5:W.cell? (Addr.add ⟨ab,ao,none⟩ i)=cs[ao+i]? :=by
    have h6:Addr.add ⟨ab,ao,none⟩ i=⟨ab,ao+i,none⟩:=by
     unfold Addr.add
     split
     ·rename_i h0;subst h0;rfl
     ·rfl
    rw[h6]
    unfold World.cell?
    rw[Gr]
    rfl
   rw[h5] at h1
   simp only[List.cons.injEq,and_true] at h3
   rw[h1,h3]
   have h6:0<=n∧n<=255:=by
    simp only[Lit.wf,XE,decide_eq_true_eq] at h4
    exact h4
   refine⟨n.toNat,by omega,?_⟩
   congr 2
   exact(Int.toNat_of_nonneg h6.1).symm
  obtain⟨f,hf⟩:=Classical.axiomOfChoice (r:=λ(i:Nat) (u:Nat)=>u<256∧(i<cap->cs[ao+i]? =some (.int .u8 (.ofNat u)))) (λi=>by
   by_cases hi:i<cap
   ·obtain⟨u,hu1,hu⟩:=hcell i hi;exact⟨u,hu1,λ_=>hu⟩
   ·exact⟨0,by omega,λh=>absurd h hi⟩)
  have eP: ∀i,i<cap->((List.range cap).map λi=>nI .u8 (f i))[i]? =some (nI .u8 (f i)):=λi hi=>by
   rw[YR,Vf hi];rfl
  have Y6: ∀x∈(List.range len).map f,x<256:=λx hx=>by
   obtain⟨i,_,rfl⟩:=YV.1 hx;exact(hf i).1
  by_cases h0:cap=0
  ·have Aj:len=0:=by omega
   subst Aj
   refine⟨.slice id ao 0 (some cap),[(id,⟨⟨ab,0,0,1⟩,el,[]⟩)],[],⟨λb x h=>?_,Zj _,λσ b x h=>?_,λσ hσ=>?_,λG hG=>?_⟩⟩
   ·simp at h;exact h.1
   ·simp at h;obtain⟨_,rfl⟩:=h
    exact⟨rfl,Zj _,cs,fr,Gr,Z1 _,λi x hx=>by simp at hx⟩
   ·simp only[Ys]
    exact⟨_,hσ _ _ (Zx ..),by simp⟩
   ·obtain⟨g1,g2⟩:=hG _ _ (Zx ..)
    exact⟨λ_ h=>(by cases h),.inr ⟨id,ao,cap,_,rfl,g1,Z1 _,g2,λh=>absurd rfl h⟩⟩
  ·have hsz:ao+cap<=cs.size:=by
    have:=(hf (cap - 1)).2 (by omega)
    have:=(ZW.1 this).1
    omega
   refine⟨.slice id 0 len (some cap),[(id,⟨⟨ab,ao,cap,1⟩,el,(List.range cap).map λi=>nI .u8 (f i)⟩)],(List.range len).map f,⟨λb x h=>?_,Zj _,λσ b x h=>?_,λσ hσ=>?_,λG hG=>?_⟩⟩
   ·simp at h;exact h.1
   ·simp at h;obtain⟨_,rfl⟩:=h
    refine⟨rfl,by simp,cs,fr,Gr,hsz,λi x hx=>?_⟩
    have hi:i<cap:=by
     have:=(Vz.1 hx).1
     simpa using this
    rw[eP i hi] at hx;cases hx
    exact⟨_,(hf i).2 hi,by simp[Ys,nI],rfl⟩
   ·simp only[Ys]
    exact⟨_,hσ _ _ (Zx ..),rfl⟩
   ·obtain⟨g1,g2⟩:=hG _ _ (Zx ..)
    refine⟨Y6,.inr ⟨id,0,cap,_,by rw[Zr,Uv],g1,by rw[Zr,Uv];exact hl,g2,λ_=>⟨?_,λi hi=>?_⟩⟩⟩
    ·show 0+_<=YH _
     rw[YC];simp;omega
    ·rw[Zr,Uv] at hi
     rw[Zt,FP.get_row (eP i (by omega))]
     rw[Zf,YR,Vf hi]
     rfl
end
section
variable {Zo:NJ} {fs:T CF} {fuel k n i h b:Nat} {H H0:Zc} {s:List UInt8} {cs:List AV}
theorem dT(E:Env Zo fs fuel)(hk:1<=k){a:AV}{l:List Nat}(ha:JP H a l)(YL:H.ro<=H.nx):
  ∃h v cs H',ZG (LK Zo fs fuel k) fs fuel (n+60) 10 [a] H=.ret (.agg cs) H'∧h<=40∧VR H' (h+1) v cs∧iR (h+1) v∧JV.tb (h+1) v<=25000∧Zp H H' []:=by
 rw[ZF (ZB E.n10 (.inr rfl) _ _) E.f10]
 obtain⟨H1,Yo⟩:=WQ (H.new (rH 27 zV))
 have VH:H1.nx=H.nx+1:=by rw[<-Yo];rfl
 have Nn:H1.ro=H.ro:=by rw[<-Yo];rfl
 have k1:Zp H H1 []:=by rw[<-Yo];exact Zp.new H _ _
 have g1:H1.t.get H.nx=some (rH 27 zV):=by rw[<-Yo,ZC rfl]
 have el:=ha.len
 obtain⟨sv,es,sl,hbk⟩:=ha.take (k:=min l.length 60) (Nat.min_le_left _ _)
 have es:=es H1 (λc hc=>k1.get c hc (by simp))
 obtain⟨xs,hxs⟩:=WQ (l.take (min l.length 60))
 have hxl:xs.length<=60:=by rw[<-hxs,Z9];omega
 have hxu: ∀x∈xs,x<65536:=λx hx=>ha.1 x (by rw[<-hxs] at hx;exact Tb hx)
 rw[hxs] at sl
 have mn:=λG=>dU l.length 60 G
 have bv: ∀G:Zc,LP [.nils,nI .i64 0] [(0,1,sv)] G=.val (.agg [sv,nI .i64 0]) G:=λG=>by
  have hc:=sl.cells
  rcases sl.here with⟨_,rfl⟩|⟨b,o,c,rfl,_⟩<;>rfl
 have bx:=VW (l:=[sv,nI .i64 0]) (Nat.le_add_left 1 1) 112 H1
 obtain⟨H2,XH⟩:=WQ (H1.new (rH 112 [sv,nI .i64 0]))
 rw[XH] at bx
 have nx2:H2.nx=H1.nx+1:=by rw[<-XH];rfl
 have DB:H2.ro=H1.ro:=by rw[<-XH];rfl
 have k2:Zp H H2 []:=by rw[<-XH];exact k1.then_new _
 have g2:H2.t.get H.nx=some (rH 27 zV):=by rw[<-XH,ZK (by omega)];exact g1
 have m2:Mk H2 H1.nx sv xs 0:=⟨by rw[<-XH,ZC rfl],sl.keep0 k2,hxu,Z1 _,hxl,by omega,by omega,λc o q w e=>by have:=hbk _ _ _ _ e;omega⟩
 obtain⟨r,j,er,lr,ler,ltr,_,_⟩:=TH E (k:=k) (n:=n+58) m2 (most:=40) (by omega) (by omega)
 have m3:=m2.put ltr
 obtain⟨H3,V9⟩:=WQ (Zc.put H2 H1.nx (rH 112 [sv,nI .i64 j]))
 rw[V9] at er m3
 have Fe:H3.nx=H2.nx:=by rw[<-V9];rfl
 have jZ:H3.ro=H2.ro:=by rw[<-V9];rfl
 have g3:H3.t.get H.nx=some (rH 27 zV):=by rw[<-V9,ZD (by omega)];exact g2
 have k3:Zp H H3 []:=by rw[<-V9];exact k2.then_put (λh=>absurd h (by omega))
 obtain⟨v,cs,j4,H4,e4,hr4,ho4,ht4,m4,hj4,k4⟩:=iL E hk (b:=H1.nx) (sv:=sv) (xs:=xs) (1+r) (by omega) (n+59) (by omega) m3 (by omega)
 have nH:=k4.nx
 have pz:=k4.ro
 have hm4:=m4.le
 have g4:H4.t.get H.nx=some (rH 27 zV):=by rw[k4.get _ (by omega) (by simp;omega)];exact g3
 have hv4:=hr4.vr
 have hlen:=hv4.len
 obtain⟨H9,RZ⟩:=WQ (Zc.put H4 H.nx (rH 27 cs))
 have hB:=Xg (n:=6) (l:=zV) (vs:=cs) (b:=H.nx) (H:=H4) (by rfl) hlen (by omega) (by omega) 27 1 false true
 rw[RZ] at hB
 have g9:H9.t.get H.nx=some (rH 27 cs):=by rw[<-RZ,ZS]
 have ldx: ∀(kk:AV->CR),rV 6 true (some (rH 27 cs)) 0 kk=kk (.agg cs):=λkk=>Tf (n:=6) (l:=cs) hlen kk
 have hv9:VR H9 (1+r+1) v cs:=(hr4.move (Y:=H9) (S':=λc=>c<H3.nx) (λc hc hS=>by
  rw[<-RZ,ZD (by have hS: ¬c<H3.nx:=hS;omega)]) (by rw[<-RZ];exact Zj _) (λc _ h=>h)).vr
 have k9:Zp H H9 []:=by
  rw[<-RZ]
  refine Zp.then_put ⟨by omega,by omega,λc hc _=>?_⟩ (λh=>absurd h (by omega))
  rw[k4.get c (by omega) (by simp;omega),k3.get c hc (by simp)]
 rw[VH] at er e4
 refine⟨1+r,v,cs,H9,?_,by omega,hv9,ho4,by omega,k9⟩
 simp(disch:=omega) only[Yo,VH,el,es,mn,bv,bx,er,e4,hB,g4,g9,ldx,YQ,c10,Zu,ZX,Zw,Zz,Yf]
end
end
end Go.AI
