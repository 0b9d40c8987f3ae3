/- Values made of numbers, walked: proved without conditions but those that each names. -/
import Derived.Test.YtobbpmaeiiblaaaGreatDoorPD
import Derived.Test.YtobbpmaeiiblaaaGreatDoorPA
import Derived.Test.YtobbpmaeiiblaaaGreatDoorP6
import Derived.Deep.Slices
import Derived.ChangeArms
set_option maxRecDepth 1000000
set_option maxHeartbeats 0
set_option linter.unusedVariables false
set_option linter.unusedSimpArgs false
namespace Go.AI
open Go
noncomputable section
structure Mk(H:Heap)(b:Nat)(sv:AV)(xs:List Nat)(at_:Nat):Prop where
 get:H.t.get b=some (rG 130 1 [sv,nI .i64 at_] 0 false true true)
 sl:Sl H 1 sv (xs.map fun x=>[nI .u16 x])
 u: ∀x∈xs,x<65536
 le:at_≤xs.length
 few:xs.length≤60
 low:b<H.nx
 ro:H.ro≤b
 old: ∀c o n q,sv= .slice c o n q→c<b
theorem Mk.put{H:Heap}{b:Nat}{sv:AV}{xs:List Nat}{i j:Nat}(m:Mk H b sv xs i)(hj:j≤xs.length):Mk (H.put b (rG 130 1 [sv,nI .i64 j] 0 false true true)) b sv xs j:=
 ⟨Yo ..,m.sl.keep (S:=[b]) (Keep.put fun _=>by simp) (fun c o n q e h=>by have:=m.old c o n q e;simp at h;omega),m.u,hj,m.few,m.low,m.ro,m.old⟩
theorem Mk.keep{H H':Heap}{b:Nat}{sv:AV}{xs:List Nat}{i:Nat}(m:Mk H b sv xs i)(k:Keep H H' []):Mk H' b sv xs i:=
 ⟨by rw[k.get b m.low (by simp)];exact m.get,m.sl.keep0 k,m.u,m.le,m.few,ZF m.low k.nx,by rw[k.ro];exact m.ro,m.old⟩
theorem Uq{Zm:Lib}{fs:T CF}{fuel:Nat}(E:Env Zm fs fuel){k n:Nat}{H:Heap}{b:Nat}{sv:AV}{xs:List Nat}{i most:Nat}(m:Mk H b sv xs i)(h0:0<most)(hm:most≤65536):
  ∃r j,ZR (LK Zm fs fuel k) fs fuel (n+1) 67 [.ptr b 0,nI .i64 most] H= .ret (nI .i64 r) (H.put b (rG 130 1 [sv,nI .i64 j] 0 false true true))∧r<most∧i≤j∧j≤xs.length∧(i<xs.length→j=i+1)∧(xs.length≤i→r=0∧j=i):=by
 rw[ZV (ZN E.n67 (.inr rfl) _ _) E.f67]
 have g:=m.get
 have hle:=m.le
 have hfew:=m.few
 have hlow:=m.low
 have hro:=m.ro
 have el:=m.sl.len
 rw[ZA] at el
 have lsv:=m.sl.low (n:=H.nx) (Zk _)
 have ssv:=m.sl.same
 have lb0:YA H.nx (.ptr b 0)=true:=ZL hlow 0
 have lb1:YA H.nx (.ptr b 1)=true:=ZL hlow 1
 by_cases hlt:i<xs.length
 ·have d1:decide (xs.length≤i)=false:=Zc (by omega)
  obtain⟨c,o,rw_,eI,hc,gc,_,eL⟩:=m.sl.at_ (i:=i) (by rw[ZA];exact hlt)
  have hcb:c<b:=by
   rcases m.sl.here with⟨h1,_⟩|⟨c',o',q,e,_⟩
   ·have:=congrArg List.length h1;rw[ZA,Zw] at this;omega
   ·have hcc:c'<b:=m.old _ _ _ _ e
    have e2:=eI .i64 H
    rw[e] at e2
    rw[Zal (by rw[ZA];exact hlt)] at e2
    injection e2 with e3 _
    injection e3 with e4 _
    omega
  have hx:xs.getD i 0<65536:=m.u _ (by rw[Zj,Zp hlt];exact YL hlt)
  have eL:=fun(G:Heap)=>eL 0 G (by omega)
  rw[show((xs.map fun x=>[nI .u16 x]).getD i []).getD 0 .unk=nI .u16 (xs.getD i 0) by
   rw[Zj (l:=xs.map _),YT,Zj (l:=xs),Zp hlt];rfl] at eL
  simp only[Zt] at eL
  generalize xs.getD i 0=xv at*
  obtain⟨H1,hH1⟩: ∃G,H.put b (rG 130 1 [sv,nI .i64 (i+1)] 0 false true true)=G:=⟨_,rfl⟩
  have nx1:H1.nx=H.nx:=by rw[←hH1];rfl
  have g1:H1.t.get b=some (rG 130 1 [sv,nI .i64 (i+1)] 0 false true true):=by rw[←hH1,Yo]
  have gc1:H1.t.get c=some (.row rw_):=by rw[←hH1,Z3 (by omega)];exact gc
  have st:=Zbc (fz:=0) (b:=b) (H:=H) (l:=[sv,nI .i64 i]) (o:=1) (v:=nI .i64 (i+1)) rfl (by simp) hro (by omega) 130 1 false true
  have st:stN 1 (some (rG 130 1 [sv,nI .i64 i] 0 false true true)) b 1 (nI .i64 (i+1)) H= .val Yx H1:=by rw[←hH1];exact st
  have lc:YA H.nx (.ptr c o)=true:=ZL hc o
  refine⟨xv % most,i+1,?_,Vh _ h0,by omega,by omega,fun _=>rfl,fun h=>by omega⟩
  rw[hH1]
  simp(maxSteps:=4000000) (disch:=first|assumption|omega|(simp -implicitDefEqProofs only[Zu,Zv]<;>first|assumption|omega)|decide) only[g,el,lsv,ssv,lb0,lb1,lc,d1,st,nx1,g1,gc1,eI,eL,ZH,Y2,Yw,YO,ZT,ZaF,ZCq,Zt,c67,ZC,N8G,Zr,Zs,Zd,Ze,Zf,Nat.reducePow,Nat.reduceDiv,Nat.reduceMod,Nat.reduceEqDiff,reduceCtorEq,TB0,TB1]
 ·have d1:decide (xs.length≤i)=true:=Zh (by omega)
  refine⟨0,i,?_,h0,Zk _,hle,fun h=>absurd h hlt,fun _=>⟨rfl,rfl⟩⟩
  rw[Zig g]
  simp(maxSteps:=4000000) (disch:=first|assumption|omega|(simp -implicitDefEqProofs only[Zu,Zv]<;>first|assumption|omega)|decide) only[g,el,lsv,ssv,lb0,lb1,d1,ZH,Y2,c67,ZC,N8G,Zr,Zs,Zd,Ze,Zf,Nat.reducePow,Nat.reduceDiv,Nat.reduceMod,Nat.reduceEqDiff,reduceCtorEq,TB0,TB1]
end
end Go.AI
namespace Go.AI
open Go
noncomputable section
def ZdU:List (List UInt8):=[[],[97],[98],[34],[92],[10],[31],[195,169],[240,157,132,158],[107,101,121],[100,105,103,101,115,116],[127]]
def Zfx:List AV:=[.str [], .str [97], .str [98], .str [34], .str [92], .str [10], .str [31], .str [195,169], .str [240,157,132,158], .str [107,101,121], .str [100,105,103,101,115,116], .str [127]]
def Zfy:List (List UInt8):=ZdU++ZdU.map fun w=>w++[255]
def Wd(s:List UInt8):Prop:=s∈Zfy
theorem Wd.len{s:List UInt8}(h:Wd s):s.length≤7:=by
 have: ∀s∈Zfy,s.length≤7:=by decide
 exact this s h
theorem ZvL{r:Nat}(h:r<12):ZdU.getD r []∈ZdU:=by
 rw[Zj,Zp (show r<ZdU.length from h)];exact YL _
theorem ZnL{r:Nat}(h:r<12):Zfx.getD r .unk= .str (ZdU.getD r [])∧(ZdU.getD r []).length≤6:=by
 have:r=0∨r=1∨r=2∨r=3∨r=4∨r=5∨r=6∨r=7∨r=8∨r=9∨r=10∨r=11:=by omega
 rcases this with rfl|rfl|rfl|rfl|rfl|rfl|rfl|rfl|rfl|rfl|rfl|rfl<;>exact⟨rfl,by decide⟩
theorem ZnM:[.str [], .str [97], .str [98], .str [34], .str [92], .str [10], .str [31], .str [195,169], .str [240,157,132,158], .str [107,101,121], .str [100,105,103,101,115,116], .str [127]]=Zfx:=rfl
theorem Zl0{Zm:Lib}{fs:T CF}{fuel:Nat}(E:Env Zm fs fuel){k n:Nat}{H:Heap}{b:Nat}{sv:AV}{xs:List Nat}{i:Nat}(m:Mk H b sv xs i)(hro:H.ro≤H.nx):
  ∃w j H',ZR (LK Zm fs fuel k) fs fuel (n+2) 111 [.ptr b 0] H= .ret (.str w) H'∧Wd w∧Mk H' b sv xs j∧i≤j∧Keep H H' [b]:=by
 rw[ZV (ZN E.n111 (.inr rfl) _ _) E.f111]
 obtain⟨H1,hH1⟩: ∃G,H.new (rG 215 1 Zfx 0 false true true)=G:=⟨_,rfl⟩
 have nx1:H1.nx=H.nx+1:=by rw[←hH1];rfl
 have k1:Keep H H1 []:=by rw[←hH1];exact Keep.new H _ _
 have hB:=Y8 (n:=12) (l:=[.str [], .str [], .str [], .str [], .str [], .str [], .str [], .str [], .str [], .str [], .str [], .str []]) (vs:=Zfx) (b:=H.nx) (H:=H.new (rG 215 1 [.str [], .str [], .str [], .str [], .str [], .str [], .str [], .str [], .str [], .str [], .str [], .str []] 0 false true true)) (by rfl) (by rfl) (by omega) (show H.ro≤H.nx from hro) 215 1 false true
 rw[VX rfl,hH1] at hB
 have g1:H1.t.get H.nx=some (rG 215 1 Zfx 0 false true true):=by rw[←hH1,ZP rfl]
 have m1:=m.keep k1
 obtain⟨r,j,e2,hr,hij,hj,_,_⟩:=Uq E (k:=k) (n:=n) m1 (most:=12) (by omega) (by omega)
 have m2:=m1.put hj
 have hbl:=m.low
 obtain⟨H2,hH2⟩: ∃G,H1.put b (rG 130 1 [sv,nI .i64 j] 0 false true true)=G:=⟨_,rfl⟩
 rw[hH2] at e2 m2
 have g2:H2.t.get H.nx=some (rG 215 1 Zfx 0 false true true):=by rw[←hH2,Z3 (by omega)];exact g1
 obtain⟨r',j',e3,hr',hij',hj',_,_⟩:=Uq E (k:=k) (n:=n) m2 (most:=40) (by omega) (by omega)
 have m3:=m2.put hj'
 obtain⟨H3,hH3⟩: ∃G,H2.put b (rG 130 1 [sv,nI .i64 j'] 0 false true true)=G:=⟨_,rfl⟩
 rw[hH3] at e3 m3
 have k3:Keep H H3 [b]:=by
  rw[←hH3,←hH2,←hH1]
  exact((Keep.new H _ _).then_put (fun _=>by simp)).then_put (fun _=>by simp)
 have ld: ∀G:Heap,ld1 (some (rG 215 1 Zfx 0 false true true)) r G= .val (.str (ZdU.getD r [])) G:=fun G=>by
  rw[ZH (show r<Zfx.length from hr),(ZnL hr).1]
 have hw:=(ZnL hr).2
 have hwd:=ZvL hr
 have ix:=fun(G:Heap)=>Uh (n:=12) (i:=r) hr H.nx 0 .i64 G
 rw[Zi] at ix
 generalize ZdU.getD r []=w at ld hw hwd
 by_cases h39:r'=39
 ·have d1:decide (r'=39)=true:=Zh h39
  have hq:w.length+([255]:List UInt8).length≤100:=by rw[Zn,Zw];omega
  refine⟨w++[255],j',H3,?_,List.mem_append.2 (.inr (List.mem_map.2 ⟨w,hwd,rfl⟩)),m3,by omega,k3⟩
  simp(maxSteps:=4000000) (disch:=first|assumption|omega|(simp -implicitDefEqProofs only[Zu,Zv]<;>first|assumption|omega)|decide) only[ZnM,hB,nx1,e2,ix,g2,ld,e3,d1,ZW,WN,ZxZ,ZC,N8G,Zr,Zs,Zd,Ze,Zf,Nat.reduceEqDiff,reduceCtorEq,TB0]
 ·have d1:decide (r'=39)=false:=Zc h39
  refine⟨w,j',H3,?_,List.mem_append.2 (.inl hwd),m3,by omega,k3⟩
  simp(maxSteps:=4000000) (disch:=first|assumption|omega|(simp -implicitDefEqProofs only[Zu,Zv]<;>first|assumption|omega)|decide) only[ZnM,hB,nx1,e2,ix,g2,ld,e3,d1,ZW,ZxZ,ZC,N8G,Zr,Zs,Zd,Ze,Zf,Nat.reduceEqDiff,reduceCtorEq,TB0]
end
end Go.AI
namespace Go.AI
open Go
noncomputable section
def WD:Nat→JV→Prop
 |0,_=>True
 |h+1, .mk _ _ _ s l m=>Wd s∧(∀x∈l,WD h x)∧ ∀e∈m,Wd e.1∧WD h e.2
def OKW(h:Nat)(v:JV):Prop:=JV.ok h v∧WD h v
def VOk(Zm:Lib)(fs:T CF)(fuel k n lv b:Nat)(sv:AV)(xs:List Nat):Prop:= ∀{H:Heap} {i:Nat},Mk H b sv xs i→H.ro≤H.nx→
 ∃v cs j H',ZR (LK Zm fs fuel k) fs fuel n 66 [.ptr b 0,nI .i64 lv] H= .ret (.agg cs) H'∧VRs H' (fun c=>c<H.nx) (lv+1) v cs∧OKW (lv+1) v∧JV.tb (lv+1) v≤400*(j - i)+120∧Mk H' b sv xs j∧i≤j∧Keep H H' [b]
theorem ZAY{cs:List AV}(h:cs.length=6)(e:Nat)(H:Heap):ZbR e 6 1 [nI .i64 0, .bool false,nI .i64 0, .str [], .nils, .nils] [(0,6, .agg cs)] H= .val (.slice H.nx 0 1 none) (H.newRow e 6 cs true):=by
 match cs,h with
 |[a,b,c,d,e,f],_=>rfl
theorem Mk.below{H H':Heap}{b lo:Nat}{sv:AV}{xs:List Nat}{i:Nat}(m:Mk H b sv xs i)(hb:b<lo)(w:Below lo H H'):Mk H' b sv xs i:=
 ⟨by rw[w.get b hb m.low];exact m.get,⟨m.sl.each,by
  rcases m.sl.here with h|⟨c,o,q,rfl,hc,h⟩
  ·exact .inl h
  ·refine .inr ⟨c,o,q,rfl,ZF hc w.nx,fun hne=>?_⟩
   obtain⟨r,h1,h2⟩:=h hne
   exact⟨r,by rw[w.get c (by have:=m.old c o _ q rfl;omega) hc];exact h1,h2⟩⟩,m.u,m.le,m.few,ZF m.low w.nx,by rw[w.ro];exact m.ro,m.old⟩
structure Vls(H:Heap)(b h i0:Nat)(sv:AV)(xs:List Nat)(bv:AV)(lo:Nat)(l:List JV)(j:Nat):Prop where
 ok: ∃bb ls,RBuf H bv 72 6 ls lo∧(∀c o n q,bv= .slice c o n q→c=bb)∧ls.length=l.length∧(∀q,q<l.length→VRs H (fun c=>c<lo∨c=bb) h (l.getD q default) (ls.getD q []))
 good: ∀x∈l,OKW h x
 sum:(l.map fun x=>1+JV.tb h x).sum≤400*(j - i0)+121*l.length
 maker:Mk H b sv xs j
 le:i0≤j
theorem Qa{α:Type}(l:List α)(a d:α)(q:Nat):(l++[a]).getD q d=if q<l.length then l.getD q d else if q=l.length then a else d:=by
 rw[Zj]
 by_cases h:q<l.length
 ·rw[if_pos h,Ym h,Zj]
 ·rw[if_neg h,List.getElem?_append_right (by omega)]
  by_cases h2:q=l.length
  ·subst h2;rw[if_pos rfl,UO];rfl
  ·rw[if_neg h2,Yp (by rw[Zn,Zw];omega)];rfl
theorem Vls.push{H H2:Heap}{b h i0:Nat}{sv:AV}{xs:List Nat}{bv:AV}{lo:Nat}{l:List JV}{j j2:Nat}{v:JV}{cs:List AV}(s:Vls H b h i0 sv xs bv lo l j)(k:Keep H H2 [b])(hb:b<lo)(hlo:lo≤H.nx)(hro2:H2.ro≤H2.nx)
  (hr:VRs H2 (fun c=>c<H.nx) h v cs)(ho:OKW h v)(ht:JV.tb h v≤400*(j2 - j)+120)(m:Mk H2 b sv xs j2)(hj:j≤j2)(hl:l.length≤100):
  ∃bv' H3,UX 72 6 88 bv (.slice H2.nx 0 1 none) (H2.newRow 72 6 cs true)= .val bv' H3∧Vls H3 b h i0 sv xs bv' lo (l++[v]) j2∧Below lo H2 H3:=by
 obtain⟨bb,ls,rb,hbb,e,hv⟩:=s.ok
 have knx:=k.nx
 have rb2:RBuf H2 bv 72 6 ls lo:=rb.below (fun c h1 h2=>k.get c h2 (by simp;omega)) k.ro k.nx
 obtain⟨bv',H3,ea,rb3,w,only,fresh⟩:=ZdQ rb2 (bytes:=88) (by omega) (by omega) (by omega) hro2 (by omega) (x:=cs) hr.vr.len
 refine⟨bv',H3,ea,?_,w⟩
 obtain⟨b3,hb3,hn3⟩: ∃b3,(∀c o n q,bv'= .slice c o n q→c=b3)∧H2.nx≤b3:=by
  rcases rb3 with⟨h1,_⟩|⟨_,c,r,rfl,_⟩
  ·simp at h1
  ·exact⟨c,fun _ _ _ _ e=>(by cases e;rfl),fresh _ _ _ _ rfl⟩
 have hbbH: ∀c o n q,bv= .slice c o n q→c<H.nx:=by
  rcases rb with⟨_,rfl⟩|⟨_,c',r,rfl,hr',_⟩
  ·intro _ _ _ _ e;cases e
  ·intro _ _ _ _ e;cases e;exact hr'.low
 refine⟨⟨b3,ls++[cs],rb3,hb3,by simp[e],fun q hq=>?_⟩,fun x hx=>?_,?_,m.below hb w,Z6 s.le hj⟩
 ·rw[Qa,Qa,e]
  rw[Zq,Zn,Zw] at hq
  by_cases h1:q<l.length
  ·rw[if_pos h1,if_pos h1]
   refine(hv q h1).move (fun c hc hS=>?_) (Z6 knx w.nx) (fun c hc hS=>?_)
   ·rw[only c (by omega) (fun b' o' l' q' e' hcb=>hS (.inr (by rw[hcb];exact hbb _ _ _ _ e'))),k.get c hc (by simp;intro h2;exact hS (.inl (by omega)))]
   ·rcases hS with h2|h2
    ·exact .inl h2
    ·omega
  ·have:q=l.length:=by omega
   subst this
   rw[if_neg h1,if_neg h1,if_pos rfl,if_pos rfl]
   refine hr.move (fun c hc hS=>?_) w.nx (fun c hc hS=>?_)
   ·exact only c hc (fun b' o' l' q' e' hcb=>hS (by rw[hcb];exact hbbH _ _ _ _ e'))
   ·rcases hS with h2|h2
    ·show c<H.nx;omega
    ·omega
 ·rcases List.mem_append.1 hx with h1|h1
  ·exact s.good x h1
  ·rw[List.mem_singleton.1 h1];exact ho
 ·have:=s.sum
  have:=s.le
  rw[List.map_append,List.sum_append,Zq]
  simp only[List.map_cons,List.map_nil,List.sum_cons,List.sum_nil,Zn,Zw]
  omega
end
end Go.AI
namespace Go.AI
open Go
noncomputable section
theorem Below.keepS{H0 H H':Heap}{n:Nat}{S:List Nat}(k:Keep H0 H S)(b:Below n H H')(h:H0.nx≤n):Keep H0 H' S:=
 ⟨Z6 k.nx b.nx,b.ro.trans k.ro,fun c hc hS=>by rw[b.get c (by omega) (ZF hc k.nx)];exact k.get c hc hS⟩
structure VLI(p4:AV)(H0:Heap)(b lv i0 cnt:Nat)(sv:AV)(xs:List Nat)(m:Nat)(tm:TM)(H:Heap):Prop where
 i: ∃c bv l j,ZaL tm=nI .i64 c∧c≤cnt∧m=cnt - c∧gt5 tm=bv∧l.length=c∧Vls H b (lv+1) i0 sv xs bv H0.nx l j
 t0:gt0 tm= .ptr b 0
 t4:gt4 tm=p4
 t1:gt1 tm=nI .i64 (lv+1)
 t59:ZaZ tm=nI .i64 cnt
 k:Keep H0 H [b]
 ro:H.ro≤H.nx
theorem ZtC{Zm:Lib}{fs:T CF}{fuel:Nat}(E:Env Zm fs fuel){k n lv b:Nat}{sv:AV}{xs:List Nat}(ih:VOk Zm fs fuel k n lv b sv xs)(hlv:lv≤100){p4:AV}{H0:Heap}{i0 cnt:Nat}(hb:b<H0.nx)(hc:cnt≤10)(y f d r)(x:X)(m:Nat)(tm:TM)(H:Heap)(hI:VLI p4 H0 b lv i0 cnt sv xs m tm H):
  ∃o tm' H',Zja ⟨ZR (LK Zm fs fuel k) fs fuel n,y,f,d,r⟩ tm H x= .ok o tm' H' x∧((o= .normal∧ ∃q,q<m∧VLI p4 H0 b lv i0 cnt sv xs q tm' H')∨(o≠ .normal∧(o= .exit 1∧ ∃bv l j,gt5 tm'=bv∧gt0 tm'= .ptr b 0∧gt4 tm'=p4∧gt1 tm'=nI .i64 (lv+1)∧l.length=cnt∧Vls H' b (lv+1) i0 sv xs bv H0.nx l j∧Keep H0 H' [b]∧H'.ro≤H'.nx))):=by
 obtain⟨⟨c,bv,l,j,t60,hcc,rfl,t5,hl,s⟩,t0,t4,t1,t59,k0,hro⟩:=hI
 have t0':=t0;have t4':=t4;have t1':=t1;have t5':=t5;have t59':=t59
 simp only[Zck] at t0
 simp only[ZbE] at t1
 simp only[ZfU] at t5
 simp only[ZEW] at t59
 simp only[ZEX] at t60
 by_cases hlt:c<cnt
 ·have d1:decide (c<cnt)=true:=Zh hlt
  obtain⟨v,cs,j2,H2,e2,hr,ho,ht,m2,hj,k2⟩:=ih s.maker hro
  have ro2:H2.ro≤H2.nx:=by rw[k2.ro];have:=k2.nx;omega
  obtain⟨bv',H3,ea,s3,w⟩:=s.push k2 hb k0.nx ro2 hr ho ht m2 hj (by omega)
  have bs:=ZAY (cs:=cs) hr.vr.len 72 H2
  have k3:Keep H0 H3 [b]:=Below.keepS (k0.trans k2 (by simp)) w (Zk _)
  rw[Wi] at ea bs
  simp(maxSteps:=4000000) (disch:=first|assumption|omega|(simp -implicitDefEqProofs only[Zu,Zv]<;>first|assumption|omega)|decide) only[t0,t1,t5,t59,t60,d1,e2,bs,ea,ZI,YO,ZT,Yw,Wi,Zja,ZC,N8G,Zr,Zs,Zd,Ze,Zf,Nat.reduceEqDiff,reduceCtorEq,TB0,TB1,TB2]
  refine⟨_,_,_,rfl,?_⟩
  exact .inl ⟨rfl,cnt - (c+1),by omega,⟨⟨c+1,bv',l++[v],j2,(by simp only[TB1,N8G]),by omega,rfl,(by simp only[TB0,N8G]),by simp[hl],s3⟩,(by simp only[TB0,N8G];exact t0'),(by simp only[TB0,N8G];exact t4'),(by simp only[TB0,N8G];exact t1'),(by simp only[TB1,N8G];exact t59'),k3,by rw[w.ro];have:=w.nx;omega⟩⟩
 ·have d1:decide (c<cnt)=false:=Zc hlt
  simp(maxSteps:=4000000) (disch:=first|assumption|omega|(simp -implicitDefEqProofs only[Zu,Zv]<;>first|assumption|omega)|decide) only[t59,t60,d1,ZI,Zja,ZC,N8G,Zr,Zs,Zd,Ze,Zf,Nat.reduceEqDiff,reduceCtorEq,TB0,TB1,TB2]
  refine⟨_,_,_,rfl,?_⟩
  exact .inr ⟨by simp,rfl,bv,l,j,(by simp only[TB0,N8G];exact t5'),(by simp only[TB0,N8G];exact t0'),(by simp only[TB0,N8G];exact t4'),(by simp only[TB0,N8G];exact t1'),by omega,s,k0,hro⟩
end
end Go.AI
namespace Go.AI
open Go
noncomputable section
theorem ZFv{cs:List AV}(h:cs.length=6)(w:List UInt8)(H:Heap):ZcL [.str [],nI .i64 0, .bool false,nI .i64 0, .str [], .nils, .nils] [(0,1, .str w),(1,6, .agg cs)] H= .val (.agg (.str w::cs)) H:=by
 match cs,h with
 |[a,b,c,d,e,f],_=>rfl
theorem ZDf{cs:List AV}(h:cs.length=6)(w:List UInt8)(e:Nat)(H:Heap):ZbR e 7 1 [.str [],nI .i64 0, .bool false,nI .i64 0, .str [], .nils, .nils] [(0,7, .agg (.str w::cs))] H= .val (.slice H.nx 0 1 none) (H.newRow e 7 (.str w::cs) true):=by
 match cs,h with
 |[a,b,c,d,e,f],_=>rfl
structure Vts(H:Heap)(b h i0:Nat)(sv:AV)(xs:List Nat)(bv:AV)(lo:Nat)(l:List (List UInt8×JV))(j:Nat):Prop where
 ok: ∃bb ls,RBuf H bv 100 7 ls lo∧(∀c o n q,bv= .slice c o n q→c=bb)∧ls.length=l.length∧(∀q,q<l.length→(l.getD q default).1.length≤7∧ ∃t,ls.getD q []= .str (l.getD q default).1::t∧VRs H (fun c=>c<lo∨c=bb) h (l.getD q default).2 t)
 good: ∀x∈l,Wd x.1∧OKW h x.2
 sum:(l.map fun e=>6*e.1.length+4+JV.tb h e.2).sum≤400*(j - i0)+170*l.length
 maker:Mk H b sv xs j
 le:i0≤j
theorem Vts.push{H HW H2:Heap}{b h i0:Nat}{sv:AV}{xs:List Nat}{bv:AV}{lo:Nat}{l:List (List UInt8×JV)}{j jw j2:Nat}{w:List UInt8}{v:JV}{cs:List AV}(s:Vts H b h i0 sv xs bv lo l j)(k0:Keep H HW [b])(k2:Keep HW H2 [b])(hb:b<lo)(hlo:lo≤H.nx)(hro2:H2.ro≤H2.nx)(hwd:Wd w)
  (hr:VRs H2 (fun c=>c<HW.nx) h v cs)(ho:OKW h v)(ht:JV.tb h v≤400*(j2 - jw)+120)(m:Mk H2 b sv xs j2)(hj0:j≤jw)(hj:jw≤j2)(hl:l.length≤100):
  ∃bv' H3,UX 100 7 104 bv (.slice H2.nx 0 1 none) (H2.newRow 100 7 (.str w::cs) true)= .val bv' H3∧Vts H3 b h i0 sv xs bv' lo (l++[(w,v)]) j2∧Below lo H2 H3:=by
 have hw:=hwd.len
 have k:=k0.trans k2 (by simp)
 obtain⟨bb,ls,rb,hbb,e,hv⟩:=s.ok
 have knx:=k.nx
 have knx0:=k0.nx
 have rb2:RBuf H2 bv 100 7 ls lo:=rb.below (fun c h1 h2=>k.get c h2 (by simp;omega)) k.ro k.nx
 obtain⟨bv',H3,ea,rb3,w3,only,fresh⟩:=ZdQ rb2 (bytes:=104) (by omega) (by omega) (by omega) hro2 (by omega) (x:= .str w::cs) (by rw[Zn,hr.vr.len])
 refine⟨bv',H3,ea,?_,w3⟩
 obtain⟨b3,hb3,hn3⟩: ∃b3,(∀c o n q,bv'= .slice c o n q→c=b3)∧H2.nx≤b3:=by
  rcases rb3 with⟨h1,_⟩|⟨_,c,r,rfl,_⟩
  ·simp at h1
  ·exact⟨c,fun _ _ _ _ e=>(by cases e;rfl),fresh _ _ _ _ rfl⟩
 have hbbH: ∀c o n q,bv= .slice c o n q→c<HW.nx:=by
  rcases rb with⟨_,rfl⟩|⟨_,c',r,rfl,hr',_⟩
  ·intro _ _ _ _ e;cases e
  ·intro _ _ _ _ e;cases e;exact ZF hr'.low knx0
 refine⟨⟨b3,ls++[.str w::cs],rb3,hb3,by simp[e],fun q hq=>?_⟩,fun x hx=>?_,?_,m.below hb w3,by have:=s.le;omega⟩
 ·rw[Qa,Qa,e]
  rw[Zq,Zn,Zw] at hq
  by_cases h1:q<l.length
  ·rw[if_pos h1,if_pos h1]
   obtain⟨a1,t,a2,a3⟩:=hv q h1
   refine⟨a1,t,a2,a3.move (fun c hc hS=>?_) (Z6 knx w3.nx) (fun c hc hS=>?_)⟩
   ·rw[only c (by omega) (fun b' o' l' q' e' hcb=>hS (.inr (by rw[hcb];exact hbb _ _ _ _ e'))),k.get c hc (by simp;intro h2;exact hS (.inl (by omega)))]
   ·rcases hS with h2|h2
    ·exact .inl h2
    ·omega
  ·have:q=l.length:=by omega
   subst this
   rw[if_neg h1,if_neg h1,if_pos rfl,if_pos rfl]
   refine⟨hw,cs,rfl,hr.move (fun c hc hS=>?_) w3.nx (fun c hc hS=>?_)⟩
   ·exact only c hc (fun b' o' l' q' e' hcb=>hS (by rw[hcb];exact hbbH _ _ _ _ e'))
   ·rcases hS with h2|h2
    ·show c<HW.nx;omega
    ·omega
 ·rcases List.mem_append.1 hx with h1|h1
  ·exact s.good x h1
  ·rw[List.mem_singleton.1 h1];exact⟨hwd,ho⟩
 ·have:=s.sum
  have:=s.le
  rw[List.map_append,List.sum_append,Zq]
  simp only[List.map_cons,List.map_nil,List.sum_cons,List.sum_nil,Zn,Zw]
  omega
structure VTI(p4:AV)(H0:Heap)(b lv i0 cnt:Nat)(sv:AV)(xs:List Nat)(m:Nat)(tm:TM)(H:Heap):Prop where
 i: ∃c bv l j,Zen tm=nI .i64 c∧c≤cnt∧m=cnt - c∧gt6 tm=bv∧l.length=c∧Vts H b (lv+1) i0 sv xs bv H0.nx l j
 t0:gt0 tm= .ptr b 0
 t4:gt4 tm=p4
 t1:gt1 tm=nI .i64 (lv+1)
 t84:ZcS tm=nI .i64 cnt
 k:Keep H0 H [b]
 ro:H.ro≤H.nx
theorem ZAZ{Zm:Lib}{fs:T CF}{fuel:Nat}(E:Env Zm fs fuel){k n lv b:Nat}{sv:AV}{xs:List Nat}(ih:VOk Zm fs fuel k (n+2) lv b sv xs)(hlv:lv≤100){p4:AV}{H0:Heap}{i0 cnt:Nat}(hb:b<H0.nx)(hc:cnt≤10)(y f d r)(x:X)(m:Nat)(tm:TM)(H:Heap)(hI:VTI p4 H0 b lv i0 cnt sv xs m tm H):
  ∃o tm' H',ZlP ⟨ZR (LK Zm fs fuel k) fs fuel (n+2),y,f,d,r⟩ tm H x= .ok o tm' H' x∧((o= .normal∧ ∃q,q<m∧VTI p4 H0 b lv i0 cnt sv xs q tm' H')∨(o≠ .normal∧(o= .exit 3∧ ∃bv l j,gt6 tm'=bv∧gt0 tm'= .ptr b 0∧gt4 tm'=p4∧l.length=cnt∧Vts H' b (lv+1) i0 sv xs bv H0.nx l j∧Keep H0 H' [b]∧H'.ro≤H'.nx))):=by
 obtain⟨⟨c,bv,l,j,t85,hcc,rfl,t6,hl,s⟩,t0,t4,t1,t84,k0,hro⟩:=hI
 have t0':=t0;have t4':=t4;have t1':=t1;have t6':=t6;have t84':=t84
 simp only[Zck] at t0
 simp only[ZbE] at t1
 simp only[Zj8] at t6
 simp only[ZE3] at t84
 simp only[ZE4] at t85
 by_cases hlt:c<cnt
 ·have d1:decide (c<cnt)=true:=Zh hlt
  obtain⟨w,jw,HW,ew,hw,mw,hjw,kw⟩:=Zl0 E (k:=k) (n:=n) s.maker hro
  have roW:HW.ro≤HW.nx:=by rw[kw.ro];have:=kw.nx;omega
  obtain⟨v,cs,j2,H2,e2,hr,ho,ht,m2,hj,k2⟩:=ih mw roW
  have ro2:H2.ro≤H2.nx:=by rw[k2.ro];have:=k2.nx;omega
  obtain⟨bv',H3,ea,s3,w3⟩:=s.push kw k2 hb k0.nx ro2 hw hr ho ht m2 hjw hj (by omega)
  have bd:=ZFv (cs:=cs) hr.vr.len w H2
  have bs:=ZDf (cs:=cs) hr.vr.len w 100 H2
  have k3:Keep H0 H3 [b]:=Below.keepS ((k0.trans kw (by simp)).trans k2 (by simp)) w3 (Zk _)
  rw[Wi] at ea bs
  simp(maxSteps:=4000000) (disch:=first|assumption|omega|(simp -implicitDefEqProofs only[Zu,Zv]<;>first|assumption|omega)|decide) only[t0,t1,t6,t84,t85,d1,ew,e2,bd,bs,ea,ZI,YO,ZT,Yw,Wi,ZlP,ZC,N8G,Zr,Zs,Zd,Ze,Zf,Nat.reduceEqDiff,reduceCtorEq,TB0,TB2,TB3]
  refine⟨_,_,_,rfl,?_⟩
  exact .inl ⟨rfl,cnt - (c+1),by omega,⟨⟨c+1,bv',l++[(w,v)],j2,(by simp only[TB2,N8G]),by omega,rfl,(by simp only[TB0,N8G]),by simp[hl],s3⟩,(by simp only[TB0,N8G];exact t0'),(by simp only[TB0,N8G];exact t4'),(by simp only[TB0,N8G];exact t1'),(by simp only[TB2,N8G];exact t84'),k3,by rw[w3.ro];have:=w3.nx;omega⟩⟩
 ·have d1:decide (c<cnt)=false:=Zc hlt
  simp(maxSteps:=4000000) (disch:=first|assumption|omega|(simp -implicitDefEqProofs only[Zu,Zv]<;>first|assumption|omega)|decide) only[t84,t85,d1,ZI,ZlP,ZC,N8G,Zr,Zs,Zd,Ze,Zf,Nat.reduceEqDiff,reduceCtorEq,TB0,TB2,TB3]
  refine⟨_,_,_,rfl,?_⟩
  exact .inr ⟨by simp,rfl,bv,l,j,(by simp only[TB0,N8G];exact t6'),(by simp only[TB0,N8G];exact t0'),(by simp only[TB0,N8G];exact t4'),by omega,s,k0,hro⟩
end
end Go.AI
namespace Go.AI
open Go
noncomputable section
theorem VRs.leaf{H:Heap}{S:Nat→Prop}{h k:Nat}{b:Bool}{n:Int}{s:List UInt8}(h1: -9223372036854775808≤n)(h2:n<9223372036854775808)(h3:s.length≤9000):VRs H S (h+1) (.mk k b n s [] []) [nI .i64 k, .bool b, .int .i64 n, .str s, .nils, .nils]:=
 ⟨.nils, .nils,[],[],rfl,h1,h2,h3,ZX _,ZX _,⟨Sl.nil ..,fun _ _ _ _ e=>by cases e⟩,⟨Sl.nil ..,fun _ _ _ _ e=>by cases e⟩,rfl,rfl,fun i hi=>absurd hi (Y9 _),fun i hi=>absurd hi (Y9 _)⟩
theorem ZA0{h k:Nat}{b:Bool}{n:Int}{s:List UInt8}(h1: -9223372036854775808≤n)(h2:n<9223372036854775808):JV.ok (h+1) (.mk k b n s [] []):=
by
 refine⟨⟨h1,h2⟩,ZX _,fun x hx=>?_,fun x hx=>?_⟩
 ·cases hx
 ·cases hx
theorem Zdd{h k:Nat}{b:Bool}{n:Int}{s:List UInt8}(h1: -9223372036854775808≤n)(h2:n<9223372036854775808)(hs:Wd s):OKW (h+1) (.mk k b n s [] []):=
 ⟨ZA0 h1 h2,hs,fun x hx=>(by cases hx),fun x hx=>by cases hx⟩
theorem Zg2:Wd []:=by unfold Wd;decide
theorem ZdV(h k:Nat)(b:Bool)(n:Int)(s:List UInt8):JV.tb (h+1) (.mk k b n s [] [])=50+6*s.length:=rfl
theorem ZyN(z:Int): -9223372036854775808≤IntKind.i64.wrap z∧IntKind.i64.wrap z<9223372036854775808:=by
 show -9223372036854775808≤(if (true&&decide (z % (18446744073709551616:Int)≥(9223372036854775808:Int)))=true then z % (18446744073709551616:Int) - 18446744073709551616 else z % (18446744073709551616:Int))∧(if (true&&decide (z % (18446744073709551616:Int)≥(9223372036854775808:Int)))=true then z % (18446744073709551616:Int) - 18446744073709551616 else z % (18446744073709551616:Int))<9223372036854775808
 by_cases h:z % (18446744073709551616:Int)≥(9223372036854775808:Int)
 ·rw[Zh h,if_pos (by rfl)];omega
 ·rw[Zc h,if_neg (by decide)];omega
theorem ZyO{z:Int}(h1: -9223372036854775808≤z)(h2:z<9223372036854775808):IntKind.i64.wrap z=z:=by
 show(if (true&&decide (z % (18446744073709551616:Int)≥(9223372036854775808:Int)))=true then z % (18446744073709551616:Int) - 18446744073709551616 else z % (18446744073709551616:Int))=z
 by_cases h:z % (18446744073709551616:Int)≥(9223372036854775808:Int)
 ·rw[Zh h,if_pos (by rfl)];omega
 ·rw[Zc h,if_neg (by decide)];omega
theorem ZyP{a b:Nat}(h1:a<4611686018427387904)(h2:b<4611686018427387904)(H:Heap):ZzN (nI .i64 a) (nI .i64 b) H= .val (.int .i64 ((a:Int) - b)) H:=by
 show ZS (kEq .i64 .i64) (VM .i64 (Zio (.ofNat a) (.ofNat b)) H)=_
 have e:Zio (.ofNat a) (.ofNat b)=(a:Int) - b:=by
  show cond (Nat.ble b a) (Int.ofNat (Nat.sub a b)) (Int.ofNat a - Int.ofNat b)=_
  cases h:Nat.ble b a with
  |true=>
   have:=ZO h
   show((a - b:Nat):Int)=_
   omega
  |false=>rfl
 rw[YM,YV,e,ZyO (by omega) (by omega)];rfl
theorem ZyQ(z:Int)(n:Nat)(H:Heap): ∃w,ZrA (.int .i64 z) (nI .i64 n) H= .val (.int .i64 w) H∧ -9223372036854775808≤w∧w<9223372036854775808:=by
 refine⟨_,?_,ZyN (Zip z (.ofNat (Nat.pow 2 (cond (Nat.ble n 64) n 64))))⟩
 show VM .i64 (Zip z (.ofNat (Nat.pow 2 (cond (Nat.ble n 64) n 64)))) H=_
 rw[YV]
theorem Vls.vr{H H':Heap}{b h i0:Nat}{sv:AV}{xs:List Nat}{bv:AV}{lo:Nat}{l:List JV}{j lo':Nat}(s:Vls H b h i0 sv xs bv lo l j)(hl:l.length≤9000)(hlo:lo'≤lo)(hg: ∀c,c<H.nx→lo≤c→H'.t.get c=H.t.get c)(hro:H'.ro=H.ro)(hn:H.nx≤H'.nx):
  VRs H' (fun c=>c<lo') (h+1) (.mk 5 false 0 [] l []) [nI .i64 5, .bool false,nI .i64 0, .str [],bv, .nils]:=by
 obtain⟨bb,ls,rb,hbb,e,hv⟩:=s.ok
 have rb':=rb.below (fun c h1 h2=>hg c h2 h1) hro hn
 refine⟨bv, .nils,ls,[],rfl,by omega,by omega,ZX _,hl,ZX _,⟨Sl.of_buf rb',fun c o n q ev=>?_⟩,⟨Sl.nil ..,fun _ _ _ _ e=>by cases e⟩,e,rfl,fun i hi=>?_,fun i hi=>absurd hi (Y9 _)⟩
 ·rcases rb with⟨_,rfl⟩|⟨_,c',r,rfl,_,h3⟩
  ·cases ev
  ·cases ev;show ¬c<lo';omega
 ·exact(hv i hi).move (fun c hc hS=>hg c hc (by rcases Nat.lt_or_ge c lo with h1|h1;exact absurd (.inl h1) hS;exact h1)) hn (fun c hc hS=> .inl (show c<lo from ZF hS hlo))
theorem Vls.okv{H:Heap}{b h i0:Nat}{sv:AV}{xs:List Nat}{bv:AV}{lo:Nat}{l:List JV}{j:Nat}(s:Vls H b h i0 sv xs bv lo l j):OKW (h+1) (.mk 5 false 0 [] l []):=
 ⟨⟨⟨by omega,by omega⟩,ZX _,fun x hx=>(s.good x hx).1,fun x hx=>by cases hx⟩,Zg2,fun x hx=>(s.good x hx).2,fun x hx=>by cases hx⟩
theorem Vls.tbv{H:Heap}{b h i0:Nat}{sv:AV}{xs:List Nat}{bv:AV}{lo:Nat}{l:List JV}{j:Nat}(s:Vls H b h i0 sv xs bv lo l j):JV.tb (h+1) (.mk 5 false 0 [] l [])≤50+400*(j - i0)+121*l.length:=by
 have:=s.sum
 show 50+6*0+(l.map fun x=>1+JV.tb h x).sum+0≤_
 omega
theorem Vts.vr{H H':Heap}{b h i0:Nat}{sv:AV}{xs:List Nat}{bv:AV}{lo:Nat}{l:List (List UInt8×JV)}{j lo':Nat}{z:Nat}(s:Vts H b h i0 sv xs bv lo l j)(hz:z≤1)(hl:l.length≤9000)(hlo:lo'≤lo)(hg: ∀c,c<H.nx→lo≤c→H'.t.get c=H.t.get c)(hro:H'.ro=H.ro)(hn:H.nx≤H'.nx):
  VRs H' (fun c=>c<lo') (h+1) (.mk 6 false z [] [] l) [nI .i64 6, .bool false,nI .i64 z, .str [], .nils,bv]:=by
 obtain⟨bb,ls,rb,hbb,e,hv⟩:=s.ok
 have rb':=rb.below (fun c h1 h2=>hg c h2 h1) hro hn
 refine⟨.nils,bv,[],ls,rfl,by omega,by omega,ZX _,ZX _,hl,⟨Sl.nil ..,fun _ _ _ _ e=>by cases e⟩,⟨Sl.of_buf rb',fun c o n q ev=>?_⟩,rfl,e,fun i hi=>absurd hi (Y9 _),fun i hi=>?_⟩
 ·rcases rb with⟨_,rfl⟩|⟨_,c',r,rfl,_,h3⟩
  ·cases ev
  ·cases ev;show ¬c<lo';omega
 ·obtain⟨h1,t,h2,h3⟩:=hv i hi
  refine⟨by omega,t,h2,h3.move (fun c hc hS=>hg c hc (by rcases Nat.lt_or_ge c lo with h1|h1;exact absurd (.inl h1) hS;exact h1)) hn (fun c hc hS=> .inl (show c<lo from ZF hS hlo))⟩
theorem Vts.okv{H:Heap}{b h i0:Nat}{sv:AV}{xs:List Nat}{bv:AV}{lo:Nat}{l:List (List UInt8×JV)}{j z:Nat}(s:Vts H b h i0 sv xs bv lo l j)(hz:z≤1)(hl:l.length≤12):OKW (h+1) (.mk 6 false z [] [] l):=
 ⟨⟨⟨by omega,by omega⟩,hl,fun x hx=>(by cases hx),fun x hx=>(s.good x hx).2.1⟩,Zg2,fun x hx=>(by cases hx),fun x hx=>⟨(s.good x hx).1,(s.good x hx).2.2⟩⟩
theorem Vts.tbv{H:Heap}{b h i0:Nat}{sv:AV}{xs:List Nat}{bv:AV}{lo:Nat}{l:List (List UInt8×JV)}{j z:Nat}(s:Vts H b h i0 sv xs bv lo l j):JV.tb (h+1) (.mk 6 false z [] [] l)≤50+400*(j - i0)+170*l.length:=by
 have:=s.sum
 show 50+6*0+0+(l.map fun e=>6*e.1.length+4+JV.tb h e.2).sum≤_
 omega
end
end Go.AI
namespace Go.AI
open Go
noncomputable section
theorem ZyR{z w:Int}{n:Nat}{H:Heap}(h:ZrA (.int .i64 z) (nI .i64 n) H= .val (.int .i64 w) H)(G:Heap):ZrA (.int .i64 z) (nI .i64 n) G= .val (.int .i64 w) G:=by
 have e: ∀K:Heap,ZrA (.int .i64 z) (nI .i64 n) K= .val (.int .i64 (IntKind.i64.wrap (Zip z (.ofNat (Nat.pow 2 (cond (Nat.ble n 64) n 64)))))) K:=fun K=>by
  show VM .i64 (Zip z (.ofNat (Nat.pow 2 (cond (Nat.ble n 64) n 64)))) K=_
  rw[YV]
 rw[e H] at h
 injection h with h1 _
 injection h1 with _ h2
 rw[e G,h2]
theorem ZqU{Zm:Lib}{fs:T CF}{fuel:Nat}(E:Env Zm fs fuel){k n b:Nat}(hk:1≤k){sv:AV}{xs:List Nat}{H:Heap}{i:Nat}(m:Mk H b sv xs i)(hro:H.ro≤H.nx){lv:Nat}(hq:lv=0∨xs.length≤i): ∃v cs j H',ZR (LK Zm fs fuel k) fs fuel (n+5) 66 [.ptr b 0,nI .i64 lv] H= .ret (.agg cs) H'∧VRs H' (fun c=>c<H.nx) (lv+1) v cs∧OKW (lv+1) v∧JV.tb (lv+1) v≤400*(j - i)+120∧Mk H' b sv xs j∧i≤j∧Keep H H' [b]:=by
 rw[ZV (ZN E.n66 (.inr rfl) _ _) E.f66]
 obtain⟨H1,hH1⟩: ∃G,H.new (rG 72 1 [nI .i64 0, .bool false,nI .i64 0, .str [], .nils, .nils] 0 false true true)=G:=⟨_,rfl⟩
 have nx1:H1.nx=H.nx+1:=by rw[←hH1];rfl
 have ro1:H1.ro=H.ro:=by rw[←hH1];rfl
 have k1:Keep H H1 []:=by rw[←hH1];exact Keep.new H _ _
 have m1:=m.keep k1
 have gb1:=m1.get
 have hbl:=m.low
 have hbr:=m.ro
 have hfew:=m.few
 have gr1:H1.t.get H.nx=some (rG 72 1 [nI .i64 0, .bool false,nI .i64 0, .str [], .nils, .nils] 0 false true true):=by rw[←hH1,ZP rfl]
 have el:=m.sl.len
 rw[ZA] at el
 have lsv:=m1.sl.low (n:=H.nx+1) (by omega)
 have ssv:=m1.sl.same
 have lb0:YA (H.nx+1) (.ptr b 0)=true:=ZL (by omega) 0
 have lb1:YA (H.nx+1) (.ptr b 1)=true:=ZL (by omega) 1
 obtain⟨r,j,er,lr,ler,ltr,oner,_⟩:=Uq E (k:=k) (n:=n+3) m1 (most:=5) (by omega) (by omega)
 have mr:=m1.put ltr
 obtain⟨H2,hH2⟩: ∃G,Heap.put H1 b (rG 130 1 [sv,nI .i64 j] 0 false true true)=G:=⟨_,rfl⟩
 rw[hH2] at er mr
 have nxH2:H2.nx=H1.nx:=by rw[←hH2];rfl
 have roH2:H2.ro=H1.ro:=by rw[←hH2];rfl
 have gtH2: ∀c,c≠b→H2.t.get c=H1.t.get c:=fun c hc=>by rw[←hH2,Z3 (fun h=>hc h.symm)]
 have kH2:Keep H1 H2 [b]:=by rw[←hH2];exact Keep.put fun _=>by simp
 have g2:H2.t.get H.nx=some (rG 72 1 [nI .i64 0, .bool false,nI .i64 0, .str [], .nils, .nils] 0 false true true):=by rw[gtH2 _ (by omega)];exact gr1
 have eo: ∀{q},ZR (LK Zm fs fuel k) fs fuel (q+1) 43 [.iface 3 (nI .i64 r)] H2= .ret (.agg [nI .i64 3, .bool false,nI .i64 r, .str [], .nils, .nils]) H2:=fun{q}=>ofInt (Zm:=Zm) (fs:=fs) (fuel:=fuel) E (k:=k) (n:=q) hk (z:= .ofNat r) (H:=H2) (by omega)
 obtain⟨H9,hH9⟩: ∃G,Heap.put H2 H.nx (rG 72 1 [nI .i64 3, .bool false,nI .i64 r, .str [], .nils, .nils] 0 false true true)=G:=⟨_,rfl⟩
 have hB:=Y8 (n:=6) (l:=[nI .i64 0, .bool false,nI .i64 0, .str [], .nils, .nils]) (vs:=[nI .i64 3, .bool false,nI .i64 r, .str [], .nils, .nils]) (b:=H.nx) (H:=H2) (by rfl) (by rfl) (by omega) (by omega) 72 1 false true
 rw[hH9] at hB
 have g9:H9.t.get H.nx=some (rG 72 1 [nI .i64 3, .bool false,nI .i64 r, .str [], .nils, .nils] 0 false true true):=by rw[←hH9,Yo]
 have ldx: ∀(kk:AV→CR),rV 6 true (some (rG 72 1 [nI .i64 3, .bool false,nI .i64 r, .str [], .nils, .nils] 0 false true true)) 0 kk=kk (.agg [nI .i64 3, .bool false,nI .i64 r, .str [], .nils, .nils]):=fun kk=>ZaH (n:=6) (l:=[nI .i64 3, .bool false,nI .i64 r, .str [], .nils, .nils]) rfl kk
 have w9:Below H.nx H2 H9:=by rw[←hH9];exact Below.put (Zk _)
 have fin:VRs H9 (fun c=>c<H.nx) (lv+1) (.mk 3 false (.ofNat r) [] [] []) [nI .i64 3, .bool false,nI .i64 r, .str [], .nils, .nils]:=VRs.leaf (n:= .ofNat r) (by have:(0:Int)≤ .ofNat r:=Int.natCast_nonneg r;omega) (by have:(.ofNat r:Int)=(r:Int):=rfl;omega) (ZX _)
 have okf:OKW (lv+1) (.mk 3 false (.ofNat r) [] [] []):=Zdd (by have:(0:Int)≤ .ofNat r:=Int.natCast_nonneg r;omega) (by have:(.ofNat r:Int)=(r:Int):=rfl;omega) Zg2
 have kf:Keep H H9 [b]:=Below.keepS (k1.trans' kH2) w9 (by omega)
 have mf:=mr.below (lo:=H.nx) (by omega) w9
 by_cases h0:lv=0
 ·subst h0
  have d0:decide (0≤0)=true:=rfl
  refine⟨_,_,j,H9,?_,fin,okf,by rw[ZdV];simp only[Zw];omega,mf,ler,kf⟩
  simp(maxSteps:=4000000) (disch:=first|assumption|omega|(simp -implicitDefEqProofs only[Zu,Zv]<;>first|assumption|omega)|decide) only[nx1,hH1,gb1,lsv,ssv,lb0,lb1,el,d0,U7,Y2,ZH,Yw,ZW,ZT,YO,er,eo,hB,g2,g9,ldx,c66,ZC,N8G,Zr,Zs,Zd,Ze,Zf,Nat.reducePow,Nat.reduceDiv,Nat.reduceMod,Nat.reduceEqDiff,reduceCtorEq,TB0,TB1,TB2,TB3]
 ·have d0:decide (lv≤0)=false:=Zc (by omega)
  have d1:decide (xs.length≤i)=true:=Zh (by omega)
  refine⟨_,_,j,H9,?_,fin,okf,by rw[ZdV];simp only[Zw];omega,mf,ler,kf⟩
  simp(maxSteps:=4000000) (disch:=first|assumption|omega|(simp -implicitDefEqProofs only[Zu,Zv]<;>first|assumption|omega)|decide) only[nx1,hH1,gb1,lsv,ssv,lb0,lb1,el,d0,U7,Y2,ZH,Yw,ZW,ZT,YO,d1,er,eo,hB,g2,g9,ldx,c66,ZC,N8G,Zr,Zs,Zd,Ze,Zf,Nat.reducePow,Nat.reduceDiv,Nat.reduceMod,Nat.reduceEqDiff,reduceCtorEq,TB0,TB1,TB2,TB3]
def ZfW(Zm:Lib)(fs:T CF)(fuel k n b lv:Nat)(sv:AV)(xs:List Nat)(H:Heap)(i:Nat):Prop:= ∃v cs j H',ZR (LK Zm fs fuel k) fs fuel (n+5) 66 [.ptr b 0,nI .i64 lv] H= .ret (.agg cs) H'∧VRs H' (fun c=>c<H.nx) (lv+1) v cs∧OKW (lv+1) v∧JV.tb (lv+1) v≤400*(j - i)+120∧Mk H' b sv xs j∧i≤j∧Keep H H' [b]
theorem ZyS{Zm:Lib}{fs:T CF}{fuel:Nat}(E:Env Zm fs fuel){k n b:Nat}(hk:1≤k){sv:AV}{xs:List Nat}{H:Heap}{i:Nat}(m:Mk H b sv xs i)(hro:H.ro≤H.nx){lv:Nat}(hl: ¬xs.length≤i){r j:Nat}{H1 H2:Heap}(hH1:H.new (rG 72 1 [nI .i64 0, .bool false,nI .i64 0, .str [], .nils, .nils] 0 false true true)=H1)(hH2:Heap.put H1 b (rG 130 1 [sv,nI .i64 j] 0 false true true)=H2)(hr:r=0)(hj:i<j)(mr:Mk H2 b sv xs j)
  (er:ZR (LK Zm fs fuel k) fs fuel (n+4) 67 [.ptr b 0,nI .i64 9] H1= .ret (nI .i64 r) H2):ZfW Zm fs fuel k n b (lv+1) sv xs H i:=by
 unfold ZfW
 have hlt:i<xs.length:=by omega
 have d0:decide (lv+1≤0)=false:=Zc (by omega)
 have d1:decide (xs.length≤i)=false:=Zc (by omega)
 rw[ZV (ZN E.n66 (.inr rfl) _ _) E.f66]
 have nx1:H1.nx=H.nx+1:=by rw[←hH1];rfl
 have ro1:H1.ro=H.ro:=by rw[←hH1];rfl
 have k1:Keep H H1 []:=by rw[←hH1];exact Keep.new H _ _
 have m1:=m.keep k1
 have gb1:=m1.get
 have hbl:=m.low
 have hbr:=m.ro
 have hfew:=m.few
 have gr1:H1.t.get H.nx=some (rG 72 1 [nI .i64 0, .bool false,nI .i64 0, .str [], .nils, .nils] 0 false true true):=by rw[←hH1,ZP rfl]
 have el:=m.sl.len
 rw[ZA] at el
 have lsv:=m1.sl.low (n:=H.nx+1) (by omega)
 have ssv:=m1.sl.same
 have lb0:YA (H.nx+1) (.ptr b 0)=true:=ZL (by omega) 0
 have lb1:YA (H.nx+1) (.ptr b 1)=true:=ZL (by omega) 1
 have nxH2:H2.nx=H1.nx:=by rw[←hH2];rfl
 have roH2:H2.ro=H1.ro:=by rw[←hH2];rfl
 have gtH2: ∀c,c≠b→H2.t.get c=H1.t.get c:=fun c hc=>by rw[←hH2,Z3 (fun h=>hc h.symm)]
 have kH2:Keep H1 H2 [b]:=by rw[←hH2];exact Keep.put fun _=>by simp
 have g2:H2.t.get H.nx=some (rG 72 1 [nI .i64 0, .bool false,nI .i64 0, .str [], .nils, .nils] 0 false true true):=by rw[gtH2 _ (by omega)];exact gr1
 have k2:Keep H H2 [b]:=k1.trans' kH2
 have eo:=fun{q}=>ZDd (Zm:=Zm) (fs:=fs) (fuel:=fuel) E (k:=k) (n:=q) hk (H:=H2) (by omega)
 obtain⟨H9,hH9⟩: ∃G,Heap.put H2 H.nx (rG 72 1 [nI .i64 1, .bool false,nI .i64 0, .str [], .nils, .nils] 0 false true true)=G:=⟨_,rfl⟩
 have hB:=Y8 (n:=6) (l:=[nI .i64 0, .bool false,nI .i64 0, .str [], .nils, .nils]) (vs:=[nI .i64 1, .bool false,nI .i64 0, .str [], .nils, .nils]) (b:=H.nx) (H:=H2) (by rfl) (by rfl) (by omega) (by omega) 72 1 false true
 rw[hH9] at hB
 have g9:H9.t.get H.nx=some (rG 72 1 [nI .i64 1, .bool false,nI .i64 0, .str [], .nils, .nils] 0 false true true):=by rw[←hH9,Yo]
 have ldx: ∀(kk:AV→CR),rV 6 true (some (rG 72 1 [nI .i64 1, .bool false,nI .i64 0, .str [], .nils, .nils] 0 false true true)) 0 kk=kk (.agg [nI .i64 1, .bool false,nI .i64 0, .str [], .nils, .nils]):=fun kk=>ZaH (n:=6) (l:=[nI .i64 1, .bool false,nI .i64 0, .str [], .nils, .nils]) rfl kk
 have w9:Below H.nx H2 H9:=by rw[←hH9];exact Below.put (Zk _)
 have c0:decide (r=0)=true:=Zh hr
 refine⟨.mk 1 false 0 [] [] [],[nI .i64 1, .bool false,nI .i64 0, .str [], .nils, .nils],j,H9,?_,VRs.leaf (n:=0) (by omega) (by omega) (by simp),Zdd (by omega) (by omega) Zg2,by rw[ZdV];simp only[Zw];omega,mr.below (lo:=H.nx) (by omega) w9,by omega,Below.keepS k2 w9 (by omega)⟩
 simp(maxSteps:=4000000) (disch:=first|assumption|omega|(simp -implicitDefEqProofs only[Zu,Zv]<;>first|assumption|omega)|decide) only[nx1,hH1,gb1,lsv,ssv,lb0,lb1,el,d0,d1,U7,Y2,ZH,Yw,ZW,ZT,YO,er,c0,eo,hB,g2,g9,ldx,c66,ZC,N8G,Zr,Zs,Zd,Ze,Zf,Nat.reducePow,Nat.reduceDiv,Nat.reduceMod,Nat.reduceEqDiff,reduceCtorEq,TB0,TB1,TB2,TB3]
theorem ZyT{Zm:Lib}{fs:T CF}{fuel:Nat}(E:Env Zm fs fuel){k n b:Nat}(hk:1≤k){sv:AV}{xs:List Nat}{H:Heap}{i:Nat}(m:Mk H b sv xs i)(hro:H.ro≤H.nx){lv:Nat}(hl: ¬xs.length≤i){r j:Nat}{H1 H2:Heap}(hH1:H.new (rG 72 1 [nI .i64 0, .bool false,nI .i64 0, .str [], .nils, .nils] 0 false true true)=H1)(hH2:Heap.put H1 b (rG 130 1 [sv,nI .i64 j] 0 false true true)=H2)(hr:r=1)(hj:i<j)(mr:Mk H2 b sv xs j)
  (er:ZR (LK Zm fs fuel k) fs fuel (n+4) 67 [.ptr b 0,nI .i64 9] H1= .ret (nI .i64 r) H2):ZfW Zm fs fuel k n b (lv+1) sv xs H i:=by
 unfold ZfW
 have hlt:i<xs.length:=by omega
 have d0:decide (lv+1≤0)=false:=Zc (by omega)
 have d1:decide (xs.length≤i)=false:=Zc (by omega)
 rw[ZV (ZN E.n66 (.inr rfl) _ _) E.f66]
 have nx1:H1.nx=H.nx+1:=by rw[←hH1];rfl
 have ro1:H1.ro=H.ro:=by rw[←hH1];rfl
 have k1:Keep H H1 []:=by rw[←hH1];exact Keep.new H _ _
 have m1:=m.keep k1
 have gb1:=m1.get
 have hbl:=m.low
 have hbr:=m.ro
 have hfew:=m.few
 have gr1:H1.t.get H.nx=some (rG 72 1 [nI .i64 0, .bool false,nI .i64 0, .str [], .nils, .nils] 0 false true true):=by rw[←hH1,ZP rfl]
 have el:=m.sl.len
 rw[ZA] at el
 have lsv:=m1.sl.low (n:=H.nx+1) (by omega)
 have ssv:=m1.sl.same
 have lb0:YA (H.nx+1) (.ptr b 0)=true:=ZL (by omega) 0
 have lb1:YA (H.nx+1) (.ptr b 1)=true:=ZL (by omega) 1
 have nxH2:H2.nx=H1.nx:=by rw[←hH2];rfl
 have roH2:H2.ro=H1.ro:=by rw[←hH2];rfl
 have gtH2: ∀c,c≠b→H2.t.get c=H1.t.get c:=fun c hc=>by rw[←hH2,Z3 (fun h=>hc h.symm)]
 have kH2:Keep H1 H2 [b]:=by rw[←hH2];exact Keep.put fun _=>by simp
 have g2:H2.t.get H.nx=some (rG 72 1 [nI .i64 0, .bool false,nI .i64 0, .str [], .nils, .nils] 0 false true true):=by rw[gtH2 _ (by omega)];exact gr1
 have k2:Keep H H2 [b]:=k1.trans' kH2
 have c0:decide (r=0)=false:=Zc (by omega)
 have c1:decide (r=1)=true:=Zh hr
 obtain⟨q,j3,eq,lq,leq,ltq,oneq,_⟩:=Uq E (k:=k) (n:=n+3) mr (most:=2) (by omega) (by omega)
 have mq:=mr.put ltq
 obtain⟨H3,hH3⟩: ∃G,Heap.put H2 b (rG 130 1 [sv,nI .i64 j3] 0 false true true)=G:=⟨_,rfl⟩
 rw[hH3] at eq mq
 have nxH3:H3.nx=H2.nx:=by rw[←hH3];rfl
 have roH3:H3.ro=H2.ro:=by rw[←hH3];rfl
 have gtH3: ∀c,c≠b→H3.t.get c=H2.t.get c:=fun c hc=>by rw[←hH3,Z3 (fun h=>hc h.symm)]
 have kH3:Keep H2 H3 [b]:=by rw[←hH3];exact Keep.put fun _=>by simp
 have g3:H3.t.get H.nx=some (rG 72 1 [nI .i64 0, .bool false,nI .i64 0, .str [], .nils, .nils] 0 false true true):=by rw[gtH3 _ (by omega)];exact g2
 have eo:=fun{p}=>ZDe (Zm:=Zm) (fs:=fs) (fuel:=fuel) E (k:=k) (n:=p) hk (b:=decide (q=1)) (H:=H3) (by omega)
 obtain⟨H9,hH9⟩: ∃G,Heap.put H3 H.nx (rG 72 1 [nI .i64 2, .bool (decide (q=1)),nI .i64 0, .str [], .nils, .nils] 0 false true true)=G:=⟨_,rfl⟩
 have hB:=Y8 (n:=6) (l:=[nI .i64 0, .bool false,nI .i64 0, .str [], .nils, .nils]) (vs:=[nI .i64 2, .bool (decide (q=1)),nI .i64 0, .str [], .nils, .nils]) (b:=H.nx) (H:=H3) (by rfl) (by rfl) (by omega) (by omega) 72 1 false true
 rw[hH9] at hB
 have g9:H9.t.get H.nx=some (rG 72 1 [nI .i64 2, .bool (decide (q=1)),nI .i64 0, .str [], .nils, .nils] 0 false true true):=by rw[←hH9,Yo]
 have ldx: ∀(kk:AV→CR),rV 6 true (some (rG 72 1 [nI .i64 2, .bool (decide (q=1)),nI .i64 0, .str [], .nils, .nils] 0 false true true)) 0 kk=kk (.agg [nI .i64 2, .bool (decide (q=1)),nI .i64 0, .str [], .nils, .nils]):=fun kk=>ZaH (n:=6) (l:=[nI .i64 2, .bool (decide (q=1)),nI .i64 0, .str [], .nils, .nils]) rfl kk
 have w9:Below H.nx H3 H9:=by rw[←hH9];exact Below.put (Zk _)
 refine⟨.mk 2 (decide (q=1)) 0 [] [] [],[nI .i64 2, .bool (decide (q=1)),nI .i64 0, .str [], .nils, .nils],j3,H9,?_,VRs.leaf (n:=0) (by omega) (by omega) (by simp),Zdd (by omega) (by omega) Zg2,by rw[ZdV];simp only[Zw];omega,mq.below (lo:=H.nx) (by omega) w9,by omega,Below.keepS (k2.trans kH3 (by simp)) w9 (by omega)⟩
 simp(maxSteps:=4000000) (disch:=first|assumption|omega|(simp -implicitDefEqProofs only[Zu,Zv]<;>first|assumption|omega)|decide) only[nx1,hH1,gb1,lsv,ssv,lb0,lb1,el,d0,d1,U7,Y2,ZH,Yw,ZW,ZT,YO,er,c0,c1,eq,eo,hB,g3,g9,ldx,c66,ZC,N8G,Zr,Zs,Zd,Ze,Zf,Nat.reducePow,Nat.reduceDiv,Nat.reduceMod,Nat.reduceEqDiff,reduceCtorEq,TB0,TB1,TB2,TB3]
theorem ZA1{Zm:Lib}{fs:T CF}{fuel:Nat}(E:Env Zm fs fuel){k n b:Nat}(hk:1≤k){sv:AV}{xs:List Nat}{H:Heap}{i:Nat}(m:Mk H b sv xs i)(hro:H.ro≤H.nx){lv:Nat}(hl: ¬xs.length≤i){r j:Nat}{H1 H2:Heap}(hH1:H.new (rG 72 1 [nI .i64 0, .bool false,nI .i64 0, .str [], .nils, .nils] 0 false true true)=H1)(hH2:Heap.put H1 b (rG 130 1 [sv,nI .i64 j] 0 false true true)=H2)(hr:r=2)(hj:i<j)(mr:Mk H2 b sv xs j)
  (er:ZR (LK Zm fs fuel k) fs fuel (n+4) 67 [.ptr b 0,nI .i64 9] H1= .ret (nI .i64 r) H2):ZfW Zm fs fuel k n b (lv+1) sv xs H i:=by
 unfold ZfW
 have hlt:i<xs.length:=by omega
 have d0:decide (lv+1≤0)=false:=Zc (by omega)
 have d1:decide (xs.length≤i)=false:=Zc (by omega)
 rw[ZV (ZN E.n66 (.inr rfl) _ _) E.f66]
 have nx1:H1.nx=H.nx+1:=by rw[←hH1];rfl
 have ro1:H1.ro=H.ro:=by rw[←hH1];rfl
 have k1:Keep H H1 []:=by rw[←hH1];exact Keep.new H _ _
 have m1:=m.keep k1
 have gb1:=m1.get
 have hbl:=m.low
 have hbr:=m.ro
 have hfew:=m.few
 have gr1:H1.t.get H.nx=some (rG 72 1 [nI .i64 0, .bool false,nI .i64 0, .str [], .nils, .nils] 0 false true true):=by rw[←hH1,ZP rfl]
 have el:=m.sl.len
 rw[ZA] at el
 have lsv:=m1.sl.low (n:=H.nx+1) (by omega)
 have ssv:=m1.sl.same
 have lb0:YA (H.nx+1) (.ptr b 0)=true:=ZL (by omega) 0
 have lb1:YA (H.nx+1) (.ptr b 1)=true:=ZL (by omega) 1
 have nxH2:H2.nx=H1.nx:=by rw[←hH2];rfl
 have roH2:H2.ro=H1.ro:=by rw[←hH2];rfl
 have gtH2: ∀c,c≠b→H2.t.get c=H1.t.get c:=fun c hc=>by rw[←hH2,Z3 (fun h=>hc h.symm)]
 have kH2:Keep H1 H2 [b]:=by rw[←hH2];exact Keep.put fun _=>by simp
 have g2:H2.t.get H.nx=some (rG 72 1 [nI .i64 0, .bool false,nI .i64 0, .str [], .nils, .nils] 0 false true true):=by rw[gtH2 _ (by omega)];exact gr1
 have k2:Keep H H2 [b]:=k1.trans' kH2
 have c0:decide (r=0)=false:=Zc (by omega)
 have c1:decide (r=1)=false:=Zc (by omega)
 have c2:decide (r=2)=true:=Zh hr
 obtain⟨q,j3,eq,lq,leq,ltq,oneq,_⟩:=Uq E (k:=k) (n:=n+3) mr (most:=65536) (by omega) (by omega)
 have mq:=mr.put ltq
 obtain⟨H3,hH3⟩: ∃G,Heap.put H2 b (rG 130 1 [sv,nI .i64 j3] 0 false true true)=G:=⟨_,rfl⟩
 rw[hH3] at eq mq
 have nxH3:H3.nx=H2.nx:=by rw[←hH3];rfl
 have roH3:H3.ro=H2.ro:=by rw[←hH3];rfl
 have gtH3: ∀c,c≠b→H3.t.get c=H2.t.get c:=fun c hc=>by rw[←hH3,Z3 (fun h=>hc h.symm)]
 have kH3:Keep H2 H3 [b]:=by rw[←hH3];exact Keep.put fun _=>by simp
 obtain⟨p,j4,ep,lp,lep,ltp,onep,_⟩:=Uq E (k:=k) (n:=n+3) mq (most:=49) (by omega) (by omega)
 have mp:=mq.put ltp
 obtain⟨H4,hH4⟩: ∃G,Heap.put H3 b (rG 130 1 [sv,nI .i64 j4] 0 false true true)=G:=⟨_,rfl⟩
 rw[hH4] at ep mp
 have nxH4:H4.nx=H3.nx:=by rw[←hH4];rfl
 have roH4:H4.ro=H3.ro:=by rw[←hH4];rfl
 have gtH4: ∀c,c≠b→H4.t.get c=H3.t.get c:=fun c hc=>by rw[←hH4,Z3 (fun h=>hc h.symm)]
 have kH4:Keep H3 H4 [b]:=by rw[←hH4];exact Keep.put fun _=>by simp
 have g4:H4.t.get H.nx=some (rG 72 1 [nI .i64 0, .bool false,nI .i64 0, .str [], .nils, .nils] 0 false true true):=by rw[gtH4 _ (by omega),gtH3 _ (by omega)];exact g2
 obtain⟨w,hw0,hw1,hw2⟩:=ZyQ ((q:Int) - (32768:Nat)) p H
 have es:=ZyR hw0
 have sb:=fun G=>ZyP (a:=q) (b:=32768) (by omega) (by omega) G
 have eo:=fun{p}=>ZFu (Zm:=Zm) (fs:=fs) (fuel:=fuel) E (k:=k) (n:=p) hk (z:=w) (H:=H4) (by omega)
 obtain⟨H9,hH9⟩: ∃G,Heap.put H4 H.nx (rG 72 1 [nI .i64 3, .bool false, .int .i64 w, .str [], .nils, .nils] 0 false true true)=G:=⟨_,rfl⟩
 have hB:=Y8 (n:=6) (l:=[nI .i64 0, .bool false,nI .i64 0, .str [], .nils, .nils]) (vs:=[nI .i64 3, .bool false, .int .i64 w, .str [], .nils, .nils]) (b:=H.nx) (H:=H4) (by rfl) (by rfl) (by omega) (by omega) 72 1 false true
 rw[hH9] at hB
 have g9:H9.t.get H.nx=some (rG 72 1 [nI .i64 3, .bool false, .int .i64 w, .str [], .nils, .nils] 0 false true true):=by rw[←hH9,Yo]
 have ldx: ∀(kk:AV→CR),rV 6 true (some (rG 72 1 [nI .i64 3, .bool false, .int .i64 w, .str [], .nils, .nils] 0 false true true)) 0 kk=kk (.agg [nI .i64 3, .bool false, .int .i64 w, .str [], .nils, .nils]):=fun kk=>ZaH (n:=6) (l:=[nI .i64 3, .bool false, .int .i64 w, .str [], .nils, .nils]) rfl kk
 have w9:Below H.nx H4 H9:=by rw[←hH9];exact Below.put (Zk _)
 refine⟨.mk 3 false w [] [] [],[nI .i64 3, .bool false, .int .i64 w, .str [], .nils, .nils],j4,H9,?_,VRs.leaf (n:=w) (by omega) (by omega) (by simp),Zdd (by omega) (by omega) Zg2,by rw[ZdV];simp only[Zw];omega,mp.below (lo:=H.nx) (by omega) w9,by omega,Below.keepS ((k2.trans kH3 (by simp)).trans kH4 (by simp)) w9 (by omega)⟩
 simp(maxSteps:=4000000) (disch:=first|assumption|omega|(simp -implicitDefEqProofs only[Zu,Zv]<;>first|assumption|omega)|decide) only[nx1,hH1,gb1,lsv,ssv,lb0,lb1,el,d0,d1,U7,Y2,ZH,Yw,ZW,ZT,er,c0,c1,c2,eq,ep,sb,es,eo,hB,g4,g9,ldx,c66,ZC,N8G,Zr,Zs,Zd,Ze,Zf,Nat.reducePow,Nat.reduceDiv,Nat.reduceMod,Nat.reduceEqDiff,reduceCtorEq,TB0,TB1,TB2,TB3]
theorem ZvM{Zm:Lib}{fs:T CF}{fuel:Nat}(E:Env Zm fs fuel){k n b:Nat}(hk:1≤k){sv:AV}{xs:List Nat}{H:Heap}{i:Nat}(m:Mk H b sv xs i)(hro:H.ro≤H.nx){lv:Nat}(hl: ¬xs.length≤i){r j:Nat}{H1 H2:Heap}(hH1:H.new (rG 72 1 [nI .i64 0, .bool false,nI .i64 0, .str [], .nils, .nils] 0 false true true)=H1)(hH2:Heap.put H1 b (rG 130 1 [sv,nI .i64 j] 0 false true true)=H2)(hr:r=3)(hj:i<j)(mr:Mk H2 b sv xs j)
  (er:ZR (LK Zm fs fuel k) fs fuel (n+4) 67 [.ptr b 0,nI .i64 9] H1= .ret (nI .i64 r) H2):ZfW Zm fs fuel k n b (lv+1) sv xs H i:=by
 unfold ZfW
 have hlt:i<xs.length:=by omega
 have d0:decide (lv+1≤0)=false:=Zc (by omega)
 have d1:decide (xs.length≤i)=false:=Zc (by omega)
 rw[ZV (ZN E.n66 (.inr rfl) _ _) E.f66]
 have nx1:H1.nx=H.nx+1:=by rw[←hH1];rfl
 have ro1:H1.ro=H.ro:=by rw[←hH1];rfl
 have k1:Keep H H1 []:=by rw[←hH1];exact Keep.new H _ _
 have m1:=m.keep k1
 have gb1:=m1.get
 have hbl:=m.low
 have hbr:=m.ro
 have hfew:=m.few
 have gr1:H1.t.get H.nx=some (rG 72 1 [nI .i64 0, .bool false,nI .i64 0, .str [], .nils, .nils] 0 false true true):=by rw[←hH1,ZP rfl]
 have el:=m.sl.len
 rw[ZA] at el
 have lsv:=m1.sl.low (n:=H.nx+1) (by omega)
 have ssv:=m1.sl.same
 have lb0:YA (H.nx+1) (.ptr b 0)=true:=ZL (by omega) 0
 have lb1:YA (H.nx+1) (.ptr b 1)=true:=ZL (by omega) 1
 have nxH2:H2.nx=H1.nx:=by rw[←hH2];rfl
 have roH2:H2.ro=H1.ro:=by rw[←hH2];rfl
 have gtH2: ∀c,c≠b→H2.t.get c=H1.t.get c:=fun c hc=>by rw[←hH2,Z3 (fun h=>hc h.symm)]
 have kH2:Keep H1 H2 [b]:=by rw[←hH2];exact Keep.put fun _=>by simp
 have g2:H2.t.get H.nx=some (rG 72 1 [nI .i64 0, .bool false,nI .i64 0, .str [], .nils, .nils] 0 false true true):=by rw[gtH2 _ (by omega)];exact gr1
 have k2:Keep H H2 [b]:=k1.trans' kH2
 have c0:decide (r=0)=false:=Zc (by omega)
 have c1:decide (r=1)=false:=Zc (by omega)
 have c2:decide (r=2)=false:=Zc (by omega)
 have c3:decide (r=3)=true:=Zh hr
 obtain⟨w,j3,H3,ew,hw,mw,hjw,kw⟩:=Zl0 E (k:=k) (n:=n+2) mr (by omega)
 have g3:H3.t.get H.nx=some (rG 72 1 [nI .i64 0, .bool false,nI .i64 0, .str [], .nils, .nils] 0 false true true):=by rw[kw.get _ (by omega) (by simp;omega)];exact g2
 have ro3:=kw.ro
 have nx3:=kw.nx
 have eo:=fun{p}=>ZBN (Zm:=Zm) (fs:=fs) (fuel:=fuel) E (k:=k) (n:=p) hk (s:=w) (H:=H3) (by omega)
 obtain⟨H9,hH9⟩: ∃G,Heap.put H3 H.nx (rG 72 1 [nI .i64 4, .bool false,nI .i64 0, .str w, .nils, .nils] 0 false true true)=G:=⟨_,rfl⟩
 have hB:=Y8 (n:=6) (l:=[nI .i64 0, .bool false,nI .i64 0, .str [], .nils, .nils]) (vs:=[nI .i64 4, .bool false,nI .i64 0, .str w, .nils, .nils]) (b:=H.nx) (H:=H3) (by rfl) (by rfl) (by omega) (by omega) 72 1 false true
 rw[hH9] at hB
 have g9:H9.t.get H.nx=some (rG 72 1 [nI .i64 4, .bool false,nI .i64 0, .str w, .nils, .nils] 0 false true true):=by rw[←hH9,Yo]
 have ldx: ∀(kk:AV→CR),rV 6 true (some (rG 72 1 [nI .i64 4, .bool false,nI .i64 0, .str w, .nils, .nils] 0 false true true)) 0 kk=kk (.agg [nI .i64 4, .bool false,nI .i64 0, .str w, .nils, .nils]):=fun kk=>ZaH (n:=6) (l:=[nI .i64 4, .bool false,nI .i64 0, .str w, .nils, .nils]) rfl kk
 have w9:Below H.nx H3 H9:=by rw[←hH9];exact Below.put (Zk _)
 refine⟨.mk 4 false 0 w [] [],[nI .i64 4, .bool false,nI .i64 0, .str w, .nils, .nils],j3,H9,?_,VRs.leaf (n:=0) (by omega) (by omega) (by have:=hw.len;omega),Zdd (by omega) (by omega) hw,by rw[ZdV];have:=hw.len;omega,mw.below (lo:=H.nx) (by omega) w9,by omega,Below.keepS (k2.trans kw (by simp)) w9 (by omega)⟩
 simp(maxSteps:=4000000) (disch:=first|assumption|omega|(simp -implicitDefEqProofs only[Zu,Zv]<;>first|assumption|omega)|decide) only[nx1,hH1,gb1,lsv,ssv,lb0,lb1,el,d0,d1,U7,Y2,ZH,Yw,ZW,ZT,YO,er,c0,c1,c2,c3,ew,eo,hB,g3,g9,ldx,c66,ZC,N8G,Zr,Zs,Zd,Ze,Zf,Nat.reducePow,Nat.reduceDiv,Nat.reduceMod,Nat.reduceEqDiff,reduceCtorEq,TB0,TB1,TB2,TB3]
theorem ZvN{Zm:Lib}{fs:T CF}{fuel:Nat}(E:Env Zm fs fuel){k n b:Nat}(hk:1≤k){sv:AV}{xs:List Nat}{H:Heap}{i:Nat}(m:Mk H b sv xs i)(hro:H.ro≤H.nx){lv:Nat}(hl: ¬xs.length≤i){r j:Nat}{H1 H2:Heap}(hH1:H.new (rG 72 1 [nI .i64 0, .bool false,nI .i64 0, .str [], .nils, .nils] 0 false true true)=H1)(hH2:Heap.put H1 b (rG 130 1 [sv,nI .i64 j] 0 false true true)=H2)(hr:r=4)(hj:i<j)(mr:Mk H2 b sv xs j)
  (er:ZR (LK Zm fs fuel k) fs fuel (n+4) 67 [.ptr b 0,nI .i64 9] H1= .ret (nI .i64 r) H2):ZfW Zm fs fuel k n b (lv+1) sv xs H i:=by
 unfold ZfW
 have hlt:i<xs.length:=by omega
 have d0:decide (lv+1≤0)=false:=Zc (by omega)
 have d1:decide (xs.length≤i)=false:=Zc (by omega)
 rw[ZV (ZN E.n66 (.inr rfl) _ _) E.f66]
 have nx1:H1.nx=H.nx+1:=by rw[←hH1];rfl
 have ro1:H1.ro=H.ro:=by rw[←hH1];rfl
 have k1:Keep H H1 []:=by rw[←hH1];exact Keep.new H _ _
 have m1:=m.keep k1
 have gb1:=m1.get
 have hbl:=m.low
 have hbr:=m.ro
 have hfew:=m.few
 have gr1:H1.t.get H.nx=some (rG 72 1 [nI .i64 0, .bool false,nI .i64 0, .str [], .nils, .nils] 0 false true true):=by rw[←hH1,ZP rfl]
 have el:=m.sl.len
 rw[ZA] at el
 have lsv:=m1.sl.low (n:=H.nx+1) (by omega)
 have ssv:=m1.sl.same
 have lb0:YA (H.nx+1) (.ptr b 0)=true:=ZL (by omega) 0
 have lb1:YA (H.nx+1) (.ptr b 1)=true:=ZL (by omega) 1
 have nxH2:H2.nx=H1.nx:=by rw[←hH2];rfl
 have roH2:H2.ro=H1.ro:=by rw[←hH2];rfl
 have gtH2: ∀c,c≠b→H2.t.get c=H1.t.get c:=fun c hc=>by rw[←hH2,Z3 (fun h=>hc h.symm)]
 have kH2:Keep H1 H2 [b]:=by rw[←hH2];exact Keep.put fun _=>by simp
 have g2:H2.t.get H.nx=some (rG 72 1 [nI .i64 0, .bool false,nI .i64 0, .str [], .nils, .nils] 0 false true true):=by rw[gtH2 _ (by omega)];exact gr1
 have k2:Keep H H2 [b]:=k1.trans' kH2
 have c0:decide (r=0)=false:=Zc (by omega)
 have c1:decide (r=1)=false:=Zc (by omega)
 have c2:decide (r=2)=false:=Zc (by omega)
 have c3:decide (r=3)=false:=Zc (by omega)
 have c4:decide (r=4)=true:=Zh hr
 obtain⟨w,j3,H3,ew,hw,mw,hjw,kw⟩:=Zl0 E (k:=k) (n:=n+2) mr (by omega)
 have g3:H3.t.get H.nx=some (rG 72 1 [nI .i64 0, .bool false,nI .i64 0, .str [], .nils, .nils] 0 false true true):=by rw[kw.get _ (by omega) (by simp;omega)];exact g2
 have ro3:=kw.ro
 have nx3:=kw.nx
 have eo:=fun{p}=>ZBN (Zm:=Zm) (fs:=fs) (fuel:=fuel) E (k:=k) (n:=p) hk (s:=w) (H:=H3) (by omega)
 obtain⟨H9,hH9⟩: ∃G,Heap.put H3 H.nx (rG 72 1 [nI .i64 4, .bool false,nI .i64 0, .str w, .nils, .nils] 0 false true true)=G:=⟨_,rfl⟩
 have hB:=Y8 (n:=6) (l:=[nI .i64 0, .bool false,nI .i64 0, .str [], .nils, .nils]) (vs:=[nI .i64 4, .bool false,nI .i64 0, .str w, .nils, .nils]) (b:=H.nx) (H:=H3) (by rfl) (by rfl) (by omega) (by omega) 72 1 false true
 rw[hH9] at hB
 have g9:H9.t.get H.nx=some (rG 72 1 [nI .i64 4, .bool false,nI .i64 0, .str w, .nils, .nils] 0 false true true):=by rw[←hH9,Yo]
 have ldx: ∀(kk:AV→CR),rV 6 true (some (rG 72 1 [nI .i64 4, .bool false,nI .i64 0, .str w, .nils, .nils] 0 false true true)) 0 kk=kk (.agg [nI .i64 4, .bool false,nI .i64 0, .str w, .nils, .nils]):=fun kk=>ZaH (n:=6) (l:=[nI .i64 4, .bool false,nI .i64 0, .str w, .nils, .nils]) rfl kk
 have w9:Below H.nx H3 H9:=by rw[←hH9];exact Below.put (Zk _)
 refine⟨.mk 4 false 0 w [] [],[nI .i64 4, .bool false,nI .i64 0, .str w, .nils, .nils],j3,H9,?_,VRs.leaf (n:=0) (by omega) (by omega) (by have:=hw.len;omega),Zdd (by omega) (by omega) hw,by rw[ZdV];have:=hw.len;omega,mw.below (lo:=H.nx) (by omega) w9,by omega,Below.keepS (k2.trans kw (by simp)) w9 (by omega)⟩
 simp(maxSteps:=4000000) (disch:=first|assumption|omega|(simp -implicitDefEqProofs only[Zu,Zv]<;>first|assumption|omega)|decide) only[nx1,hH1,gb1,lsv,ssv,lb0,lb1,el,d0,d1,U7,Y2,ZH,Yw,ZW,ZT,YO,er,c0,c1,c2,c3,c4,ew,eo,hB,g3,g9,ldx,c66,ZC,N8G,Zr,Zs,Zd,Ze,Zf,Nat.reducePow,Nat.reduceDiv,Nat.reduceMod,Nat.reduceEqDiff,reduceCtorEq,TB0,TB1,TB2,TB3]
end
end Go.AI
namespace Go.AI
open Go
noncomputable section
theorem Vls.start{H:Heap}{b h i:Nat}{sv:AV}{xs:List Nat}(m:Mk H b sv xs i)(lo:Nat):Vls H b h i sv xs .nils lo [] i:=
 ⟨⟨0,[], .inl ⟨rfl,rfl⟩,fun _ _ _ _ e=>(by cases e),rfl,fun q hq=>absurd hq (Y9 _)⟩,fun _ h=>(by cases h),by simp,m,Zk _⟩
theorem Vts.start{H:Heap}{b h i:Nat}{sv:AV}{xs:List Nat}(m:Mk H b sv xs i)(lo:Nat):Vts H b h i sv xs .nils lo [] i:=
 ⟨⟨0,[], .inl ⟨rfl,rfl⟩,fun _ _ _ _ e=>(by cases e),rfl,fun q hq=>absurd hq (Y9 _)⟩,fun _ h=>(by cases h),by simp,m,Zk _⟩
theorem Zde{H:Heap}{v:AV}{e sz lo:Nat}{ls:List (List AV)}(h:RBuf H v e sz ls lo):v= .nils∨ ∃b o m c,v= .slice b o m c:=by
 rcases h with⟨_,rfl⟩|⟨_,b,r,rfl,_⟩
 ·exact .inl rfl
 ·exact .inr ⟨_,_,_,_,rfl⟩
theorem Vls.keep{H H':Heap}{b h i0:Nat}{sv:AV}{xs:List Nat}{bv:AV}{lo:Nat}{l:List JV}{j j':Nat}(s:Vls H b h i0 sv xs bv lo l j)(hb:b<lo)(k:Keep H H' [b])(m:Mk H' b sv xs j')(hj:j≤j'):Vls H' b h i0 sv xs bv lo l j':=by
 obtain⟨bb,ls,rb,hbb,e,hv⟩:=s.ok
 refine⟨⟨bb,ls,rb.below (fun c h1 h2=>k.get c h2 (by simp;omega)) k.ro k.nx,hbb,e,fun q hq=>(hv q hq).move (fun c hc hS=>k.get c hc (by simp;intro h2;exact hS (.inl (by omega)))) k.nx (fun c hc hS=>hS)⟩,s.good,?_,m,Z6 s.le hj⟩
 have:=s.sum
 have:=s.le
 omega
theorem ZvO{Zm:Lib}{fs:T CF}{fuel:Nat}(E:Env Zm fs fuel){k n b:Nat}(hk:1≤k){sv:AV}{xs:List Nat}{H:Heap}{i:Nat}(m:Mk H b sv xs i)(hro:H.ro≤H.nx){lv:Nat}(ih:VOk Zm fs fuel k (n+4) lv b sv xs)(hlv:lv≤100)(hl: ¬xs.length≤i){r j:Nat}{H1 H2:Heap}(hH1:H.new (rG 72 1 [nI .i64 0, .bool false,nI .i64 0, .str [], .nils, .nils] 0 false true true)=H1)(hH2:Heap.put H1 b (rG 130 1 [sv,nI .i64 j] 0 false true true)=H2)(hr:r=5)(hj:i<j)(mr:Mk H2 b sv xs j)
  (er:ZR (LK Zm fs fuel k) fs fuel (n+4) 67 [.ptr b 0,nI .i64 9] H1= .ret (nI .i64 r) H2):ZfW Zm fs fuel k n b (lv+1) sv xs H i:=by
 unfold ZfW
 have hlt:i<xs.length:=by omega
 have d0:decide (lv+1≤0)=false:=Zc (by omega)
 have d1:decide (xs.length≤i)=false:=Zc (by omega)
 rw[ZV (ZN E.n66 (.inr rfl) _ _) E.f66]
 have nx1:H1.nx=H.nx+1:=by rw[←hH1];rfl
 have ro1:H1.ro=H.ro:=by rw[←hH1];rfl
 have k1:Keep H H1 []:=by rw[←hH1];exact Keep.new H _ _
 have m1:=m.keep k1
 have gb1:=m1.get
 have hbl:=m.low
 have hbr:=m.ro
 have hfew:=m.few
 have gr1:H1.t.get H.nx=some (rG 72 1 [nI .i64 0, .bool false,nI .i64 0, .str [], .nils, .nils] 0 false true true):=by rw[←hH1,ZP rfl]
 have el:=m.sl.len
 rw[ZA] at el
 have lsv:=m1.sl.low (n:=H.nx+1) (by omega)
 have ssv:=m1.sl.same
 have lb0:YA (H.nx+1) (.ptr b 0)=true:=ZL (by omega) 0
 have lb1:YA (H.nx+1) (.ptr b 1)=true:=ZL (by omega) 1
 have nxH2:H2.nx=H1.nx:=by rw[←hH2];rfl
 have roH2:H2.ro=H1.ro:=by rw[←hH2];rfl
 have gtH2: ∀c,c≠b→H2.t.get c=H1.t.get c:=fun c hc=>by rw[←hH2,Z3 (fun h=>hc h.symm)]
 have kH2:Keep H1 H2 [b]:=by rw[←hH2];exact Keep.put fun _=>by simp
 have g2:H2.t.get H.nx=some (rG 72 1 [nI .i64 0, .bool false,nI .i64 0, .str [], .nils, .nils] 0 false true true):=by rw[gtH2 _ (by omega)];exact gr1
 have k2:Keep H H2 [b]:=k1.trans' kH2
 have c0:decide (r=0)=false:=Zc (by omega)
 have c1:decide (r=1)=false:=Zc (by omega)
 have c2:decide (r=2)=false:=Zc (by omega)
 have c3:decide (r=3)=false:=Zc (by omega)
 have c4:decide (r=4)=false:=Zc (by omega)
 have c5:decide (r=5)=true:=Zh hr
 obtain⟨q,j3,eq,lq,leq,ltq,oneq,zq⟩:=Uq E (k:=k) (n:=n+3) mr (most:=4) (by omega) (by omega)
 have mq:=mr.put ltq
 obtain⟨H3,hH3⟩: ∃G,Heap.put H2 b (rG 130 1 [sv,nI .i64 j3] 0 false true true)=G:=⟨_,rfl⟩
 rw[hH3] at eq mq
 have nxH3:H3.nx=H2.nx:=by rw[←hH3];rfl
 have roH3:H3.ro=H2.ro:=by rw[←hH3];rfl
 have gtH3: ∀c,c≠b→H3.t.get c=H2.t.get c:=fun c hc=>by rw[←hH3,Z3 (fun h=>hc h.symm)]
 have kH3:Keep H2 H3 [b]:=by rw[←hH3];exact Keep.put fun _=>by simp
 simp(maxSteps:=4000000) (disch:=first|assumption|omega|(simp -implicitDefEqProofs only[Zu,Zv]<;>first|assumption|omega)|decide) only[nx1,hH1,gb1,lsv,ssv,lb0,lb1,el,d0,d1,U7,Y2,ZH,Yw,ZW,ZT,YO,er,c0,c1,c2,c3,c4,c5,eq,c66,ZC,N8G,Zr,Zs,Zd,Ze,Zf,Nat.reducePow,Nat.reduceDiv,Nat.reduceMod,Nat.reduceEqDiff,reduceCtorEq,TB0,TB1,TB2,TB3]
 generalize hL:WI (Zja _) fuel _ _ _=L
 obtain⟨o,tm1,H4,rfl,_,rfl,bv,l,j4,t5,t0,t4,t1,hlen,s,k4,ro4⟩:=YC (P:=fun T=>VLI (.ptr H.nx 0) H3 b lv j3 q sv xs q T H3) (Q:=fun o tm' H'=>o= .exit 1∧ ∃bv l j,gt5 tm'=bv∧gt0 tm'= .ptr b 0∧gt4 tm'= .ptr H.nx 0∧gt1 tm'=nI .i64 (lv+1)∧l.length=q∧Vls H' b (lv+1) j3 sv xs bv H3.nx l j∧Keep H3 H' [b]∧H'.ro≤H'.nx)
  (fun T hi'=>YE (VLI (.ptr H.nx 0) H3 b lv j3 q sv xs) _ (fun m tm H' h'=>ZtC E ih hlv (by omega) (by omega) _ _ _ _ _ m tm H' h') fuel q T H3 (by have:=E.big;omega) hi') hL
  ⟨⟨0, .nils,[],j3,rfl,ZX _,rfl,rfl,rfl,Vls.start mq _⟩,rfl,rfl,rfl,rfl,Keep.refl _ _,by omega⟩
 simp only[Zck] at t0
 simp only[ZbE] at t1
 simp only[Zj7] at t4
 simp only[ZfU] at t5
 obtain⟨p,j5,ep,lp,lep,ltp,onep,_⟩:=Uq E (k:=k) (n:=n+3) s.maker (most:=8) (by omega) (by omega)
 have mp:=s.maker.put ltp
 obtain⟨H5,hH5⟩: ∃G,Heap.put H4 b (rG 130 1 [sv,nI .i64 j5] 0 false true true)=G:=⟨_,rfl⟩
 rw[hH5] at ep mp
 have nxH5:H5.nx=H4.nx:=by rw[←hH5];rfl
 have roH5:H5.ro=H4.ro:=by rw[←hH5];rfl
 have gtH5: ∀c,c≠b→H5.t.get c=H4.t.get c:=fun c hc=>by rw[←hH5,Z3 (fun h=>hc h.symm)]
 have kH5:Keep H4 H5 [b]:=by rw[←hH5];exact Keep.put fun _=>by simp
 have nx4:=k4.nx
 have rr4:=k4.ro
 have g5:H5.t.get H.nx=some (rG 72 1 [nI .i64 0, .bool false,nI .i64 0, .str [], .nils, .nils] 0 false true true):=by rw[gtH5 _ (by omega),k4.get _ (by omega) (by simp;omega),gtH3 _ (by omega)];exact g2
 have s5:=s.keep (by omega) kH5 mp lep
 have k5:Keep H H5 [b]:=((k2.trans kH3 (by simp)).trans k4 (by simp)).trans kH5 (by simp)
 have bud:l.length=0∨i+2≤j3:=by
  rcases Nat.eq_zero_or_pos q with h0|h0
  ·exact .inl (by omega)
  ·refine .inr ?_
   have: ¬xs.length≤j:=fun hx=>by have:=(zq hx).1;omega
   have:=oneq (by omega)
   omega
 have tbs: ∀(l':List JV) (j':Nat) (bv':AV) (H':Heap),Vls H' b (lv+1) j3 sv xs bv' H3.nx l' j'→l'.length≤l.length+1→JV.tb (lv+1+1) (.mk 5 false 0 [] l' [])≤400*(j' - i)+120:=fun l' j' bv' H' s' hl'=>by
  have a:=s'.tbv
  have b:=s'.le
  rcases bud with h0|h0<;>omega
 have roH5x:H5.ro≤H5.nx:=by omega
 have gH5x:=g5
 by_cases h7:p=7
 ·have e7:decide (p=7)=true:=Zh h7
  obtain⟨v,cs,j6,H6,e6,hr6,ho6,ht6,m6,hj6,k6⟩:=ih s5.maker (by omega)
  have ro6:H6.ro≤H6.nx:=by rw[k6.ro];have:=k6.nx;omega
  obtain⟨bv',H7,ea,s7,w7⟩:=s5.push k6 (by omega) (by omega) ro6 hr6 ho6 ht6 m6 hj6 (by omega)
  have bs:=ZAY (cs:=cs) hr6.vr.len 72 H6
  have k7:Keep H H7 [b]:=Below.keepS (k5.trans k6 (by simp)) w7 (by omega)
  rw[Wi] at ea bs
  have nx6:=k6.nx
  have nx7:=w7.nx
  have roH7x:H7.ro≤H7.nx:=by rw[w7.ro];omega
  have gH7x:H7.t.get H.nx=some (rG 72 1 [nI .i64 0, .bool false,nI .i64 0, .str [], .nils, .nils] 0 false true true):=by rw[w7.get _ (by omega) (by omega),k6.get _ (by omega) (by simp;omega)];exact g5
  rw[w7.ro] at roH7x
  have ro7:=w7.ro
  have ro6':=k6.ro
  have roH7x:H7.ro≤H7.nx:=by omega
  obtain⟨bb,lsx,rbx, -, -, -⟩:=s7.ok
  obtain⟨H8,eo,k8⟩:=ofList E (k:=k) (n:=n+2) hk (v:=bv') (H:=H7) (Zde rbx) roH7x
  have g8:H8.t.get H.nx=some (rG 72 1 [nI .i64 0, .bool false,nI .i64 0, .str [], .nils, .nils] 0 false true true):=by rw[k8.get _ (by omega) (by simp)];exact gH7x
  have nx8:=k8.nx
  have ro8:=k8.ro
  obtain⟨H9,hH9⟩: ∃G,Heap.put H8 H.nx (rG 72 1 [nI .i64 5, .bool false,nI .i64 0, .str [],bv', .nils] 0 false true true)=G:=⟨_,rfl⟩
  have hB:=Y8 (n:=6) (l:=[nI .i64 0, .bool false,nI .i64 0, .str [], .nils, .nils]) (vs:=[nI .i64 5, .bool false,nI .i64 0, .str [],bv', .nils]) (b:=H.nx) (H:=H8) (by rfl) (by rfl) (by omega) (by omega) 72 1 false true
  rw[hH9] at hB
  have g9:H9.t.get H.nx=some (rG 72 1 [nI .i64 5, .bool false,nI .i64 0, .str [],bv', .nils] 0 false true true):=by rw[←hH9,Yo]
  have ldx: ∀(kk:AV→CR),rV 6 true (some (rG 72 1 [nI .i64 5, .bool false,nI .i64 0, .str [],bv', .nils] 0 false true true)) 0 kk=kk (.agg [nI .i64 5, .bool false,nI .i64 0, .str [],bv', .nils]):=fun kk=>ZaH (n:=6) (l:=[nI .i64 5, .bool false,nI .i64 0, .str [],bv', .nils]) rfl kk
  have w9:Below H.nx H8 H9:=by rw[←hH9];exact Below.put (Zk _)
  refine⟨.mk 5 false 0 [] (l++[v]) [],_,j6,H9,?_,s7.vr (by rw[Zq,Zn,Zw];omega) (by omega) (fun c hc hlo=>by rw[←hH9,Z3 (by omega),k8.get c (by omega) (by simp)]) (by rw[w9.ro,ro8]) (by have:=w9.nx;omega),s7.okv,tbs _ _ _ _ s7 (by simp),(s7.maker.keep k8).below (lo:=H.nx) (by omega) w9,by have:=s7.le;omega,Below.keepS (k7.trans k8 (by simp)) w9 (by omega)⟩
  simp(maxSteps:=4000000) (disch:=first|assumption|omega|(simp -implicitDefEqProofs only[Zu,Zv]<;>first|assumption|omega)|decide) only[t0,t1,t4,t5,ep,e7,e6,bs,ea,eo,hB,g8,g9,ldx,YO,ZW,ZT,Wi,c66,ZC,N8G,Zr,Zs,Zd,Ze,Zf,Nat.reducePow,Nat.reduceDiv,Nat.reduceMod,Nat.reduceEqDiff,reduceCtorEq,TB0,TB1,TB2,TB3]
 ·have e7:decide (p=7)=false:=Zc h7
  obtain⟨bb,lsx,rbx, -, -, -⟩:=s5.ok
  obtain⟨H8,eo,k8⟩:=ofList E (k:=k) (n:=n+2) hk (v:=bv) (H:=H5) (Zde rbx) roH5x
  have g8:H8.t.get H.nx=some (rG 72 1 [nI .i64 0, .bool false,nI .i64 0, .str [], .nils, .nils] 0 false true true):=by rw[k8.get _ (by omega) (by simp)];exact gH5x
  have nx8:=k8.nx
  have ro8:=k8.ro
  obtain⟨H9,hH9⟩: ∃G,Heap.put H8 H.nx (rG 72 1 [nI .i64 5, .bool false,nI .i64 0, .str [],bv, .nils] 0 false true true)=G:=⟨_,rfl⟩
  have hB:=Y8 (n:=6) (l:=[nI .i64 0, .bool false,nI .i64 0, .str [], .nils, .nils]) (vs:=[nI .i64 5, .bool false,nI .i64 0, .str [],bv, .nils]) (b:=H.nx) (H:=H8) (by rfl) (by rfl) (by omega) (by omega) 72 1 false true
  rw[hH9] at hB
  have g9:H9.t.get H.nx=some (rG 72 1 [nI .i64 5, .bool false,nI .i64 0, .str [],bv, .nils] 0 false true true):=by rw[←hH9,Yo]
  have ldx: ∀(kk:AV→CR),rV 6 true (some (rG 72 1 [nI .i64 5, .bool false,nI .i64 0, .str [],bv, .nils] 0 false true true)) 0 kk=kk (.agg [nI .i64 5, .bool false,nI .i64 0, .str [],bv, .nils]):=fun kk=>ZaH (n:=6) (l:=[nI .i64 5, .bool false,nI .i64 0, .str [],bv, .nils]) rfl kk
  have w9:Below H.nx H8 H9:=by rw[←hH9];exact Below.put (Zk _)
  refine⟨.mk 5 false 0 [] l [],_,j5,H9,?_,s5.vr (by omega) (by omega) (fun c hc hlo=>by rw[←hH9,Z3 (by omega),k8.get c (by omega) (by simp)]) (by rw[w9.ro,ro8]) (by have:=w9.nx;omega),s5.okv,tbs _ _ _ _ s5 (by simp),(s5.maker.keep k8).below (lo:=H.nx) (by omega) w9,by have:=s5.le;omega,Below.keepS (k5.trans k8 (by simp)) w9 (by omega)⟩
  simp(maxSteps:=4000000) (disch:=first|assumption|omega|(simp -implicitDefEqProofs only[Zu,Zv]<;>first|assumption|omega)|decide) only[t0,t1,t4,t5,ep,e7,eo,hB,g8,g9,ldx,YO,ZW,c66,ZC,N8G,Zr,Zs,Zd,Ze,Zf,Nat.reducePow,Nat.reduceDiv,Nat.reduceMod,Nat.reduceEqDiff,reduceCtorEq,TB0,TB1,TB2,TB3]
theorem ZvP{Zm:Lib}{fs:T CF}{fuel:Nat}(E:Env Zm fs fuel){k n b:Nat}(hk:1≤k){sv:AV}{xs:List Nat}{H:Heap}{i:Nat}(m:Mk H b sv xs i)(hro:H.ro≤H.nx){lv:Nat}(ih:VOk Zm fs fuel k (n+4) lv b sv xs)(hlv:lv≤100)(hl: ¬xs.length≤i){r j:Nat}{H1 H2:Heap}(hH1:H.new (rG 72 1 [nI .i64 0, .bool false,nI .i64 0, .str [], .nils, .nils] 0 false true true)=H1)(hH2:Heap.put H1 b (rG 130 1 [sv,nI .i64 j] 0 false true true)=H2)(hr:r=6)(hj:i<j)(mr:Mk H2 b sv xs j)
  (er:ZR (LK Zm fs fuel k) fs fuel (n+4) 67 [.ptr b 0,nI .i64 9] H1= .ret (nI .i64 r) H2):ZfW Zm fs fuel k n b (lv+1) sv xs H i:=by
 unfold ZfW
 have hlt:i<xs.length:=by omega
 have d0:decide (lv+1≤0)=false:=Zc (by omega)
 have d1:decide (xs.length≤i)=false:=Zc (by omega)
 rw[ZV (ZN E.n66 (.inr rfl) _ _) E.f66]
 have nx1:H1.nx=H.nx+1:=by rw[←hH1];rfl
 have ro1:H1.ro=H.ro:=by rw[←hH1];rfl
 have k1:Keep H H1 []:=by rw[←hH1];exact Keep.new H _ _
 have m1:=m.keep k1
 have gb1:=m1.get
 have hbl:=m.low
 have hbr:=m.ro
 have hfew:=m.few
 have gr1:H1.t.get H.nx=some (rG 72 1 [nI .i64 0, .bool false,nI .i64 0, .str [], .nils, .nils] 0 false true true):=by rw[←hH1,ZP rfl]
 have el:=m.sl.len
 rw[ZA] at el
 have lsv:=m1.sl.low (n:=H.nx+1) (by omega)
 have ssv:=m1.sl.same
 have lb0:YA (H.nx+1) (.ptr b 0)=true:=ZL (by omega) 0
 have lb1:YA (H.nx+1) (.ptr b 1)=true:=ZL (by omega) 1
 have nxH2:H2.nx=H1.nx:=by rw[←hH2];rfl
 have roH2:H2.ro=H1.ro:=by rw[←hH2];rfl
 have gtH2: ∀c,c≠b→H2.t.get c=H1.t.get c:=fun c hc=>by rw[←hH2,Z3 (fun h=>hc h.symm)]
 have kH2:Keep H1 H2 [b]:=by rw[←hH2];exact Keep.put fun _=>by simp
 have g2:H2.t.get H.nx=some (rG 72 1 [nI .i64 0, .bool false,nI .i64 0, .str [], .nils, .nils] 0 false true true):=by rw[gtH2 _ (by omega)];exact gr1
 have k2:Keep H H2 [b]:=k1.trans' kH2
 have c0:decide (r=0)=false:=Zc (by omega)
 have c1:decide (r=1)=false:=Zc (by omega)
 have c2:decide (r=2)=false:=Zc (by omega)
 have c3:decide (r=3)=false:=Zc (by omega)
 have c4:decide (r=4)=false:=Zc (by omega)
 have c5:decide (r=5)=false:=Zc (by omega)
 have c6:decide (r=6)=true:=Zh hr
 obtain⟨q,j3,eq,lq,leq,ltq,oneq,zq⟩:=Uq E (k:=k) (n:=n+3) mr (most:=4) (by omega) (by omega)
 have mq:=mr.put ltq
 obtain⟨H3,hH3⟩: ∃G,Heap.put H2 b (rG 130 1 [sv,nI .i64 j3] 0 false true true)=G:=⟨_,rfl⟩
 rw[hH3] at eq mq
 have nxH3:H3.nx=H2.nx:=by rw[←hH3];rfl
 have roH3:H3.ro=H2.ro:=by rw[←hH3];rfl
 have gtH3: ∀c,c≠b→H3.t.get c=H2.t.get c:=fun c hc=>by rw[←hH3,Z3 (fun h=>hc h.symm)]
 have kH3:Keep H2 H3 [b]:=by rw[←hH3];exact Keep.put fun _=>by simp
 simp(maxSteps:=4000000) (disch:=first|assumption|omega|(simp -implicitDefEqProofs only[Zu,Zv]<;>first|assumption|omega)|decide) only[nx1,hH1,gb1,lsv,ssv,lb0,lb1,el,d0,d1,U7,Y2,ZH,Yw,ZW,ZT,YO,er,c0,c1,c2,c3,c4,c5,c6,eq,c66,ZC,N8G,Zr,Zs,Zd,Ze,Zf,Nat.reducePow,Nat.reduceDiv,Nat.reduceMod,Nat.reduceEqDiff,reduceCtorEq,TB0,TB1,TB2,TB3]
 generalize hL:WI (Zja _) fuel _ _ _=L
 obtain⟨o,tm1,H4,rfl,_,rfl,bv,l,j4,t5,t0,t4,t1,hlen,s,k4,ro4⟩:=YC (P:=fun T=>VLI (.ptr H.nx 0) H3 b lv j3 q sv xs q T H3) (Q:=fun o tm' H'=>o= .exit 1∧ ∃bv l j,gt5 tm'=bv∧gt0 tm'= .ptr b 0∧gt4 tm'= .ptr H.nx 0∧gt1 tm'=nI .i64 (lv+1)∧l.length=q∧Vls H' b (lv+1) j3 sv xs bv H3.nx l j∧Keep H3 H' [b]∧H'.ro≤H'.nx)
  (fun T hi'=>YE (VLI (.ptr H.nx 0) H3 b lv j3 q sv xs) _ (fun m tm H' h'=>ZtC E ih hlv (by omega) (by omega) _ _ _ _ _ m tm H' h') fuel q T H3 (by have:=E.big;omega) hi') hL
  ⟨⟨0, .nils,[],j3,rfl,ZX _,rfl,rfl,rfl,Vls.start mq _⟩,rfl,rfl,rfl,rfl,Keep.refl _ _,by omega⟩
 simp only[Zck] at t0
 simp only[ZbE] at t1
 simp only[Zj7] at t4
 simp only[ZfU] at t5
 obtain⟨p,j5,ep,lp,lep,ltp,onep,_⟩:=Uq E (k:=k) (n:=n+3) s.maker (most:=8) (by omega) (by omega)
 have mp:=s.maker.put ltp
 obtain⟨H5,hH5⟩: ∃G,Heap.put H4 b (rG 130 1 [sv,nI .i64 j5] 0 false true true)=G:=⟨_,rfl⟩
 rw[hH5] at ep mp
 have nxH5:H5.nx=H4.nx:=by rw[←hH5];rfl
 have roH5:H5.ro=H4.ro:=by rw[←hH5];rfl
 have gtH5: ∀c,c≠b→H5.t.get c=H4.t.get c:=fun c hc=>by rw[←hH5,Z3 (fun h=>hc h.symm)]
 have kH5:Keep H4 H5 [b]:=by rw[←hH5];exact Keep.put fun _=>by simp
 have nx4:=k4.nx
 have rr4:=k4.ro
 have g5:H5.t.get H.nx=some (rG 72 1 [nI .i64 0, .bool false,nI .i64 0, .str [], .nils, .nils] 0 false true true):=by rw[gtH5 _ (by omega),k4.get _ (by omega) (by simp;omega),gtH3 _ (by omega)];exact g2
 have s5:=s.keep (by omega) kH5 mp lep
 have k5:Keep H H5 [b]:=((k2.trans kH3 (by simp)).trans k4 (by simp)).trans kH5 (by simp)
 have bud:l.length=0∨i+2≤j3:=by
  rcases Nat.eq_zero_or_pos q with h0|h0
  ·exact .inl (by omega)
  ·refine .inr ?_
   have: ¬xs.length≤j:=fun hx=>by have:=(zq hx).1;omega
   have:=oneq (by omega)
   omega
 have tbs: ∀(l':List JV) (j':Nat) (bv':AV) (H':Heap),Vls H' b (lv+1) j3 sv xs bv' H3.nx l' j'→l'.length≤l.length+1→JV.tb (lv+1+1) (.mk 5 false 0 [] l' [])≤400*(j' - i)+120:=fun l' j' bv' H' s' hl'=>by
  have a:=s'.tbv
  have b:=s'.le
  rcases bud with h0|h0<;>omega
 have roH5x:H5.ro≤H5.nx:=by omega
 have gH5x:=g5
 by_cases h7:p=7
 ·have e7:decide (p=7)=true:=Zh h7
  obtain⟨v,cs,j6,H6,e6,hr6,ho6,ht6,m6,hj6,k6⟩:=ih s5.maker (by omega)
  have ro6:H6.ro≤H6.nx:=by rw[k6.ro];have:=k6.nx;omega
  obtain⟨bv',H7,ea,s7,w7⟩:=s5.push k6 (by omega) (by omega) ro6 hr6 ho6 ht6 m6 hj6 (by omega)
  have bs:=ZAY (cs:=cs) hr6.vr.len 72 H6
  have k7:Keep H H7 [b]:=Below.keepS (k5.trans k6 (by simp)) w7 (by omega)
  rw[Wi] at ea bs
  have nx6:=k6.nx
  have nx7:=w7.nx
  have roH7x:H7.ro≤H7.nx:=by rw[w7.ro];omega
  have gH7x:H7.t.get H.nx=some (rG 72 1 [nI .i64 0, .bool false,nI .i64 0, .str [], .nils, .nils] 0 false true true):=by rw[w7.get _ (by omega) (by omega),k6.get _ (by omega) (by simp;omega)];exact g5
  rw[w7.ro] at roH7x
  have ro7:=w7.ro
  have ro6':=k6.ro
  have roH7x:H7.ro≤H7.nx:=by omega
  obtain⟨bb,lsx,rbx, -, -, -⟩:=s7.ok
  obtain⟨H8,eo,k8⟩:=ofList E (k:=k) (n:=n+2) hk (v:=bv') (H:=H7) (Zde rbx) roH7x
  have g8:H8.t.get H.nx=some (rG 72 1 [nI .i64 0, .bool false,nI .i64 0, .str [], .nils, .nils] 0 false true true):=by rw[k8.get _ (by omega) (by simp)];exact gH7x
  have nx8:=k8.nx
  have ro8:=k8.ro
  obtain⟨H9,hH9⟩: ∃G,Heap.put H8 H.nx (rG 72 1 [nI .i64 5, .bool false,nI .i64 0, .str [],bv', .nils] 0 false true true)=G:=⟨_,rfl⟩
  have hB:=Y8 (n:=6) (l:=[nI .i64 0, .bool false,nI .i64 0, .str [], .nils, .nils]) (vs:=[nI .i64 5, .bool false,nI .i64 0, .str [],bv', .nils]) (b:=H.nx) (H:=H8) (by rfl) (by rfl) (by omega) (by omega) 72 1 false true
  rw[hH9] at hB
  have g9:H9.t.get H.nx=some (rG 72 1 [nI .i64 5, .bool false,nI .i64 0, .str [],bv', .nils] 0 false true true):=by rw[←hH9,Yo]
  have ldx: ∀(kk:AV→CR),rV 6 true (some (rG 72 1 [nI .i64 5, .bool false,nI .i64 0, .str [],bv', .nils] 0 false true true)) 0 kk=kk (.agg [nI .i64 5, .bool false,nI .i64 0, .str [],bv', .nils]):=fun kk=>ZaH (n:=6) (l:=[nI .i64 5, .bool false,nI .i64 0, .str [],bv', .nils]) rfl kk
  have w9:Below H.nx H8 H9:=by rw[←hH9];exact Below.put (Zk _)
  refine⟨.mk 5 false 0 [] (l++[v]) [],_,j6,H9,?_,s7.vr (by rw[Zq,Zn,Zw];omega) (by omega) (fun c hc hlo=>by rw[←hH9,Z3 (by omega),k8.get c (by omega) (by simp)]) (by rw[w9.ro,ro8]) (by have:=w9.nx;omega),s7.okv,tbs _ _ _ _ s7 (by simp),(s7.maker.keep k8).below (lo:=H.nx) (by omega) w9,by have:=s7.le;omega,Below.keepS (k7.trans k8 (by simp)) w9 (by omega)⟩
  simp(maxSteps:=4000000) (disch:=first|assumption|omega|(simp -implicitDefEqProofs only[Zu,Zv]<;>first|assumption|omega)|decide) only[t0,t1,t4,t5,ep,e7,e6,bs,ea,eo,hB,g8,g9,ldx,YO,ZW,ZT,Wi,c66,ZC,N8G,Zr,Zs,Zd,Ze,Zf,Nat.reducePow,Nat.reduceDiv,Nat.reduceMod,Nat.reduceEqDiff,reduceCtorEq,TB0,TB1,TB2,TB3]
 ·have e7:decide (p=7)=false:=Zc h7
  obtain⟨bb,lsx,rbx, -, -, -⟩:=s5.ok
  obtain⟨H8,eo,k8⟩:=ofList E (k:=k) (n:=n+2) hk (v:=bv) (H:=H5) (Zde rbx) roH5x
  have g8:H8.t.get H.nx=some (rG 72 1 [nI .i64 0, .bool false,nI .i64 0, .str [], .nils, .nils] 0 false true true):=by rw[k8.get _ (by omega) (by simp)];exact gH5x
  have nx8:=k8.nx
  have ro8:=k8.ro
  obtain⟨H9,hH9⟩: ∃G,Heap.put H8 H.nx (rG 72 1 [nI .i64 5, .bool false,nI .i64 0, .str [],bv, .nils] 0 false true true)=G:=⟨_,rfl⟩
  have hB:=Y8 (n:=6) (l:=[nI .i64 0, .bool false,nI .i64 0, .str [], .nils, .nils]) (vs:=[nI .i64 5, .bool false,nI .i64 0, .str [],bv, .nils]) (b:=H.nx) (H:=H8) (by rfl) (by rfl) (by omega) (by omega) 72 1 false true
  rw[hH9] at hB
  have g9:H9.t.get H.nx=some (rG 72 1 [nI .i64 5, .bool false,nI .i64 0, .str [],bv, .nils] 0 false true true):=by rw[←hH9,Yo]
  have ldx: ∀(kk:AV→CR),rV 6 true (some (rG 72 1 [nI .i64 5, .bool false,nI .i64 0, .str [],bv, .nils] 0 false true true)) 0 kk=kk (.agg [nI .i64 5, .bool false,nI .i64 0, .str [],bv, .nils]):=fun kk=>ZaH (n:=6) (l:=[nI .i64 5, .bool false,nI .i64 0, .str [],bv, .nils]) rfl kk
  have w9:Below H.nx H8 H9:=by rw[←hH9];exact Below.put (Zk _)
  refine⟨.mk 5 false 0 [] l [],_,j5,H9,?_,s5.vr (by omega) (by omega) (fun c hc hlo=>by rw[←hH9,Z3 (by omega),k8.get c (by omega) (by simp)]) (by rw[w9.ro,ro8]) (by have:=w9.nx;omega),s5.okv,tbs _ _ _ _ s5 (by simp),(s5.maker.keep k8).below (lo:=H.nx) (by omega) w9,by have:=s5.le;omega,Below.keepS (k5.trans k8 (by simp)) w9 (by omega)⟩
  simp(maxSteps:=4000000) (disch:=first|assumption|omega|(simp -implicitDefEqProofs only[Zu,Zv]<;>first|assumption|omega)|decide) only[t0,t1,t4,t5,ep,e7,eo,hB,g8,g9,ldx,YO,ZW,c66,ZC,N8G,Zr,Zs,Zd,Ze,Zf,Nat.reducePow,Nat.reduceDiv,Nat.reduceMod,Nat.reduceEqDiff,reduceCtorEq,TB0,TB1,TB2,TB3]
end
end Go.AI
namespace Go.AI
open Go
noncomputable section
theorem ZnN{Zm:Lib}{fs:T CF}{fuel:Nat}(E:Env Zm fs fuel){k n b:Nat}(hk:1≤k){sv:AV}{xs:List Nat}{H:Heap}{i:Nat}(m:Mk H b sv xs i)(hro:H.ro≤H.nx){lv:Nat}(ih:VOk Zm fs fuel k (n+4) lv b sv xs)(hlv:lv≤100)(hl: ¬xs.length≤i){r j:Nat}{H1 H2:Heap}(hH1:H.new (rG 72 1 [nI .i64 0, .bool false,nI .i64 0, .str [], .nils, .nils] 0 false true true)=H1)(hH2:Heap.put H1 b (rG 130 1 [sv,nI .i64 j] 0 false true true)=H2)(hr:r=7∨r=8)(hj:i<j)(mr:Mk H2 b sv xs j)
  (er:ZR (LK Zm fs fuel k) fs fuel (n+4) 67 [.ptr b 0,nI .i64 9] H1= .ret (nI .i64 r) H2):ZfW Zm fs fuel k n b (lv+1) sv xs H i:=by
 unfold ZfW
 have hlt:i<xs.length:=by omega
 have d0:decide (lv+1≤0)=false:=Zc (by omega)
 have d1:decide (xs.length≤i)=false:=Zc (by omega)
 rw[ZV (ZN E.n66 (.inr rfl) _ _) E.f66]
 have nx1:H1.nx=H.nx+1:=by rw[←hH1];rfl
 have ro1:H1.ro=H.ro:=by rw[←hH1];rfl
 have k1:Keep H H1 []:=by rw[←hH1];exact Keep.new H _ _
 have m1:=m.keep k1
 have gb1:=m1.get
 have hbl:=m.low
 have hbr:=m.ro
 have hfew:=m.few
 have gr1:H1.t.get H.nx=some (rG 72 1 [nI .i64 0, .bool false,nI .i64 0, .str [], .nils, .nils] 0 false true true):=by rw[←hH1,ZP rfl]
 have el:=m.sl.len
 rw[ZA] at el
 have lsv:=m1.sl.low (n:=H.nx+1) (by omega)
 have ssv:=m1.sl.same
 have lb0:YA (H.nx+1) (.ptr b 0)=true:=ZL (by omega) 0
 have lb1:YA (H.nx+1) (.ptr b 1)=true:=ZL (by omega) 1
 have nxH2:H2.nx=H1.nx:=by rw[←hH2];rfl
 have roH2:H2.ro=H1.ro:=by rw[←hH2];rfl
 have gtH2: ∀c,c≠b→H2.t.get c=H1.t.get c:=fun c hc=>by rw[←hH2,Z3 (fun h=>hc h.symm)]
 have kH2:Keep H1 H2 [b]:=by rw[←hH2];exact Keep.put fun _=>by simp
 have g2:H2.t.get H.nx=some (rG 72 1 [nI .i64 0, .bool false,nI .i64 0, .str [], .nils, .nils] 0 false true true):=by rw[gtH2 _ (by omega)];exact gr1
 have k2:Keep H H2 [b]:=k1.trans' kH2
 have c0:decide (r=0)=false:=Zc (by omega)
 have c1:decide (r=1)=false:=Zc (by omega)
 have c2:decide (r=2)=false:=Zc (by omega)
 have c3:decide (r=3)=false:=Zc (by omega)
 have c4:decide (r=4)=false:=Zc (by omega)
 have c5:decide (r=5)=false:=Zc (by omega)
 have c6:decide (r=6)=false:=Zc (by omega)
 obtain⟨q,j3,eq,lq,leq,ltq,oneq,zq⟩:=Uq E (k:=k) (n:=n+3) mr (most:=4) (by omega) (by omega)
 have mq:=mr.put ltq
 obtain⟨H3,hH3⟩: ∃G,Heap.put H2 b (rG 130 1 [sv,nI .i64 j3] 0 false true true)=G:=⟨_,rfl⟩
 rw[hH3] at eq mq
 have nxH3:H3.nx=H2.nx:=by rw[←hH3];rfl
 have roH3:H3.ro=H2.ro:=by rw[←hH3];rfl
 have gtH3: ∀c,c≠b→H3.t.get c=H2.t.get c:=fun c hc=>by rw[←hH3,Z3 (fun h=>hc h.symm)]
 have kH3:Keep H2 H3 [b]:=by rw[←hH3];exact Keep.put fun _=>by simp
 simp(maxSteps:=4000000) (disch:=first|assumption|omega|(simp -implicitDefEqProofs only[Zu,Zv]<;>first|assumption|omega)|decide) only[nx1,hH1,gb1,lsv,ssv,lb0,lb1,el,d0,d1,U7,Y2,ZH,Yw,ZW,ZT,YO,er,c0,c1,c2,c3,c4,c5,c6,eq,c66,ZC,N8G,Zr,Zs,Zd,Ze,Zf,Nat.reducePow,Nat.reduceDiv,Nat.reduceMod,Nat.reduceEqDiff,reduceCtorEq,TB0,TB1,TB2,TB3]
 generalize hL:WI (ZlP _) fuel _ _ _=L
 obtain⟨o,tm1,H4,rfl,_,rfl,bv,l,j4,t6,t0,t4,hlen,s,k4,ro4⟩:=YC (P:=fun T=>VTI (.ptr H.nx 0) H3 b lv j3 q sv xs q T H3) (Q:=fun o tm' H'=>o= .exit 3∧ ∃bv l j,gt6 tm'=bv∧gt0 tm'= .ptr b 0∧gt4 tm'= .ptr H.nx 0∧l.length=q∧Vts H' b (lv+1) j3 sv xs bv H3.nx l j∧Keep H3 H' [b]∧H'.ro≤H'.nx)
  (fun T hi'=>YE (VTI (.ptr H.nx 0) H3 b lv j3 q sv xs) _ (fun m tm H' h'=>ZAZ E (n:=n+2) ih hlv (by omega) (by omega) _ _ _ _ _ m tm H' h') fuel q T H3 (by have:=E.big;omega) hi') hL
  ⟨⟨0, .nils,[],j3,rfl,ZX _,rfl,rfl,rfl,Vts.start mq _⟩,rfl,rfl,rfl,rfl,Keep.refl _ _,by omega⟩
 simp only[Zck] at t0
 simp only[Zj7] at t4
 simp only[Zj8] at t6
 have nx4:=k4.nx
 have rr4:=k4.ro
 have g4:H4.t.get H.nx=some (rG 72 1 [nI .i64 0, .bool false,nI .i64 0, .str [], .nils, .nils] 0 false true true):=by rw[k4.get _ (by omega) (by simp;omega),gtH3 _ (by omega)];exact g2
 have k04:Keep H H4 [b]:=(k2.trans kH3 (by simp)).trans k4 (by simp)
 have bud:l.length=0∨i+2≤j3:=by
  rcases Nat.eq_zero_or_pos q with h0|h0
  ·exact .inl (by omega)
  ·refine .inr ?_
   have: ¬xs.length≤j:=fun hx=>by have:=(zq hx).1;omega
   have:=oneq (by omega)
   omega
 obtain⟨bb,lsx,rbx, -, -, -⟩:=s.ok
 obtain⟨H8,eo,k8⟩:=ZAX E (k:=k) (n:=n+2) hk (v:=bv) (H:=H4) (Zde rbx) ro4
 have nx8:=k8.nx
 have ro8:=k8.ro
 obtain⟨HA,hHA⟩: ∃G,Heap.new H8 (rG 72 1 [nI .i64 6, .bool false,nI .i64 0, .str [], .nils,bv] 0 false true true)=G:=⟨_,rfl⟩
 have hA:=Y8 (n:=6) (l:=[nI .i64 0, .bool false,nI .i64 0, .str [], .nils, .nils]) (vs:=[nI .i64 6, .bool false,nI .i64 0, .str [], .nils,bv]) (b:=H8.nx) (H:=H8.new (rG 72 1 [nI .i64 0, .bool false,nI .i64 0, .str [], .nils, .nils] 0 false true true)) (by rfl) (by rfl) (by omega) (show H8.ro≤H8.nx by omega) 72 1 false true
 rw[VX rfl,hHA] at hA
 have nxA:HA.nx=H8.nx+1:=by rw[←hHA];rfl
 have roA:HA.ro=H8.ro:=by rw[←hHA];rfl
 have kA:Keep H8 HA []:=by rw[←hHA];exact Keep.new H8 _ _
 have mA:=(s.maker.keep k8).keep kA
 obtain⟨p,j5,ep,lp,lep,ltp,onep,_⟩:=Uq E (k:=k) (n:=n+3) mA (most:=30) (by omega) (by omega)
 have mp:=mA.put ltp
 obtain⟨H5,hH5⟩: ∃G,Heap.put HA b (rG 130 1 [sv,nI .i64 j5] 0 false true true)=G:=⟨_,rfl⟩
 rw[hH5] at ep mp
 have nxH5:H5.nx=HA.nx:=by rw[←hH5];rfl
 have roH5:H5.ro=HA.ro:=by rw[←hH5];rfl
 have gtH5: ∀c,c≠b→H5.t.get c=HA.t.get c:=fun c hc=>by rw[←hH5,Z3 (fun h=>hc h.symm)]
 have kH5:Keep HA H5 [b]:=by rw[←hH5];exact Keep.put fun _=>by simp
 have g7:H5.t.get H8.nx=some (rG 72 1 [nI .i64 6, .bool false,nI .i64 0, .str [], .nils,bv] 0 false true true):=by rw[gtH5 _ (by omega),←hHA,ZP rfl]
 have gA:HA.t.get H8.nx=some (rG 72 1 [nI .i64 6, .bool false,nI .i64 0, .str [], .nils,bv] 0 false true true):=by rw[←hHA,ZP rfl]
 have g5:H5.t.get H.nx=some (rG 72 1 [nI .i64 0, .bool false,nI .i64 0, .str [], .nils, .nils] 0 false true true):=by rw[gtH5 _ (by omega),kA.get _ (by omega) (by simp),k8.get _ (by omega) (by simp)];exact g4
 have k5:Keep H H5 [b]:=((k04.trans k8 (by simp)).trans kA (by simp)).trans kH5 (by simp)
 have sl4:=s.le
 have tbs: ∀z,JV.tb (lv+1+1) (.mk 6 false z [] [] l)≤400*(j5 - i)+120:=fun z=>by
  have a:JV.tb (lv+1+1) (.mk 6 false z [] [] l)≤50+400*(j4 - j3)+170*l.length:=by
   have:=s.sum
   show 50+6*0+0+(l.map fun e=>6*e.1.length+4+JV.tb (lv+1) e.2).sum≤_
   omega
  rcases bud with h0|h0<;>omega
 have hg5: ∀c,c<H4.nx→H3.nx≤c→H5.t.get c=H4.t.get c:=fun c hc hlo=>by rw[gtH5 _ (by omega),kA.get _ (by omega) (by simp),k8.get _ (by omega) (by simp)]
 by_cases h7:p=29
 ·have e7:decide (p=29)=true:=Zh h7
  have st:=Zbc (fz:=0) (b:=H8.nx) (H:=H5) (l:=[nI .i64 6, .bool false,nI .i64 0, .str [], .nils,bv]) (o:=2) (v:=nI .i64 1) rfl (by simp) (by omega) (by omega) 72 1 false true
  have st:stN 1 (some (rG 72 1 [nI .i64 6, .bool false,nI .i64 0, .str [], .nils,bv] 0 false true true)) H8.nx 2 (nI .i64 1) H5= .val Yx (H5.put H8.nx (rG 72 1 [nI .i64 6, .bool false,nI .i64 1, .str [], .nils,bv] 0 false true true)):=st
  obtain⟨H6,hH6⟩: ∃G,Heap.put H5 H8.nx (rG 72 1 [nI .i64 6, .bool false,nI .i64 1, .str [], .nils,bv] 0 false true true)=G:=⟨_,rfl⟩
  rw[hH6] at st
  have g6:H6.t.get H8.nx=some (rG 72 1 [nI .i64 6, .bool false,nI .i64 1, .str [], .nils,bv] 0 false true true):=by rw[←hH6,Yo]
  have gz6:H6.t.get H.nx=some (rG 72 1 [nI .i64 0, .bool false,nI .i64 0, .str [], .nils, .nils] 0 false true true):=by rw[←hH6,Z3 (by omega)];exact g5
  have ro6:H6.ro=H5.ro:=by rw[←hH6];rfl
  have nx6:H6.nx=H5.nx:=by rw[←hH6];rfl
  have ldA: ∀(G':Heap),ldN 6 (some (rG 72 1 [nI .i64 6, .bool false,nI .i64 1, .str [], .nils,bv] 0 false true true)) 0 G'= .val (.agg [nI .i64 6, .bool false,nI .i64 1, .str [], .nils,bv]) G':=fun G'=>by rw[WH (Zk _)];rfl
  have k6:Keep H H6 [b]:=by rw[←hH6];exact k5.then_put (fun h=>absurd h (by omega))
  have m6:=mp.below (lo:=H8.nx) (by omega) (by rw[←hH6];exact Below.put (Zk _):Below H8.nx H5 H6)
  obtain⟨H9,hH9⟩: ∃G,Heap.put H6 H.nx (rG 72 1 [nI .i64 6, .bool false,nI .i64 1, .str [], .nils,bv] 0 false true true)=G:=⟨_,rfl⟩
  have hB:=Y8 (n:=6) (l:=[nI .i64 0, .bool false,nI .i64 0, .str [], .nils, .nils]) (vs:=[nI .i64 6, .bool false,nI .i64 1, .str [], .nils,bv]) (b:=H.nx) (H:=H6) (by rfl) (by rfl) (by omega) (by omega) 72 1 false true
  rw[hH9] at hB
  have g9:H9.t.get H.nx=some (rG 72 1 [nI .i64 6, .bool false,nI .i64 1, .str [], .nils,bv] 0 false true true):=by rw[←hH9,Yo]
  have ldx: ∀(kk:AV→CR),rV 6 true (some (rG 72 1 [nI .i64 6, .bool false,nI .i64 1, .str [], .nils,bv] 0 false true true)) 0 kk=kk (.agg [nI .i64 6, .bool false,nI .i64 1, .str [], .nils,bv]):=fun kk=>ZaH (n:=6) (l:=[nI .i64 6, .bool false,nI .i64 1, .str [], .nils,bv]) rfl kk
  have w9:Below H.nx H6 H9:=by rw[←hH9];exact Below.put (Zk _)
  refine⟨.mk 6 false (1:Nat) [] [] l,[nI .i64 6, .bool false,nI .i64 1, .str [], .nils,bv],j5,H9,?_,s.vr (z:=1) (by omega) (by omega) (by omega) (fun c hc hlo=>by rw[←hH9,Z3 (by omega),←hH6,Z3 (by omega)];exact hg5 c hc hlo) (by rw[w9.ro];omega) (by have:=w9.nx;omega),s.okv (by omega) (by omega),tbs _,m6.below (lo:=H.nx) (by omega) w9,by omega,Below.keepS k6 w9 (by omega)⟩
  simp(maxSteps:=4000000) (disch:=first|assumption|omega|(simp -implicitDefEqProofs only[Zu,Zv]<;>first|assumption|omega)|decide) only[t0,t4,t6,eo,nx8,hHA,hA,nxA,gA,ep,e7,st,g7,g6,gz6,ldA,hB,g9,ldx,ZW,Zi,c66,ZC,N8G,Zr,Zs,Zd,Ze,Zf,Nat.reducePow,Nat.reduceDiv,Nat.reduceMod,Nat.reduceEqDiff,reduceCtorEq,TB0,TB1,TB2,TB3]
 ·have e7:decide (p=29)=false:=Zc h7
  have ldA: ∀(G':Heap),ldN 6 (some (rG 72 1 [nI .i64 6, .bool false,nI .i64 0, .str [], .nils,bv] 0 false true true)) 0 G'= .val (.agg [nI .i64 6, .bool false,nI .i64 0, .str [], .nils,bv]) G':=fun G'=>by rw[WH (Zk _)];rfl
  obtain⟨H9,hH9⟩: ∃G,Heap.put H5 H.nx (rG 72 1 [nI .i64 6, .bool false,nI .i64 0, .str [], .nils,bv] 0 false true true)=G:=⟨_,rfl⟩
  have hB:=Y8 (n:=6) (l:=[nI .i64 0, .bool false,nI .i64 0, .str [], .nils, .nils]) (vs:=[nI .i64 6, .bool false,nI .i64 0, .str [], .nils,bv]) (b:=H.nx) (H:=H5) (by rfl) (by rfl) (by omega) (by omega) 72 1 false true
  rw[hH9] at hB
  have g9:H9.t.get H.nx=some (rG 72 1 [nI .i64 6, .bool false,nI .i64 0, .str [], .nils,bv] 0 false true true):=by rw[←hH9,Yo]
  have ldx: ∀(kk:AV→CR),rV 6 true (some (rG 72 1 [nI .i64 6, .bool false,nI .i64 0, .str [], .nils,bv] 0 false true true)) 0 kk=kk (.agg [nI .i64 6, .bool false,nI .i64 0, .str [], .nils,bv]):=fun kk=>ZaH (n:=6) (l:=[nI .i64 6, .bool false,nI .i64 0, .str [], .nils,bv]) rfl kk
  have w9:Below H.nx H5 H9:=by rw[←hH9];exact Below.put (Zk _)
  refine⟨.mk 6 false (0:Nat) [] [] l,[nI .i64 6, .bool false,nI .i64 0, .str [], .nils,bv],j5,H9,?_,s.vr (z:=0) (by omega) (by omega) (by omega) (fun c hc hlo=>by rw[←hH9,Z3 (by omega)];exact hg5 c hc hlo) (by rw[w9.ro];omega) (by have:=w9.nx;omega),s.okv (by omega) (by omega),tbs _,mp.below (lo:=H.nx) (by omega) w9,by omega,Below.keepS k5 w9 (by omega)⟩
  simp(maxSteps:=4000000) (disch:=first|assumption|omega|(simp -implicitDefEqProofs only[Zu,Zv]<;>first|assumption|omega)|decide) only[t0,t4,t6,eo,nx8,hHA,hA,nxA,gA,ep,e7,g7,g5,ldA,hB,g9,ldx,ZW,Zi,c66,ZC,N8G,Zr,Zs,Zd,Ze,Zf,Nat.reducePow,Nat.reduceDiv,Nat.reduceMod,Nat.reduceEqDiff,reduceCtorEq,TB0,TB1,TB2,TB3]
theorem ZvQ{Zm:Lib}{fs:T CF}{fuel:Nat}(E:Env Zm fs fuel){k:Nat}(hk:1≤k){b:Nat}{sv:AV}{xs:List Nat}: ∀(lv:Nat),lv≤100→ ∀(n:Nat),lv+5≤n→VOk Zm fs fuel k n lv b sv xs:=by
 intro lv
 induction lv with
 |zero=>
  intro _ n hn H i m hro
  obtain⟨q,rfl⟩: ∃q,n=q+5:=⟨n - 5,by omega⟩
  exact ZqU E hk m hro (.inl rfl)
 |succ lv ih=>
  intro hl n hn H i m hro
  obtain⟨q,rfl⟩: ∃q,n=q+5:=⟨n - 5,by omega⟩
  have ih:VOk Zm fs fuel k (q+4) lv b sv xs:=ih (by omega) (q+4) (by omega)
  by_cases h:xs.length≤i
  ·exact ZqU E hk m hro (.inr h)
  ·have m1:=m.keep (Keep.new H (rG 72 1 [nI .i64 0, .bool false,nI .i64 0, .str [], .nils, .nils] 0 false true true) [])
   obtain⟨r,j,er,lr,le,lt,one,_⟩:=Uq E (k:=k) (n:=q+3) m1 (most:=9) (by omega) (by omega)
   have mr:=m1.put lt
   have hj:i<j:=by have:=one (by omega);omega
   have hr:r=0∨r=1∨r=2∨r=3∨r=4∨r=5∨r=6∨r=7∨r=8:=by omega
   rcases hr with hr|hr|hr|hr|hr|hr|hr|hr|hr
   ·exact ZyS E hk m hro h rfl rfl hr hj mr er
   ·exact ZyT E hk m hro h rfl rfl hr hj mr er
   ·exact ZA1 E hk m hro h rfl rfl hr hj mr er
   ·exact ZvM E hk m hro h rfl rfl hr hj mr er
   ·exact ZvN E hk m hro h rfl rfl hr hj mr er
   ·exact ZvO E hk m hro ih (by omega) h rfl rfl hr hj mr er
   ·exact ZvP E hk m hro ih (by omega) h rfl rfl hr hj mr er
   ·exact ZnN E hk m hro ih (by omega) h rfl rfl (.inl hr) hj mr er
   ·exact ZnN E hk m hro ih (by omega) h rfl rfl (.inr hr) hj mr er
end
end Go.AI
namespace Go.AI
open Go Go.Deep
noncomputable section
variable {P:Program} {H:Type} {enc:TypeId×Value→H}
def ArgN(G:Heap)(a:AV)(l:List Nat):Prop:=(∀x∈l,x<65536)∧((a= .nils∧l=[])∨ ∃b o c r,a= .slice b o l.length (some c)∧G.t.get b=some (.row r)∧l.length≤c∧b<G.nx∧(l≠[]→o+l.length≤r.size∧ ∀i,i<l.length→r.get (o+i)=nI .u16 (l.getD i 0)))
theorem ArgN.len{G:Heap}{a:AV}{l:List Nat}(h:ArgN G a l)(H:Heap):Qe a H= .val (nI .i64 l.length) H:=by
 rcases h.2 with⟨rfl,rfl⟩|⟨b,o,c,r,rfl,_⟩
 ·rfl
 ·exact VL ..
theorem ArgN.low{G:Heap}{a:AV}{l:List Nat}(h:ArgN G a l){n:Nat}(hn:G.nx≤n):YA n a=true:=by
 rcases h.2 with⟨rfl,rfl⟩|⟨b,o,c,r,rfl,_,_,hb,_⟩
 ·rfl
 ·exact YP (by omega) ..
theorem ArgN.same{G:Heap}{a:AV}{l:List Nat}(h:ArgN G a l)(n:Nat)(t:T Obj):Vk (.val a ⟨n,t,n⟩) a n=true:=by
 rcases h.2 with⟨rfl,rfl⟩|⟨b,o,c,r,rfl,_⟩
 ·exact Zbu ..
 ·exact UY ..
theorem ArgN.keep{G G':Heap}{a:AV}{l:List Nat}(h:ArgN G a l)(k:Keep G G' []):ArgN G' a l:=by
 refine⟨h.1,?_⟩
 rcases h.2 with h1|⟨b,o,c,r,rfl,h2,h3,h4,h5⟩
 ·exact .inl h1
 ·exact .inr ⟨b,o,c,r,rfl,by rw[k.get b h4 (by simp)];exact h2,h3,ZF h4 k.nx,h5⟩
theorem ZFw(l:List Nat)(i:Nat)(h:i<l.length):(l.map fun x=>[nI .u16 x]).flatten.getD i .unk=nI .u16 (l.getD i 0):=by
 have:(l.map fun x=>[nI .u16 x]).flatten=l.map fun x=>nI .u16 x:=by
  clear h
  induction l with
  |nil=>rfl
  |cons x l ih=>rw[List.map_cons,List.flatten_cons,ih];rfl
 rw[this,Zj,YT,Zj,Zp h];rfl
theorem ZvR{l:List Nat}{k i:Nat}(h:i<k):(l.take k).getD i 0=l.getD i 0:=by
 rw[Zj,Zj,List.getElem?_take_of_lt h]
theorem ArgN.take{G:Heap}{a:AV}{l:List Nat}(h:ArgN G a l){k:Nat}(hk:k≤l.length):
  ∃v,(∀G':Heap,(∀c,c<G.nx→G'.t.get c=G.t.get c)→Zlx 1 a none (some (nI .i64 k)) G'= .val v G')∧Sl G 1 v ((l.take k).map fun x=>[nI .u16 x])∧ ∀c o n q,v= .slice c o n q→c<G.nx:=by
 rcases h.2 with⟨rfl,rfl⟩|⟨b,o,c,r,rfl,h2,h3,h4,h5⟩
 ·have:k=0:=by simpa using hk
  subst this
  exact⟨.nils,fun _ _=>rfl,Sl.nil ..,fun _ _ _ _ e=>by cases e⟩
 ·have hl:((l.take k).map fun x=>[nI .u16 x]).length=k:=by rw[ZA,Yb];omega
  by_cases e0:c=0
  ·subst e0
   obtain rfl:k=0:=by omega
   refine⟨.slice b o 0 (some 0),fun G' e=>?_,⟨fun x hx=>by simp at hx, .inr ⟨b,o,some 0,rfl,h4,fun hne=>absurd rfl hne⟩⟩,fun _ _ _ _ e=>by cases e;exact h4⟩
   show YH G' b _=_
   unfold YH
   rw[e b h4,h2];rfl
  ·refine⟨.slice b (o+0*1) (k - 0) (some (c - 0)),fun G' e=>?_,⟨fun x hx=>?_, .inr ⟨b,o,some c,?_,h4,fun hne=>?_⟩⟩,fun _ _ _ _ e=>by cases e;exact h4⟩
   ·show YH G' b _=_
    unfold YH
    rw[e b h4,h2]
    show ZS (Nat.ble k c) (ZS (Nat.ble 0 k) (ZS (Nat.ble 0 c) (cond (Nat.beq 0 c) _ (.val (.slice b (o+0*1) (k - 0) (some (c - 0))) G'))))=_
    rw[Zl (by omega),Zl (ZX k),Zl (ZX c),Ye,Zc (fun h=>e0 h.symm)]
    rfl
   ·obtain⟨y,_,rfl⟩:=List.mem_map.1 hx;rfl
   ·rw[hl];rfl
   ·have hk0:k≠0:=by rintro rfl;exact hne rfl
    have hne':l≠[]:=by rintro rfl;simp at hk;exact hk0 hk
    obtain⟨h6,h7⟩:=h5 hne'
    refine⟨r,h2,by rw[hl];omega,fun i hi=>?_⟩
    rw[hl,Nat.mul_one] at hi
    rw[h7 i (by omega),ZFw _ _ (by rw[Yb];omega),ZvR hi]
structure ZHd(W:World)(id:Nat)(v:Value)(a:AV)(ws:List (Nat×Win))(l:List Nat):Prop where
 ids: ∀b x,(b,x)∈ws→b=id
 few:ws.length≤1
 win: ∀σ b x,(b,x)∈ws→ZBA W σ x
 rel: ∀σ:Mp,(∀b x,(b,x)∈ws→σ b=some x.loc)→Rel σ a v
 arg: ∀G:Heap,(∀b x,(b,x)∈ws→G.t.get b=some (.row x.row)∧b<G.nx)→ArgN G a l
theorem ZyU{W:World}{r:Reach}{base:Nat}{t e:TypeId}{v:Value}{d:DataW H}{p:List MemPlace}(id:Nat)(ht:P.underlying t=some (.slice e))(he:P.underlying e=some (.int .u16))(hc:P.cellsOf e=1)
  (hok:Value.okWide P W r base t v)(h:DataW.Trod enc P W 0 (fun _=>true) true t v d p): ∃a ws l,ZHd W id v a ws l:=by
 obtain⟨fuel,h⟩:=h
 have hk:Cell.ok P W r base t v:=by
  unfold Value.okWide Cell.okWide at hok
  rw[ht] at hok
  simpa using hok
 rcases open_slice1 ht hc h with⟨e1,_⟩|⟨a,len,cap,m,n,V,D,Pl,e1,_,hl,_,hm,_,hV⟩
 ·have:v= .slice none 0 0:=by
   unfold Cell.ok at hk
   rw[ht] at hk
   cases v<;>simp_all [Value.cells]
  subst this
  exact⟨.nils,[],[],⟨(fun _ _ h=>by cases h),ZX _,(fun _ _ _ h=>by cases h),(fun _ _=>by simp[Rel]),(fun _ _=>⟨fun _ h=>(by cases h), .inl ⟨rfl,rfl⟩⟩)⟩⟩
 ·have hm:m=cap:=by rw[hm];exact if_pos rfl
  have:v= .slice (some a) len cap:=by
   unfold Cell.ok at hk
   rw[ht] at hk
   cases v<;>simp_all [Value.cells]
  subst this
  unfold Cell.ok at hk
  rw[ht] at hk
  obtain⟨_,_,_,hsp,row,cells,hsh,_⟩:=hk
  obtain⟨ab,ao,asp⟩:=a
  simp only at hsp
  subst hsp
  obtain⟨cs,el,fr,hcs⟩: ∃cs el fr,W.heap[ab]? =some (.cells cs el fr):=by
   unfold World.shape? at hsh
   split at hsh
   ·rename_i c e2 f e1;exact⟨c,e2,f,e1⟩
   ·cases hsh
  have hcell: ∀i,i<cap→ ∃u:Nat,u<65536∧cs[ao+i]? =some (.int .u16 (.ofNat u)):=by
   intro i hi
   obtain⟨h1,h2⟩:=hV i (by omega)
   obtain⟨n,h3,_,h4⟩:=DataW.trod_int he h2
   have h5:W.cell? (Addr.add ⟨ab,ao,none⟩ i)=cs[ao+i]? :=by
    have h6:Addr.add ⟨ab,ao,none⟩ i=⟨ab,ao+i,none⟩:=by
     unfold Addr.add
     split
     ·rename_i h0;subst h0;rfl
     ·rfl
    rw[h6]
    unfold World.cell?
    rw[hcs]
    rfl
   rw[h5] at h1
   simp only[List.cons.injEq,and_true] at h3
   rw[h1,h3]
   have h6:0≤n∧n≤65535:=by
    simp only[Lit.wf,Bool.and_eq_true,decide_eq_true_eq] at h4
    exact h4
   refine⟨n.toNat,by omega,?_⟩
   congr 2
   exact(Int.toNat_of_nonneg h6.1).symm
  obtain⟨f,hf⟩:=Classical.axiomOfChoice (r:=fun(i:Nat) (u:Nat)=>u<65536∧(i<cap→cs[ao+i]? =some (.int .u16 (.ofNat u)))) (fun i=>by
   by_cases hi:i<cap
   ·obtain⟨u,hu1,hu⟩:=hcell i hi;exact⟨u,hu1,fun _=>hu⟩
   ·exact⟨0,by omega,fun h=>absurd h hi⟩)
  have hnum: ∀i,i<cap→((List.range cap).map fun i=>nI .u16 (f i))[i]? =some (nI .u16 (f i)):=fun i hi=>by
   rw[YT,List.getElem?_range hi];rfl
  have hlt: ∀x∈(List.range len).map f,x<65536:=fun x hx=>by
   obtain⟨i,_,rfl⟩:=List.mem_map.1 hx;exact(hf i).1
  by_cases h0:cap=0
  ·have hl0:len=0:=by omega
   subst hl0
   refine⟨.slice id ao 0 (some cap),[(id,⟨⟨ab,0,0,1⟩,el,[]⟩)],[],⟨fun b x h=>?_,Zk _,fun σ b x h=>?_,fun σ hσ=>?_,fun G hG=>?_⟩⟩
   ·simp at h;exact h.1
   ·simp at h;obtain⟨_,rfl⟩:=h
    exact⟨rfl,Zk _,cs,fr,hcs,ZX _,fun i x hx=>by simp at hx⟩
   ·simp only[Rel]
    exact⟨_,hσ _ _ (Zy ..),by simp⟩
   ·obtain⟨g1,g2⟩:=hG _ _ (Zy ..)
    exact⟨fun _ h=>(by cases h), .inr ⟨id,ao,cap,_,rfl,g1,ZX _,g2,fun h=>absurd rfl h⟩⟩
  ·have hsz:ao+cap≤cs.size:=by
    have:=(hf (cap - 1)).2 (by omega)
    have:=(Array.getElem?_eq_some_iff.1 this).1
    omega
   refine⟨.slice id 0 len (some cap),[(id,⟨⟨ab,ao,cap,1⟩,el,(List.range cap).map fun i=>nI .u16 (f i)⟩)],(List.range len).map f,⟨fun b x h=>?_,Zk _,fun σ b x h=>?_,fun σ hσ=>?_,fun G hG=>?_⟩⟩
   ·simp at h;exact h.1
   ·simp at h;obtain⟨_,rfl⟩:=h
    refine⟨rfl,by simp,cs,fr,hcs,hsz,fun i x hx=>?_⟩
    have hi:i<cap:=by
     have:=(List.getElem?_eq_some_iff.1 hx).1
     simpa using this
    rw[hnum i hi] at hx;cases hx
    exact⟨_,(hf i).2 hi,by simp[Rel,nI],rfl⟩
   ·simp only[Rel]
    exact⟨_,hσ _ _ (Zy ..),rfl⟩
   ·obtain⟨g1,g2⟩:=hG _ _ (Zy ..)
    refine⟨hlt, .inr ⟨id,0,cap,_,by rw[ZA,List.length_range],g1,by rw[ZA,List.length_range];exact hl,g2,fun _=>⟨?_,fun i hi=>?_⟩⟩⟩
    ·show 0+_≤Yt _
     rw[Yr];simp;omega
    ·rw[ZA,List.length_range] at hi
     rw[Zi,Win.get_row (hnum i (by omega))]
     rw[Zj,YT,List.getElem?_range hi]
     rfl
end
end Go.AI
namespace Go.AI
open Go
noncomputable section
theorem ZyV{Zm:Lib}{fs:T CF}{fuel:Nat}(E:Env Zm fs fuel){k n:Nat}(hk:1≤k){H:Heap}{a:AV}{l:List Nat}(ha:ArgN H a l)(hro:H.ro≤H.nx):
  ∃h v cs H',ZR (LK Zm fs fuel k) fs fuel (n+60) 28 [a] H= .ret (.agg cs) H'∧h≤40∧VR H' (h+1) v cs∧OKW (h+1) v∧JV.tb (h+1) v≤25000∧Keep H H' []:=by
 rw[ZV (ZN E.n28 (.inr rfl) _ _) E.f28]
 obtain⟨H1,hH1⟩: ∃G,H.new (rG 72 1 [nI .i64 0, .bool false,nI .i64 0, .str [], .nils, .nils] 0 false true true)=G:=⟨_,rfl⟩
 have nx1:H1.nx=H.nx+1:=by rw[←hH1];rfl
 have ro1:H1.ro=H.ro:=by rw[←hH1];rfl
 have k1:Keep H H1 []:=by rw[←hH1];exact Keep.new H _ _
 have g1:H1.t.get H.nx=some (rG 72 1 [nI .i64 0, .bool false,nI .i64 0, .str [], .nils, .nils] 0 false true true):=by rw[←hH1,ZP rfl]
 have el:=ha.len
 obtain⟨sv,es,sl,hbk⟩:=ha.take (k:=min l.length 60) (Nat.min_le_left _ _)
 have es:=es H1 (fun c hc=>k1.get c hc (by simp))
 obtain⟨xs,hxs⟩: ∃xs,l.take (min l.length 60)=xs:=⟨_,rfl⟩
 have hxl:xs.length≤60:=by rw[←hxs,Yb];omega
 have hxu: ∀x∈xs,x<65536:=fun x hx=>ha.1 x (by rw[←hxs] at hx;exact List.mem_of_mem_take hx)
 rw[hxs] at sl
 have mn:=fun G=>Zxv l.length 60 G
 have bv: ∀G:Heap,ZcL [.nils,nI .i64 0] [(0,1,sv)] G= .val (.agg [sv,nI .i64 0]) G:=fun G=>by
  have hc:=sl.cells
  rcases sl.here with⟨_,rfl⟩|⟨b,o,c,rfl,_⟩<;>rfl
 have bx:=Vf (l:=[sv,nI .i64 0]) (Nat.le_add_left 1 1) 130 H1
 obtain⟨H2,hH2⟩: ∃G,H1.new (rG 130 1 [sv,nI .i64 0] 0 false true true)=G:=⟨_,rfl⟩
 rw[hH2] at bx
 have nx2:H2.nx=H1.nx+1:=by rw[←hH2];rfl
 have ro2:H2.ro=H1.ro:=by rw[←hH2];rfl
 have k2:Keep H H2 []:=by rw[←hH2];exact k1.then_new _
 have g2:H2.t.get H.nx=some (rG 72 1 [nI .i64 0, .bool false,nI .i64 0, .str [], .nils, .nils] 0 false true true):=by rw[←hH2,Yy (by omega)];exact g1
 have m2:Mk H2 H1.nx sv xs 0:=⟨by rw[←hH2,ZP rfl],sl.keep0 k2,hxu,ZX _,hxl,by omega,by omega,fun c o q w e=>by have:=hbk _ _ _ _ e;omega⟩
 obtain⟨r,j,er,lr,ler,ltr,_,_⟩:=Uq E (k:=k) (n:=n+58) m2 (most:=40) (by omega) (by omega)
 have m3:=m2.put ltr
 obtain⟨H3,hH3⟩: ∃G,Heap.put H2 H1.nx (rG 130 1 [sv,nI .i64 j] 0 false true true)=G:=⟨_,rfl⟩
 rw[hH3] at er m3
 have nx3:H3.nx=H2.nx:=by rw[←hH3];rfl
 have ro3:H3.ro=H2.ro:=by rw[←hH3];rfl
 have g3:H3.t.get H.nx=some (rG 72 1 [nI .i64 0, .bool false,nI .i64 0, .str [], .nils, .nils] 0 false true true):=by rw[←hH3,Z3 (by omega)];exact g2
 have k3:Keep H H3 []:=by rw[←hH3];exact k2.then_put (fun h=>absurd h (by omega))
 obtain⟨v,cs,j4,H4,e4,hr4,ho4,ht4,m4,hj4,k4⟩:=ZvQ E hk (b:=H1.nx) (sv:=sv) (xs:=xs) (1+r) (by omega) (n+59) (by omega) m3 (by omega)
 have nx4:=k4.nx
 have ro4:=k4.ro
 have hm4:=m4.le
 have g4:H4.t.get H.nx=some (rG 72 1 [nI .i64 0, .bool false,nI .i64 0, .str [], .nils, .nils] 0 false true true):=by rw[k4.get _ (by omega) (by simp;omega)];exact g3
 have hv4:=hr4.vr
 have hlen:=hv4.len
 obtain⟨H9,hH9⟩: ∃G,Heap.put H4 H.nx (rG 72 1 cs 0 false true true)=G:=⟨_,rfl⟩
 have hB:=Y8 (n:=6) (l:=[nI .i64 0, .bool false,nI .i64 0, .str [], .nils, .nils]) (vs:=cs) (b:=H.nx) (H:=H4) (by rfl) hlen (by omega) (by omega) 72 1 false true
 rw[hH9] at hB
 have g9:H9.t.get H.nx=some (rG 72 1 cs 0 false true true):=by rw[←hH9,Yo]
 have ldx: ∀(kk:AV→CR),rV 6 true (some (rG 72 1 cs 0 false true true)) 0 kk=kk (.agg cs):=fun kk=>ZaH (n:=6) (l:=cs) hlen kk
 have hv9:VR H9 (1+r+1) v cs:=(hr4.move (Y:=H9) (S':=fun c=>c<H3.nx) (fun c hc hS=>by
  rw[←hH9,Z3 (by have hS: ¬c<H3.nx:=hS;omega)]) (by rw[←hH9];exact Zk _) (fun c _ h=>h)).vr
 have k9:Keep H H9 []:=by
  rw[←hH9]
  refine Keep.then_put ⟨by omega,by omega,fun c hc _=>?_⟩ (fun h=>absurd h (by omega))
  rw[k4.get c (by omega) (by simp;omega),k3.get c hc (by simp)]
 rw[nx1] at er e4
 refine⟨1+r,v,cs,H9,?_,by omega,hv9,ho4,by omega,k9⟩
 simp(maxSteps:=4000000) (disch:=first|assumption|omega|(simp -implicitDefEqProofs only[Zu,Zv]<;>first|assumption|omega)|decide) only[hH1,nx1,el,es,mn,bv,bx,er,e4,hB,g4,g9,ldx,Yw,c28,ZC,N8G,Zr,Zs,Zd,Ze,Zf,Nat.reduceEqDiff,reduceCtorEq,TB0]
end
end Go.AI
