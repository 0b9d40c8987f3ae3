/- The document's own functions on values, and JsonPuts, walked on any numbers: proved without conditions but those that each names. -/
import Derived.Test.YtobbpmaeiiblaaaGreatDoorPE
import Derived.Test.YtobbpmaeiiblaaaGreatDoorPA
import Derived.Test.YtobbpmaeiiblaaaGreatDoorPD
set_option maxRecDepth 1000000
set_option maxHeartbeats 0
set_option linter.unusedVariables false
set_option linter.unusedSimpArgs false
namespace Go.AI
open Go
noncomputable section
theorem ZFx{e:Nat}{cs:List AV}(h:cs.length=6)(H:Heap):ZbR e 6 1 [nI .i64 0, .bool false,nI .i64 0, .str [], .nils, .nils] [(0,6, .agg cs)] H= .val (.slice H.nx 0 1 none) (H.new (rG e 6 cs 0 false true true)):=ZAY h e H
structure Ofl(H:Heap)(h:Nat)(bv:AV)(lo:Nat)(l:List JV):Prop where
 ok: ∃bb ls,RBuf H bv 79 6 ls lo∧(∀c o n q,bv= .slice c o n q→c=bb)∧ls.length=l.length∧ ∀q,q<l.length→VRs H (fun c=>c<lo∨c=bb) h (l.getD q default) (ls.getD q [])
theorem Ofl.start(H:Heap)(h lo:Nat):Ofl H h .nils lo []:=⟨0,[], .inl ⟨rfl,rfl⟩,fun _ _ _ _ e=>(by cases e),rfl,fun q hq=>absurd hq (Y9 _)⟩
theorem Ofl.buf{H:Heap}{h:Nat}{bv:AV}{lo:Nat}{l:List JV}(s:Ofl H h bv lo l): ∃ls,RBuf H bv 79 6 ls lo∧ls.length=l.length:=by
 obtain⟨bb,ls,rb,_,e,_⟩:=s.ok
 exact⟨ls,rb,e⟩
theorem Ofl.keep{H H':Heap}{h:Nat}{bv:AV}{lo:Nat}{l:List JV}(s:Ofl H h bv lo l)(hg: ∀c,c<H.nx→lo≤c→H'.t.get c=H.t.get c)(hro:H'.ro=H.ro)(hn:H.nx≤H'.nx):Ofl H' h bv lo l:=by
 obtain⟨bb,ls,rb,hbb,e,hv⟩:=s.ok
 refine⟨bb,ls,rb.below (fun c h1 h2=>hg c h2 h1) hro hn,hbb,e,fun q hq=>?_⟩
 exact(hv q hq).move (fun c hc hS=>hg c hc (by rcases Nat.lt_or_ge c lo with h1|h1;exact absurd (.inl h1) hS;exact h1)) hn (fun c hc hS=>hS)
theorem Ofl.push{H H2:Heap}{h:Nat}{bv:AV}{lo:Nat}{l:List JV}{v:JV}{cs:List AV}(s:Ofl H h bv lo l)(k:Keep H H2 [])(hlo:lo≤H.nx)(hro2:H2.ro≤H2.nx)(hr:VRs H2 (fun c=>c<H.nx) h v cs)(hl:l.length≤9000):
  ∃bv' H3,UX 79 6 88 bv (.slice H2.nx 0 1 none) (H2.new (rG 79 6 cs 0 false true true))= .val bv' H3∧Ofl H3 h bv' lo (l++[v])∧Below lo H2 H3:=by
 obtain⟨bb,ls,rb,hbb,e,hv⟩:=s.ok
 have knx:=k.nx
 have rb2:RBuf H2 bv 79 6 ls lo:=rb.below (fun c h1 h2=>k.get c h2 (by simp)) k.ro k.nx
 obtain⟨bv',H3,ea,rb3,w3,only,fresh⟩:=ZdQ rb2 (bytes:=88) (by omega) (by omega) (by omega) hro2 (by omega) (x:=cs) (by exact hr.vr.len)
 rw[Wi] at ea
 refine⟨bv',H3,ea,?_,w3⟩
 obtain⟨b3,hb3,hn3⟩: ∃b3,(∀c o n q,bv'= .slice c o n q→c=b3)∧H2.nx≤b3:=by
  rcases rb3 with⟨h1,_⟩|⟨_,c,r,rfl,_⟩
  ·simp at h1
  ·exact⟨c,fun _ _ _ _ e=>(by cases e;rfl),fresh _ _ _ _ rfl⟩
 have hbbH: ∀c o n q,bv= .slice c o n q→c<H.nx:=by
  rcases rb with⟨_,rfl⟩|⟨_,c',r,rfl,hr',_⟩
  ·intro _ _ _ _ e;cases e
  ·intro _ _ _ _ e;cases e;exact hr'.low
 refine⟨b3,ls++[cs],rb3,hb3,by simp[e],fun q hq=>?_⟩
 rw[Qa,Qa,e]
 rw[Zq,Zn,Zw] at hq
 by_cases h1:q<l.length
 ·rw[if_pos h1,if_pos h1]
  refine(hv q h1).move (fun c hc hS=>?_) (Z6 knx w3.nx) (fun c hc hS=>?_)
  ·rw[only c (by omega) (fun b' o' l' q' e' hcb=>hS (.inr (by rw[hcb];exact hbb _ _ _ _ e'))),k.get c hc (by simp)]
  ·rcases hS with h2|h2
   ·exact .inl h2
   ·omega
 ·have:q=l.length:=by omega
  subst this
  rw[if_neg h1,if_neg h1,if_pos rfl,if_pos rfl]
  refine hr.move (fun c hc hS=>?_) w3.nx (fun c hc hS=>?_)
  ·exact only c hc (fun b' o' l' q' e' hcb=>hS (by rw[hcb];exact hbbH _ _ _ _ e'))
  ·rcases hS with h2|h2
   ·show c<H.nx;omega
   ·omega
structure Ofe(H:Heap)(h:Nat)(bv:AV)(lo:Nat)(l:List (List UInt8×JV)):Prop where
 ok: ∃bb ls,RBuf H bv 135 7 ls lo∧(∀c o n q,bv= .slice c o n q→c=bb)∧ls.length=l.length∧ ∀q,q<l.length→(l.getD q default).1.length≤9000∧ ∃t,ls.getD q []= .str (l.getD q default).1::t∧VRs H (fun c=>c<lo∨c=bb) h (l.getD q default).2 t
theorem Ofe.start(H:Heap)(h lo:Nat):Ofe H h .nils lo []:=⟨0,[], .inl ⟨rfl,rfl⟩,fun _ _ _ _ e=>(by cases e),rfl,fun q hq=>absurd hq (Y9 _)⟩
theorem Ofe.buf{H:Heap}{h:Nat}{bv:AV}{lo:Nat}{l:List (List UInt8×JV)}(s:Ofe H h bv lo l): ∃ls,RBuf H bv 135 7 ls lo∧ls.length=l.length:=by
 obtain⟨bb,ls,rb,_,e,_⟩:=s.ok
 exact⟨ls,rb,e⟩
theorem Ofe.keep{H H':Heap}{h:Nat}{bv:AV}{lo:Nat}{l:List (List UInt8×JV)}(s:Ofe H h bv lo l)(hg: ∀c,c<H.nx→lo≤c→H'.t.get c=H.t.get c)(hro:H'.ro=H.ro)(hn:H.nx≤H'.nx):Ofe H' h bv lo l:=by
 obtain⟨bb,ls,rb,hbb,e,hv⟩:=s.ok
 refine⟨bb,ls,rb.below (fun c h1 h2=>hg c h2 h1) hro hn,hbb,e,fun q hq=>?_⟩
 obtain⟨a1,t,a2,a3⟩:=hv q hq
 exact⟨a1,t,a2,a3.move (fun c hc hS=>hg c hc (by rcases Nat.lt_or_ge c lo with h1|h1;exact absurd (.inl h1) hS;exact h1)) hn (fun c hc hS=>hS)⟩
theorem Ofe.push{H H2:Heap}{h:Nat}{bv:AV}{lo:Nat}{l:List (List UInt8×JV)}{v:JV}{cs:List AV}{w:List UInt8}(hw:w.length≤9000)(s:Ofe H h bv lo l)(k:Keep H H2 [])(hlo:lo≤H.nx)(hro2:H2.ro≤H2.nx)(hr:VRs H2 (fun c=>c<H.nx) h v cs)(hl:l.length≤9000):
  ∃bv' H3,UX 135 7 104 bv (.slice H2.nx 0 1 none) (H2.new (rG 135 7 (.str w::cs) 0 false true true))= .val bv' H3∧Ofe H3 h bv' lo (l++[(w,v)])∧Below lo H2 H3:=by
 obtain⟨bb,ls,rb,hbb,e,hv⟩:=s.ok
 have knx:=k.nx
 have rb2:RBuf H2 bv 135 7 ls lo:=rb.below (fun c h1 h2=>k.get c h2 (by simp)) k.ro k.nx
 obtain⟨bv',H3,ea,rb3,w3,only,fresh⟩:=ZdQ rb2 (bytes:=104) (by omega) (by omega) (by omega) hro2 (by omega) (x:=(.str w::cs)) (by rw[Zn,hr.vr.len])
 rw[Wi] at ea
 refine⟨bv',H3,ea,?_,w3⟩
 obtain⟨b3,hb3,hn3⟩: ∃b3,(∀c o n q,bv'= .slice c o n q→c=b3)∧H2.nx≤b3:=by
  rcases rb3 with⟨h1,_⟩|⟨_,c,r,rfl,_⟩
  ·simp at h1
  ·exact⟨c,fun _ _ _ _ e=>(by cases e;rfl),fresh _ _ _ _ rfl⟩
 have hbbH: ∀c o n q,bv= .slice c o n q→c<H.nx:=by
  rcases rb with⟨_,rfl⟩|⟨_,c',r,rfl,hr',_⟩
  ·intro _ _ _ _ e;cases e
  ·intro _ _ _ _ e;cases e;exact hr'.low
 refine⟨b3,ls++[(.str w::cs)],rb3,hb3,by simp[e],fun q hq=>?_⟩
 rw[Qa,Qa,e]
 rw[Zq,Zn,Zw] at hq
 by_cases h1:q<l.length
 ·rw[if_pos h1,if_pos h1]
  obtain⟨a1,t,a2,a3⟩:=hv q h1
  refine⟨a1,t,a2,a3.move (fun c hc hS=>?_) (Z6 knx w3.nx) (fun c hc hS=>?_)⟩
  ·rw[only c (by omega) (fun b' o' l' q' e' hcb=>hS (.inr (by rw[hcb];exact hbb _ _ _ _ e'))),k.get c hc (by simp)]
  ·rcases hS with h2|h2
   ·exact .inl h2
   ·omega
 ·have:q=l.length:=by omega
  subst this
  rw[if_neg h1,if_neg h1,if_pos rfl,if_pos rfl]
  refine⟨hw,cs,rfl,hr.move (fun c hc hS=>?_) w3.nx (fun c hc hS=>?_)⟩
  ·exact only c hc (fun b' o' l' q' e' hcb=>hS (by rw[hcb];exact hbbH _ _ _ _ e'))
  ·rcases hS with h2|h2
   ·show c<H.nx;omega
   ·omega
def ZoT(Zm:Lib)(fs:T CF)(fuel k n h:Nat):Prop:= ∀{v:JV} {cs:List AV} {H:Heap},H.ro≤H.nx→VR H h v cs→
 ∃ds H',ZR (LK Zm fs fuel k) fs fuel n 31 [.agg cs] H= .ret (.agg ds) H'∧VRs H' (fun c=>c<H.nx) h v ds∧Keep H H' []
structure OLI(H0:Heap)(kk:Nat)(b:Bool)(z:Int)(s:List UInt8)(h p3:Nat)(t1 t2 lv:AV)(l:List JV)(m:Nat)(tm:TM)(H:Heap):Prop where
 i: ∃i bv,WG tm=nI .i64 i∧i≤l.length∧m=l.length - i∧H.t.get p3=some (rG 79 1 [nI .i64 kk, .bool b, .int .i64 z, .str s,bv, .nils] 0 false true true)∧Ofl H h bv H0.nx (l.take i)
 a1:gt1 tm=t1
 a2:gt2 tm=t2
 a3:gt3 tm= .ptr p3 0
 a18:Wg tm=lv
 a19:Wt tm=nI .i64 l.length
 k:Keep H0 H [p3]
 ro:H.ro≤p3
 nx:p3<H.nx
theorem ZA2{Zm:Lib}{fs:T CF}{fuel:Nat}(E:Env Zm fs fuel){k n h:Nat}(ih:ZoT Zm fs fuel k n h){H0:Heap}{kk:Nat}{b:Bool}{z:Int}{s:List UInt8}{p3:Nat}{T1 T2 lv:AV}{l:List JV}{ls:List (List AV)}(h3:p3<H0.nx)(sl:Sl H0 6 lv ls)(hp: ∀c o n q,lv= .slice c o n q→c<p3)(e:ls.length=l.length)(hl:l.length≤9000)(hv: ∀i,i<l.length→ ∀{G:Heap},Keep H0 G [p3]→VR G h (l.getD i default) (ls.getD i []))(y f d r)(x:X)(m:Nat)(tm:TM)(H:Heap)(hI:OLI H0 kk b z s h p3 T1 T2 lv l m tm H):
  ∃o tm' H',ZlQ ⟨ZR (LK Zm fs fuel k) fs fuel n,y,f,d,r⟩ tm H x= .ok o tm' H' x∧((o= .normal∧ ∃q,q<m∧OLI H0 kk b z s h p3 T1 T2 lv l q tm' H')∨(o≠ .normal∧(o= .exit 0∧gt1 tm'=T1∧gt2 tm'=T2∧gt3 tm'= .ptr p3 0∧Keep H0 H' [p3]∧H'.ro≤p3∧p3<H'.nx∧ ∃bv,H'.t.get p3=some (rG 79 1 [nI .i64 kk, .bool b, .int .i64 z, .str s,bv, .nils] 0 false true true)∧Ofl H' h bv H0.nx l))):=by
 obtain⟨⟨i,bv,t20,hi,rfl,g3,of⟩,a1,a2,a3,a18,a19,k0,hro,hnx⟩:=hI
 have knx0:=k0.nx
 have a1':=a1;have a2':=a2;have a3':=a3;have a18':=a18;have a19':=a19
 simp only[Zfl] at a3
 simp only[ZBD] at a18
 simp only[ZEG] at a19
 simp only[ZEH] at t20
 by_cases hlt:i<l.length
 ·have d1:decide (i<l.length)=true:=Zh hlt
  obtain⟨b',o',r',eI,hb',gb,eL,_⟩:=(sl.keep k0 (fun c o n q e=>by have:=hp c o n q e;simp;omega)).at_ (i:=i) (by omega)
  have ets:=Zam hlt (default:JV)
  obtain⟨HA,hA⟩: ∃G,H.new (rG 72 1 (ls.getD i []) 0 false true true)=G:=⟨_,rfl⟩
  have kA0:Keep H0 HA [p3]:=by rw[←hA];exact k0.then_new _
  have hvi:=hv i hlt kA0
  have hx:=hvi.len
  generalize l.getD i default=xv at*
  generalize ls.getD i []=xs at*
  have nxA:HA.nx=H.nx+1:=by rw[←hA];rfl
  have roA:HA.ro=H.ro:=by rw[←hA];rfl
  have kA:Keep H HA []:=by rw[←hA];exact Keep.new _ _ _
  have hBx:=Y8 (n:=6) (l:=[nI .i64 0, .bool false,nI .i64 0, .str [], .nils, .nils]) (vs:=xs) (by rfl) hx (by omega) (show(H.new (rG 72 1 [nI .i64 0, .bool false,nI .i64 0, .str [], .nils, .nils] 0 false true true)).ro≤H.nx by show H.ro≤_;omega) 72 1 false true
  rw[VX rfl,hA] at hBx
  have gA:HA.t.get H.nx=some (rG 72 1 xs 0 false true true):=by rw[←hA,ZP rfl]
  have ldx: ∀G:Heap,ldN 6 (some (rG 72 1 xs 0 false true true)) 0 G= .val (.agg xs) G:=fun G=>by rw[WH (by omega)];congr 2;rw[Yl,ZK (by omega)]
  have gA3:HA.t.get p3=some (rG 79 1 [nI .i64 kk, .bool b, .int .i64 z, .str s,bv, .nils] 0 false true true):=by rw[kA.get _ hnx (by simp)];exact g3
  obtain⟨ds,HC,eC,hr,kC⟩:=ih (by omega) hvi
  have nxC:=kC.nx
  have roC:=kC.ro
  have gC3:HC.t.get p3=some (rG 79 1 [nI .i64 kk, .bool b, .int .i64 z, .str s,bv, .nils] 0 false true true):=by rw[kC.get _ (by omega) (by simp)];exact gA3
  have gCA:HC.t.get H.nx=some (rG 72 1 xs 0 false true true):=by rw[kC.get _ (by omega) (by simp)];exact gA
  have ofA:Ofl HA h bv H0.nx (l.take i):=of.keep (fun c hc _=>kA.get c hc (by simp)) kA.ro kA.nx
  obtain⟨bv',HE,ea,of3,w⟩:=ofA.push kC (by omega) (by omega) hr (by rw[Yb];omega)
  rw[←ets] at of3
  have bs:=ZFx (e:=79) (cs:=ds) hr.vr.len
  obtain⟨HD,hD⟩: ∃G,HC.new (rG 79 6 ds 0 false true true)=G:=⟨_,rfl⟩
  rw[hD] at ea
  have nxD:HD.nx=HC.nx+1:=by rw[←hD];rfl
  have gD3:HD.t.get p3=some (rG 79 1 [nI .i64 kk, .bool b, .int .i64 z, .str s,bv, .nils] 0 false true true):=by rw[←hD,Yy (by omega)];exact gC3
  have gDA:HD.t.get H.nx=some (rG 72 1 xs 0 false true true):=by rw[←hD,Yy (by omega)];exact gCA
  have gE3:HE.t.get p3=some (rG 79 1 [nI .i64 kk, .bool b, .int .i64 z, .str s,bv, .nils] 0 false true true):=by rw[w.get _ (by omega) (by omega)];exact gC3
  have nxE:=w.nx
  have roE:=w.ro
  have st:=Zbc (fz:=0) (b:=p3) (H:=HE) (l:=[nI .i64 kk, .bool b, .int .i64 z, .str s,bv, .nils]) (o:=4) (v:=bv') (by obtain⟨q1,q2,_⟩:=of3.buf;exact ZlY q2) (by simp) (by omega) (by omega) 79 1 false true
  have st:stN 1 (some (rG 79 1 [nI .i64 kk, .bool b, .int .i64 z, .str s,bv, .nils] 0 false true true)) p3 4 bv' HE= .val Yx (HE.put p3 (rG 79 1 [nI .i64 kk, .bool b, .int .i64 z, .str s,bv', .nils] 0 false true true)):=st
  obtain⟨HF,hF⟩: ∃G,HE.put p3 (rG 79 1 [nI .i64 kk, .bool b, .int .i64 z, .str s,bv', .nils] 0 false true true)=G:=⟨_,rfl⟩
  rw[hF] at st
  have nxF:HF.nx=HE.nx:=by rw[←hF];rfl
  have roF:HF.ro=HE.ro:=by rw[←hF];rfl
  have kF:Keep H0 HF [p3]:=by
   rw[←hF]
   exact(Below.keepS (kA0.trans kC (by simp)) (w.mono (Zk _)) (by have:=k0.nx;omega)).then_put (fun _=>by simp)
  have of4:Ofl HF h bv' H0.nx (l.take (i+1)):=of3.keep (fun c hc hlo=>by rw[←hF,Z3 (by omega)]) (by omega) (by omega)
  obtain⟨q1,rbx,_⟩:=ofA.buf
  have lbv:=rbx.low (n:=HA.nx) (Zk _)
  have lbv2:=rbx.low (n:=HC.nx) (by omega)
  have sbv:=rbx.same
  have lxs:=hvi.low (n:=HA.nx) (Zk _)
  have lxs2: ∀m,HA.nx≤m→Zan m xs=true:=fun m hm=>hvi.low hm
  have sxs:=Zad hvi.same
  have lds: ∀m,HC.nx≤m→Zan m ds=true:=fun m hm=>hr.vr.low hm
  simp(maxSteps:=4000000) (disch:=first|assumption|omega|(simp -implicitDefEqProofs only[Zu,Zv]<;>first|assumption|omega)|decide) only[a3,a18,a19,t20,d1,eI,gb,eL,hBx,nxA,hA,gA,gA3,ldx,eC,gC3,gCA,bs,hD,ea,gD3,gDA,gE3,st,lbv,lbv2,sbv,lxs2,sxs,lds,ZL,YP,ZI,Yw,ZH,Zi,ZlQ,ZC,N8G,Zr,Zs,Zd,Ze,Zf,Nat.reducePow,Nat.reduceDiv,Nat.reduceMod,Nat.reduceEqDiff,reduceCtorEq,TB0]
  refine⟨_,_,_,rfl,?_⟩
  exact .inl ⟨rfl,l.length - (i+1),by omega,⟨⟨i+1,bv',(by simp only[TB0,N8G]),by omega,rfl,by rw[←hF,Yo],of4⟩,(by simp only[TB0,N8G];exact a1'),(by simp only[TB0,N8G];exact a2'),(by simp only[TB0,N8G];exact a3'),(by simp only[TB0,N8G];exact a18'),(by simp only[TB0,N8G];exact a19'),kF,by omega,by omega⟩⟩
 ·have d1:decide (i<l.length)=false:=Zc hlt
  rw[ZK (by omega)] at of
  simp(maxSteps:=4000000) (disch:=first|assumption|omega|(simp -implicitDefEqProofs only[Zu,Zv]<;>first|assumption|omega)|decide) only[a19,t20,d1,ZI,ZlQ,ZC,N8G,Zr,Zs,Zd,Ze,Zf,Nat.reducePow,Nat.reduceDiv,Nat.reduceMod,Nat.reduceEqDiff,reduceCtorEq,TB0]
  refine⟨_,_,_,rfl,?_⟩
  exact .inr ⟨by simp,rfl,(by simp only[TB0,N8G];exact a1'),(by simp only[TB0,N8G];exact a2'),(by simp only[TB0,N8G];exact a3'),k0,hro,hnx,bv,g3,of⟩
end
end Go.AI
namespace Go.AI
open Go
noncomputable section
structure OMI(H0:Heap)(kk:Nat)(b:Bool)(z:Int)(s:List UInt8)(bl:AV)(h p3:Nat)(t2 mv:AV)(l:List (List UInt8×JV))(m:Nat)(tm:TM)(H:Heap):Prop where
 i: ∃i bv,Vd tm=nI .i64 i∧i≤l.length∧m=l.length - i∧H.t.get p3=some (rG 79 1 [nI .i64 kk, .bool b, .int .i64 z, .str s,bl,bv] 0 false true true)∧Ofe H h bv H0.nx (l.take i)
 a2:gt2 tm=t2
 a3:gt3 tm= .ptr p3 0
 a33:W7 tm=mv
 a34:W8 tm=nI .i64 l.length
 k:Keep H0 H [p3]
 ro:H.ro≤p3
 nx:p3<H.nx
theorem ZA3{Zm:Lib}{fs:T CF}{fuel:Nat}(E:Env Zm fs fuel){k n h:Nat}(ih:ZoT Zm fs fuel k n h){H0:Heap}{kk:Nat}{b:Bool}{z:Int}{s:List UInt8}{bl:AV}{p3:Nat}{T2 mv:AV}{l:List (List UInt8×JV)}{ms:List (List AV)}(h3:p3<H0.nx)(sl:Sl H0 7 mv ms)(hp: ∀c o n q,mv= .slice c o n q→c<p3)(e:ms.length=l.length)(hl:l.length≤9000)(hv: ∀i,i<l.length→(l.getD i default).1.length≤9000∧ ∃t,ms.getD i []= .str (l.getD i default).1::t∧t.length=6∧ ∀{G:Heap},Keep H0 G [p3]→VR G h (l.getD i default).2 t)(y f d r)(x:X)(m:Nat)(tm:TM)(H:Heap)(hI:OMI H0 kk b z s bl h p3 T2 mv l m tm H):
  ∃o tm' H',ZlR ⟨ZR (LK Zm fs fuel k) fs fuel n,y,f,d,r⟩ tm H x= .ok o tm' H' x∧((o= .normal∧ ∃q,q<m∧OMI H0 kk b z s bl h p3 T2 mv l q tm' H')∨(o≠ .normal∧(o= .exit 2∧gt2 tm'=T2∧gt3 tm'= .ptr p3 0∧Keep H0 H' [p3]∧H'.ro≤p3∧p3<H'.nx∧ ∃bv,H'.t.get p3=some (rG 79 1 [nI .i64 kk, .bool b, .int .i64 z, .str s,bl,bv] 0 false true true)∧Ofe H' h bv H0.nx l))):=by
 obtain⟨⟨i,bv,t35,hi,rfl,g3,of⟩,a2,a3,a33,a34,k0,hro,hnx⟩:=hI
 have knx0:=k0.nx
 have a2':=a2;have a3':=a3;have a33':=a33;have a34':=a34
 simp only[Zfl] at a3
 simp only[Zxq] at a33
 simp only[ZEK] at a34
 simp only[ZEL] at t35
 by_cases hlt:i<l.length
 ·have d1:decide (i<l.length)=true:=Zh hlt
  obtain⟨b',o',r',eI,hb',gb,eL,_⟩:=(sl.keep k0 (fun c o n q e=>by have:=hp c o n q e;simp;omega)).at_ (i:=i) (by omega)
  have ets:=Zam hlt (default:List UInt8×JV)
  obtain⟨hk9,tt,htt,htl,hvi⟩:=hv i hlt
  rw[htt] at eL
  generalize l.getD i default=ev at*
  obtain⟨key,xv⟩:=ev
  have hk9:key.length≤9000:=hk9
  obtain⟨HA,hA⟩: ∃G,H.new (rG 100 1 (.str key::tt) 0 false true true)=G:=⟨_,rfl⟩
  have kA0:Keep H0 HA [p3]:=by rw[←hA];exact k0.then_new _
  have hvA:=hvi kA0
  have nxA:HA.nx=H.nx+1:=by rw[←hA];rfl
  have roA:HA.ro=H.ro:=by rw[←hA];rfl
  have kA:Keep H HA []:=by rw[←hA];exact Keep.new _ _ _
  have hBx:=Y8 (n:=7) (l:=[.str [],nI .i64 0, .bool false,nI .i64 0, .str [], .nils, .nils]) (vs:= .str key::tt) (by rfl) (by rw[Zn,htl]) (by omega) (show(H.new (rG 100 1 [.str [],nI .i64 0, .bool false,nI .i64 0, .str [], .nils, .nils] 0 false true true)).ro≤H.nx by show H.ro≤_;omega) 100 1 false true
  rw[VX rfl,hA] at hBx
  have gA:HA.t.get H.nx=some (rG 100 1 (.str key::tt) 0 false true true):=by rw[←hA,ZP rfl]
  have ldt: ∀(G:Heap),ldN 6 (some (rG 100 1 (.str key::tt) 0 false true true)) 1 G= .val (.agg tt) G:=fun G=>by
   rw[WH (by rw[Zn,htl];omega)]
   congr 2
   rw[V2,Yl,ZK (by omega)]
  have ld0: ∀(G:Heap),ld1 (some (rG 100 1 (.str key::tt) 0 false true true)) 0 G= .val (.str key) G:=fun G=>by
   rw[ZH (by rw[Zn];omega)];rfl
  have ld5: ∀(bv:AV) (G:Heap),ld1 (some (rG 79 1 [nI .i64 kk, .bool b, .int .i64 z, .str s,bl,bv] 0 false true true)) 5 G= .val bv G:=fun bv G=>by rw[ZH (by simp)];rfl
  have gA3:HA.t.get p3=some (rG 79 1 [nI .i64 kk, .bool b, .int .i64 z, .str s,bl,bv] 0 false true true):=by rw[kA.get _ hnx (by simp)];exact g3
  obtain⟨ds,HC,eC,hr,kC⟩:=ih (by omega) hvA
  have nxC:=kC.nx
  have roC:=kC.ro
  have gC3:HC.t.get p3=some (rG 79 1 [nI .i64 kk, .bool b, .int .i64 z, .str s,bl,bv] 0 false true true):=by rw[kC.get _ (by omega) (by simp)];exact gA3
  have gCA:HC.t.get H.nx=some (rG 100 1 (.str key::tt) 0 false true true):=by rw[kC.get _ (by omega) (by simp)];exact gA
  have ofA:Ofe HA h bv H0.nx (l.take i):=of.keep (fun c hc _=>kA.get c hc (by simp)) kA.ro kA.nx
  obtain⟨bv',HE,ea,of3,w⟩:=ofA.push (w:=key) hk9 kC (by omega) (by omega) hr (by rw[Yb];omega)
  rw[←ets] at of3
  have bd: ∀G:Heap,ZcL [.str [],nI .i64 0, .bool false,nI .i64 0, .str [], .nils, .nils] [(0,1, .str key),(1,6, .agg ds)] G= .val (.agg (.str key::ds)) G:=fun G=>ZFv hr.vr.len key G
  have bs: ∀G:Heap,ZbR 135 7 1 [.str [],nI .i64 0, .bool false,nI .i64 0, .str [], .nils, .nils] [(0,7, .agg (.str key::ds))] G= .val (.slice G.nx 0 1 none) (G.new (rG 135 7 (.str key::ds) 0 false true true)):=fun G=>ZDf hr.vr.len key 135 G
  obtain⟨HD,hD⟩: ∃G,HC.new (rG 135 7 (.str key::ds) 0 false true true)=G:=⟨_,rfl⟩
  rw[hD] at ea
  have nxD:HD.nx=HC.nx+1:=by rw[←hD];rfl
  have gD3:HD.t.get p3=some (rG 79 1 [nI .i64 kk, .bool b, .int .i64 z, .str s,bl,bv] 0 false true true):=by rw[←hD,Yy (by omega)];exact gC3
  have gDA:HD.t.get H.nx=some (rG 100 1 (.str key::tt) 0 false true true):=by rw[←hD,Yy (by omega)];exact gCA
  have gE3:HE.t.get p3=some (rG 79 1 [nI .i64 kk, .bool b, .int .i64 z, .str s,bl,bv] 0 false true true):=by rw[w.get _ (by omega) (by omega)];exact gC3
  have nxE:=w.nx
  have roE:=w.ro
  have st:=Zbc (fz:=0) (b:=p3) (H:=HE) (l:=[nI .i64 kk, .bool b, .int .i64 z, .str s,bl,bv]) (o:=5) (v:=bv') (by obtain⟨q1,q2,_⟩:=of3.buf;exact ZlY q2) (by simp) (by omega) (by omega) 79 1 false true
  have st:stN 1 (some (rG 79 1 [nI .i64 kk, .bool b, .int .i64 z, .str s,bl,bv] 0 false true true)) p3 5 bv' HE= .val Yx (HE.put p3 (rG 79 1 [nI .i64 kk, .bool b, .int .i64 z, .str s,bl,bv'] 0 false true true)):=st
  obtain⟨HF,hF⟩: ∃G,HE.put p3 (rG 79 1 [nI .i64 kk, .bool b, .int .i64 z, .str s,bl,bv'] 0 false true true)=G:=⟨_,rfl⟩
  rw[hF] at st
  have nxF:HF.nx=HE.nx:=by rw[←hF];rfl
  have roF:HF.ro=HE.ro:=by rw[←hF];rfl
  have kF:Keep H0 HF [p3]:=by
   rw[←hF]
   exact(Below.keepS (kA0.trans kC (by simp)) (w.mono (Zk _)) (by omega)).then_put (fun _=>by simp)
  have of4:Ofe HF h bv' H0.nx (l.take (i+1)):=of3.keep (fun c hc hlo=>by rw[←hF,Z3 (by omega)]) (by omega) (by omega)
  obtain⟨q1,rbx,_⟩:=ofA.buf
  have lbv: ∀m,HA.nx≤m→YA m bv=true:=fun m hm=>rbx.low hm
  have sbv:=rbx.same
  have lxs2: ∀m,HA.nx≤m→Zan m tt=true:=fun m hm=>hvA.low hm
  have sxs:=Zad hvA.same
  have lds: ∀m,HC.nx≤m→Zan m ds=true:=fun m hm=>hr.vr.low hm
  have nn: ∀m,HC.nx≤m→HA.nx≤m:=fun m hm=>by omega
  simp(maxSteps:=4000000) (disch:=first|assumption|omega|(simp -implicitDefEqProofs only[Zu,Zv]<;>first|assumption|omega)|decide) only[a3,a33,a34,t35,d1,eI,gb,eL,hBx,nxA,hA,gA,gA3,ldt,ld0,ld5,eC,gC3,gCA,bd,bs,hD,nxD,ea,gD3,gDA,gE3,st,lbv,sbv,lxs2,sxs,lds,ZL,YP,ZI,Yw,Zi,Zt,ZlR,ZC,N8G,Zr,Zs,Zd,Ze,Zf,Nat.reducePow,Nat.reduceDiv,Nat.reduceMod,Nat.reduceEqDiff,reduceCtorEq,TB0,TB1]
  refine⟨_,_,_,rfl,?_⟩
  exact .inl ⟨rfl,l.length - (i+1),by omega,⟨⟨i+1,bv',(by simp only[TB1,N8G]),by omega,rfl,by rw[←hF,Yo],of4⟩,(by simp only[TB0,N8G];exact a2'),(by simp only[TB0,N8G];exact a3'),(by simp only[TB1,N8G];exact a33'),(by simp only[TB1,N8G];exact a34'),kF,by omega,by omega⟩⟩
 ·have d1:decide (i<l.length)=false:=Zc hlt
  rw[ZK (by omega)] at of
  simp(maxSteps:=4000000) (disch:=first|assumption|omega|(simp -implicitDefEqProofs only[Zu,Zv]<;>first|assumption|omega)|decide) only[a34,t35,d1,ZI,ZlR,ZC,N8G,Zr,Zs,Zd,Ze,Zf,Nat.reducePow,Nat.reduceDiv,Nat.reduceMod,Nat.reduceEqDiff,reduceCtorEq,TB0,TB1]
  refine⟨_,_,_,rfl,?_⟩
  exact .inr ⟨by simp,rfl,(by simp only[TB0,N8G];exact a2'),(by simp only[TB0,N8G];exact a3'),k0,hro,hnx,bv,g3,of⟩
end
end Go.AI
namespace Go.AI
open Go
noncomputable section
theorem ZqV{Zm:Lib}{fs:T CF}{fuel:Nat}(E:Env Zm fs fuel){k:Nat}: ∀(h:Nat),h≤100→ ∀(n:Nat),h+10≤n→ZoT Zm fs fuel k n h:=by
 intro h
 induction h with
 |zero=>intro _ n _ v cs H _ hv;exact hv.elim
 |succ h ih=>
 intro hh n hn v cs H hro hv
 obtain⟨n,rfl⟩: ∃q,n=q+1:=⟨n - 1,by omega⟩
 have ih:ZoT Zm fs fuel k n h:=ih (by omega) n (by omega)
 obtain⟨kk,b,z,s,l,m⟩:=v
 obtain⟨lv,mv,ls,ms,rfl,hz1,hz2,hs9,hl9,hm9,sl,sm,e1,e2,hl,hm⟩:=hv
 rw[ZV (ZN E.n31 (.inr rfl) _ _) E.f31]
 obtain⟨H1,hH1⟩: ∃G,H.new (rG 72 1 [nI .i64 kk, .bool b, .int .i64 z, .str s,lv,mv] 0 false true true)=G:=⟨_,rfl⟩
 have bx:=Vf (l:=[nI .i64 kk, .bool b, .int .i64 z, .str s,lv,mv]) (Nat.le_add_left 1 5) 72 H
 rw[hH1] at bx
 have nx1:H1.nx=H.nx+1:=by rw[←hH1];rfl
 obtain⟨H2,hH2⟩: ∃G,H1.new (rG 79 1 [nI .i64 0, .bool false,nI .i64 0, .str [], .nils, .nils] 0 false true true)=G:=⟨_,rfl⟩
 have nx2:H2.nx=H.nx+1+1:=by rw[←hH2,ZdA,nx1]
 have ro2:H2.ro=H.ro:=by rw[←hH2,←hH1];rfl
 have g21:H2.t.get H.nx=some (rG 72 1 [nI .i64 kk, .bool b, .int .i64 z, .str s,lv,mv] 0 false true true):=by rw[←hH2,Yy (by omega),←hH1,ZP rfl]
 have bd: ∀G:Heap,ZcL [nI .i64 0, .bool false,nI .i64 0, .str [], .nils, .nils] [(0,1,nI .i64 kk),(1,1, .bool b),(2,1, .int .i64 z),(3,1, .str s)] G= .val (.agg [nI .i64 kk, .bool b, .int .i64 z, .str s, .nils, .nils]) G:=fun _=>rfl
 have hB:=Y8 (n:=6) (l:=[nI .i64 0, .bool false,nI .i64 0, .str [], .nils, .nils]) (vs:=[nI .i64 kk, .bool b, .int .i64 z, .str s, .nils, .nils]) (b:=H2.nx) (H:=H2.new (rG 79 1 [nI .i64 0, .bool false,nI .i64 0, .str [], .nils, .nils] 0 false true true)) (by rfl) (by rfl) (by omega) (show H2.ro≤H2.nx by omega) 79 1 false true
 obtain⟨H3,hH3⟩: ∃G,H2.new (rG 79 1 [nI .i64 kk, .bool b, .int .i64 z, .str s, .nils, .nils] 0 false true true)=G:=⟨_,rfl⟩
 rw[VX rfl,hH3,nx2] at hB
 have nx3:H3.nx=H.nx+1+1+1:=by rw[←hH3,ZdA,nx2]
 have ro3:H3.ro=H.ro:=by rw[←hH3];exact ro2
 have g31:H3.t.get H.nx=some (rG 72 1 [nI .i64 kk, .bool b, .int .i64 z, .str s,lv,mv] 0 false true true):=by rw[←hH3,Yy (by omega)];exact g21
 have g32:H3.t.get (H.nx+1)=some (rG 79 1 [nI .i64 0, .bool false,nI .i64 0, .str [], .nils, .nils] 0 false true true):=by rw[←hH3,Yy (by omega),←hH2,ZP nx1]
 have g33:H3.t.get (H.nx+1+1)=some (rG 79 1 [nI .i64 kk, .bool b, .int .i64 z, .str s, .nils, .nils] 0 false true true):=by rw[←hH3,ZP nx2]
 have k3:Keep H H3 []:=by rw[←hH3,←hH2,←hH1];exact((Keep.new H _ _).then_new _).then_new _
 have el:=sl.len
 rw[e1] at el
 have em:=sm.len
 rw[e2] at em
 have lowL_: ∀c o n q,lv= .slice c o n q→c<H.nx+1+1:=fun c o n q e=>by
  rcases sl.here with⟨_,rfl⟩|⟨c',o',q',rfl,hb,_⟩
  ·cases e
  ·cases e;omega
 have lowM_: ∀c o n q,mv= .slice c o n q→c<H.nx+1+1:=fun c o n q e=>by
  rcases sm.here with⟨_,rfl⟩|⟨c',o',q',rfl,hb,_⟩
  ·cases e
  ·cases e;omega
 simp(maxSteps:=4000000) (disch:=first|assumption|omega|(simp -implicitDefEqProofs only[Zu,Zv]<;>first|assumption|omega)|decide) only[bx,nx1,hH2,nx2,g21,bd,hB,g31,el,ZH,Zi,c31,ZC,N8G,Zr,Zs,Zd,Ze,Zf,Nat.reduceEqDiff,reduceCtorEq,TB0,TB1]
 generalize hL:WI (ZlQ _) fuel _ _ _=L
 obtain⟨o,tm1,H4,rfl,_,rfl,a1,a2,a3,k4,ro4,nx4,bl,g43,ofl⟩:=YC (P:=fun T=>OLI H3 kk b z s h (H.nx+1+1) (.ptr H.nx 0) (.ptr (H.nx+1) 0) lv l l.length T H3) (Q:=fun o tm' H'=>o= .exit 0∧gt1 tm'= .ptr H.nx 0∧gt2 tm'= .ptr (H.nx+1) 0∧gt3 tm'= .ptr (H.nx+1+1) 0∧Keep H3 H' [H.nx+1+1]∧H'.ro≤H.nx+1+1∧H.nx+1+1<H'.nx∧ ∃bv,H'.t.get (H.nx+1+1)=some (rG 79 1 [nI .i64 kk, .bool b, .int .i64 z, .str s,bv, .nils] 0 false true true)∧Ofl H' h bv H3.nx l)
  (fun T hi'=>YE (OLI H3 kk b z s h (H.nx+1+1) (.ptr H.nx 0) (.ptr (H.nx+1) 0) lv l) _ (fun m tm H' h'=>ZA2 E ih (by omega) (sl.keep0 k3) lowL_ e1 hl9 (fun i hi G kG=>(hl i hi).keep (k3.trans kG (fun c hc hlt=>absurd hlt (by simp at hc;omega)))) _ _ _ _ _ m tm H' h') fuel l.length T H3 (by have:=E.big;omega) hi') hL
  ⟨⟨0, .nils,rfl,ZX _,rfl,g33,Ofl.start ..⟩,rfl,rfl,rfl,rfl,rfl,Keep.refl _ _,by omega,by omega⟩
 have a1':=a1;have a2':=a2;have a3':=a3
 simp only[ZbE] at a1
 have g41:H4.t.get H.nx=some (rG 72 1 [nI .i64 kk, .bool b, .int .i64 z, .str s,lv,mv] 0 false true true):=by rw[k4.get _ (by omega) (by simp only[List.mem_singleton];omega)];exact g31
 have g42:H4.t.get (H.nx+1)=some (rG 79 1 [nI .i64 0, .bool false,nI .i64 0, .str [], .nils, .nils] 0 false true true):=by rw[k4.get _ (by omega) (by simp only[List.mem_singleton];omega)];exact g32
 have K4:Keep H H4 []:=k3.trans k4 (fun c hc hlt=>absurd hlt (by simp at hc;omega))
 simp(maxSteps:=4000000) (disch:=first|assumption|omega|(simp -implicitDefEqProofs only[Zu,Zv]<;>first|assumption|omega)|decide) only[a1,g41,em,ZH,Zi,c31,ZC,N8G,Zr,Zs,Zd,Ze,Zf,Nat.reduceEqDiff,reduceCtorEq,TB0,TB1]
 generalize hL:WI (ZlR _) fuel _ _ _=L
 obtain⟨o,tm2,H5,rfl,_,rfl,a2,a3,k5,ro5,nx5,bm,g53,ofm⟩:=YC (P:=fun T=>OMI H4 kk b z s bl h (H.nx+1+1) (.ptr (H.nx+1) 0) mv m m.length T H4) (Q:=fun o tm' H'=>o= .exit 2∧gt2 tm'= .ptr (H.nx+1) 0∧gt3 tm'= .ptr (H.nx+1+1) 0∧Keep H4 H' [H.nx+1+1]∧H'.ro≤H.nx+1+1∧H.nx+1+1<H'.nx∧ ∃bv,H'.t.get (H.nx+1+1)=some (rG 79 1 [nI .i64 kk, .bool b, .int .i64 z, .str s,bl,bv] 0 false true true)∧Ofe H' h bv H4.nx m)
  (fun T hi'=>YE (OMI H4 kk b z s bl h (H.nx+1+1) (.ptr (H.nx+1) 0) mv m) _ (fun q tm H' h'=>ZA3 E ih nx4 (sm.keep0 K4) lowM_ e2 hm9 (fun i hi=>by
   obtain⟨a,t,b',c⟩:=hm i hi
   exact⟨a,t,b',c.len,fun{G} kG=>c.keep (K4.trans kG (fun c hc hlt=>absurd hlt (by simp at hc;omega)))⟩) _ _ _ _ _ q tm H' h') fuel m.length T H4 (by have:=E.big;omega) hi') hL
  ⟨⟨0, .nils,rfl,ZX _,rfl,g43,Ofe.start ..⟩,a2',a3',rfl,rfl,Keep.refl _ _,ro4,nx4⟩
 simp only[ZaN] at a2
 simp only[Zfl] at a3
 have knx4:=k4.nx
 have knx5:=k5.nx
 have kro4:=k4.ro
 have kro5:=k5.ro
 have g52:H5.t.get (H.nx+1)=some (rG 79 1 [nI .i64 0, .bool false,nI .i64 0, .str [], .nils, .nils] 0 false true true):=by rw[k5.get _ (by omega) (by simp only[List.mem_singleton];omega)];exact g42
 have K5:Keep H H5 []:=K4.trans k5 (fun c hc hlt=>absurd hlt (by simp at hc;omega))
 have hF:=Y8 (n:=6) (l:=[nI .i64 0, .bool false,nI .i64 0, .str [], .nils, .nils]) (vs:=[nI .i64 kk, .bool b, .int .i64 z, .str s,bl,bm]) (b:=H.nx+1) (H:=H5) (by rfl) (by rfl) (by omega) (by omega) 79 1 false true
 obtain⟨H6,hH6⟩: ∃G,H5.put (H.nx+1) (rG 79 1 [nI .i64 kk, .bool b, .int .i64 z, .str s,bl,bm] 0 false true true)=G:=⟨_,rfl⟩
 rw[hH6] at hF
 have nx6:H6.nx=H5.nx:=by rw[←hH6];rfl
 have ro6:H6.ro=H5.ro:=by rw[←hH6];rfl
 have g62:H6.t.get (H.nx+1)=some (rG 79 1 [nI .i64 kk, .bool b, .int .i64 z, .str s,bl,bm] 0 false true true):=by rw[←hH6,Yo]
 have ldf: ∀(G':Heap),ldN 6 (some (rG 79 1 [nI .i64 kk, .bool b, .int .i64 z, .str s,bl,bm] 0 false true true)) 0 G'= .val (.agg [nI .i64 kk, .bool b, .int .i64 z, .str s,bl,bm]) G':=fun G'=>by rw[WH (Zk _)];rfl
 have rvx: ∀(kx:AV→CR),rV 6 true (some (rG 79 1 [nI .i64 kk, .bool b, .int .i64 z, .str s,bl,bm] 0 false true true)) 0 kx=kx (.agg [nI .i64 kk, .bool b, .int .i64 z, .str s,bl,bm]):=fun kx=>ZaH (n:=6) (l:=[nI .i64 kk, .bool b, .int .i64 z, .str s,bl,bm]) rfl kx
 have k6:Keep H H6 []:=by rw[←hH6];exact K5.then_put (fun h=>absurd h (by omega))
 have ofl6:Ofl H6 h bl H3.nx l:=(ofl.keep (H':=H5) (fun c hc hlo=>k5.get c hc (by simp;omega)) kro5 knx5).keep (fun c hc hlo=>by rw[←hH6,Z3 (by omega)]) ro6 (by omega)
 have ofm6:Ofe H6 h bm H4.nx m:=ofm.keep (fun c hc hlo=>by rw[←hH6,Z3 (by omega)]) ro6 (by omega)
 obtain⟨bb1,xs1,rb1,hb1,ex1,hv1⟩:=ofl6.ok
 obtain⟨bb2,xs2,rb2,hb2,ex2,hv2⟩:=ofm6.ok
 have off: ∀{v:AV} {e sz lo:Nat} {xs:List (List AV)},H.nx≤lo→RBuf H6 v e sz xs lo→Off (fun c=>c<H.nx) v:=fun hlo rb c o n q ev=>by
  rcases rb with⟨_,rfl⟩|⟨_,c',r,rfl,_,h3⟩
  ·cases ev
  ·cases ev;show ¬c<H.nx;omega
 refine⟨[nI .i64 kk, .bool b, .int .i64 z, .str s,bl,bm],H6,?_,⟨bl,bm,xs1,xs2,rfl,hz1,hz2,hs9,hl9,hm9,⟨Sl.of_buf rb1,off (by omega) rb1⟩,⟨Sl.of_buf rb2,off (by omega) rb2⟩,ex1,ex2,fun i hi=>(hv1 i hi).move (fun c _ _=>rfl) (Zk _) (fun c _ hS=> .inl (show c<H3.nx by have hS:c<H.nx:=hS;omega)),fun i hi=>?_⟩,k6⟩
 ·skip
  simp(maxSteps:=4000000) (disch:=first|assumption|omega|(simp -implicitDefEqProofs only[Zu,Zv]<;>first|assumption|omega)|decide) only[a2,a3,g53,ldf,g52,hF,g62,rvx,c31,ZC,N8G,Zr,Zs,Zd,Ze,Zf,Nat.reduceEqDiff,reduceCtorEq,TB0,TB1]
 ·obtain⟨a,t,b',c⟩:=hv2 i hi
  exact⟨a,t,b',c.move (fun c _ _=>rfl) (Zk _) (fun c _ hS=> .inl (show c<H4.nx by have hS:c<H.nx:=hS;omega))⟩
end
end Go.AI
namespace Go.AI
open Go
noncomputable section
theorem ZDg{G:Heap}{b:Nat}{s:List UInt8}{c:Option Nat}{sm ex:Bool}(h:G.t.get b=some (rG 5 1 (s.map u8V) 0 sm true ex)):ZlJ (.slice b 0 s.length c) G= .val (.str s) G:=by
 have h':G.t.get b=some (.row ⟨5,1,Yt (s.map u8V),T.ofList (s.map u8V), .unk,0,sm,true,ex⟩):=h
 refine ZlK h' rfl (by show 0+s.length≤Yt (s.map u8V);rw[Yr,ZA];omega) fun i hi=>?_
 rw[Zi,ZrZ,Zj,YT,Zj,Zp hi];rfl
structure UI(H0:Heap)(T:List UInt8)(m:Nat)(tm:TM)(H:Heap):Prop where
 i: ∃u s,gt0 tm=nI .u64 u∧u<18446744073709551616∧m=ZaI u∧gt3 tm= .str s∧T=dec u++s
 k:Keep H0 H []
 ro:H.ro≤H.nx
theorem ZDh{cl:Nat→List AV→Heap→CR}{H0:Heap}{T:List UInt8}(hT:T.length≤20)(y f d r)(x:X)(m':Nat)(tm:TM)(H:Heap)(hI:UI H0 T m' tm H):
  ∃o tm' H',Zid ⟨cl,y,f,d,r⟩ tm H x= .ok o tm' H' x∧((o= .normal∧ ∃q,q<m'∧UI H0 T q tm' H')∨(o≠ .normal∧(o= .ret∧gt2 tm'= .str T∧Keep H0 H' []))):=by
 obtain⟨⟨m,s,t0,hu,rfl,t3,rfl⟩,k0,hro⟩:=hI
 simp only[Zck] at t0
 simp only[Zfl] at t3
 have hd:m % 10<10:=Vh _ (by decide)
 have hdg:nI .u8 (48+m % 10)=u8V (dig (m % 10)):=by rw[ZCt,Zie hd]
 obtain⟨HA,hA⟩: ∃G,H.new (rG 5 1 ([dig (m % 10)].map u8V) 0 false true true)=G:=⟨_,rfl⟩
 have bs:=Zbt 5 (nI .u8 0) (nI .u8 (48+m % 10)) rfl H
 rw[Wi,hdg,show([u8V (dig (m % 10))]:List AV)=[dig (m % 10)].map u8V from rfl,hA] at bs
 have gA:HA.t.get H.nx=some (rG 5 1 ([dig (m % 10)].map u8V) 0 false true true):=by rw[←hA,ZP rfl]
 have es:=ZDg (c:=none) gA
 have es:ZlJ (.slice H.nx 0 1 none) HA= .val (.str [dig (m % 10)]) HA:=es
 have kA:Keep H0 HA []:=by rw[←hA];exact k0.then_new _
 have roA:HA.ro≤HA.nx:=by rw[←hA];show H.ro≤H.nx+1;omega
 rw[Zq] at hT
 have ads:=fun G=>WN (a:=[dig (m % 10)]) (b:=s) (by rw[Zn,Zw];omega) G
 have rm:=fun G=>Qy (a:=m) (b:=10) (by decide) G
 have ad:=fun G=>Zqp (a:=48) (b:=m % 10) (by omega) G
 have i8:=fun G=>ZaG (j:= .u64) (a:=48+m % 10) (by omega) G
 rw[hdg] at i8
 have qo:=fun G=>Qx (a:=m) (b:=10) (by decide) (by omega) G
 have eq:=fun G=>ZW .u64 (m/10) 0 G
 by_cases h0:m/10=0
 ·have d1:decide (m/10=0)=true:=Zh h0
  simp(maxSteps:=4000000) (disch:=first|assumption|omega|(simp -implicitDefEqProofs only[Zu,Zv]<;>first|assumption|omega)|decide) only[t0,t3,rm,ad,i8,bs,es,ads,qo,eq,d1,Zid,ZC,N8G,Zr,Zs,Zd,Ze,Zf,Nat.reducePow,Nat.reduceDiv,Nat.reduceMod,Nat.reduceEqDiff,reduceCtorEq,TB0]
  refine⟨_,_,_,rfl, .inr ⟨by simp,rfl,?_,kA⟩⟩
  simp only[TB0,N8G]
  rw[Zsn (by omega),Z0 (by omega)]
 ·have d1:decide (m/10=0)=false:=Zc h0
  simp(maxSteps:=4000000) (disch:=first|assumption|omega|(simp -implicitDefEqProofs only[Zu,Zv]<;>first|assumption|omega)|decide) only[t0,t3,rm,ad,i8,bs,es,ads,qo,eq,d1,Zid,ZC,N8G,Zr,Zs,Zd,Ze,Zf,Nat.reducePow,Nat.reduceDiv,Nat.reduceMod,Nat.reduceEqDiff,reduceCtorEq,TB0]
  refine⟨_,_,_,rfl,?_⟩
  exact .inl ⟨rfl,ZaI (m/10),by rw[ZfL (show 10≤m by omega)];exact Ys _,⟨⟨m/10,[dig (m % 10)]++s,(by simp only[TB0,N8G]),by omega,rfl,(by simp only[TB0,N8G]),by rw[Zx8 (by omega),VE]⟩,kA,roA⟩⟩
theorem ZFy{Zm:Lib}{fs:T CF}{fuel:Nat}(E:Env Zm fs fuel){k n u:Nat}{H:Heap}(hu:u<18446744073709551616)(hro:H.ro≤H.nx): ∃H',ZR (LK Zm fs fuel k) fs fuel (n+1) 159 [nI .u64 u] H= .ret (.str (dec u)) H'∧Keep H H' []:=by
 rw[ZV (ZN E.n159 (.inr rfl) _ _) E.f159]
 have hT:(dec u).length≤20:=ZjV u hu
 simp(maxSteps:=4000000) (disch:=first|assumption|omega|(simp -implicitDefEqProofs only[Zu,Zv]<;>first|assumption|omega)|decide) only[Zx6,ZC,N8G,Zr,Zs,Zd,Ze,Zf,Nat.reduceEqDiff,reduceCtorEq,TB0]
 generalize hL:WI (Zid _) fuel _ _ _=L
 obtain⟨o,tm1,H1,rfl,_,rfl,t2,k1⟩:=YC (P:=fun T'=>UI H (dec u) (ZaI u) T' H) (Q:=fun o tm' H'=>o= .ret∧gt2 tm'= .str (dec u)∧Keep H H' [])
  (fun T' hi'=>YE (UI H (dec u)) _ (fun m tm H' h'=>ZDh hT _ _ _ _ _ m tm H' h') fuel (ZaI u) T' H (by have:=E.big;rw[Zif] at hT;omega) hi') hL
  ⟨⟨u,[],rfl,hu,rfl,rfl,(List.append_nil _).symm⟩,Keep.refl _ _,hro⟩
 simp only[ZaN] at t2
 simp(maxSteps:=4000000) (disch:=first|assumption|omega|(simp -implicitDefEqProofs only[Zu,Zv]<;>first|assumption|omega)|decide) only[t2,Zx6,ZC,N8G,Zr,Zs,Zd,Ze,Zf,Nat.reduceEqDiff,reduceCtorEq,TB0]
 refine⟨_,rfl,?_⟩
 exact k1
theorem ZHe{Zm:Lib}{fs:T CF}{fuel:Nat}(E:Env Zm fs fuel){k n:Nat}{z:Int}{H:Heap}(h1: -9223372036854775808≤z)(h2:z<9223372036854775808)(hro:H.ro≤H.nx): ∃H',ZR (LK Zm fs fuel k) fs fuel (n+2) 118 [.int .i64 z] H= .ret (.str (Zep z)) H'∧Keep H H' []:=by
 rw[ZV (ZN E.n118 (.inr rfl) _ _) E.f118]
 unfold Zep
 cases z with
 |ofNat u=>
  obtain⟨H1,e1,k1⟩:=ZFy E (k:=k) (n:=n) (u:=u) (H:=H) (by have:(Int.ofNat u:Int)=(u:Int):=rfl;omega) hro
  have c1: ∀G:Heap,Zeo YR Yg (.int .i64 (.ofNat u)) (nI .i64 0) G= .val (.bool false) G:=fun G=>by
   have:=ZI .i64 u 0 G
   rw[Zc (by omega)] at this;exact this
  have i1: ∀G:Heap,ZhZ .u64 (.int .i64 (.ofNat u)) G= .val (nI .u64 u) G:=fun G=>Zkt (by have:(Int.ofNat u:Int)=(u:Int):=rfl;omega) G
  rw[if_neg (by have:(0:Int)≤ .ofNat u:=Int.natCast_nonneg u;omega),show(Int.ofNat u).natAbs=u from rfl]
  simp(maxSteps:=4000000) (disch:=first|assumption|omega|(simp -implicitDefEqProofs only[Zu,Zv]<;>first|assumption|omega)|decide) only[c1,i1,e1,Zx5,ZC,N8G,Zr,Zs,Zd,Ze,Zf,Nat.reduceEqDiff,reduceCtorEq,TB0]
  refine⟨_,rfl,?_⟩
  exact k1
 |negSucc m=>
  have hm:m<9223372036854775808:=by have:Int.negSucc m= -((m:Int)+1):=rfl;omega
  obtain⟨H1,e1,k1⟩:=ZFy E (k:=k) (n:=n) (u:=m+1) (H:=H) (by omega) hro
  have c1:=fun G=>Zkm .i64 m 0 G
  have a1: ∀G:Heap,Zl8 (.int .i64 (.negSucc m)) (nI .i64 1) G= .val (.int .i64 (-(m:Int))) G:=fun G=>by
   show ZS (kEq .i64 .i64) (VM .i64 (Zkv (.negSucc m) (.ofNat 1)) G)=_
   have e:Zkv (.negSucc m) (.ofNat 1)= -(m:Int):=by rw[ZsW];have:Int.negSucc m= -((m:Int)+1):=rfl;have:(Int.ofNat 1:Int)=1:=rfl;omega
   rw[YM,YV,e,Znx (by omega) (by omega)];rfl
  have n1: ∀G:Heap,ZzM (.int .i64 (-(m:Int))) G= .val (nI .i64 m) G:=fun G=>by
   show VM .i64 (Zio 0 (-(m:Int))) G=_
   have e:Zio 0 (-(m:Int))=(m:Int):=by rw[Zn4];omega
   rw[YV,e,Znx (by omega) (by omega)];rfl
  have i1: ∀G:Heap,ZhZ .u64 (nI .i64 m) G= .val (nI .u64 m) G:=fun G=>Zkt (by omega) G
  have a2:=fun G=>Zqp (a:=m) (b:=1) (by omega) G
  have hl:=ZjV (m+1) (by omega)
  have ads:=fun G=>WN (a:=[45]) (b:=dec (m+1)) (by rw[Zn,Zw];omega) G
  rw[if_pos (Int.negSucc_lt_zero m),show(Int.negSucc m).natAbs=m+1 from rfl,show(45::dec (m+1):List UInt8)=[45]++dec (m+1) from rfl]
  simp(maxSteps:=4000000) (disch:=first|assumption|omega|(simp -implicitDefEqProofs only[Zu,Zv]<;>first|assumption|omega)|decide) only[c1,a1,n1,i1,a2,ads,e1,Zx5,ZC,N8G,Zr,Zs,Zd,Ze,Zf,Nat.reduceEqDiff,reduceCtorEq,TB0]
  refine⟨_,rfl,?_⟩
  exact k1
end
end Go.AI
namespace Go.AI
open Go.Proofs N8
noncomputable section
def ZfO:D:=ZJ Zap false (Z5 gt2 3) Zdp<|ZJ Zap false (Zx Zdm) Zdq<|ZJ Zap false (Zz 126 [Q9]) Zdr<|ZJ Zap false (Zek Zci) ZfS<|Za (Yk Zap (k (.bool true)) ZfQ) ZfT<|Zb
def ZdW:D:=ZJ Ue false (Z5 gt2 5) Zbz<|ZJ Ue false (Zx ZaZ) Zbn<|ZJ Ue false (WE ZaL) ZbA<|ZJ Ue false (Yf Zb1 (k (nI .i64 0)) U1 W4) ZbM<|ZJ Ue false (oMv ZbK) Zb5<|ZJ QW true (Z5 gt2 0) Zcj<|ZJ QW true (Zx Zbk) ZcJ<|ZJ QW true (oEq ZbL (k (nI .i64 6)) eqI true) ZcU<|ZJ Ue false (Yk QW Zdl (k (.bool false))) ZcV<|Za (Yk Ue (k (.bool true)) ZcO) Zdn<|Za (oMv Zb2) Zdo<|ZfO
def ZdX:D:=ZJ Vv false (Z5 gt2 4) Qj<|ZJ Vv false (Zx V8) QG<|ZJ Vv false (WE QF) Zaa<|ZJ Vv false (Yf Q8 (k (nI .i64 0)) U1 W4) QQ<|ZJ Vv false (oMv Qc) Zab<|ZJ Vi true (Z5 gt2 0) Za0<|ZJ Vi true (Zx ZaA) Zbl<|ZJ Vi true (oEq Zbi (k (nI .i64 5)) eqI true) Za1<|ZJ Vv false (Yk Vi ZaY (k (.bool false))) Zbm<|Za (Yk Vv (k (.bool true)) Zao) Za2<|Za (oMv Zbj) Za3<|ZdW
def ZdY:D:=ZJ VB false (Z5 gt2 3) UQ<|ZJ VB false (Zx Uv) UR<|ZJ VB false (oEq V4 (k (.str [])) eqS true) US<|ZJ VB false (oMv Ui) Uz<|ZJ VC true (Z5 gt2 0) Uw<|ZJ VC true (Zx Ve) Ux<|ZJ VC true (oEq VZ (k (nI .i64 4)) eqI true) UT<|ZJ VB false (Yk VC Us (k (.bool false))) U3<|Za (Yk VB (k (.bool true)) Vo) Qh<|Za (oMv UP) Qi<|ZdX
def ZdZ:D:=ZJ Wv false (Z5 gt2 2) V0<|ZJ Wv false (Zx VJ) V5<|ZJ Wv false (oEq V3 (k (nI .i64 0)) eqI true) V9<|ZJ Wv false (oMv Vn) Ua<|ZJ WL true (Z5 gt2 0) Uj<|ZJ WL true (Zx Ud) V1<|ZJ WL true (oEq W7 (k (nI .i64 3)) eqI true) Ub<|ZJ Wv false (Yk WL W8 (k (.bool false))) Uc<|Za (Yk Wv (k (.bool true)) Vd) Ut<|Za (oMv VN) UL<|ZdY
def Zd0:D:=ZJ Wg false (Z5 gt2 1) W1<|ZJ Wg false (Zx Wt) W9<|ZJ Wg false (oMv WG) Vp<|ZJ We true (Z5 gt2 0) Vw<|ZJ We true (Zx Vu) Vx<|ZJ We true (oEq Wy (k (nI .i64 2)) eqI true) Vy<|ZJ Wg false (Yk We VG (k (.bool false))) VO<|Za (Yk Wg (k (.bool true)) W0) VK<|Za (oMv VA) VD<|ZdZ
def ZfP:D:=ZJ YJ false (Z5 gt2 0) Wh<|ZJ YJ false (Zx Y3) Wl<|ZJ YJ false (Yf Y4 (k (nI .i64 6)) U1 W4) Wq<|Za (Yk YJ (k (.bool true)) Y0) WP<|Za (oMv Wj) WT<|Zd0
def ZoU:CF:=⟨[(gt4,none)],(Zg (Za (QE gt0 79) st2<|Za (oMv (k (.bool false))) st4<|Zb) (Zg (Zg (Za (oMv gt1) st8<|Za (oEq gt8 (k (nI .i64 0)) eqI false) st9<|Zb) (ZD gt9 (Zg (Za (oMv (k (.bool false))) st4<|Zb) Z9) Zb)) (Zg (Zg (Za (Z5 gt2 0) YN<|Za (Zx Yu) YX<|Za (Yf YF (k (nI .i64 1)) YR Yg) Y1<|Za (oMv YI) Y5<|ZfP) (ZD ZcP (Zg (Za (oMv (k (.bool true))) st4<|Zb) Z9) Zb)) (Zg (Zg (Za (oMv (k (nI .i64 0))) st5<|Zb) (Z4 0 (Wx Zg0))) (Zg (Zg (Za (oMv (k (nI .i64 0))) st6<|Zb) (Z4 2 (Wx ZcM))) (Zg (Za (oMv (k (.bool false))) st4<|Zb) Z9))))))⟩
theorem ZtD:c72=ZoU:=rfl
end
end Go.AI
namespace Go.AI
open Go
noncomputable section
theorem Zjq{x y:Nat}(h:x≠y)(k:IntKind)(G:Heap):eqV eqI true (nI k x) (nI k y) G= .val (.bool true) G:=by rw[Zlv,Zh h]
theorem ZnO{x y:Nat}(h:x=y)(k:IntKind)(G:Heap):eqV eqI true (nI k x) (nI k y) G= .val (.bool false) G:=by rw[Zlv,Zc (fun hn=>hn h)]
theorem neZ(a b:Int)(k:IntKind)(G:Heap):eqV eqI true (.int k a) (.int k b) G= .val (.bool (!decide (a=b))) G:=by
 show Uy (cond (kEq k k) (some (ieq a b)) none) (fun b=>U0 (cond true (cond b false true) b) G)=_
 rw[YM,ZbB]
 show U0 (cond (decide (a=b)) false true) G=_
 rw[UG];cases decide (a=b)<;>rfl
theorem Zcl(a:Int)(k:IntKind)(G:Heap):eqV eqI true (.int k a) (nI k 0) G= .val (.bool (!decide (a=0))) G:=neZ a 0 k G
def ZvS(Zm:Lib)(H0:Heap):Prop:= ∀s,Wd s→ ∀G,Keep H0 G []→Zm 126 [.str s] G=some (.ret (.bool (vu s)) G)
def ZA4(Zm:Lib)(H0:Heap):Prop:= ∀s,Wd s→ ∀G,Keep H0 G []→Zm 119 [.str s] G=some (.ret (.str (quo s)) G)
theorem ZFz{kk:Nat}{b:Bool}{z:Int}{s:List UInt8}{lv mv:AV}{ll ml:Nat}{C:Ctx}{tm:TM}{H:Heap}{x:X}{a:Bool}{p0:Nat}{lvl:AV}(t1:gt1 tm=lvl)(t2:gt2 tm= .ptr p0 0)(ta:YJ tm= .bool a)(g1:H.t.get p0=some (rG 79 1 [nI .i64 kk, .bool b, .int .i64 z, .str s,lv,mv] 0 false true true))(el: ∀G,Qe lv G= .val (nI .i64 ll) G)(em: ∀G,Qe mv G= .val (nI .i64 ml) G): ∃tm',ZfP C tm H x=Zd0 C tm' H x∧gt1 tm'=lvl∧gt2 tm'= .ptr p0 0∧Wg tm'= .bool (a||decide (6<kk)):=by
 have t1':=t1;have t2':=t2
 simp only[ZaN] at t2
 simp only[ZBC] at ta
 cases a with
 |true=>
  simp(maxSteps:=4000000) (disch:=first|assumption|omega|(simp -implicitDefEqProofs only[Zu,Zv]<;>first|assumption|omega)|decide) only[YB,t2,ta,g1,el,em,ZH,Zt,Zi,ZU,Zcl,VW,W3,Bool.not_true,Bool.not_false,ZfP,ZC,N8G,Zr,Zs,Zd,Ze,Zf,Nat.reduceEqDiff,reduceCtorEq,TB0]
  refine⟨_,rfl,(by simp only[TB0,N8G];exact t1'),(by simp only[TB0,N8G];exact t2'),?_⟩
  simp only[TB0,N8G,Bool.true_or,Bool.false_or,ZY,ZZ,Bool.and_true,Bool.and_false,Bool.not_true,Bool.not_false]
 |false=>
  simp(maxSteps:=4000000) (disch:=first|assumption|omega|(simp -implicitDefEqProofs only[Zu,Zv]<;>first|assumption|omega)|decide) only[YB,t2,ta,g1,el,em,ZH,Zt,Zi,ZU,Zcl,VW,W3,Bool.not_true,Bool.not_false,ZfP,ZC,N8G,Zr,Zs,Zd,Ze,Zf,Nat.reduceEqDiff,reduceCtorEq,TB0]
  refine⟨_,rfl,(by simp only[TB0,N8G];exact t1'),(by simp only[TB0,N8G];exact t2'),?_⟩
  simp only[TB0,N8G,Bool.true_or,Bool.false_or,ZY,ZZ,Bool.and_true,Bool.and_false,Bool.not_true,Bool.not_false]
theorem ZFA{kk:Nat}{b:Bool}{z:Int}{s:List UInt8}{lv mv:AV}{ll ml:Nat}{C:Ctx}{tm:TM}{H:Heap}{x:X}{a:Bool}{p0:Nat}{lvl:AV}(t1:gt1 tm=lvl)(t2:gt2 tm= .ptr p0 0)(ta:Wg tm= .bool a)(g1:H.t.get p0=some (rG 79 1 [nI .i64 kk, .bool b, .int .i64 z, .str s,lv,mv] 0 false true true))(el: ∀G,Qe lv G= .val (nI .i64 ll) G)(em: ∀G,Qe mv G= .val (nI .i64 ml) G): ∃tm',Zd0 C tm H x=ZdZ C tm' H x∧gt1 tm'=lvl∧gt2 tm'= .ptr p0 0∧Wv tm'= .bool (a||(b&&!decide (kk=2))):=by
 have t1':=t1;have t2':=t2
 simp only[ZaN] at t2
 simp only[ZBD] at ta
 cases a with
 |true=>
  simp(maxSteps:=4000000) (disch:=first|assumption|omega|(simp -implicitDefEqProofs only[Zu,Zv]<;>first|assumption|omega)|decide) only[YB,t2,ta,g1,el,em,ZH,Zt,Zi,ZU,Zcl,VW,W3,Bool.not_true,Bool.not_false,Zd0,ZC,N8G,Zr,Zs,Zd,Ze,Zf,Nat.reduceEqDiff,reduceCtorEq,TB0]
  refine⟨_,rfl,(by simp only[TB0,N8G];exact t1'),(by simp only[TB0,N8G];exact t2'),?_⟩
  simp only[TB0,N8G,Bool.true_or,Bool.false_or,ZY,ZZ,Bool.and_true,Bool.and_false,Bool.not_true,Bool.not_false]
 |false=>
  cases b with
  |false=>
   simp(maxSteps:=4000000) (disch:=first|assumption|omega|(simp -implicitDefEqProofs only[Zu,Zv]<;>first|assumption|omega)|decide) only[YB,t2,ta,g1,el,em,ZH,Zt,Zi,ZU,Zcl,VW,W3,Bool.not_true,Bool.not_false,Zd0,ZC,N8G,Zr,Zs,Zd,Ze,Zf,Nat.reduceEqDiff,reduceCtorEq,TB0]
   refine⟨_,rfl,(by simp only[TB0,N8G];exact t1'),(by simp only[TB0,N8G];exact t2'),?_⟩
   simp only[TB0,N8G,Bool.true_or,Bool.false_or,ZY,ZZ,Bool.and_true,Bool.and_false,Bool.not_true,Bool.not_false]
  |true=>
   by_cases k1:kk=2
   ·have d2:decide (kk=2)=true:=Zh k1
    have n2:=ZnO k1 .i64
    simp(maxSteps:=4000000) (disch:=first|assumption|omega|(simp -implicitDefEqProofs only[Zu,Zv]<;>first|assumption|omega)|decide) only[YB,t2,ta,g1,el,em,ZH,Zt,Zi,ZU,Zcl,VW,W3,Bool.not_true,Bool.not_false,n2,Zd0,ZC,N8G,Zr,Zs,Zd,Ze,Zf,Nat.reduceEqDiff,reduceCtorEq,TB0]
    refine⟨_,rfl,(by simp only[TB0,N8G];exact t1'),(by simp only[TB0,N8G];exact t2'),?_⟩
    simp only[TB0,N8G,Bool.true_or,Bool.false_or,ZY,ZZ,Bool.and_true,Bool.and_false,Bool.not_true,Bool.not_false,d2]
   ·have d2:decide (kk=2)=false:=Zc k1
    have n2:=Zjq k1 .i64
    simp(maxSteps:=4000000) (disch:=first|assumption|omega|(simp -implicitDefEqProofs only[Zu,Zv]<;>first|assumption|omega)|decide) only[YB,t2,ta,g1,el,em,ZH,Zt,Zi,ZU,Zcl,VW,W3,Bool.not_true,Bool.not_false,n2,Zd0,ZC,N8G,Zr,Zs,Zd,Ze,Zf,Nat.reduceEqDiff,reduceCtorEq,TB0]
    refine⟨_,rfl,(by simp only[TB0,N8G];exact t1'),(by simp only[TB0,N8G];exact t2'),?_⟩
    simp only[TB0,N8G,Bool.true_or,Bool.false_or,ZY,ZZ,Bool.and_true,Bool.and_false,Bool.not_true,Bool.not_false,d2]
theorem ZFB{kk:Nat}{b:Bool}{z:Int}{s:List UInt8}{lv mv:AV}{ll ml:Nat}{C:Ctx}{tm:TM}{H:Heap}{x:X}{a:Bool}{p0:Nat}{lvl:AV}(t1:gt1 tm=lvl)(t2:gt2 tm= .ptr p0 0)(ta:Wv tm= .bool a)(g1:H.t.get p0=some (rG 79 1 [nI .i64 kk, .bool b, .int .i64 z, .str s,lv,mv] 0 false true true))(el: ∀G,Qe lv G= .val (nI .i64 ll) G)(em: ∀G,Qe mv G= .val (nI .i64 ml) G): ∃tm',ZdZ C tm H x=ZdY C tm' H x∧gt1 tm'=lvl∧gt2 tm'= .ptr p0 0∧VB tm'= .bool (a||(!decide (z=0)&&!decide (kk=3))):=by
 have t1':=t1;have t2':=t2
 simp only[ZaN] at t2
 simp only[ZEJ] at ta
 cases a with
 |true=>
  simp(maxSteps:=4000000) (disch:=first|assumption|omega|(simp -implicitDefEqProofs only[Zu,Zv]<;>first|assumption|omega)|decide) only[YB,t2,ta,g1,el,em,ZH,Zt,Zi,ZU,Zcl,VW,W3,Bool.not_true,Bool.not_false,ZdZ,ZC,N8G,Zr,Zs,Zd,Ze,Zf,Nat.reduceEqDiff,reduceCtorEq,TB0,TB1]
  refine⟨_,rfl,(by simp only[TB0,N8G];exact t1'),(by simp only[TB0,N8G];exact t2'),?_⟩
  simp only[TB1,N8G,Bool.true_or,Bool.false_or,ZY,ZZ,Bool.and_true,Bool.and_false,Bool.not_true,Bool.not_false]
 |false=>
  by_cases f1:z=0
  ·have d1:decide (z=0)=true:=Zh f1
   simp(maxSteps:=4000000) (disch:=first|assumption|omega|(simp -implicitDefEqProofs only[Zu,Zv]<;>first|assumption|omega)|decide) only[YB,t2,ta,g1,el,em,ZH,Zt,Zi,ZU,Zcl,VW,W3,Bool.not_true,Bool.not_false,d1,ZdZ,ZC,N8G,Zr,Zs,Zd,Ze,Zf,Nat.reduceEqDiff,reduceCtorEq,TB0,TB1]
   refine⟨_,rfl,(by simp only[TB0,N8G];exact t1'),(by simp only[TB0,N8G];exact t2'),?_⟩
   simp only[TB1,N8G,Bool.true_or,Bool.false_or,ZY,ZZ,Bool.and_true,Bool.and_false,Bool.not_true,Bool.not_false,d1]
  ·have d1:decide (z=0)=false:=Zc f1
   by_cases k1:kk=3
   ·have d2:decide (kk=3)=true:=Zh k1
    have n2:=ZnO k1 .i64
    simp(maxSteps:=4000000) (disch:=first|assumption|omega|(simp -implicitDefEqProofs only[Zu,Zv]<;>first|assumption|omega)|decide) only[YB,t2,ta,g1,el,em,ZH,Zt,Zi,ZU,Zcl,VW,W3,Bool.not_true,Bool.not_false,d1,n2,ZdZ,ZC,N8G,Zr,Zs,Zd,Ze,Zf,Nat.reduceEqDiff,reduceCtorEq,TB0,TB1]
    refine⟨_,rfl,(by simp only[TB0,N8G];exact t1'),(by simp only[TB0,N8G];exact t2'),?_⟩
    simp only[TB1,N8G,Bool.true_or,Bool.false_or,ZY,ZZ,Bool.and_true,Bool.and_false,Bool.not_true,Bool.not_false,d1,d2]
   ·have d2:decide (kk=3)=false:=Zc k1
    have n2:=Zjq k1 .i64
    simp(maxSteps:=4000000) (disch:=first|assumption|omega|(simp -implicitDefEqProofs only[Zu,Zv]<;>first|assumption|omega)|decide) only[YB,t2,ta,g1,el,em,ZH,Zt,Zi,ZU,Zcl,VW,W3,Bool.not_true,Bool.not_false,d1,n2,ZdZ,ZC,N8G,Zr,Zs,Zd,Ze,Zf,Nat.reduceEqDiff,reduceCtorEq,TB0,TB1]
    refine⟨_,rfl,(by simp only[TB0,N8G];exact t1'),(by simp only[TB0,N8G];exact t2'),?_⟩
    simp only[TB1,N8G,Bool.true_or,Bool.false_or,ZY,ZZ,Bool.and_true,Bool.and_false,Bool.not_true,Bool.not_false,d1,d2]
theorem ZFC{kk:Nat}{b:Bool}{z:Int}{s:List UInt8}{lv mv:AV}{ll ml:Nat}{C:Ctx}{tm:TM}{H:Heap}{x:X}{a:Bool}{p0:Nat}{lvl:AV}(t1:gt1 tm=lvl)(t2:gt2 tm= .ptr p0 0)(ta:VB tm= .bool a)(g1:H.t.get p0=some (rG 79 1 [nI .i64 kk, .bool b, .int .i64 z, .str s,lv,mv] 0 false true true))(el: ∀G,Qe lv G= .val (nI .i64 ll) G)(em: ∀G,Qe mv G= .val (nI .i64 ml) G): ∃tm',ZdY C tm H x=ZdX C tm' H x∧gt1 tm'=lvl∧gt2 tm'= .ptr p0 0∧Vv tm'= .bool (a||(!decide (s=[])&&!decide (kk=4))):=by
 have t1':=t1;have t2':=t2
 simp only[ZaN] at t2
 simp only[ZEM] at ta
 cases a with
 |true=>
  simp(maxSteps:=4000000) (disch:=first|assumption|omega|(simp -implicitDefEqProofs only[Zu,Zv]<;>first|assumption|omega)|decide) only[YB,t2,ta,g1,el,em,ZH,Zt,Zi,ZU,Zcl,VW,W3,Bool.not_true,Bool.not_false,ZdY,ZC,N8G,Zr,Zs,Zd,Ze,Zf,Nat.reduceEqDiff,reduceCtorEq,TB0,TB1]
  refine⟨_,rfl,(by simp only[TB0,N8G];exact t1'),(by simp only[TB0,N8G];exact t2'),?_⟩
  simp only[TB1,N8G,Bool.true_or,Bool.false_or,ZY,ZZ,Bool.and_true,Bool.and_false,Bool.not_true,Bool.not_false]
 |false=>
  by_cases f1:s=[]
  ·have d1:decide (s=[])=true:=Zh f1
   simp(maxSteps:=4000000) (disch:=first|assumption|omega|(simp -implicitDefEqProofs only[Zu,Zv]<;>first|assumption|omega)|decide) only[YB,t2,ta,g1,el,em,ZH,Zt,Zi,ZU,Zcl,VW,W3,Bool.not_true,Bool.not_false,d1,ZdY,ZC,N8G,Zr,Zs,Zd,Ze,Zf,Nat.reduceEqDiff,reduceCtorEq,TB0,TB1]
   refine⟨_,rfl,(by simp only[TB0,N8G];exact t1'),(by simp only[TB0,N8G];exact t2'),?_⟩
   simp only[TB1,N8G,Bool.true_or,Bool.false_or,ZY,ZZ,Bool.and_true,Bool.and_false,Bool.not_true,Bool.not_false,d1]
  ·have d1:decide (s=[])=false:=Zc f1
   by_cases k1:kk=4
   ·have d2:decide (kk=4)=true:=Zh k1
    have n2:=ZnO k1 .i64
    simp(maxSteps:=4000000) (disch:=first|assumption|omega|(simp -implicitDefEqProofs only[Zu,Zv]<;>first|assumption|omega)|decide) only[YB,t2,ta,g1,el,em,ZH,Zt,Zi,ZU,Zcl,VW,W3,Bool.not_true,Bool.not_false,d1,n2,ZdY,ZC,N8G,Zr,Zs,Zd,Ze,Zf,Nat.reduceEqDiff,reduceCtorEq,TB0,TB1]
    refine⟨_,rfl,(by simp only[TB0,N8G];exact t1'),(by simp only[TB0,N8G];exact t2'),?_⟩
    simp only[TB1,N8G,Bool.true_or,Bool.false_or,ZY,ZZ,Bool.and_true,Bool.and_false,Bool.not_true,Bool.not_false,d1,d2]
   ·have d2:decide (kk=4)=false:=Zc k1
    have n2:=Zjq k1 .i64
    simp(maxSteps:=4000000) (disch:=first|assumption|omega|(simp -implicitDefEqProofs only[Zu,Zv]<;>first|assumption|omega)|decide) only[YB,t2,ta,g1,el,em,ZH,Zt,Zi,ZU,Zcl,VW,W3,Bool.not_true,Bool.not_false,d1,n2,ZdY,ZC,N8G,Zr,Zs,Zd,Ze,Zf,Nat.reduceEqDiff,reduceCtorEq,TB0,TB1]
    refine⟨_,rfl,(by simp only[TB0,N8G];exact t1'),(by simp only[TB0,N8G];exact t2'),?_⟩
    simp only[TB1,N8G,Bool.true_or,Bool.false_or,ZY,ZZ,Bool.and_true,Bool.and_false,Bool.not_true,Bool.not_false,d1,d2]
theorem ZFD{kk:Nat}{b:Bool}{z:Int}{s:List UInt8}{lv mv:AV}{ll ml:Nat}{C:Ctx}{tm:TM}{H:Heap}{x:X}{a:Bool}{p0:Nat}{lvl:AV}(t1:gt1 tm=lvl)(t2:gt2 tm= .ptr p0 0)(ta:Vv tm= .bool a)(g1:H.t.get p0=some (rG 79 1 [nI .i64 kk, .bool b, .int .i64 z, .str s,lv,mv] 0 false true true))(el: ∀G,Qe lv G= .val (nI .i64 ll) G)(em: ∀G,Qe mv G= .val (nI .i64 ml) G): ∃tm',ZdX C tm H x=ZdW C tm' H x∧gt1 tm'=lvl∧gt2 tm'= .ptr p0 0∧Ue tm'= .bool (a||(decide (0<ll)&&!decide (kk=5))):=by
 have t1':=t1;have t2':=t2
 simp only[ZaN] at t2
 simp only[ZER] at ta
 cases a with
 |true=>
  simp(maxSteps:=4000000) (disch:=first|assumption|omega|(simp -implicitDefEqProofs only[Zu,Zv]<;>first|assumption|omega)|decide) only[YB,t2,ta,g1,el,em,ZH,Zt,Zi,ZU,Zcl,VW,W3,Bool.not_true,Bool.not_false,ZdX,ZC,N8G,Zr,Zs,Zd,Ze,Zf,Nat.reduceEqDiff,reduceCtorEq,TB0,TB1]
  refine⟨_,rfl,(by simp only[TB0,N8G];exact t1'),(by simp only[TB0,N8G];exact t2'),?_⟩
  simp only[TB1,N8G,Bool.true_or,Bool.false_or,ZY,ZZ,Bool.and_true,Bool.and_false,Bool.not_true,Bool.not_false]
 |false=>
  by_cases f1:0<ll
  ·have d1:decide (0<ll)=true:=Zh f1
   by_cases k1:kk=5
   ·have d2:decide (kk=5)=true:=Zh k1
    have n2:=ZnO k1 .i64
    simp(maxSteps:=4000000) (disch:=first|assumption|omega|(simp -implicitDefEqProofs only[Zu,Zv]<;>first|assumption|omega)|decide) only[YB,t2,ta,g1,el,em,ZH,Zt,Zi,ZU,Zcl,VW,W3,Bool.not_true,Bool.not_false,d1,n2,ZdX,ZC,N8G,Zr,Zs,Zd,Ze,Zf,Nat.reduceEqDiff,reduceCtorEq,TB0,TB1]
    refine⟨_,rfl,(by simp only[TB0,N8G];exact t1'),(by simp only[TB0,N8G];exact t2'),?_⟩
    simp only[TB1,N8G,Bool.true_or,Bool.false_or,ZY,ZZ,Bool.and_true,Bool.and_false,Bool.not_true,Bool.not_false,d1,d2]
   ·have d2:decide (kk=5)=false:=Zc k1
    have n2:=Zjq k1 .i64
    simp(maxSteps:=4000000) (disch:=first|assumption|omega|(simp -implicitDefEqProofs only[Zu,Zv]<;>first|assumption|omega)|decide) only[YB,t2,ta,g1,el,em,ZH,Zt,Zi,ZU,Zcl,VW,W3,Bool.not_true,Bool.not_false,d1,n2,ZdX,ZC,N8G,Zr,Zs,Zd,Ze,Zf,Nat.reduceEqDiff,reduceCtorEq,TB0,TB1]
    refine⟨_,rfl,(by simp only[TB0,N8G];exact t1'),(by simp only[TB0,N8G];exact t2'),?_⟩
    simp only[TB1,N8G,Bool.true_or,Bool.false_or,ZY,ZZ,Bool.and_true,Bool.and_false,Bool.not_true,Bool.not_false,d1,d2]
  ·have d1:decide (0<ll)=false:=Zc f1
   simp(maxSteps:=4000000) (disch:=first|assumption|omega|(simp -implicitDefEqProofs only[Zu,Zv]<;>first|assumption|omega)|decide) only[YB,t2,ta,g1,el,em,ZH,Zt,Zi,ZU,Zcl,VW,W3,Bool.not_true,Bool.not_false,d1,ZdX,ZC,N8G,Zr,Zs,Zd,Ze,Zf,Nat.reduceEqDiff,reduceCtorEq,TB0,TB1]
   refine⟨_,rfl,(by simp only[TB0,N8G];exact t1'),(by simp only[TB0,N8G];exact t2'),?_⟩
   simp only[TB1,N8G,Bool.true_or,Bool.false_or,ZY,ZZ,Bool.and_true,Bool.and_false,Bool.not_true,Bool.not_false,d1]
theorem ZFE{kk:Nat}{b:Bool}{z:Int}{s:List UInt8}{lv mv:AV}{ll ml:Nat}{C:Ctx}{tm:TM}{H:Heap}{x:X}{a:Bool}{p0:Nat}{lvl:AV}(t1:gt1 tm=lvl)(t2:gt2 tm= .ptr p0 0)(ta:Ue tm= .bool a)(g1:H.t.get p0=some (rG 79 1 [nI .i64 kk, .bool b, .int .i64 z, .str s,lv,mv] 0 false true true))(el: ∀G,Qe lv G= .val (nI .i64 ll) G)(em: ∀G,Qe mv G= .val (nI .i64 ml) G): ∃tm',ZdW C tm H x=ZfO C tm' H x∧gt1 tm'=lvl∧gt2 tm'= .ptr p0 0∧Zap tm'= .bool (a||(decide (0<ml)&&!decide (kk=6))):=by
 have t1':=t1;have t2':=t2
 simp only[ZaN] at t2
 simp only[ZEV] at ta
 cases a with
 |true=>
  simp(maxSteps:=4000000) (disch:=first|assumption|omega|(simp -implicitDefEqProofs only[Zu,Zv]<;>first|assumption|omega)|decide) only[YB,t2,ta,g1,el,em,ZH,Zt,Zi,ZU,Zcl,VW,W3,Bool.not_true,Bool.not_false,ZdW,ZC,N8G,Zr,Zs,Zd,Ze,Zf,Nat.reduceEqDiff,reduceCtorEq,TB0,TB1,TB2]
  refine⟨_,rfl,(by simp only[TB0,N8G];exact t1'),(by simp only[TB0,N8G];exact t2'),?_⟩
  simp only[TB2,N8G,Bool.true_or,Bool.false_or,ZY,ZZ,Bool.and_true,Bool.and_false,Bool.not_true,Bool.not_false]
 |false=>
  by_cases f1:0<ml
  ·have d1:decide (0<ml)=true:=Zh f1
   by_cases k1:kk=6
   ·have d2:decide (kk=6)=true:=Zh k1
    have n2:=ZnO k1 .i64
    simp(maxSteps:=4000000) (disch:=first|assumption|omega|(simp -implicitDefEqProofs only[Zu,Zv]<;>first|assumption|omega)|decide) only[YB,t2,ta,g1,el,em,ZH,Zt,Zi,ZU,Zcl,VW,W3,Bool.not_true,Bool.not_false,d1,n2,ZdW,ZC,N8G,Zr,Zs,Zd,Ze,Zf,Nat.reduceEqDiff,reduceCtorEq,TB0,TB1,TB2]
    refine⟨_,rfl,(by simp only[TB0,N8G];exact t1'),(by simp only[TB0,N8G];exact t2'),?_⟩
    simp only[TB2,N8G,Bool.true_or,Bool.false_or,ZY,ZZ,Bool.and_true,Bool.and_false,Bool.not_true,Bool.not_false,d1,d2]
   ·have d2:decide (kk=6)=false:=Zc k1
    have n2:=Zjq k1 .i64
    simp(maxSteps:=4000000) (disch:=first|assumption|omega|(simp -implicitDefEqProofs only[Zu,Zv]<;>first|assumption|omega)|decide) only[YB,t2,ta,g1,el,em,ZH,Zt,Zi,ZU,Zcl,VW,W3,Bool.not_true,Bool.not_false,d1,n2,ZdW,ZC,N8G,Zr,Zs,Zd,Ze,Zf,Nat.reduceEqDiff,reduceCtorEq,TB0,TB1,TB2]
    refine⟨_,rfl,(by simp only[TB0,N8G];exact t1'),(by simp only[TB0,N8G];exact t2'),?_⟩
    simp only[TB2,N8G,Bool.true_or,Bool.false_or,ZY,ZZ,Bool.and_true,Bool.and_false,Bool.not_true,Bool.not_false,d1,d2]
  ·have d1:decide (0<ml)=false:=Zc f1
   simp(maxSteps:=4000000) (disch:=first|assumption|omega|(simp -implicitDefEqProofs only[Zu,Zv]<;>first|assumption|omega)|decide) only[YB,t2,ta,g1,el,em,ZH,Zt,Zi,ZU,Zcl,VW,W3,Bool.not_true,Bool.not_false,d1,ZdW,ZC,N8G,Zr,Zs,Zd,Ze,Zf,Nat.reduceEqDiff,reduceCtorEq,TB0,TB1,TB2]
   refine⟨_,rfl,(by simp only[TB0,N8G];exact t1'),(by simp only[TB0,N8G];exact t2'),?_⟩
   simp only[TB2,N8G,Bool.true_or,Bool.false_or,ZY,ZZ,Bool.and_true,Bool.and_false,Bool.not_true,Bool.not_false,d1]
theorem ZFF{Zm:Lib}{fs:T CF}{fuel:Nat}(E:Env Zm fs fuel){kk:Nat}{b:Bool}{z:Int}{s:List UInt8}{lv mv:AV}{k n:Nat}{y f d r}{tm:TM}{H0 H:Heap}{x:X}{a:Bool}{p0:Nat}{lvl:AV}(VH:ZvS Zm H0)(k0:Keep H0 H [])(hs:Wd s)(t1:gt1 tm=lvl)(t2:gt2 tm= .ptr p0 0)(ta:Zap tm= .bool a)(g1:H.t.get p0=some (rG 79 1 [nI .i64 kk, .bool b, .int .i64 z, .str s,lv,mv] 0 false true true)): ∃tm',ZfO ⟨ZR (LK Zm fs fuel k) fs fuel (n+1),y,f,d,r⟩ tm H x= .ok .normal tm' H x∧gt1 tm'=lvl∧gt2 tm'= .ptr p0 0∧ZcP tm'= .bool (a||!vu s):=by
 have t1':=t1;have t2':=t2
 simp only[ZaN] at t2
 simp only[ZE1] at ta
 have ev: ∀m,ZR (LK Zm fs fuel k) fs fuel (m+1) 126 [.str s] H= .ret (.bool (vu s)) H:=fun m=>Zcg rfl (VH s hs H k0)
 cases a with
 |true=>
  simp(maxSteps:=4000000) (disch:=first|assumption|omega|(simp -implicitDefEqProofs only[Zu,Zv]<;>first|assumption|omega)|decide) only[YB,t2,ta,ZfO,ZC,N8G,Zr,Zs,Zd,Ze,Zf,Nat.reduceEqDiff,reduceCtorEq,TB0,TB2]
  refine⟨_,rfl,(by simp only[TB0,N8G];exact t1'),(by simp only[TB0,N8G];exact t2'),?_⟩
  simp only[TB2,N8G,Bool.true_or]
 |false=>
 cases hv:vu s with
 |true=>
  rw[hv] at ev
  simp(maxSteps:=4000000) (disch:=first|assumption|omega|(simp -implicitDefEqProofs only[Zu,Zv]<;>first|assumption|omega)|decide) only[YB,t2,ta,g1,ZH,ev,W3,Zi,ZfO,ZC,N8G,Zr,Zs,Zd,Ze,Zf,Nat.reduceEqDiff,reduceCtorEq,TB0,TB2]
  refine⟨_,rfl,(by simp only[TB0,N8G];exact t1'),(by simp only[TB0,N8G];exact t2'),?_⟩
  simp only[TB2,N8G,Bool.false_or,Bool.not_true]
 |false=>
  rw[hv] at ev
  simp(maxSteps:=4000000) (disch:=first|assumption|omega|(simp -implicitDefEqProofs only[Zu,Zv]<;>first|assumption|omega)|decide) only[YB,t2,ta,g1,ZH,ev,W3,Zi,ZfO,ZC,N8G,Zr,Zs,Zd,Ze,Zf,Nat.reduceEqDiff,reduceCtorEq,TB0,TB2]
  refine⟨_,rfl,(by simp only[TB0,N8G];exact t1'),(by simp only[TB0,N8G];exact t2'),?_⟩
  simp only[TB2,N8G,Bool.false_or,Bool.not_false]
end
end Go.AI
namespace Go.AI
open Go
noncomputable section
def ZtE(Zm:Lib)(fs:T CF)(fuel k n d:Nat)(HB:Heap):Prop:= ∀{h:Nat} {v:JV} {cs:List AV} {H:Heap},Keep HB H []→H.ro≤H.nx→VR H h v cs→WD h v→
 ∃H',ZR (LK Zm fs fuel k) fs fuel n 72 [.agg cs,nI .i64 d] H= .ret (.bool (JV.wrong d v)) H'∧Keep H H' []
structure WLI(H0:Heap)(d p0:Nat)(l:List JV)(m:Nat)(tm:TM)(H:Heap):Prop where
 i: ∃i,gt5 tm=nI .i64 i∧i≤l.length∧m=l.length - i∧(l.drop i).any (JV.wrong d)=l.any (JV.wrong d)
 a1:gt1 tm=nI .i64 (d+1)
 a2:gt2 tm= .ptr p0 0
 k:Keep H0 H []
 ro:H.ro≤H.nx
theorem ZyW{l:List JV}{f:JV→Bool}{i:Nat}(h:i<l.length):(l.drop i).any f=(f (l.getD i default)||(l.drop (i+1)).any f):=by
 rw[List.drop_eq_getElem_cons h,List.any_cons,Zj,Zp h];rfl
theorem ZA5{Zm:Lib}{fs:T CF}{fuel:Nat}(E:Env Zm fs fuel){k n d h:Nat}{HB H0:Heap}(ih:ZtE Zm fs fuel k n d HB)(kB:Keep HB H0 []){kk:Nat}{b:Bool}{z:Int}{s:List UInt8}{lv mv:AV}{p0:Nat}(hd:d≤1000)(g0:H0.t.get p0=some (rG 79 1 [nI .i64 kk, .bool b, .int .i64 z, .str s,lv,mv] 0 false true true))(lp0:p0<H0.nx){l:List JV}{ls:List (List AV)}(sl:Sl H0 6 lv ls)(e:ls.length=l.length)(hl:l.length≤9000)(hv: ∀i,i<l.length→VR H0 h (l.getD i default) (ls.getD i []))(hw: ∀x∈l,WD h x)(y f dd r)(x:X)(m:Nat)(tm:TM)(H:Heap)(hI:WLI H0 d p0 l m tm H):
  ∃o tm' H',Zg0 ⟨ZR (LK Zm fs fuel k) fs fuel n,y,f,dd,r⟩ tm H x= .ok o tm' H' x∧((o= .normal∧ ∃q,q<m∧WLI H0 d p0 l q tm' H')∨(o≠ .normal∧Keep H0 H' []∧H'.ro≤H'.nx∧((o= .exit 0∧l.any (JV.wrong d)=false∧gt1 tm'=nI .i64 (d+1)∧gt2 tm'= .ptr p0 0)∨(o= .ret∧l.any (JV.wrong d)=true∧gt4 tm'= .bool true)))):=by
 obtain⟨⟨i,t5,hi,rfl,hT⟩,a1,a2,k0,hro⟩:=hI
 have a1':=a1;have a2':=a2
 simp only[ZbE] at a1
 simp only[ZaN] at a2
 simp only[ZfU] at t5
 have g1:H.t.get p0=some (rG 79 1 [nI .i64 kk, .bool b, .int .i64 z, .str s,lv,mv] 0 false true true):=by rw[k0.get _ lp0 (by simp)];exact g0
 have el:=sl.len
 rw[e] at el
 by_cases hlt:i<l.length
 ·have d1:decide (i<l.length)=true:=Zh hlt
  obtain⟨b',o',r',eI,hb',gb,eL,_⟩:=(sl.keep0 k0).at_ (i:=i) (by omega)
  have hvi:=(hv i hlt).keep k0
  have hmem:l.getD i default∈l:=by rw[Zj,Zp hlt];exact YL hlt
  obtain⟨H',eC,kC⟩:=ih (kB.trans k0 (by simp)) hro hvi (hw _ hmem)
  have roC:H'.ro≤H'.nx:=by rw[kC.ro];have:=kC.nx;omega
  rw[ZyW hlt] at hT
  cases hq:JV.wrong d (l.getD i default) with
  |true=>
   rw[hq] at eC hT
   simp(maxSteps:=4000000) (disch:=first|assumption|omega|(simp -implicitDefEqProofs only[Zu,Zv]<;>first|assumption|omega)|decide) only[a1,a2,t5,g1,el,d1,eI,gb,eL,eC,ZH,ZI,Yw,YO,ZT,Zi,Zg0,ZC,N8G,Zr,Zs,Zd,Ze,Zf,Nat.reduceEqDiff,reduceCtorEq,TB0,TB2]
   refine⟨_,_,_,rfl,?_⟩
   exact .inr ⟨by simp,k0.trans kC (by simp),roC, .inr ⟨rfl,hT.symm,(by simp only[TB0,N8G])⟩⟩
  |false=>
   rw[hq] at eC hT
   simp(maxSteps:=4000000) (disch:=first|assumption|omega|(simp -implicitDefEqProofs only[Zu,Zv]<;>first|assumption|omega)|decide) only[a1,a2,t5,g1,el,d1,eI,gb,eL,eC,ZH,ZI,Yw,YO,ZT,Zi,Zg0,ZC,N8G,Zr,Zs,Zd,Ze,Zf,Nat.reduceEqDiff,reduceCtorEq,TB0,TB2]
   refine⟨_,_,_,rfl,?_⟩
   exact .inl ⟨rfl,l.length - (i+1),by omega,⟨⟨i+1,(by simp only[TB0,N8G]),by omega,rfl,hT⟩,(by simp only[TB0,N8G];exact a1'),(by simp only[TB0,N8G];exact a2'),k0.trans kC (by simp),roC⟩⟩
 ·have d1:decide (i<l.length)=false:=Zc hlt
  rw[Y7 (by omega)] at hT
  simp(maxSteps:=4000000) (disch:=first|assumption|omega|(simp -implicitDefEqProofs only[Zu,Zv]<;>first|assumption|omega)|decide) only[a2,t5,g1,el,d1,ZH,ZI,Zi,Zg0,ZC,N8G,Zr,Zs,Zd,Ze,Zf,Nat.reduceEqDiff,reduceCtorEq,TB0,TB2]
  refine⟨_,_,_,rfl,?_⟩
  exact .inr ⟨by simp,k0,hro, .inl ⟨rfl,hT.symm,(by simp only[TB0,N8G];exact a1'),(by simp only[TB0,N8G];exact a2')⟩⟩
structure WKI(d p0 i:Nat)(m:List (List UInt8×JV))(mm:Nat)(tm:TM):Prop where
 ii: ∃j,gt7 tm=nI .i64 j∧j≤i∧mm=i - j∧ ∀q,q<j→(m.getD q default).1≠(m.getD i default).1
 a1:gt1 tm=nI .i64 (d+1)
 a2:gt2 tm= .ptr p0 0
 a6:gt6 tm=nI .i64 i
theorem ZA6{cl:Nat→List AV→Heap→CR}{d i:Nat}{H:Heap}{kk:Nat}{b:Bool}{z:Int}{s:List UInt8}{lv mv:AV}{p0:Nat}(g1:H.t.get p0=some (rG 79 1 [nI .i64 kk, .bool b, .int .i64 z, .str s,lv,mv] 0 false true true))(lp0:p0<H.nx){m:List (List UInt8×JV)}{ms:List (List AV)}(sl:Sl H 7 mv ms)(e:ms.length=m.length)(hl:m.length≤9000)(hk: ∀i,i<m.length→ ∃t,ms.getD i []= .str (m.getD i default).1::t)(hi:i<m.length)(y f dd r)(x:X)(mm:Nat)(tm:TM)(H_:Heap)(hI:H_=H∧WKI d p0 i m mm tm):
  ∃o tm' H',Zjb ⟨cl,y,f,dd,r⟩ tm H_ x= .ok o tm' H' x∧((o= .normal∧ ∃q,q<mm∧(H'=H∧WKI d p0 i m q tm'))∨(o≠ .normal∧H'=H∧((o= .exit 4∧(∀q,q<i→(m.getD q default).1≠(m.getD i default).1)∧gt1 tm'=nI .i64 (d+1)∧gt2 tm'= .ptr p0 0∧gt6 tm'=nI .i64 i)∨(o= .ret∧(∃q,q<i∧(m.getD q default).1=(m.getD i default).1)∧gt4 tm'= .bool true)))):=by
 obtain⟨rfl,⟨j,t7,hj,rfl,hno⟩,a1,a2,a6⟩:=hI
 have a1':=a1;have a2':=a2;have a6':=a6
 simp only[ZbE] at a1
 simp only[ZaN] at a2
 simp only[Zj8] at a6
 simp only[Zxo] at t7
 by_cases hlt:j<i
 ·have d1:decide (j<i)=true:=Zh hlt
  obtain⟨b1,o1,r1,eI1,hb1,gb1,_,eL1⟩:=sl.at_ (i:=j) (by omega)
  obtain⟨b2,o2,r2,eI2,hb2,gb2,_,eL2⟩:=sl.at_ (i:=i) (by omega)
  obtain⟨u1,hu1⟩:=hk j (by omega)
  obtain⟨u2,hu2⟩:=hk i hi
  have eL1:=fun(G:Heap)=>eL1 0 G (by omega)
  have eL2:=fun(G:Heap)=>eL2 0 G (by omega)
  rw[hu1,Zt] at eL1
  rw[hu2,Zt] at eL2
  have eL1: ∀G:Heap,ld1 (some (.row r1)) o1 G= .val (.str (m.getD j default).1) G:=eL1
  have eL2: ∀G:Heap,ld1 (some (.row r2)) o2 G= .val (.str (m.getD i default).1) G:=eL2
  have lmv:=sl.low (n:=H_.nx) (Zk _)
  have smv:=sl.same
  have ld5: ∀G:Heap,ld1 (some (rG 79 1 [nI .i64 kk, .bool b, .int .i64 z, .str s,lv,mv] 0 false true true)) 5 G= .val mv G:=fun G=>by rw[ZH (by simp)];rfl
  by_cases hq:(m.getD j default).1=(m.getD i default).1
  ·have d2:decide ((m.getD j default).1=(m.getD i default).1)=true:=Zh hq
   have hex: ∃q,q<i∧(m.getD q default).1=(m.getD i default).1:=⟨j,hlt,hq⟩
   generalize(m.getD j default).1=ka at eL1 d2
   generalize(m.getD i default).1=kb at eL2 d2 hex
   simp(maxSteps:=4000000) (disch:=first|assumption|omega|(simp -implicitDefEqProofs only[Zu,Zv]<;>first|assumption|omega)|decide) only[a2,a6,t7,g1,d1,d2,eI1,gb1,eL1,eI2,gb2,eL2,lmv,smv,ld5,ZL,UH,ZI,Yw,Zt,Zi,Zjb,ZC,N8G,Zr,Zs,Zd,Ze,Zf,Nat.reducePow,Nat.reduceDiv,Nat.reduceMod,Nat.reduceEqDiff,reduceCtorEq,TB0,TB3,TB4]
   refine⟨_,_,_,rfl,?_⟩
   exact .inr ⟨by simp,rfl, .inr ⟨rfl,hex,(by simp only[TB0,N8G])⟩⟩
  ·have d2:decide ((m.getD j default).1=(m.getD i default).1)=false:=Zc hq
   have hno': ∀q,q<j+1→(m.getD q default).1≠(m.getD i default).1:=fun q hq'=>by
    by_cases h:q=j
    ·subst h;exact hq
    ·exact hno q (by omega)
   clear hno hq
   generalize hka:(m.getD j default).1=ka at eL1 d2
   generalize hkb:(m.getD i default).1=kb at eL2 d2
   simp(maxSteps:=4000000) (disch:=first|assumption|omega|(simp -implicitDefEqProofs only[Zu,Zv]<;>first|assumption|omega)|decide) only[a2,a6,t7,g1,d1,d2,eI1,gb1,eL1,eI2,gb2,eL2,lmv,smv,ld5,ZL,UH,ZI,Yw,Zt,Zi,Zjb,ZC,N8G,Zr,Zs,Zd,Ze,Zf,Nat.reducePow,Nat.reduceDiv,Nat.reduceMod,Nat.reduceEqDiff,reduceCtorEq,TB0,TB3,TB4]
   refine⟨_,_,_,rfl,?_⟩
   exact .inl ⟨rfl,i - (j+1),by omega,rfl,⟨⟨j+1,(by simp only[TB0,N8G]),by omega,rfl,hno'⟩,(by simp only[TB0,N8G];exact a1'),(by simp only[TB0,N8G];exact a2'),(by simp only[TB0,N8G];exact a6')⟩⟩
 ·have d1:decide (j<i)=false:=Zc hlt
  simp(maxSteps:=4000000) (disch:=first|assumption|omega|(simp -implicitDefEqProofs only[Zu,Zv]<;>first|assumption|omega)|decide) only[a6,t7,d1,ZI,Zjb,ZC,N8G,Zr,Zs,Zd,Ze,Zf,Nat.reducePow,Nat.reduceDiv,Nat.reduceMod,Nat.reduceEqDiff,reduceCtorEq,TB0,TB3,TB4]
  refine⟨_,_,_,rfl,?_⟩
  exact .inr ⟨by simp,rfl, .inl ⟨rfl,fun q hq=>hno q (by omega),(by simp only[TB0,N8G];exact a1'),(by simp only[TB0,N8G];exact a2'),(by simp only[TB0,N8G];exact a6')⟩⟩
end
end Go.AI
namespace Go.AI
open Go
noncomputable section
theorem Sl.part7{H:Heap}{v:AV}{ls:List (List AV)}(h:Sl H 7 v ls){i:Nat}(hi:i<ls.length):
  ∃b o r,(∀(k:IntKind) (G:Heap),Zlw 7 v (nI k i) G= .val (.ptr b o) G)∧b<H.nx∧H.t.get b=some (.row r)∧ ∀G:Heap,ld1 (some (.row r)) o G= .val ((ls.getD i []).getD 0 .unk) G∧ldN 6 (some (.row r)) (o+1) G= .val (.agg (ls.getD i []).tail) G:=by
 obtain⟨b,o,r,h1,h2,h3,h4,h5⟩:=h.at_ hi
 refine⟨b,o,r,h1,h2,h3,fun G=>⟨h5 0 G (by omega),?_⟩⟩
 have h4:=h4 G
 have hl:(ls.getD i []).length=7:=h.each _ (by rw[Zj,Zp hi];exact YL hi)
 have h4:ZS (Nat.ble (Nat.add o 7) r.size) (OR.val (.agg (AI.loadN r o 7)) G)= .val (.agg (ls.getD i [])) G:=h4
 cases hb:Nat.ble (Nat.add o 7) r.size with
 |false=>rw[hb] at h4;cases h4
 |true=>
  rw[hb] at h4
  have h4:OR.val (.agg (AI.loadN r o 7)) G= .val (.agg (ls.getD i [])) G:=h4
  injection h4 with h6 _
  injection h6 with h6
  have hb':o+7≤r.size:=ZO hb
  show ZS (Nat.ble (o+1+6) r.size) (OR.val (.agg (AI.loadN r (o+1) 6)) G)=_
  rw[Zl (by omega)]
  show OR.val (.agg (AI.loadN r (o+1) 6)) G=_
  congr 2
  rw[←h6]
  apply List.ext_getElem?
  intro q
  by_cases hq:q<6
  ·rw[UD _ _ _ _ hq,List.getElem?_tail,UD _ _ _ _ (by omega),show o+1+q=o+(q+1) by omega]
  ·rw[Yp (by rw[Um];omega),Yp (by rw[List.length_tail,Um];omega)]
def Zdf(m:List (List UInt8×JV)):List (List UInt8):=m.map (·.1)
theorem ZvT(f:JV→Bool){m:List (List UInt8×JV)}{i:Nat}(h:i<m.length):JV.badM f (Zdf (m.take i)) (m.drop i)=(decide ((m.getD i default).1∈Zdf (m.take i))||!vu (m.getD i default).1||f (m.getD i default).2||JV.badM f (Zdf (m.take (i+1))) (m.drop (i+1))):=by
 have e:m.getD i default=m[i]:=by rw[Zj,Zp h];rfl
 rw[List.drop_eq_getElem_cons h,e]
 show(decide (m[i].1∈Zdf (m.take i))||!vu m[i].1||f m[i].2||JV.badM f (Zdf (m.take i)++[m[i].1]) (m.drop (i+1)))=_
 have:Zdf (m.take i)++[m[i].1]=Zdf (m.take (i+1)):=by
  unfold Zdf
  rw[List.take_add_one,Zp h,List.map_append];rfl
 rw[this]
theorem ZyX{m:List (List UInt8×JV)}{i:Nat}(h:i≤m.length)(k:List UInt8):k∈Zdf (m.take i)↔ ∃q,q<i∧(m.getD q default).1=k:=by
 unfold Zdf
 rw[List.mem_map]
 constructor
 ·rintro ⟨x,hx,rfl⟩
  obtain⟨q,hq,rfl⟩:=ZbZ hx
  rw[Yb] at hq
  refine⟨q,by omega,?_⟩
  rw[Zj,List.getElem_take,Zp (by omega)];rfl
 ·rintro ⟨q,hq,rfl⟩
  refine⟨m.getD q default,?_,rfl⟩
  rw[Zj,Zp (by omega)]
  exact List.mem_take_iff_getElem.2 ⟨q,by omega,rfl⟩
structure WMI(H0:Heap)(d p0:Nat)(m:List (List UInt8×JV))(mm:Nat)(tm:TM)(H:Heap):Prop where
 i: ∃i,gt6 tm=nI .i64 i∧i≤m.length∧mm=m.length - i∧JV.badM (JV.wrong d) (Zdf (m.take i)) (m.drop i)=JV.badM (JV.wrong d) [] m
 a1:gt1 tm=nI .i64 (d+1)
 a2:gt2 tm= .ptr p0 0
 k:Keep H0 H []
 ro:H.ro≤H.nx
theorem ZA7{Zm:Lib}{fs:T CF}{fuel:Nat}(E:Env Zm fs fuel){k n d h:Nat}{HB H0:Heap}(VH:ZvS Zm HB)(ih:ZtE Zm fs fuel k (n+1) d HB)(kB:Keep HB H0 []){kk:Nat}{b:Bool}{z:Int}{s:List UInt8}{lv mv:AV}{p0:Nat}(hd:d≤1000)(g0:H0.t.get p0=some (rG 79 1 [nI .i64 kk, .bool b, .int .i64 z, .str s,lv,mv] 0 false true true))(lp0:p0<H0.nx){m:List (List UInt8×JV)}{ms:List (List AV)}(sl:Sl H0 7 mv ms)(e:ms.length=m.length)(hl:m.length≤9000)(hv: ∀i,i<m.length→ ∃t,ms.getD i []= .str (m.getD i default).1::t∧VR H0 h (m.getD i default).2 t)(hw: ∀x∈m,Wd x.1∧WD h x.2)(y f r)(x:X)(mm:Nat)(tm:TM)(H:Heap)(hI:WMI H0 d p0 m mm tm H):
  ∃o tm' H',ZcM ⟨ZR (LK Zm fs fuel k) fs fuel (n+1),y,f,fuel,r⟩ tm H x= .ok o tm' H' x∧((o= .normal∧ ∃q,q<mm∧WMI H0 d p0 m q tm' H')∨(o≠ .normal∧Keep H0 H' []∧H'.ro≤H'.nx∧((o= .exit 2∧JV.badM (JV.wrong d) [] m=false)∨(o= .ret∧JV.badM (JV.wrong d) [] m=true∧gt4 tm'= .bool true)))):=by
 obtain⟨⟨i,t6,hi,rfl,hT⟩,a1,a2,k0,hro⟩:=hI
 have a1':=a1;have a2':=a2;have t6':=t6
 simp only[ZbE] at a1
 simp only[ZaN] at a2
 simp only[Zj8] at t6
 have g1:H.t.get p0=some (rG 79 1 [nI .i64 kk, .bool b, .int .i64 z, .str s,lv,mv] 0 false true true):=by rw[k0.get _ lp0 (by simp)];exact g0
 have el:=sl.len
 rw[e] at el
 have ld5: ∀G:Heap,ld1 (some (rG 79 1 [nI .i64 kk, .bool b, .int .i64 z, .str s,lv,mv] 0 false true true)) 5 G= .val mv G:=fun G=>by rw[ZH (by simp)];rfl
 by_cases hlt:i<m.length
 ·have d1:decide (i<m.length)=true:=Zh hlt
  obtain⟨b',o',r',eI,hb',gb,eP⟩:=(sl.keep0 k0).part7 (i:=i) (by omega)
  obtain⟨t,ht,hvt⟩:=hv i hlt
  have hmem:m.getD i default∈m:=by rw[Zj,Zp hlt];exact YL hlt
  obtain⟨wk,wv⟩:=hw _ hmem
  rw[ht] at eP
  have e0: ∀G:Heap,ld1 (some (.row r')) o' G= .val (.str (m.getD i default).1) G:=fun G=>(eP G).1
  have e6: ∀G:Heap,ldN 6 (some (.row r')) (o'+1) G= .val (.agg t) G:=fun G=>(eP G).2
  clear eP
  have hvt:=hvt.keep k0
  rw[ZvT _ hlt] at hT
  have hmk:=ZyX (Zbf hlt) (m.getD i default).1
  have ev: ∀q,ZR (LK Zm fs fuel k) fs fuel (q+1) 126 [.str (m.getD i default).1] H= .ret (.bool (vu (m.getD i default).1)) H:=fun q=>Zcg rfl (VH _ wk H (kB.trans k0 (by simp)))
  obtain⟨H',eC,kC⟩:=ih (kB.trans k0 (by simp)) hro hvt wv
  have roC:H'.ro≤H'.nx:=by rw[kC.ro];have:=kC.nx;omega
  have k2:=k0.trans kC (by simp)
  have g2:H'.t.get p0=some (rG 79 1 [nI .i64 kk, .bool b, .int .i64 z, .str s,lv,mv] 0 false true true):=by rw[k2.get _ lp0 (by simp)];exact g0
  generalize hkey:(m.getD i default).1=key at*
  generalize hval:(m.getD i default).2=val at*
  cases hu:vu key with
  |false=>
   rw[hu] at ev hT
   simp(maxSteps:=4000000) (disch:=first|assumption|omega|(simp -implicitDefEqProofs only[Zu,Zv]<;>first|assumption|omega)|decide) only[a1,a2,t6,g1,el,ld5,d1,eI,gb,e0,ev,W3,ZI,Zt,Zi,ZcM,ZC,N8G,Zr,Zs,Zd,Ze,Zf,Nat.reduceEqDiff,reduceCtorEq,TB0,TB2,TB3]
   refine⟨_,_,_,rfl,?_⟩
   exact .inr ⟨by simp,k0,hro, .inr ⟨rfl,by rw[←hT];simp,(by simp only[TB0,N8G])⟩⟩
  |true=>
   rw[hu] at ev hT
   cases hq:JV.wrong d val with
   |true=>
    rw[hq] at eC hT
    simp(maxSteps:=4000000) (disch:=first|assumption|omega|(simp -implicitDefEqProofs only[Zu,Zv]<;>first|assumption|omega)|decide) only[a1,a2,t6,g1,el,ld5,d1,eI,gb,e0,e6,ev,eC,W3,ZI,YO,ZT,Zt,Zi,ZcM,ZC,N8G,Zr,Zs,Zd,Ze,Zf,Nat.reduceEqDiff,reduceCtorEq,TB0,TB2,TB3]
    refine⟨_,_,_,rfl,?_⟩
    exact .inr ⟨by simp,k2,roC, .inr ⟨rfl,by rw[←hT];simp,(by simp only[TB0,N8G])⟩⟩
   |false=>
    rw[hq] at eC hT
    simp(maxSteps:=4000000) (disch:=first|assumption|omega|(simp -implicitDefEqProofs only[Zu,Zv]<;>first|assumption|omega)|decide) only[a1,a2,t6,g1,el,ld5,d1,eI,gb,e0,e6,ev,eC,W3,ZI,YO,ZT,Zt,Zi,ZcM,ZC,N8G,Zr,Zs,Zd,Ze,Zf,Nat.reduceEqDiff,reduceCtorEq,TB0,TB2,TB3]
    generalize hL:WI (Zjb _) fuel _ _ _=L
    obtain⟨o,tm1,H2,rfl,_,rfl,hQ⟩:=YC (P:=fun T=>WKI d p0 i m i T) (Q:=fun o tm' H2=>H2=H'∧((o= .exit 4∧(∀q,q<i→(m.getD q default).1≠(m.getD i default).1)∧gt1 tm'=nI .i64 (d+1)∧gt2 tm'= .ptr p0 0∧gt6 tm'=nI .i64 i)∨(o= .ret∧(∃q,q<i∧(m.getD q default).1=(m.getD i default).1)∧gt4 tm'= .bool true)))
     (fun T hi'=>YE (fun q tm H2=>H2=H'∧WKI d p0 i m q tm) _ (fun q tm H2 h'=>ZA6 g2 (ZF lp0 k2.nx) (sl.keep0 k2) e hl (fun i hi=>by obtain⟨t,a,_⟩:=hv i hi;exact⟨t,a⟩) hlt _ _ _ _ _ q tm H2 h') fuel i T H' (by have:=E.big;omega) ⟨rfl,hi'⟩) hL
     ⟨⟨0,rfl,ZX _,rfl,fun q hq=>absurd hq (Y9 _)⟩,(by simp only[TB0,N8G];exact a1'),(by simp only[TB0,N8G];exact a2'),(by simp only[TB0,N8G];exact t6')⟩
    rw[hkey] at hQ
    rcases hQ with⟨rfl,hno,b1,b2,b6⟩|⟨rfl,hex,b4⟩
    ·have b1':=b1;have b2':=b2
     simp only[Zj8] at b6
     have hni: ¬key∈Zdf (m.take i):=fun hin=>by
      obtain⟨q,hq1,hq2⟩:=hmk.1 hin
      exact hno q hq1 hq2
     rw[Zc hni] at hT
     simp(maxSteps:=4000000) (disch:=first|assumption|omega|(simp -implicitDefEqProofs only[Zu,Zv]<;>first|assumption|omega)|decide) only[b6,Yw,ZcM,ZC,N8G,Zr,Zs,Zd,Ze,Zf,Nat.reduceEqDiff,reduceCtorEq,TB0,TB2,TB3]
     refine⟨_,_,_,rfl,?_⟩
     exact .inl ⟨rfl,m.length - (i+1),by omega,⟨⟨i+1,(by simp only[TB0,N8G]),by omega,rfl,by rw[←hT];simp⟩,(by simp only[TB0,N8G];exact b1'),(by simp only[TB0,N8G];exact b2'),k2,roC⟩⟩
    ·have hin:key∈Zdf (m.take i):=hmk.2 hex
     rw[Zh hin] at hT
     have b4':=b4
     simp only[Zj7] at b4
     simp(maxSteps:=4000000) (disch:=first|assumption|omega|(simp -implicitDefEqProofs only[Zu,Zv]<;>first|assumption|omega)|decide) only[ZcM,ZC,N8G,Zr,Zs,Zd,Ze,Zf,Nat.reduceEqDiff,reduceCtorEq,TB0,TB2,TB3]
     refine⟨_,_,_,rfl,?_⟩
     exact .inr ⟨by simp,k2,roC, .inr ⟨rfl,by rw[←hT];simp,b4'⟩⟩
 ·have d1:decide (i<m.length)=false:=Zc hlt
  rw[Y7 (by omega)] at hT
  simp(maxSteps:=4000000) (disch:=first|assumption|omega|(simp -implicitDefEqProofs only[Zu,Zv]<;>first|assumption|omega)|decide) only[a2,t6,g1,el,ld5,d1,ZI,Zi,ZcM,ZC,N8G,Zr,Zs,Zd,Ze,Zf,Nat.reduceEqDiff,reduceCtorEq,TB0,TB2,TB3]
  refine⟨_,_,_,rfl,?_⟩
  exact .inr ⟨by simp,k0,hro, .inl ⟨rfl,hT.symm⟩⟩
end
end Go.AI
namespace Go.AI
open Go
noncomputable section
theorem ZFG(kk:Nat)(b:Bool)(z:Int)(s:List UInt8)(l:List JV)(m:List (List UInt8×JV)):
  (((((((decide (kk<1)||decide (6<kk))||(b&&!decide (kk=2)))||(!decide (z=0)&&!decide (kk=3)))||(!decide (s=[])&&!decide (kk=4)))||(decide (0<l.length)&&!decide (kk=5)))||(decide (0<m.length)&&!decide (kk=6)))||!vu s)
   =(decide (kk<1)||decide (6<kk)||!JV.apart (.mk kk b z s l m)||!vu s):=by
 have e:JV.apart (.mk kk b z s l m)=((decide (kk=2)||!b)&&(decide (kk=3)||decide (z=0))&&(decide (kk=4)||decide (s=[]))&&(decide (kk=5)||decide (l.length=0))&&(decide (kk=6)||decide (m.length=0))):=rfl
 have h1:decide (0<l.length)=!decide (l.length=0):=by cases l<;>simp
 have h2:decide (0<m.length)=!decide (m.length=0):=by cases m<;>simp
 rw[e,h1,h2]
 generalize decide (kk<1)=x1
 generalize decide (6<kk)=x2
 generalize decide (kk=2)=k2
 generalize decide (kk=3)=k3
 generalize decide (kk=4)=k4
 generalize decide (kk=5)=k5
 generalize decide (kk=6)=k6
 generalize decide (z=0)=z0
 generalize decide (s=[])=s0
 generalize decide (l.length=0)=l0
 generalize decide (m.length=0)=m0
 generalize vu s=v
 simp only[Bool.not_and,Bool.not_or,Bool.not_not,Bool.or_assoc]
 simp only[Bool.and_comm]
theorem ZA8{Zm:Lib}{fs:T CF}{fuel:Nat}(E:Env Zm fs fuel){k:Nat}{HB:Heap}(VH:ZvS Zm HB): ∀(d:Nat),d≤100→ ∀(n:Nat),d+10≤n→ZtE Zm fs fuel k n d HB:=by
 intro d
 induction d with
 |zero=>
  intro _ n hn h v cs H kB hro hv hw
  obtain⟨n,rfl⟩: ∃q,n=q+1:=⟨n - 1,by omega⟩
  rw[ZV (ZN E.n72 (.inr rfl) _ _) E.f72,ZtD]
  have hlen:=hv.len
  have bx:=Vf (l:=cs) (by omega) 79 H
  have d0:decide (0=0)=true:=rfl
  simp(maxSteps:=4000000) (disch:=first|assumption|omega|(simp -implicitDefEqProofs only[Zu,Zv]<;>first|assumption|omega)|decide) only[bx,d0,ZW,ZoU,ZC,N8G,Zr,Zs,Zd,Ze,Zf,Nat.reduceEqDiff,reduceCtorEq,TB0,TB2]
  refine⟨_,rfl,?_⟩
  exact Keep.new _ _ _
 |succ d ih=>
  intro hd n hn h v cs H kB hro hv hw
  obtain⟨n,rfl⟩: ∃q,n=q+2:=⟨n - 2,by omega⟩
  have ih:ZtE Zm fs fuel k (n+1) d HB:=ih (by omega) (n+1) (by omega)
  obtain⟨h,rfl⟩: ∃q,h=q+1:=by cases h with|zero=>exact hv.elim|succ q=>exact⟨q,rfl⟩
  obtain⟨kk,b,z,s,l,m⟩:=v
  obtain⟨lv,mv,ls,ms,rfl,_,_,_,hl9,hm9,sl,sm,e1,e2,hl,hm⟩:=hv
  obtain⟨ws,wl,wm⟩:=hw
  rw[ZV (ZN E.n72 (.inr rfl) _ _) E.f72,ZtD]
  have bx:=Vf (l:=[nI .i64 kk, .bool b, .int .i64 z, .str s,lv,mv]) (Nat.le_add_left 1 5) 79 H
  obtain⟨H1,hH1⟩: ∃G,H.new (rG 79 1 [nI .i64 kk, .bool b, .int .i64 z, .str s,lv,mv] 0 false true true)=G:=⟨_,rfl⟩
  rw[hH1] at bx
  have nx1:H1.nx=H.nx+1:=by rw[←hH1];rfl
  have g1:H1.t.get H.nx=some (rG 79 1 [nI .i64 kk, .bool b, .int .i64 z, .str s,lv,mv] 0 false true true):=by rw[←hH1,ZP rfl]
  have k1:Keep H H1 []:=by rw[←hH1];exact Keep.new _ _ _
  have ro1:H1.ro≤H1.nx:=by rw[k1.ro];omega
  have kB1:=kB.trans k1 (by simp)
  have el:=sl.len
  rw[e1] at el
  have em:=sm.len
  rw[e2] at em
  have d0:decide (d+1=0)=false:=rfl
  have key: ∀TT:TM,gt1 TT=nI .i64 (d+1)→gt2 TT= .ptr H.nx 0→YJ TT= .bool (decide (kk<1))→ ∃tm',ZfP ⟨ZR (LK Zm fs fuel k) fs fuel (n+1),Wk,Qn fs fuel (ZR (LK Zm fs fuel k) fs fuel (n+1)),fuel,false⟩ TT H1 ⟨[],none⟩= .ok .normal tm' H1 ⟨[],none⟩∧gt1 tm'=nI .i64 (d+1)∧gt2 tm'= .ptr H.nx 0∧ZcP tm'= .bool (decide (kk<1)||decide (6<kk)||!JV.apart (.mk kk b z s l m)||!vu s):=by
   intro TT t1 t2 ta
   obtain⟨T1,q1,a1,b1,c1⟩:=ZFz (C:=⟨ZR (LK Zm fs fuel k) fs fuel (n+1),Wk,Qn fs fuel (ZR (LK Zm fs fuel k) fs fuel (n+1)),fuel,false⟩) (x:=⟨[],none⟩) t1 t2 ta g1 el em
   obtain⟨T2,q2,a2,b2,c2⟩:=ZFA (C:=⟨ZR (LK Zm fs fuel k) fs fuel (n+1),Wk,Qn fs fuel (ZR (LK Zm fs fuel k) fs fuel (n+1)),fuel,false⟩) (x:=⟨[],none⟩) a1 b1 c1 g1 el em
   obtain⟨T3,q3,a3,b3,c3⟩:=ZFB (C:=⟨ZR (LK Zm fs fuel k) fs fuel (n+1),Wk,Qn fs fuel (ZR (LK Zm fs fuel k) fs fuel (n+1)),fuel,false⟩) (x:=⟨[],none⟩) a2 b2 c2 g1 el em
   obtain⟨T4,q4,a4,b4,c4⟩:=ZFC (C:=⟨ZR (LK Zm fs fuel k) fs fuel (n+1),Wk,Qn fs fuel (ZR (LK Zm fs fuel k) fs fuel (n+1)),fuel,false⟩) (x:=⟨[],none⟩) a3 b3 c3 g1 el em
   obtain⟨T5,q5,a5,b5,c5⟩:=ZFD (C:=⟨ZR (LK Zm fs fuel k) fs fuel (n+1),Wk,Qn fs fuel (ZR (LK Zm fs fuel k) fs fuel (n+1)),fuel,false⟩) (x:=⟨[],none⟩) a4 b4 c4 g1 el em
   obtain⟨T6,q6,a6,b6,c6⟩:=ZFE (C:=⟨ZR (LK Zm fs fuel k) fs fuel (n+1),Wk,Qn fs fuel (ZR (LK Zm fs fuel k) fs fuel (n+1)),fuel,false⟩) (x:=⟨[],none⟩) a5 b5 c5 g1 el em
   obtain⟨T7,q7,a7,b7,c7⟩:=ZFF E (k:=k) (n:=n) (y:=Wk) (f:=Qn fs fuel (ZR (LK Zm fs fuel k) fs fuel (n+1))) (d:=fuel) (r:=false) (x:=⟨[],none⟩) VH kB1 ws a6 b6 c6 g1
   rw[ZFG] at c7
   exact⟨T7,q1.trans (q2.trans (q3.trans (q4.trans (q5.trans (q6.trans q7))))),a7,b7,c7⟩
  have hJ:JV.wrong (d+1) (.mk kk b z s l m)=((decide (kk<1)||decide (6<kk)||!JV.apart (.mk kk b z s l m)||!vu s)||JV.badM (JV.wrong d) [] m||l.any (JV.wrong d)):=rfl
  rw[hJ]
  simp(maxSteps:=4000000) (disch:=first|assumption|omega|(simp -implicitDefEqProofs only[Zu,Zv]<;>first|assumption|omega)|decide) only[bx,nx1,g1,d0,ZW,ZI,ZH,Zi,ZoU,ZC,N8G,Zr,Zs,Zd,Ze,Zf,Nat.reduceEqDiff,reduceCtorEq,TB0,TB2]
  generalize hS:ZfP _ _ _ _=L
  obtain⟨tm1,hL,b1,b2,b74⟩: ∃tm',L= .ok .normal tm' H1 ⟨[],none⟩∧gt1 tm'=nI .i64 (d+1)∧gt2 tm'= .ptr H.nx 0∧ZcP tm'= .bool (decide (kk<1)||decide (6<kk)||!JV.apart (.mk kk b z s l m)||!vu s):=by
   rw[←hS]
   refine key _ ?_ ?_ ?_<;>simp only[TB0,N8G]
  subst hL
  have b1':=b1;have b2':=b2
  simp only[ZbE] at b1
  simp only[ZaN] at b2
  simp only[ZE2] at b74
  cases hw0:(decide (kk<1)||decide (6<kk)||!JV.apart (.mk kk b z s l m)||!vu s) with
  |true=>
   rw[hw0] at b74
   simp only[Bool.true_or]
   simp(maxSteps:=4000000) (disch:=first|assumption|omega|(simp -implicitDefEqProofs only[Zu,Zv]<;>first|assumption|omega)|decide) only[b74,ZoU,ZC,N8G,Zr,Zs,Zd,Ze,Zf,Nat.reduceEqDiff,reduceCtorEq,TB0,TB2]
   refine⟨_,rfl,?_⟩
   exact k1
  |false=>
   rw[hw0] at b74
   rw[Bool.false_or]
   simp(maxSteps:=4000000) (disch:=first|assumption|omega|(simp -implicitDefEqProofs only[Zu,Zv]<;>first|assumption|omega)|decide) only[b74,ZoU,ZC,N8G,Zr,Zs,Zd,Ze,Zf,Nat.reduceEqDiff,reduceCtorEq,TB0,TB2]
   generalize hL:WI (Zg0 _) fuel _ _ _=L
   obtain⟨o,tm2,H2,rfl,_,k2,ro2,hQ⟩:=YC (P:=fun T=>WLI H1 d H.nx l l.length T H1) (Q:=fun o tm' H'=>Keep H1 H' []∧H'.ro≤H'.nx∧((o= .exit 0∧l.any (JV.wrong d)=false∧gt1 tm'=nI .i64 (d+1)∧gt2 tm'= .ptr H.nx 0)∨(o= .ret∧l.any (JV.wrong d)=true∧gt4 tm'= .bool true)))
    (fun T hi'=>YE (WLI H1 d H.nx l) _ (fun q tm H' h'=>ZA5 E ih kB1 (by omega) g1 (by omega) (sl.keep0 k1) e1 hl9 (fun i hi=>(hl i hi).keep k1) wl _ _ _ _ _ q tm H' h') fuel l.length T H1 (by have:=E.big;omega) hi') hL
    ⟨⟨0,rfl,ZX _,rfl,rfl⟩,(by simp only[TB0,N8G];exact b1'),(by simp only[TB0,N8G];exact b2'),Keep.refl _ _,ro1⟩
   rcases hQ with⟨rfl,hany,b1,b2⟩|⟨rfl,hany,b4⟩
   ·have b1':=b1;have b2':=b2
    simp only[ZbE] at b1
    simp only[ZaN] at b2
    rw[hany,Bool.or_false]
    have g2:H2.t.get H.nx=some (rG 79 1 [nI .i64 kk, .bool b, .int .i64 z, .str s,lv,mv] 0 false true true):=by rw[k2.get _ (by omega) (by simp)];exact g1
    have K2:=k1.trans k2 (by simp)
    simp(maxSteps:=4000000) (disch:=first|assumption|omega|(simp -implicitDefEqProofs only[Zu,Zv]<;>first|assumption|omega)|decide) only[ZoU,ZC,N8G,Zr,Zs,Zd,Ze,Zf,Nat.reduceEqDiff,reduceCtorEq,TB0,TB2]
    generalize hL:WI (ZcM _) fuel _ _ _=L
    obtain⟨o,tm3,H3,rfl,_,k3,ro3,hQ⟩:=YC (P:=fun T=>WMI H2 d H.nx m m.length T H2) (Q:=fun o tm' H'=>Keep H2 H' []∧H'.ro≤H'.nx∧((o= .exit 2∧JV.badM (JV.wrong d) [] m=false)∨(o= .ret∧JV.badM (JV.wrong d) [] m=true∧gt4 tm'= .bool true)))
     (fun T hi'=>YE (WMI H2 d H.nx m) _ (fun q tm H' h'=>ZA7 E (n:=n) (h:=h) VH ih (kB.trans K2 (by simp)) (by omega) g2 (by have:=k2.nx;omega) (sm.keep0 K2) e2 hm9 (fun i hi=>by
      obtain⟨_,t,a,c⟩:=hm i hi
      exact⟨t,a,c.keep K2⟩) wm _ _ _ _ q tm H' h') fuel m.length T H2 (by have:=E.big;omega) hi') hL
     ⟨⟨0,rfl,ZX _,rfl,rfl⟩,(by simp only[TB0,N8G];exact b1'),(by simp only[TB0,N8G];exact b2'),Keep.refl _ _,ro2⟩
    rcases hQ with⟨rfl,hb⟩|⟨rfl,hb,b4⟩
    ·rw[hb]
     simp(maxSteps:=4000000) (disch:=first|assumption|omega|(simp -implicitDefEqProofs only[Zu,Zv]<;>first|assumption|omega)|decide) only[ZoU,ZC,N8G,Zr,Zs,Zd,Ze,Zf,Nat.reduceEqDiff,reduceCtorEq,TB0,TB2]
     refine⟨_,rfl,?_⟩
     exact K2.trans k3 (by simp)
    ·rw[hb]
     simp only[Zj7] at b4
     simp(maxSteps:=4000000) (disch:=first|assumption|omega|(simp -implicitDefEqProofs only[Zu,Zv]<;>first|assumption|omega)|decide) only[b4,ZoU,ZC,N8G,Zr,Zs,Zd,Ze,Zf,Nat.reduceEqDiff,reduceCtorEq,TB0,TB2]
     refine⟨_,rfl,?_⟩
     exact K2.trans k3 (by simp)
   ·rw[hany,Bool.or_true]
    simp only[Zj7] at b4
    simp(maxSteps:=4000000) (disch:=first|assumption|omega|(simp -implicitDefEqProofs only[Zu,Zv]<;>first|assumption|omega)|decide) only[b4,ZoU,ZC,N8G,Zr,Zs,Zd,Ze,Zf,Nat.reduceEqDiff,reduceCtorEq,TB0,TB2]
    refine⟨_,rfl,?_⟩
    exact k1.trans k2 (by simp)
end
end Go.AI
namespace Go.AI
open Go
noncomputable section
def ZtF(Zm:Lib)(fs:T CF)(fuel k n d:Nat):Prop:= ∀{h:Nat} {v:JV} {cs:List AV} {H:Heap},H.ro≤H.nx→VR H h v cs→
 ∃H',ZR (LK Zm fs fuel k) fs fuel n 73 [.agg cs,nI .i64 d] H= .ret (nI .i64 (JV.hgt d v)) H'∧Keep H H' []
structure HLI(H0:Heap)(d p0:Nat)(l:List JV)(T:Nat)(m:Nat)(tm:TM)(H:Heap):Prop where
 i: ∃i c,gt6 tm=nI .i64 i∧i≤l.length∧m=l.length - i∧gt5 tm=nI .i64 c∧c≤1000∧JV.mx (JV.hgt d) c (l.drop i)=T
 a1:gt1 tm=nI .i64 (d+1)
 a2:gt2 tm= .ptr p0 0
 k:Keep H0 H []
 ro:H.ro≤H.nx
theorem ZA9{Zm:Lib}{fs:T CF}{fuel:Nat}(E:Env Zm fs fuel){k n d h:Nat}{H0:Heap}(ih:ZtF Zm fs fuel k n d){kk:Nat}{b:Bool}{z:Int}{s:List UInt8}{lv mv:AV}{p0:Nat}(hd:d≤100)(g0:H0.t.get p0=some (rG 79 1 [nI .i64 kk, .bool b, .int .i64 z, .str s,lv,mv] 0 false true true))(lp0:p0<H0.nx){l:List JV}{ls:List (List AV)}(sl:Sl H0 6 lv ls)(e:ls.length=l.length)(hl:l.length≤9000)(hv: ∀i,i<l.length→VR H0 h (l.getD i default) (ls.getD i [])){T:Nat}(y f dd r)(x:X)(m:Nat)(tm:TM)(H:Heap)(hI:HLI H0 d p0 l T m tm H):
  ∃o tm' H',Zjc ⟨ZR (LK Zm fs fuel k) fs fuel n,y,f,dd,r⟩ tm H x= .ok o tm' H' x∧((o= .normal∧ ∃q,q<m∧HLI H0 d p0 l T q tm' H')∨(o≠ .normal∧(o= .exit 0∧Keep H0 H' []∧H'.ro≤H'.nx∧gt5 tm'=nI .i64 T∧T≤1000∧gt1 tm'=nI .i64 (d+1)∧gt2 tm'= .ptr p0 0))):=by
 obtain⟨⟨i,c,t6,hi,rfl,t5,hc,hT⟩,a1,a2,k0,hro⟩:=hI
 have a1':=a1;have a2':=a2;have t5':=t5
 simp only[ZbE] at a1
 simp only[ZaN] at a2
 simp only[ZfU] at t5
 simp only[Zj8] at t6
 have g1:H.t.get p0=some (rG 79 1 [nI .i64 kk, .bool b, .int .i64 z, .str s,lv,mv] 0 false true true):=by rw[k0.get _ lp0 (by simp)];exact g0
 have el:=sl.len
 rw[e] at el
 have ldo: ∀G:Heap,ld1 (some (rG 79 1 [nI .i64 kk, .bool b, .int .i64 z, .str s,lv,mv] 0 false true true)) 4 G= .val lv G:=fun G=>by rw[ZH (by simp)];rfl
 by_cases hlt:i<l.length
 ·have d1:decide (i<l.length)=true:=Zh hlt
  obtain⟨b',o',r',eI,hb',gb,eL,_⟩:=(sl.keep0 k0).at_ (i:=i) (by omega)
  have hvi:=(hv i hlt).keep k0
  obtain⟨H',eC,kC⟩:=ih hro hvi
  have roC:H'.ro≤H'.nx:=by rw[kC.ro];have:=kC.nx;omega
  have hh:=JV.hgt_le d (l.getD i default)
  rw[JV.mx_drop _ _ hlt] at hT
  have hT:JV.mx (JV.hgt d) (if c<JV.hgt d (l.getD i default) then JV.hgt d (l.getD i default) else c) (l.drop (i+1))=T:=hT
  generalize JV.hgt d (l.getD i default)=hx at*
  by_cases hq:c<hx
  ·have d2:decide (c<hx)=true:=Zh hq
   rw[if_pos hq] at hT
   simp(maxSteps:=4000000) (disch:=first|assumption|omega|(simp -implicitDefEqProofs only[Zu,Zv]<;>first|assumption|omega)|decide) only[a1,a2,t5,t6,g1,ldo,el,d1,d2,eI,gb,eL,eC,ZI,ZU,Yw,YO,ZT,Zi,Zjc,ZC,N8G,Zr,Zs,Zd,Ze,Zf,Nat.reduceEqDiff,reduceCtorEq,TB0]
   refine⟨_,_,_,rfl,?_⟩
   exact .inl ⟨rfl,l.length - (i+1),by omega,⟨⟨i+1,hx,(by simp only[TB0,N8G]),by omega,rfl,(by simp only[TB0,N8G]),by omega,hT⟩,(by simp only[TB0,N8G];exact a1'),(by simp only[TB0,N8G];exact a2'),k0.trans kC (by simp),roC⟩⟩
  ·have d2:decide (c<hx)=false:=Zc hq
   rw[if_neg hq] at hT
   simp(maxSteps:=4000000) (disch:=first|assumption|omega|(simp -implicitDefEqProofs only[Zu,Zv]<;>first|assumption|omega)|decide) only[a1,a2,t5,t6,g1,ldo,el,d1,d2,eI,gb,eL,eC,ZI,ZU,Yw,YO,ZT,Zi,Zjc,ZC,N8G,Zr,Zs,Zd,Ze,Zf,Nat.reduceEqDiff,reduceCtorEq,TB0]
   refine⟨_,_,_,rfl,?_⟩
   exact .inl ⟨rfl,l.length - (i+1),by omega,⟨⟨i+1,c,(by simp only[TB0,N8G]),by omega,rfl,(by simp only[TB0,N8G];exact t5'),hc,hT⟩,(by simp only[TB0,N8G];exact a1'),(by simp only[TB0,N8G];exact a2'),k0.trans kC (by simp),roC⟩⟩
 ·have d1:decide (i<l.length)=false:=Zc hlt
  rw[Y7 (by omega)] at hT
  have hT:c=T:=hT
  subst hT
  simp(maxSteps:=4000000) (disch:=first|assumption|omega|(simp -implicitDefEqProofs only[Zu,Zv]<;>first|assumption|omega)|decide) only[a2,t6,g1,ldo,el,d1,ZI,Zi,Zjc,ZC,N8G,Zr,Zs,Zd,Ze,Zf,Nat.reduceEqDiff,reduceCtorEq,TB0]
  refine⟨_,_,_,rfl,?_⟩
  exact .inr ⟨by simp,rfl,k0,hro,(by simp only[TB0,N8G];exact t5'),hc,(by simp only[TB0,N8G];exact a1'),(by simp only[TB0,N8G];exact a2')⟩
structure HMI(H0:Heap)(d p0:Nat)(l:List (List UInt8×JV))(T:Nat)(m:Nat)(tm:TM)(H:Heap):Prop where
 i: ∃i c,gt8 tm=nI .i64 i∧i≤l.length∧m=l.length - i∧gt5 tm=nI .i64 c∧c≤1000∧JV.mx (fun e:List UInt8×JV=>JV.hgt d e.2) c (l.drop i)=T
 a1:gt1 tm=nI .i64 (d+1)
 a2:gt2 tm= .ptr p0 0
 k:Keep H0 H []
 ro:H.ro≤H.nx
theorem ZBa{Zm:Lib}{fs:T CF}{fuel:Nat}(E:Env Zm fs fuel){k n d h:Nat}{H0:Heap}(ih:ZtF Zm fs fuel k n d){kk:Nat}{b:Bool}{z:Int}{s:List UInt8}{lv mv:AV}{p0:Nat}(hd:d≤100)(g0:H0.t.get p0=some (rG 79 1 [nI .i64 kk, .bool b, .int .i64 z, .str s,lv,mv] 0 false true true))(lp0:p0<H0.nx){l:List (List UInt8×JV)}{ls:List (List AV)}(sl:Sl H0 7 mv ls)(e:ls.length=l.length)(hl:l.length≤9000)(hv: ∀i,i<l.length→ ∃t,ls.getD i []= .str (l.getD i default).1::t∧VR H0 h (l.getD i default).2 t){T:Nat}(y f dd r)(x:X)(m:Nat)(tm:TM)(H:Heap)(hI:HMI H0 d p0 l T m tm H):
  ∃o tm' H',Zjd ⟨ZR (LK Zm fs fuel k) fs fuel n,y,f,dd,r⟩ tm H x= .ok o tm' H' x∧((o= .normal∧ ∃q,q<m∧HMI H0 d p0 l T q tm' H')∨(o≠ .normal∧(o= .exit 2∧Keep H0 H' []∧H'.ro≤H'.nx∧gt5 tm'=nI .i64 T∧T≤1000∧gt1 tm'=nI .i64 (d+1)∧gt2 tm'= .ptr p0 0))):=by
 obtain⟨⟨i,c,t6,hi,rfl,t5,hc,hT⟩,a1,a2,k0,hro⟩:=hI
 have a1':=a1;have a2':=a2;have t5':=t5
 simp only[ZbE] at a1
 simp only[ZaN] at a2
 simp only[ZfU] at t5
 simp only[Zl9] at t6
 have g1:H.t.get p0=some (rG 79 1 [nI .i64 kk, .bool b, .int .i64 z, .str s,lv,mv] 0 false true true):=by rw[k0.get _ lp0 (by simp)];exact g0
 have el:=sl.len
 rw[e] at el
 have ldo: ∀G:Heap,ld1 (some (rG 79 1 [nI .i64 kk, .bool b, .int .i64 z, .str s,lv,mv] 0 false true true)) 5 G= .val mv G:=fun G=>by rw[ZH (by simp)];rfl
 by_cases hlt:i<l.length
 ·have d1:decide (i<l.length)=true:=Zh hlt
  obtain⟨b',o',r',eI,hb',gb,eP⟩:=(sl.keep0 k0).part7 (i:=i) (by omega)
  obtain⟨t,ht,hvt⟩:=hv i hlt
  rw[ht] at eP
  have eL: ∀G:Heap,ldN 6 (some (.row r')) (o'+1) G= .val (.agg t) G:=fun G=>(eP G).2
  clear eP
  have hvi:=hvt.keep k0
  obtain⟨H',eC,kC⟩:=ih hro hvi
  have roC:H'.ro≤H'.nx:=by rw[kC.ro];have:=kC.nx;omega
  have hh:=JV.hgt_le d (l.getD i default).2
  rw[JV.mx_drop _ _ hlt] at hT
  have hT:JV.mx (fun e:List UInt8×JV=>JV.hgt d e.2) (if c<JV.hgt d (l.getD i default).2 then JV.hgt d (l.getD i default).2 else c) (l.drop (i+1))=T:=hT
  generalize JV.hgt d (l.getD i default).2=hx at*
  by_cases hq:c<hx
  ·have d2:decide (c<hx)=true:=Zh hq
   rw[if_pos hq] at hT
   simp(maxSteps:=4000000) (disch:=first|assumption|omega|(simp -implicitDefEqProofs only[Zu,Zv]<;>first|assumption|omega)|decide) only[a1,a2,t5,t6,g1,ldo,el,d1,d2,eI,gb,eL,eC,ZI,ZU,Yw,YO,ZT,Zi,Zjd,ZC,N8G,Zr,Zs,Zd,Ze,Zf,Nat.reduceEqDiff,reduceCtorEq,TB0,TB1]
   refine⟨_,_,_,rfl,?_⟩
   exact .inl ⟨rfl,l.length - (i+1),by omega,⟨⟨i+1,hx,(by simp only[TB0,N8G]),by omega,rfl,(by simp only[TB0,N8G]),by omega,hT⟩,(by simp only[TB0,N8G];exact a1'),(by simp only[TB0,N8G];exact a2'),k0.trans kC (by simp),roC⟩⟩
  ·have d2:decide (c<hx)=false:=Zc hq
   rw[if_neg hq] at hT
   simp(maxSteps:=4000000) (disch:=first|assumption|omega|(simp -implicitDefEqProofs only[Zu,Zv]<;>first|assumption|omega)|decide) only[a1,a2,t5,t6,g1,ldo,el,d1,d2,eI,gb,eL,eC,ZI,ZU,Yw,YO,ZT,Zi,Zjd,ZC,N8G,Zr,Zs,Zd,Ze,Zf,Nat.reduceEqDiff,reduceCtorEq,TB0,TB1]
   refine⟨_,_,_,rfl,?_⟩
   exact .inl ⟨rfl,l.length - (i+1),by omega,⟨⟨i+1,c,(by simp only[TB0,N8G]),by omega,rfl,(by simp only[TB0,N8G];exact t5'),hc,hT⟩,(by simp only[TB0,N8G];exact a1'),(by simp only[TB0,N8G];exact a2'),k0.trans kC (by simp),roC⟩⟩
 ·have d1:decide (i<l.length)=false:=Zc hlt
  rw[Y7 (by omega)] at hT
  have hT:c=T:=hT
  subst hT
  simp(maxSteps:=4000000) (disch:=first|assumption|omega|(simp -implicitDefEqProofs only[Zu,Zv]<;>first|assumption|omega)|decide) only[a2,t6,g1,ldo,el,d1,ZI,Zi,Zjd,ZC,N8G,Zr,Zs,Zd,Ze,Zf,Nat.reduceEqDiff,reduceCtorEq,TB0,TB1]
  refine⟨_,_,_,rfl,?_⟩
  exact .inr ⟨by simp,rfl,k0,hro,(by simp only[TB0,N8G];exact t5'),hc,(by simp only[TB0,N8G];exact a1'),(by simp only[TB0,N8G];exact a2')⟩
theorem ZBb{Zm:Lib}{fs:T CF}{fuel:Nat}(E:Env Zm fs fuel){k:Nat}: ∀(d:Nat),d≤100→ ∀(n:Nat),d+10≤n→ZtF Zm fs fuel k n d:=by
 intro d
 induction d with
 |zero=>
  intro _ n hn h v cs H hro hv
  obtain⟨n,rfl⟩: ∃q,n=q+1:=⟨n - 1,by omega⟩
  rw[ZV (ZN E.n73 (.inr rfl) _ _) E.f73]
  have hlen:=hv.len
  have bx:=Vf (l:=cs) (by omega) 79 H
  have d0:decide (0=0)=true:=rfl
  simp(maxSteps:=4000000) (disch:=first|assumption|omega|(simp -implicitDefEqProofs only[Zu,Zv]<;>first|assumption|omega)|decide) only[bx,d0,ZW,c73,ZC,N8G,Zr,Zs,Zd,Ze,Zf,Nat.reduceEqDiff,reduceCtorEq,TB0,TB1]
  refine⟨_,rfl,?_⟩
  exact Keep.new _ _ _
 |succ d ih=>
  intro hd n hn h v cs H hro hv
  obtain⟨n,rfl⟩: ∃q,n=q+1:=⟨n - 1,by omega⟩
  have ih:ZtF Zm fs fuel k n d:=ih (by omega) n (by omega)
  obtain⟨h,rfl⟩: ∃q,h=q+1:=by cases h with|zero=>exact hv.elim|succ q=>exact⟨q,rfl⟩
  obtain⟨kk,b,z,s,l,m⟩:=v
  obtain⟨lv,mv,ls,ms,rfl,_,_,_,hl9,hm9,sl,sm,e1,e2,hl,hm⟩:=hv
  rw[ZV (ZN E.n73 (.inr rfl) _ _) E.f73]
  have bx:=Vf (l:=[nI .i64 kk, .bool b, .int .i64 z, .str s,lv,mv]) (Nat.le_add_left 1 5) 79 H
  obtain⟨H1,hH1⟩: ∃G,H.new (rG 79 1 [nI .i64 kk, .bool b, .int .i64 z, .str s,lv,mv] 0 false true true)=G:=⟨_,rfl⟩
  rw[hH1] at bx
  have nx1:H1.nx=H.nx+1:=by rw[←hH1];rfl
  have g1:H1.t.get H.nx=some (rG 79 1 [nI .i64 kk, .bool b, .int .i64 z, .str s,lv,mv] 0 false true true):=by rw[←hH1,ZP rfl]
  have k1:Keep H H1 []:=by rw[←hH1];exact Keep.new _ _ _
  have ro1:H1.ro≤H1.nx:=by rw[k1.ro];omega
  have d0:decide (d+1=0)=false:=rfl
  simp(maxSteps:=4000000) (disch:=first|assumption|omega|(simp -implicitDefEqProofs only[Zu,Zv]<;>first|assumption|omega)|decide) only[bx,d0,ZW,c73,ZC,N8G,Zr,Zs,Zd,Ze,Zf,Nat.reduceEqDiff,reduceCtorEq,TB0,TB1]
  generalize hL:WI (Zjc _) fuel _ _ _=L
  obtain⟨o,tm2,H2,rfl,_,rfl,k2,ro2,t5,hc,b1,b2⟩:=YC (P:=fun T=>HLI H1 d H.nx l (JV.mx (JV.hgt d) 0 l) l.length T H1) (Q:=fun o tm' H'=>o= .exit 0∧Keep H1 H' []∧H'.ro≤H'.nx∧gt5 tm'=nI .i64 (JV.mx (JV.hgt d) 0 l)∧JV.mx (JV.hgt d) 0 l≤1000∧gt1 tm'=nI .i64 (d+1)∧gt2 tm'= .ptr H.nx 0)
   (fun T hi'=>YE (HLI H1 d H.nx l (JV.mx (JV.hgt d) 0 l)) _ (fun q tm H' h'=>ZA9 E ih (by omega) g1 (by omega) (sl.keep0 k1) e1 hl9 (fun i hi=>(hl i hi).keep k1) _ _ _ _ _ q tm H' h') fuel l.length T H1 (by have:=E.big;omega) hi') hL
   ⟨⟨0,0,rfl,ZX _,rfl,rfl,ZX _,rfl⟩,rfl,rfl,Keep.refl _ _,ro1⟩
  have b1':=b1;have b2':=b2;have t5':=t5
  have g2:H2.t.get H.nx=some (rG 79 1 [nI .i64 kk, .bool b, .int .i64 z, .str s,lv,mv] 0 false true true):=by rw[k2.get _ (by omega) (by simp)];exact g1
  have K2:=k1.trans k2 (by simp)
  simp(maxSteps:=4000000) (disch:=first|assumption|omega|(simp -implicitDefEqProofs only[Zu,Zv]<;>first|assumption|omega)|decide) only[c73,ZC,N8G,Zr,Zs,Zd,Ze,Zf,Nat.reduceEqDiff,reduceCtorEq,TB0,TB1]
  generalize hL:WI (Zjd _) fuel _ _ _=L
  obtain⟨o,tm3,H3,rfl,_,rfl,k3,ro3,t5,hc3,_,_⟩:=YC (P:=fun T=>HMI H2 d H.nx m (JV.mx (fun e=>JV.hgt d e.2) (JV.mx (JV.hgt d) 0 l) m) m.length T H2) (Q:=fun o tm' H'=>o= .exit 2∧Keep H2 H' []∧H'.ro≤H'.nx∧gt5 tm'=nI .i64 (JV.mx (fun e=>JV.hgt d e.2) (JV.mx (JV.hgt d) 0 l) m)∧JV.mx (fun e=>JV.hgt d e.2) (JV.mx (JV.hgt d) 0 l) m≤1000∧gt1 tm'=nI .i64 (d+1)∧gt2 tm'= .ptr H.nx 0)
   (fun T hi'=>YE (HMI H2 d H.nx m (JV.mx (fun e=>JV.hgt d e.2) (JV.mx (JV.hgt d) 0 l) m)) _ (fun q tm H' h'=>ZBa E (h:=h) ih (by omega) g2 (by have:=k2.nx;omega) (sm.keep0 K2) e2 hm9 (fun i hi=>by
    obtain⟨_,t,a,c⟩:=hm i hi
    exact⟨t,a,c.keep K2⟩) _ _ _ _ _ q tm H' h') fuel m.length T H2 (by have:=E.big;omega) hi') hL
   ⟨⟨0,_,rfl,ZX _,rfl,(by simp only[TB0,N8G];exact t5'),hc,rfl⟩,(by simp only[TB0,N8G];exact b1'),(by simp only[TB0,N8G];exact b2'),Keep.refl _ _,ro2⟩
  simp only[ZfU] at t5
  have hJ:JV.hgt (d+1) (.mk kk b z s l m)=JV.mx (fun e=>JV.hgt d e.2) (JV.mx (JV.hgt d) 0 l) m+1:=rfl
  rw[hJ]
  generalize JV.mx (fun e=>JV.hgt d e.2) (JV.mx (JV.hgt d) 0 l) m=hx at*
  simp(maxSteps:=4000000) (disch:=first|assumption|omega|(simp -implicitDefEqProofs only[Zu,Zv]<;>first|assumption|omega)|decide) only[t5,Yw,c73,ZC,N8G,Zr,Zs,Zd,Ze,Zf,Nat.reduceEqDiff,reduceCtorEq,TB0,TB1]
  refine⟨_,rfl,?_⟩
  exact K2.trans k3 (by simp)
theorem ZtG{Zm:Lib}{fs:T CF}{fuel:Nat}(E:Env Zm fs fuel){k n h:Nat}{HB H:Heap}(VH:ZvS Zm HB)(kB:Keep HB H [])(hro:H.ro≤H.nx){v:JV}{cs:List AV}(hv:VR H h v cs)(hw:WD h v):
  ∃H',ZR (LK Zm fs fuel k) fs fuel (n+60) 34 [.agg cs] H= .ret (nI .i64 (JV.check v)) H'∧Keep H H' []:=by
 rw[ZV (ZN E.n34 (.inr rfl) _ _) E.f34]
 have hlen:=hv.len
 have bx:=Vf (l:=cs) (by omega) 79 H
 obtain⟨H1,hH1⟩: ∃G,H.new (rG 79 1 cs 0 false true true)=G:=⟨_,rfl⟩
 rw[hH1] at bx
 have nx1:H1.nx=H.nx+1:=by rw[←hH1];rfl
 have g1:H1.t.get H.nx=some (rG 79 1 cs 0 false true true):=by rw[←hH1,ZP rfl]
 have k1:Keep H H1 []:=by rw[←hH1];exact Keep.new _ _ _
 have ro1:H1.ro≤H1.nx:=by rw[k1.ro];omega
 have ldx: ∀G:Heap,ldN 6 (some (rG 79 1 cs 0 false true true)) 0 G= .val (.agg cs) G:=fun G=>by rw[WH (by omega)];congr 2;rw[Yl,ZK (by omega)]
 obtain⟨H2,e2,k2⟩:=ZA8 E (k:=k) VH 32 (by omega) (n+59) (by omega) (kB.trans k1 (by simp)) ro1 (hv.keep k1) hw
 have g2:H2.t.get H.nx=some (rG 79 1 cs 0 false true true):=by rw[k2.get _ (by omega) (by simp)];exact g1
 have ro2:H2.ro≤H2.nx:=by rw[k2.ro];have:=k2.nx;omega
 have K2:=k1.trans k2 (by simp)
 obtain⟨H3,e3,k3⟩:=ZBb E (k:=k) 32 (by omega) (n+59) (by omega) ro2 (hv.keep K2)
 have hdp:=JV.deep_hgt 32 v
 unfold JV.check
 generalize JV.hgt 32 v=hx at*
 cases hw:JV.wrong 32 v with
 |true=>
  rw[hw] at e2
  rw[if_pos rfl]
  simp(maxSteps:=4000000) (disch:=first|assumption|omega|(simp -implicitDefEqProofs only[Zu,Zv]<;>first|assumption|omega)|decide) only[bx,g1,ldx,e2,c34,ZC,N8G,Zr,Zs,Zd,Ze,Zf,Nat.reduceEqDiff,reduceCtorEq,TB0]
  refine⟨_,rfl,?_⟩
  exact K2
 |false=>
  rw[hw] at e2
  rw[if_neg (by simp)]
  cases hd:JV.deep 32 v with
  |true=>
   rw[hd] at hdp
   rw[if_pos rfl]
   have d1:decide (32<hx)=true:=hdp.symm
   simp(maxSteps:=4000000) (disch:=first|assumption|omega|(simp -implicitDefEqProofs only[Zu,Zv]<;>first|assumption|omega)|decide) only[bx,g1,g2,ldx,e2,e3,d1,ZU,c34,ZC,N8G,Zr,Zs,Zd,Ze,Zf,Nat.reduceEqDiff,reduceCtorEq,TB0]
   refine⟨_,rfl,?_⟩
   exact K2.trans k3 (by simp)
  |false=>
   rw[hd] at hdp
   rw[if_neg (by simp)]
   have d1:decide (32<hx)=false:=hdp.symm
   simp(maxSteps:=4000000) (disch:=first|assumption|omega|(simp -implicitDefEqProofs only[Zu,Zv]<;>first|assumption|omega)|decide) only[bx,g1,g2,ldx,e2,e3,d1,ZU,c34,ZC,N8G,Zr,Zs,Zd,Ze,Zf,Nat.reduceEqDiff,reduceCtorEq,TB0]
   refine⟨_,rfl,?_⟩
   exact K2.trans k3 (by simp)
end
end Go.AI
namespace Go.AI
open Go
noncomputable section
def ZtH(Zm:Lib)(fs:T CF)(fuel k n h:Nat)(HB:Heap):Prop:= ∀{v:JV} {cs:List AV} {H:Heap},Keep HB H []→H.ro≤H.nx→VR H h v cs→WD h v→JV.ok h v→JV.tb h v≤800000000→
 ∃H',ZR (LK Zm fs fuel k) fs fuel n 69 [.agg cs] H= .ret (.str (JV.text h v)) H'∧Keep H H' []
structure XLI(H0:Heap)(h p0:Nat)(l:List JV)(m:Nat)(tm:TM)(H:Heap):Prop where
 i: ∃i,gt4 tm=nI .i64 i∧i≤l.length∧m=l.length - i∧gt3 tm= .str (Wc ((l.take i).map (JV.text h)))
 a1:gt1 tm= .ptr p0 0
 k:Keep H0 H []
 ro:H.ro≤H.nx
theorem ZBc{Zm:Lib}{fs:T CF}{fuel:Nat}(E:Env Zm fs fuel){k n h:Nat}{HB H0:Heap}(ih:ZtH Zm fs fuel k n h HB)(kB:Keep HB H0 []){kk:Nat}{b:Bool}{z:Int}{s:List UInt8}{lv mv:AV}{p0:Nat}(g0:H0.t.get p0=some (rG 79 1 [nI .i64 kk, .bool b, .int .i64 z, .str s,lv,mv] 0 false true true))(lp0:p0<H0.nx){l:List JV}{ls:List (List AV)}(sl:Sl H0 6 lv ls)(e:ls.length=l.length)(hl:l.length≤9000)(hv: ∀i,i<l.length→VR H0 h (l.getD i default) (ls.getD i []))(hw: ∀x∈l,WD h x)(ho: ∀x∈l,JV.ok h x)(hb: ∀x∈l,JV.tb h x≤800000000)(hJ:(Wc (l.map (JV.text h))).length≤800000000)(y f dd r)(x:X)(m:Nat)(tm:TM)(H:Heap)(hI:XLI H0 h p0 l m tm H):
  ∃o tm' H',Zje ⟨ZR (LK Zm fs fuel k) fs fuel n,y,f,dd,r⟩ tm H x= .ok o tm' H' x∧((o= .normal∧ ∃q,q<m∧XLI H0 h p0 l q tm' H')∨(o≠ .normal∧(o= .exit 1∧Keep H0 H' []∧gt3 tm'= .str (Wc (l.map (JV.text h)))))):=by
 obtain⟨⟨i,t4,hi,rfl,t3⟩,a1,k0,hro⟩:=hI
 have a1':=a1;have t3':=t3
 simp only[ZbE] at a1
 simp only[Zfl] at t3
 simp only[Zj7] at t4
 have g1:H.t.get p0=some (rG 79 1 [nI .i64 kk, .bool b, .int .i64 z, .str s,lv,mv] 0 false true true):=by rw[k0.get _ lp0 (by simp)];exact g0
 have el:=sl.len
 rw[e] at el
 have ldo: ∀G:Heap,ld1 (some (rG 79 1 [nI .i64 kk, .bool b, .int .i64 z, .str s,lv,mv] 0 false true true)) 4 G= .val lv G:=fun G=>by rw[ZH (by simp)];rfl
 by_cases hlt:i<l.length
 ·have d1:decide (i<l.length)=true:=Zh hlt
  obtain⟨b',o',r',eI,hb',gb,eL,_⟩:=(sl.keep0 k0).at_ (i:=i) (by omega)
  have hvi:=(hv i hlt).keep k0
  have hmem:l.getD i default∈l:=by rw[Zj,Zp hlt];exact YL hlt
  obtain⟨H',eC,kC⟩:=ih (kB.trans k0 (by simp)) hro hvi (hw _ hmem) (ho _ hmem) (hb _ hmem)
  have roC:H'.ro≤H'.nx:=by rw[kC.ro];have:=kC.nx;omega
  have hst:=ZlU (JV.text h) hlt
  have hp:=ZnG (JV.text h) l (i+1)
  generalize JV.text h (l.getD i default)=tx at*
  by_cases h0:i=0
  ·subst h0
   rw[if_pos rfl] at hst
   have d2:decide (0<0)=false:=rfl
   have hj0:Wc ((l.take 0).map (JV.text h))=[]:=rfl
   rw[hj0] at t3
   rw[hst] at hp
   have ads:=fun G=>WN (a:=[]) (b:=tx) (by rw[Zw];omega) G
   simp(maxSteps:=4000000) (disch:=first|assumption|omega|(simp -implicitDefEqProofs only[Zu,Zv]<;>first|assumption|omega)|decide) only[a1,t3,t4,g1,ldo,el,d1,d2,eI,gb,eL,eC,ads,ZI,ZU,Yw,Zi,Zje,ZC,N8G,Zr,Zs,Zd,Ze,Zf,Nat.reduceEqDiff,reduceCtorEq,TB0,TB1]
   refine⟨_,_,_,rfl,?_⟩
   exact .inl ⟨rfl,l.length - (0+1),by omega,⟨⟨0+1,(by simp only[TB0,N8G]),by omega,rfl,by rw[hst];simp only[TB0,N8G]⟩,(by simp only[TB0,N8G];exact a1'),k0.trans kC (by simp),roC⟩⟩
  ·rw[if_neg h0] at hst
   have d2:decide (0<i)=true:=Zh (by omega)
   generalize Wc ((l.take i).map (JV.text h))=J at*
   rw[hst] at hp
   simp only[Zq] at hp
   have q1:=fun G=>WN (a:=J) (b:=[44]) (by omega) G
   have q2:=fun G=>WN (a:=J++[44]) (b:=tx) (by rw[Zq];omega) G
   simp(maxSteps:=4000000) (disch:=first|assumption|omega|(simp -implicitDefEqProofs only[Zu,Zv]<;>first|assumption|omega)|decide) only[a1,t3,t4,g1,ldo,el,d1,d2,eI,gb,eL,eC,q1,q2,ZI,ZU,Yw,Zi,Zje,ZC,N8G,Zr,Zs,Zd,Ze,Zf,Nat.reduceEqDiff,reduceCtorEq,TB0,TB1]
   refine⟨_,_,_,rfl,?_⟩
   exact .inl ⟨rfl,l.length - (i+1),by omega,⟨⟨i+1,(by simp only[TB0,N8G]),by omega,rfl,by rw[hst];simp only[TB0,N8G]⟩,(by simp only[TB0,N8G];exact a1'),k0.trans kC (by simp),roC⟩⟩
 ·have d1:decide (i<l.length)=false:=Zc hlt
  rw[ZK (by omega)] at t3'
  simp(maxSteps:=4000000) (disch:=first|assumption|omega|(simp -implicitDefEqProofs only[Zu,Zv]<;>first|assumption|omega)|decide) only[a1,t4,g1,ldo,el,d1,ZI,Zi,Zje,ZC,N8G,Zr,Zs,Zd,Ze,Zf,Nat.reduceEqDiff,reduceCtorEq,TB0,TB1]
  refine⟨_,_,_,rfl,?_⟩
  exact .inr ⟨by simp,rfl,k0,(by simp only[TB0,N8G];exact t3')⟩
end
end Go.AI
namespace Go.AI
open Go
noncomputable section
structure SRq(H0:Heap)(h b:Nat)(M:List (List UInt8×JV))(H:Heap):Prop where
 ok: ∃L r,Recs H b 135 7 L r∧L.length=M.length∧ ∀i,i<M.length→ERel H0 h (L.getD i []) (M.getD i default)
theorem SRq.keep{H0:Heap}{h b:Nat}{M:List (List UInt8×JV)}{H H':Heap}(s:SRq H0 h b M H)(k:Keep H H' []):SRq H0 h b M H':=by
 obtain⟨L,r,h1,h2⟩:=s.ok
 exact⟨L,r,h1.moved (k.get b h1.low (by simp)) k.ro k.nx,h2⟩
theorem SRq.at_{H0:Heap}{h b:Nat}{M:List (List UInt8×JV)}{H:Heap}(s:SRq H0 h b M H):
  ∃r,H.t.get b=some (.row r)∧b<H.nx∧H.ro≤b∧ ∀i,i<M.length→ ∃t,t.length=6∧VR H0 h (M.getD i default).2 t∧(M.getD i default).1.length≤9000∧ ∀G:Heap,ldN 7 (some (.row r)) (i*7) G= .val (.agg (.str (M.getD i default).1::t)) G:=by
 obtain⟨L,r,h1,h2,h3⟩:=s.ok
 refine⟨r,h1.at_,h1.low,h1.ro,fun i hi=>?_⟩
 obtain⟨h4,t,h5,h6⟩:=h3 i hi
 refine⟨t,h6.len,h6,h4,fun G=>?_⟩
 rw[←h5];exact h1.ldN (by omega) G
theorem SRq.swap{H0:Heap}{h b:Nat}{M:List (List UInt8×JV)}{H:Heap}(s:SRq H0 h b M H){j:Nat}(hj:j+1<M.length):
  ∃r r1 r2 t u,H.t.get b=some (.row r)∧b<H.nx∧H.ro≤b∧t.length=6∧u.length=6∧VR H0 h (M.getD (j+1) default).2 t∧VR H0 h (M.getD j default).2 u∧
   (∀G:Heap,ldN 7 (some (.row r)) ((j+1)*7) G= .val (.agg (.str (M.getD (j+1) default).1::t)) G)∧(∀G:Heap,ldN 7 (some (.row r)) (j*7) G= .val (.agg (.str (M.getD j default).1::u)) G)∧
   stN 7 (some (.row r)) b ((j+1)*7) (.agg (.str (M.getD j default).1::u)) H= .val Yx (H.put b (.row r1))∧
   stN 7 (some (.row r1)) b (j*7) (.agg (.str (M.getD (j+1) default).1::t)) (H.put b (.row r1))= .val Yx (H.put b (.row r2))∧SRq H0 h b (swp M j) (H.put b (.row r2)):=by
 obtain⟨L,r,h1,h2,h3⟩:=s.ok
 have ea:=h3 (j+1) hj
 have eb:=h3 j (by omega)
 have la:=ea.len
 have lb:=eb.len
 obtain⟨h4,t,h5,h6⟩:=ea
 obtain⟨h7,u,h8,h9⟩:=eb
 obtain⟨r1,s1,q1⟩:=h1.store (i:=j+1) (by omega) (vs:=L.getD j []) lb (by omega)
 obtain⟨r2,s2,q2⟩:=q1.store (i:=j) (by rw[List.length_set];omega) (vs:=L.getD (j+1) []) la (by omega)
 rw[Zh6] at s2 q2
 have d1: ∀G:Heap,ldN 7 (some (.row r)) ((j+1)*7) G= .val (.agg (L.getD (j+1) [])) G:=fun G=>h1.ldN (by omega) G
 have d2: ∀G:Heap,ldN 7 (some (.row r)) (j*7) G= .val (.agg (L.getD j [])) G:=fun G=>h1.ldN (by omega) G
 have q3:SRq H0 h b (swp M j) (H.put b (.row r2)):=⟨_,r2,q2,by rw[List.length_set,List.length_set,Zbe];exact h2,fun i hi=>by
  rw[Zbe] at hi
  rw[Zks hj,show((L.set (j+1) (L.getD j [])).set j (L.getD (j+1) [])).getD i []=(swp L j).getD i [] from rfl,Zks (by omega)]
  by_cases i1:i=j
  ·rw[if_pos i1,if_pos i1];exact h3 (j+1) hj
  ·rw[if_neg i1,if_neg i1]
   by_cases i2:i=j+1
   ·rw[if_pos i2,if_pos i2];exact h3 j (by omega)
   ·rw[if_neg i2,if_neg i2];exact h3 i hi⟩
 rw[h5] at d1 s2
 rw[h8] at d2 s1
 exact⟨r,r1,r2,t,u,h1.at_,h1.low,h1.ro,h6.len,h9.len,h6,h9,d1,d2,s1,s2,q3⟩
theorem SRq.keys{H0:Heap}{h b:Nat}{M:List (List UInt8×JV)}{H:Heap}(s:SRq H0 h b M H){r:Row}(g:H.t.get b=some (.row r)){i:Nat}(hi:i<M.length)(G:Heap):ld1 (some (.row r)) (i*7) G= .val (.str (M.getD i default).1) G:=by
 obtain⟨L,r',h1,h2,h3⟩:=s.ok
 obtain rfl:r'=r:=by have:=h1.at_;rw[g] at this;cases this;rfl
 obtain⟨_,t,h5,_⟩:=h3 i hi
 have hs:=h1.size
 have hf:=U6 h1.each
 have hm:(i+1)*7≤L.length*7:=Ww _ (by omega)
 have:=Zjm h1.each (i:=i) (j:=0) (by omega) (by omega)
 rw[h5] at this
 rw[Zkn (by omega),h1.cells.get _ (by omega)]
 show OR.val (L.flatten.getD (i*7+0) .unk) G=_
 rw[this];rfl
structure QSI(H0 HK:Heap)(S:List Nat)(h b n i p0:Nat)(T:List (List UInt8×JV))(m:Nat)(tm:TM)(H:Heap):Prop where
 j: ∃j M,gt7 tm=nI .i64 j∧m=j∧j<n∧M.length=n∧SRq H0 h b M H∧ZaO ltE j M=T
 a1:gt1 tm= .ptr p0 0
 a3:gt3 tm= .str []
 a5:gt5 tm= .slice b 0 n none
 a6:gt6 tm=nI .i64 i
 k:Keep HK H S
theorem ZBd{cl:Nat→List AV→Heap→CR}{H0 HK:Heap}{S:List Nat}{h b n i p0:Nat}{T:List (List UInt8×JV)}(hn:n≤9000)(hnk:H0.nx≤HK.nx)(hb:b<HK.nx→b∈S)(y fr d r)(x:X)(m:Nat)(tm:TM)(H:Heap)(hI:QSI H0 HK S h b n i p0 T m tm H):
  ∃o tm' H',Zjf ⟨cl,y,fr,d,r⟩ tm H x= .ok o tm' H' x∧((o= .normal∧ ∃q,q<m∧QSI H0 HK S h b n i p0 T q tm' H')∨(o≠ .normal∧(o= .exit 5∧gt1 tm'= .ptr p0 0∧gt3 tm'= .str []∧gt5 tm'= .slice b 0 n none∧gt6 tm'=nI .i64 i∧Keep HK H' S∧SRq H0 h b T H'))):=by
 obtain⟨⟨j,M,t7,rfl,hj,hM,sr,hT⟩,a1,a3,a5,a6,k0⟩:=hI
 have a1':=a1;have a3':=a3;have a5':=a5;have a6':=a6
 simp only[ZfU] at a5
 simp only[Zxo] at t7
 cases m with
 |zero=>
  have d0:decide (0<0)=false:=rfl
  have hT:M=T:=hT
  subst hT
  simp(maxSteps:=4000000) (disch:=first|assumption|omega|(simp -implicitDefEqProofs only[Zu,Zv]<;>first|assumption|omega)|decide) only[a5,t7,d0,ZU,Zjf,ZC,N8G,Zr,Zs,Zd,Ze,Zf,Nat.reducePow,Nat.reduceDiv,Nat.reduceMod,Nat.reduceEqDiff,reduceCtorEq,TB0,TB2,TB3]
  refine⟨_,_,_,rfl,?_⟩
  exact .inr ⟨by simp,rfl,(by simp only[TB0,N8G];exact a1'),(by simp only[TB0,N8G];exact a3'),(by simp only[TB0,N8G];exact a5'),(by simp only[TB0,N8G];exact a6'),k0,sr⟩
 |succ q=>
  have d0:decide (0<q+1)=true:=rfl
  obtain⟨rw0,r1,r2,t,u,g,blo,bro,ht,hu,vt,vu_,l1,l2,s1,s2,sr2⟩:=sr.swap (j:=q) (by omega)
  have kk1:=fun G=>sr.keys g (i:=q+1) (by omega) G
  have kk2:=fun G=>sr.keys g (i:=q) (by omega) G
  have lo1:=vt.low (n:=H.nx) (Z6 hnk k0.nx)
  have lo2:=vu_.low (n:=H.nx) (Z6 hnk k0.nx)
  have sa1:=fun(n:Nat) (z:AI.T Obj)=>Zin (s:=(M.getD (q+1) default).1) vt.same n z
  have sa2:=fun(n:Nat) (z:AI.T Obj)=>Zin (s:=(M.getD q default).1) vu_.same n z
  have hT:(if Yg (M.getD (q+1) default).1 (M.getD q default).1 then ZaO ltE q (swp M q) else M)=T:=hT
  have lwb:YA H.nx (.slice b 0 n none)=true:=YP blo 0 n none
  generalize hk1:(M.getD (q+1) default).1=k1 at*
  generalize hk2:(M.getD q default).1=k2 at*
  cases hs:Yg k1 k2 with
  |false=>
   rw[hs] at hT
   have hT:M=T:=hT
   subst hT
   simp(maxSteps:=4000000) (disch:=first|assumption|omega|(simp -implicitDefEqProofs only[Zu,Zv]<;>first|assumption|omega)|decide) only[a5,t7,d0,g,kk1,kk2,hs,lwb,ZL,ZU,Zim,Zal,YO,ZT,Zi,Zt,Zjf,ZC,N8G,Zr,Zs,Zd,Ze,Zf,Nat.reducePow,Nat.reduceDiv,Nat.reduceMod,Nat.reduceEqDiff,reduceCtorEq,TB0,TB2,TB3]
   refine⟨_,_,_,rfl,?_⟩
   exact .inr ⟨by simp,rfl,(by simp only[TB0,N8G];exact a1'),(by simp only[TB0,N8G];exact a3'),(by simp only[TB0,N8G];exact a5'),(by simp only[TB0,N8G];exact a6'),k0,sr⟩
  |true=>
   rw[hs] at hT
   simp(maxSteps:=4000000) (disch:=first|assumption|omega|(simp -implicitDefEqProofs only[Zu,Zv]<;>first|assumption|omega)|decide) only[a5,t7,d0,g,kk1,kk2,hs,l1,l2,lo1,lo2,sa1,sa2,lwb,s1,s2,Zh6,ZL,ZU,Zim,Zal,YO,ZT,Zi,Zt,Zjf,ZC,N8G,Zr,Zs,Zd,Ze,Zf,Nat.reducePow,Nat.reduceDiv,Nat.reduceMod,Nat.reduceEqDiff,reduceCtorEq,TB0,TB2,TB3]
   refine⟨_,_,_,rfl,?_⟩
   exact .inl ⟨rfl,q,Ys _,⟨⟨q,swp M q,(by simp only[TB0,N8G]),rfl,by omega,by rw[Zbe];exact hM,sr2,hT⟩,(by simp only[TB0,N8G];exact a1'),(by simp only[TB0,N8G];exact a3'),(by simp only[TB0,N8G];exact a5'),(by simp only[TB0,N8G];exact a6'),k0.then_put hb⟩⟩
end
end Go.AI
namespace Go.AI
open Go
noncomputable section
def Gth(H0:Heap)(h:Nat)(M:List (List UInt8×JV))(bv:AV)(H:Heap):Prop:=(M=[]∧bv= .nils)∨(M≠[]∧ ∃b,bv= .slice b 0 M.length none∧H0.nx≤b∧SRq H0 h b M H)
theorem SRq.moved{H0:Heap}{h b:Nat}{M:List (List UInt8×JV)}{H H':Heap}(s:SRq H0 h b M H)(g:H'.t.get b=H.t.get b)(hro:H'.ro=H.ro)(hn:H.nx≤H'.nx):SRq H0 h b M H':=by
 obtain⟨L,r,h1,h2⟩:=s.ok
 exact⟨L,r,h1.moved g hro hn,h2⟩
theorem Gth.buf{H0:Heap}{h:Nat}{M:List (List UInt8×JV)}{bv:AV}{H:Heap}(s:Gth H0 h M bv H): ∃ls,RBuf H bv 135 7 ls H0.nx∧ls.length=M.length∧ ∀i,i<M.length→ERel H0 h (ls.getD i []) (M.getD i default):=by
 rcases s with⟨rfl,rfl⟩|⟨h1,b,rfl,hb,L,r,h2,h3,h4⟩
 ·exact⟨[], .inl ⟨rfl,rfl⟩,rfl,fun i hi=>absurd hi (Y9 _)⟩
 ·refine⟨L, .inr ⟨?_,b,r,by rw[h3],h2,hb⟩,h3,h4⟩
  rintro rfl
  exact h1 (List.length_eq_zero_iff.1 h3.symm)
structure QOI(H0:Heap)(h p0:Nat)(m T:List (List UInt8×JV))(mm:Nat)(tm:TM)(H:Heap):Prop where
 i: ∃i M bv,gt6 tm=nI .i64 i∧i≤m.length∧mm=m.length - i∧gt5 tm=bv∧M.length=i∧gth ltE M (m.drop i)=T∧Gth H0 h M bv H
 a1:gt1 tm= .ptr p0 0
 a3:gt3 tm= .str []
 k:Keep H0 H []
 ro:H.ro≤H.nx
theorem ZBe{Zm:Lib}{fs:T CF}{fuel:Nat}(E:Env Zm fs fuel){cl:Nat→List AV→Heap→CR}{h:Nat}{H0:Heap}{kk:Nat}{b:Bool}{z:Int}{s:List UInt8}{lv mv:AV}{p0:Nat}(g0:H0.t.get p0=some (rG 79 1 [nI .i64 kk, .bool b, .int .i64 z, .str s,lv,mv] 0 false true true))(lp0:p0<H0.nx){m T:List (List UInt8×JV)}{ms:List (List AV)}(sl:Sl H0 7 mv ms)(e:ms.length=m.length)(hl:m.length≤8000)(hv: ∀i,i<m.length→ERel H0 h (ms.getD i []) (m.getD i default))(y f r)(x:X)(mm:Nat)(tm:TM)(H:Heap)(hI:QOI H0 h p0 m T mm tm H):
  ∃o tm' H',Zjg ⟨cl,y,f,fuel,r⟩ tm H x= .ok o tm' H' x∧((o= .normal∧ ∃q,q<mm∧QOI H0 h p0 m T q tm' H')∨(o≠ .normal∧(o= .exit 3∧gt3 tm'= .str []∧Keep H0 H' []∧H'.ro≤H'.nx∧ ∃bv,gt5 tm'=bv∧Gth H0 h T bv H'))):=by
 obtain⟨⟨i,M,bv,t6,hi,rfl,t5,hM,hT,gm⟩,a1,a3,k0,hro⟩:=hI
 have a1':=a1;have a3':=a3;have t5':=t5;have t6':=t6
 simp only[ZbE] at a1
 simp only[ZfU] at t5
 simp only[Zj8] at t6
 have g1:H.t.get p0=some (rG 79 1 [nI .i64 kk, .bool b, .int .i64 z, .str s,lv,mv] 0 false true true):=by rw[k0.get _ lp0 (by simp)];exact g0
 have el:=sl.len
 rw[e] at el
 have knx:=k0.nx
 have ldo: ∀G:Heap,ld1 (some (rG 79 1 [nI .i64 kk, .bool b, .int .i64 z, .str s,lv,mv] 0 false true true)) 5 G= .val mv G:=fun G=>by rw[ZH (by simp)];rfl
 by_cases hlt:i<m.length
 ·have d1:decide (i<m.length)=true:=Zh hlt
  obtain⟨b',o',r',eI,hb',gb,eL,_⟩:=(sl.keep0 k0).at_ (i:=i) (by omega)
  have hr:=hv i hlt
  rw[Zyl ltE M hlt] at hT
  obtain⟨hk9,t,ht,hvt⟩:=hr
  rw[ht] at eL
  generalize hen:m.getD i default=en at*
  obtain⟨ls,rb,hls,hE⟩:=gm.buf
  obtain⟨v',H1,ea,rb1,w⟩:=Zda rb (bytes:=104) (by omega) (by omega) (by omega) hro (by omega) (x:= .str en.1::t) (by rw[Zn,hvt.len])
  have bs:=ZDf hvt.len en.1 135 H
  rw[Wi] at ea bs
  obtain⟨bb,rr,rfl,hrec,hbb⟩: ∃bb rr,v'= .slice bb 0 (i+1) none∧Recs H1 bb 135 7 (ls++[.str en.1::t]) rr∧H0.nx≤bb:=by
   rcases rb1 with⟨h1,_⟩|⟨_,bb,rr,hv',h2,h3⟩
   ·simp at h1
   ·refine⟨bb,rr,?_,h2,h3⟩
    rw[hv',Zq,Zn,Zw,hls,hM]
  have sq:SRq H0 h bb (M++[en]) H1:=⟨_,rr,hrec,by rw[Zq,Zq,hls];rfl,fun q hq=>by
   rw[Qa,Qa,hls]
   rw[Zq,Zn,Zw] at hq
   by_cases h1:q<M.length
   ·rw[if_pos h1,if_pos h1];exact hE q h1
   ·have:q=M.length:=by omega
    rw[if_neg h1,if_neg h1,if_pos this,if_pos this]
    exact⟨hk9,t,rfl,hvt⟩⟩
  have k1:Keep H0 H1 []:=Below.keep k0 w (Zk _)
  have nx1:=w.nx
  have ro1:=w.ro
  have hlM:(M++[en]).length=i+1:=by rw[Zq,hM];rfl
  have lS:=fun(G:Heap)=>VL bb 0 (i+1) none G
  simp(maxSteps:=4000000) (disch:=first|assumption|omega|(simp -implicitDefEqProofs only[Zu,Zv]<;>first|assumption|omega)|decide) only[a1,t5,t6,g1,ldo,el,d1,eI,gb,eL,bs,ea,lS,ZI,YO,ZT,Zi,Zjg,ZC,N8G,Zr,Zs,Zd,Ze,Zf,Nat.reduceEqDiff,reduceCtorEq,TB0,TB1,TB2]
  generalize hL:WI (Zjf _) fuel _ _ _=L
  obtain⟨o,tm1,H2,rfl,_,rfl,b1,b3,b5,b6,k2,sr2⟩:=YC (P:=fun T'=>QSI H0 H1 [bb] h bb (i+1) i p0 (ZaO ltE i (M++[en])) i T' H1) (Q:=fun o tm' H'=>o= .exit 5∧gt1 tm'= .ptr p0 0∧gt3 tm'= .str []∧gt5 tm'= .slice bb 0 (i+1) none∧gt6 tm'=nI .i64 i∧Keep H1 H' [bb]∧SRq H0 h bb (ZaO ltE i (M++[en])) H')
   (fun T' hi'=>YE (QSI H0 H1 [bb] h bb (i+1) i p0 (ZaO ltE i (M++[en]))) _ (fun q tm H' h'=>ZBd (by omega) (by omega) (fun _=>List.mem_singleton.2 rfl) _ _ _ _ _ q tm H' h') fuel i T' H1 (by have:=E.big;omega) hi') hL
   ⟨⟨i,M++[en],(by simp only[TB0,N8G]),rfl,by omega,hlM,sq,rfl⟩,(by simp only[TB0,N8G];exact a1'),(by simp only[TB0,N8G];exact a3'),(by simp only[TB0,N8G]),(by simp only[TB0,N8G];exact t6'),Keep.refl _ _⟩
  have b1':=b1;have b3':=b3;have b5':=b5
  simp only[Zj8] at b6
  rw[hM] at hT
  have K2:Keep H0 H2 []:=k1.trans k2 (fun c hc hlt=>absurd hlt (by rw[List.mem_singleton.1 hc];omega))
  simp(maxSteps:=4000000) (disch:=first|assumption|omega|(simp -implicitDefEqProofs only[Zu,Zv]<;>first|assumption|omega)|decide) only[b6,Yw,Zjg,ZC,N8G,Zr,Zs,Zd,Ze,Zf,Nat.reduceEqDiff,reduceCtorEq,TB0,TB1,TB2]
  refine⟨_,_,_,rfl,?_⟩
  exact .inl ⟨rfl,m.length - (i+1),by omega,⟨⟨i+1,ZaO ltE i (M++[en]), .slice bb 0 (i+1) none,(by simp only[TB0,N8G]),by omega,rfl,(by simp only[TB0,N8G];exact b5'),by rw[ZaJ];exact hlM,hT, .inr ⟨(by intro hc;have:=ZaJ ltE i (M++[en]);rw[hc,hlM] at this;cases this),bb,(by rw[ZaJ,hlM]),hbb,sr2⟩⟩,(by simp only[TB0,N8G];exact b1'),(by simp only[TB0,N8G];exact b3'),K2,by rw[k2.ro];have:=k2.nx;omega⟩⟩
 ·have d1:decide (i<m.length)=false:=Zc hlt
  rw[Y7 (by omega)] at hT
  have hT:M=T:=hT
  subst hT
  simp(maxSteps:=4000000) (disch:=first|assumption|omega|(simp -implicitDefEqProofs only[Zu,Zv]<;>first|assumption|omega)|decide) only[a1,t6,g1,ldo,el,d1,ZI,Zi,Zjg,ZC,N8G,Zr,Zs,Zd,Ze,Zf,Nat.reduceEqDiff,reduceCtorEq,TB0,TB1,TB2]
  refine⟨_,_,_,rfl,?_⟩
  exact .inr ⟨by simp,rfl,(by simp only[TB0,N8G];exact a3'),k0,hro,bv,(by simp only[TB0,N8G];exact t5'),gm⟩
structure QFI(HB:Heap)(h:Nat)(S:List (List UInt8×JV))(bv:AV)(m:Nat)(tm:TM)(H:Heap):Prop where
 i: ∃i,gt8 tm=nI .i64 i∧i≤S.length∧m=S.length - i∧gt3 tm= .str (Wc ((S.take i).map (ZaK h)))
 a5:gt5 tm=bv
 k:Keep HB H []
 ro:H.ro≤H.nx
theorem ZBf{Zm:Lib}{fs:T CF}{fuel:Nat}(E:Env Zm fs fuel){k n h:Nat}{HX H0 HB:Heap}(QH:ZA4 Zm HX)(ih:ZtH Zm fs fuel k (n+1) h HX)(k0X:Keep HX H0 [])(kB:Keep H0 HB []){S:List (List UInt8×JV)}{bv:AV}(gS:Gth H0 h S bv HB)(hl:S.length≤8000)(hw: ∀x∈S,Wd x.1∧WD h x.2)(ho: ∀x∈S,JV.ok h x.2)(hb: ∀x∈S,JV.tb h x.2≤800000000)(hJ:(Wc (S.map (ZaK h))).length≤800000000)(y f dd r)(x:X)(m:Nat)(tm:TM)(H:Heap)(hI:QFI HB h S bv m tm H):
  ∃o tm' H',Zjh ⟨ZR (LK Zm fs fuel k) fs fuel (n+1),y,f,dd,r⟩ tm H x= .ok o tm' H' x∧((o= .normal∧ ∃q,q<m∧QFI HB h S bv q tm' H')∨(o≠ .normal∧(o= .exit 7∧Keep HB H' []∧gt3 tm'= .str (Wc (S.map (ZaK h)))))):=by
 obtain⟨⟨i,t8,hi,rfl,t3⟩,a5,k0,hro⟩:=hI
 have a5':=a5;have t3':=t3
 simp only[Zfl] at t3
 simp only[ZfU] at a5
 simp only[Zl9] at t8
 have el: ∀G,Qe bv G= .val (nI .i64 S.length) G:=fun G=>by
  rcases gS with⟨rfl,rfl⟩|⟨_,b,rfl,_⟩
  ·rfl
  ·exact VL ..
 by_cases hlt:i<S.length
 ·have d1:decide (i<S.length)=true:=Zh hlt
  obtain⟨bb,hbv,hbb,L,r0,hrec,hLl,hEr⟩: ∃b,bv= .slice b 0 S.length none∧H0.nx≤b∧SRq H0 h b S HB:=by
   rcases gS with⟨rfl,_⟩|⟨_,b,h1,h2,h3⟩
   ·exact absurd hlt (Y9 _)
   ·exact⟨b,h1,h2,h3⟩
  have sl:Sl HB 7 bv L:=by rw[hbv,←hLl];exact Sl.of_recs hrec none
  obtain⟨b',o',r',eI,hb',gb,eP⟩:=(sl.keep0 k0).part7 (i:=i) (by omega)
  obtain⟨hk9,t,ht,hvt⟩:=hEr i hlt
  rw[ht] at eP
  have e0: ∀G:Heap,ld1 (some (.row r')) o' G= .val (.str (S.getD i default).1) G:=fun G=>(eP G).1
  have e6: ∀G:Heap,ldN 6 (some (.row r')) (o'+1) G= .val (.agg t) G:=fun G=>(eP G).2
  clear eP
  have KK:=kB.trans k0 (by simp)
  have hvt:=hvt.keep KK
  have hmem:S.getD i default∈S:=by rw[Zj,Zp hlt];exact YL hlt
  obtain⟨wk,wv⟩:=hw _ hmem
  have eq: ∀q,ZR (LK Zm fs fuel k) fs fuel (q+1) 119 [.str (S.getD i default).1] H= .ret (.str (quo (S.getD i default).1)) H:=fun q=>Zcg rfl (QH _ wk H (k0X.trans KK (by simp)))
  obtain⟨H',eC,kC⟩:=ih (k0X.trans KK (by simp)) hro hvt wv (ho _ hmem) (hb _ hmem)
  have roC:H'.ro≤H'.nx:=by rw[kC.ro];have:=kC.nx;omega
  have gb2:H'.t.get b'=some (.row r'):=by rw[kC.get _ hb' (by simp)];exact gb
  have hst:=ZlU (ZaK h) hlt
  have hp:=ZnG (ZaK h) S (i+1)
  have het:ZaK h (S.getD i default)=quo (S.getD i default).1++[58]++JV.text h (S.getD i default).2:=rfl
  rw[het] at hst
  have lt1: ∀m,H.nx≤m→Zan m t=true:=fun m hm=>hvt.low hm
  have st1:=Zad hvt.same
  have lbv:=sl.low (n:=H.nx) k0.nx
  have sbv:=sl.same
  generalize JV.text h (S.getD i default).2=tx at*
  generalize quo (S.getD i default).1=qk at*
  generalize(S.getD i default).1=key at*
  by_cases h0:i=0
  ·subst h0
   rw[if_pos rfl] at hst
   have d2:decide (0<0)=false:=rfl
   have hj0:Wc ((S.take 0).map (ZaK h))=[]:=rfl
   rw[hj0] at t3
   rw[hst] at hp
   simp only[Zq,Zn,Zw] at hp
   have q1:=fun G=>WN (a:=[]) (b:=qk) (by rw[Zw];omega) G
   have q2:=fun G=>WN (a:=qk) (b:=[58]) (by rw[Zn,Zw];omega) G
   have q3:=fun G=>WN (a:=qk++[58]) (b:=tx) (by rw[Zq,Zn,Zw];omega) G
   simp(maxSteps:=4000000) (disch:=first|assumption|omega|(simp -implicitDefEqProofs only[Zu,Zv]<;>first|assumption|omega)|decide) only[t3,t8,a5,el,d1,d2,eI,gb,gb2,e0,e6,eq,eC,q1,q2,q3,lt1,st1,lbv,sbv,ZL,ZI,ZU,Yw,Zi,Zt,Zjh,ZC,N8G,Zr,Zs,Zd,Ze,Zf,Nat.reducePow,Nat.reduceDiv,Nat.reduceMod,Nat.reduceEqDiff,reduceCtorEq,TB0,TB3,TB4]
   refine⟨_,_,_,rfl,?_⟩
   exact .inl ⟨rfl,S.length - (0+1),by omega,⟨⟨0+1,(by simp only[TB0,N8G]),by omega,rfl,by rw[hst];simp only[TB0,N8G]⟩,(by simp only[TB0,N8G];exact a5'),k0.trans kC (by simp),roC⟩⟩
  ·rw[if_neg h0] at hst
   have d2:decide (0<i)=true:=Zh (by omega)
   generalize Wc ((S.take i).map (ZaK h))=J at*
   rw[hst] at hp
   simp only[Zq,Zn,Zw] at hp
   have q0:=fun G=>WN (a:=J) (b:=[44]) (by rw[Zn,Zw];omega) G
   have q1:=fun G=>WN (a:=J++[44]) (b:=qk) (by rw[Zq,Zn,Zw];omega) G
   have q2:=fun G=>WN (a:=J++[44]++qk) (b:=[58]) (by simp only[Zq,Zn,Zw];omega) G
   have q3:=fun G=>WN (a:=J++[44]++qk++[58]) (b:=tx) (by simp only[Zq,Zn,Zw];omega) G
   simp(maxSteps:=4000000) (disch:=first|assumption|omega|(simp -implicitDefEqProofs only[Zu,Zv]<;>first|assumption|omega)|decide) only[t3,t8,a5,el,d1,d2,eI,gb,gb2,e0,e6,eq,eC,q0,q1,q2,q3,lt1,st1,lbv,sbv,ZL,ZI,ZU,Yw,Zi,Zt,Zjh,ZC,N8G,Zr,Zs,Zd,Ze,Zf,Nat.reducePow,Nat.reduceDiv,Nat.reduceMod,Nat.reduceEqDiff,reduceCtorEq,TB0,TB3,TB4]
   refine⟨_,_,_,rfl,?_⟩
   exact .inl ⟨rfl,S.length - (i+1),by omega,⟨⟨i+1,(by simp only[TB0,N8G]),by omega,rfl,by rw[hst];simp only[TB0,N8G,VE]⟩,(by simp only[TB0,N8G];exact a5'),k0.trans kC (by simp),roC⟩⟩
 ·have d1:decide (i<S.length)=false:=Zc hlt
  rw[ZK (by omega)] at t3'
  simp(maxSteps:=4000000) (disch:=first|assumption|omega|(simp -implicitDefEqProofs only[Zu,Zv]<;>first|assumption|omega)|decide) only[t8,a5,el,d1,ZI,Zjh,ZC,N8G,Zr,Zs,Zd,Ze,Zf,Nat.reducePow,Nat.reduceDiv,Nat.reduceMod,Nat.reduceEqDiff,reduceCtorEq,TB0,TB3,TB4]
  refine⟨_,_,_,rfl,?_⟩
  exact .inr ⟨by simp,rfl,k0,(by simp only[TB0,N8G];exact t3')⟩
end
end Go.AI
namespace Go.AI
open Go
noncomputable section
theorem ZsK{Zm:Lib}{fs:T CF}{fuel:Nat}(E:Env Zm fs fuel){k:Nat}{HX:Heap}(QH:ZA4 Zm HX): ∀(h:Nat),h≤100→ ∀(n:Nat),h+20≤n→ZtH Zm fs fuel k n h HX:=by
 intro h
 induction h with
 |zero=>intro _ n _ v cs H _ _ hv;exact hv.elim
 |succ h ih=>
 intro hh n hn v cs H kX hro hv hw hok htb
 obtain⟨n,rfl⟩: ∃q,n=q+5:=⟨n - 5,by omega⟩
 have ih:ZtH Zm fs fuel k (n+4) h HX:=ih (by omega) (n+4) (by omega)
 have hlen:=JV.text_len ZjV (h+1) v hok
 obtain⟨kk,b,z,s,l,m⟩:=v
 obtain⟨lv,mv,ls,ms,rfl,hz1,hz2,hs9,hl9,hm9,sl,sm,e1,e2,hl,hm⟩:=hv
 obtain⟨_,hm12,hol,hom⟩:=hok
 obtain⟨ws,wl,wm⟩:=hw
 rw[ZV (ZN E.n69 (.inr rfl) _ _) E.f69]
 have bx:=Vf (l:=[nI .i64 kk, .bool b, .int .i64 z, .str s,lv,mv]) (Nat.le_add_left 1 5) 79 H
 obtain⟨H1,hH1⟩: ∃G,H.new (rG 79 1 [nI .i64 kk, .bool b, .int .i64 z, .str s,lv,mv] 0 false true true)=G:=⟨_,rfl⟩
 rw[hH1] at bx
 have nx1:H1.nx=H.nx+1:=by rw[←hH1];rfl
 have g1:H1.t.get H.nx=some (rG 79 1 [nI .i64 kk, .bool b, .int .i64 z, .str s,lv,mv] 0 false true true):=by rw[←hH1,ZP rfl]
 have k1:Keep H H1 []:=by rw[←hH1];exact Keep.new _ _ _
 have ro1:H1.ro≤H1.nx:=by rw[k1.ro];omega
 have kX1:=kX.trans k1 (by simp)
 have ldk: ∀G:Heap,ld1 (some (rG 79 1 [nI .i64 kk, .bool b, .int .i64 z, .str s,lv,mv] 0 false true true)) 0 G= .val (nI .i64 kk) G:=fun G=>by rw[ZH (by simp)];rfl
 have ldb: ∀G:Heap,ld1 (some (rG 79 1 [nI .i64 kk, .bool b, .int .i64 z, .str s,lv,mv] 0 false true true)) 1 G= .val (.bool b) G:=fun G=>by rw[ZH (by simp)];rfl
 have ldz: ∀G:Heap,ld1 (some (rG 79 1 [nI .i64 kk, .bool b, .int .i64 z, .str s,lv,mv] 0 false true true)) 2 G= .val (.int .i64 z) G:=fun G=>by rw[ZH (by simp)];rfl
 have lds: ∀G:Heap,ld1 (some (rG 79 1 [nI .i64 kk, .bool b, .int .i64 z, .str s,lv,mv] 0 false true true)) 3 G= .val (.str s) G:=fun G=>by rw[ZH (by simp)];rfl
 have tbl: ∀x∈l,JV.tb h x≤800000000:=fun x hx=>by
  have a:1+JV.tb h x≤(l.map fun x=>1+JV.tb h x).sum:=JV.mem_sum (fun x=>1+JV.tb h x) hx
  have b:50+6*s.length+(l.map fun x=>1+JV.tb h x).sum+(m.map fun e=>6*e.1.length+4+JV.tb h e.2).sum≤800000000:=htb
  omega
 have tbm: ∀e∈m,JV.tb h e.2≤800000000:=fun x hx=>by
  have a:6*x.1.length+4+JV.tb h x.2≤(m.map fun e=>6*e.1.length+4+JV.tb h e.2).sum:=JV.mem_sum (fun e:List UInt8×JV=>6*e.1.length+4+JV.tb h e.2) hx
  have b:50+6*s.length+(l.map fun x=>1+JV.tb h x).sum+(m.map fun e=>6*e.1.length+4+JV.tb h e.2).sum≤800000000:=htb
  omega
 have hte:JV.text (h+1) (.mk kk b z s l m)=(if kk=1 then [110,117,108,108] else if kk=2 then(if b=true then [116,114,117,101] else [102,97,108,115,101]) else if kk=3 then Zep z else if kk=4 then quo s else if kk=5 then [91]++Wc (l.map (JV.text h))++[93] else [123]++Wc ((WQ ltE m).map (ZaK h))++[125]):=rfl
 rw[hte] at hlen ⊢
 by_cases k1':kk=1
 ·have d1:decide (kk=1)=true:=Zh k1'
  rw[if_pos k1']
  simp(maxSteps:=4000000) (disch:=first|assumption|omega|(simp -implicitDefEqProofs only[Zu,Zv]<;>first|assumption|omega)|decide) only[bx,g1,ldk,d1,ZW,Zi,c69,ZC,N8G,Zr,Zs,Zd,Ze,Zf,Nat.reduceEqDiff,reduceCtorEq,TB0,TB1,TB4]
  refine⟨_,rfl,?_⟩
  exact k1
 have d1:decide (kk=1)=false:=Zc k1'
 rw[if_neg k1'] at hlen ⊢
 by_cases k2':kk=2
 ·have d2:decide (kk=2)=true:=Zh k2'
  rw[if_pos k2']
  cases b with
  |true=>
   rw[if_pos rfl]
   simp(maxSteps:=4000000) (disch:=first|assumption|omega|(simp -implicitDefEqProofs only[Zu,Zv]<;>first|assumption|omega)|decide) only[bx,g1,ldk,ldb,d1,d2,ZW,Zi,c69,ZC,N8G,Zr,Zs,Zd,Ze,Zf,Nat.reduceEqDiff,reduceCtorEq,TB0,TB1,TB4]
   refine⟨_,rfl,?_⟩
   exact k1
  |false=>
   rw[if_neg (by simp)]
   simp(maxSteps:=4000000) (disch:=first|assumption|omega|(simp -implicitDefEqProofs only[Zu,Zv]<;>first|assumption|omega)|decide) only[bx,g1,ldk,ldb,d1,d2,ZW,Zi,c69,ZC,N8G,Zr,Zs,Zd,Ze,Zf,Nat.reduceEqDiff,reduceCtorEq,TB0,TB1,TB4]
   refine⟨_,rfl,?_⟩
   exact k1
 have d2:decide (kk=2)=false:=Zc k2'
 rw[if_neg k2'] at hlen ⊢
 by_cases k3':kk=3
 ·have d3:decide (kk=3)=true:=Zh k3'
  obtain⟨H2,e,k2⟩:=ZHe E (k:=k) (n:=n+2) hz1 hz2 ro1
  rw[if_pos k3']
  simp(maxSteps:=4000000) (disch:=first|assumption|omega|(simp -implicitDefEqProofs only[Zu,Zv]<;>first|assumption|omega)|decide) only[bx,g1,ldk,ldz,d1,d2,d3,e,ZW,Zi,c69,ZC,N8G,Zr,Zs,Zd,Ze,Zf,Nat.reduceEqDiff,reduceCtorEq,TB0,TB1,TB4]
  refine⟨_,rfl,?_⟩
  exact k1.trans k2 (by simp)
 have d3:decide (kk=3)=false:=Zc k3'
 rw[if_neg k3'] at hlen ⊢
 by_cases k4':kk=4
 ·have d4:decide (kk=4)=true:=Zh k4'
  have e: ∀q,ZR (LK Zm fs fuel k) fs fuel (q+1) 119 [.str s] H1= .ret (.str (quo s)) H1:=fun q=>Zcg rfl (QH s ws H1 kX1)
  rw[if_pos k4']
  simp(maxSteps:=4000000) (disch:=first|assumption|omega|(simp -implicitDefEqProofs only[Zu,Zv]<;>first|assumption|omega)|decide) only[bx,g1,ldk,lds,d1,d2,d3,d4,e,ZW,Zi,c69,ZC,N8G,Zr,Zs,Zd,Ze,Zf,Nat.reduceEqDiff,reduceCtorEq,TB0,TB1,TB4]
  refine⟨_,rfl,?_⟩
  exact k1
 have d4:decide (kk=4)=false:=Zc k4'
 rw[if_neg k4'] at hlen ⊢
 by_cases k5':kk=5
 ·have d5:decide (kk=5)=true:=Zh k5'
  rw[if_pos k5'] at hlen ⊢
  have hj:(Wc (l.map (JV.text h))).length≤800000000:=by
   simp only[Zq,Zn,Zw] at hlen;omega
  simp(maxSteps:=4000000) (disch:=first|assumption|omega|(simp -implicitDefEqProofs only[Zu,Zv]<;>first|assumption|omega)|decide) only[bx,g1,ldk,d1,d2,d3,d4,d5,ZW,Zi,c69,ZC,N8G,Zr,Zs,Zd,Ze,Zf,Nat.reduceEqDiff,reduceCtorEq,TB0,TB1,TB4]
  generalize hL:WI (Zje _) fuel _ _ _=L
  obtain⟨o,tm1,H2,rfl,_,rfl,k2,t3⟩:=YC (P:=fun T=>XLI H1 h H.nx l l.length T H1) (Q:=fun o tm' H'=>o= .exit 1∧Keep H1 H' []∧gt3 tm'= .str (Wc (l.map (JV.text h))))
   (fun T hi'=>YE (XLI H1 h H.nx l) _ (fun q tm H' h'=>ZBc E ih kX1 g1 (by omega) (sl.keep0 k1) e1 hl9 (fun i hi=>(hl i hi).keep k1) wl hol tbl hj _ _ _ _ _ q tm H' h') fuel l.length T H1 (by have:=E.big;omega) hi') hL
   ⟨⟨0,rfl,ZX _,rfl,rfl⟩,rfl,Keep.refl _ _,ro1⟩
  simp only[Zfl] at t3
  generalize Wc (l.map (JV.text h))=J at*
  have q1:([91]:List UInt8).length+J.length≤900000000:=by rw[Zn,Zw];omega
  have q2:([91]++J).length+([93]:List UInt8).length≤900000010:=by simp only[Zq,Zn,Zw];omega
  simp(maxSteps:=4000000) (disch:=first|assumption|omega|(simp -implicitDefEqProofs only[Zu,Zv]<;>first|assumption|omega)|decide) only[t3,WN,c69,ZC,N8G,Zr,Zs,Zd,Ze,Zf,Nat.reduceEqDiff,reduceCtorEq,TB0,TB1,TB4]
  refine⟨_,rfl,?_⟩
  exact k1.trans k2 (by simp)
 have d5:decide (kk=5)=false:=Zc k5'
 rw[if_neg k5'] at hlen ⊢
 have hj:(Wc ((WQ ltE m).map (ZaK h))).length≤800000000:=by
  simp only[Zq,Zn,Zw] at hlen;omega
 simp(maxSteps:=4000000) (disch:=first|assumption|omega|(simp -implicitDefEqProofs only[Zu,Zv]<;>first|assumption|omega)|decide) only[bx,g1,ldk,d1,d2,d3,d4,d5,ZW,Zi,c69,ZC,N8G,Zr,Zs,Zd,Ze,Zf,Nat.reduceEqDiff,reduceCtorEq,TB0,TB1,TB4]
 generalize hL:WI (Zjg _) fuel _ _ _=L
 obtain⟨o,tm1,H2,rfl,_,rfl,t3,k2,ro2,bv,t5,gS⟩:=YC (P:=fun T=>QOI H1 h H.nx m (WQ ltE m) m.length T H1) (Q:=fun o tm' H'=>o= .exit 3∧gt3 tm'= .str []∧Keep H1 H' []∧H'.ro≤H'.nx∧ ∃bv,gt5 tm'=bv∧Gth H1 h (WQ ltE m) bv H')
  (fun T hi'=>YE (QOI H1 h H.nx m (WQ ltE m)) _ (fun q tm H' h'=>ZBe E g1 (by omega) (sm.keep0 k1) e2 (by omega) (fun i hi=>by
   obtain⟨a,t,b',c⟩:=hm i hi
   exact⟨a,t,b',c.keep k1⟩) _ _ _ _ q tm H' h') fuel m.length T H1 (by have:=E.big;omega) hi') hL
  ⟨⟨0,[], .nils,rfl,ZX _,rfl,rfl,rfl,Zvx ltE m, .inl ⟨rfl,rfl⟩⟩,rfl,rfl,Keep.refl _ _,ro1⟩
 have t3':=t3;have t5':=t5
 have hSl:(WQ ltE m).length=m.length:=ZnF ltE m
 simp(maxSteps:=4000000) (disch:=first|assumption|omega|(simp -implicitDefEqProofs only[Zu,Zv]<;>first|assumption|omega)|decide) only[c69,ZC,N8G,Zr,Zs,Zd,Ze,Zf,Nat.reduceEqDiff,reduceCtorEq,TB0,TB1,TB4]
 generalize hL:WI (Zjh _) fuel _ _ _=L
 obtain⟨o,tm2,H3,rfl,_,rfl,k3,t3⟩:=YC (P:=fun T=>QFI H2 h (WQ ltE m) bv (WQ ltE m).length T H2) (Q:=fun o tm' H'=>o= .exit 7∧Keep H2 H' []∧gt3 tm'= .str (Wc ((WQ ltE m).map (ZaK h))))
  (fun T hi'=>YE (QFI H2 h (WQ ltE m) bv) _ (fun q tm H' h'=>ZBf E (n:=n+3) QH ih kX1 k2 gS (by omega) (fun x hx=>wm x (ZbY ltE x hx)) (fun x hx=>hom x (ZbY ltE x hx)) (fun x hx=>tbm x (ZbY ltE x hx)) hj _ _ _ _ _ q tm H' h') fuel (WQ ltE m).length T H2 (by have:=E.big;omega) hi') hL
  ⟨⟨0,rfl,ZX _,rfl,(by simp only[TB0,N8G];exact t3')⟩,(by simp only[TB0,N8G];exact t5'),Keep.refl _ _,ro2⟩
 simp only[Zfl] at t3
 generalize Wc ((WQ ltE m).map (ZaK h))=J at*
 have q1:([123]:List UInt8).length+J.length≤900000000:=by rw[Zn,Zw];omega
 have q2:([123]++J).length+([125]:List UInt8).length≤900000010:=by simp only[Zq,Zn,Zw];omega
 simp(maxSteps:=4000000) (disch:=first|assumption|omega|(simp -implicitDefEqProofs only[Zu,Zv]<;>first|assumption|omega)|decide) only[t3,WN,c69,ZC,N8G,Zr,Zs,Zd,Ze,Zf,Nat.reduceEqDiff,reduceCtorEq,TB0,TB1,TB4]
 refine⟨_,rfl,?_⟩
 exact(k1.trans k2 (by simp)).trans k3 (by simp)
theorem ZFH{Zm:Lib}{fs:T CF}{fuel:Nat}(E:Env Zm fs fuel){k n h:Nat}{HX H:Heap}(VH:ZvS Zm HX)(QH:ZA4 Zm HX)(kX:Keep HX H [])(hro:H.ro≤H.nx)(hh:h≤100){v:JV}{cs:List AV}(hv:VR H h v cs)(hw:WD h v)(hok:JV.ok h v)(htb:JV.tb h v≤800000000)(hne:JV.text h v≠[]):
  ∃x H',ZR (LK Zm fs fuel k) fs fuel (n+200) 30 [.agg cs] H= .ret (.tup [x,nI .i64 (JV.check v)]) H'∧Keep H H' []∧(∀G,Keep H' G []→ZlJ x G= .val (.str (if JV.check v=0 then JV.text h v else [])) G)∧ ∀m,H'.nx≤m→YA m x=true:=by
 rw[ZV (ZN E.n30 (.inr rfl) _ _) E.f30]
 have hlen:=hv.len
 have bx:=Vf (l:=cs) (by omega) 79 H
 obtain⟨H1,hH1⟩: ∃G,H.new (rG 79 1 cs 0 false true true)=G:=⟨_,rfl⟩
 rw[hH1] at bx
 have nx1:H1.nx=H.nx+1:=by rw[←hH1];rfl
 have g1:H1.t.get H.nx=some (rG 79 1 cs 0 false true true):=by rw[←hH1,ZP rfl]
 have k1:Keep H H1 []:=by rw[←hH1];exact Keep.new _ _ _
 have ro1:H1.ro≤H1.nx:=by rw[k1.ro];omega
 have ldx: ∀G:Heap,ldN 6 (some (rG 79 1 cs 0 false true true)) 0 G= .val (.agg cs) G:=fun G=>by rw[WH (by omega)];congr 2;rw[Yl,ZK (by omega)]
 obtain⟨H2,e2,k2⟩:=ZtG E (k:=k) (n:=n+139) VH (kX.trans k1 (by simp)) ro1 (hv.keep k1) hw
 have g2:H2.t.get H.nx=some (rG 79 1 cs 0 false true true):=by rw[k2.get _ (by omega) (by simp)];exact g1
 have ro2:H2.ro≤H2.nx:=by rw[k2.ro];have:=k2.nx;omega
 have K2:=k1.trans k2 (by simp)
 by_cases hc:JV.check v=0
 ·rw[hc] at e2 ⊢
  have n1:=fun G=>ZnO (rfl:0=0) .i64 G
  obtain⟨H3,e3,k3⟩:=ZsK E (k:=k) QH h hh (n+199) (by omega) (kX.trans K2 (by simp)) ro2 (hv.keep K2) hw hok htb
  have htl:=JV.text_len ZjV h v hok
  rw[if_pos rfl]
  generalize JV.text h v=T at*
  have hT:T.length≤800000000:=by omega
  have hT0:0<T.length:=List.length_pos_iff.2 hne
  obtain⟨H4,hH4⟩: ∃G,H3.new (rG 5 1 (T.map u8V) 0 true true false)=G:=⟨_,rfl⟩
  have nx4:H4.nx=H3.nx+1:=by rw[←hH4];rfl
  have g4:H4.t.get H3.nx=some (rG 5 1 (T.map u8V) 0 true true false):=by rw[←hH4,ZP rfl]
  refine⟨.slice H3.nx 0 T.length none,H4,?_,by rw[←hH4];exact(K2.trans k3 (by simp)).then_new _,fun G kG=>ZDg (by rw[kG.get _ (by omega) (by simp)];exact g4),fun m hm=>YP (by omega) _ _ _⟩
  simp(maxSteps:=4000000) (disch:=first|assumption|omega|(simp -implicitDefEqProofs only[Zu,Zv]<;>first|assumption|omega)|decide) only[bx,g1,g2,ldx,e2,e3,n1,hH4,c30,ZC,N8G,Zr,Zs,Zd,Ze,Zf,Nat.reduceEqDiff,reduceCtorEq,TB0]
 ·have n1:=fun G=>Zjq hc .i64 G
  rw[if_neg hc]
  generalize JV.check v=cv at*
  refine⟨.nils,H2,?_,K2,fun _ _=>rfl,fun _ _=>rfl⟩
  simp(maxSteps:=4000000) (disch:=first|assumption|omega|(simp -implicitDefEqProofs only[Zu,Zv]<;>first|assumption|omega)|decide) only[bx,g1,ldx,e2,n1,c30,ZC,N8G,Zr,Zs,Zd,Ze,Zf,Nat.reduceEqDiff,reduceCtorEq,TB0]
end
end Go.AI
namespace Go.AI
open Go
noncomputable section
theorem VR.vrs{H:Heap}{S:Nat→Prop}(hS: ∀c,c<H.nx→ ¬S c): ∀{h:Nat} {v:JV} {cs:List AV},VR H h v cs→VRs H S h v cs
 |h+1, .mk _ _ _ _ l m,cs,⟨lv,mv,ls,ms,e,a1,a2,a3,a4,a5,sl,sm,e1,e2,hl,hm⟩=>
  ⟨lv,mv,ls,ms,e,a1,a2,a3,a4,a5,⟨sl,fun c o n q ev=>by
   rcases sl.here with⟨_,rfl⟩|⟨c',o',q',rfl,hb,_⟩
   ·cases ev
   ·cases ev;exact hS _ hb⟩,⟨sm,fun c o n q ev=>by
   rcases sm.here with⟨_,rfl⟩|⟨c',o',q',rfl,hb,_⟩
   ·cases ev
   ·cases ev;exact hS _ hb⟩,e1,e2,fun i hi=>(hl i hi).vrs hS,fun i hi=>by
   obtain⟨b,t,c,d⟩:=hm i hi
   exact⟨b,t,c,d.vrs hS⟩⟩
def ZtI(v:JV):JV:= .mk 5 false 0 [] [v] []
theorem ZDi(s:List UInt8):quo s≠[]:=by
 intro e
 have:=congrArg List.length e
 unfold quo at this
 simp at this
theorem ZyY(h:Nat)(v:JV):JV.text (h+1) v≠[]:=by
 obtain⟨k,b,n,s,l,m⟩:=v
 show(if k=1 then [110,117,108,108] else if k=2 then(if b=true then [116,114,117,101] else [102,97,108,115,101]) else if k=3 then Zep n else if k=4 then quo s
  else if k=5 then [91]++Wc (l.map (JV.text h))++[93] else [123]++Wc ((WQ ltE m).map fun e=>quo e.1++[58]++JV.text h e.2)++[125]:List UInt8)≠[]
 split
 ·simp
 split
 ·split<;>simp
 split
 ·unfold Zep
  have hd: ∀n,dec n≠[]:=fun n e=>by have:=Zif n;have:=Zft n;rw[e,Zw] at*;omega
  split
  ·simp
  ·exact hd _
 split
 ·exact ZDi s
 split
 ·simp
 ·simp
theorem ZBg{Zm:Lib}{fs:T CF}{fuel:Nat}(E:Env Zm fs fuel){k n:Nat}{x y:AV}{T:List UInt8}{H:Heap}(hx:ZlJ x H= .val (.str T) H)(hy:ZlJ y H= .val (.str T) H):ZR (LK Zm fs fuel k) fs fuel (n+1) 32 [x,y] H= .ret (.bool true) H:=by
 rw[ZV (ZN E.n32 (.inr rfl) _ _) E.f32]
 have dT:decide (T=T)=true:=Zh rfl
 simp(maxSteps:=4000000) (disch:=first|assumption|omega|(simp -implicitDefEqProofs only[Zu,Zv]<;>first|assumption|omega)|decide) only[hx,hy,dT,UH,c32,ZC,N8G,Zr,Zs,Zd,Ze,Zf,Nat.reduceEqDiff,reduceCtorEq,TB0]
theorem ZFI{Zm:Lib}{fs:T CF}{fuel:Nat}(E:Env Zm fs fuel)(M:MNZ Zm){n h:Nat}(hh:h≤100){v:JV}{cs:List AV}{H:Heap}(g:Glob H)(gu:GlobU H)(hro:H.ro≤H.nx)(hv:VR H h v cs)(hok:JV.ok h v)(htb:JV.tb h v≤800000000)(hne:JV.text h v≠[]):
  ∃x H',ZR (LK Zm fs fuel 7) fs fuel (n+2) 29 [.agg cs] H= .ret (.tup [x,nI .i64 (JV.check v)]) H'∧Keep H H' []∧(∀G,Keep H' G []→ZlJ x G= .val (.str (if JV.check v=0 then JV.text h v else [])) G)∧ ∀m,H'.nx≤m→YA m x=true:=by
 have ep:=ZHc E M (k:=7) (n:=n) (by decide) hh g gu hro hv hok htb hne
 have htl:=JV.text_len ZjV h v hok
 have k1:Keep H (H.new (rG 72 1 cs 0 false true true)) []:=Keep.new _ _ _
 by_cases hc:JV.check v=0
 ·rw[if_pos hc] at ep
  refine⟨_,_,by rw[hc];exact ep,k1.then_new _,fun G kG=>?_,fun m hm=>YP (by have hm:H.nx+1+1≤m:=hm;omega) _ _ _⟩
  rw[if_pos hc]
  exact ZDg (by rw[kG.get _ (by show H.nx+1<H.nx+1+1;omega) (by simp)];exact ZP rfl _)
 ·rw[if_neg hc] at ep
  exact⟨.nils,_,ep,k1,fun G _=>by rw[if_neg hc];rfl,fun _ _=>rfl⟩
structure PWI(H0:Heap)(p5 N hb:Nat)(m:Nat)(tm:TM)(H:Heap):Prop where
 i: ∃i w cs,Y3 tm=nI .u8 i∧i≤N∧m=N - i∧H.t.get p5=some (rG 72 1 cs 0 false true true)∧VRs H (fun c=>c=p5) (hb+i+1) w cs∧OKW (hb+i+1) w∧JV.tb (hb+i+1) w≤25000+51*i
 a5:gt5 tm= .ptr p5 0
 a13:YJ tm=nI .u8 N
 k:Keep H0 H [p5]
 ro:H.ro≤p5
 nx:p5<H.nx
theorem ZBh{cl:Nat→List AV→Heap→CR}{H0:Heap}{p5 N hb:Nat}(hN:N≤39)(y f d r)(x:X)(m:Nat)(tm:TM)(H:Heap)(hI:PWI H0 p5 N hb m tm H):
  ∃o tm' H',ZqA ⟨cl,y,f,d,r⟩ tm H x= .ok o tm' H' x∧((o= .normal∧ ∃q,q<m∧PWI H0 p5 N hb q tm' H')∨(o≠ .normal∧(o= .exit 0∧gt5 tm'= .ptr p5 0∧Keep H0 H' [p5]∧H'.ro≤p5∧p5<H'.nx∧ ∃w cs,H'.t.get p5=some (rG 72 1 cs 0 false true true)∧VR H' (hb+N+1) w cs∧OKW (hb+N+1) w∧JV.tb (hb+N+1) w≤800000000))):=by
 obtain⟨⟨i,w,cs,t14,hi,rfl,g5,hv,ow,tw⟩,a5,a13,k0,hro,hnx⟩:=hI
 have a5':=a5;have a13':=a13
 simp only[ZfU] at a5
 simp only[ZBC] at a13
 simp only[ZEF] at t14
 have hlen:=hv.vr.len
 have ldx: ∀G:Heap,ldN 6 (some (rG 72 1 cs 0 false true true)) 0 G= .val (.agg cs) G:=fun G=>by rw[WH (by omega)];congr 2;rw[Yl,ZK (by omega)]
 by_cases hlt:i<N
 ·have d1:decide (i<N)=true:=Zh hlt
  have bs:=ZFx (e:=72) hlen H
  obtain⟨HA,hA⟩: ∃G,H.new (rG 72 6 cs 0 false true true)=G:=⟨_,rfl⟩
  rw[hA] at bs
  have nxA:HA.nx=H.nx+1:=by rw[←hA];rfl
  have roA:HA.ro=H.ro:=by rw[←hA];rfl
  have gA:HA.t.get H.nx=some (rG 72 6 cs 0 false true true):=by rw[←hA,ZP rfl]
  have gA5:HA.t.get p5=some (rG 72 1 cs 0 false true true):=by rw[←hA,Yy (by omega)];exact g5
  have bd: ∀G:Heap,ZcL [nI .i64 0, .bool false,nI .i64 0, .str [], .nils, .nils] [(0,1,nI .i64 5),(4,1, .slice H.nx 0 1 none)] G= .val (.agg [nI .i64 5, .bool false,nI .i64 0, .str [], .slice H.nx 0 1 none, .nils]) G:=fun _=>rfl
  have st:=Y8 (n:=6) (l:=cs) (vs:=[nI .i64 5, .bool false,nI .i64 0, .str [], .slice H.nx 0 1 none, .nils]) (b:=p5) (H:=HA) hlen (by rfl) (by omega) (by omega) 72 1 false true
  obtain⟨HF,hF⟩: ∃G,HA.put p5 (rG 72 1 [nI .i64 5, .bool false,nI .i64 0, .str [], .slice H.nx 0 1 none, .nils] 0 false true true)=G:=⟨_,rfl⟩
  rw[hF] at st
  have nxF:HF.nx=HA.nx:=by rw[←hF];rfl
  have roF:HF.ro=HA.ro:=by rw[←hF];rfl
  have ad:=fun G=>Zz8 (a:=i) (b:=1) (by omega) G
  have mvd:VRs HF (fun c=>c=p5) (hb+i+1) w cs:=hv.move (fun c hc hS=>by rw[←hF,Z3 (fun h=>hS h.symm),←hA,Yy (by omega)]) (by omega) (fun c _ h=>h)
  have hsl:Sl HF 6 (.slice H.nx 0 1 none) [cs]:=Sl.of_rG (ls:=[cs]) (c:=none) (by rw[←hF,Z3 (by omega),gA];simp;rfl) (by omega) (fun l hl=>by rw[List.mem_singleton.1 hl];exact hlen)
  have vF:VRs HF (fun c=>c=p5) (hb+i+1+1) (ZtI w) [nI .i64 5, .bool false,nI .i64 0, .str [], .slice H.nx 0 1 none, .nils]:=⟨.slice H.nx 0 1 none, .nils,[cs],[],rfl,by omega,by omega,ZX _,(show 1≤9000 by decide),ZX _,⟨hsl,fun c o n q e=>by cases e;show ¬H.nx=p5;omega⟩,⟨Sl.nil ..,fun _ _ _ _ e=>by cases e⟩,rfl,rfl,fun j hj=>by
   obtain rfl:j=0:=by have:j<1:=hj;omega
   exact mvd,fun j hj=>absurd hj (Y9 _)⟩
  have oF:OKW (hb+i+1+1) (ZtI w):=⟨⟨⟨by omega,by omega⟩,ZX _,fun x hx=>by rw[List.mem_singleton.1 hx];exact ow.1,fun x hx=>by cases hx⟩,Zg2,fun x hx=>by rw[List.mem_singleton.1 hx];exact ow.2,fun x hx=>by cases hx⟩
  have tF:JV.tb (hb+i+1+1) (ZtI w)≤25000+51*(i+1):=by
   show 50+6*0+(1+JV.tb (hb+i+1) w+0)+0≤_
   omega
  simp(maxSteps:=4000000) (disch:=first|assumption|omega|(simp -implicitDefEqProofs only[Zu,Zv]<;>first|assumption|omega)|decide) only[a5,a13,t14,g5,ldx,d1,bs,gA5,bd,st,ad,ZI,Zi,ZqA,ZC,N8G,Zr,Zs,Zd,Ze,Zf,Nat.reduceEqDiff,reduceCtorEq,TB0]
  refine⟨_,_,_,rfl,?_⟩
  exact .inl ⟨rfl,N - (i+1),by omega,⟨⟨i+1,ZtI w,[nI .i64 5, .bool false,nI .i64 0, .str [], .slice H.nx 0 1 none, .nils],(by simp only[TB0,N8G]),by omega,rfl,by rw[←hF,Yo],vF,oF,tF⟩,(by simp only[TB0,N8G];exact a5'),(by simp only[TB0,N8G];exact a13'),by rw[←hF,←hA];exact(k0.then_new _).then_put (fun _=>by simp),by omega,by omega⟩⟩
 ·have d1:decide (i<N)=false:=Zc hlt
  obtain rfl:i=N:=by omega
  simp(maxSteps:=4000000) (disch:=first|assumption|omega|(simp -implicitDefEqProofs only[Zu,Zv]<;>first|assumption|omega)|decide) only[a13,t14,d1,ZI,ZqA,ZC,N8G,Zr,Zs,Zd,Ze,Zf,Nat.reduceEqDiff,reduceCtorEq,TB0]
  refine⟨_,_,_,rfl,?_⟩
  exact .inr ⟨by simp,rfl,(by simp only[TB0,N8G];exact a5'),k0,hro,hnx,w,cs,g5,hv.vr,ow,by omega⟩
theorem ZBi{Zm:Lib}{fs:T CF}{fuel:Nat}(E:Env Zm fs fuel)(M:MNZ Zm){n:Nat}{H:Heap}{a:AV}{l:List Nat}{lists:Nat}(hl:lists<256)(ha:ArgN H a l)(g:Glob H)(gu:GlobU H)(hro:H.ro≤H.nx)(VH:ZvS Zm H)(QH:ZA4 Zm H)(hW: ∀H',Keep H H' []→Zm 35 [] H'=some (.ret (.bool true) H')):
  ∃H',ZR (LK Zm fs fuel 7) fs fuel (n+301) 5 [a,nI .u8 lists] H= .ret (.bool true) H':=by
 rw[ZV (ZN E.n5 (.inr rfl) _ _) E.f5]
 obtain⟨h,v,cs,H1,e1,hh,hv,ov,tv,k1⟩:=ZyV E (k:=7) (n:=n+240) (by decide) ha hro
 have nx1:=k1.nx
 have ro1:=k1.ro
 have hlen:=hv.len
 have hst:=Y8 (n:=6) (l:=[nI .i64 0, .bool false,nI .i64 0, .str [], .nils, .nils]) (vs:=cs) (b:=H1.nx) (H:=H1.new (rG 72 1 [nI .i64 0, .bool false,nI .i64 0, .str [], .nils, .nils] 0 false true true)) (by rfl) hlen (by omega) (show H1.ro≤H1.nx by omega) 72 1 false true
 obtain⟨H2,hH2⟩: ∃G,H1.new (rG 72 1 cs 0 false true true)=G:=⟨_,rfl⟩
 rw[VX rfl,hH2] at hst
 have nx2:H2.nx=H1.nx+1:=by rw[←hH2];rfl
 have ro2:H2.ro=H1.ro:=by rw[←hH2];rfl
 have k12:Keep H1 H2 []:=by rw[←hH2];exact Keep.new _ _ _
 have k2:=k1.trans k12 (by simp)
 have g5:H2.t.get H1.nx=some (rG 72 1 cs 0 false true true):=by rw[←hH2,ZP rfl]
 have rm:=fun G=>Zz9 (a:=lists) (b:=40) (by decide) G
 have hN:lists % 40≤39:=by have:=Vh lists (show 0<40 by decide);omega
 generalize lists % 40=N at*
 have v2:VRs H2 (fun c=>c=H1.nx) (h+0+1) v cs:=(hv.vrs (S:=fun c=>c=H1.nx) (fun c hc e=>by omega)).move (fun c hc _=>k12.get c hc (by simp)) k12.nx (fun c _ h=>h)
 simp(maxSteps:=4000000) (disch:=first|assumption|omega|(simp -implicitDefEqProofs only[Zu,Zv]<;>first|assumption|omega)|decide) only[e1,hst,rm,c5,ZC,N8G,Zr,Zs,Zd,Ze,Zf,Nat.reducePow,Nat.reduceDiv,Nat.reduceMod,Nat.reduceEqDiff,reduceCtorEq,TB0,TB1]
 generalize hL:WI (ZqA _) fuel _ _ _=L
 obtain⟨o,tm1,H3,rfl,_,rfl,a5,k3,ro3,nx3,w,ds,g53,hw3,ow,tw⟩:=YC (P:=fun T=>PWI H2 H1.nx N h N T H2) (Q:=fun o tm' H'=>o= .exit 0∧gt5 tm'= .ptr H1.nx 0∧Keep H2 H' [H1.nx]∧H'.ro≤H1.nx∧H1.nx<H'.nx∧ ∃w cs,H'.t.get H1.nx=some (rG 72 1 cs 0 false true true)∧VR H' (h+N+1) w cs∧OKW (h+N+1) w∧JV.tb (h+N+1) w≤800000000)
  (fun T hi'=>YE (PWI H2 H1.nx N h) _ (fun q tm H' h'=>ZBh hN _ _ _ _ _ q tm H' h') fuel N T H2 (by have:=E.big;omega) hi') hL
  ⟨⟨0,v,cs,rfl,ZX _,rfl,g5,v2,ov,by omega⟩,rfl,rfl,Keep.refl _ _,by omega,by omega⟩
 simp only[ZfU] at a5
 have K3:Keep H H3 []:=k2.trans k3 (fun c hc hlt=>absurd hlt (by rw[List.mem_singleton.1 hc];omega))
 have hdl:=hw3.len
 have ldx: ∀G:Heap,ldN 6 (some (rG 72 1 ds 0 false true true)) 0 G= .val (.agg ds) G:=fun G=>by rw[WH (by omega)];congr 2;rw[Yl,ZK (by omega)]
 have hne:=ZyY (h+N) w
 obtain⟨x,H4,e4,k4,sx,lx⟩:=ZFI E M (n:=n+298) (by omega) (g.keep K3 (by simp)) (gu.keep0 K3) (by omega) hw3 ow.1 tw hne
 have nx4:=k4.nx
 have ro4:=k4.ro
 have K4:=K3.trans k4 (by simp)
 have g54:H4.t.get H1.nx=some (rG 72 1 ds 0 false true true):=by rw[k4.get _ nx3 (by simp)];exact g53
 obtain⟨es,H5,e5,hw5,k5⟩:=ZqV E (k:=7) (h+N+1) (by omega) (n+300) (by omega) (by omega) (hw3.keep k4)
 have nx5:=k5.nx
 have ro5:=k5.ro
 have K5:=K4.trans k5 (by simp)
 have g55:H5.t.get H1.nx=some (rG 72 1 ds 0 false true true):=by rw[k5.get _ (by omega) (by simp)];exact g54
 obtain⟨y,H6,e6,k6,sy,ly⟩:=ZFH E (k:=7) (n:=n+100) VH QH K5 (by omega) (by omega) hw5.vr ow.2 ow.1 tw hne
 have nx6:=k6.nx
 have ro6:=k6.ro
 have K6:=K5.trans k6 (by simp)
 have g56:H6.t.get H1.nx=some (rG 72 1 ds 0 false true true):=by rw[k6.get _ (by omega) (by simp)];exact g55
 have k46:=k5.trans k6 (by simp)
 have hw6:=hw3.keep (k4.trans k46 (by simp))
 have eq:=ZBg E (k:=7) (n:=n+299) (sx H6 k46) (sy H6 (Keep.refl _ _))
 have ec:=fun{j}=>ZyD (Zm:=Zm) (fs:=fs) (fuel:=fuel) E (k:=7) (n:=j) (by decide) (gu.keep0 K6) (by omega) hw6
 obtain⟨fs_,H7,e7,hw7,k7⟩:=ZqV E (k:=7) (h+N+1) (by omega) (n+300) (by omega) (by omega) hw6
 have nx7:=k7.nx
 have ro7:=k7.ro
 have K7:=K6.trans k7 (by simp)
 have g57:H7.t.get H1.nx=some (rG 72 1 ds 0 false true true):=by rw[k7.get _ (by omega) (by simp)];exact g56
 obtain⟨H8,e8,k8⟩:=ZtG E (k:=7) (n:=n+240) VH K7 (by omega) hw7.vr ow.2
 have nx8:=k8.nx
 have K8:=K7.trans k8 (by simp)
 have g58:H8.t.get H1.nx=some (rG 72 1 ds 0 false true true):=by rw[k8.get _ (by omega) (by simp)];exact g57
 have eW: ∀m,ZR (LK Zm fs fuel 7) fs fuel (m+1) 35 [] H8= .ret (.bool true) H8:=fun m=>Zcg rfl (hW H8 K8)
 generalize JV.check w=chk at*
 have dc:decide (chk=chk)=true:=Zh rfl
 have lxs: ∀m,H6.nx≤m→YA m x=true:=fun m hm=>lx m (by omega)
 have lys: ∀m,H6.nx≤m→YA m y=true:=fun m hm=>ly m (by omega)
 have lds: ∀m,H6.nx≤m→Zan m ds=true:=fun m hm=>hw6.low hm
 have sds:=Zad hw6.same
 have lfs: ∀m,H7.nx≤m→Zan m fs_=true:=fun m hm=>hw7.vr.low hm
 simp(maxSteps:=4000000) (disch:=first|assumption|omega|(simp -implicitDefEqProofs only[Zu,Zv]<;>first|assumption|omega)|decide) only[a5,g53,ldx,e4,g54,e5,e6,eq,ZW,dc,g56,ec,e7,g57,e8,g58,eW,lxs,lys,lds,sds,lfs,ZL,c5,ZC,N8G,Zr,Zs,Zd,Ze,Zf,Nat.reducePow,Nat.reduceDiv,Nat.reduceMod,Nat.reduceEqDiff,reduceCtorEq,TB0,TB1]
 exact⟨_,rfl⟩
end
end Go.AI
