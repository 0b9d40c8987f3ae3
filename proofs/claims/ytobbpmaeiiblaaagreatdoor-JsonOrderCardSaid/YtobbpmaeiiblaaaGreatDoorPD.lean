/- Values' texts, values compared, what is found at keys, walked: proved without conditions but those that each names. -/
import Derived.Test.YtobbpmaeiiblaaaGreatDoorPC
import Derived.Test.YtobbpmaeiiblaaaGreatDoorPB
import Derived.Test.YtobbpmaeiiblaaaGreatDoorPA
set_option maxRecDepth 1000000
set_option maxHeartbeats 0
set_option linter.unusedVariables false
set_option linter.unusedSimpArgs false
namespace Go.AI
open Go
noncomputable section
theorem ZyG(n:Nat)(h:n<18446744073709551616):(dec n).length≤20:=by rw[Zoi];exact Zoh (by omega) (by omega)
def Zou(Zk:Lib)(fs:T CF)(fuel n h:Nat):Prop:= ∀{v:JV} {cs:List AV} {H:Heap},Glob H→H.ro≤H.nx→VR H h v cs→JV.ok h v→JV.tb h v≤800000000→
 ∃H',ZQ (LK Zk fs fuel 4) fs fuel n 68 [.agg cs] H= .ret (.str (JV.text h v)) H'∧Keep H H' []
structure TLI(H0:Heap)(h:Nat)(l:List JV)(lv:AV)(m:Nat)(tm:TM)(H:Heap):Prop where
 i: ∃i v,WX tm=nI .i64 i∧i≤l.length∧m=l.length - i∧gt3 tm=v∧RBuf H v 9 1 (((l.take i).map (JV.text h)).map fun s=>[AV.str s]) H0.nx
 t31:Wz tm=lv
 t32:V0 tm=nI .i64 l.length
 k:Keep H0 H []
 ro:H.ro≤H.nx
theorem ZCS{Zk:Lib}{fs:T CF}{fuel:Nat}(E:Env Zk fs fuel){n h:Nat}(ih:Zou Zk fs fuel n h){H0:Heap}{l:List JV}{lv:AV}{ls:List (List AV)}(g0:Glob H0)(sl:Sl H0 6 lv ls)(e:ls.length=l.length)(hl:l.length≤9000)(hv: ∀i,i<l.length→VR H0 h (l.getD i default) (ls.getD i []))(ho: ∀x∈l,JV.ok h x)(hb: ∀x∈l,JV.tb h x≤800000000)(y f d r)(x:X)(m:Nat)(tm:TM)(H:Heap)(hI:TLI H0 h l lv m tm H):
  ∃o tm' H',Zls ⟨ZQ (LK Zk fs fuel 4) fs fuel n,y,f,d,r⟩ tm H x= .ok o tm' H' x∧((o= .normal∧ ∃q,q<m∧TLI H0 h l lv q tm' H')∨(o≠ .normal∧(o= .exit 1∧ ∃v,gt3 tm'=v∧RBuf H' v 9 1 ((l.map (JV.text h)).map fun s=>[AV.str s]) H0.nx∧Keep H0 H' []∧H'.ro≤H'.nx))):=by
 obtain⟨⟨i,v,t33,hi,rfl,t3,rb⟩,t31,t32,k0,hro⟩:=hI
 have t3':=t3;have t31':=t31;have t32':=t32
 simp only[Zn1] at t3
 simp only[Zxt] at t31
 simp only[ZBi] at t32
 simp only[ZBj] at t33
 by_cases hlt:i<l.length
 ·have d1:decide (i<l.length)=true:=Zh hlt
  obtain⟨b',o',r',eI,hb',gb,eL,_⟩:=(sl.keep0 k0).at_ (i:=i) (by omega)
  have hmem:l.getD i default∈l:=by rw[Zi,Zp hlt];exact List.getElem_mem hlt
  have hvi:=hv i hlt
  have hx:=hvi.len
  have hoi:=ho _ hmem
  have hbi:=hb _ hmem
  have ets:=Zcy hlt (default:JV)
  generalize l.getD i default=xv at*
  generalize ls.getD i []=xs at*
  obtain⟨HA,hA⟩: ∃G,H.new (rG 72 1 xs 0 false true true)=G:=⟨_,rfl⟩
  have nxA:HA.nx=H.nx+1:=by rw[←hA];rfl
  have hB:=Yx (n:=6) (l:=[nI .i64 0, .bool false,nI .i64 0, .str [], .nils, .nils]) (vs:=xs) (by rfl) hx (by omega) (show(H.new (rG 72 1 [nI .i64 0, .bool false,nI .i64 0, .str [], .nils, .nils] 0 false true true)).ro≤H.nx from hro) 72 1 false true
  rw[Wy rfl,hA] at hB
  have gA:HA.t.get H.nx=some (rG 72 1 xs 0 false true true):=by rw[←hA,ZA rfl]
  have ldx: ∀G:Heap,ldN 6 (some (rG 72 1 xs 0 false true true)) 0 G= .val (.agg xs) G:=fun G=>by rw[Yu (by omega)];congr 2;rw[ZK,Zv (by omega)]
  have kA:Keep H0 HA []:=by rw[←hA];exact k0.then_new _
  obtain⟨HC,eC,kC⟩:=ih (g0.keep kA (by simp)) (by rw[←hA];show H.ro≤H.nx+1;omega) (hvi.keep kA) hoi hbi
  have rC:RBuf HC v 9 1 _ H0.nx:=rb.below (fun c h1 h2=>by rw[kC.get c (by omega) (by simp),←hA,ZH (by omega)]) (by rw[kC.ro,←hA];rfl) (by have:=kC.nx;omega)
  have roC:HC.ro≤HC.nx:=by rw[kC.ro,←hA];show H.ro≤_;have:=kC.nx;omega
  obtain⟨v',H',ea,r2,w⟩:=ZeH rC (bytes:=16) (by omega) (by omega) (by rw[Zy,Zy,List.length_take];omega) roC (by have:=kC.nx;have:=k0.nx;omega) (x:=[.str (JV.text h xv)]) rfl
  rw[Wk] at ea
  have k2:=Below.keep (kA.trans kC (by simp)) w (Zl _)
  have r3:RBuf H' v' 9 1 (((l.take (i+1)).map (JV.text h)).map fun s=>[AV.str s]) H0.nx:=by rw[ets,List.map_append,List.map_append];exact r2
  simp(maxSteps:=4000000) (disch:=first|assumption|omega|(simp -implicitDefEqProofs only[Zt,Zu]<;>first|assumption|omega)|decide) only[t3,t31,t32,t33,d1,eI,gb,eL,hB,gA,nxA,ldx,eC,ea,ZbY,Wk,ZU,Yt,Zls,ZG,N8G,Zr,Zs,Zd,Ze,Zf,Nat.reduceEqDiff,reduceCtorEq,TB0,TB1]
  refine⟨_,_,_,rfl,?_⟩
  exact .inl ⟨rfl,l.length - (i+1),by omega,⟨⟨i+1,v',(by simp only[TB1,N8G]),by omega,rfl,(by simp only[TB0,N8G]),r3⟩,(by simp only[TB0,N8G];exact t31'),(by simp only[TB1,N8G];exact t32'),k2,by rw[w.ro];have:=w.nx;omega⟩⟩
 ·have d1:decide (i<l.length)=false:=Zc hlt
  rw[Zv (by omega)] at rb
  simp(maxSteps:=4000000) (disch:=first|assumption|omega|(simp -implicitDefEqProofs only[Zt,Zu]<;>first|assumption|omega)|decide) only[t32,t33,d1,ZU,Zls,ZG,N8G,Zr,Zs,Zd,Ze,Zf,Nat.reduceEqDiff,reduceCtorEq,TB0,TB1]
  refine⟨_,_,_,rfl,?_⟩
  exact .inr ⟨by simp,rfl,v,(by simp only[TB0,N8G];exact t3'),rb,k0,hro⟩
def ZlB(h:Nat)(e:List UInt8×JV):List UInt8:=quo e.1++[58]++JV.text h e.2
structure TMI(H0 HB:Heap)(h b:Nat)(M:List (List UInt8×JV))(m:Nat)(tm:TM)(H:Heap):Prop where
 i: ∃i v,Qm tm=nI .i64 i∧i≤M.length∧m=M.length - i∧gt3 tm=v∧RBuf H v 9 1 (((M.take i).map (ZlB h)).map fun s=>[AV.str s]) HB.nx
 t51:M≠[]→Uk tm= .slice b 0 M.length none
 t52:W9 tm=nI .i64 M.length
 k:Keep HB H []
 ro:H.ro≤H.nx
theorem ZCT{Zk:Lib}{fs:T CF}{fuel:Nat}(E:Env Zk fs fuel){n h b:Nat}(ih:Zou Zk fs fuel (n+1) h){H0 HB:Heap}{M:List (List UInt8×JV)}(g0:Glob H0)(kB:Keep H0 HB [])(sr:M≠[]→SRow H0 h b M HB)(hl:M.length≤9000)(ho: ∀x∈M,JV.ok h x.2)(hb: ∀x∈M,JV.tb h x.2≤800000000)(y f d r)(x:X)(m:Nat)(tm:TM)(H:Heap)(hI:TMI H0 HB h b M m tm H):
  ∃o tm' H',Zlt ⟨ZQ (LK Zk fs fuel 4) fs fuel (n+1),y,f,d,r⟩ tm H x= .ok o tm' H' x∧((o= .normal∧ ∃q,q<m∧TMI H0 HB h b M q tm' H')∨(o≠ .normal∧(o= .exit 3∧ ∃v,gt3 tm'=v∧RBuf H' v 9 1 ((M.map (ZlB h)).map fun s=>[AV.str s]) HB.nx∧Keep HB H' []∧H'.ro≤H'.nx))):=by
 obtain⟨⟨i,v,t53,hi,rfl,t3,rb⟩,t51,t52,k0,hro⟩:=hI
 have t3':=t3;have t51':=t51;have t52':=t52
 simp only[Zn1] at t3
 simp only[ZD2] at t52
 simp only[ZD3] at t53
 by_cases hlt:i<M.length
 ·have d1:decide (i<M.length)=true:=Zh hlt
  have hne:M≠[]:=by rintro rfl;cases hlt
  have t51:=t51 hne
  simp only[ZD1] at t51
  obtain⟨r',gb,hb',_,hat⟩:=((sr hne).keep k0).at_
  obtain⟨tt,htl,hvi,hk9,eL⟩:=hat i hlt
  have hmem:M.getD i default∈M:=by rw[Zi,Zp hlt];exact List.getElem_mem hlt
  have hoi:=ho _ hmem
  have hbi:=hb _ hmem
  have ets:=Zcy hlt (default:List UInt8×JV)
  generalize M.getD i default=e at*
  obtain⟨key,ev⟩:=e
  have ix:=fun(G:Heap)=>Zbm (sz:=7) hlt b 0 none .i64 G
  rw[Zo] at ix
  have kH:=kB.trans k0 (by simp)
  obtain⟨HA,hA⟩: ∃G,H.new (rG 100 1 (.str key::tt) 0 false true true)=G:=⟨_,rfl⟩
  have nxA:HA.nx=H.nx+1:=by rw[←hA];rfl
  have roA:HA.ro≤HA.nx:=by rw[←hA];show H.ro≤H.nx+1;omega
  have hB:=Yx (n:=7) (l:=[.str [],nI .i64 0, .bool false,nI .i64 0, .str [], .nils, .nils]) (vs:= .str key::tt) (by rfl) (by rw[Zn,htl]) (by omega) (show(H.new (rG 100 1 [.str [],nI .i64 0, .bool false,nI .i64 0, .str [], .nils, .nils] 0 false true true)).ro≤H.nx from hro) 100 1 false true
  rw[Wy rfl,hA] at hB
  have gA:HA.t.get H.nx=some (rG 100 1 (.str key::tt) 0 false true true):=by rw[←hA,ZA rfl]
  have ldt: ∀(G:Heap),ldN 6 (some (rG 100 1 (.str key::tt) 0 false true true)) 1 G= .val (.agg tt) G:=fun G=>by
   rw[Yu (by rw[Zn,htl];omega)]
   congr 2
   rw[List.drop_succ_cons,ZK,Zv (by omega)]
  have ld0: ∀(G:Heap),ld1 (some (rG 100 1 (.str key::tt) 0 false true true)) 0 G= .val (.str key) G:=fun G=>by
   rw[ZT (by rw[Zn];omega)];rfl
  have kA:Keep HB HA []:=by rw[←hA];exact k0.then_new _
  have kA0:=kB.trans kA (by simp)
  have eq_:=fun{j}=>Zyv (Zk:=Zk) (fs:=fs) (fuel:=fuel) E (k:=4) (n:=j) (by decide) (s:=key) (H:=HA) hk9 roA
  obtain⟨HC,eC,kC⟩:=ih (g0.keep kA0 (by simp)) roA (hvi.keep kA0) hoi hbi
  have rC:RBuf HC v 9 1 _ HB.nx:=rb.below (fun c h1 h2=>by rw[kC.get c (by omega) (by simp),←hA,ZH (by omega)]) (by rw[kC.ro,←hA];rfl) (by have:=kC.nx;omega)
  have roC:HC.ro≤HC.nx:=by rw[kC.ro];have:=kC.nx;omega
  obtain⟨v',H',ea,r2,w⟩:=ZeH rC (bytes:=16) (by omega) (by omega) (by rw[Zy,Zy,List.length_take];omega) roC (by have:=kC.nx;have:=k0.nx;omega) (x:=[.str (quo key++[58]++JV.text h ev)]) rfl
  rw[Wk] at ea
  have k2:=Below.keep (kA.trans kC (by simp)) w (Zl _)
  have r3:RBuf H' v' 9 1 (((M.take (i+1)).map (ZlB h)).map fun s=>[AV.str s]) HB.nx:=by rw[ets,List.map_append,List.map_append];exact r2
  have hk9:key.length≤9000:=hk9
  have q1:=(Zoo key).1
  have q2:(JV.text h ev).length≤800000000:=Nat.le_trans (JV.text_len ZyG h ev hoi) hbi
  have q3:(quo key++[58]).length≤60000:=by rw[Zx,Zn,ZE];omega
  have q4:(quo key).length+([58]:List UInt8).length≤60000:=by rw[Zn,ZE];omega
  have lt1:=hvi.low (n:=H.nx+1) (by have:=kA0.nx;omega)
  have lt2:=Zaz hvi.same
  have lv1:=rb.low (n:=H.nx+1) (by omega)
  have lv2:=rC.low (n:=HC.nx) (Zl _)
  have lA: ∀o,Yn (H.nx+1) (.ptr H.nx o)=true:=fun o=>ZO (by omega) o
  have lv3:Yn H'.nx v'=true:=r3.low (Zl _)
  have ls3:Yn (HC.nx+1) (.slice HC.nx 0 1 none)=true:=YD (by omega) _ _ _
  have lv4:Yn (HC.nx+1) v=true:=rC.low (by omega)
  simp(maxSteps:=4000000) (disch:=first|assumption|omega|(simp -implicitDefEqProofs only[Zt,Zu]<;>first|assumption|omega)|decide) only[t3,t51,t52,t53,d1,ix,gb,eL,hB,gA,nxA,ldt,ld0,eq_,eC,ea,lt1,lt2,lv1,lv2,lv3,lv4,ls3,lA,ZbY,Wk,ZU,Yt,ZbC,Nat.add_zero,Zo,Zlg,Zlt,ZG,N8G,Zr,Zs,Zd,Ze,Zf,Nat.reducePow,Nat.reduceDiv,Nat.reduceMod,Nat.reduceEqDiff,reduceCtorEq,TB0,TB1,TB2]
  refine⟨_,_,_,rfl,?_⟩
  exact .inl ⟨rfl,M.length - (i+1),by omega,⟨⟨i+1,v',(by simp only[TB1,N8G]),by omega,rfl,(by simp only[TB0,N8G]),r3⟩,fun hh=>(by simp only[TB1,N8G];exact t51' hh),(by simp only[TB1,N8G];exact t52'),k2,by rw[w.ro];have:=w.nx;omega⟩⟩
 ·have d1:decide (i<M.length)=false:=Zc hlt
  rw[Zv (by omega)] at rb
  simp(maxSteps:=4000000) (disch:=first|assumption|omega|(simp -implicitDefEqProofs only[Zt,Zu]<;>first|assumption|omega)|decide) only[t52,t53,d1,ZU,Zlt,ZG,N8G,Zr,Zs,Zd,Ze,Zf,Nat.reducePow,Nat.reduceDiv,Nat.reduceMod,Nat.reduceEqDiff,reduceCtorEq,TB0,TB1,TB2]
  refine⟨_,_,_,rfl,?_⟩
  exact .inr ⟨by simp,rfl,v,(by simp only[TB0,N8G];exact t3'),rb,k0,hro⟩
end
end Go.AI
namespace Go.AI
open Go
noncomputable section
theorem Zvb{Zk:Lib}{fs:T CF}{fuel:Nat}(E:Env Zk fs fuel){n:Nat}{b:Bool}{H:Heap}:
  ∃H',ZQ (LK Zk fs fuel 0) fs fuel (n+2) 155 [.bool b] H= .ret (.str (if b=true then [116,114,117,101] else [102,97,108,115,101])) H'∧Keep H H' []:=by
 rw[ZV (ZL E.n155 (.inl (by decide)) _ _) E.f155]
 cases b with
 |true=>
  simp(maxSteps:=4000000) (disch:=first|assumption|omega|(simp -implicitDefEqProofs only[Zt,Zu]<;>first|assumption|omega)|decide) only[if_true,Zx3,ZG,N8G,Zr,Zs,Zd,Ze,Zf,Nat.reduceEqDiff,reduceCtorEq,TB0]
  refine⟨_,rfl,?_⟩
  exact Keep.refl _ _
 |false=>
  simp(maxSteps:=4000000) (disch:=first|assumption|omega|(simp -implicitDefEqProofs only[Zt,Zu]<;>first|assumption|omega)|decide) only[Bool.false_eq_true,if_false,Zx3,ZG,N8G,Zr,Zs,Zd,Ze,Zf,Nat.reduceEqDiff,reduceCtorEq,TB0]
  refine⟨_,rfl,?_⟩
  exact Keep.refl _ _
theorem ZEy{Zk:Lib}{fs:T CF}{fuel:Nat}(E:Env Zk fs fuel){k n:Nat}(hk:1≤k){b:Bool}{H:Heap}:
  ZQ (LK Zk fs fuel k) fs fuel (n+1) 155 [.bool b] H= .ret (.str (if b=true then [116,114,117,101] else [102,97,108,115,101])) H:=by
 obtain⟨H',e,g⟩:=Zvb E (n:=898) (H:=H)
 exact YI (r:=0) rfl rfl e g (rfl) hk
theorem ZyH{Zk:Lib}{fs:T CF}{fuel:Nat}(E:Env Zk fs fuel){n:Nat}{b:Bool}{H:Heap}:
  ∃H',ZQ (LK Zk fs fuel 1) fs fuel (n+3) 112 [.bool b] H= .ret (.str (if b=true then [116,114,117,101] else [102,97,108,115,101])) H'∧Keep H H' []:=by
 rw[ZV (ZL E.n112 (.inl (by decide)) _ _) E.f112]
 have e:=fun{j}=>ZEy (Zk:=Zk) (fs:=fs) (fuel:=fuel) E (k:=1) (n:=j) (by decide) (b:=b) (H:=H)
 simp(maxSteps:=4000000) (disch:=first|assumption|omega|(simp -implicitDefEqProofs only[Zt,Zu]<;>first|assumption|omega)|decide) only[e,ZAq,ZG,N8G,Zr,Zs,Zd,Ze,Zf,Nat.reduceEqDiff,reduceCtorEq,TB0]
 refine⟨_,rfl,?_⟩
 exact Keep.refl _ _
theorem ZF5{Zk:Lib}{fs:T CF}{fuel:Nat}(E:Env Zk fs fuel){k n:Nat}(hk:2≤k){b:Bool}{H:Heap}:
  ZQ (LK Zk fs fuel k) fs fuel (n+1) 112 [.bool b] H= .ret (.str (if b=true then [116,114,117,101] else [102,97,108,115,101])) H:=by
 obtain⟨H',e,g⟩:=ZyH E (n:=897) (H:=H)
 exact YI (r:=1) rfl rfl e g (rfl) hk
theorem ZyI{Zk:Lib}{fs:T CF}{fuel:Nat}(E:Env Zk fs fuel)(M:MNZ Zk): ∀(h:Nat),h≤100→ ∀{n:Nat},h+20≤n→Zou Zk fs fuel n h:=by
 intro h
 induction h with
 |zero=>intro _ n _ v cs H _ _ hv;exact hv.elim
 |succ h ih=>
 intro hh n hn v cs H g hro hv hok htb
 obtain⟨n,rfl⟩: ∃q,n=q+10:=⟨n - 10,by omega⟩
 have hlen:=JV.text_len ZyG (h+1) v hok
 obtain⟨kk,b,z,s,l,m⟩:=v
 obtain⟨lv,mv,ls,ms,rfl,hz1,hz2,hs9,hl9,hm9,sl,sm,e1,e2,hl,hm⟩:=hv
 obtain⟨_,hm12,hol,hom⟩:=hok
 rw[ZV (ZL E.n68 (.inl (by decide)) _ _) E.f68]
 obtain⟨H1,hH1⟩: ∃G,H.new (rG 72 1 [nI .i64 kk, .bool b, .int .i64 z, .str s,lv,mv] 0 false true true)=G:=⟨_,rfl⟩
 have nx1:H1.nx=H.nx+1:=by rw[←hH1];rfl
 have ro1:H1.ro≤H1.nx:=by rw[←hH1];show H.ro≤H.nx+1;omega
 have g1:H1.t.get H.nx=some (rG 72 1 [nI .i64 kk, .bool b, .int .i64 z, .str s,lv,mv] 0 false true true):=by rw[←hH1,ZA rfl]
 have k1:Keep H H1 []:=by rw[←hH1];exact Keep.new H _ _
 have tbl: ∀x∈l,JV.tb h x≤800000000:=fun x hx=>by
  have a:1+JV.tb h x≤(l.map fun x=>1+JV.tb h x).sum:=JV.mem_sum (fun x=>1+JV.tb h x) hx
  have b:50+6*s.length+(l.map fun x=>1+JV.tb h x).sum+(m.map fun e=>6*e.1.length+4+JV.tb h e.2).sum≤800000000:=htb
  omega
 have tbm: ∀e∈m,JV.tb h e.2≤800000000:=fun x hx=>by
  have a:6*x.1.length+4+JV.tb h x.2≤(m.map fun e=>6*e.1.length+4+JV.tb h e.2).sum:=JV.mem_sum (fun e:List UInt8×JV=>6*e.1.length+4+JV.tb h e.2) hx
  have b:50+6*s.length+(l.map fun x=>1+JV.tb h x).sum+(m.map fun e=>6*e.1.length+4+JV.tb h e.2).sum≤800000000:=htb
  omega
 have hte:JV.text (h+1) (.mk kk b z s l m)=(if kk=1 then [110,117,108,108] else if kk=2 then(if b=true then [116,114,117,101] else [102,97,108,115,101]) else if kk=3 then ZiH z else if kk=4 then quo s else if kk=5 then [91]++W0 (l.map (JV.text h))++[93] else [123]++W0 ((YG ltE m).map (ZlB h))++[125]):=rfl
 rw[hte] at hlen ⊢
 by_cases k1':kk=1
 ·have d1:decide (kk=1)=true:=Zh k1'
  rw[if_pos k1']
  simp(maxSteps:=4000000) (disch:=first|assumption|omega|(simp -implicitDefEqProofs only[Zt,Zu]<;>first|assumption|omega)|decide) only[nx1,g1,hH1,ZW,ZT,d1,c68,ZG,N8G,Zr,Zs,Zd,Ze,Zf,Nat.reduceEqDiff,reduceCtorEq,TB0,TB1,TB2]
  refine⟨_,rfl,?_⟩
  exact k1
 have d1:decide (kk=1)=false:=Zc k1'
 rw[if_neg k1'] at hlen ⊢
 by_cases k2':kk=2
 ·have d2:decide (kk=2)=true:=Zh k2'
  have e:=fun{j}=>ZF5 (Zk:=Zk) (fs:=fs) (fuel:=fuel) E (k:=4) (n:=j) (by decide) (b:=b) (H:=H1)
  rw[if_pos k2']
  generalize(if b=true then [116,114,117,101] else [102,97,108,115,101])=bt at e ⊢
  simp(maxSteps:=4000000) (disch:=first|assumption|omega|(simp -implicitDefEqProofs only[Zt,Zu]<;>first|assumption|omega)|decide) only[nx1,g1,hH1,ZW,ZT,d1,d2,e,c68,ZG,N8G,Zr,Zs,Zd,Ze,Zf,Nat.reduceEqDiff,reduceCtorEq,TB0,TB1,TB2]
  refine⟨_,rfl,?_⟩
  exact k1
 have d2:decide (kk=2)=false:=Zc k2'
 rw[if_neg k2'] at hlen ⊢
 by_cases k3':kk=3
 ·have d3:decide (kk=3)=true:=Zh k3'
  have e:=fun{j}=>Zyc (Zk:=Zk) (fs:=fs) (fuel:=fuel) E (k:=4) (n:=j) (by decide) (z:=z) (H:=H1) (g.keep k1 (by simp)) ro1 hz1 hz2
  rw[if_pos k3']
  simp(maxSteps:=4000000) (disch:=first|assumption|omega|(simp -implicitDefEqProofs only[Zt,Zu]<;>first|assumption|omega)|decide) only[nx1,g1,hH1,ZW,ZT,d1,d2,d3,e,c68,ZG,N8G,Zr,Zs,Zd,Ze,Zf,Nat.reduceEqDiff,reduceCtorEq,TB0,TB1,TB2]
  refine⟨_,rfl,?_⟩
  exact k1
 have d3:decide (kk=3)=false:=Zc k3'
 rw[if_neg k3'] at hlen ⊢
 by_cases k4':kk=4
 ·have d4:decide (kk=4)=true:=Zh k4'
  have e:=fun{j}=>Zyv (Zk:=Zk) (fs:=fs) (fuel:=fuel) E (k:=4) (n:=j) (by decide) (s:=s) (H:=H1) hs9 ro1
  rw[if_pos k4']
  simp(maxSteps:=4000000) (disch:=first|assumption|omega|(simp -implicitDefEqProofs only[Zt,Zu]<;>first|assumption|omega)|decide) only[nx1,g1,hH1,ZW,ZT,d1,d2,d3,d4,e,c68,ZG,N8G,Zr,Zs,Zd,Ze,Zf,Nat.reduceEqDiff,reduceCtorEq,TB0,TB1,TB2]
  refine⟨_,rfl,?_⟩
  exact k1
 have d4:decide (kk=4)=false:=Zc k4'
 rw[if_neg k4'] at hlen ⊢
 have ihn:Zou Zk fs fuel (n+9) h:=ih (by omega) (by omega)
 by_cases k5':kk=5
 ·have d5:decide (kk=5)=true:=Zh k5'
  have el:=sl.len
  rw[e1] at el
  rw[if_pos k5'] at hlen ⊢
  simp(maxSteps:=4000000) (disch:=first|assumption|omega|(simp -implicitDefEqProofs only[Zt,Zu]<;>first|assumption|omega)|decide) only[nx1,g1,hH1,ZW,ZT,d1,d2,d3,d4,d5,el,c68,ZG,N8G,Zr,Zs,Zd,Ze,Zf,Nat.reduceEqDiff,reduceCtorEq,TB0,TB1,TB2]
  generalize hL:WC (Zls _) fuel _ _ _=L
  obtain⟨o,tm1,H2,rfl,_,rfl,v,t3,rb,k2,ro2⟩:=YS (P:=fun T=>TLI H1 h l lv l.length T H1) (Q:=fun o tm' H'=>o= .exit 1∧ ∃v,gt3 tm'=v∧RBuf H' v 9 1 ((l.map (JV.text h)).map fun s=>[AV.str s]) H1.nx∧Keep H1 H' []∧H'.ro≤H'.nx)
   (fun T hi'=>YV (TLI H1 h l lv) _ (fun q tm H' h'=>ZCS E ihn (g.keep k1 (by simp)) (sl.keep0 k1) e1 hl9 (fun i hi=>(hl i hi).keep k1) hol tbl _ _ _ _ _ q tm H' h') fuel l.length T H1 (by have:=E.big;omega) hi') hL
   ⟨⟨0, .nils,rfl,Nat.zero_le _,rfl,rfl, .inl ⟨rfl,rfl⟩⟩,rfl,rfl,Keep.refl _ _,ro1⟩
  simp only[Zn1] at t3
  have hj:(W0 (l.map (JV.text h))).length≤800000000:=by
   simp only[Zx,Zn,ZE] at hlen;omega
  have ej:=fun{j}=>ZEp (Zk:=Zk) (fs:=fs) (fuel:=fuel) E (k:=4) (n:=j) (by decide) M rb (by rw[Zy];exact hl9) (by omega) ro2
  generalize W0 (l.map (JV.text h))=J at ej hj ⊢
  have q1:([91]:List UInt8).length+J.length≤900000000:=by rw[Zn,ZE];omega
  have q2:([91]++J).length+([93]:List UInt8).length≤900000010:=by simp only[Zx,Zn,ZE];omega
  simp(maxSteps:=4000000) (disch:=first|assumption|omega|(simp -implicitDefEqProofs only[Zt,Zu]<;>first|assumption|omega)|decide) only[t3,ej,ZbC,c68,ZG,N8G,Zr,Zs,Zd,Ze,Zf,Nat.reduceEqDiff,reduceCtorEq,TB0,TB1,TB2]
  refine⟨_,rfl,?_⟩
  exact k1.trans k2 (by simp)
 have d5:decide (kk=5)=false:=Zc k5'
 rw[if_neg k5'] at hlen ⊢
 obtain⟨H2,hH2⟩: ∃G,H1.new (rG 70 1 [mv] 0 false true true)=G:=⟨_,rfl⟩
 have k2:Keep H1 H2 []:=by rw[←hH2];exact Keep.new H1 _ _
 have k02:=k1.trans k2 (by simp)
 have nx2:H2.nx=H1.nx+1:=by rw[←hH2];rfl
 have ro2:H2.ro≤H2.nx:=by rw[←hH2];show H1.ro≤H1.nx+1;omega
 have eva:=fun{j}=>ZCR (Zk:=Zk) (fs:=fs) (fuel:=fuel) E (k:=4) (n:=j) (src:=mv) (H:=H1) sm.cells
 rw[hH2] at eva
 have hf:Zot Zk fs fuel 4 117:=fun{a b t u H j} ht hu=>ZF2 E (k:=4) (n:=j) (by decide) ht hu
 obtain⟨sv,H3,es,k3,srt⟩:=ZAU E (k:=4) (n0:=n+4) (by decide) hf (H:=H2) (h:=h) (vb:=H1.nx) (M:=m) (sm.keep0 k02) (by rw[←hH2,ZA rfl]) (by omega) ro2 hm12 e2 (fun i hi=>by
  obtain⟨a1,t,a2,a3⟩:=hm i hi
  exact⟨a1,t,a2,a3.keep k02⟩)
 rw[nx1] at es
 have ro3:H3.ro≤H3.nx:=by rw[k3.ro];have:=k3.nx;omega
 have hml:(YG ltE m).length=m.length:=Zbn ltE m
 obtain⟨els,b2,hsl,hsr⟩:(∀G,Za2 sv G= .val (nI .i64 m.length) G)∧ ∃b2,(YG ltE m≠[]→sv= .slice b2 0 (YG ltE m).length none)∧(YG ltE m≠[]→SRow H2 h b2 (YG ltE m) H3):=by
  rcases srt with⟨rfl,rfl⟩|⟨_,b2,rfl,_,sr⟩
  ·exact⟨fun G=>ZbA G,0,fun hne=>absurd rfl hne,fun hne=>absurd rfl hne⟩
  ·exact⟨fun G=>Vb ..,b2,fun _=>by rw[hml],fun _=>sr⟩
 simp(maxSteps:=4000000) (disch:=first|assumption|omega|(simp -implicitDefEqProofs only[Zt,Zu]<;>first|assumption|omega)|decide) only[nx1,g1,hH1,ZW,ZT,d1,d2,d3,d4,d5,eva,es,els,c68,ZG,N8G,Zr,Zs,Zd,Ze,Zf,Nat.reduceEqDiff,reduceCtorEq,TB0,TB1,TB2]
 generalize hL:WC (Zlt _) fuel _ _ _=L
 obtain⟨o,tm1,H4,rfl,_,rfl,v,t3,rb,k4,ro4⟩:=YS (P:=fun T=>TMI H2 H3 h b2 (YG ltE m) (YG ltE m).length T H3) (Q:=fun o tm' H'=>o= .exit 3∧ ∃v,gt3 tm'=v∧RBuf H' v 9 1 (((YG ltE m).map (ZlB h)).map fun s=>[AV.str s]) H3.nx∧Keep H3 H' []∧H'.ro≤H'.nx)
  (fun T hi'=>YV (TMI H2 H3 h b2 (YG ltE m)) _ (fun q tm H' h'=>ZCT E (n:=n+8) ihn (g.keep k02 (by simp)) k3 hsr (by omega) (fun x hx=>hom x (Zcz ltE x hx)) (fun x hx=>tbm x (Zcz ltE x hx)) _ _ _ _ _ q tm H' h') fuel (YG ltE m).length T H3 (by have:=E.big;omega) hi') hL
  ⟨⟨0, .nils,rfl,Nat.zero_le _,rfl,rfl, .inl ⟨rfl,rfl⟩⟩,fun hne=>hsl hne,by rw[hml];rfl,Keep.refl _ _,ro3⟩
 simp only[Zn1] at t3
 have hj:(W0 ((YG ltE m).map (ZlB h))).length≤800000000:=by
  simp only[Zx,Zn,ZE] at hlen;omega
 have ej:=fun{j}=>ZEp (Zk:=Zk) (fs:=fs) (fuel:=fuel) E (k:=4) (n:=j) (by decide) M rb (by rw[Zy,hml];omega) (by omega) ro4
 generalize W0 ((YG ltE m).map (ZlB h))=J at ej hj ⊢
 have q1:([123]:List UInt8).length+J.length≤900000000:=by rw[Zn,ZE];omega
 have q2:([123]++J).length+([125]:List UInt8).length≤900000010:=by simp only[Zx,Zn,ZE];omega
 simp(maxSteps:=4000000) (disch:=first|assumption|omega|(simp -implicitDefEqProofs only[Zt,Zu]<;>first|assumption|omega)|decide) only[t3,ej,ZbC,c68,ZG,N8G,Zr,Zs,Zd,Ze,Zf,Nat.reduceEqDiff,reduceCtorEq,TB0,TB1,TB2]
 refine⟨_,rfl,?_⟩
 exact(k02.trans k3 (by simp)).trans k4 (by simp)
end
end Go.AI
namespace Go.AI
open Go
noncomputable section
theorem ZEz{Zk:Lib}{fs:T CF}{fuel:Nat}(E:Env Zk fs fuel)(M:MNZ Zk){k n h:Nat}(hk:5≤k)(hh:h≤100){v:JV}{cs:List AV}{H:Heap}(g:Glob H)(hro:H.ro≤H.nx)(hv:VR H h v cs)(hok:JV.ok h v)(htb:JV.tb h v≤800000000):
  ZQ (LK Zk fs fuel k) fs fuel (n+1) 68 [.agg cs] H= .ret (.str (JV.text h v)) H:=by
 obtain⟨H',e,g⟩:=ZyI E M h hh (n:=900) (by omega) g hro hv hok htb
 exact YI (r:=4) rfl rfl e g rfl hk
theorem ZCU{Zk:Lib}{fs:T CF}{fuel:Nat}(E:Env Zk fs fuel)(M:MNZ Zk){k n h:Nat}(hk:5≤k)(hh:h≤100){v:JV}{cs:List AV}{H:Heap}(g:Glob H)(gu:GlobU H)(hro:H.ro≤H.nx)(hv:VR H h v cs)(hok:JV.ok h v)(htb:JV.tb h v≤800000000)(hne:JV.text h v≠[]):
  ZQ (LK Zk fs fuel k) fs fuel (n+2) 29 [.agg cs] H=if JV.check v=0 then .ret (.tup [.slice (H.nx+1) 0 (JV.text h v).length none,nI .i64 0]) ((H.new (rG 72 1 cs 0 false true true)).new (rG 5 1 ((JV.text h v).map u8V) 0 true true false))
   else .ret (.tup [.nils,nI .i64 (JV.check v)]) (H.new (rG 72 1 cs 0 false true true)):=by
 have hlen:=hv.len
 have htl:=JV.text_len ZyG h v hok
 rw[ZV (ZL E.n29 (.inr rfl) _ _) E.f29]
 obtain⟨H1,hH1⟩: ∃G,Heap.new H (rG 72 1 cs 0 false true true)=G:=⟨_,rfl⟩
 have nx1:H1.nx=H.nx+1:=by rw[←hH1];rfl
 have ro1:H1.ro≤H1.nx:=by rw[←hH1];show H.ro≤H.nx+1;omega
 have g1:H1.t.get H.nx=some (rG 72 1 cs 0 false true true):=by rw[←hH1,ZA rfl]
 have k1:Keep H H1 []:=by rw[←hH1];exact Keep.new H _ _
 have ldx: ∀(G':Heap),ldN 6 (some (rG 72 1 cs 0 false true true)) 0 G'= .val (.agg cs) G':=fun G'=>by
  rw[Yu (by omega)];congr 2;rw[ZK,Zv (by omega)]
 have bx:=WK (l:=cs) (by omega) 72 H
 rw[hH1] at bx
 have ec:=fun{j}=>ZyA (Zk:=Zk) (fs:=fs) (fuel:=fuel) E (k:=k) (n:=j) (by omega) (gu.keep0 k1) ro1 (hv.keep k1)
 have et:=fun{j}=>ZEz (Zk:=Zk) (fs:=fs) (fuel:=fuel) E M (k:=k) (n:=j) hk hh (g.keep k1 (by simp)) ro1 (hv.keep k1) hok htb
 generalize JV.text h v=T at*
 have hT:T.length≤800000000:=by omega
 have hT0:0<T.length:=List.length_pos_iff.2 hne
 by_cases hc:JV.check v=0
 ·rw[if_pos hc]
  rw[hc] at ec
  have d0:(!decide (0=0))=false:=rfl
  have d1:decide (0≠0)=false:=rfl
  simp(maxSteps:=4000000) (disch:=first|assumption|omega|(simp -implicitDefEqProofs only[Zt,Zu]<;>first|assumption|omega)|decide) only[hH1,bx,nx1,g1,ldx,ec,et,d0,d1,ZcS,c29,ZG,N8G,Zr,Zs,Zd,Ze,Zf,Nat.reduceEqDiff,reduceCtorEq,TB0]
 ·rw[if_neg hc]
  have d0:decide (JV.check v≠0)=true:=Zh hc
  have d1:(!decide (JV.check v=0))=true:=by rw[Zc hc];rfl
  generalize JV.check v=cv at*
  simp(maxSteps:=4000000) (disch:=first|assumption|omega|(simp -implicitDefEqProofs only[Zt,Zu]<;>first|assumption|omega)|decide) only[hH1,bx,nx1,g1,ldx,ec,et,d0,d1,ZcS,c29,ZG,N8G,Zr,Zs,Zd,Ze,Zf,Nat.reduceEqDiff,reduceCtorEq,TB0]
end
end Go.AI
namespace Go.AI
open Go
noncomputable section
theorem WP{u t:Nat}(h:Nat.beq u t=false)(zv v:AV)(H:Heap):ZcZ t zv true (.iface u v) H= .val (.tup [zv, .bool false]) H:=by
 show Qk zv true H (cond (Nat.beq u t) (some v) none)=_
 rw[h];rfl
theorem Znc{Zk:Lib}{fs:T CF}{fuel:Nat}{f r k:Nat}{args:List AV}{H H':Heap}{v:AV}(h:V7 f=r+1)(hs:Qg f args H=none)(hr:ZQ (LK Zk fs fuel r) fs fuel 900 f args H= .ret v H')(hv:Yn 0 v=false)(h0: ∀l H,Zk f l H=none)(hk:r+1≤k):
  LK Zk fs fuel k f args H=none:=by
 show Zhq Zk fs fuel V7 Qg k f args H=none
 rw[ZsM h args H k hk]
 show Zhp V7 Qg (ZQ (LK Zk fs fuel r) fs fuel 900) (LK Zk fs fuel r) (r+1) f args H=none
 unfold Zhp
 rw[if_pos h,hs]
 simp only
 rw[if_neg]
 ·exact ZL h0 (.inl (by omega)) args H
 ·rintro ⟨v',H'',e,_,l⟩
  rw[hr] at e;cases e;rw[hv] at l;cases l
theorem Zsa{Zk:Lib}{fs:T CF}{fuel:Nat}(E:Env Zk fs fuel){n:Nat}{H:Heap}(hro:H.ro≤H.nx):
  ∃H',ZQ (LK Zk fs fuel 0) fs fuel (n+2) 43 [.nili] H= .ret (.agg [nI .i64 1, .bool false,nI .i64 0, .str [], .nils, .nils]) H'∧Keep H H' []:=by
 rw[ZV (ZL E.n43 (.inl (by decide)) _ _) E.f43]
 obtain⟨H1,hH1⟩: ∃G,Heap.new H (rG 72 1 [nI .i64 1, .bool false,nI .i64 0, .str [], .nils, .nils] 0 false true true)=G:=⟨_,rfl⟩
 have hro':H.ro≤H.nx:=hro
 have hB:=Yx (n:=6) (l:=[nI .i64 0, .bool false,nI .i64 0, .str [], .nils, .nils]) (vs:=[nI .i64 1, .bool false,nI .i64 0, .str [], .nils, .nils]) (b:=H.nx) (H:=H.new (rG 72 1 [nI .i64 0, .bool false,nI .i64 0, .str [], .nils, .nils] 0 false true true)) (by rfl) (by rfl) (by omega) hro' 72 1 false true
 rw[Wy rfl,hH1] at hB
 have g1:H1.t.get H.nx=some (rG 72 1 [nI .i64 1, .bool false,nI .i64 0, .str [], .nils, .nils] 0 false true true):=by rw[←hH1,ZA rfl]
 have k1:Keep H H1 []:=by rw[←hH1];exact Keep.new H _ _
 have ldx: ∀(G':Heap),ldN 6 (some (rG 72 1 [nI .i64 1, .bool false,nI .i64 0, .str [], .nils, .nils] 0 false true true)) 0 G'= .val (.agg [nI .i64 1, .bool false,nI .i64 0, .str [], .nils, .nils]) G':=fun G'=>by
  rw[Yu (Zl _)];rfl
 simp(maxSteps:=4000000) (disch:=first|assumption|omega|(simp -implicitDefEqProofs only[Zt,Zu]<;>first|assumption|omega)|decide) only[hB,g1,ldx,c43,ZG,N8G,Zr,Zs,Zd,Ze,Zf,Nat.reduceEqDiff,reduceCtorEq,TB0,TB1]
 refine⟨_,rfl,?_⟩
 exact k1
theorem ZCV{Zk:Lib}{fs:T CF}{fuel:Nat}(E:Env Zk fs fuel){k n:Nat}(hk:1≤k){H:Heap}(hro:H.ro≤H.nx):
  ZQ (LK Zk fs fuel k) fs fuel (n+1) 43 [.nili] H= .ret (.agg [nI .i64 1, .bool false,nI .i64 0, .str [], .nils, .nils]) H:=by
 obtain⟨H',e,g⟩:=Zsa E (n:=898) (H:=H) hro
 exact YI (r:=0) rfl rfl e g (rfl) hk
theorem Zsb{Zk:Lib}{fs:T CF}{fuel:Nat}(E:Env Zk fs fuel){n:Nat}{b:Bool}{H:Heap}(hro:H.ro≤H.nx):
  ∃H',ZQ (LK Zk fs fuel 0) fs fuel (n+2) 43 [.iface 4 (.bool b)] H= .ret (.agg [nI .i64 2, .bool b,nI .i64 0, .str [], .nils, .nils]) H'∧Keep H H' []:=by
 rw[ZV (ZL E.n43 (.inl (by decide)) _ _) E.f43]
 obtain⟨H1,hH1⟩: ∃G,Heap.new H (rG 72 1 [nI .i64 2, .bool b,nI .i64 0, .str [], .nils, .nils] 0 false true true)=G:=⟨_,rfl⟩
 have hro':H.ro≤H.nx:=hro
 have hB:=Yx (n:=6) (l:=[nI .i64 0, .bool false,nI .i64 0, .str [], .nils, .nils]) (vs:=[nI .i64 2, .bool b,nI .i64 0, .str [], .nils, .nils]) (b:=H.nx) (H:=H.new (rG 72 1 [nI .i64 0, .bool false,nI .i64 0, .str [], .nils, .nils] 0 false true true)) (by rfl) (by rfl) (by omega) hro' 72 1 false true
 rw[Wy rfl,hH1] at hB
 have g1:H1.t.get H.nx=some (rG 72 1 [nI .i64 2, .bool b,nI .i64 0, .str [], .nils, .nils] 0 false true true):=by rw[←hH1,ZA rfl]
 have k1:Keep H H1 []:=by rw[←hH1];exact Keep.new H _ _
 have ldx: ∀(G':Heap),ldN 6 (some (rG 72 1 [nI .i64 2, .bool b,nI .i64 0, .str [], .nils, .nils] 0 false true true)) 0 G'= .val (.agg [nI .i64 2, .bool b,nI .i64 0, .str [], .nils, .nils]) G':=fun G'=>by
  rw[Yu (Zl _)];rfl
 simp(maxSteps:=4000000) (disch:=first|assumption|omega|(simp -implicitDefEqProofs only[Zt,Zu]<;>first|assumption|omega)|decide) only[hB,g1,ldx,c43,ZG,N8G,Zr,Zs,Zd,Ze,Zf,Nat.reduceEqDiff,reduceCtorEq,TB0,TB1]
 refine⟨_,rfl,?_⟩
 exact k1
theorem ZCW{Zk:Lib}{fs:T CF}{fuel:Nat}(E:Env Zk fs fuel){k n:Nat}(hk:1≤k){b:Bool}{H:Heap}(hro:H.ro≤H.nx):
  ZQ (LK Zk fs fuel k) fs fuel (n+1) 43 [.iface 4 (.bool b)] H= .ret (.agg [nI .i64 2, .bool b,nI .i64 0, .str [], .nils, .nils]) H:=by
 obtain⟨H',e,g⟩:=Zsb E (n:=898) (H:=H) hro
 exact YI (r:=0) rfl rfl e g (rfl) hk
theorem Zvc{Zk:Lib}{fs:T CF}{fuel:Nat}(E:Env Zk fs fuel){n:Nat}{z:Int}{H:Heap}(hro:H.ro≤H.nx):
  ∃H',ZQ (LK Zk fs fuel 0) fs fuel (n+2) 43 [.iface 2 (.int .i64 z)] H= .ret (.agg [nI .i64 3, .bool false, .int .i64 z, .str [], .nils, .nils]) H'∧Keep H H' []:=by
 rw[ZV (ZL E.n43 (.inl (by decide)) _ _) E.f43]
 obtain⟨H1,hH1⟩: ∃G,Heap.new H (rG 72 1 [nI .i64 3, .bool false, .int .i64 z, .str [], .nils, .nils] 0 false true true)=G:=⟨_,rfl⟩
 have hro':H.ro≤H.nx:=hro
 have hB:=Yx (n:=6) (l:=[nI .i64 0, .bool false,nI .i64 0, .str [], .nils, .nils]) (vs:=[nI .i64 3, .bool false, .int .i64 z, .str [], .nils, .nils]) (b:=H.nx) (H:=H.new (rG 72 1 [nI .i64 0, .bool false,nI .i64 0, .str [], .nils, .nils] 0 false true true)) (by rfl) (by rfl) (by omega) hro' 72 1 false true
 rw[Wy rfl,hH1] at hB
 have g1:H1.t.get H.nx=some (rG 72 1 [nI .i64 3, .bool false, .int .i64 z, .str [], .nils, .nils] 0 false true true):=by rw[←hH1,ZA rfl]
 have k1:Keep H H1 []:=by rw[←hH1];exact Keep.new H _ _
 have ldx: ∀(G':Heap),ldN 6 (some (rG 72 1 [nI .i64 3, .bool false, .int .i64 z, .str [], .nils, .nils] 0 false true true)) 0 G'= .val (.agg [nI .i64 3, .bool false, .int .i64 z, .str [], .nils, .nils]) G':=fun G'=>by
  rw[Yu (Zl _)];rfl
 have an4:=fun(zv v:AV) (G:Heap)=>WP (u:=2) (t:=4) rfl zv v G
 simp(maxSteps:=4000000) (disch:=first|assumption|omega|(simp -implicitDefEqProofs only[Zt,Zu]<;>first|assumption|omega)|decide) only[hB,g1,ldx,an4,c43,ZG,N8G,Zr,Zs,Zd,Ze,Zf,Nat.reduceEqDiff,reduceCtorEq,TB0,TB1]
 refine⟨_,rfl,?_⟩
 exact k1
theorem ZEA{Zk:Lib}{fs:T CF}{fuel:Nat}(E:Env Zk fs fuel){k n:Nat}(hk:1≤k){z:Int}{H:Heap}(hro:H.ro≤H.nx):
  ZQ (LK Zk fs fuel k) fs fuel (n+1) 43 [.iface 2 (.int .i64 z)] H= .ret (.agg [nI .i64 3, .bool false, .int .i64 z, .str [], .nils, .nils]) H:=by
 obtain⟨H',e,g⟩:=Zvc E (n:=898) (H:=H) hro
 exact YI (r:=0) rfl rfl e g (rfl) hk
theorem Zvd{Zk:Lib}{fs:T CF}{fuel:Nat}(E:Env Zk fs fuel){n:Nat}{z:Int}{H:Heap}(hro:H.ro≤H.nx):
  ∃H',ZQ (LK Zk fs fuel 0) fs fuel (n+2) 43 [.iface 3 (.int .i64 z)] H= .ret (.agg [nI .i64 3, .bool false, .int .i64 z, .str [], .nils, .nils]) H'∧Keep H H' []:=by
 rw[ZV (ZL E.n43 (.inl (by decide)) _ _) E.f43]
 obtain⟨H1,hH1⟩: ∃G,Heap.new H (rG 72 1 [nI .i64 3, .bool false, .int .i64 z, .str [], .nils, .nils] 0 false true true)=G:=⟨_,rfl⟩
 have hro':H.ro≤H.nx:=hro
 have hB:=Yx (n:=6) (l:=[nI .i64 0, .bool false,nI .i64 0, .str [], .nils, .nils]) (vs:=[nI .i64 3, .bool false, .int .i64 z, .str [], .nils, .nils]) (b:=H.nx) (H:=H.new (rG 72 1 [nI .i64 0, .bool false,nI .i64 0, .str [], .nils, .nils] 0 false true true)) (by rfl) (by rfl) (by omega) hro' 72 1 false true
 rw[Wy rfl,hH1] at hB
 have g1:H1.t.get H.nx=some (rG 72 1 [nI .i64 3, .bool false, .int .i64 z, .str [], .nils, .nils] 0 false true true):=by rw[←hH1,ZA rfl]
 have k1:Keep H H1 []:=by rw[←hH1];exact Keep.new H _ _
 have ldx: ∀(G':Heap),ldN 6 (some (rG 72 1 [nI .i64 3, .bool false, .int .i64 z, .str [], .nils, .nils] 0 false true true)) 0 G'= .val (.agg [nI .i64 3, .bool false, .int .i64 z, .str [], .nils, .nils]) G':=fun G'=>by
  rw[Yu (Zl _)];rfl
 have an4:=fun(zv v:AV) (G:Heap)=>WP (u:=3) (t:=4) rfl zv v G
 have an2:=fun(zv v:AV) (G:Heap)=>WP (u:=3) (t:=2) rfl zv v G
 simp(maxSteps:=4000000) (disch:=first|assumption|omega|(simp -implicitDefEqProofs only[Zt,Zu]<;>first|assumption|omega)|decide) only[hB,g1,ldx,an4,an2,c43,ZG,N8G,Zr,Zs,Zd,Ze,Zf,Nat.reduceEqDiff,reduceCtorEq,TB0,TB1]
 refine⟨_,rfl,?_⟩
 exact k1
theorem ofInt{Zk:Lib}{fs:T CF}{fuel:Nat}(E:Env Zk fs fuel){k n:Nat}(hk:1≤k){z:Int}{H:Heap}(hro:H.ro≤H.nx):
  ZQ (LK Zk fs fuel k) fs fuel (n+1) 43 [.iface 3 (.int .i64 z)] H= .ret (.agg [nI .i64 3, .bool false, .int .i64 z, .str [], .nils, .nils]) H:=by
 obtain⟨H',e,g⟩:=Zvd E (n:=898) (H:=H) hro
 exact YI (r:=0) rfl rfl e g (rfl) hk
theorem Zve{Zk:Lib}{fs:T CF}{fuel:Nat}(E:Env Zk fs fuel){n:Nat}{s:List UInt8}{H:Heap}(hro:H.ro≤H.nx):
  ∃H',ZQ (LK Zk fs fuel 0) fs fuel (n+2) 43 [.iface 9 (.str s)] H= .ret (.agg [nI .i64 4, .bool false,nI .i64 0, .str s, .nils, .nils]) H'∧Keep H H' []:=by
 rw[ZV (ZL E.n43 (.inl (by decide)) _ _) E.f43]
 obtain⟨H1,hH1⟩: ∃G,Heap.new H (rG 72 1 [nI .i64 4, .bool false,nI .i64 0, .str s, .nils, .nils] 0 false true true)=G:=⟨_,rfl⟩
 have hro':H.ro≤H.nx:=hro
 have hB:=Yx (n:=6) (l:=[nI .i64 0, .bool false,nI .i64 0, .str [], .nils, .nils]) (vs:=[nI .i64 4, .bool false,nI .i64 0, .str s, .nils, .nils]) (b:=H.nx) (H:=H.new (rG 72 1 [nI .i64 0, .bool false,nI .i64 0, .str [], .nils, .nils] 0 false true true)) (by rfl) (by rfl) (by omega) hro' 72 1 false true
 rw[Wy rfl,hH1] at hB
 have g1:H1.t.get H.nx=some (rG 72 1 [nI .i64 4, .bool false,nI .i64 0, .str s, .nils, .nils] 0 false true true):=by rw[←hH1,ZA rfl]
 have k1:Keep H H1 []:=by rw[←hH1];exact Keep.new H _ _
 have ldx: ∀(G':Heap),ldN 6 (some (rG 72 1 [nI .i64 4, .bool false,nI .i64 0, .str s, .nils, .nils] 0 false true true)) 0 G'= .val (.agg [nI .i64 4, .bool false,nI .i64 0, .str s, .nils, .nils]) G':=fun G'=>by
  rw[Yu (Zl _)];rfl
 have an4:=fun(zv v:AV) (G:Heap)=>WP (u:=9) (t:=4) rfl zv v G
 have an2:=fun(zv v:AV) (G:Heap)=>WP (u:=9) (t:=2) rfl zv v G
 have an3:=fun(zv v:AV) (G:Heap)=>WP (u:=9) (t:=3) rfl zv v G
 simp(maxSteps:=4000000) (disch:=first|assumption|omega|(simp -implicitDefEqProofs only[Zt,Zu]<;>first|assumption|omega)|decide) only[hB,g1,ldx,an4,an2,an3,c43,ZG,N8G,Zr,Zs,Zd,Ze,Zf,Nat.reduceEqDiff,reduceCtorEq,TB0,TB1]
 refine⟨_,rfl,?_⟩
 exact k1
theorem ZyJ{Zk:Lib}{fs:T CF}{fuel:Nat}(E:Env Zk fs fuel){k n:Nat}(hk:1≤k){s:List UInt8}{H:Heap}(hro:H.ro≤H.nx):
  ZQ (LK Zk fs fuel k) fs fuel (n+1) 43 [.iface 9 (.str s)] H= .ret (.agg [nI .i64 4, .bool false,nI .i64 0, .str s, .nils, .nils]) H:=by
 obtain⟨H',e,g⟩:=Zve E (n:=898) (H:=H) hro
 exact YI (r:=0) rfl rfl e g (rfl) hk
theorem ZlC{Zk:Lib}{fs:T CF}{fuel:Nat}(E:Env Zk fs fuel){k n:Nat}{v:AV}{H:Heap}(hl:LK Zk fs fuel k 43 [.iface 69 v] H=none)(hv:v.cells=[v])(hro:H.ro≤H.nx):
  ∃H',ZQ (LK Zk fs fuel k) fs fuel (n+2) 43 [.iface 69 v] H= .ret (.agg [nI .i64 5, .bool false,nI .i64 0, .str [],v, .nils]) H'∧Keep H H' []:=by
 rw[ZV hl E.f43]
 obtain⟨H1,hH1⟩: ∃G,Heap.new H (rG 72 1 [nI .i64 5, .bool false,nI .i64 0, .str [],v, .nils] 0 false true true)=G:=⟨_,rfl⟩
 have hro':H.ro≤H.nx:=hro
 have hB:=Yx (n:=6) (l:=[nI .i64 0, .bool false,nI .i64 0, .str [], .nils, .nils]) (vs:=[nI .i64 5, .bool false,nI .i64 0, .str [],v, .nils]) (b:=H.nx) (H:=H.new (rG 72 1 [nI .i64 0, .bool false,nI .i64 0, .str [], .nils, .nils] 0 false true true)) (by rfl) (by rfl) (by omega) hro' 72 1 false true
 rw[Wy rfl,hH1] at hB
 have g1:H1.t.get H.nx=some (rG 72 1 [nI .i64 5, .bool false,nI .i64 0, .str [],v, .nils] 0 false true true):=by rw[←hH1,ZA rfl]
 have k1:Keep H H1 []:=by rw[←hH1];exact Keep.new H _ _
 have ldx: ∀(G':Heap),ldN 6 (some (rG 72 1 [nI .i64 5, .bool false,nI .i64 0, .str [],v, .nils] 0 false true true)) 0 G'= .val (.agg [nI .i64 5, .bool false,nI .i64 0, .str [],v, .nils]) G':=fun G'=>by
  rw[Yu (Zl _)];rfl
 have an4:=fun(zv v:AV) (G:Heap)=>WP (u:=69) (t:=4) rfl zv v G
 have an2:=fun(zv v:AV) (G:Heap)=>WP (u:=69) (t:=2) rfl zv v G
 have an3:=fun(zv v:AV) (G:Heap)=>WP (u:=69) (t:=3) rfl zv v G
 have an9:=fun(zv v:AV) (G:Heap)=>WP (u:=69) (t:=9) rfl zv v G
 simp(maxSteps:=4000000) (disch:=first|assumption|omega|(simp -implicitDefEqProofs only[Zt,Zu]<;>first|assumption|omega)|decide) only[hB,g1,ldx,hv,an4,an2,an3,an9,c43,ZG,N8G,Zr,Zs,Zd,Ze,Zf,Nat.reduceEqDiff,reduceCtorEq,TB0,TB1]
 refine⟨_,rfl,?_⟩
 exact k1
theorem ofList{Zk:Lib}{fs:T CF}{fuel:Nat}(E:Env Zk fs fuel){k n:Nat}(hk:1≤k){v:AV}{H:Heap}(hv:v= .nils∨ ∃b o m c,v= .slice b o m c)(hro:H.ro≤H.nx):
  ∃H',ZQ (LK Zk fs fuel k) fs fuel (n+2) 43 [.iface 69 v] H= .ret (.agg [nI .i64 5, .bool false,nI .i64 0, .str [],v, .nils]) H'∧Keep H H' []:=by
 have hc:v.cells=[v]:=by rcases hv with rfl|⟨b,o,m,c,rfl⟩<;>rfl
 obtain⟨H',e,g⟩:=ZlC E (k:=0) (n:=898) (v:=v) (H:=H) (ZL E.n43 (.inl (by decide)) _ _) hc hro
 rcases hv with rfl|⟨b,o,m,c,rfl⟩
 ·exact⟨H,YI (r:=0) rfl rfl e g rfl hk,Keep.refl _ _⟩
 ·exact ZlC E (n:=n) (Znc (r:=0) rfl rfl e rfl E.n43 hk) hc hro
theorem Zjy{Zk:Lib}{fs:T CF}{fuel:Nat}(E:Env Zk fs fuel){k n:Nat}{v:AV}{H:Heap}(hl:LK Zk fs fuel k 43 [.iface 70 v] H=none)(hv:v.cells=[v])(hro:H.ro≤H.nx):
  ∃H',ZQ (LK Zk fs fuel k) fs fuel (n+2) 43 [.iface 70 v] H= .ret (.agg [nI .i64 6, .bool false,nI .i64 0, .str [], .nils,v]) H'∧Keep H H' []:=by
 rw[ZV hl E.f43]
 obtain⟨H1,hH1⟩: ∃G,Heap.new H (rG 72 1 [nI .i64 6, .bool false,nI .i64 0, .str [], .nils,v] 0 false true true)=G:=⟨_,rfl⟩
 have hro':H.ro≤H.nx:=hro
 have hB:=Yx (n:=6) (l:=[nI .i64 0, .bool false,nI .i64 0, .str [], .nils, .nils]) (vs:=[nI .i64 6, .bool false,nI .i64 0, .str [], .nils,v]) (b:=H.nx) (H:=H.new (rG 72 1 [nI .i64 0, .bool false,nI .i64 0, .str [], .nils, .nils] 0 false true true)) (by rfl) (by rfl) (by omega) hro' 72 1 false true
 rw[Wy rfl,hH1] at hB
 have g1:H1.t.get H.nx=some (rG 72 1 [nI .i64 6, .bool false,nI .i64 0, .str [], .nils,v] 0 false true true):=by rw[←hH1,ZA rfl]
 have k1:Keep H H1 []:=by rw[←hH1];exact Keep.new H _ _
 have ldx: ∀(G':Heap),ldN 6 (some (rG 72 1 [nI .i64 6, .bool false,nI .i64 0, .str [], .nils,v] 0 false true true)) 0 G'= .val (.agg [nI .i64 6, .bool false,nI .i64 0, .str [], .nils,v]) G':=fun G'=>by
  rw[Yu (Zl _)];rfl
 have an4:=fun(zv v:AV) (G:Heap)=>WP (u:=70) (t:=4) rfl zv v G
 have an2:=fun(zv v:AV) (G:Heap)=>WP (u:=70) (t:=2) rfl zv v G
 have an3:=fun(zv v:AV) (G:Heap)=>WP (u:=70) (t:=3) rfl zv v G
 have an9:=fun(zv v:AV) (G:Heap)=>WP (u:=70) (t:=9) rfl zv v G
 have an69:=fun(zv v:AV) (G:Heap)=>WP (u:=70) (t:=69) rfl zv v G
 simp(maxSteps:=4000000) (disch:=first|assumption|omega|(simp -implicitDefEqProofs only[Zt,Zu]<;>first|assumption|omega)|decide) only[hB,g1,ldx,hv,an4,an2,an3,an9,an69,c43,ZG,N8G,Zr,Zs,Zd,Ze,Zf,Nat.reduceEqDiff,reduceCtorEq,TB0,TB1]
 refine⟨_,rfl,?_⟩
 exact k1
theorem ZeL{Zk:Lib}{fs:T CF}{fuel:Nat}(E:Env Zk fs fuel){k n:Nat}(hk:1≤k){v:AV}{H:Heap}(hv:v= .nils∨ ∃b o m c,v= .slice b o m c)(hro:H.ro≤H.nx):
  ∃H',ZQ (LK Zk fs fuel k) fs fuel (n+2) 43 [.iface 70 v] H= .ret (.agg [nI .i64 6, .bool false,nI .i64 0, .str [], .nils,v]) H'∧Keep H H' []:=by
 have hc:v.cells=[v]:=by rcases hv with rfl|⟨b,o,m,c,rfl⟩<;>rfl
 obtain⟨H',e,g⟩:=Zjy E (k:=0) (n:=898) (v:=v) (H:=H) (ZL E.n43 (.inl (by decide)) _ _) hc hro
 rcases hv with rfl|⟨b,o,m,c,rfl⟩
 ·exact⟨H,YI (r:=0) rfl rfl e g rfl hk,Keep.refl _ _⟩
 ·exact Zjy E (n:=n) (Znc (r:=0) rfl rfl e rfl E.n43 hk) hc hro
end
end Go.AI
namespace Go.AI
open Go
noncomputable section
def Cln(H0:Heap)(h:Nat)(M:List (List UInt8×JV))(v:AV)(H:Heap):Prop:=(M=[]∧(v= .nils∨ ∃b,v= .slice b 0 0 none∧b<H.nx))∨(M≠[]∧ ∃b,v= .slice b 0 M.length none∧H0.nx≤b∧SRow H0 h b M H)
theorem Cln.keep{H0:Heap}{h:Nat}{M:List (List UInt8×JV)}{v:AV}{H H':Heap}(c:Cln H0 h M v H)(k:Keep H H' []):Cln H0 h M v H':=by
 rcases c with⟨h1,h2⟩|⟨h1,b,h2,h3,h4⟩
 ·refine .inl ⟨h1,?_⟩
  rcases h2 with h2|⟨b,h2,h3⟩
  ·exact .inl h2
  ·exact .inr ⟨b,h2,ZC h3 k.nx⟩
 ·exact .inr ⟨h1,b,h2,h3,h4.keep k⟩
theorem Cln.len{H0:Heap}{h:Nat}{M:List (List UInt8×JV)}{v:AV}{H:Heap}(c:Cln H0 h M v H)(G:Heap):Za2 v G= .val (nI .i64 M.length) G:=by
 rcases c with⟨rfl,rfl|⟨b,rfl,_⟩⟩|⟨_,b,rfl,_⟩
 ·rfl
 ·exact Vb ..
 ·exact Vb ..
theorem Cln.low{H0:Heap}{h:Nat}{M:List (List UInt8×JV)}{v:AV}{H:Heap}(c:Cln H0 h M v H){n:Nat}(hn:H.nx≤n):Yn n v=true:=by
 rcases c with⟨rfl,rfl|⟨b,rfl,hb⟩⟩|⟨_,b,rfl,_,s⟩
 ·rfl
 ·exact YD (by omega) ..
 ·obtain⟨L,r,h1,_⟩:=s.ok
  exact YD (ZC h1.low hn) ..
theorem Cln.same{H0:Heap}{h:Nat}{M:List (List UInt8×JV)}{v:AV}{H:Heap}(c:Cln H0 h M v H)(n:Nat)(t:T Obj):WG (.val v ⟨n,t,n⟩) v n=true:=by
 rcases c with⟨rfl,rfl|⟨b,rfl,_⟩⟩|⟨_,b,rfl,_⟩
 ·exact QP ..
 ·exact Vo ..
 ·exact Vo ..
theorem Sl.loadN{H:Heap}{sz b o:Nat}{q:Option Nat}{ls:List (List AV)}{r:Row}(he: ∀l∈ls,l.length=sz)(h: ∀i,i<ls.length*sz→r.get (o+i)=ls.flatten.getD i .unk):AI.loadN r o (ls.length*sz)=ls.flatten:=by
 have hf:=Up he
 apply List.ext_getElem?
 intro i
 by_cases hi:i<ls.length*sz
 ·rw[VC _ _ _ _ hi,h i hi,Zi,Zp (by omega)];rfl
 ·rw[List.getElem?_eq_none (by rw[VM];omega),List.getElem?_eq_none (by omega)]
theorem Zvf{H:Heap}{c o q:Nat}{cp:Option Nat}{r:Row}{ls:List (List AV)}(hq:ls.length=q+1)(hl:ls.length≤9000)(he: ∀l∈ls,l.length=7)(hc:c<H.nx)(g:H.t.get c=some (.row r))(h1:o+ls.length*7≤r.size)(h2: ∀i,i<ls.length*7→r.get (o+i)=ls.flatten.getD i .unk):
  Ug 100 7 104 (.slice H.nx 0 0 none) (.slice c o ls.length cp) (H.new (rG 100 7 [] 0 false true true))= .val (.slice (H.nx+1) 0 ls.length none) ((H.new (rG 100 7 [] 0 false true true)).new (rG 100 7 ls.flatten 0 false true false)):=by
 have gc:(H.new (rG 100 7 [] 0 false true true)).t.get c=some (.row r):=by rw[ZH (by omega)];exact g
 have gn:(H.new (rG 100 7 [] 0 false true true)).t.get H.nx=some (rG 100 7 [] 0 false true true):=ZA rfl _
 have ld:=Sl.loadN (H:=H) (b:=c) (q:=cp) he h2
 show Wt (H.new (rG 100 7 [] 0 false true true)) 7 (.slice c o ls.length cp) ls.length (fun new=>Zb3 (.slice H.nx 0 0 none) 100 7 104 (H.new (rG 100 7 [] 0 false true true)) ls.length new)=_
 unfold Wt
 rw[Z3,Zc (by omega)]
 show Yr (H.new (rG 100 7 [] 0 false true true)) c (fun r=>ZR (Nat.ble (o+ls.length*7) r.size) (Zb3 (.slice H.nx 0 0 none) 100 7 104 (H.new (rG 100 7 [] 0 false true true)) ls.length (AI.loadN r o (ls.length*7))))=_
 unfold Yr
 simp only[gc]
 rw[Zj h1,ld]
 show Zb3 (.slice H.nx 0 0 none) 100 7 104 (H.new (rG 100 7 [] 0 false true true)) ls.length ls.flatten=_
 show Yr (H.new (rG 100 7 [] 0 false true true)) H.nx _=_
 unfold Yr
 simp only[gn]
 show cond (Nat.ble (0+ls.length) 0) _ (ZcE (H.new (rG 100 7 [] 0 false true true)) 100 H.nx 0 0 ls.length 7 104 none ⟨100,7,Yi ([]:List AV),T.ofList [], .unk,0,false,true,true⟩ ls.flatten)=_
 rw[show Nat.ble (0+ls.length) 0=false by rw[Zo,hq];rfl]
 show ZR (Nat.ble ((0+ls.length)*104) 140737488355328) (OR.val (.slice (H.nx+1) 0 (0+ls.length) none) (Heap.newRow (H.new (rG 100 7 [] 0 false true true)) 100 7 ([]++ls.flatten) false))=_
 rw[Zj (by omega),Zo];rfl
theorem Znd{Zk:Lib}{fs:T CF}{fuel:Nat}(E:Env Zk fs fuel){k n h:Nat}{H0 H:Heap}(k0:Keep H0 H [])(hro:H.ro≤H.nx){mv:AV}{ms:List (List AV)}{M:List (List UInt8×JV)}(sm:Sl H0 7 mv ms)(e:ms.length=M.length)(hE: ∀i,i<M.length→ERel H0 h (ms.getD i []) (M.getD i default))(hM:M.length≤9000):
  ∃v H',ZQ (LK Zk fs fuel k) fs fuel (n+1) 84 [mv] H= .ret v H'∧Keep H H' []∧Cln H0 h M v H'∧ ∀b o n c,v= .slice b o n c→H.nx≤b:=by
 rw[ZV (ZL E.n84 (.inr rfl) _ _) E.f84]
 rcases sm.here with⟨rfl,rfl⟩|⟨c,o,cp,rfl,hc,h2⟩
 ·have hM0:M=[]:=List.length_eq_zero_iff.1 e.symm
  have en: ∀G:Heap,eqV eqL false .nils .nils G= .val (.bool true) G:=fun _=>rfl
  simp(maxSteps:=4000000) (disch:=first|assumption|omega|(simp -implicitDefEqProofs only[Zt,Zu]<;>first|assumption|omega)|decide) only[en,c84,ZG,N8G,Zr,Zs,Zd,Ze,Zf,Nat.reduceEqDiff,reduceCtorEq,TB0]
  exact⟨_,_,rfl,Keep.refl _ _, .inl ⟨hM0, .inl rfl⟩,fun _ _ _ _ e=>by cases e⟩
 ·have en: ∀(n:Nat) (G:Heap),eqV eqL false (.slice c o n cp) .nils G= .val (.bool false) G:=fun _ _=>rfl
  have bs:Uz 100 7 0 (List.replicate 0 [.str [],nI .i64 0, .bool false,nI .i64 0, .str [], .nils, .nils]).flatten [] H= .val (.slice H.nx 0 0 none) (H.new (rG 100 7 [] 0 false true true)):=rfl
  have k1:Keep H (H.new (rG 100 7 [] 0 false true true)) []:=Keep.new H _ _
  by_cases hn:ms=[]
  ·subst hn
   have hM0:M=[]:=List.length_eq_zero_iff.1 e.symm
   have ea:Ug 100 7 104 (.slice H.nx 0 0 none) (.slice c o ([]:List (List AV)).length cp) (H.new (rG 100 7 [] 0 false true true))= .val (.slice H.nx 0 0 none) (H.new (rG 100 7 [] 0 false true true)):=by
    have gn:(H.new (rG 100 7 [] 0 false true true)).t.get H.nx=some (rG 100 7 [] 0 false true true):=ZA rfl _
    show Yr (H.new (rG 100 7 [] 0 false true true)) H.nx _=_
    unfold Yr
    simp only[gn]
    rfl
   simp(maxSteps:=4000000) (disch:=first|assumption|omega|(simp -implicitDefEqProofs only[Zt,Zu]<;>first|assumption|omega)|decide) only[en,bs,ea,c84,ZG,N8G,Zr,Zs,Zd,Ze,Zf,Nat.reduceEqDiff,reduceCtorEq,TB0]
   exact⟨_,_,rfl,k1, .inl ⟨hM0, .inr ⟨_,rfl,Yf _⟩⟩,fun _ _ _ _ e=>by cases e;exact Zl _⟩
  ·obtain⟨r,g,h3,h4⟩:=h2 hn
   have hM0:M≠[]:=by rintro rfl;exact hn (List.length_eq_zero_iff.1 e)
   obtain⟨q,hq⟩: ∃q,ms.length=q+1:=⟨ms.length - 1,by have:=List.length_pos_iff.2 hn;omega⟩
   have ea:=Zvf (H:=H) (cp:=cp) hq (by omega) sm.each (ZC hc k0.nx) (by rw[k0.get _ hc (by simp)];exact g) h3 h4
   simp(maxSteps:=4000000) (disch:=first|assumption|omega|(simp -implicitDefEqProofs only[Zt,Zu]<;>first|assumption|omega)|decide) only[en,bs,ea,c84,ZG,N8G,Zr,Zs,Zd,Ze,Zf,Nat.reduceEqDiff,reduceCtorEq,TB0]
   refine⟨_,_,rfl,k1.then_new _, .inr ⟨hM0,H.nx+1,congrArg (fun q=>AV.slice (H.nx+1) 0 q none) e,by have:=k0.nx;omega,⟨ms,⟨100,7,Yi ms.flatten,T.ofList ms.flatten, .unk,0,false,true,false⟩,⟨ZA rfl _,rfl,rfl,rfl,rfl,rfl,rfl,Cells.new ..,sm.each,by show H.ro≤H.nx+1;omega,by show H.nx+1<H.nx+1+1;omega⟩,e,hE⟩⟩,fun _ _ _ _ e=>by cases e;omega⟩
theorem Zne{a:TM→Heap→X→Res}{F:Nat}{tm:TM}{H H':Heap}{x:X}{L:Res}{o:Out}{P:TM→Prop}(hL:WC a F tm H x=L)(hF:0<F)(ho:o≠ .normal)(h: ∃tm',a tm H x= .ok o tm' H' x∧P tm'): ∃tm',L= .ok o tm' H' x∧P tm':=by
 obtain⟨tm',h,hp⟩:=h
 cases F with
 |zero=>omega
 |succ F=>
  refine⟨tm',?_,hp⟩
  rw[←hL]
  show QH (a tm H x) _=_
  rw[h]
  cases o with
  |normal=>exact absurd rfl ho
  |_=>rfl
theorem ZyK{Zk:Lib}{fs:T CF}{fuel:Nat}(E:Env Zk fs fuel){k n0 f:Nat}{v:AV}{H:Heap}:ZQ (LK Zk fs fuel k) fs fuel (n0+1) 169 [v,nI .i64 0,nI .i64 0, .func f [] []] H= .ret (.tup []) H:=by
 rw[ZV (ZL E.n169 (.inr rfl) _ _) E.f169]
 simp(maxSteps:=4000000) (disch:=first|assumption|omega|(simp -implicitDefEqProofs only[Zt,Zu]<;>first|assumption|omega)|decide) only[Yt,Zo,Zoc,ZG,N8G,Zr,Zs,Zd,Ze,Zf,Nat.reduceEqDiff,reduceCtorEq,TB0]
 generalize hL:WC (ZaF _) fuel _ _ _=L
 obtain⟨o,tm1,H1,rfl,_,rfl,rfl⟩:=YS (P:=fun T'=>Zva H 0 T' H) (Q:=fun o tm' H'=>o= .exit 0∧H'=H)
  (fun T' hi'=>YV (Zva H) _ (fun m tm H' h'=>Znb _ m tm H' h') fuel 0 T' H (by have:=E.big;omega) hi') hL ⟨rfl,rfl,rfl⟩
 simp(maxSteps:=4000000) (disch:=first|assumption|omega|(simp -implicitDefEqProofs only[Zt,Zu]<;>first|assumption|omega)|decide) only[Zoc,ZG,N8G,Zr,Zs,Zd,Ze,Zf,Nat.reduceEqDiff,reduceCtorEq,TB0]
theorem ZlD{Zk:Lib}{fs:T CF}{fuel:Nat}(E:Env Zk fs fuel){k n0 f:Nat}(hf:Zot Zk fs fuel k f){H0 H:Heap}{h:Nat}{v:AV}{M:List (List UInt8×JV)}(hn:M.length≤12)(h0:H0.nx≤H.nx){S:List Nat}(hS: ∀b o n c,v= .slice b o n c→M≠[]→b∈S)(cl:Cln H0 h M v H):
  ∃H',ZQ (LK Zk fs fuel k) fs fuel (n0+4) 85 [v, .func f [] []] H= .ret (.tup []) H'∧Keep H H' S∧Cln H0 h (YG ltE M) v H':=by
 have el:=cl.len
 obtain⟨H1,e1,k1,c1⟩: ∃H1,ZQ (LK Zk fs fuel k) fs fuel (n0+2) 169 [v,nI .i64 0,nI .i64 M.length, .func f [] []] H= .ret (.tup []) H1∧Keep H H1 S∧Cln H0 h (YG ltE M) v H1:=by
  rcases cl with⟨rfl,hv⟩|⟨h1,b,rfl,h3,h4⟩
  ·exact⟨H,ZyK E,Keep.refl _ _, .inl ⟨rfl,hv⟩⟩
  ·obtain⟨H1,e1,k1,sr⟩:=Zs7 E (k:=k) (n0:=n0) hf (cp:=none) (HK:=H) (S:=S) (n:=M.length) (h:=h) (M:=M) (by omega) h0 (fun _=>hS _ _ _ _ rfl h1) rfl (Keep.refl _ _) h4
   refine⟨H1,e1,k1, .inr ⟨fun e=>?_,b,by rw[Zbn],h3,sr⟩⟩
   have:=Zbn ltE M
   rw[e] at this
   exact h1 (List.length_eq_zero_iff.1 this.symm)
 have hF:0<fuel:=by have:=E.big;omega
 have d1:decide (20≤M.length)=false:=Zc (by omega)
 have d2:decide (20<M.length)=false:=Zc (by omega)
 have es:ZQ (LK Zk fs fuel k) fs fuel (n0+3) 136 [v,nI .i64 M.length, .func f [] []] H= .ret (.tup []) H1:=by
  rw[ZV (ZL E.n136 (.inr rfl) _ _) E.f136]
  simp(maxSteps:=4000000) (disch:=first|assumption|omega|(simp -implicitDefEqProofs only[Zt,Zu]<;>first|assumption|omega)|decide) only[ZuU,ZG,N8G,Zr,Zs,Zd,Ze,Zf,Nat.reduceEqDiff,reduceCtorEq,TB0]
  generalize hL:WC (Zod _) fuel _ _ _=L
  obtain⟨tm1,rfl,t0,t1,t2,t6,t7⟩: ∃tm',L= .ok (.exit 0) tm' H ⟨[],none⟩∧gt0 tm'=v∧gt1 tm'=nI .i64 M.length∧gt2 tm'= .func f [] []∧gt6 tm'=nI .i64 20∧gt7 tm'=nI .i64 0:=by
   refine Zne hL hF (by simp) ?_
   simp(maxSteps:=4000000) (disch:=first|assumption|omega|(simp -implicitDefEqProofs only[Zt,Zu]<;>first|assumption|omega)|decide) only[d1,V8,Zod,ZG,N8G,Zr,Zs,Zd,Ze,Zf,Nat.reduceEqDiff,reduceCtorEq,TB0]
   refine⟨_,rfl,?_⟩
   exact⟨(by simp only[TB0,N8G]),(by simp only[TB0,N8G]),(by simp only[TB0,N8G]),(by simp only[TB0,N8G]),(by simp only[TB0,N8G])⟩
  simp only[ZbJ] at t0
  simp only[ZbK] at t1
  simp only[Zeh] at t2
  simp only[Zld] at t6
  simp only[Zuo] at t7
  simp(maxSteps:=4000000) (disch:=first|assumption|omega|(simp -implicitDefEqProofs only[Zt,Zu]<;>first|assumption|omega)|decide) only[t0,t1,t2,t7,e1,ZuU,ZG,N8G,Zr,Zs,Zd,Ze,Zf,Nat.reduceEqDiff,reduceCtorEq,TB0]
  generalize hL:WC (Zoe _) fuel _ _ _=L
  obtain⟨tm2,rfl,_⟩: ∃tm',L= .ok (.exit 2) tm' H1 ⟨[],none⟩∧True:=by
   refine Zne hL hF (by simp) ?_
   simp(maxSteps:=4000000) (disch:=first|assumption|omega|(simp -implicitDefEqProofs only[Zt,Zu]<;>first|assumption|omega)|decide) only[t1,t6,d2,ZU,Zoe,ZG,N8G,Zr,Zs,Zd,Ze,Zf,Nat.reducePow,Nat.reduceDiv,Nat.reduceMod,Nat.reduceEqDiff,reduceCtorEq,TB0,TB1]
   refine⟨_,rfl,?_⟩
   exact trivial
  simp(maxSteps:=4000000) (disch:=first|assumption|omega|(simp -implicitDefEqProofs only[Zt,Zu]<;>first|assumption|omega)|decide) only[ZuU,ZG,N8G,Zr,Zs,Zd,Ze,Zf,Nat.reduceEqDiff,reduceCtorEq,TB0]
 rw[ZV (ZL E.n85 (.inr rfl) _ _) E.f85]
 simp(maxSteps:=4000000) (disch:=first|assumption|omega|(simp -implicitDefEqProofs only[Zt,Zu]<;>first|assumption|omega)|decide) only[el,es,c85,ZG,N8G,Zr,Zs,Zd,Ze,Zf,Nat.reduceEqDiff,reduceCtorEq,TB0]
 refine⟨_,rfl,?_⟩
 exact⟨k1,c1⟩
end
end Go.AI
namespace Go.AI
open Go
noncomputable section
def Za4(p:Nat→Bool):Nat→Nat→Bool
 |0,_=>true
 |m+1,i=>p i&&Za4 p m (i+1)
theorem Zs9(f:JV→JV→Bool){l m:List JV}(h:l.length=m.length): ∀(k i:Nat),i+k=l.length→JV.eqL f (l.drop i) (m.drop i)=Za4 (fun i=>f (l.getD i default) (m.getD i default)) k i
 |0,i,e=>by
  rw[List.drop_eq_nil_of_le (by omega),List.drop_eq_nil_of_le (by omega)];rfl
 |k+1,i,e=>by
  rw[JV.eqL_drop f (by omega) (by omega),Zs9 f h k (i+1) (by omega)];rfl
theorem Zta(f:JV→JV→Bool){l m:List (List UInt8×JV)}(h:l.length=m.length): ∀(k i:Nat),i+k=l.length→JV.eqM f (l.drop i) (m.drop i)=Za4 (fun i=>decide ((l.getD i default).1=(m.getD i default).1)&&f (l.getD i default).2 (m.getD i default).2) k i
 |0,i,e=>by
  rw[List.drop_eq_nil_of_le (by omega),List.drop_eq_nil_of_le (by omega)];rfl
 |k+1,i,e=>by
  rw[JV.eqM_drop f (by omega) (by omega),Zta f h k (i+1) (by omega)];rfl
theorem Cln.sl{H0:Heap}{h:Nat}{M:List (List UInt8×JV)}{v:AV}{H:Heap}(c:Cln H0 h M v H): ∃ms,Sl H 7 v ms∧ms.length=M.length∧ ∀i,i<M.length→ERel H0 h (ms.getD i []) (M.getD i default):=by
 rcases c with⟨rfl,rfl|⟨b,rfl,hb⟩⟩|⟨_,b,rfl,_,s⟩
 ·exact⟨[],Sl.nil ..,rfl,fun i hi=>absurd hi (Nat.not_lt_zero _)⟩
 ·exact⟨[],⟨fun _ h=>(by cases h), .inr ⟨b,0,none,rfl,hb,fun hne=>absurd rfl hne⟩⟩,rfl,fun i hi=>absurd hi (Nat.not_lt_zero _)⟩
 ·obtain⟨L,r,h1,h2,h3⟩:=s.ok
  exact⟨L,by rw[←h2];exact Sl.of_recs h1 none,h2,h3⟩
structure EFV(H0:Heap)(v w:AV)(len q:Nat)(p:Nat→Bool)(T:Bool)(m:Nat)(tm:TM)(H:Heap):Prop where
 i: ∃i,YQ tm=nI .i64 i∧i≤len∧m=len - i∧Za4 p (len - i) i=T
 t1:gt1 tm=w
 t2:gt2 tm= .func q [] []
 t15:YJ tm=v
 t16:YK tm=nI .i64 len
 k:Keep H0 H []
 ro:H.ro≤H.nx
theorem ZyL{Zk:Lib}{fs:T CF}{fuel:Nat}(E:Env Zk fs fuel){k n q:Nat}{H0:Heap}{v w:AV}{ls ms:List (List AV)}(h:Sl H0 6 v ls)(h':Sl H0 6 w ms)(e:ls.length=ms.length)(hl:ls.length≤9000){p:Nat→Bool}{T:Bool}
  (hp: ∀i,i<ls.length→ ∀G,Keep H0 G []→G.ro≤G.nx→ ∃G',ZQ (LK Zk fs fuel k) fs fuel n q [.agg (ls.getD i []), .agg (ms.getD i [])] G= .ret (.bool (p i)) G'∧Keep G G' [])(y f d r)(x:X)(m:Nat)(tm:TM)(H:Heap)(hI:EFV H0 v w ls.length q p T m tm H):
  ∃o tm' H',ZiF ⟨ZQ (LK Zk fs fuel k) fs fuel n,y,f,d,r⟩ tm H x= .ok o tm' H' x∧((o= .normal∧ ∃k,k<m∧EFV H0 v w ls.length q p T k tm' H')∨(o≠ .normal∧Keep H0 H' []∧((o= .exit 0∧T=true)∨(o= .ret∧gt6 tm'= .bool false∧T=false)))):=by
 obtain⟨⟨i,t17,hi,rfl,hT⟩,t1,t2,t15,t16,k0,hro⟩:=hI
 have t1':=t1;have t2':=t2;have t15':=t15;have t16':=t16
 simp only[ZbK] at t1
 simp only[Zeh] at t2
 simp only[Zxq] at t15
 simp only[Zxr] at t16
 simp only[Zxs] at t17
 by_cases hlt:i<ls.length
 ·have d1:decide (i<ls.length)=true:=Zh hlt
  obtain⟨b1,o1,r1,eI1,hb1,gb1,eL1,_⟩:=(h.keep0 k0).at_ hlt
  obtain⟨b2,o2,r2,eI2,hb2,gb2,eL2,_⟩:=(h'.keep0 k0).at_ (i:=i) (by omega)
  have hx:(ls.getD i []).length=6:=h.each _ (by rw[Zi,Zp hlt];exact List.getElem_mem hlt)
  have hy:(ms.getD i []).length=6:=h'.each _ (by rw[Zi,Zp (show i<ms.length by omega)];exact List.getElem_mem _)
  have hp:=fun(G:Heap) (hk:Keep H0 G []) (hr:G.ro≤G.nx)=>hp i hlt G hk hr
  generalize ls.getD i []=xs at*
  generalize ms.getD i []=ys at*
  obtain⟨HA,hA⟩: ∃G,H.new (rG 72 1 xs 0 false true true)=G:=⟨_,rfl⟩
  have nxA:HA.nx=H.nx+1:=by rw[←hA];rfl
  have roA:HA.ro=H.ro:=by rw[←hA];rfl
  have hBx:=Yx (n:=6) (l:=[nI .i64 0, .bool false,nI .i64 0, .str [], .nils, .nils]) (vs:=xs) (by rfl) hx (by omega) (show(H.new (rG 72 1 [nI .i64 0, .bool false,nI .i64 0, .str [], .nils, .nils] 0 false true true)).ro≤H.nx from hro) 72 1 false true
  rw[Wy rfl,hA] at hBx
  have gA:HA.t.get H.nx=some (rG 72 1 xs 0 false true true):=by rw[←hA,ZA rfl]
  have kA:Keep H0 HA []:=by rw[←hA];exact k0.then_new _
  obtain⟨HB,hB⟩: ∃G,HA.new (rG 72 1 ys 0 false true true)=G:=⟨_,rfl⟩
  have nxB:HB.nx=HA.nx+1:=by rw[←hB];rfl
  have roB:HB.ro=HA.ro:=by rw[←hB];rfl
  have hBy:=Yx (n:=6) (l:=[nI .i64 0, .bool false,nI .i64 0, .str [], .nils, .nils]) (vs:=ys) (by rfl) hy (by omega) (show(HA.new (rG 72 1 [nI .i64 0, .bool false,nI .i64 0, .str [], .nils, .nils] 0 false true true)).ro≤HA.nx by show HA.ro≤HA.nx;omega) 72 1 false true
  rw[Wy rfl,hB] at hBy
  rw[nxA] at hBy
  have gB:HB.t.get (H.nx+1)=some (rG 72 1 ys 0 false true true):=by rw[←hB,ZA nxA]
  have gA2:HB.t.get H.nx=some (rG 72 1 xs 0 false true true):=by rw[←hB,ZH (by omega)];exact gA
  have gb2':HA.t.get b2=some (.row r2):=by rw[←hA,ZH (by omega)];exact gb2
  have kB:Keep H0 HB []:=by rw[←hB];exact kA.then_new _
  have ldx: ∀G:Heap,ldN 6 (some (rG 72 1 xs 0 false true true)) 0 G= .val (.agg xs) G:=fun G=>by rw[Yu (by omega)];congr 2;rw[ZK,Zv (by omega)]
  have ldy: ∀G:Heap,ldN 6 (some (rG 72 1 ys 0 false true true)) 0 G= .val (.agg ys) G:=fun G=>by rw[Yu (by omega)];congr 2;rw[ZK,Zv (by omega)]
  obtain⟨HC,eC,kC⟩:=hp HB kB (by omega)
  have roC:HC.ro≤HC.nx:=by rw[kC.ro];have:=kC.nx;omega
  have k2:=kB.trans kC (by simp)
  have hT':Za4 p (ls.length - i) i=(p i&&Za4 p (ls.length - (i+1)) (i+1)):=by rw[show ls.length - i=(ls.length - (i+1))+1 by omega];rfl
  rw[hT'] at hT
  cases hpi:p i with
  |true=>
   rw[hpi] at eC hT
   simp(maxSteps:=4000000) (disch:=first|assumption|omega|(simp -implicitDefEqProofs only[Zt,Zu]<;>first|assumption|omega)|decide) only[t1,t2,t15,t16,t17,d1,eI1,gb1,eL1,hA,hBx,nxA,gb2',eI2,gb2,eL2,hBy,gA2,gB,ldx,ldy,eC,ZU,Yt,Zca,List.cons_append,ZiF,ZG,N8G,Zr,Zs,Zd,Ze,Zf,Nat.reduceEqDiff,reduceCtorEq,TB0]
   refine⟨_,_,_,rfl,?_⟩
   exact .inl ⟨rfl,ls.length - (i+1),by omega,⟨⟨i+1,(by simp only[TB0,N8G]),by omega,rfl,hT⟩,(by simp only[TB0,N8G];exact t1'),(by simp only[TB0,N8G];exact t2'),(by simp only[TB0,N8G];exact t15'),(by simp only[TB0,N8G];exact t16'),k2,roC⟩⟩
  |false=>
   rw[hpi] at eC hT
   simp(maxSteps:=4000000) (disch:=first|assumption|omega|(simp -implicitDefEqProofs only[Zt,Zu]<;>first|assumption|omega)|decide) only[t1,t2,t15,t16,t17,d1,eI1,gb1,eL1,hA,hBx,nxA,gb2',eI2,gb2,eL2,hBy,gA2,gB,ldx,ldy,eC,ZU,Yt,Zca,List.cons_append,ZiF,ZG,N8G,Zr,Zs,Zd,Ze,Zf,Nat.reduceEqDiff,reduceCtorEq,TB0]
   refine⟨_,_,_,rfl,?_⟩
   exact .inr ⟨by simp,k2, .inr ⟨rfl,(by simp only[TB0,N8G]),hT.symm⟩⟩
 ·have d1:decide (i<ls.length)=false:=Zc hlt
  rw[show ls.length - i=0 by omega] at hT
  simp(maxSteps:=4000000) (disch:=first|assumption|omega|(simp -implicitDefEqProofs only[Zt,Zu]<;>first|assumption|omega)|decide) only[t16,t17,d1,ZU,ZiF,ZG,N8G,Zr,Zs,Zd,Ze,Zf,Nat.reduceEqDiff,reduceCtorEq,TB0]
  refine⟨_,_,_,rfl,?_⟩
  exact .inr ⟨by simp,k0, .inl ⟨rfl,hT.symm⟩⟩
theorem efV{Zk:Lib}{fs:T CF}{fuel:Nat}(E:Env Zk fs fuel){k n q:Nat}{H:Heap}{v w:AV}{ls ms:List (List AV)}(h:Sl H 6 v ls)(h':Sl H 6 w ms)(hro:H.ro≤H.nx)(hl:ls.length≤9000){p:Nat→Bool}
  (hp:ls.length=ms.length→ ∀i,i<ls.length→ ∀G,Keep H G []→G.ro≤G.nx→ ∃G',ZQ (LK Zk fs fuel k) fs fuel n q [.agg (ls.getD i []), .agg (ms.getD i [])] G= .ret (.bool (p i)) G'∧Keep G G' []):
  ∃H',ZQ (LK Zk fs fuel k) fs fuel (n+1) 81 [v,w, .func q [] []] H= .ret (.bool (decide (ls.length=ms.length)&&Za4 p ls.length 0)) H'∧Keep H H' []:=by
 rw[ZV (ZL E.n81 (.inr rfl) _ _) E.f81]
 have el:=h.len
 have em:=h'.len
 by_cases he:ls.length=ms.length
 ·have d1:decide (ls.length≠ms.length)=false:=Zc (fun hn=>hn he)
  have d2:decide (ls.length=ms.length)=true:=Zh he
  rw[d2,Bool.true_and]
  simp(maxSteps:=4000000) (disch:=first|assumption|omega|(simp -implicitDefEqProofs only[Zt,Zu]<;>first|assumption|omega)|decide) only[el,em,d1,ZcS,c81,ZG,N8G,Zr,Zs,Zd,Ze,Zf,Nat.reduceEqDiff,reduceCtorEq,TB0]
  generalize hL:WC (ZiF _) fuel _ _ _=L
  obtain⟨o,tm1,H1,rfl,_,k1,hq⟩:=YS (P:=fun T'=>EFV H v w ls.length q p (Za4 p ls.length 0) ls.length T' H) (Q:=fun o tm' H'=>Keep H H' []∧((o= .exit 0∧Za4 p ls.length 0=true)∨(o= .ret∧gt6 tm'= .bool false∧Za4 p ls.length 0=false)))
   (fun T' hi'=>YV (EFV H v w ls.length q p (Za4 p ls.length 0)) (fun o tm' H'=>Keep H H' []∧((o= .exit 0∧Za4 p ls.length 0=true)∨(o= .ret∧gt6 tm'= .bool false∧Za4 p ls.length 0=false))) (fun m tm H' h2=>ZyL E h h' he hl (hp he) _ _ _ _ _ m tm H' h2) fuel ls.length T' H (by have:=E.big;omega) hi') hL
   ⟨⟨0,rfl,Nat.zero_le _,rfl,rfl⟩,rfl,rfl,rfl,rfl,Keep.refl _ _,hro⟩
  rcases hq with⟨rfl,e⟩|⟨rfl,t6,e⟩
  ·rw[e]
   simp(maxSteps:=4000000) (disch:=first|assumption|omega|(simp -implicitDefEqProofs only[Zt,Zu]<;>first|assumption|omega)|decide) only[c81,ZG,N8G,Zr,Zs,Zd,Ze,Zf,Nat.reduceEqDiff,reduceCtorEq,TB0]
   refine⟨_,rfl,?_⟩
   exact k1
  ·rw[e]
   simp only[Zld] at t6
   simp(maxSteps:=4000000) (disch:=first|assumption|omega|(simp -implicitDefEqProofs only[Zt,Zu]<;>first|assumption|omega)|decide) only[t6,c81,ZG,N8G,Zr,Zs,Zd,Ze,Zf,Nat.reduceEqDiff,reduceCtorEq,TB0]
   refine⟨_,rfl,?_⟩
   exact k1
 ·have d1:decide (ls.length≠ms.length)=true:=Zh he
  have d2:decide (ls.length=ms.length)=false:=Zc he
  rw[d2,Bool.false_and]
  simp(maxSteps:=4000000) (disch:=first|assumption|omega|(simp -implicitDefEqProofs only[Zt,Zu]<;>first|assumption|omega)|decide) only[el,em,d1,ZcS,c81,ZG,N8G,Zr,Zs,Zd,Ze,Zf,Nat.reduceEqDiff,reduceCtorEq,TB0]
  refine⟨_,rfl,?_⟩
  exact Keep.refl _ _
structure EFE(H0:Heap)(v w:AV)(len q:Nat)(p:Nat→Bool)(T:Bool)(m:Nat)(tm:TM)(H:Heap):Prop where
 i: ∃i,YQ tm=nI .i64 i∧i≤len∧m=len - i∧Za4 p (len - i) i=T
 t1:gt1 tm=w
 t2:gt2 tm= .func q [] []
 t15:YJ tm=v
 t16:YK tm=nI .i64 len
 k:Keep H0 H []
 ro:H.ro≤H.nx
theorem ZyM{Zk:Lib}{fs:T CF}{fuel:Nat}(E:Env Zk fs fuel){k n q:Nat}{H0:Heap}{v w:AV}{ls ms:List (List AV)}(h:Sl H0 7 v ls)(h':Sl H0 7 w ms)(e:ls.length=ms.length)(hl:ls.length≤9000){p:Nat→Bool}{T:Bool}
  (hp: ∀i,i<ls.length→ ∀G,Keep H0 G []→G.ro≤G.nx→ ∃G',ZQ (LK Zk fs fuel k) fs fuel n q [.agg (ls.getD i []), .agg (ms.getD i [])] G= .ret (.bool (p i)) G'∧Keep G G' [])(y f d r)(x:X)(m:Nat)(tm:TM)(H:Heap)(hI:EFE H0 v w ls.length q p T m tm H):
  ∃o tm' H',ZiG ⟨ZQ (LK Zk fs fuel k) fs fuel n,y,f,d,r⟩ tm H x= .ok o tm' H' x∧((o= .normal∧ ∃k,k<m∧EFE H0 v w ls.length q p T k tm' H')∨(o≠ .normal∧Keep H0 H' []∧((o= .exit 0∧T=true)∨(o= .ret∧gt6 tm'= .bool false∧T=false)))):=by
 obtain⟨⟨i,t17,hi,rfl,hT⟩,t1,t2,t15,t16,k0,hro⟩:=hI
 have t1':=t1;have t2':=t2;have t15':=t15;have t16':=t16
 simp only[ZbK] at t1
 simp only[Zeh] at t2
 simp only[Zxq] at t15
 simp only[Zxr] at t16
 simp only[Zxs] at t17
 by_cases hlt:i<ls.length
 ·have d1:decide (i<ls.length)=true:=Zh hlt
  obtain⟨b1,o1,r1,eI1,hb1,gb1,eL1,_⟩:=(h.keep0 k0).at_ hlt
  obtain⟨b2,o2,r2,eI2,hb2,gb2,eL2,_⟩:=(h'.keep0 k0).at_ (i:=i) (by omega)
  have hx:(ls.getD i []).length=7:=h.each _ (by rw[Zi,Zp hlt];exact List.getElem_mem hlt)
  have hy:(ms.getD i []).length=7:=h'.each _ (by rw[Zi,Zp (show i<ms.length by omega)];exact List.getElem_mem _)
  have hp:=fun(G:Heap) (hk:Keep H0 G []) (hr:G.ro≤G.nx)=>hp i hlt G hk hr
  generalize ls.getD i []=xs at*
  generalize ms.getD i []=ys at*
  obtain⟨HA,hA⟩: ∃G,H.new (rG 100 1 xs 0 false true true)=G:=⟨_,rfl⟩
  have nxA:HA.nx=H.nx+1:=by rw[←hA];rfl
  have roA:HA.ro=H.ro:=by rw[←hA];rfl
  have hBx:=Yx (n:=7) (l:=[.str [],nI .i64 0, .bool false,nI .i64 0, .str [], .nils, .nils]) (vs:=xs) (by rfl) hx (by omega) (show(H.new (rG 100 1 [.str [],nI .i64 0, .bool false,nI .i64 0, .str [], .nils, .nils] 0 false true true)).ro≤H.nx from hro) 100 1 false true
  rw[Wy rfl,hA] at hBx
  have gA:HA.t.get H.nx=some (rG 100 1 xs 0 false true true):=by rw[←hA,ZA rfl]
  have kA:Keep H0 HA []:=by rw[←hA];exact k0.then_new _
  obtain⟨HB,hB⟩: ∃G,HA.new (rG 100 1 ys 0 false true true)=G:=⟨_,rfl⟩
  have nxB:HB.nx=HA.nx+1:=by rw[←hB];rfl
  have roB:HB.ro=HA.ro:=by rw[←hB];rfl
  have hBy:=Yx (n:=7) (l:=[.str [],nI .i64 0, .bool false,nI .i64 0, .str [], .nils, .nils]) (vs:=ys) (by rfl) hy (by omega) (show(HA.new (rG 100 1 [.str [],nI .i64 0, .bool false,nI .i64 0, .str [], .nils, .nils] 0 false true true)).ro≤HA.nx by show HA.ro≤HA.nx;omega) 100 1 false true
  rw[Wy rfl,hB] at hBy
  rw[nxA] at hBy
  have gB:HB.t.get (H.nx+1)=some (rG 100 1 ys 0 false true true):=by rw[←hB,ZA nxA]
  have gA2:HB.t.get H.nx=some (rG 100 1 xs 0 false true true):=by rw[←hB,ZH (by omega)];exact gA
  have gb2':HA.t.get b2=some (.row r2):=by rw[←hA,ZH (by omega)];exact gb2
  have kB:Keep H0 HB []:=by rw[←hB];exact kA.then_new _
  have ldx: ∀G:Heap,ldN 7 (some (rG 100 1 xs 0 false true true)) 0 G= .val (.agg xs) G:=fun G=>by rw[Yu (by omega)];congr 2;rw[ZK,Zv (by omega)]
  have ldy: ∀G:Heap,ldN 7 (some (rG 100 1 ys 0 false true true)) 0 G= .val (.agg ys) G:=fun G=>by rw[Yu (by omega)];congr 2;rw[ZK,Zv (by omega)]
  obtain⟨HC,eC,kC⟩:=hp HB kB (by omega)
  have roC:HC.ro≤HC.nx:=by rw[kC.ro];have:=kC.nx;omega
  have k2:=kB.trans kC (by simp)
  have hT':Za4 p (ls.length - i) i=(p i&&Za4 p (ls.length - (i+1)) (i+1)):=by rw[show ls.length - i=(ls.length - (i+1))+1 by omega];rfl
  rw[hT'] at hT
  cases hpi:p i with
  |true=>
   rw[hpi] at eC hT
   simp(maxSteps:=4000000) (disch:=first|assumption|omega|(simp -implicitDefEqProofs only[Zt,Zu]<;>first|assumption|omega)|decide) only[t1,t2,t15,t16,t17,d1,eI1,gb1,eL1,hA,hBx,nxA,gb2',eI2,gb2,eL2,hBy,gA2,gB,ldx,ldy,eC,ZU,Yt,Zca,List.cons_append,ZiG,ZG,N8G,Zr,Zs,Zd,Ze,Zf,Nat.reduceEqDiff,reduceCtorEq,TB0]
   refine⟨_,_,_,rfl,?_⟩
   exact .inl ⟨rfl,ls.length - (i+1),by omega,⟨⟨i+1,(by simp only[TB0,N8G]),by omega,rfl,hT⟩,(by simp only[TB0,N8G];exact t1'),(by simp only[TB0,N8G];exact t2'),(by simp only[TB0,N8G];exact t15'),(by simp only[TB0,N8G];exact t16'),k2,roC⟩⟩
  |false=>
   rw[hpi] at eC hT
   simp(maxSteps:=4000000) (disch:=first|assumption|omega|(simp -implicitDefEqProofs only[Zt,Zu]<;>first|assumption|omega)|decide) only[t1,t2,t15,t16,t17,d1,eI1,gb1,eL1,hA,hBx,nxA,gb2',eI2,gb2,eL2,hBy,gA2,gB,ldx,ldy,eC,ZU,Yt,Zca,List.cons_append,ZiG,ZG,N8G,Zr,Zs,Zd,Ze,Zf,Nat.reduceEqDiff,reduceCtorEq,TB0]
   refine⟨_,_,_,rfl,?_⟩
   exact .inr ⟨by simp,k2, .inr ⟨rfl,(by simp only[TB0,N8G]),hT.symm⟩⟩
 ·have d1:decide (i<ls.length)=false:=Zc hlt
  rw[show ls.length - i=0 by omega] at hT
  simp(maxSteps:=4000000) (disch:=first|assumption|omega|(simp -implicitDefEqProofs only[Zt,Zu]<;>first|assumption|omega)|decide) only[t16,t17,d1,ZU,ZiG,ZG,N8G,Zr,Zs,Zd,Ze,Zf,Nat.reduceEqDiff,reduceCtorEq,TB0]
  refine⟨_,_,_,rfl,?_⟩
  exact .inr ⟨by simp,k0, .inl ⟨rfl,hT.symm⟩⟩
theorem efE{Zk:Lib}{fs:T CF}{fuel:Nat}(E:Env Zk fs fuel){k n q:Nat}{H:Heap}{v w:AV}{ls ms:List (List AV)}(h:Sl H 7 v ls)(h':Sl H 7 w ms)(hro:H.ro≤H.nx)(hl:ls.length≤9000){p:Nat→Bool}
  (hp:ls.length=ms.length→ ∀i,i<ls.length→ ∀G,Keep H G []→G.ro≤G.nx→ ∃G',ZQ (LK Zk fs fuel k) fs fuel n q [.agg (ls.getD i []), .agg (ms.getD i [])] G= .ret (.bool (p i)) G'∧Keep G G' []):
  ∃H',ZQ (LK Zk fs fuel k) fs fuel (n+1) 86 [v,w, .func q [] []] H= .ret (.bool (decide (ls.length=ms.length)&&Za4 p ls.length 0)) H'∧Keep H H' []:=by
 rw[ZV (ZL E.n86 (.inr rfl) _ _) E.f86]
 have el:=h.len
 have em:=h'.len
 by_cases he:ls.length=ms.length
 ·have d1:decide (ls.length≠ms.length)=false:=Zc (fun hn=>hn he)
  have d2:decide (ls.length=ms.length)=true:=Zh he
  rw[d2,Bool.true_and]
  simp(maxSteps:=4000000) (disch:=first|assumption|omega|(simp -implicitDefEqProofs only[Zt,Zu]<;>first|assumption|omega)|decide) only[el,em,d1,ZcS,c86,ZG,N8G,Zr,Zs,Zd,Ze,Zf,Nat.reduceEqDiff,reduceCtorEq,TB0]
  generalize hL:WC (ZiG _) fuel _ _ _=L
  obtain⟨o,tm1,H1,rfl,_,k1,hq⟩:=YS (P:=fun T'=>EFE H v w ls.length q p (Za4 p ls.length 0) ls.length T' H) (Q:=fun o tm' H'=>Keep H H' []∧((o= .exit 0∧Za4 p ls.length 0=true)∨(o= .ret∧gt6 tm'= .bool false∧Za4 p ls.length 0=false)))
   (fun T' hi'=>YV (EFE H v w ls.length q p (Za4 p ls.length 0)) (fun o tm' H'=>Keep H H' []∧((o= .exit 0∧Za4 p ls.length 0=true)∨(o= .ret∧gt6 tm'= .bool false∧Za4 p ls.length 0=false))) (fun m tm H' h2=>ZyM E h h' he hl (hp he) _ _ _ _ _ m tm H' h2) fuel ls.length T' H (by have:=E.big;omega) hi') hL
   ⟨⟨0,rfl,Nat.zero_le _,rfl,rfl⟩,rfl,rfl,rfl,rfl,Keep.refl _ _,hro⟩
  rcases hq with⟨rfl,e⟩|⟨rfl,t6,e⟩
  ·rw[e]
   simp(maxSteps:=4000000) (disch:=first|assumption|omega|(simp -implicitDefEqProofs only[Zt,Zu]<;>first|assumption|omega)|decide) only[c86,ZG,N8G,Zr,Zs,Zd,Ze,Zf,Nat.reduceEqDiff,reduceCtorEq,TB0]
   refine⟨_,rfl,?_⟩
   exact k1
  ·rw[e]
   simp only[Zld] at t6
   simp(maxSteps:=4000000) (disch:=first|assumption|omega|(simp -implicitDefEqProofs only[Zt,Zu]<;>first|assumption|omega)|decide) only[t6,c86,ZG,N8G,Zr,Zs,Zd,Ze,Zf,Nat.reduceEqDiff,reduceCtorEq,TB0]
   refine⟨_,rfl,?_⟩
   exact k1
 ·have d1:decide (ls.length≠ms.length)=true:=Zh he
  have d2:decide (ls.length=ms.length)=false:=Zc he
  rw[d2,Bool.false_and]
  simp(maxSteps:=4000000) (disch:=first|assumption|omega|(simp -implicitDefEqProofs only[Zt,Zu]<;>first|assumption|omega)|decide) only[el,em,d1,ZcS,c86,ZG,N8G,Zr,Zs,Zd,Ze,Zf,Nat.reduceEqDiff,reduceCtorEq,TB0]
  refine⟨_,rfl,?_⟩
  exact Keep.refl _ _
end
end Go.AI
namespace Go.AI
open Go
noncomputable section
theorem ZlE{x y:Nat}(h:x≠y)(k:IntKind)(G:Heap):eqV eqI true (nI k x) (nI k y) G= .val (.bool true) G:=by rw[ZcS,Zh h]
theorem ZlF{x y:Nat}(h:x=y)(k:IntKind)(G:Heap):eqV eqI true (nI k x) (nI k y) G= .val (.bool false) G:=by rw[ZcS,Zc (fun hn=>hn h)]
theorem neZ(a b:Int)(k:IntKind)(G:Heap):eqV eqI true (.int k a) (.int k b) G= .val (.bool (!decide (a=b))) G:=by
 show VZ (cond (kEq k k) (some (ieq a b)) none) (fun b=>Uh (cond true (cond b false true) b) G)=_
 rw[YH,ZaZ]
 show Uh (cond (decide (a=b)) false true) G=_
 rw[V6];cases decide (a=b)<;>rfl
theorem neB(a b:Bool)(G:Heap):eqV eqB true (.bool a) (.bool b) G= .val (.bool (!decide (a=b))) G:=by
 cases a<;>cases b<;>rfl
def Zov(Zk:Lib)(fs:T CF)(fuel n h:Nat):Prop:= ∀{v w:JV} {cs ds:List AV} {H:Heap},H.ro≤H.nx→VR H h v cs→VR H h w ds→JV.ok h v→JV.ok h w→
 ∃H',ZQ (LK Zk fs fuel 4) fs fuel n 42 [.agg cs, .agg ds] H= .ret (.bool (JV.same h v w)) H'∧Keep H H' []
theorem Zvg{Zk:Lib}{fs:T CF}{fuel:Nat}(E:Env Zk fs fuel){n h:Nat}(ih:Zov Zk fs fuel n h){x y:JV}{a b:List UInt8}{t u:List AV}{H:Heap}(hro:H.ro≤H.nx)(hx:VR H h x t)(hy:VR H h y u)(ox:JV.ok h x)(oy:JV.ok h y):
  ∃H',ZQ (LK Zk fs fuel 4) fs fuel (n+1) 87 [.agg (.str a::t), .agg (.str b::u)] H= .ret (.bool (decide (a=b)&&JV.same h x y)) H'∧Keep H H' []:=by
 rw[ZV (ZL E.n87 (.inr rfl) _ _) E.f87]
 have ht:=hx.len
 have hu:=hy.len
 obtain⟨H1,hH1⟩: ∃G,H.new (rG 100 1 (.str a::t) 0 false true true)=G:=⟨_,rfl⟩
 have bx:=WK (l:= .str a::t) (by rw[Zn];omega) 100 H
 rw[hH1] at bx
 have nx1:H1.nx=H.nx+1:=by rw[←hH1];rfl
 have g1:H1.t.get H.nx=some (rG 100 1 (.str a::t) 0 false true true):=by rw[←hH1,ZA rfl]
 obtain⟨H2,hH2⟩: ∃G,H1.new (rG 100 1 (.str b::u) 0 false true true)=G:=⟨_,rfl⟩
 have by_:=WK (l:= .str b::u) (by rw[Zn];omega) 100 H1
 rw[hH2,nx1] at by_
 have g2:H2.t.get H.nx=some (rG 100 1 (.str a::t) 0 false true true):=by rw[←hH2,ZH (by omega)];exact g1
 have g3:H2.t.get (H.nx+1)=some (rG 100 1 (.str b::u) 0 false true true):=by rw[←hH2,ZA nx1]
 have l2: ∀G:Heap,ld1 (some (rG 100 1 (.str a::t) 0 false true true)) 0 G= .val (.str a) G:=fun G=>by rw[ZT (by rw[Zn];omega)];rfl
 have l3: ∀G:Heap,ld1 (some (rG 100 1 (.str b::u) 0 false true true)) 0 G= .val (.str b) G:=fun G=>by rw[ZT (by rw[Zn];omega)];rfl
 have m2: ∀G:Heap,ldN 6 (some (rG 100 1 (.str a::t) 0 false true true)) 1 G= .val (.agg t) G:=fun G=>by rw[Yu (by rw[Zn];omega)];congr 2;rw[List.drop_succ_cons,ZK,Zv (by omega)]
 have m3: ∀G:Heap,ldN 6 (some (rG 100 1 (.str b::u) 0 false true true)) 1 G= .val (.agg u) G:=fun G=>by rw[Yu (by rw[Zn];omega)];congr 2;rw[List.drop_succ_cons,ZK,Zv (by omega)]
 have k2:Keep H H2 []:=by rw[←hH2,←hH1];exact(Keep.new H _ _).then_new _
 have ro2:H2.ro≤H2.nx:=by rw[k2.ro];have:=k2.nx;omega
 obtain⟨H3,e3,k3⟩:=ih ro2 (hx.keep k2) (hy.keep k2) ox oy
 by_cases hab:a=b
 ·have d1:decide (a=b)=true:=Zh hab
  rw[d1,Bool.true_and]
  simp(maxSteps:=4000000) (disch:=first|assumption|omega|(simp -implicitDefEqProofs only[Zt,Zu]<;>first|assumption|omega)|decide) only[bx,by_,nx1,g2,g3,l2,l3,m2,m3,d1,e3,VB,Nat.add_zero,Zo,c87,ZG,N8G,Zr,Zs,Zd,Ze,Zf,Nat.reduceEqDiff,reduceCtorEq,TB0]
  refine⟨_,rfl,?_⟩
  exact k2.trans k3 (by simp)
 ·have d1:decide (a=b)=false:=Zc hab
  rw[d1,Bool.false_and]
  simp(maxSteps:=4000000) (disch:=first|assumption|omega|(simp -implicitDefEqProofs only[Zt,Zu]<;>first|assumption|omega)|decide) only[bx,by_,nx1,g2,g3,l2,l3,m2,m3,d1,VB,Nat.add_zero,Zo,c87,ZG,N8G,Zr,Zs,Zd,Ze,Zf,Nat.reduceEqDiff,reduceCtorEq,TB0]
  refine⟨_,rfl,?_⟩
  exact k2
def sbl:AV→List Nat
 | .slice b _ _ _=>[b]
 |_=>[]
theorem Cln.keepS{H0:Heap}{h:Nat}{M:List (List UInt8×JV)}{v:AV}{H H':Heap}{S:List Nat}(c:Cln H0 h M v H)(k:Keep H H' S)(hS: ∀b o n c,v= .slice b o n c→b∉S):Cln H0 h M v H':=by
 rcases c with⟨h1,h2⟩|⟨h1,b,h2,h3,L,r,h4,h5⟩
 ·refine .inl ⟨h1,?_⟩
  rcases h2 with h2|⟨b,h2,h3⟩
  ·exact .inl h2
  ·exact .inr ⟨b,h2,ZC h3 k.nx⟩
 ·exact .inr ⟨h1,b,h2,h3,L,r,h4.moved (k.get b h4.low (hS _ _ _ _ h2)) k.ro k.nx,h5⟩
theorem ZyN{Zk:Lib}{fs:T CF}{fuel:Nat}(E:Env Zk fs fuel): ∀(h:Nat),h≤100→ ∀(n:Nat),3*h+20≤n→Zov Zk fs fuel n h:=by
 intro h
 induction h with
 |zero=>intro _ n _ v w cs ds H _ hv;exact hv.elim
 |succ h ih=>
 intro hh n hn v w cs ds H hro hv hw ov ow
 obtain⟨n,rfl⟩: ∃q,n=q+10:=⟨n - 10,by omega⟩
 have ih8:Zov Zk fs fuel (n+8) h:=ih (by omega) (n+8) (by omega)
 have ih7:Zov Zk fs fuel (n+7) h:=ih (by omega) (n+7) (by omega)
 obtain⟨k1,b1,z1,s1,l1,m1⟩:=v
 obtain⟨k2,b2,z2,s2,l2,m2⟩:=w
 obtain⟨lv1,mv1,ls1,ms1,rfl,_,_,_,hl1,_,sl1,sm1,el1,en1,hvl1,hvm1⟩:=hv
 obtain⟨lv2,mv2,ls2,ms2,rfl,_,_,_,hl2,_,sl2,sm2,el2,en2,hvl2,hvm2⟩:=hw
 obtain⟨_,h121,ol1,om1⟩:=ov
 obtain⟨_,h122,ol2,om2⟩:=ow
 rw[ZV (ZL E.n42 (.inl (by decide)) _ _) E.f42]
 have hsame:JV.same (h+1) (.mk k1 b1 z1 s1 l1 m1) (.mk k2 b2 z2 s2 l2 m2)=(decide (k1=k2)&&decide (b1=b2)&&decide (z1=z2)&&decide (s1=s2)&&decide (m1.length=m2.length)&&JV.eqL (JV.same h) l1 l2&&JV.eqM (JV.same h) (YG ltE m1) (YG ltE m2)):=rfl
 rw[hsame]
 obtain⟨H1,hH1⟩: ∃G,H.new (rG 72 1 [nI .i64 k1, .bool b1, .int .i64 z1, .str s1,lv1,mv1] 0 false true true)=G:=⟨_,rfl⟩
 have bx:=WK (l:=[nI .i64 k1, .bool b1, .int .i64 z1, .str s1,lv1,mv1]) (Nat.le_add_left 1 5) 72 H
 rw[hH1] at bx
 have nx1:H1.nx=H.nx+1:=by rw[←hH1];rfl
 have g1:H1.t.get H.nx=some (rG 72 1 [nI .i64 k1, .bool b1, .int .i64 z1, .str s1,lv1,mv1] 0 false true true):=by rw[←hH1,ZA rfl]
 obtain⟨H2,hH2⟩: ∃G,H1.new (rG 72 1 [nI .i64 k2, .bool b2, .int .i64 z2, .str s2,lv2,mv2] 0 false true true)=G:=⟨_,rfl⟩
 have by_:=WK (l:=[nI .i64 k2, .bool b2, .int .i64 z2, .str s2,lv2,mv2]) (Nat.le_add_left 1 5) 72 H1
 rw[hH2,nx1] at by_
 have g2:H2.t.get H.nx=some (rG 72 1 [nI .i64 k1, .bool b1, .int .i64 z1, .str s1,lv1,mv1] 0 false true true):=by rw[←hH2,ZH (by omega)];exact g1
 have g3:H2.t.get (H.nx+1)=some (rG 72 1 [nI .i64 k2, .bool b2, .int .i64 z2, .str s2,lv2,mv2] 0 false true true):=by rw[←hH2,ZA nx1]
 have K2:Keep H H2 []:=by rw[←hH2,←hH1];exact(Keep.new H _ _).then_new _
 have ro2:H2.ro≤H2.nx:=by rw[K2.ro];have:=K2.nx;omega
 have em1:=sm1.len
 have em2:=sm2.len
 rw[en1] at em1
 rw[en2] at em2
 by_cases hk: ¬k1=k2
 ·skip
  have d1:=ZlE hk .i64
  rw[Zc hk]
  simp only[Bool.false_and]
  simp(maxSteps:=4000000) (disch:=first|assumption|omega|(simp -implicitDefEqProofs only[Zt,Zu]<;>first|assumption|omega)|decide) only[bx,by_,nx1,g2,g3,ZT,Nat.add_zero,Zo,Bool.not_true,Bool.not_false,neB,neZ,ZcV,em1,em2,d1,c42,ZG,N8G,Zr,Zs,Zd,Ze,Zf,Nat.reducePow,Nat.reduceDiv,Nat.reduceMod,Nat.reduceEqDiff,reduceCtorEq,TB0,TB1,TB2]
  refine⟨_,rfl,?_⟩
  exact K2
 have hk:=Decidable.not_not.1 hk
 have d1:=ZlF hk .i64
 rw[Zh hk]
 by_cases hb: ¬b1=b2
 ·skip
  have d2:decide (b1=b2)=false:=Zc hb
  rw[d2]
  simp only[Bool.false_and,Bool.true_and]
  simp(maxSteps:=4000000) (disch:=first|assumption|omega|(simp -implicitDefEqProofs only[Zt,Zu]<;>first|assumption|omega)|decide) only[bx,by_,nx1,g2,g3,ZT,Nat.add_zero,Zo,Bool.not_true,Bool.not_false,neB,neZ,ZcV,em1,em2,d1,d2,c42,ZG,N8G,Zr,Zs,Zd,Ze,Zf,Nat.reducePow,Nat.reduceDiv,Nat.reduceMod,Nat.reduceEqDiff,reduceCtorEq,TB0,TB1,TB2]
  refine⟨_,rfl,?_⟩
  exact K2
 have hb:=Decidable.not_not.1 hb
 have d2:decide (b1=b2)=true:=Zh hb
 rw[d2]
 by_cases hz: ¬z1=z2
 ·skip
  have d3:decide (z1=z2)=false:=Zc hz
  rw[d3]
  simp only[Bool.false_and,Bool.true_and]
  simp(maxSteps:=4000000) (disch:=first|assumption|omega|(simp -implicitDefEqProofs only[Zt,Zu]<;>first|assumption|omega)|decide) only[bx,by_,nx1,g2,g3,ZT,Nat.add_zero,Zo,Bool.not_true,Bool.not_false,neB,neZ,ZcV,em1,em2,d1,d2,d3,c42,ZG,N8G,Zr,Zs,Zd,Ze,Zf,Nat.reducePow,Nat.reduceDiv,Nat.reduceMod,Nat.reduceEqDiff,reduceCtorEq,TB0,TB1,TB2]
  refine⟨_,rfl,?_⟩
  exact K2
 have hz:=Decidable.not_not.1 hz
 have d3:decide (z1=z2)=true:=Zh hz
 rw[d3]
 by_cases hs: ¬s1=s2
 ·skip
  have d4:decide (s1=s2)=false:=Zc hs
  rw[d4]
  simp only[Bool.false_and,Bool.true_and]
  simp(maxSteps:=4000000) (disch:=first|assumption|omega|(simp -implicitDefEqProofs only[Zt,Zu]<;>first|assumption|omega)|decide) only[bx,by_,nx1,g2,g3,ZT,Nat.add_zero,Zo,Bool.not_true,Bool.not_false,neB,neZ,ZcV,em1,em2,d1,d2,d3,d4,c42,ZG,N8G,Zr,Zs,Zd,Ze,Zf,Nat.reducePow,Nat.reduceDiv,Nat.reduceMod,Nat.reduceEqDiff,reduceCtorEq,TB0,TB1,TB2]
  refine⟨_,rfl,?_⟩
  exact K2
 have hs:=Decidable.not_not.1 hs
 have d4:decide (s1=s2)=true:=Zh hs
 rw[d4]
 by_cases hm: ¬m1.length=m2.length
 ·skip
  have d5:=ZlE hm .i64
  rw[Zc hm]
  simp only[Bool.false_and,Bool.true_and]
  simp(maxSteps:=4000000) (disch:=first|assumption|omega|(simp -implicitDefEqProofs only[Zt,Zu]<;>first|assumption|omega)|decide) only[bx,by_,nx1,g2,g3,ZT,Nat.add_zero,Zo,Bool.not_true,Bool.not_false,neB,neZ,ZcV,em1,em2,d1,d2,d3,d4,d5,c42,ZG,N8G,Zr,Zs,Zd,Ze,Zf,Nat.reducePow,Nat.reduceDiv,Nat.reduceMod,Nat.reduceEqDiff,reduceCtorEq,TB0,TB1,TB2]
  refine⟨_,rfl,?_⟩
  exact K2
 have hm:=Decidable.not_not.1 hm
 have d5:=ZlF hm .i64
 rw[Zh hm]
 simp only[Bool.true_and]
 obtain⟨H3,e3,K3⟩:=efV E (k:=4) (n:=n+8) (q:=42) (sl1.keep0 K2) (sl2.keep0 K2) ro2 (by omega) (p:=fun i=>JV.same h (l1.getD i default) (l2.getD i default)) (fun he i hi G kG rG=>by
  have i1:i<l1.length:=by omega
  have i2:i<l2.length:=by omega
  exact ih8 rG ((hvl1 i i1).keep (K2.trans kG (by simp))) ((hvl2 i i2).keep (K2.trans kG (by simp))) (ol1 _ (by rw[Zi,Zp i1];exact List.getElem_mem i1)) (ol2 _ (by rw[Zi,Zp i2];exact List.getElem_mem i2)))
 have hE:(decide (ls1.length=ls2.length)&&Za4 (fun i=>JV.same h (l1.getD i default) (l2.getD i default)) ls1.length 0)=JV.eqL (JV.same h) l1 l2:=by
  rw[el1,el2]
  by_cases hl:l1.length=l2.length
  ·rw[Zh hl,Bool.true_and,←Zs9 (JV.same h) hl l1.length 0 (by omega)];rfl
  ·rw[Zc hl,Bool.false_and,JV.eqL_len _ hl]
 rw[hE] at e3
 have K03:=K2.trans K3 (by simp)
 cases hq:JV.eqL (JV.same h) l1 l2 with
 |false=>
  rw[hq] at e3
  simp only[Bool.false_and]
  simp(maxSteps:=4000000) (disch:=first|assumption|omega|(simp -implicitDefEqProofs only[Zt,Zu]<;>first|assumption|omega)|decide) only[bx,by_,nx1,g2,g3,ZT,Nat.add_zero,Zo,Bool.not_true,Bool.not_false,neB,neZ,ZcV,em1,em2,d1,d2,d3,d4,d5,e3,Zca,c42,ZG,N8G,Zr,Zs,Zd,Ze,Zf,Nat.reducePow,Nat.reduceDiv,Nat.reduceMod,Nat.reduceEqDiff,reduceCtorEq,TB0,TB1,TB2]
  refine⟨_,rfl,?_⟩
  exact K03
 |true=>
  rw[hq] at e3
  rw[Bool.true_and]
  have g2':H3.t.get H.nx=some (rG 72 1 [nI .i64 k1, .bool b1, .int .i64 z1, .str s1,lv1,mv1] 0 false true true):=by rw[K3.get _ (by rw[←hH2,Vn,nx1];omega) (by simp)];exact g2
  have g3':H3.t.get (H.nx+1)=some (rG 72 1 [nI .i64 k2, .bool b2, .int .i64 z2, .str s2,lv2,mv2] 0 false true true):=by rw[K3.get _ (by rw[←hH2,Vn,nx1];omega) (by simp)];exact g3
  have nx2:H2.nx=H.nx+1+1:=by rw[←hH2,Vn,nx1]
  have nx3:=K3.nx
  have ro3:H3.ro≤H3.nx:=by rw[K3.ro];omega
  obtain⟨v1,H4,e4,K4,c1,f1⟩:=Znd E (k:=4) (n:=n+8) (Keep.refl H3 []) ro3 (sm1.keep0 K03) en1 (M:=m1) (h:=h) (fun i hi=>by
   obtain⟨a1,t,a2,a3⟩:=hvm1 i hi
   exact⟨a1,t,a2,a3.keep K03⟩) (by omega)
  have ro4:H4.ro≤H4.nx:=by rw[K4.ro];have:=K4.nx;omega
  obtain⟨v2,H5,e5,K5,c2,f2⟩:=Znd E (k:=4) (n:=n+8) K4 ro4 (sm2.keep0 K03) en2 (M:=m2) (h:=h) (fun i hi=>by
   obtain⟨a1,t,a2,a3⟩:=hvm2 i hi
   exact⟨a1,t,a2,a3.keep K03⟩) (by omega)
  have ro5:H5.ro≤H5.nx:=by rw[K5.ro];have:=K5.nx;omega
  have K35:=K4.trans K5 (by simp)
  have nx4:=K4.nx
  have nx5:=K5.nx
  have lp1:Yn H3.nx (.ptr H.nx 0)=true:=ZO (by omega) 0
  have lp2:Yn H3.nx (.ptr (H.nx+1) 0)=true:=ZO (by omega) 0
  have ss1:=sm1.same
  have ss2:=sm2.same
  have g34:H4.t.get (H.nx+1)=some (rG 72 1 [nI .i64 k2, .bool b2, .int .i64 z2, .str s2,lv2,mv2] 0 false true true):=by rw[K4.get _ (by omega) (by simp)];exact g3'
  have low1:=c1.low (n:=H4.nx) (Zl _)
  have c1':=c1.keep K5
  have same1:=c1.same
  have low1':=c1'.low (n:=H5.nx) (Zl _)
  have hf:Zot Zk fs fuel 4 82:=fun{a b t u H j} ht hu=>ZF3 E (k:=4) (n:=j) (by decide) ht hu
  have hsb: ∀v:AV,∀b o n c,v= .slice b o n c→b∈sbl v:=fun v b o n c e=>by subst e;exact List.mem_singleton.2 rfl
  obtain⟨H6,e6,K6,c16⟩:=ZlD E (k:=4) (n0:=n+5) hf h121 K35.nx (fun b o n c e _=>hsb v1 b o n c e) c1'
  have c2':=c2.keepS K6 (fun b o n c e hb=>by
   have h2:=f2 _ _ _ _ e
   have nx5:=K5.nx
   rcases c1 with⟨_,rfl|⟨b',rfl,hb'⟩⟩|⟨_,b',rfl,_,s'⟩
   ·simp[sbl] at hb
   ·simp[sbl] at hb;omega
   ·obtain⟨L,r,q1,_⟩:=s'.ok
    have:=q1.low
    simp[sbl] at hb;omega)
  have K36:Keep H3 H6 []:=K35.trans K6 (fun b hb hlt=>by
   cases v1 with
   |slice b' o n c=>simp[sbl] at hb;have:=f1 _ _ _ _ rfl;omega
   |_=>simp[sbl] at hb)
  obtain⟨H7,e7,K7,c27⟩:=ZlD E (k:=4) (n0:=n+5) hf h122 K36.nx (fun b o n c e _=>hsb v2 b o n c e) c2'
  have c17:=c16.keepS K7 (fun b o n c e hb=>by
   have hb2:b=b→True:=fun _=>trivial
   have h1:b<H4.nx:=by
    rcases c1 with⟨_,rfl|⟨b',rfl,hb'⟩⟩|⟨_,b',rfl,_,s'⟩
    ·cases e
    ·cases e;exact hb'
    ·obtain⟨L,r,q1,_⟩:=s'.ok
     cases e;exact q1.low
   cases v2 with
   |slice b' o n c=>simp[sbl] at hb;have:=f2 _ _ _ _ rfl;omega
   |_=>simp[sbl] at hb)
  have K37:Keep H3 H7 []:=K36.trans K7 (fun b hb hlt=>by
   cases v2 with
   |slice b' o n c=>simp[sbl] at hb;have:=f2 _ _ _ _ rfl;have:=K4.nx;omega
   |_=>simp[sbl] at hb)
  have ro7:H7.ro≤H7.nx:=by rw[K37.ro];have:=K37.nx;omega
  obtain⟨xs1,sx1,ex1,hx1⟩:=c17.sl
  obtain⟨xs2,sx2,ex2,hx2⟩:=c27.sl
  rw[Zbn] at ex1 ex2
  have q1:(YG ltE m1).length=m1.length:=Zbn ltE m1
  have q2:(YG ltE m2).length=m2.length:=Zbn ltE m2
  obtain⟨H8,e8,K8⟩:=efE E (k:=4) (n:=n+8) (q:=87) sx1 sx2 ro7 (by omega) (p:=fun i=>decide (((YG ltE m1).getD i default).1=((YG ltE m2).getD i default).1)&&JV.same h ((YG ltE m1).getD i default).2 ((YG ltE m2).getD i default).2) (fun he i hi G kG rG=>by
   have i1:i<(YG ltE m1).length:=by omega
   have i2:i<(YG ltE m2).length:=by omega
   obtain⟨_,t1,w1,y1⟩:=hx1 i i1
   obtain⟨_,t2,w2,y2⟩:=hx2 i i2
   rw[w1,w2]
   have kk:=K37.trans kG (by simp)
   exact Zvg E ih7 rG (y1.keep kk) (y2.keep kk) (om1 _ (Zcz ltE _ (by rw[Zi,Zp i1];exact List.getElem_mem i1))) (om2 _ (Zcz ltE _ (by rw[Zi,Zp i2];exact List.getElem_mem i2))))
  have hM:(decide (xs1.length=xs2.length)&&Za4 (fun i=>decide (((YG ltE m1).getD i default).1=((YG ltE m2).getD i default).1)&&JV.same h ((YG ltE m1).getD i default).2 ((YG ltE m2).getD i default).2) xs1.length 0)=JV.eqM (JV.same h) (YG ltE m1) (YG ltE m2):=by
   rw[ex1,ex2,Zh hm,Bool.true_and,←q1,←Zta (JV.same h) (by omega) (YG ltE m1).length 0 (by omega)];rfl
  rw[hM] at e8
  simp(maxSteps:=4000000) (disch:=first|assumption|omega|(simp -implicitDefEqProofs only[Zt,Zu]<;>first|assumption|omega)|decide) only[bx,by_,nx1,g2,g3,ZT,Nat.add_zero,Zo,Bool.not_true,Bool.not_false,neB,neZ,ZcV,em1,em2,d1,d2,d3,d4,d5,e3,Zca,g2',g3',e4,e5,e6,e7,e8,low1,low1',same1,lp1,lp2,ss1,ss2,g34,c42,ZG,N8G,Zr,Zs,Zd,Ze,Zf,Nat.reducePow,Nat.reduceDiv,Nat.reduceMod,Nat.reduceEqDiff,reduceCtorEq,TB0,TB1,TB2]
  refine⟨_,rfl,?_⟩
  exact(K03.trans K37 (by simp)).trans K8 (by simp)
end
end Go.AI
