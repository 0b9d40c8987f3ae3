/- Values' texts, walked: proved without conditions but those that each names. -/
import Derived.Test.YtobbpmaeiiblaaaGreatDoorPC
import Derived.Test.YtobbpmaeiiblaaaGreatDoorPB
set_option maxRecDepth 1000000
set_option maxHeartbeats 0
set_option linter.unusedVariables false
set_option linter.unusedSimpArgs false
namespace Go.AI
open Go
noncomputable section
theorem ZjV(n:Nat)(h:n<18446744073709551616):(dec n).length≤20:=by rw[Zif];exact ZoJ (by omega) (by omega)
def ZoS(Zm:Lib)(fs:T CF)(fuel n h:Nat):Prop:= ∀{v:JV} {cs:List AV} {H:Heap},Glob H→H.ro≤H.nx→VR H h v cs→JV.ok h v→JV.tb h v≤800000000→
 ∃H',ZR (LK Zm fs fuel 4) fs fuel n 68 [.agg cs] H= .ret (.str (JV.text h v)) H'∧Keep H H' []
structure TLI(H0:Heap)(h:Nat)(l:List JV)(lv:AV)(m:Nat)(tm:TM)(H:Heap):Prop where
 i: ∃i v,W7 tm=nI .i64 i∧i≤l.length∧m=l.length - i∧gt3 tm=v∧RBuf H v 9 1 (((l.take i).map (JV.text h)).map fun s=>[AV.str s]) H0.nx
 t31:WL tm=lv
 t32:Ud tm=nI .i64 l.length
 k:Keep H0 H []
 ro:H.ro≤H.nx
theorem ZDb{Zm:Lib}{fs:T CF}{fuel:Nat}(E:Env Zm fs fuel){n h:Nat}(ih:ZoS Zm fs fuel n h){H0:Heap}{l:List JV}{lv:AV}{ls:List (List AV)}(g0:Glob H0)(sl:Sl H0 6 lv ls)(e:ls.length=l.length)(hl:l.length≤9000)(hv: ∀i,i<l.length→VR H0 h (l.getD i default) (ls.getD i []))(ho: ∀x∈l,JV.ok h x)(hb: ∀x∈l,JV.tb h x≤800000000)(y f d r)(x:X)(m:Nat)(tm:TM)(H:Heap)(hI:TLI H0 h l lv m tm H):
  ∃o tm' H',ZlM ⟨ZR (LK Zm fs fuel 4) fs fuel n,y,f,d,r⟩ tm H x= .ok o tm' H' x∧((o= .normal∧ ∃q,q<m∧TLI H0 h l lv q tm' H')∨(o≠ .normal∧(o= .exit 1∧ ∃v,gt3 tm'=v∧RBuf H' v 9 1 ((l.map (JV.text h)).map fun s=>[AV.str s]) H0.nx∧Keep H0 H' []∧H'.ro≤H'.nx))):=by
 obtain⟨⟨i,v,t33,hi,rfl,t3,rb⟩,t31,t32,k0,hro⟩:=hI
 have t3':=t3;have t31':=t31;have t32':=t32
 simp only[Zfl] at t3
 simp only[Zxp] at t31
 simp only[ZBE] at t32
 simp only[Zxq] at t33
 by_cases hlt:i<l.length
 ·have d1:decide (i<l.length)=true:=Zh hlt
  obtain⟨b',o',r',eI,hb',gb,eL,_⟩:=(sl.keep0 k0).at_ (i:=i) (by omega)
  have hmem:l.getD i default∈l:=by rw[Zj,Zp hlt];exact YL hlt
  have hvi:=hv i hlt
  have hx:=hvi.len
  have hoi:=ho _ hmem
  have hbi:=hb _ hmem
  have ets:=Zam hlt (default:JV)
  generalize l.getD i default=xv at*
  generalize ls.getD i []=xs at*
  obtain⟨HA,hA⟩: ∃G,H.new (rG 72 1 xs 0 false true true)=G:=⟨_,rfl⟩
  have nxA:HA.nx=H.nx+1:=by rw[←hA];rfl
  have hB:=Y8 (n:=6) (l:=[nI .i64 0, .bool false,nI .i64 0, .str [], .nils, .nils]) (vs:=xs) (by rfl) hx (by omega) (show(H.new (rG 72 1 [nI .i64 0, .bool false,nI .i64 0, .str [], .nils, .nils] 0 false true true)).ro≤H.nx from hro) 72 1 false true
  rw[VX rfl,hA] at hB
  have gA:HA.t.get H.nx=some (rG 72 1 xs 0 false true true):=by rw[←hA,ZP rfl]
  have ldx: ∀G:Heap,ldN 6 (some (rG 72 1 xs 0 false true true)) 0 G= .val (.agg xs) G:=fun G=>by rw[WH (by omega)];congr 2;rw[Yl,ZK (by omega)]
  have kA:Keep H0 HA []:=by rw[←hA];exact k0.then_new _
  obtain⟨HC,eC,kC⟩:=ih (g0.keep kA (by simp)) (by rw[←hA];show H.ro≤H.nx+1;omega) (hvi.keep kA) hoi hbi
  have rC:RBuf HC v 9 1 _ H0.nx:=rb.below (fun c h1 h2=>by rw[kC.get c (by omega) (by simp),←hA,Yy (by omega)]) (by rw[kC.ro,←hA];rfl) (by have:=kC.nx;omega)
  have roC:HC.ro≤HC.nx:=by rw[kC.ro,←hA];show H.ro≤_;have:=kC.nx;omega
  obtain⟨v',H',ea,r2,w⟩:=Zda rC (bytes:=16) (by omega) (by omega) (by rw[ZA,ZA,Yb];omega) roC (by have:=kC.nx;have:=k0.nx;omega) (x:=[.str (JV.text h xv)]) rfl
  rw[Wi] at ea
  have k2:=Below.keep (kA.trans kC (by simp)) w (Zk _)
  have r3:RBuf H' v' 9 1 (((l.take (i+1)).map (JV.text h)).map fun s=>[AV.str s]) H0.nx:=by rw[ets,List.map_append,List.map_append];exact r2
  simp(maxSteps:=4000000) (disch:=first|assumption|omega|(simp -implicitDefEqProofs only[Zu,Zv]<;>first|assumption|omega)|decide) only[t3,t31,t32,t33,d1,eI,gb,eL,hB,gA,nxA,ldx,eC,ea,Zbt,Wi,ZI,Yw,ZlM,ZC,N8G,Zr,Zs,Zd,Ze,Zf,Nat.reduceEqDiff,reduceCtorEq,TB0,TB1]
  refine⟨_,_,_,rfl,?_⟩
  exact .inl ⟨rfl,l.length - (i+1),by omega,⟨⟨i+1,v',(by simp only[TB1,N8G]),by omega,rfl,(by simp only[TB0,N8G]),r3⟩,(by simp only[TB0,N8G];exact t31'),(by simp only[TB1,N8G];exact t32'),k2,by rw[w.ro];have:=w.nx;omega⟩⟩
 ·have d1:decide (i<l.length)=false:=Zc hlt
  rw[ZK (by omega)] at rb
  simp(maxSteps:=4000000) (disch:=first|assumption|omega|(simp -implicitDefEqProofs only[Zu,Zv]<;>first|assumption|omega)|decide) only[t32,t33,d1,ZI,ZlM,ZC,N8G,Zr,Zs,Zd,Ze,Zf,Nat.reduceEqDiff,reduceCtorEq,TB0,TB1]
  refine⟨_,_,_,rfl,?_⟩
  exact .inr ⟨by simp,rfl,v,(by simp only[TB0,N8G];exact t3'),rb,k0,hro⟩
def ZaK(h:Nat)(e:List UInt8×JV):List UInt8:=quo e.1++[58]++JV.text h e.2
structure TMI(H0 HB:Heap)(h b:Nat)(M:List (List UInt8×JV))(m:Nat)(tm:TM)(H:Heap):Prop where
 i: ∃i v,ZaA tm=nI .i64 i∧i≤M.length∧m=M.length - i∧gt3 tm=v∧RBuf H v 9 1 (((M.take i).map (ZaK h)).map fun s=>[AV.str s]) HB.nx
 t51:M≠[]→Qc tm= .slice b 0 M.length none
 t52:Vi tm=nI .i64 M.length
 k:Keep HB H []
 ro:H.ro≤H.nx
theorem ZDc{Zm:Lib}{fs:T CF}{fuel:Nat}(E:Env Zm fs fuel){n h b:Nat}(ih:ZoS Zm fs fuel (n+1) h){H0 HB:Heap}{M:List (List UInt8×JV)}(g0:Glob H0)(kB:Keep H0 HB [])(sr:M≠[]→SRow H0 h b M HB)(hl:M.length≤9000)(ho: ∀x∈M,JV.ok h x.2)(hb: ∀x∈M,JV.tb h x.2≤800000000)(y f d r)(x:X)(m:Nat)(tm:TM)(H:Heap)(hI:TMI H0 HB h b M m tm H):
  ∃o tm' H',ZlN ⟨ZR (LK Zm fs fuel 4) fs fuel (n+1),y,f,d,r⟩ tm H x= .ok o tm' H' x∧((o= .normal∧ ∃q,q<m∧TMI H0 HB h b M q tm' H')∨(o≠ .normal∧(o= .exit 3∧ ∃v,gt3 tm'=v∧RBuf H' v 9 1 ((M.map (ZaK h)).map fun s=>[AV.str s]) HB.nx∧Keep HB H' []∧H'.ro≤H'.nx))):=by
 obtain⟨⟨i,v,t53,hi,rfl,t3,rb⟩,t51,t52,k0,hro⟩:=hI
 have t3':=t3;have t51':=t51;have t52':=t52
 simp only[Zfl] at t3
 simp only[ZET] at t52
 simp only[ZEU] at t53
 by_cases hlt:i<M.length
 ·have d1:decide (i<M.length)=true:=Zh hlt
  have hne:M≠[]:=by rintro rfl;cases hlt
  have t51:=t51 hne
  simp only[ZES] at t51
  obtain⟨r',gb,hb',_,hat⟩:=((sr hne).keep k0).at_
  obtain⟨tt,htl,hvi,hk9,eL⟩:=hat i hlt
  have hmem:M.getD i default∈M:=by rw[Zj,Zp hlt];exact YL hlt
  have hoi:=ho _ hmem
  have hbi:=hb _ hmem
  have ets:=Zam hlt (default:List UInt8×JV)
  generalize M.getD i default=e at*
  obtain⟨key,ev⟩:=e
  have ix:=fun(G:Heap)=>Zal (sz:=7) hlt b 0 none .i64 G
  rw[Zi] at ix
  have kH:=kB.trans k0 (by simp)
  obtain⟨HA,hA⟩: ∃G,H.new (rG 100 1 (.str key::tt) 0 false true true)=G:=⟨_,rfl⟩
  have nxA:HA.nx=H.nx+1:=by rw[←hA];rfl
  have roA:HA.ro≤HA.nx:=by rw[←hA];show H.ro≤H.nx+1;omega
  have hB:=Y8 (n:=7) (l:=[.str [],nI .i64 0, .bool false,nI .i64 0, .str [], .nils, .nils]) (vs:= .str key::tt) (by rfl) (by rw[Zn,htl]) (by omega) (show(H.new (rG 100 1 [.str [],nI .i64 0, .bool false,nI .i64 0, .str [], .nils, .nils] 0 false true true)).ro≤H.nx from hro) 100 1 false true
  rw[VX rfl,hA] at hB
  have gA:HA.t.get H.nx=some (rG 100 1 (.str key::tt) 0 false true true):=by rw[←hA,ZP rfl]
  have ldt: ∀(G:Heap),ldN 6 (some (rG 100 1 (.str key::tt) 0 false true true)) 1 G= .val (.agg tt) G:=fun G=>by
   rw[WH (by rw[Zn,htl];omega)]
   congr 2
   rw[V2,Yl,ZK (by omega)]
  have ld0: ∀(G:Heap),ld1 (some (rG 100 1 (.str key::tt) 0 false true true)) 0 G= .val (.str key) G:=fun G=>by
   rw[ZH (by rw[Zn];omega)];rfl
  have kA:Keep HB HA []:=by rw[←hA];exact k0.then_new _
  have kA0:=kB.trans kA (by simp)
  have eq_:=fun{j}=>Zyy (Zm:=Zm) (fs:=fs) (fuel:=fuel) E (k:=4) (n:=j) (by decide) (s:=key) (H:=HA) hk9 roA
  obtain⟨HC,eC,kC⟩:=ih (g0.keep kA0 (by simp)) roA (hvi.keep kA0) hoi hbi
  have rC:RBuf HC v 9 1 _ HB.nx:=rb.below (fun c h1 h2=>by rw[kC.get c (by omega) (by simp),←hA,Yy (by omega)]) (by rw[kC.ro,←hA];rfl) (by have:=kC.nx;omega)
  have roC:HC.ro≤HC.nx:=by rw[kC.ro];have:=kC.nx;omega
  obtain⟨v',H',ea,r2,w⟩:=Zda rC (bytes:=16) (by omega) (by omega) (by rw[ZA,ZA,Yb];omega) roC (by have:=kC.nx;have:=k0.nx;omega) (x:=[.str (quo key++[58]++JV.text h ev)]) rfl
  rw[Wi] at ea
  have k2:=Below.keep (kA.trans kC (by simp)) w (Zk _)
  have r3:RBuf H' v' 9 1 (((M.take (i+1)).map (ZaK h)).map fun s=>[AV.str s]) HB.nx:=by rw[ets,List.map_append,List.map_append];exact r2
  have hk9:key.length≤9000:=hk9
  have q1:=(ZoP key).1
  have q2:(JV.text h ev).length≤800000000:=Z6 (JV.text_len ZjV h ev hoi) hbi
  have q3:(quo key++[58]).length≤60000:=by rw[Zq,Zn,Zw];omega
  have q4:(quo key).length+([58]:List UInt8).length≤60000:=by rw[Zn,Zw];omega
  have lt1:=hvi.low (n:=H.nx+1) (by have:=kA0.nx;omega)
  have lt2:=Zad hvi.same
  have lv1:=rb.low (n:=H.nx+1) (by omega)
  have lv2:=rC.low (n:=HC.nx) (Zk _)
  have lA: ∀o,YA (H.nx+1) (.ptr H.nx o)=true:=fun o=>ZL (by omega) o
  have lv3:YA H'.nx v'=true:=r3.low (Zk _)
  have ls3:YA (HC.nx+1) (.slice HC.nx 0 1 none)=true:=YP (by omega) _ _ _
  have lv4:YA (HC.nx+1) v=true:=rC.low (by omega)
  simp(maxSteps:=4000000) (disch:=first|assumption|omega|(simp -implicitDefEqProofs only[Zu,Zv]<;>first|assumption|omega)|decide) only[t3,t51,t52,t53,d1,ix,gb,eL,hB,gA,nxA,ldt,ld0,eq_,eC,ea,lt1,lt2,lv1,lv2,lv3,lv4,ls3,lA,Zbt,Wi,ZI,Yw,WN,Zt,Zi,Zlz,ZlN,ZC,N8G,Zr,Zs,Zd,Ze,Zf,Nat.reducePow,Nat.reduceDiv,Nat.reduceMod,Nat.reduceEqDiff,reduceCtorEq,TB0,TB1,TB2]
  refine⟨_,_,_,rfl,?_⟩
  exact .inl ⟨rfl,M.length - (i+1),by omega,⟨⟨i+1,v',(by simp only[TB1,N8G]),by omega,rfl,(by simp only[TB0,N8G]),r3⟩,fun hh=>(by simp only[TB1,N8G];exact t51' hh),(by simp only[TB1,N8G];exact t52'),k2,by rw[w.ro];have:=w.nx;omega⟩⟩
 ·have d1:decide (i<M.length)=false:=Zc hlt
  rw[ZK (by omega)] at rb
  simp(maxSteps:=4000000) (disch:=first|assumption|omega|(simp -implicitDefEqProofs only[Zu,Zv]<;>first|assumption|omega)|decide) only[t52,t53,d1,ZI,ZlN,ZC,N8G,Zr,Zs,Zd,Ze,Zf,Nat.reducePow,Nat.reduceDiv,Nat.reduceMod,Nat.reduceEqDiff,reduceCtorEq,TB0,TB1,TB2]
  refine⟨_,_,_,rfl,?_⟩
  exact .inr ⟨by simp,rfl,v,(by simp only[TB0,N8G];exact t3'),rb,k0,hro⟩
end
end Go.AI
namespace Go.AI
open Go
noncomputable section
theorem ZvH{Zm:Lib}{fs:T CF}{fuel:Nat}(E:Env Zm fs fuel){n:Nat}{b:Bool}{H:Heap}:
  ∃H',ZR (LK Zm fs fuel 0) fs fuel (n+2) 155 [.bool b] H= .ret (.str (if b=true then [116,114,117,101] else [102,97,108,115,101])) H'∧Keep H H' []:=by
 rw[ZV (ZN E.n155 (.inl (by decide)) _ _) E.f155]
 cases b with
 |true=>
  simp(maxSteps:=4000000) (disch:=first|assumption|omega|(simp -implicitDefEqProofs only[Zu,Zv]<;>first|assumption|omega)|decide) only[if_true,Zx1,ZC,N8G,Zr,Zs,Zd,Ze,Zf,Nat.reduceEqDiff,reduceCtorEq,TB0]
  refine⟨_,rfl,?_⟩
  exact Keep.refl _ _
 |false=>
  simp(maxSteps:=4000000) (disch:=first|assumption|omega|(simp -implicitDefEqProofs only[Zu,Zv]<;>first|assumption|omega)|decide) only[Bool.false_eq_true,if_false,Zx1,ZC,N8G,Zr,Zs,Zd,Ze,Zf,Nat.reduceEqDiff,reduceCtorEq,TB0]
  refine⟨_,rfl,?_⟩
  exact Keep.refl _ _
theorem ZFs{Zm:Lib}{fs:T CF}{fuel:Nat}(E:Env Zm fs fuel){k n:Nat}(hk:1≤k){b:Bool}{H:Heap}:
  ZR (LK Zm fs fuel k) fs fuel (n+1) 155 [.bool b] H= .ret (.str (if b=true then [116,114,117,101] else [102,97,108,115,101])) H:=by
 obtain⟨H',e,g⟩:=ZvH E (n:=898) (H:=H)
 exact Y6 (r:=0) rfl rfl e g (rfl) hk
theorem ZyL{Zm:Lib}{fs:T CF}{fuel:Nat}(E:Env Zm fs fuel){n:Nat}{b:Bool}{H:Heap}:
  ∃H',ZR (LK Zm fs fuel 1) fs fuel (n+3) 112 [.bool b] H= .ret (.str (if b=true then [116,114,117,101] else [102,97,108,115,101])) H'∧Keep H H' []:=by
 rw[ZV (ZN E.n112 (.inl (by decide)) _ _) E.f112]
 have e:=fun{j}=>ZFs (Zm:=Zm) (fs:=fs) (fuel:=fuel) E (k:=1) (n:=j) (by decide) (b:=b) (H:=H)
 simp(maxSteps:=4000000) (disch:=first|assumption|omega|(simp -implicitDefEqProofs only[Zu,Zv]<;>first|assumption|omega)|decide) only[e,ZAq,ZC,N8G,Zr,Zs,Zd,Ze,Zf,Nat.reduceEqDiff,reduceCtorEq,TB0]
 refine⟨_,rfl,?_⟩
 exact Keep.refl _ _
theorem ZHb{Zm:Lib}{fs:T CF}{fuel:Nat}(E:Env Zm fs fuel){k n:Nat}(hk:2≤k){b:Bool}{H:Heap}:
  ZR (LK Zm fs fuel k) fs fuel (n+1) 112 [.bool b] H= .ret (.str (if b=true then [116,114,117,101] else [102,97,108,115,101])) H:=by
 obtain⟨H',e,g⟩:=ZyL E (n:=897) (H:=H)
 exact Y6 (r:=1) rfl rfl e g (rfl) hk
theorem ZyM{Zm:Lib}{fs:T CF}{fuel:Nat}(E:Env Zm fs fuel)(M:MNZ Zm): ∀(h:Nat),h≤100→ ∀{n:Nat},h+20≤n→ZoS Zm fs fuel n h:=by
 intro h
 induction h with
 |zero=>intro _ n _ v cs H _ _ hv;exact hv.elim
 |succ h ih=>
 intro hh n hn v cs H g hro hv hok htb
 obtain⟨n,rfl⟩: ∃q,n=q+10:=⟨n - 10,by omega⟩
 have hlen:=JV.text_len ZjV (h+1) v hok
 obtain⟨kk,b,z,s,l,m⟩:=v
 obtain⟨lv,mv,ls,ms,rfl,hz1,hz2,hs9,hl9,hm9,sl,sm,e1,e2,hl,hm⟩:=hv
 obtain⟨_,hm12,hol,hom⟩:=hok
 rw[ZV (ZN E.n68 (.inl (by decide)) _ _) E.f68]
 obtain⟨H1,hH1⟩: ∃G,H.new (rG 72 1 [nI .i64 kk, .bool b, .int .i64 z, .str s,lv,mv] 0 false true true)=G:=⟨_,rfl⟩
 have nx1:H1.nx=H.nx+1:=by rw[←hH1];rfl
 have ro1:H1.ro≤H1.nx:=by rw[←hH1];show H.ro≤H.nx+1;omega
 have g1:H1.t.get H.nx=some (rG 72 1 [nI .i64 kk, .bool b, .int .i64 z, .str s,lv,mv] 0 false true true):=by rw[←hH1,ZP rfl]
 have k1:Keep H H1 []:=by rw[←hH1];exact Keep.new H _ _
 have tbl: ∀x∈l,JV.tb h x≤800000000:=fun x hx=>by
  have a:1+JV.tb h x≤(l.map fun x=>1+JV.tb h x).sum:=JV.mem_sum (fun x=>1+JV.tb h x) hx
  have b:50+6*s.length+(l.map fun x=>1+JV.tb h x).sum+(m.map fun e=>6*e.1.length+4+JV.tb h e.2).sum≤800000000:=htb
  omega
 have tbm: ∀e∈m,JV.tb h e.2≤800000000:=fun x hx=>by
  have a:6*x.1.length+4+JV.tb h x.2≤(m.map fun e=>6*e.1.length+4+JV.tb h e.2).sum:=JV.mem_sum (fun e:List UInt8×JV=>6*e.1.length+4+JV.tb h e.2) hx
  have b:50+6*s.length+(l.map fun x=>1+JV.tb h x).sum+(m.map fun e=>6*e.1.length+4+JV.tb h e.2).sum≤800000000:=htb
  omega
 have hte:JV.text (h+1) (.mk kk b z s l m)=(if kk=1 then [110,117,108,108] else if kk=2 then(if b=true then [116,114,117,101] else [102,97,108,115,101]) else if kk=3 then Zep z else if kk=4 then quo s else if kk=5 then [91]++Wc (l.map (JV.text h))++[93] else [123]++Wc ((WQ ltE m).map (ZaK h))++[125]):=rfl
 rw[hte] at hlen ⊢
 by_cases k1':kk=1
 ·have d1:decide (kk=1)=true:=Zh k1'
  rw[if_pos k1']
  simp(maxSteps:=4000000) (disch:=first|assumption|omega|(simp -implicitDefEqProofs only[Zu,Zv]<;>first|assumption|omega)|decide) only[nx1,g1,hH1,ZW,ZH,d1,c68,ZC,N8G,Zr,Zs,Zd,Ze,Zf,Nat.reduceEqDiff,reduceCtorEq,TB0,TB1,TB2]
  refine⟨_,rfl,?_⟩
  exact k1
 have d1:decide (kk=1)=false:=Zc k1'
 rw[if_neg k1'] at hlen ⊢
 by_cases k2':kk=2
 ·have d2:decide (kk=2)=true:=Zh k2'
  have e:=fun{j}=>ZHb (Zm:=Zm) (fs:=fs) (fuel:=fuel) E (k:=4) (n:=j) (by decide) (b:=b) (H:=H1)
  rw[if_pos k2']
  generalize(if b=true then [116,114,117,101] else [102,97,108,115,101])=bt at e ⊢
  simp(maxSteps:=4000000) (disch:=first|assumption|omega|(simp -implicitDefEqProofs only[Zu,Zv]<;>first|assumption|omega)|decide) only[nx1,g1,hH1,ZW,ZH,d1,d2,e,c68,ZC,N8G,Zr,Zs,Zd,Ze,Zf,Nat.reduceEqDiff,reduceCtorEq,TB0,TB1,TB2]
  refine⟨_,rfl,?_⟩
  exact k1
 have d2:decide (kk=2)=false:=Zc k2'
 rw[if_neg k2'] at hlen ⊢
 by_cases k3':kk=3
 ·have d3:decide (kk=3)=true:=Zh k3'
  have e:=fun{j}=>Zyc (Zm:=Zm) (fs:=fs) (fuel:=fuel) E (k:=4) (n:=j) (by decide) (z:=z) (H:=H1) (g.keep k1 (by simp)) ro1 hz1 hz2
  rw[if_pos k3']
  simp(maxSteps:=4000000) (disch:=first|assumption|omega|(simp -implicitDefEqProofs only[Zu,Zv]<;>first|assumption|omega)|decide) only[nx1,g1,hH1,ZW,ZH,d1,d2,d3,e,c68,ZC,N8G,Zr,Zs,Zd,Ze,Zf,Nat.reduceEqDiff,reduceCtorEq,TB0,TB1,TB2]
  refine⟨_,rfl,?_⟩
  exact k1
 have d3:decide (kk=3)=false:=Zc k3'
 rw[if_neg k3'] at hlen ⊢
 by_cases k4':kk=4
 ·have d4:decide (kk=4)=true:=Zh k4'
  have e:=fun{j}=>Zyy (Zm:=Zm) (fs:=fs) (fuel:=fuel) E (k:=4) (n:=j) (by decide) (s:=s) (H:=H1) hs9 ro1
  rw[if_pos k4']
  simp(maxSteps:=4000000) (disch:=first|assumption|omega|(simp -implicitDefEqProofs only[Zu,Zv]<;>first|assumption|omega)|decide) only[nx1,g1,hH1,ZW,ZH,d1,d2,d3,d4,e,c68,ZC,N8G,Zr,Zs,Zd,Ze,Zf,Nat.reduceEqDiff,reduceCtorEq,TB0,TB1,TB2]
  refine⟨_,rfl,?_⟩
  exact k1
 have d4:decide (kk=4)=false:=Zc k4'
 rw[if_neg k4'] at hlen ⊢
 have ihn:ZoS Zm fs fuel (n+9) h:=ih (by omega) (by omega)
 by_cases k5':kk=5
 ·have d5:decide (kk=5)=true:=Zh k5'
  have el:=sl.len
  rw[e1] at el
  rw[if_pos k5'] at hlen ⊢
  simp(maxSteps:=4000000) (disch:=first|assumption|omega|(simp -implicitDefEqProofs only[Zu,Zv]<;>first|assumption|omega)|decide) only[nx1,g1,hH1,ZW,ZH,d1,d2,d3,d4,d5,el,c68,ZC,N8G,Zr,Zs,Zd,Ze,Zf,Nat.reduceEqDiff,reduceCtorEq,TB0,TB1,TB2]
  generalize hL:WI (ZlM _) fuel _ _ _=L
  obtain⟨o,tm1,H2,rfl,_,rfl,v,t3,rb,k2,ro2⟩:=YC (P:=fun T=>TLI H1 h l lv l.length T H1) (Q:=fun o tm' H'=>o= .exit 1∧ ∃v,gt3 tm'=v∧RBuf H' v 9 1 ((l.map (JV.text h)).map fun s=>[AV.str s]) H1.nx∧Keep H1 H' []∧H'.ro≤H'.nx)
   (fun T hi'=>YE (TLI H1 h l lv) _ (fun q tm H' h'=>ZDb E ihn (g.keep k1 (by simp)) (sl.keep0 k1) e1 hl9 (fun i hi=>(hl i hi).keep k1) hol tbl _ _ _ _ _ q tm H' h') fuel l.length T H1 (by have:=E.big;omega) hi') hL
   ⟨⟨0, .nils,rfl,ZX _,rfl,rfl, .inl ⟨rfl,rfl⟩⟩,rfl,rfl,Keep.refl _ _,ro1⟩
  simp only[Zfl] at t3
  have hj:(Wc (l.map (JV.text h))).length≤800000000:=by
   simp only[Zq,Zn,Zw] at hlen;omega
  have ej:=fun{j}=>ZFj (Zm:=Zm) (fs:=fs) (fuel:=fuel) E (k:=4) (n:=j) (by decide) M rb (by rw[ZA];exact hl9) (by omega) ro2
  generalize Wc (l.map (JV.text h))=J at ej hj ⊢
  have q1:([91]:List UInt8).length+J.length≤900000000:=by rw[Zn,Zw];omega
  have q2:([91]++J).length+([93]:List UInt8).length≤900000010:=by simp only[Zq,Zn,Zw];omega
  simp(maxSteps:=4000000) (disch:=first|assumption|omega|(simp -implicitDefEqProofs only[Zu,Zv]<;>first|assumption|omega)|decide) only[t3,ej,WN,c68,ZC,N8G,Zr,Zs,Zd,Ze,Zf,Nat.reduceEqDiff,reduceCtorEq,TB0,TB1,TB2]
  refine⟨_,rfl,?_⟩
  exact k1.trans k2 (by simp)
 have d5:decide (kk=5)=false:=Zc k5'
 rw[if_neg k5'] at hlen ⊢
 obtain⟨H2,hH2⟩: ∃G,H1.new (rG 70 1 [mv] 0 false true true)=G:=⟨_,rfl⟩
 have k2:Keep H1 H2 []:=by rw[←hH2];exact Keep.new H1 _ _
 have k02:=k1.trans k2 (by simp)
 have nx2:H2.nx=H1.nx+1:=by rw[←hH2];rfl
 have ro2:H2.ro≤H2.nx:=by rw[←hH2];show H1.ro≤H1.nx+1;omega
 have eva:=fun{j}=>ZDa (Zm:=Zm) (fs:=fs) (fuel:=fuel) E (k:=4) (n:=j) (src:=mv) (H:=H1) sm.cells
 rw[hH2] at eva
 have hf:ZsE Zm fs fuel 4 117:=fun{a b t u H j} ht hu=>ZG9 E (k:=4) (n:=j) (by decide) ht hu
 obtain⟨sv,H3,es,k3,srt⟩:=ZAW E (k:=4) (n0:=n+4) (by decide) hf (H:=H2) (h:=h) (vb:=H1.nx) (M:=m) (sm.keep0 k02) (by rw[←hH2,ZP rfl]) (by omega) ro2 hm12 e2 (fun i hi=>by
  obtain⟨a1,t,a2,a3⟩:=hm i hi
  exact⟨a1,t,a2,a3.keep k02⟩)
 rw[nx1] at es
 have ro3:H3.ro≤H3.nx:=by rw[k3.ro];have:=k3.nx;omega
 have hml:(WQ ltE m).length=m.length:=ZnF ltE m
 obtain⟨els,b2,hsl,hsr⟩:(∀G,Qe sv G= .val (nI .i64 m.length) G)∧ ∃b2,(WQ ltE m≠[]→sv= .slice b2 0 (WQ ltE m).length none)∧(WQ ltE m≠[]→SRow H2 h b2 (WQ ltE m) H3):=by
  rcases srt with⟨rfl,rfl⟩|⟨_,b2,rfl,_,sr⟩
  ·exact⟨fun G=>Zcc G,0,fun hne=>absurd rfl hne,fun hne=>absurd rfl hne⟩
  ·exact⟨fun G=>VL ..,b2,fun _=>by rw[hml],fun _=>sr⟩
 simp(maxSteps:=4000000) (disch:=first|assumption|omega|(simp -implicitDefEqProofs only[Zu,Zv]<;>first|assumption|omega)|decide) only[nx1,g1,hH1,ZW,ZH,d1,d2,d3,d4,d5,eva,es,els,c68,ZC,N8G,Zr,Zs,Zd,Ze,Zf,Nat.reduceEqDiff,reduceCtorEq,TB0,TB1,TB2]
 generalize hL:WI (ZlN _) fuel _ _ _=L
 obtain⟨o,tm1,H4,rfl,_,rfl,v,t3,rb,k4,ro4⟩:=YC (P:=fun T=>TMI H2 H3 h b2 (WQ ltE m) (WQ ltE m).length T H3) (Q:=fun o tm' H'=>o= .exit 3∧ ∃v,gt3 tm'=v∧RBuf H' v 9 1 (((WQ ltE m).map (ZaK h)).map fun s=>[AV.str s]) H3.nx∧Keep H3 H' []∧H'.ro≤H'.nx)
  (fun T hi'=>YE (TMI H2 H3 h b2 (WQ ltE m)) _ (fun q tm H' h'=>ZDc E (n:=n+8) ihn (g.keep k02 (by simp)) k3 hsr (by omega) (fun x hx=>hom x (ZbY ltE x hx)) (fun x hx=>tbm x (ZbY ltE x hx)) _ _ _ _ _ q tm H' h') fuel (WQ ltE m).length T H3 (by have:=E.big;omega) hi') hL
  ⟨⟨0, .nils,rfl,ZX _,rfl,rfl, .inl ⟨rfl,rfl⟩⟩,fun hne=>hsl hne,by rw[hml];rfl,Keep.refl _ _,ro3⟩
 simp only[Zfl] at t3
 have hj:(Wc ((WQ ltE m).map (ZaK h))).length≤800000000:=by
  simp only[Zq,Zn,Zw] at hlen;omega
 have ej:=fun{j}=>ZFj (Zm:=Zm) (fs:=fs) (fuel:=fuel) E (k:=4) (n:=j) (by decide) M rb (by rw[ZA,hml];omega) (by omega) ro4
 generalize Wc ((WQ ltE m).map (ZaK h))=J at ej hj ⊢
 have q1:([123]:List UInt8).length+J.length≤900000000:=by rw[Zn,Zw];omega
 have q2:([123]++J).length+([125]:List UInt8).length≤900000010:=by simp only[Zq,Zn,Zw];omega
 simp(maxSteps:=4000000) (disch:=first|assumption|omega|(simp -implicitDefEqProofs only[Zu,Zv]<;>first|assumption|omega)|decide) only[t3,ej,WN,c68,ZC,N8G,Zr,Zs,Zd,Ze,Zf,Nat.reduceEqDiff,reduceCtorEq,TB0,TB1,TB2]
 refine⟨_,rfl,?_⟩
 exact(k02.trans k3 (by simp)).trans k4 (by simp)
end
end Go.AI
namespace Go.AI
open Go
noncomputable section
theorem ZFt{Zm:Lib}{fs:T CF}{fuel:Nat}(E:Env Zm fs fuel)(M:MNZ Zm){k n h:Nat}(hk:5≤k)(hh:h≤100){v:JV}{cs:List AV}{H:Heap}(g:Glob H)(hro:H.ro≤H.nx)(hv:VR H h v cs)(hok:JV.ok h v)(htb:JV.tb h v≤800000000):
  ZR (LK Zm fs fuel k) fs fuel (n+1) 68 [.agg cs] H= .ret (.str (JV.text h v)) H:=by
 obtain⟨H',e,g⟩:=ZyM E M h hh (n:=900) (by omega) g hro hv hok htb
 exact Y6 (r:=4) rfl rfl e g rfl hk
theorem ZHc{Zm:Lib}{fs:T CF}{fuel:Nat}(E:Env Zm fs fuel)(M:MNZ Zm){k n h:Nat}(hk:5≤k)(hh:h≤100){v:JV}{cs:List AV}{H:Heap}(g:Glob H)(gu:GlobU H)(hro:H.ro≤H.nx)(hv:VR H h v cs)(hok:JV.ok h v)(htb:JV.tb h v≤800000000)(hne:JV.text h v≠[]):
  ZR (LK Zm fs fuel k) fs fuel (n+2) 29 [.agg cs] H=if JV.check v=0 then .ret (.tup [.slice (H.nx+1) 0 (JV.text h v).length none,nI .i64 0]) ((H.new (rG 72 1 cs 0 false true true)).new (rG 5 1 ((JV.text h v).map u8V) 0 true true false))
   else .ret (.tup [.nils,nI .i64 (JV.check v)]) (H.new (rG 72 1 cs 0 false true true)):=by
 have hlen:=hv.len
 have htl:=JV.text_len ZjV h v hok
 rw[ZV (ZN E.n29 (.inr rfl) _ _) E.f29]
 obtain⟨H1,hH1⟩: ∃G,Heap.new H (rG 72 1 cs 0 false true true)=G:=⟨_,rfl⟩
 have nx1:H1.nx=H.nx+1:=by rw[←hH1];rfl
 have ro1:H1.ro≤H1.nx:=by rw[←hH1];show H.ro≤H.nx+1;omega
 have g1:H1.t.get H.nx=some (rG 72 1 cs 0 false true true):=by rw[←hH1,ZP rfl]
 have k1:Keep H H1 []:=by rw[←hH1];exact Keep.new H _ _
 have ldx: ∀(G':Heap),ldN 6 (some (rG 72 1 cs 0 false true true)) 0 G'= .val (.agg cs) G':=fun G'=>by
  rw[WH (by omega)];congr 2;rw[Yl,ZK (by omega)]
 have bx:=Vf (l:=cs) (by omega) 72 H
 rw[hH1] at bx
 have ec:=fun{j}=>ZyD (Zm:=Zm) (fs:=fs) (fuel:=fuel) E (k:=k) (n:=j) (by omega) (gu.keep0 k1) ro1 (hv.keep k1)
 have et:=fun{j}=>ZFt (Zm:=Zm) (fs:=fs) (fuel:=fuel) E M (k:=k) (n:=j) hk hh (g.keep k1 (by simp)) ro1 (hv.keep k1) hok htb
 generalize JV.text h v=T at*
 have hT:T.length≤800000000:=by omega
 have hT0:0<T.length:=List.length_pos_iff.2 hne
 by_cases hc:JV.check v=0
 ·rw[if_pos hc]
  rw[hc] at ec
  have d0:(!decide (0=0))=false:=rfl
  have d1:decide (0≠0)=false:=rfl
  simp(maxSteps:=4000000) (disch:=first|assumption|omega|(simp -implicitDefEqProofs only[Zu,Zv]<;>first|assumption|omega)|decide) only[hH1,bx,nx1,g1,ldx,ec,et,d0,d1,Zlv,c29,ZC,N8G,Zr,Zs,Zd,Ze,Zf,Nat.reduceEqDiff,reduceCtorEq,TB0]
 ·rw[if_neg hc]
  have d0:decide (JV.check v≠0)=true:=Zh hc
  have d1:(!decide (JV.check v=0))=true:=by rw[Zc hc];rfl
  generalize JV.check v=cv at*
  simp(maxSteps:=4000000) (disch:=first|assumption|omega|(simp -implicitDefEqProofs only[Zu,Zv]<;>first|assumption|omega)|decide) only[hH1,bx,nx1,g1,ldx,ec,et,d0,d1,Zlv,c29,ZC,N8G,Zr,Zs,Zd,Ze,Zf,Nat.reduceEqDiff,reduceCtorEq,TB0]
end
end Go.AI
namespace Go.AI
open Go
noncomputable section
theorem Vl{u t:Nat}(h:Nat.beq u t=false)(zv v:AV)(H:Heap):ZdF t zv true (.iface u v) H= .val (.tup [zv, .bool false]) H:=by
 show QV zv true H (cond (Nat.beq u t) (some v) none)=_
 rw[h];rfl
theorem ZnK{Zm:Lib}{fs:T CF}{fuel:Nat}{f r k:Nat}{args:List AV}{H H':Heap}{v:AV}(h:UJ f=r+1)(hs:QR f args H=none)(hr:ZR (LK Zm fs fuel r) fs fuel 900 f args H= .ret v H')(hv:YA 0 v=false)(h0: ∀l H,Zm f l H=none)(hk:r+1≤k):
  LK Zm fs fuel k f args H=none:=by
 show Zh9 Zm fs fuel UJ QR k f args H=none
 rw[Zth h args H k hk]
 show Zh8 UJ QR (ZR (LK Zm fs fuel r) fs fuel 900) (LK Zm fs fuel r) (r+1) f args H=none
 unfold Zh8
 rw[if_pos h,hs]
 simp only
 rw[if_neg]
 ·exact ZN h0 (.inl (by omega)) args H
 ·rintro ⟨v',H'',e,_,l⟩
  rw[hr] at e;cases e;rw[hv] at l;cases l
theorem ZsI{Zm:Lib}{fs:T CF}{fuel:Nat}(E:Env Zm fs fuel){n:Nat}{H:Heap}(hro:H.ro≤H.nx):
  ∃H',ZR (LK Zm fs fuel 0) fs fuel (n+2) 43 [.nili] H= .ret (.agg [nI .i64 1, .bool false,nI .i64 0, .str [], .nils, .nils]) H'∧Keep H H' []:=by
 rw[ZV (ZN E.n43 (.inl (by decide)) _ _) E.f43]
 obtain⟨H1,hH1⟩: ∃G,Heap.new H (rG 72 1 [nI .i64 1, .bool false,nI .i64 0, .str [], .nils, .nils] 0 false true true)=G:=⟨_,rfl⟩
 have hro':H.ro≤H.nx:=hro
 have hB:=Y8 (n:=6) (l:=[nI .i64 0, .bool false,nI .i64 0, .str [], .nils, .nils]) (vs:=[nI .i64 1, .bool false,nI .i64 0, .str [], .nils, .nils]) (b:=H.nx) (H:=H.new (rG 72 1 [nI .i64 0, .bool false,nI .i64 0, .str [], .nils, .nils] 0 false true true)) (by rfl) (by rfl) (by omega) hro' 72 1 false true
 rw[VX rfl,hH1] at hB
 have g1:H1.t.get H.nx=some (rG 72 1 [nI .i64 1, .bool false,nI .i64 0, .str [], .nils, .nils] 0 false true true):=by rw[←hH1,ZP rfl]
 have k1:Keep H H1 []:=by rw[←hH1];exact Keep.new H _ _
 have ldx: ∀(G':Heap),ldN 6 (some (rG 72 1 [nI .i64 1, .bool false,nI .i64 0, .str [], .nils, .nils] 0 false true true)) 0 G'= .val (.agg [nI .i64 1, .bool false,nI .i64 0, .str [], .nils, .nils]) G':=fun G'=>by
  rw[WH (Zk _)];rfl
 simp(maxSteps:=4000000) (disch:=first|assumption|omega|(simp -implicitDefEqProofs only[Zu,Zv]<;>first|assumption|omega)|decide) only[hB,g1,ldx,c43,ZC,N8G,Zr,Zs,Zd,Ze,Zf,Nat.reduceEqDiff,reduceCtorEq,TB0,TB1]
 refine⟨_,rfl,?_⟩
 exact k1
theorem ZDd{Zm:Lib}{fs:T CF}{fuel:Nat}(E:Env Zm fs fuel){k n:Nat}(hk:1≤k){H:Heap}(hro:H.ro≤H.nx):
  ZR (LK Zm fs fuel k) fs fuel (n+1) 43 [.nili] H= .ret (.agg [nI .i64 1, .bool false,nI .i64 0, .str [], .nils, .nils]) H:=by
 obtain⟨H',e,g⟩:=ZsI E (n:=898) (H:=H) hro
 exact Y6 (r:=0) rfl rfl e g (rfl) hk
theorem ZsJ{Zm:Lib}{fs:T CF}{fuel:Nat}(E:Env Zm fs fuel){n:Nat}{b:Bool}{H:Heap}(hro:H.ro≤H.nx):
  ∃H',ZR (LK Zm fs fuel 0) fs fuel (n+2) 43 [.iface 4 (.bool b)] H= .ret (.agg [nI .i64 2, .bool b,nI .i64 0, .str [], .nils, .nils]) H'∧Keep H H' []:=by
 rw[ZV (ZN E.n43 (.inl (by decide)) _ _) E.f43]
 obtain⟨H1,hH1⟩: ∃G,Heap.new H (rG 72 1 [nI .i64 2, .bool b,nI .i64 0, .str [], .nils, .nils] 0 false true true)=G:=⟨_,rfl⟩
 have hro':H.ro≤H.nx:=hro
 have hB:=Y8 (n:=6) (l:=[nI .i64 0, .bool false,nI .i64 0, .str [], .nils, .nils]) (vs:=[nI .i64 2, .bool b,nI .i64 0, .str [], .nils, .nils]) (b:=H.nx) (H:=H.new (rG 72 1 [nI .i64 0, .bool false,nI .i64 0, .str [], .nils, .nils] 0 false true true)) (by rfl) (by rfl) (by omega) hro' 72 1 false true
 rw[VX rfl,hH1] at hB
 have g1:H1.t.get H.nx=some (rG 72 1 [nI .i64 2, .bool b,nI .i64 0, .str [], .nils, .nils] 0 false true true):=by rw[←hH1,ZP rfl]
 have k1:Keep H H1 []:=by rw[←hH1];exact Keep.new H _ _
 have ldx: ∀(G':Heap),ldN 6 (some (rG 72 1 [nI .i64 2, .bool b,nI .i64 0, .str [], .nils, .nils] 0 false true true)) 0 G'= .val (.agg [nI .i64 2, .bool b,nI .i64 0, .str [], .nils, .nils]) G':=fun G'=>by
  rw[WH (Zk _)];rfl
 simp(maxSteps:=4000000) (disch:=first|assumption|omega|(simp -implicitDefEqProofs only[Zu,Zv]<;>first|assumption|omega)|decide) only[hB,g1,ldx,c43,ZC,N8G,Zr,Zs,Zd,Ze,Zf,Nat.reduceEqDiff,reduceCtorEq,TB0,TB1]
 refine⟨_,rfl,?_⟩
 exact k1
theorem ZDe{Zm:Lib}{fs:T CF}{fuel:Nat}(E:Env Zm fs fuel){k n:Nat}(hk:1≤k){b:Bool}{H:Heap}(hro:H.ro≤H.nx):
  ZR (LK Zm fs fuel k) fs fuel (n+1) 43 [.iface 4 (.bool b)] H= .ret (.agg [nI .i64 2, .bool b,nI .i64 0, .str [], .nils, .nils]) H:=by
 obtain⟨H',e,g⟩:=ZsJ E (n:=898) (H:=H) hro
 exact Y6 (r:=0) rfl rfl e g (rfl) hk
theorem ZvI{Zm:Lib}{fs:T CF}{fuel:Nat}(E:Env Zm fs fuel){n:Nat}{z:Int}{H:Heap}(hro:H.ro≤H.nx):
  ∃H',ZR (LK Zm fs fuel 0) fs fuel (n+2) 43 [.iface 2 (.int .i64 z)] H= .ret (.agg [nI .i64 3, .bool false, .int .i64 z, .str [], .nils, .nils]) H'∧Keep H H' []:=by
 rw[ZV (ZN E.n43 (.inl (by decide)) _ _) E.f43]
 obtain⟨H1,hH1⟩: ∃G,Heap.new H (rG 72 1 [nI .i64 3, .bool false, .int .i64 z, .str [], .nils, .nils] 0 false true true)=G:=⟨_,rfl⟩
 have hro':H.ro≤H.nx:=hro
 have hB:=Y8 (n:=6) (l:=[nI .i64 0, .bool false,nI .i64 0, .str [], .nils, .nils]) (vs:=[nI .i64 3, .bool false, .int .i64 z, .str [], .nils, .nils]) (b:=H.nx) (H:=H.new (rG 72 1 [nI .i64 0, .bool false,nI .i64 0, .str [], .nils, .nils] 0 false true true)) (by rfl) (by rfl) (by omega) hro' 72 1 false true
 rw[VX rfl,hH1] at hB
 have g1:H1.t.get H.nx=some (rG 72 1 [nI .i64 3, .bool false, .int .i64 z, .str [], .nils, .nils] 0 false true true):=by rw[←hH1,ZP rfl]
 have k1:Keep H H1 []:=by rw[←hH1];exact Keep.new H _ _
 have ldx: ∀(G':Heap),ldN 6 (some (rG 72 1 [nI .i64 3, .bool false, .int .i64 z, .str [], .nils, .nils] 0 false true true)) 0 G'= .val (.agg [nI .i64 3, .bool false, .int .i64 z, .str [], .nils, .nils]) G':=fun G'=>by
  rw[WH (Zk _)];rfl
 have an4:=fun(zv v:AV) (G:Heap)=>Vl (u:=2) (t:=4) rfl zv v G
 simp(maxSteps:=4000000) (disch:=first|assumption|omega|(simp -implicitDefEqProofs only[Zu,Zv]<;>first|assumption|omega)|decide) only[hB,g1,ldx,an4,c43,ZC,N8G,Zr,Zs,Zd,Ze,Zf,Nat.reduceEqDiff,reduceCtorEq,TB0,TB1]
 refine⟨_,rfl,?_⟩
 exact k1
theorem ZFu{Zm:Lib}{fs:T CF}{fuel:Nat}(E:Env Zm fs fuel){k n:Nat}(hk:1≤k){z:Int}{H:Heap}(hro:H.ro≤H.nx):
  ZR (LK Zm fs fuel k) fs fuel (n+1) 43 [.iface 2 (.int .i64 z)] H= .ret (.agg [nI .i64 3, .bool false, .int .i64 z, .str [], .nils, .nils]) H:=by
 obtain⟨H',e,g⟩:=ZvI E (n:=898) (H:=H) hro
 exact Y6 (r:=0) rfl rfl e g (rfl) hk
theorem ZvJ{Zm:Lib}{fs:T CF}{fuel:Nat}(E:Env Zm fs fuel){n:Nat}{z:Int}{H:Heap}(hro:H.ro≤H.nx):
  ∃H',ZR (LK Zm fs fuel 0) fs fuel (n+2) 43 [.iface 3 (.int .i64 z)] H= .ret (.agg [nI .i64 3, .bool false, .int .i64 z, .str [], .nils, .nils]) H'∧Keep H H' []:=by
 rw[ZV (ZN E.n43 (.inl (by decide)) _ _) E.f43]
 obtain⟨H1,hH1⟩: ∃G,Heap.new H (rG 72 1 [nI .i64 3, .bool false, .int .i64 z, .str [], .nils, .nils] 0 false true true)=G:=⟨_,rfl⟩
 have hro':H.ro≤H.nx:=hro
 have hB:=Y8 (n:=6) (l:=[nI .i64 0, .bool false,nI .i64 0, .str [], .nils, .nils]) (vs:=[nI .i64 3, .bool false, .int .i64 z, .str [], .nils, .nils]) (b:=H.nx) (H:=H.new (rG 72 1 [nI .i64 0, .bool false,nI .i64 0, .str [], .nils, .nils] 0 false true true)) (by rfl) (by rfl) (by omega) hro' 72 1 false true
 rw[VX rfl,hH1] at hB
 have g1:H1.t.get H.nx=some (rG 72 1 [nI .i64 3, .bool false, .int .i64 z, .str [], .nils, .nils] 0 false true true):=by rw[←hH1,ZP rfl]
 have k1:Keep H H1 []:=by rw[←hH1];exact Keep.new H _ _
 have ldx: ∀(G':Heap),ldN 6 (some (rG 72 1 [nI .i64 3, .bool false, .int .i64 z, .str [], .nils, .nils] 0 false true true)) 0 G'= .val (.agg [nI .i64 3, .bool false, .int .i64 z, .str [], .nils, .nils]) G':=fun G'=>by
  rw[WH (Zk _)];rfl
 have an4:=fun(zv v:AV) (G:Heap)=>Vl (u:=3) (t:=4) rfl zv v G
 have an2:=fun(zv v:AV) (G:Heap)=>Vl (u:=3) (t:=2) rfl zv v G
 simp(maxSteps:=4000000) (disch:=first|assumption|omega|(simp -implicitDefEqProofs only[Zu,Zv]<;>first|assumption|omega)|decide) only[hB,g1,ldx,an4,an2,c43,ZC,N8G,Zr,Zs,Zd,Ze,Zf,Nat.reduceEqDiff,reduceCtorEq,TB0,TB1]
 refine⟨_,rfl,?_⟩
 exact k1
theorem ofInt{Zm:Lib}{fs:T CF}{fuel:Nat}(E:Env Zm fs fuel){k n:Nat}(hk:1≤k){z:Int}{H:Heap}(hro:H.ro≤H.nx):
  ZR (LK Zm fs fuel k) fs fuel (n+1) 43 [.iface 3 (.int .i64 z)] H= .ret (.agg [nI .i64 3, .bool false, .int .i64 z, .str [], .nils, .nils]) H:=by
 obtain⟨H',e,g⟩:=ZvJ E (n:=898) (H:=H) hro
 exact Y6 (r:=0) rfl rfl e g (rfl) hk
theorem ZvK{Zm:Lib}{fs:T CF}{fuel:Nat}(E:Env Zm fs fuel){n:Nat}{s:List UInt8}{H:Heap}(hro:H.ro≤H.nx):
  ∃H',ZR (LK Zm fs fuel 0) fs fuel (n+2) 43 [.iface 9 (.str s)] H= .ret (.agg [nI .i64 4, .bool false,nI .i64 0, .str s, .nils, .nils]) H'∧Keep H H' []:=by
 rw[ZV (ZN E.n43 (.inl (by decide)) _ _) E.f43]
 obtain⟨H1,hH1⟩: ∃G,Heap.new H (rG 72 1 [nI .i64 4, .bool false,nI .i64 0, .str s, .nils, .nils] 0 false true true)=G:=⟨_,rfl⟩
 have hro':H.ro≤H.nx:=hro
 have hB:=Y8 (n:=6) (l:=[nI .i64 0, .bool false,nI .i64 0, .str [], .nils, .nils]) (vs:=[nI .i64 4, .bool false,nI .i64 0, .str s, .nils, .nils]) (b:=H.nx) (H:=H.new (rG 72 1 [nI .i64 0, .bool false,nI .i64 0, .str [], .nils, .nils] 0 false true true)) (by rfl) (by rfl) (by omega) hro' 72 1 false true
 rw[VX rfl,hH1] at hB
 have g1:H1.t.get H.nx=some (rG 72 1 [nI .i64 4, .bool false,nI .i64 0, .str s, .nils, .nils] 0 false true true):=by rw[←hH1,ZP rfl]
 have k1:Keep H H1 []:=by rw[←hH1];exact Keep.new H _ _
 have ldx: ∀(G':Heap),ldN 6 (some (rG 72 1 [nI .i64 4, .bool false,nI .i64 0, .str s, .nils, .nils] 0 false true true)) 0 G'= .val (.agg [nI .i64 4, .bool false,nI .i64 0, .str s, .nils, .nils]) G':=fun G'=>by
  rw[WH (Zk _)];rfl
 have an4:=fun(zv v:AV) (G:Heap)=>Vl (u:=9) (t:=4) rfl zv v G
 have an2:=fun(zv v:AV) (G:Heap)=>Vl (u:=9) (t:=2) rfl zv v G
 have an3:=fun(zv v:AV) (G:Heap)=>Vl (u:=9) (t:=3) rfl zv v G
 simp(maxSteps:=4000000) (disch:=first|assumption|omega|(simp -implicitDefEqProofs only[Zu,Zv]<;>first|assumption|omega)|decide) only[hB,g1,ldx,an4,an2,an3,c43,ZC,N8G,Zr,Zs,Zd,Ze,Zf,Nat.reduceEqDiff,reduceCtorEq,TB0,TB1]
 refine⟨_,rfl,?_⟩
 exact k1
theorem ZBN{Zm:Lib}{fs:T CF}{fuel:Nat}(E:Env Zm fs fuel){k n:Nat}(hk:1≤k){s:List UInt8}{H:Heap}(hro:H.ro≤H.nx):
  ZR (LK Zm fs fuel k) fs fuel (n+1) 43 [.iface 9 (.str s)] H= .ret (.agg [nI .i64 4, .bool false,nI .i64 0, .str s, .nils, .nils]) H:=by
 obtain⟨H',e,g⟩:=ZvK E (n:=898) (H:=H) hro
 exact Y6 (r:=0) rfl rfl e g (rfl) hk
theorem ZlZ{Zm:Lib}{fs:T CF}{fuel:Nat}(E:Env Zm fs fuel){k n:Nat}{v:AV}{H:Heap}(hl:LK Zm fs fuel k 43 [.iface 69 v] H=none)(hv:v.cells=[v])(hro:H.ro≤H.nx):
  ∃H',ZR (LK Zm fs fuel k) fs fuel (n+2) 43 [.iface 69 v] H= .ret (.agg [nI .i64 5, .bool false,nI .i64 0, .str [],v, .nils]) H'∧Keep H H' []:=by
 rw[ZV hl E.f43]
 obtain⟨H1,hH1⟩: ∃G,Heap.new H (rG 72 1 [nI .i64 5, .bool false,nI .i64 0, .str [],v, .nils] 0 false true true)=G:=⟨_,rfl⟩
 have hro':H.ro≤H.nx:=hro
 have hB:=Y8 (n:=6) (l:=[nI .i64 0, .bool false,nI .i64 0, .str [], .nils, .nils]) (vs:=[nI .i64 5, .bool false,nI .i64 0, .str [],v, .nils]) (b:=H.nx) (H:=H.new (rG 72 1 [nI .i64 0, .bool false,nI .i64 0, .str [], .nils, .nils] 0 false true true)) (by rfl) (by rfl) (by omega) hro' 72 1 false true
 rw[VX rfl,hH1] at hB
 have g1:H1.t.get H.nx=some (rG 72 1 [nI .i64 5, .bool false,nI .i64 0, .str [],v, .nils] 0 false true true):=by rw[←hH1,ZP rfl]
 have k1:Keep H H1 []:=by rw[←hH1];exact Keep.new H _ _
 have ldx: ∀(G':Heap),ldN 6 (some (rG 72 1 [nI .i64 5, .bool false,nI .i64 0, .str [],v, .nils] 0 false true true)) 0 G'= .val (.agg [nI .i64 5, .bool false,nI .i64 0, .str [],v, .nils]) G':=fun G'=>by
  rw[WH (Zk _)];rfl
 have an4:=fun(zv v:AV) (G:Heap)=>Vl (u:=69) (t:=4) rfl zv v G
 have an2:=fun(zv v:AV) (G:Heap)=>Vl (u:=69) (t:=2) rfl zv v G
 have an3:=fun(zv v:AV) (G:Heap)=>Vl (u:=69) (t:=3) rfl zv v G
 have an9:=fun(zv v:AV) (G:Heap)=>Vl (u:=69) (t:=9) rfl zv v G
 simp(maxSteps:=4000000) (disch:=first|assumption|omega|(simp -implicitDefEqProofs only[Zu,Zv]<;>first|assumption|omega)|decide) only[hB,g1,ldx,hv,an4,an2,an3,an9,c43,ZC,N8G,Zr,Zs,Zd,Ze,Zf,Nat.reduceEqDiff,reduceCtorEq,TB0,TB1]
 refine⟨_,rfl,?_⟩
 exact k1
theorem ofList{Zm:Lib}{fs:T CF}{fuel:Nat}(E:Env Zm fs fuel){k n:Nat}(hk:1≤k){v:AV}{H:Heap}(hv:v= .nils∨ ∃b o m c,v= .slice b o m c)(hro:H.ro≤H.nx):
  ∃H',ZR (LK Zm fs fuel k) fs fuel (n+2) 43 [.iface 69 v] H= .ret (.agg [nI .i64 5, .bool false,nI .i64 0, .str [],v, .nils]) H'∧Keep H H' []:=by
 have hc:v.cells=[v]:=by rcases hv with rfl|⟨b,o,m,c,rfl⟩<;>rfl
 obtain⟨H',e,g⟩:=ZlZ E (k:=0) (n:=898) (v:=v) (H:=H) (ZN E.n43 (.inl (by decide)) _ _) hc hro
 rcases hv with rfl|⟨b,o,m,c,rfl⟩
 ·exact⟨H,Y6 (r:=0) rfl rfl e g rfl hk,Keep.refl _ _⟩
 ·exact ZlZ E (n:=n) (ZnK (r:=0) rfl rfl e rfl E.n43 hk) hc hro
theorem ZjW{Zm:Lib}{fs:T CF}{fuel:Nat}(E:Env Zm fs fuel){k n:Nat}{v:AV}{H:Heap}(hl:LK Zm fs fuel k 43 [.iface 70 v] H=none)(hv:v.cells=[v])(hro:H.ro≤H.nx):
  ∃H',ZR (LK Zm fs fuel k) fs fuel (n+2) 43 [.iface 70 v] H= .ret (.agg [nI .i64 6, .bool false,nI .i64 0, .str [], .nils,v]) H'∧Keep H H' []:=by
 rw[ZV hl E.f43]
 obtain⟨H1,hH1⟩: ∃G,Heap.new H (rG 72 1 [nI .i64 6, .bool false,nI .i64 0, .str [], .nils,v] 0 false true true)=G:=⟨_,rfl⟩
 have hro':H.ro≤H.nx:=hro
 have hB:=Y8 (n:=6) (l:=[nI .i64 0, .bool false,nI .i64 0, .str [], .nils, .nils]) (vs:=[nI .i64 6, .bool false,nI .i64 0, .str [], .nils,v]) (b:=H.nx) (H:=H.new (rG 72 1 [nI .i64 0, .bool false,nI .i64 0, .str [], .nils, .nils] 0 false true true)) (by rfl) (by rfl) (by omega) hro' 72 1 false true
 rw[VX rfl,hH1] at hB
 have g1:H1.t.get H.nx=some (rG 72 1 [nI .i64 6, .bool false,nI .i64 0, .str [], .nils,v] 0 false true true):=by rw[←hH1,ZP rfl]
 have k1:Keep H H1 []:=by rw[←hH1];exact Keep.new H _ _
 have ldx: ∀(G':Heap),ldN 6 (some (rG 72 1 [nI .i64 6, .bool false,nI .i64 0, .str [], .nils,v] 0 false true true)) 0 G'= .val (.agg [nI .i64 6, .bool false,nI .i64 0, .str [], .nils,v]) G':=fun G'=>by
  rw[WH (Zk _)];rfl
 have an4:=fun(zv v:AV) (G:Heap)=>Vl (u:=70) (t:=4) rfl zv v G
 have an2:=fun(zv v:AV) (G:Heap)=>Vl (u:=70) (t:=2) rfl zv v G
 have an3:=fun(zv v:AV) (G:Heap)=>Vl (u:=70) (t:=3) rfl zv v G
 have an9:=fun(zv v:AV) (G:Heap)=>Vl (u:=70) (t:=9) rfl zv v G
 have an69:=fun(zv v:AV) (G:Heap)=>Vl (u:=70) (t:=69) rfl zv v G
 simp(maxSteps:=4000000) (disch:=first|assumption|omega|(simp -implicitDefEqProofs only[Zu,Zv]<;>first|assumption|omega)|decide) only[hB,g1,ldx,hv,an4,an2,an3,an9,an69,c43,ZC,N8G,Zr,Zs,Zd,Ze,Zf,Nat.reduceEqDiff,reduceCtorEq,TB0,TB1]
 refine⟨_,rfl,?_⟩
 exact k1
theorem ZAX{Zm:Lib}{fs:T CF}{fuel:Nat}(E:Env Zm fs fuel){k n:Nat}(hk:1≤k){v:AV}{H:Heap}(hv:v= .nils∨ ∃b o m c,v= .slice b o m c)(hro:H.ro≤H.nx):
  ∃H',ZR (LK Zm fs fuel k) fs fuel (n+2) 43 [.iface 70 v] H= .ret (.agg [nI .i64 6, .bool false,nI .i64 0, .str [], .nils,v]) H'∧Keep H H' []:=by
 have hc:v.cells=[v]:=by rcases hv with rfl|⟨b,o,m,c,rfl⟩<;>rfl
 obtain⟨H',e,g⟩:=ZjW E (k:=0) (n:=898) (v:=v) (H:=H) (ZN E.n43 (.inl (by decide)) _ _) hc hro
 rcases hv with rfl|⟨b,o,m,c,rfl⟩
 ·exact⟨H,Y6 (r:=0) rfl rfl e g rfl hk,Keep.refl _ _⟩
 ·exact ZjW E (n:=n) (ZnK (r:=0) rfl rfl e rfl E.n43 hk) hc hro
end
end Go.AI
