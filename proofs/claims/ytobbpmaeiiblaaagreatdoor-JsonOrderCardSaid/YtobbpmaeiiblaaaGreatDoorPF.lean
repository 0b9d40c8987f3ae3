/- JsonOrder, walked on any numbers and any text: proved without conditions but those that each names. -/
import Derived.Test.YtobbpmaeiiblaaaGreatDoorPE
import Derived.Test.YtobbpmaeiiblaaaGreatDoorPD
set_option maxRecDepth 1000000
set_option maxHeartbeats 0
set_option linter.unusedVariables false
set_option linter.unusedSimpArgs false
namespace Go.AI
open Go.Proofs N8
noncomputable section
def Zox:D:=Zg (Za (oMv Wj) Zjb<|Za (oMv ZdO) Zkt<|ZP Zgx true (oMv Wh) Zku<|Za (Z6 Zgx Zkn (k (.bool false))) Zkv<|Za (oMv Zko) Zkw<|ZP Zci true (Z8 YQ 6) Zkx<|ZP Zci true (Z8 gt5 6) Zky<|ZP Zci true (Zq 42 [Zfe,Zkp]) Zkz<|Za (Z6 Zci Zkq (k (.bool false))) ZkA<|Za (oMv Zff) Zl8<|ZP Zdm true (Z8 Wc 6) ZoT<|ZP Zdm true (Z8 gt5 6) ZoU<|ZP Zdm true (Zq 42 [ZoP,ZoQ]) Zsn<|Za (Z6 Zdm Zsl (k (.bool false))) Zso<|Za (oMv Zsm) Zsp<|ZP Zfg true (oMv WJ) ZvU<|ZP Zfg true (oMv W1) ZvV<|ZP Zfg true (oEq ZvE ZvF eqB false) ZvW<|Za (Z6 Zfg ZvG (k (.bool false))) ZvX<|Za (oMv ZvH) ZvY<|ZP Zgy true (Z8 Y0 6) ZvZ<|ZP Zgy true (Z8 Ws 6) Zv0<|ZP Zgy true (Zq 42 [ZvI,ZvJ]) Zv1<|Za (Z6 Zgy ZvK (k (.bool false))) Zv2<|Za (oMv ZvL) Zv3<|ZP ZoR true (oMv W7) Zv4<|Za (Z6 ZoR ZvM (k (.bool false))) Zv5<|Za (oMv ZvN) Zv6<|ZP Zgz true (Z7 Y8 3) Zv7<|ZP Zgz true (Zz ZvO) Zv8<|ZP Zgz true (oEq ZvP (k (.str [51])) eqS false) Zv9<|Za (Z6 Zgz ZvQ (k (.bool false))) Zwa<|Za (oMv ZvR) Zwb<|ZP ZoS true (Zq 35 []) Zwc<|Za (Z6 ZoS ZvS (k (.bool false))) Zwd<|Za (oMv ZvT) st4<|Zb) Z2
def Zoy:D:=Zg (Za (oMv gt1) ZdW<|Za (oMv gt1) ZdX<|Za (WB Zcg) ZdY<|Za (Zba false [ZbL,(k (nI .i64 20))]) Zfl<|Za (Wl Zcf none (some Ze4) none) Zfm<|Za (oMv Ze5) st1<|Zb) (Zg (Za (Z8 gt9 6) Zfo<|Za (YL 9 1 1 [(.str [])] [⟨0,1,(k (.str [111,110,101]))⟩]) Zfp<|Za (Zq 44 [ZdK,Zch]) Zfq<|Za (oMv Ze6) Zfn<|Za (Yz ZdJ 0) Zfr<|Za (Yz ZdJ 1) Zfs<|Za (Yk 72 [(nI .i64 0),(.bool false),(nI .i64 0),(.str []), .nils, .nils]) Wm<|Za (ZS YQ Ze7 6) d0<|Za (oMv Ze8) Wp<|Zb) (Zg (Za (Z8 Yg 6) ZgC<|Za (YL 9 1 1 [(.str [])] [⟨0,1,(k (.str [111,110,101]))⟩]) ZgD<|Za (Zq 44 [Zgn,Zgo]) ZgE<|Za (oMv Zgp) ZgB<|Za (Yz ZbM 0) ZgF<|Za (Yz ZbM 1) Zft<|Za (Yk 72 [(nI .i64 0),(.bool false),(nI .i64 0),(.str []), .nils, .nils]) WA<|Za (ZS Wc Zgq 6) d0<|Za (oMv Ze9) WN<|Zb) (Zg (Za (Z8 gt9 6) Zfv<|Za (oMv gt1) Zfw<|Za (YL 9 1 3 (List.replicate 3 [(.str [])]).flatten [⟨0,1,(k (.str [111,110,101]))⟩,⟨1,1,(k (.str [116,119,111]))⟩,⟨2,1,Zbr⟩]) Zfx<|Za (Zq 44 [Zfa,Zfb]) Zfy<|Za (oMv Zfc) Zfu<|Za (Yz Zdk 0) ZgG<|Za (Yz Zdk 1) ZgH<|Za (Yk 72 [(nI .i64 0),(.bool false),(nI .i64 0),(.str []), .nils, .nils]) WY<|Za (ZS Y0 Zgr 6) d0<|Za (oMv Zgs) W4<|Zb) (Zg (Za (oMv gt1) ZgJ<|Za (Z8 gt9 6) ZgK<|Za (YZ [(.str []),(nI .i64 0),(.bool false),(nI .i64 0),(.str []), .nils, .nils] [⟨0,1,Zgt⟩,⟨1,6,ZbN⟩]) ZgL<|Za (YL 100 7 1 [(.str []),(nI .i64 0),(.bool false),(nI .i64 0),(.str []), .nils, .nils] [⟨0,7,Zgu⟩]) ZgM<|Za (Ys Zgv 70) Zi0<|Za (Zq 43 [ZiR]) Zi1<|Za (oMv gt1) ZgN<|Za (YL 9 1 2 (List.replicate 2 [(.str [])]).flatten [⟨0,1,Zgw⟩,⟨1,1,(k (.str [116,104,114,101,101]))⟩]) ZgO<|Za (Zq 44 [ZiS,ZiT]) ZgP<|Za (oMv Zdl) ZgI<|Za (Yz ZdL 0) Zi2<|Za (Yz ZdL 1) Zi3<|Za (Yk 72 [(nI .i64 0),(.bool false),(nI .i64 0),(.str []), .nils, .nils]) W5<|Za (ZS Y8 ZiU 6) d0<|Za (oMv ZiV) Va<|Zb) (Zg (Za (Z8 gt5 6) Zi5<|Za (oMv gt1) Zi6<|Za (YL 9 1 2 (List.replicate 2 [(.str [])]).flatten [⟨0,1,(k (.str [116,119,111]))⟩,⟨1,1,ZdM⟩]) Zi7<|Za (Zq 44 [ZiW,ZiX]) Zi8<|Za (oMv ZiY) Zi4<|Za (Yz Zfd 0) Zi9<|Za (Yz Zfd 1) Zja<|Za (Yk 72 [(nI .i64 0),(.bool false),(nI .i64 0),(.str []), .nils, .nils]) Vq<|Za (ZS Ws ZdN 6) d0<|Za (oMv ZiZ) Vk<|Zb) (Zox))))))
def ZiO:D:=Zg (Za (oMv YP) ZjG<|Za (oMv YK) ZjH<|Za (oEq ZjA ZeP eqI true) ZjI<|Za (oMv ZjB) ZjJ<|ZP Zcc false (oMv YP) ZjK<|ZP Zcc false (oEq ZeQ (k (nI .i64 0)) eqI true) Zh0<|ZP Zcc false (oMv Zds) Zh1<|ZP ZdD true (oMv YP) Zh2<|ZP ZdD true (oEq ZaJ (k (nI .i64 23)) eqI true) Zh3<|ZP Zcc false (Z6 ZdD ZfK (k (.bool false))) ZgA<|Za (Z6 Zcc (k (.bool true)) ZdE) Zh4<|Za (oMv ZjC) Zh5<|ZP Zb7 false (oMv YB) Zh6<|ZP Zb7 false (oMv YJ) Zh7<|ZP Zb7 false (Zq 32 [Zdt,ZhV]) Zh8<|ZP Zb7 false (ZbH ZfL) Zh9<|Za (Z6 Zb7 (k (.bool true)) ZhW) Zia<|Za (oMv ZhX) Zib<|ZP Zb8 false (Z8 gt9 6) ZjL<|ZP Zb8 false (Z8 Yg 6) ZjM<|ZP Zb8 false (Zq 42 [ZjD,Zgm]) ZjN<|ZP Zb8 false (ZbH ZjE) Zkr<|Za (Z6 Zb8 (k (.bool true)) Zkl) Zks<|Za (oMv Zkm) ZjO<|ZP Zcd false (Z8 gt9 6) Zdn<|ZP Zcd false (Z8 Yq 6) Zcj<|ZP Zcd false (Zq 42 [Zce,Zbq]) Zdo<|Za (Z6 Zcd (k (.bool true)) ZaK) Zdp<|Za (oMv Zdi) ZdQ<|ZP ZaL false (Z8 gt9 6) ZdR<|ZP ZaL false (Z8 Yv 6) Zfh<|ZP ZaL false (Zq 42 [Zdj,Ze1]) Zfi<|Za (Z6 ZaL (k (.bool true)) Ze2) Zfj<|Za (oMv Ze3) Zfk<|ZP U8 false (Z8 Yq 6) ZdS<|ZP U8 false (Z8 gt9 6) ZdT<|ZP U8 false (Zq 42 [ZdF,ZdG]) ZdU<|Za (Z6 U8 (k (.bool true)) ZdH) ZdV<|Zb) (ZJ ZdI (Zg (Za (oMv (k (.bool false))) st4<|Zb) Z2) Zb)
def ZlI:D:=Zg (Za (Z8 gt9 6) Zdv<|Za (Zq 29 [Zdq]) ZdP<|Za (oMv Zb6) Zdu<|Za (Yz ZcI 0) ZeR<|Za (Yz ZcI 1) ZeS<|Za (oMv ZeN) YT<|Za (oMv ZeO) Y2<|Zb) (Zg (Za (Z8 Yg 6) ZeU<|Za (Zq 29 [ZcJ]) ZhY<|Za (oMv ZhT) ZeT<|Za (Yz Zdr 0) ZhZ<|Za (Yz Zdr 1) ZjF<|Za (oMv ZhU) Wa<|Za (oMv Zgl) Wd<|Zb) (Zg (ZiO) (Zoy)))
def Zoz:D:=Zg (Yy [⟨Z8 gt6 7,none,[(st6,gt6)],QS, .read,0,0⟩,⟨Z8 gt7 7,none,[(st7,gt7)],Q4, .read,1,0⟩,⟨YL 100 7 2 (List.replicate 2 [(.str []),(nI .i64 0),(.bool false),(nI .i64 0),(.str []), .nils, .nils]).flatten [⟨0,7,Qm⟩,⟨7,7,Q2⟩],none,[(QS,Qm),(Q4,Q2)],QT, .free,2,3⟩,⟨Ys QR 70,none,[(QT,QR)],Q5, .free,3,7⟩,⟨Z8 gt6 7,none,[(st6,gt6)],Q8, .read,5,0⟩,⟨Ys (k (nI .i64 3)) 3,none,[],Zar, .free,6,0⟩,⟨Z8 gt8 7,none,[(st8,gt8)],ZaM, .read,9,0⟩,⟨Yk 72 [(nI .i64 0),(.bool false),(nI .i64 0),(.str []), .nils, .nils],none,[],YN, .free,13,0⟩,⟨Yk 72 [(nI .i64 0),(.bool false),(nI .i64 0),(.str []), .nils, .nils],none,[],YR, .free,14,0⟩,⟨Zq 43 [U9],none,[(Q5,U9)],Q7, .eff,4,15⟩,⟨Zq 43 [Zag],none,[(Zar,Zag)],Zah, .eff,7,95⟩,⟨YZ [(.str []),(nI .i64 0),(.bool false),(nI .i64 0),(.str []), .nils, .nils] [⟨0,1,(k (.str [116,119,111]))⟩,⟨1,6,Q3⟩],none,[(Zah,Q3)],Zas, .free,8,223⟩,⟨YL 100 7 3 (List.replicate 3 [(.str []),(nI .i64 0),(.bool false),(nI .i64 0),(.str []), .nils, .nils]).flatten [⟨0,7,Qn⟩,⟨7,7,ZaV⟩,⟨14,7,ZaW⟩],none,[(Q8,Qn),(Zas,ZaV),(ZaM,ZaW)],Zbb, .free,10,1023⟩,⟨Ys Zaq 70,none,[(Zbb,Zaq)],Zbs, .free,11,2047⟩,⟨Zq 43 [ZaX],none,[(Zbs,ZaX)],ZbI, .eff,12,4095⟩,⟨ZS Yq Zaf 6,none,[(YN,Yq),(Q7,Zaf)],d0, .eff,15,32767⟩,⟨ZS Yv ZaY 6,none,[(YR,Yv),(ZbI,ZaY)],d0, .eff,16,65535⟩]) (ZlI)
def ZoA:D:=Zg (Yy [⟨Z8 gt6 7,none,[(st6,gt6)],Uv, .read,0,0⟩,⟨Z8 gt7 7,none,[(st7,gt7)],Ul, .read,1,0⟩,⟨Z8 gt8 7,none,[(st8,gt8)],Um, .read,2,0⟩,⟨YL 100 7 3 (List.replicate 3 [(.str []),(nI .i64 0),(.bool false),(nI .i64 0),(.str []), .nils, .nils]).flatten [⟨0,7,VW⟩,⟨7,7,W3⟩,⟨14,7,VT⟩],none,[(Uv,VW),(Ul,W3),(Um,VT)],UK, .free,3,7⟩,⟨Ys Uc 70,none,[(UK,Uc)],UL, .free,4,15⟩,⟨Z8 gt8 7,none,[(st8,gt8)],Qd, .read,6,0⟩,⟨Z8 gt6 7,none,[(st6,gt6)],Qe, .read,7,0⟩,⟨Z8 gt7 7,none,[(st7,gt7)],QC, .read,8,0⟩,⟨YL 100 7 3 (List.replicate 3 [(.str []),(nI .i64 0),(.bool false),(nI .i64 0),(.str []), .nils, .nils]).flatten [⟨0,7,UY⟩,⟨7,7,VU⟩,⟨14,7,QA⟩],none,[(Qd,UY),(Qe,VU),(QC,QA)],QD, .free,9,448⟩,⟨Ys QB 70,none,[(QD,QB)],U0, .free,10,960⟩,⟨Yk 72 [(nI .i64 0),(.bool false),(nI .i64 0),(.str []), .nils, .nils],none,[],st9, .free,12,0⟩,⟨Yk 72 [(nI .i64 0),(.bool false),(nI .i64 0),(.str []), .nils, .nils],none,[],YA, .free,13,0⟩,⟨Zq 43 [W8],none,[(UL,W8)],Qc, .eff,5,31⟩,⟨Zq 43 [Uk],none,[(U0,Uk)],Qf, .eff,11,2047⟩,⟨ZS gt9 UC 6,none,[(st9,gt9),(Qc,UC)],d0, .eff,14,16383⟩,⟨ZS Yg W9 6,none,[(YA,Yg),(Qf,W9)],d0, .eff,15,32767⟩]) (Zoz)
def ZlJ:D:=Zg (Yy [⟨Z8 gt5 6,none,[(st5,gt5)],Vx, .read,0,0⟩,⟨YZ [(.str []),(nI .i64 0),(.bool false),(nI .i64 0),(.str []), .nils, .nils] [⟨0,1,(k (.str [111,110,101]))⟩,⟨1,6,WX⟩],none,[(Vx,WX)],VJ, .free,1,1⟩,⟨Ys (k (nI .i64 2)) 3,none,[],VX, .free,2,0⟩,⟨Yk 100 [(.str []),(nI .i64 0),(.bool false),(nI .i64 0),(.str []), .nils, .nils],none,[],st6, .free,5,0⟩,⟨Yk 100 [(.str []),(nI .i64 0),(.bool false),(nI .i64 0),(.str []), .nils, .nils],none,[],st7, .free,6,0⟩,⟨Zq 43 [Vr],none,[(VX,Vr)],Ua, .eff,3,4⟩,⟨YZ [(.str []),(nI .i64 0),(.bool false),(nI .i64 0),(.str []), .nils, .nils] [⟨0,1,(k (.str [116,119,111]))⟩,⟨1,6,Vs⟩],none,[(Ua,Vs)],Uu, .free,4,12⟩,⟨ZS gt6 WF 7,none,[(st6,gt6),(VJ,WF)],d0, .eff,7,111⟩,⟨ZS gt7 UB 7,none,[(st7,gt7),(Uu,UB)],d0, .eff,8,255⟩]) (Zg (Za (Ys (k (.str [51])) 9) UZ<|Za (Zq 43 [Ut]) Qa<|Za (YZ [(.str []),(nI .i64 0),(.bool false),(nI .i64 0),(.str []), .nils, .nils] [⟨0,1,(k (.str [116,104,114,101,101]))⟩,⟨1,6,UJ⟩]) Qb<|Za (Yk 100 [(.str []),(nI .i64 0),(.bool false),(nI .i64 0),(.str []), .nils, .nils]) st8<|Za (ZS gt8 Uj 7) d0<|Zb) (ZoA))
def xc7:CF:=⟨[(gt4,none)],(Zg (Za (oMv (k (.bool false))) st4<|Zb) (Zg (Za (oMv gt0) Vc<|Za (Zq 28 [Ww]) Vw<|Za (Yk 72 [(nI .i64 0),(.bool false),(nI .i64 0),(.str []), .nils, .nils]) st5<|Za (ZS gt5 Vj 6) d0<|Zb) (Zg (Zg (Za (Z8 gt5 6) VA<|Za (Zq 33 [Vz]) VG<|Za (oEq W2 (k (nI .i64 0)) eqI true) VH<|Zb) (ZJ Wz (Zg (Za (Zq 35 []) V9<|Za (oMv V0) st4<|Zb) Z2) Zb)) (ZlJ))))⟩
theorem ZCY:c7=xc7:=rfl
end
end Go.AI
namespace Go.AI
open Go
noncomputable section
theorem Zsc{n:Nat}{s:List UInt8}{t:List AV}(h:Zae n t=true):Zae n (.str s::t)=true:=by
 show cond (Yn n (.str s)) (Zae n t) false=true
 rw[h];rfl
structure ZCZ(H0:Heap)(key:List UInt8)(p5:Nat)(cs:List AV)(p6 p7 p8:Nat)(tm:TM)(H:Heap):Prop where
 t1:gt1 tm= .str key
 t5:gt5 tm= .ptr p5 0
 t6:gt6 tm= .ptr p6 0
 t7:gt7 tm= .ptr p7 0
 t8:gt8 tm= .ptr p8 0
 g5:H.t.get p5=some (rG 72 1 cs 0 false true true)
 g6:H.t.get p6=some (rG 100 1 (.str [111,110,101]::cs) 0 false true true)
 g7:H.t.get p7=some (rG 100 1 [.str [116,119,111],nI .i64 3, .bool false,nI .i64 2, .str [], .nils, .nils] 0 false true true)
 g8:H.t.get p8=some (rG 100 1 [.str [116,104,114,101,101],nI .i64 4, .bool false,nI .i64 0, .str [51], .nils, .nils] 0 false true true)
 l5:p5<H.nx
 l6:p6<H.nx
 l7:p7<H.nx
 l8:p8<H.nx
 k:Keep H0 H []
 ro:H.ro≤H.nx
theorem ZC0{Zk:Lib}{fs:T CF}{fuel:Nat}(E:Env Zk fs fuel){n:Nat}{y f d r}{x:X}{tm:TM}{H:Heap}{key:List UInt8}{p5 h:Nat}{v:JV}{cs:List AV}(t1:gt1 tm= .str key)(t5:gt5 tm= .ptr p5 0)(g5:H.t.get p5=some (rG 72 1 cs 0 false true true))(l5:p5<H.nx)(hro:H.ro≤H.nx)(hv:VR H h v cs):
  ∃tm' H' p6 p7 p8,ZlJ ⟨ZQ (LK Zk fs fuel 7) fs fuel (n+60),y,f,d,r⟩ tm H x=ZoA ⟨ZQ (LK Zk fs fuel 7) fs fuel (n+60),y,f,d,r⟩ tm' H' x∧ZCZ H key p5 cs p6 p7 p8 tm' H':=by
 have t1':=t1;have t5':=t5
 simp only[ZbK] at t1
 simp only[Ziu] at t5
 have hlen:=hv.len
 have ld5: ∀G:Heap,ldN 6 (some (rG 72 1 cs 0 false true true)) 0 G= .val (.agg cs) G:=fun G=>by rw[Yu (by omega)];congr 2;rw[ZK,Zv (by omega)]
 have bd1: ∀G:Heap,Zay [.str [],nI .i64 0, .bool false,nI .i64 0, .str [], .nils, .nils] [(0,1, .str [111,110,101]),(1,6, .agg cs)] G= .val (.agg (.str [111,110,101]::cs)) G:=fun G=>Zvh hlen [111,110,101] G
 have bd2: ∀G:Heap,Zay [.str [],nI .i64 0, .bool false,nI .i64 0, .str [], .nils, .nils] [(0,1, .str [116,119,111]),(1,6, .agg [nI .i64 3, .bool false,nI .i64 2, .str [], .nils, .nils])] G= .val (.agg [.str [116,119,111],nI .i64 3, .bool false,nI .i64 2, .str [], .nils, .nils]) G:=fun G=>Zvh (cs:=[nI .i64 3, .bool false,nI .i64 2, .str [], .nils, .nils]) rfl [116,119,111] G
 have bd3: ∀G:Heap,Zay [.str [],nI .i64 0, .bool false,nI .i64 0, .str [], .nils, .nils] [(0,1, .str [116,104,114,101,101]),(1,6, .agg [nI .i64 4, .bool false,nI .i64 0, .str [51], .nils, .nils])] G= .val (.agg [.str [116,104,114,101,101],nI .i64 4, .bool false,nI .i64 0, .str [51], .nils, .nils]) G:=fun G=>Zvh (cs:=[nI .i64 4, .bool false,nI .i64 0, .str [51], .nils, .nils]) rfl [116,104,114,101,101] G
 obtain⟨HA,hA⟩: ∃G,H.new (rG 100 1 [.str [],nI .i64 0, .bool false,nI .i64 0, .str [], .nils, .nils] 0 false true true)=G:=⟨_,rfl⟩
 have nxA:HA.nx=H.nx+1:=by rw[←hA];rfl
 have roA:HA.ro=H.ro:=by rw[←hA];rfl
 obtain⟨HB,hB⟩: ∃G,HA.new (rG 100 1 [.str [],nI .i64 0, .bool false,nI .i64 0, .str [], .nils, .nils] 0 false true true)=G:=⟨_,rfl⟩
 have nxB:HB.nx=H.nx+1+1:=by rw[←hB,Vn,nxA]
 have roB:HB.ro=H.ro:=by rw[←hB,←roA];rfl
 have gA1:HA.t.get p5=some (rG 72 1 cs 0 false true true):=by rw[←hA,ZH (by omega)];exact g5
 have gB1:HB.t.get p5=some (rG 72 1 cs 0 false true true):=by rw[←hB,ZH (by omega)];exact gA1
 have gB2:HB.t.get H.nx=some (rG 100 1 [.str [],nI .i64 0, .bool false,nI .i64 0, .str [], .nils, .nils] 0 false true true):=by rw[←hB,ZH (by omega),←hA,ZA rfl]
 have gB3:HB.t.get (H.nx+1)=some (rG 100 1 [.str [],nI .i64 0, .bool false,nI .i64 0, .str [], .nils, .nils] 0 false true true):=by rw[←hB,ZA nxA]
 have eo2: ∀{q},ZQ (LK Zk fs fuel 7) fs fuel (q+1) 43 [.iface 3 (nI .i64 2)] HB= .ret (.agg [nI .i64 3, .bool false,nI .i64 2, .str [], .nils, .nils]) HB:=fun{q}=>ofInt (Zk:=Zk) (fs:=fs) (fuel:=fuel) E (k:=7) (n:=q) (by decide) (z:= .ofNat 2) (H:=HB) (by omega)
 have st6:=Yx (n:=7) (l:=[.str [],nI .i64 0, .bool false,nI .i64 0, .str [], .nils, .nils]) (vs:=(.str [111,110,101]::cs)) (b:=H.nx) (H:=HB) (by rfl) (by rw[Zn,hlen]) (by omega) (by omega) 100 1 false true
 obtain⟨HC,hC⟩: ∃G,HB.put H.nx (rG 100 1 (.str [111,110,101]::cs) 0 false true true)=G:=⟨_,rfl⟩
 rw[hC] at st6
 have nxC:HC.nx=HB.nx:=by rw[←hC];rfl
 have roC:HC.ro=HB.ro:=by rw[←hC];rfl
 have gC1:HC.t.get p5=some (rG 72 1 cs 0 false true true):=by rw[←hC,ZF (by omega)];exact gB1
 have gC2:HC.t.get H.nx=some (rG 100 1 (.str [111,110,101]::cs) 0 false true true):=by rw[←hC,Z5]
 have gC3:HC.t.get (H.nx+1)=some (rG 100 1 [.str [],nI .i64 0, .bool false,nI .i64 0, .str [], .nils, .nils] 0 false true true):=by rw[←hC,ZF (by omega)];exact gB3
 have st7:=Yx (n:=7) (l:=[.str [],nI .i64 0, .bool false,nI .i64 0, .str [], .nils, .nils]) (vs:=[.str [116,119,111],nI .i64 3, .bool false,nI .i64 2, .str [], .nils, .nils]) (b:=H.nx+1) (H:=HC) (by rfl) (by rfl) (by omega) (by omega) 100 1 false true
 obtain⟨HD,hD⟩: ∃G,HC.put (H.nx+1) (rG 100 1 [.str [116,119,111],nI .i64 3, .bool false,nI .i64 2, .str [], .nils, .nils] 0 false true true)=G:=⟨_,rfl⟩
 rw[hD] at st7
 have nxD:HD.nx=H.nx+1+1:=by rw[←hD];show HC.nx=_;omega
 have roD:HD.ro=H.ro:=by rw[←hD];show HC.ro=_;omega
 have gD1:HD.t.get p5=some (rG 72 1 cs 0 false true true):=by rw[←hD,ZF (by omega)];exact gC1
 have gD2:HD.t.get H.nx=some (rG 100 1 (.str [111,110,101]::cs) 0 false true true):=by rw[←hD,ZF (by omega)];exact gC2
 have gD3:HD.t.get (H.nx+1)=some (rG 100 1 [.str [116,119,111],nI .i64 3, .bool false,nI .i64 2, .str [], .nils, .nils] 0 false true true):=by rw[←hD,Z5]
 have eo3:=fun{q}=>ZyJ (Zk:=Zk) (fs:=fs) (fuel:=fuel) E (k:=7) (n:=q) (by decide) (s:=[51]) (H:=HD) (by omega)
 have st8:=Yx (n:=7) (l:=[.str [],nI .i64 0, .bool false,nI .i64 0, .str [], .nils, .nils]) (vs:=[.str [116,104,114,101,101],nI .i64 4, .bool false,nI .i64 0, .str [51], .nils, .nils]) (b:=HD.nx) (H:=HD.new (rG 100 1 [.str [],nI .i64 0, .bool false,nI .i64 0, .str [], .nils, .nils] 0 false true true)) (by rfl) (by rfl) (by omega) (show HD.ro≤HD.nx by omega) 100 1 false true
 obtain⟨HE,hE⟩: ∃G,HD.new (rG 100 1 [.str [116,104,114,101,101],nI .i64 4, .bool false,nI .i64 0, .str [51], .nils, .nils] 0 false true true)=G:=⟨_,rfl⟩
 rw[Wy rfl,hE,nxD] at st8
 have nxE:HE.nx=H.nx+1+1+1:=by rw[←hE,Vn,nxD]
 have roE:HE.ro=H.ro:=by rw[←hE];exact roD
 have gE1:HE.t.get p5=some (rG 72 1 cs 0 false true true):=by rw[←hE,ZH (by omega)];exact gD1
 have gE2:HE.t.get H.nx=some (rG 100 1 (.str [111,110,101]::cs) 0 false true true):=by rw[←hE,ZH (by omega)];exact gD2
 have gE3:HE.t.get (H.nx+1)=some (rG 100 1 [.str [116,119,111],nI .i64 3, .bool false,nI .i64 2, .str [], .nils, .nils] 0 false true true):=by rw[←hE,ZH (by omega)];exact gD3
 have gE4:HE.t.get (H.nx+1+1)=some (rG 100 1 [.str [116,104,114,101,101],nI .i64 4, .bool false,nI .i64 0, .str [51], .nils, .nils] 0 false true true):=by rw[←hE,ZA nxD]
 have kE:Keep H HE []:=by
  rw[←hE,←hD,←hC,←hB,←hA]
  exact((((Keep.new H _ _).then_new _).then_put (fun h=>absurd h (by omega))).then_put (fun h=>absurd h (by omega))).then_new _
 have lc0:=hv.low (n:=H.nx) (Zl _)
 have lc1:=hv.low (n:=H.nx+1+1) (by omega)
 have sc1:=Zaz hv.same
 have lo1:=Zsc (s:=[111,110,101]) lc1
 have lp5:Yn (H.nx+1+1) (.ptr p5 0)=true:=ZO (by omega) 0
 have lp6:Yn (H.nx+1+1) (.ptr H.nx 0)=true:=ZO (by omega) 0
 have lp7:Yn (H.nx+1+1) (.ptr (H.nx+1) 0)=true:=ZO (by omega) 0
 simp(maxSteps:=4000000) (disch:=first|assumption|omega|(simp -implicitDefEqProofs only[Zt,Zu]<;>first|assumption|omega)|decide) only[t1,t5,ld5,bd1,bd2,bd3,hA,hB,nxA,nxB,gA1,gB1,gB2,gB3,eo2,st6,gC1,gC2,gC3,st7,eo3,nxD,st8,gE1,lc0,lc1,sc1,lo1,lp5,lp6,lp7,Zdd,ZeK,ZhE,Zka,ZhF,g5,ZlJ,ZG,N8G,Zr,Zs,Zd,Ze,Zf,Nat.reducePow,Nat.reduceDiv,Nat.reduceMod,Nat.reduceEqDiff,reduceCtorEq,TB0,TB1]
 refine⟨_,_,H.nx,H.nx+1,H.nx+1+1,rfl,?_⟩
 exact⟨(by simp only[TB0,N8G];exact t1'),(by simp only[TB0,N8G];exact t5'),(by simp only[TB0,N8G]),(by simp only[TB0,N8G]),(by simp only[TB0,N8G]),gE1,gE2,gE3,gE4,by omega,by omega,by omega,by omega,kE,by omega⟩
end
end Go.AI
namespace Go.AI
open Go
noncomputable section
theorem ZC1{a b c:List AV}(ha:a.length=7)(hb:b.length=7)(hc:c.length=7)(H:Heap):Uz 100 7 3 (List.replicate 3 [.str [],nI .i64 0, .bool false,nI .i64 0, .str [], .nils, .nils]).flatten [(0,7, .agg a),(7,7, .agg b),(14,7, .agg c)] H= .val (.slice H.nx 0 3 none) (H.new (rG 100 7 [a,b,c].flatten 0 false true true)):=by
 match a,ha,b,hb,c,hc with
 |[_,_,_,_,_,_,_],_,[_,_,_,_,_,_,_],_,[_,_,_,_,_,_,_],_=>rfl
theorem ZF8{a b:List AV}(ha:a.length=7)(hb:b.length=7)(H:Heap):Uz 100 7 2 (List.replicate 2 [.str [],nI .i64 0, .bool false,nI .i64 0, .str [], .nils, .nils]).flatten [(0,7, .agg a),(7,7, .agg b)] H= .val (.slice H.nx 0 2 none) (H.new (rG 100 7 [a,b].flatten 0 false true true)):=by
 match a,ha,b,hb with
 |[_,_,_,_,_,_,_],_,[_,_,_,_,_,_,_],_=>rfl
theorem ZF9{a:List AV}(ha:a.length=7)(H:Heap):Uz 100 7 1 [.str [],nI .i64 0, .bool false,nI .i64 0, .str [], .nils, .nils] [(0,7, .agg a)] H= .val (.slice H.nx 0 1 none) (H.new (rG 100 7 [a].flatten 0 false true true)):=by
 match a,ha with
 |[_,_,_,_,_,_,_],_=>rfl
def Za5(b n:Nat):List AV:=[nI .i64 6, .bool false,nI .i64 0, .str [], .nils, .slice b 0 n none]
theorem ZlK{H:Heap}{b h:Nat}{M:List (List UInt8×JV)}{recs:List (List AV)}(g:H.t.get b=some (rG 100 7 recs.flatten 0 false true true))(hb:b<H.nx)(e:recs.length=M.length)(hM:M.length≤12)(hE: ∀i,i<M.length→(M.getD i default).1.length≤9000∧ ∃t,recs.getD i []= .str (M.getD i default).1::t∧VR H h (M.getD i default).2 t):
  VR H (h+1) (JV.tab M) (Za5 b M.length):=by
 refine⟨.nils, .slice b 0 M.length none,[],recs,rfl,by omega,by omega,Nat.zero_le _,Nat.zero_le _,by omega,Sl.nil ..,?_,rfl,e,fun i hi=>absurd hi (Nat.not_lt_zero _),hE⟩
 rw[←e]
 refine Sl.of_rG g hb fun l hl=>?_
 obtain⟨i,hi,rfl⟩:=ZlH (d:=[]) hl
 obtain⟨_,t,h1,h2⟩:=hE i (by omega)
 rw[h1,Zn,h2.len]
theorem ZlL(H:Heap)(h:Nat):VR H (h+1) JV.two [nI .i64 3, .bool false,nI .i64 2, .str [], .nils, .nils]:=(VRs.leaf (S:=fun _=>False) (k:=3) (b:=false) (n:=2) (s:=[]) (by omega) (by omega) (Nat.zero_le _)).vr
theorem ZC2(H:Heap)(h:Nat):VR H (h+1) JV.tri [nI .i64 3, .bool false,nI .i64 3, .str [], .nils, .nils]:=(VRs.leaf (S:=fun _=>False) (k:=3) (b:=false) (n:=3) (s:=[]) (by omega) (by omega) (Nat.zero_le _)).vr
theorem ZlM(H:Heap)(h:Nat):VR H (h+1) JV.thr [nI .i64 4, .bool false,nI .i64 0, .str [51], .nils, .nils]:=(VRs.leaf (S:=fun _=>False) (k:=4) (b:=false) (n:=0) (s:=[51]) (by omega) (by omega) (by simp)).vr
theorem k1l:JV.kOne.length≤9000:=by decide
theorem k2l:JV.kTwo.length≤9000:=by decide
theorem k3l:JV.kThree.length≤9000:=by decide
structure ZC3(H0:Heap)(key:List UInt8)(p5:Nat)(cs:List AV)(v:JV)(h p6 p7 p8 p9 p10:Nat)(ac bc:List AV)(tm:TM)(H:Heap):Prop where
 e:ZCZ H0 key p5 cs p6 p7 p8 tm H
 t9:gt9 tm= .ptr p9 0
 t10:Yg tm= .ptr p10 0
 g9:H.t.get p9=some (rG 72 1 ac 0 false true true)
 g10:H.t.get p10=some (rG 72 1 bc 0 false true true)
 l9:p9<H.nx
 l10:p10<H.nx
 va:VR H (h+2) (JV.va v) ac
 vb:VR H (h+2) (JV.vb v) bc
theorem ZC4{Zk:Lib}{fs:T CF}{fuel:Nat}(E:Env Zk fs fuel){n:Nat}{y f d r}{x:X}{tm:TM}{H0 H:Heap}{key:List UInt8}{p5 p6 p7 p8 h:Nat}{v:JV}{cs:List AV}(S:ZCZ H0 key p5 cs p6 p7 p8 tm H)(hv:VR H (h+1) v cs):
  ∃tm' H' p9 p10 ac bc,ZoA ⟨ZQ (LK Zk fs fuel 7) fs fuel (n+60),y,f,d,r⟩ tm H x=Zoz ⟨ZQ (LK Zk fs fuel 7) fs fuel (n+60),y,f,d,r⟩ tm' H' x∧ZC3 H0 key p5 cs v h p6 p7 p8 p9 p10 ac bc tm' H'∧Keep H H' []:=by
 obtain⟨t1,t5,t6,t7,t8,g_p5_H,g_p6_H,g_p7_H,g_p8_H,l5,l6,l7,l8,k0,hro⟩:=S
 have t1':=t1;have t5':=t5;have t6':=t6;have t7':=t7;have t8':=t8
 simp only[ZbK] at t1
 simp only[Ziu] at t5
 simp only[Zld] at t6
 simp only[Zuo] at t7
 simp only[ZlU] at t8
 have hlen:=hv.len
 have hl7:(.str [111,110,101]::cs).length=7:=by rw[Zn,hlen]
 have nxH:H.nx=H.nx:=rfl
 have ld6: ∀G:Heap,ldN 7 (some (rG 100 1 (.str [111,110,101]::cs) 0 false true true)) 0 G= .val (.agg (.str [111,110,101]::cs)) G:=fun G=>by rw[Yu (by omega)];congr 2;rw[ZK,Zv (by omega)]
 have ld7: ∀G:Heap,ldN 7 (some (rG 100 1 [.str [116,119,111],nI .i64 3, .bool false,nI .i64 2, .str [], .nils, .nils] 0 false true true)) 0 G= .val (.agg [.str [116,119,111],nI .i64 3, .bool false,nI .i64 2, .str [], .nils, .nils]) G:=fun G=>by rw[Yu (by simp)];rfl
 have ld8: ∀G:Heap,ldN 7 (some (rG 100 1 [.str [116,104,114,101,101],nI .i64 4, .bool false,nI .i64 0, .str [51], .nils, .nils] 0 false true true)) 0 G= .val (.agg [.str [116,104,114,101,101],nI .i64 4, .bool false,nI .i64 0, .str [51], .nils, .nils]) G:=fun G=>by rw[Yu (by simp)];rfl
 have b44:=ZC1 hl7 (b:=[.str [116,119,111],nI .i64 3, .bool false,nI .i64 2, .str [], .nils, .nils]) rfl (c:=[.str [116,104,114,101,101],nI .i64 4, .bool false,nI .i64 0, .str [51], .nils, .nils]) rfl
 obtain⟨HA,hHA⟩: ∃G,Heap.new H (rG 100 7 [(.str [111,110,101]::cs),[.str [116,119,111],nI .i64 3, .bool false,nI .i64 2, .str [], .nils, .nils],[.str [116,104,114,101,101],nI .i64 4, .bool false,nI .i64 0, .str [51], .nils, .nils]].flatten 0 false true true)=G:=⟨_,rfl⟩
 have nxHA:HA.nx=H.nx+1:=by rw[←hHA,Vn,nxH]
 have roHA:HA.ro=H.ro:=by rw[←hHA];rfl
 have g_p5_HA:HA.t.get p5=some (rG 72 1 cs 0 false true true):=by rw[←hHA,ZH (by omega)];exact g_p5_H
 have g_p6_HA:HA.t.get p6=some (rG 100 1 (.str [111,110,101]::cs) 0 false true true):=by rw[←hHA,ZH (by omega)];exact g_p6_H
 have g_p7_HA:HA.t.get p7=some (rG 100 1 [.str [116,119,111],nI .i64 3, .bool false,nI .i64 2, .str [], .nils, .nils] 0 false true true):=by rw[←hHA,ZH (by omega)];exact g_p7_H
 have g_p8_HA:HA.t.get p8=some (rG 100 1 [.str [116,104,114,101,101],nI .i64 4, .bool false,nI .i64 0, .str [51], .nils, .nils] 0 false true true):=by rw[←hHA,ZH (by omega)];exact g_p8_H
 have b50:=ZC1 (a:=[.str [116,104,114,101,101],nI .i64 4, .bool false,nI .i64 0, .str [51], .nils, .nils]) rfl hl7 (c:=[.str [116,119,111],nI .i64 3, .bool false,nI .i64 2, .str [], .nils, .nils]) rfl
 obtain⟨HB,hHB⟩: ∃G,Heap.new HA (rG 100 7 [[.str [116,104,114,101,101],nI .i64 4, .bool false,nI .i64 0, .str [51], .nils, .nils],(.str [111,110,101]::cs),[.str [116,119,111],nI .i64 3, .bool false,nI .i64 2, .str [], .nils, .nils]].flatten 0 false true true)=G:=⟨_,rfl⟩
 have nxHB:HB.nx=H.nx+1+1:=by rw[←hHB,Vn,nxHA]
 have roHB:HB.ro=HA.ro:=by rw[←hHB];rfl
 have g_p5_HB:HB.t.get p5=some (rG 72 1 cs 0 false true true):=by rw[←hHB,ZH (by omega)];exact g_p5_HA
 have g_p6_HB:HB.t.get p6=some (rG 100 1 (.str [111,110,101]::cs) 0 false true true):=by rw[←hHB,ZH (by omega)];exact g_p6_HA
 have g_p7_HB:HB.t.get p7=some (rG 100 1 [.str [116,119,111],nI .i64 3, .bool false,nI .i64 2, .str [], .nils, .nils] 0 false true true):=by rw[←hHB,ZH (by omega)];exact g_p7_HA
 have g_p8_HB:HB.t.get p8=some (rG 100 1 [.str [116,104,114,101,101],nI .i64 4, .bool false,nI .i64 0, .str [51], .nils, .nils] 0 false true true):=by rw[←hHB,ZH (by omega)];exact g_p8_HA
 obtain⟨HC,hHC⟩: ∃G,Heap.new HB (rG 72 1 [nI .i64 0, .bool false,nI .i64 0, .str [], .nils, .nils] 0 false true true)=G:=⟨_,rfl⟩
 have nxHC:HC.nx=H.nx+1+1+1:=by rw[←hHC,Vn,nxHB]
 have roHC:HC.ro=HB.ro:=by rw[←hHC];rfl
 have g_p5_HC:HC.t.get p5=some (rG 72 1 cs 0 false true true):=by rw[←hHC,ZH (by omega)];exact g_p5_HB
 have g_p6_HC:HC.t.get p6=some (rG 100 1 (.str [111,110,101]::cs) 0 false true true):=by rw[←hHC,ZH (by omega)];exact g_p6_HB
 have g_p7_HC:HC.t.get p7=some (rG 100 1 [.str [116,119,111],nI .i64 3, .bool false,nI .i64 2, .str [], .nils, .nils] 0 false true true):=by rw[←hHC,ZH (by omega)];exact g_p7_HB
 have g_p8_HC:HC.t.get p8=some (rG 100 1 [.str [116,104,114,101,101],nI .i64 4, .bool false,nI .i64 0, .str [51], .nils, .nils] 0 false true true):=by rw[←hHC,ZH (by omega)];exact g_p8_HB
 obtain⟨HD,hHD⟩: ∃G,Heap.new HC (rG 72 1 [nI .i64 0, .bool false,nI .i64 0, .str [], .nils, .nils] 0 false true true)=G:=⟨_,rfl⟩
 have nxHD:HD.nx=H.nx+1+1+1+1:=by rw[←hHD,Vn,nxHC]
 have roHD:HD.ro=HC.ro:=by rw[←hHD];rfl
 have g_p5_HD:HD.t.get p5=some (rG 72 1 cs 0 false true true):=by rw[←hHD,ZH (by omega)];exact g_p5_HC
 have g_p6_HD:HD.t.get p6=some (rG 100 1 (.str [111,110,101]::cs) 0 false true true):=by rw[←hHD,ZH (by omega)];exact g_p6_HC
 have g_p7_HD:HD.t.get p7=some (rG 100 1 [.str [116,119,111],nI .i64 3, .bool false,nI .i64 2, .str [], .nils, .nils] 0 false true true):=by rw[←hHD,ZH (by omega)];exact g_p7_HC
 have g_p8_HD:HD.t.get p8=some (rG 100 1 [.str [116,104,114,101,101],nI .i64 4, .bool false,nI .i64 0, .str [51], .nils, .nils] 0 false true true):=by rw[←hHD,ZH (by omega)];exact g_p8_HC
 have ga_HD:HD.t.get H.nx=some (rG 100 7 [(.str [111,110,101]::cs),[.str [116,119,111],nI .i64 3, .bool false,nI .i64 2, .str [], .nils, .nils],[.str [116,104,114,101,101],nI .i64 4, .bool false,nI .i64 0, .str [51], .nils, .nils]].flatten 0 false true true):=by rw[←hHD,ZH (by omega),←hHC,ZH (by omega),←hHB,ZH (by omega),←hHA,ZA rfl]
 have gb_HD:HD.t.get (H.nx+1)=some (rG 100 7 [[.str [116,104,114,101,101],nI .i64 4, .bool false,nI .i64 0, .str [51], .nils, .nils],(.str [111,110,101]::cs),[.str [116,119,111],nI .i64 3, .bool false,nI .i64 2, .str [], .nils, .nils]].flatten 0 false true true):=by rw[←hHD,ZH (by omega),←hHC,ZH (by omega),←hHB,ZA nxHA]
 have g9_HD:HD.t.get (H.nx+1+1)=some (rG 72 1 [nI .i64 0, .bool false,nI .i64 0, .str [], .nils, .nils] 0 false true true):=by rw[←hHD,ZH (by omega),←hHC,ZA nxHB]
 have g10_HD:HD.t.get (H.nx+1+1+1)=some (rG 72 1 [nI .i64 0, .bool false,nI .i64 0, .str [], .nils, .nils] 0 false true true):=by rw[←hHD,ZA nxHC]
 obtain⟨HE,e46,kE⟩:=ZeL E (k:=7) (n:=n+58) (by decide) (v:= .slice H.nx 0 3 none) (H:=HD) (.inr ⟨_,_,_,_,rfl⟩) (by omega)
 have nxE:=kE.nx
 have roE:=kE.ro
 obtain⟨HF,e52,kF⟩:=ZeL E (k:=7) (n:=n+58) (by decide) (v:= .slice (H.nx+1) 0 3 none) (H:=HE) (.inr ⟨_,_,_,_,rfl⟩) (by omega)
 have nxF:=kF.nx
 have roF:=kF.ro
 have g_p5_HE:HE.t.get p5=some (rG 72 1 cs 0 false true true):=by rw[kE.get _ (by omega) (by simp)];exact g_p5_HD
 have g_p6_HE:HE.t.get p6=some (rG 100 1 (.str [111,110,101]::cs) 0 false true true):=by rw[kE.get _ (by omega) (by simp)];exact g_p6_HD
 have g_p7_HE:HE.t.get p7=some (rG 100 1 [.str [116,119,111],nI .i64 3, .bool false,nI .i64 2, .str [], .nils, .nils] 0 false true true):=by rw[kE.get _ (by omega) (by simp)];exact g_p7_HD
 have g_p8_HE:HE.t.get p8=some (rG 100 1 [.str [116,104,114,101,101],nI .i64 4, .bool false,nI .i64 0, .str [51], .nils, .nils] 0 false true true):=by rw[kE.get _ (by omega) (by simp)];exact g_p8_HD
 have g_p5_HF:HF.t.get p5=some (rG 72 1 cs 0 false true true):=by rw[kF.get _ (by omega) (by simp)];exact g_p5_HE
 have g_p6_HF:HF.t.get p6=some (rG 100 1 (.str [111,110,101]::cs) 0 false true true):=by rw[kF.get _ (by omega) (by simp)];exact g_p6_HE
 have g_p7_HF:HF.t.get p7=some (rG 100 1 [.str [116,119,111],nI .i64 3, .bool false,nI .i64 2, .str [], .nils, .nils] 0 false true true):=by rw[kF.get _ (by omega) (by simp)];exact g_p7_HE
 have g_p8_HF:HF.t.get p8=some (rG 100 1 [.str [116,104,114,101,101],nI .i64 4, .bool false,nI .i64 0, .str [51], .nils, .nils] 0 false true true):=by rw[kF.get _ (by omega) (by simp)];exact g_p8_HE
 have g9_HF:HF.t.get (H.nx+1+1)=some (rG 72 1 [nI .i64 0, .bool false,nI .i64 0, .str [], .nils, .nils] 0 false true true):=by rw[kF.get _ (by omega) (by simp),kE.get _ (by omega) (by simp)];exact g9_HD
 have g10_HF:HF.t.get (H.nx+1+1+1)=some (rG 72 1 [nI .i64 0, .bool false,nI .i64 0, .str [], .nils, .nils] 0 false true true):=by rw[kF.get _ (by omega) (by simp),kE.get _ (by omega) (by simp)];exact g10_HD
 have s9:=Yx (n:=6) (l:=[nI .i64 0, .bool false,nI .i64 0, .str [], .nils, .nils]) (vs:=Za5 H.nx 3) (b:=H.nx+1+1) (H:=HF) (by rfl) (by rfl) (by omega) (by omega) 72 1 false true
 obtain⟨HG,hHG⟩: ∃G,HF.put (H.nx+1+1) (rG 72 1 (Za5 H.nx 3) 0 false true true)=G:=⟨_,rfl⟩
 rw[hHG] at s9
 have nxG:HG.nx=HF.nx:=by rw[←hHG];rfl
 have roG:HG.ro=HF.ro:=by rw[←hHG];rfl
 have g10_HG:HG.t.get (H.nx+1+1+1)=some (rG 72 1 [nI .i64 0, .bool false,nI .i64 0, .str [], .nils, .nils] 0 false true true):=by rw[←hHG,ZF (by omega)];exact g10_HF
 have s10:=Yx (n:=6) (l:=[nI .i64 0, .bool false,nI .i64 0, .str [], .nils, .nils]) (vs:=Za5 (H.nx+1) 3) (b:=H.nx+1+1+1) (H:=HG) (by rfl) (by rfl) (by omega) (by omega) 72 1 false true
 obtain⟨HI,hHI⟩: ∃G,HG.put (H.nx+1+1+1) (rG 72 1 (Za5 (H.nx+1) 3) 0 false true true)=G:=⟨_,rfl⟩
 rw[hHI] at s10
 have nxI:HI.nx=HF.nx:=by rw[←hHI];exact nxG
 have roI:HI.ro=HF.ro:=by rw[←hHI];exact roG
 have g_p5_HG:HG.t.get p5=some (rG 72 1 cs 0 false true true):=by rw[←hHG,ZF (by omega)];exact g_p5_HF
 have g_p6_HG:HG.t.get p6=some (rG 100 1 (.str [111,110,101]::cs) 0 false true true):=by rw[←hHG,ZF (by omega)];exact g_p6_HF
 have g_p7_HG:HG.t.get p7=some (rG 100 1 [.str [116,119,111],nI .i64 3, .bool false,nI .i64 2, .str [], .nils, .nils] 0 false true true):=by rw[←hHG,ZF (by omega)];exact g_p7_HF
 have g_p8_HG:HG.t.get p8=some (rG 100 1 [.str [116,104,114,101,101],nI .i64 4, .bool false,nI .i64 0, .str [51], .nils, .nils] 0 false true true):=by rw[←hHG,ZF (by omega)];exact g_p8_HF
 have g_p5_HI:HI.t.get p5=some (rG 72 1 cs 0 false true true):=by rw[←hHI,ZF (by omega)];exact g_p5_HG
 have g_p6_HI:HI.t.get p6=some (rG 100 1 (.str [111,110,101]::cs) 0 false true true):=by rw[←hHI,ZF (by omega)];exact g_p6_HG
 have g_p7_HI:HI.t.get p7=some (rG 100 1 [.str [116,119,111],nI .i64 3, .bool false,nI .i64 2, .str [], .nils, .nils] 0 false true true):=by rw[←hHI,ZF (by omega)];exact g_p7_HG
 have g_p8_HI:HI.t.get p8=some (rG 100 1 [.str [116,104,114,101,101],nI .i64 4, .bool false,nI .i64 0, .str [51], .nils, .nils] 0 false true true):=by rw[←hHI,ZF (by omega)];exact g_p8_HG
 have g9_HI:HI.t.get (H.nx+1+1)=some (rG 72 1 (Za5 H.nx 3) 0 false true true):=by rw[←hHI,ZF (by omega),←hHG,Z5]
 have g10_HI:HI.t.get (H.nx+1+1+1)=some (rG 72 1 (Za5 (H.nx+1) 3) 0 false true true):=by rw[←hHI,Z5]
 have ga_HI:HI.t.get H.nx=some (rG 100 7 [(.str [111,110,101]::cs),[.str [116,119,111],nI .i64 3, .bool false,nI .i64 2, .str [], .nils, .nils],[.str [116,104,114,101,101],nI .i64 4, .bool false,nI .i64 0, .str [51], .nils, .nils]].flatten 0 false true true):=by rw[←hHI,ZF (by omega),←hHG,ZF (by omega),kF.get _ (by omega) (by simp),kE.get _ (by omega) (by simp)];exact ga_HD
 have gb_HI:HI.t.get (H.nx+1)=some (rG 100 7 [[.str [116,104,114,101,101],nI .i64 4, .bool false,nI .i64 0, .str [51], .nils, .nils],(.str [111,110,101]::cs),[.str [116,119,111],nI .i64 3, .bool false,nI .i64 2, .str [], .nils, .nils]].flatten 0 false true true):=by rw[←hHI,ZF (by omega),←hHG,ZF (by omega),kF.get _ (by omega) (by simp),kE.get _ (by omega) (by simp)];exact gb_HD
 have kD:Keep H HD []:=by rw[←hHD,←hHC,←hHB,←hHA];exact(((Keep.new H _ _).then_new _).then_new _).then_new _
 have kI:Keep H HI []:=by
  rw[←hHI,←hHG]
  exact(((kD.trans kE (by simp)).trans kF (by simp)).then_put (fun h=>absurd h (by omega))).then_put (fun h=>absurd h (by omega))
 have hvI:=hv.keep kI
 have va:VR HI (h+2) (JV.va v) (Za5 H.nx 3):=ZlK (M:=[(JV.kOne,v),(JV.kTwo,JV.two),(JV.kThree,JV.thr)]) ga_HI (by omega) rfl (show 3≤12 by decide) (fun i hi=>by
  have hi:i<3:=hi
  match i,hi with
  |0,_=>exact⟨k1l,cs,rfl,hvI⟩
  |1,_=>exact⟨k2l,_,rfl,ZlL HI h⟩
  |2,_=>exact⟨k3l,_,rfl,ZlM HI h⟩)
 have vb:VR HI (h+2) (JV.vb v) (Za5 (H.nx+1) 3):=ZlK (M:=[(JV.kThree,JV.thr),(JV.kOne,v),(JV.kTwo,JV.two)]) gb_HI (by omega) rfl (show 3≤12 by decide) (fun i hi=>by
  have hi:i<3:=hi
  match i,hi with
  |0,_=>exact⟨k3l,_,rfl,ZlM HI h⟩
  |1,_=>exact⟨k1l,cs,rfl,hvI⟩
  |2,_=>exact⟨k2l,_,rfl,ZlL HI h⟩)
 have lcs: ∀m,H.nx≤m→Zae m cs=true:=fun m hm=>hv.low hm
 have sc:=Zaz (show Vy (.str [111,110,101]::cs) (.str [111,110,101]::cs)=true by unfold Vy;rw[Zcw];exact hv.same)
 have se2:=ZcA (s:=[116,119,111]) (ZlL H 0).same
 have se3:=ZcA (s:=[116,104,114,101,101]) (ZlM H 0).same
 unfold Za5 at s9 s10
 simp(maxSteps:=4000000) (disch:=first|assumption|omega|(simp -implicitDefEqProofs only[Zt,Zu]<;>first|assumption|omega)|decide) only[t1,t5,t6,t7,t8,ld6,ld7,ld8,b44,b50,hHA,hHB,hHC,hHD,nxHA,nxHB,nxHC,e46,e52,g9_HF,g10_HF,g10_HG,s9,s10,sc,se2,se3,lcs,ZO,YD,g_p6_H,g_p7_H,g_p8_H,g_p6_HA,g_p7_HA,g_p8_HA,g_p6_HB,g_p7_HB,g_p8_HB,g_p6_HC,g_p7_HC,g_p8_HC,g_p6_HD,g_p7_HD,g_p8_HD,g_p6_HE,g_p7_HE,g_p8_HE,g_p6_HF,g_p7_HF,g_p8_HF,g_p6_HG,g_p7_HG,g_p8_HG,g_p6_HI,g_p7_HI,g_p8_HI,Zdd,ZeK,ZhE,Zka,ZhF,ZoA,ZG,N8G,Zr,Zs,Zd,Ze,Zf,Nat.reducePow,Nat.reduceDiv,Nat.reduceMod,Nat.reduceEqDiff,reduceCtorEq,TB0,TB1]
 refine⟨_,HI,H.nx+1+1,H.nx+1+1+1,Za5 H.nx 3,Za5 (H.nx+1) 3,rfl,?_,kI⟩
 exact⟨⟨(by simp only[TB0,N8G];exact t1'),(by simp only[TB0,N8G];exact t5'),(by simp only[TB0,N8G];exact t6'),(by simp only[TB0,N8G];exact t7'),(by simp only[TB0,N8G];exact t8'),g_p5_HI,g_p6_HI,g_p7_HI,g_p8_HI,by omega,by omega,by omega,by omega,k0.trans kI (by simp),by omega⟩,(by simp only[TB0,N8G]),(by simp only[TB0,N8G]),g9_HI,g10_HI,by omega,by omega,va,vb⟩
end
end Go.AI
namespace Go.AI
open Go
noncomputable section
structure ZEC(H0:Heap)(key:List UInt8)(p5:Nat)(cs:List AV)(v:JV)(h p6 p7 p8 p9 p10 p11 p12:Nat)(ac bc cc dc:List AV)(tm:TM)(H:Heap):Prop where
 e:ZC3 H0 key p5 cs v h p6 p7 p8 p9 p10 ac bc tm H
 t11:Yq tm= .ptr p11 0
 t12:Yv tm= .ptr p12 0
 g11:H.t.get p11=some (rG 72 1 cc 0 false true true)
 g12:H.t.get p12=some (rG 72 1 dc 0 false true true)
 l11:p11<H.nx
 l12:p12<H.nx
 vc:VR H (h+2) (JV.vc v) cc
 vd:VR H (h+2) (JV.vd v) dc
theorem ZC5{Zk:Lib}{fs:T CF}{fuel:Nat}(E:Env Zk fs fuel){n:Nat}{y f d r}{x:X}{tm:TM}{H0 H:Heap}{key:List UInt8}{p5 p6 p7 p8 p9 p10 h:Nat}{v:JV}{cs ac bc:List AV}(S:ZC3 H0 key p5 cs v h p6 p7 p8 p9 p10 ac bc tm H)(hv:VR H (h+1) v cs):
  ∃tm' H' p11 p12 cc dc,Zoz ⟨ZQ (LK Zk fs fuel 7) fs fuel (n+60),y,f,d,r⟩ tm H x=ZlI ⟨ZQ (LK Zk fs fuel 7) fs fuel (n+60),y,f,d,r⟩ tm' H' x∧ZEC H0 key p5 cs v h p6 p7 p8 p9 p10 p11 p12 ac bc cc dc tm' H'∧Keep H H' []:=by
 obtain⟨⟨t1,t5,t6,t7,t8,g5,g_p6_H,g_p7_H,g_p8_H,l5,l6,l7,l8,k0,hro⟩,t9,t10,g9,g10,l9,l10,va,vb⟩:=S
 have t1':=t1;have t5':=t5;have t6':=t6;have t7':=t7;have t8':=t8
 simp only[ZbK] at t1
 simp only[Ziu] at t5
 simp only[Zld] at t6
 simp only[Zuo] at t7
 simp only[ZlU] at t8
 have hlen:=hv.len
 have hl7:(.str [111,110,101]::cs).length=7:=by rw[Zn,hlen]
 have nxH:H.nx=H.nx:=rfl
 have ld6: ∀G:Heap,ldN 7 (some (rG 100 1 (.str [111,110,101]::cs) 0 false true true)) 0 G= .val (.agg (.str [111,110,101]::cs)) G:=fun G=>by rw[Yu (by omega)];congr 2;rw[ZK,Zv (by omega)]
 have ld7: ∀G:Heap,ldN 7 (some (rG 100 1 [.str [116,119,111],nI .i64 3, .bool false,nI .i64 2, .str [], .nils, .nils] 0 false true true)) 0 G= .val (.agg [.str [116,119,111],nI .i64 3, .bool false,nI .i64 2, .str [], .nils, .nils]) G:=fun G=>by rw[Yu (by simp)];rfl
 have ld8: ∀G:Heap,ldN 7 (some (rG 100 1 [.str [116,104,114,101,101],nI .i64 4, .bool false,nI .i64 0, .str [51], .nils, .nils] 0 false true true)) 0 G= .val (.agg [.str [116,104,114,101,101],nI .i64 4, .bool false,nI .i64 0, .str [51], .nils, .nils]) G:=fun G=>by rw[Yu (by simp)];rfl
 have b55:=ZF8 hl7 (b:=[.str [116,119,111],nI .i64 3, .bool false,nI .i64 2, .str [], .nils, .nils]) rfl
 have b63:=ZC1 hl7 (b:=[.str [116,119,111],nI .i64 3, .bool false,nI .i64 3, .str [], .nils, .nils]) rfl (c:=[.str [116,104,114,101,101],nI .i64 4, .bool false,nI .i64 0, .str [51], .nils, .nils]) rfl
 have bd: ∀G:Heap,Zay [.str [],nI .i64 0, .bool false,nI .i64 0, .str [], .nils, .nils] [(0,1, .str [116,119,111]),(1,6, .agg [nI .i64 3, .bool false,nI .i64 3, .str [], .nils, .nils])] G= .val (.agg [.str [116,119,111],nI .i64 3, .bool false,nI .i64 3, .str [], .nils, .nils]) G:=fun G=>Zvh (cs:=[nI .i64 3, .bool false,nI .i64 3, .str [], .nils, .nils]) rfl [116,119,111] G
 obtain⟨HA,hHA⟩: ∃G,Heap.new H (rG 100 7 [(.str [111,110,101]::cs),[.str [116,119,111],nI .i64 3, .bool false,nI .i64 2, .str [], .nils, .nils]].flatten 0 false true true)=G:=⟨_,rfl⟩
 have nxHA:HA.nx=H.nx+1:=by rw[←hHA,Vn,nxH]
 have roHA:HA.ro=H.ro:=by rw[←hHA];rfl
 have g_p6_HA:HA.t.get p6=some (rG 100 1 (.str [111,110,101]::cs) 0 false true true):=by rw[←hHA,ZH (by omega)];exact g_p6_H
 have g_p7_HA:HA.t.get p7=some (rG 100 1 [.str [116,119,111],nI .i64 3, .bool false,nI .i64 2, .str [], .nils, .nils] 0 false true true):=by rw[←hHA,ZH (by omega)];exact g_p7_H
 have g_p8_HA:HA.t.get p8=some (rG 100 1 [.str [116,104,114,101,101],nI .i64 4, .bool false,nI .i64 0, .str [51], .nils, .nils] 0 false true true):=by rw[←hHA,ZH (by omega)];exact g_p8_H
 obtain⟨HB,hHB⟩: ∃G,Heap.new HA (rG 72 1 [nI .i64 0, .bool false,nI .i64 0, .str [], .nils, .nils] 0 false true true)=G:=⟨_,rfl⟩
 have nxHB:HB.nx=H.nx+1+1:=by rw[←hHB,Vn,nxHA]
 have roHB:HB.ro=HA.ro:=by rw[←hHB];rfl
 have g_p6_HB:HB.t.get p6=some (rG 100 1 (.str [111,110,101]::cs) 0 false true true):=by rw[←hHB,ZH (by omega)];exact g_p6_HA
 have g_p7_HB:HB.t.get p7=some (rG 100 1 [.str [116,119,111],nI .i64 3, .bool false,nI .i64 2, .str [], .nils, .nils] 0 false true true):=by rw[←hHB,ZH (by omega)];exact g_p7_HA
 have g_p8_HB:HB.t.get p8=some (rG 100 1 [.str [116,104,114,101,101],nI .i64 4, .bool false,nI .i64 0, .str [51], .nils, .nils] 0 false true true):=by rw[←hHB,ZH (by omega)];exact g_p8_HA
 obtain⟨HC,hHC⟩: ∃G,Heap.new HB (rG 72 1 [nI .i64 0, .bool false,nI .i64 0, .str [], .nils, .nils] 0 false true true)=G:=⟨_,rfl⟩
 have nxHC:HC.nx=H.nx+1+1+1:=by rw[←hHC,Vn,nxHB]
 have roHC:HC.ro=HB.ro:=by rw[←hHC];rfl
 have g_p6_HC:HC.t.get p6=some (rG 100 1 (.str [111,110,101]::cs) 0 false true true):=by rw[←hHC,ZH (by omega)];exact g_p6_HB
 have g_p7_HC:HC.t.get p7=some (rG 100 1 [.str [116,119,111],nI .i64 3, .bool false,nI .i64 2, .str [], .nils, .nils] 0 false true true):=by rw[←hHC,ZH (by omega)];exact g_p7_HB
 have g_p8_HC:HC.t.get p8=some (rG 100 1 [.str [116,104,114,101,101],nI .i64 4, .bool false,nI .i64 0, .str [51], .nils, .nils] 0 false true true):=by rw[←hHC,ZH (by omega)];exact g_p8_HB
 have ga_HC:HC.t.get H.nx=some (rG 100 7 [(.str [111,110,101]::cs),[.str [116,119,111],nI .i64 3, .bool false,nI .i64 2, .str [], .nils, .nils]].flatten 0 false true true):=by rw[←hHC,ZH (by omega),←hHB,ZH (by omega),←hHA,ZA rfl]
 have g11_HC:HC.t.get (H.nx+1)=some (rG 72 1 [nI .i64 0, .bool false,nI .i64 0, .str [], .nils, .nils] 0 false true true):=by rw[←hHC,ZH (by omega),←hHB,ZA nxHA]
 have g12_HC:HC.t.get (H.nx+1+1)=some (rG 72 1 [nI .i64 0, .bool false,nI .i64 0, .str [], .nils, .nils] 0 false true true):=by rw[←hHC,ZA nxHB]
 obtain⟨HE,e57,kE⟩:=ZeL E (k:=7) (n:=n+58) (by decide) (v:= .slice H.nx 0 2 none) (H:=HC) (.inr ⟨_,_,_,_,rfl⟩) (by omega)
 have nxE:=kE.nx
 have roE:=kE.ro
 have eo3: ∀{q},ZQ (LK Zk fs fuel 7) fs fuel (q+1) 43 [.iface 3 (nI .i64 3)] HE= .ret (.agg [nI .i64 3, .bool false,nI .i64 3, .str [], .nils, .nils]) HE:=fun{q}=>ofInt (Zk:=Zk) (fs:=fs) (fuel:=fuel) E (k:=7) (n:=q) (by decide) (z:= .ofNat 3) (H:=HE) (by omega)
 obtain⟨HD,hHD⟩: ∃G,Heap.new HE (rG 100 7 [(.str [111,110,101]::cs),[.str [116,119,111],nI .i64 3, .bool false,nI .i64 3, .str [], .nils, .nils],[.str [116,104,114,101,101],nI .i64 4, .bool false,nI .i64 0, .str [51], .nils, .nils]].flatten 0 false true true)=G:=⟨_,rfl⟩
 have nxD:HD.nx=HE.nx+1:=by rw[←hHD,Vn]
 have roD:HD.ro=HE.ro:=by rw[←hHD];rfl
 have kD:Keep HE HD []:=by rw[←hHD];exact Keep.new _ _ _
 have gd_HD:HD.t.get HE.nx=some (rG 100 7 [(.str [111,110,101]::cs),[.str [116,119,111],nI .i64 3, .bool false,nI .i64 3, .str [], .nils, .nils],[.str [116,104,114,101,101],nI .i64 4, .bool false,nI .i64 0, .str [51], .nils, .nils]].flatten 0 false true true):=by rw[←hHD,ZA rfl]
 obtain⟨HF,e65,kF⟩:=ZeL E (k:=7) (n:=n+58) (by decide) (v:= .slice HE.nx 0 3 none) (H:=HD) (.inr ⟨_,_,_,_,rfl⟩) (by omega)
 have nxF:=kF.nx
 have roF:=kF.ro
 have g_p6_HE:HE.t.get p6=some (rG 100 1 (.str [111,110,101]::cs) 0 false true true):=by rw[kE.get _ (by omega) (by simp)];exact g_p6_HC
 have g_p7_HE:HE.t.get p7=some (rG 100 1 [.str [116,119,111],nI .i64 3, .bool false,nI .i64 2, .str [], .nils, .nils] 0 false true true):=by rw[kE.get _ (by omega) (by simp)];exact g_p7_HC
 have g_p8_HE:HE.t.get p8=some (rG 100 1 [.str [116,104,114,101,101],nI .i64 4, .bool false,nI .i64 0, .str [51], .nils, .nils] 0 false true true):=by rw[kE.get _ (by omega) (by simp)];exact g_p8_HC
 have g_p6_HD:HD.t.get p6=some (rG 100 1 (.str [111,110,101]::cs) 0 false true true):=by rw[kD.get _ (by omega) (by simp)];exact g_p6_HE
 have g_p7_HD:HD.t.get p7=some (rG 100 1 [.str [116,119,111],nI .i64 3, .bool false,nI .i64 2, .str [], .nils, .nils] 0 false true true):=by rw[kD.get _ (by omega) (by simp)];exact g_p7_HE
 have g_p8_HD:HD.t.get p8=some (rG 100 1 [.str [116,104,114,101,101],nI .i64 4, .bool false,nI .i64 0, .str [51], .nils, .nils] 0 false true true):=by rw[kD.get _ (by omega) (by simp)];exact g_p8_HE
 have g_p6_HF:HF.t.get p6=some (rG 100 1 (.str [111,110,101]::cs) 0 false true true):=by rw[kF.get _ (by omega) (by simp)];exact g_p6_HD
 have g_p7_HF:HF.t.get p7=some (rG 100 1 [.str [116,119,111],nI .i64 3, .bool false,nI .i64 2, .str [], .nils, .nils] 0 false true true):=by rw[kF.get _ (by omega) (by simp)];exact g_p7_HD
 have g_p8_HF:HF.t.get p8=some (rG 100 1 [.str [116,104,114,101,101],nI .i64 4, .bool false,nI .i64 0, .str [51], .nils, .nils] 0 false true true):=by rw[kF.get _ (by omega) (by simp)];exact g_p8_HD
 have kCF:=(kE.trans kD (by simp)).trans kF (by simp)
 have g11_HF:HF.t.get (H.nx+1)=some (rG 72 1 [nI .i64 0, .bool false,nI .i64 0, .str [], .nils, .nils] 0 false true true):=by rw[kCF.get _ (by omega) (by simp)];exact g11_HC
 have g12_HF:HF.t.get (H.nx+1+1)=some (rG 72 1 [nI .i64 0, .bool false,nI .i64 0, .str [], .nils, .nils] 0 false true true):=by rw[kCF.get _ (by omega) (by simp)];exact g12_HC
 have s11:=Yx (n:=6) (l:=[nI .i64 0, .bool false,nI .i64 0, .str [], .nils, .nils]) (vs:=Za5 H.nx 2) (b:=H.nx+1) (H:=HF) (by rfl) (by rfl) (by omega) (by omega) 72 1 false true
 obtain⟨HG,hHG⟩: ∃G,HF.put (H.nx+1) (rG 72 1 (Za5 H.nx 2) 0 false true true)=G:=⟨_,rfl⟩
 rw[hHG] at s11
 have nxG:HG.nx=HF.nx:=by rw[←hHG];rfl
 have roG:HG.ro=HF.ro:=by rw[←hHG];rfl
 have g12_HG:HG.t.get (H.nx+1+1)=some (rG 72 1 [nI .i64 0, .bool false,nI .i64 0, .str [], .nils, .nils] 0 false true true):=by rw[←hHG,ZF (by omega)];exact g12_HF
 have s12:=Yx (n:=6) (l:=[nI .i64 0, .bool false,nI .i64 0, .str [], .nils, .nils]) (vs:=Za5 HE.nx 3) (b:=H.nx+1+1) (H:=HG) (by rfl) (by rfl) (by omega) (by omega) 72 1 false true
 obtain⟨HI,hHI⟩: ∃G,HG.put (H.nx+1+1) (rG 72 1 (Za5 HE.nx 3) 0 false true true)=G:=⟨_,rfl⟩
 rw[hHI] at s12
 have nxI:HI.nx=HF.nx:=by rw[←hHI];exact nxG
 have roI:HI.ro=HF.ro:=by rw[←hHI];exact roG
 have g_p6_HG:HG.t.get p6=some (rG 100 1 (.str [111,110,101]::cs) 0 false true true):=by rw[←hHG,ZF (by omega)];exact g_p6_HF
 have g_p7_HG:HG.t.get p7=some (rG 100 1 [.str [116,119,111],nI .i64 3, .bool false,nI .i64 2, .str [], .nils, .nils] 0 false true true):=by rw[←hHG,ZF (by omega)];exact g_p7_HF
 have g_p8_HG:HG.t.get p8=some (rG 100 1 [.str [116,104,114,101,101],nI .i64 4, .bool false,nI .i64 0, .str [51], .nils, .nils] 0 false true true):=by rw[←hHG,ZF (by omega)];exact g_p8_HF
 have g_p6_HI:HI.t.get p6=some (rG 100 1 (.str [111,110,101]::cs) 0 false true true):=by rw[←hHI,ZF (by omega)];exact g_p6_HG
 have g_p7_HI:HI.t.get p7=some (rG 100 1 [.str [116,119,111],nI .i64 3, .bool false,nI .i64 2, .str [], .nils, .nils] 0 false true true):=by rw[←hHI,ZF (by omega)];exact g_p7_HG
 have g_p8_HI:HI.t.get p8=some (rG 100 1 [.str [116,104,114,101,101],nI .i64 4, .bool false,nI .i64 0, .str [51], .nils, .nils] 0 false true true):=by rw[←hHI,ZF (by omega)];exact g_p8_HG
 have g11_HI:HI.t.get (H.nx+1)=some (rG 72 1 (Za5 H.nx 2) 0 false true true):=by rw[←hHI,ZF (by omega),←hHG,Z5]
 have g12_HI:HI.t.get (H.nx+1+1)=some (rG 72 1 (Za5 HE.nx 3) 0 false true true):=by rw[←hHI,Z5]
 have ga_HI:HI.t.get H.nx=some (rG 100 7 [(.str [111,110,101]::cs),[.str [116,119,111],nI .i64 3, .bool false,nI .i64 2, .str [], .nils, .nils]].flatten 0 false true true):=by rw[←hHI,ZF (by omega),←hHG,ZF (by omega),kCF.get _ (by omega) (by simp)];exact ga_HC
 have gd_HI:HI.t.get HE.nx=some (rG 100 7 [(.str [111,110,101]::cs),[.str [116,119,111],nI .i64 3, .bool false,nI .i64 3, .str [], .nils, .nils],[.str [116,104,114,101,101],nI .i64 4, .bool false,nI .i64 0, .str [51], .nils, .nils]].flatten 0 false true true):=by rw[←hHI,ZF (by omega),←hHG,ZF (by omega),kF.get _ (by omega) (by simp)];exact gd_HD
 have kC:Keep H HC []:=by rw[←hHC,←hHB,←hHA];exact((Keep.new H _ _).then_new _).then_new _
 have kI:Keep H HI []:=by
  rw[←hHI,←hHG]
  exact((kC.trans kCF (by simp)).then_put (fun h=>absurd h (by omega))).then_put (fun h=>absurd h (by omega))
 have hvI:=hv.keep kI
 have vc:VR HI (h+2) (JV.vc v) (Za5 H.nx 2):=ZlK (M:=[(JV.kOne,v),(JV.kTwo,JV.two)]) ga_HI (by omega) rfl (show 2≤12 by decide) (fun i hi=>by
  have hi:i<2:=hi
  match i,hi with
  |0,_=>exact⟨k1l,cs,rfl,hvI⟩
  |1,_=>exact⟨k2l,_,rfl,ZlL HI h⟩)
 have vd:VR HI (h+2) (JV.vd v) (Za5 HE.nx 3):=ZlK (M:=[(JV.kOne,v),(JV.kTwo,JV.tri),(JV.kThree,JV.thr)]) gd_HI (by omega) rfl (show 3≤12 by decide) (fun i hi=>by
  have hi:i<3:=hi
  match i,hi with
  |0,_=>exact⟨k1l,cs,rfl,hvI⟩
  |1,_=>exact⟨k2l,_,rfl,ZC2 HI h⟩
  |2,_=>exact⟨k3l,_,rfl,ZlM HI h⟩)
 have lcs: ∀m,H.nx≤m→Zae m cs=true:=fun m hm=>hv.low hm
 have sc:=Zaz (show Vy (.str [111,110,101]::cs) (.str [111,110,101]::cs)=true by unfold Vy;rw[Zcw];exact hv.same)
 have se2:=ZcA (s:=[116,119,111]) (ZlL H 0).same
 have se3:=ZcA (s:=[116,104,114,101,101]) (ZlM H 0).same
 unfold Za5 at s11 s12
 simp(maxSteps:=4000000) (disch:=first|assumption|omega|(simp -implicitDefEqProofs only[Zt,Zu]<;>first|assumption|omega)|decide) only[t1,t5,t6,t7,t8,ld6,ld7,ld8,b55,b63,bd,hHA,hHB,hHC,hHD,nxHA,nxHB,nxHC,nxD,e57,eo3,e65,g11_HF,g12_HF,g12_HG,s11,s12,sc,se2,se3,lcs,ZO,YD,g_p6_H,g_p7_H,g_p8_H,g_p6_HA,g_p7_HA,g_p8_HA,g_p6_HB,g_p7_HB,g_p8_HB,g_p6_HC,g_p7_HC,g_p8_HC,g_p6_HD,g_p7_HD,g_p8_HD,g_p6_HE,g_p7_HE,g_p8_HE,g_p6_HF,g_p7_HF,g_p8_HF,g_p6_HG,g_p7_HG,g_p8_HG,g_p6_HI,g_p7_HI,g_p8_HI,Zdd,ZeK,ZhE,Zka,ZhF,Zoz,ZG,N8G,Zr,Zs,Zd,Ze,Zf,Nat.reducePow,Nat.reduceDiv,Nat.reduceMod,Nat.reduceEqDiff,reduceCtorEq,TB0,TB1,TB2]
 refine⟨_,HI,H.nx+1,H.nx+1+1,Za5 H.nx 2,Za5 HE.nx 3,rfl,?_,kI⟩
 exact⟨⟨⟨(by simp only[TB0,N8G];exact t1'),(by simp only[TB0,N8G];exact t5'),(by simp only[TB0,N8G];exact t6'),(by simp only[TB0,N8G];exact t7'),(by simp only[TB0,N8G];exact t8'),by rw[kI.get _ l5 (by simp)];exact g5,g_p6_HI,g_p7_HI,g_p8_HI,by omega,by omega,by omega,by omega,k0.trans kI (by simp),by omega⟩,(by simp only[TB0,N8G];exact t9),(by simp only[TB0,N8G];exact t10),by rw[kI.get _ l9 (by simp)];exact g9,by rw[kI.get _ l10 (by simp)];exact g10,by omega,by omega,va.keep kI,vb.keep kI⟩,(by simp only[TB0,N8G]),(by simp only[TB0,N8G]),g11_HI,g12_HI,by omega,by omega,vc,vd⟩
end
end Go.AI
namespace Go.AI
open Go
noncomputable section
theorem ZyZ{l:List UInt8}{i:Nat}(h:i<l.length):(l.map u8V).getD i .unk=u8V (l.getD i 0):=by
 rw[Zi,List.getElem?_map,Zi,Zp h];rfl
theorem ZED{G:Heap}{b:Nat}{s:List UInt8}{c:Option Nat}(h:G.t.get b=some (rG 5 1 (s.map u8V) 0 true true false)):ZlV (.slice b 0 s.length c) G= .val (.str s) G:=by
 have h':G.t.get b=some (.row ⟨5,1,Yi (s.map u8V),T.ofList (s.map u8V), .unk,0,true,true,false⟩):=h
 refine Zlq h' rfl (by show 0+s.length≤Yi (s.map u8V);rw[Ye,Zy];omega) fun i hi=>?_
 rw[Zo,Zrv,ZyZ hi]
theorem ZAZ{Zk:Lib}{fs:T CF}{fuel:Nat}(E:Env Zk fs fuel){k n:Nat}{x y:AV}{T:List UInt8}{H:Heap}(hx:ZlV x H= .val (.str T) H)(hy:ZlV y H= .val (.str T) H):ZQ (LK Zk fs fuel k) fs fuel (n+1) 32 [x,y] H= .ret (.bool true) H:=by
 rw[ZV (ZL E.n32 (.inr rfl) _ _) E.f32]
 have dT:decide (T=T)=true:=Zh rfl
 simp(maxSteps:=4000000) (disch:=first|assumption|omega|(simp -implicitDefEqProofs only[Zt,Zu]<;>first|assumption|omega)|decide) only[hx,hy,dT,VB,c32,ZG,N8G,Zr,Zs,Zd,Ze,Zf,Nat.reduceEqDiff,reduceCtorEq,TB0]
structure ZA0(H0:Heap)(key:List UInt8)(p5:Nat)(cs:List AV)(v:JV)(h p9 p10:Nat)(ac bc:List AV)(tm:TM)(H:Heap):Prop where
 t1:gt1 tm= .str key
 t5:gt5 tm= .ptr p5 0
 t9:gt9 tm= .ptr p9 0
 t10:Yg tm= .ptr p10 0
 g5:H.t.get p5=some (rG 72 1 cs 0 false true true)
 g9:H.t.get p9=some (rG 72 1 ac 0 false true true)
 g10:H.t.get p10=some (rG 72 1 bc 0 false true true)
 l5:p5<H.nx
 l9:p9<H.nx
 l10:p10<H.nx
 va:VR H (h+2) (JV.va v) ac
 vb:VR H (h+2) (JV.vb v) bc
 k:Keep H0 H []
 ro:H.ro≤H.nx
structure ZBs(p11 p12:Nat)(cc dc:List AV)(v:JV)(h:Nat)(x y:AV)(e:Nat)(T:List UInt8)(tm:TM)(H:Heap):Prop where
 t11:Yq tm= .ptr p11 0
 t12:Yv tm= .ptr p12 0
 g11:H.t.get p11=some (rG 72 1 cc 0 false true true)
 g12:H.t.get p12=some (rG 72 1 dc 0 false true true)
 vc:VR H (h+2) (JV.vc v) cc
 vd:VR H (h+2) (JV.vd v) dc
 t13:YB tm=x
 t15:YJ tm=y
 t14:YP tm=nI .i64 e
 t16:YK tm=nI .i64 e
 he:e=0∨e=23
 sx:ZlV x H= .val (.str T) H
 sy:ZlV y H= .val (.str T) H
theorem Zy0{h:Nat}{v:JV}(ov:JV.ok (h+1) v):JV.ok (h+2) (JV.va v)∧JV.ok (h+2) (JV.vb v)∧JV.ok (h+2) (JV.vc v)∧JV.ok (h+2) (JV.vd v):=by
 have o2:JV.ok (h+1) JV.two:=ZaG (by omega) (by omega)
 have o3:JV.ok (h+1) JV.tri:=ZaG (by omega) (by omega)
 have o4:JV.ok (h+1) JV.thr:=ZaG (by omega) (by omega)
 refine⟨⟨⟨by omega,by omega⟩,(show 3≤12 by decide),fun x hx=>(by cases hx),fun e he=>?_⟩,⟨⟨by omega,by omega⟩,(show 3≤12 by decide),fun x hx=>(by cases hx),fun e he=>?_⟩,⟨⟨by omega,by omega⟩,(show 2≤12 by decide),fun x hx=>(by cases hx),fun e he=>?_⟩,⟨⟨by omega,by omega⟩,(show 3≤12 by decide),fun x hx=>(by cases hx),fun e he=>?_⟩⟩
 all_goals
  simp only[List.mem_cons,List.not_mem_nil,or_false] at he
 ·rcases he with rfl|rfl|rfl<;>assumption
 ·rcases he with rfl|rfl|rfl<;>assumption
 ·rcases he with rfl|rfl<;>assumption
 ·rcases he with rfl|rfl|rfl<;>assumption
theorem ZEE{h:Nat}{v:JV}(tv:JV.tb (h+1) v≤25000):JV.tb (h+2) (JV.va v)≤800000000∧JV.tb (h+2) (JV.vb v)≤800000000:=by
 have a2:JV.tb (h+1) JV.two=50:=rfl
 have a4:JV.tb (h+1) JV.thr=56:=rfl
 constructor
 ·show 50+6*0+0+(6*3+4+JV.tb (h+1) v+(6*3+4+JV.tb (h+1) JV.two+(6*5+4+JV.tb (h+1) JV.thr+0)))≤_
  omega
 ·show 50+6*0+0+(6*5+4+JV.tb (h+1) JV.thr+(6*3+4+JV.tb (h+1) v+(6*3+4+JV.tb (h+1) JV.two+0)))≤_
  omega
theorem ZC6{Zk:Lib}{fs:T CF}{fuel:Nat}(E:Env Zk fs fuel)(M:MNZ Zk){n:Nat}{y f d r}{x:X}{tm:TM}{H0 H:Heap}{key:List UInt8}{p5 p6 p7 p8 p9 p10 p11 p12 h:Nat}{v:JV}{cs ac bc cc dc:List AV}(S:ZEC H0 key p5 cs v h p6 p7 p8 p9 p10 p11 p12 ac bc cc dc tm H)(g:Glob H)(gu:GlobU H)(hh:h≤45)(ov:JV.ok (h+1) v)(tv:JV.tb (h+1) v≤25000)(hc:JV.check v=0):
  ∃tm' H' xx yy e T,ZlI ⟨ZQ (LK Zk fs fuel 7) fs fuel (n+60),y,f,d,r⟩ tm H x=Zg ZiO Zoy ⟨ZQ (LK Zk fs fuel 7) fs fuel (n+60),y,f,d,r⟩ tm' H' x∧ZA0 H0 key p5 cs v h p9 p10 ac bc tm' H'∧ZBs p11 p12 cc dc v h xx yy e T tm' H'∧Keep H H' []:=by
 obtain⟨⟨⟨t1,t5,t6,t7,t8,g5,g6,g7,g8,l5,l6,l7,l8,k0,hro⟩,t9,t10,g9,g10,l9,l10,va,vb⟩,t11,t12,g11,g12,l11,l12,vc,vd⟩:=S
 have t1':=t1;have t5':=t5;have t9':=t9;have t10':=t10;have t11':=t11;have t12':=t12
 simp only[Zup] at t9
 simp only[ZsI] at t10
 have la:=va.len
 have lb:=vb.len
 have ldA: ∀G:Heap,ldN 6 (some (rG 72 1 ac 0 false true true)) 0 G= .val (.agg ac) G:=fun G=>by rw[Yu (by omega)];congr 2;rw[ZK,Zv (by omega)]
 have ldB: ∀G:Heap,ldN 6 (some (rG 72 1 bc 0 false true true)) 0 G= .val (.agg bc) G:=fun G=>by rw[Yu (by omega)];congr 2;rw[ZK,Zv (by omega)]
 obtain⟨oa,ob,_,_⟩:=Zy0 ov
 obtain⟨ta,tb⟩:=ZEE tv
 obtain⟨na,nb⟩:=JV.text_ne (h+1) v
 obtain⟨ca,cb⟩:=JV.check_a hc
 have tx:=JV.text_ab (h+2) v
 have ea:=fun{j}=>ZCU (Zk:=Zk) (fs:=fs) (fuel:=fuel) E M (k:=7) (n:=j) (by decide) (by omega) g gu hro va oa ta na
 by_cases hd:JV.deep 31 v=true
 ·rw[if_pos hd] at ca
  rw[ca] at cb
  simp only[ca,if_neg (show ¬(23:Nat)=0 by decide)] at ea
  obtain⟨HA,hA⟩: ∃G,H.new (rG 72 1 ac 0 false true true)=G:=⟨_,rfl⟩
  simp only[hA] at ea
  have nxA:HA.nx=H.nx+1:=by rw[←hA];rfl
  have roA:HA.ro=H.ro:=by rw[←hA];rfl
  have kA:Keep H HA []:=by rw[←hA];exact Keep.new _ _ _
  have g10A:HA.t.get p10=some (rG 72 1 bc 0 false true true):=by rw[kA.get _ l10 (by simp)];exact g10
  have eb:=fun{j}=>ZCU (Zk:=Zk) (fs:=fs) (fuel:=fuel) E M (k:=7) (n:=j) (by decide) (by omega) (g.keep kA (by simp)) (gu.keep0 kA) (by omega) (vb.keep kA) ob tb nb
  simp only[cb,if_neg (show ¬(23:Nat)=0 by decide)] at eb
  obtain⟨HB,hB⟩: ∃G,HA.new (rG 72 1 bc 0 false true true)=G:=⟨_,rfl⟩
  simp only[hB] at eb
  have nxB:HB.nx=HA.nx+1:=by rw[←hB];rfl
  have roB:HB.ro=HA.ro:=by rw[←hB];rfl
  have kB:Keep H HB []:=by rw[←hB];exact kA.then_new _
  simp(maxSteps:=4000000) (disch:=first|assumption|omega|(simp -implicitDefEqProofs only[Zt,Zu]<;>first|assumption|omega)|decide) only[t9,t10,g9,g10A,ldA,ldB,ea,eb,ZlI,ZG,N8G,Zr,Zs,Zd,Ze,Zf,Nat.reduceEqDiff,reduceCtorEq,TB0,TB2]
  refine⟨_,HB, .nils, .nils,23,[],rfl,?_⟩
  exact⟨⟨(by simp only[TB0,N8G];exact t1'),(by simp only[TB0,N8G];exact t5'),(by simp only[TB0,N8G];exact t9'),(by simp only[TB0,N8G];exact t10'),by rw[kB.get _ l5 (by simp)];exact g5,by rw[kB.get _ l9 (by simp)];exact g9,by rw[kB.get _ l10 (by simp)];exact g10,by omega,by omega,by omega,va.keep kB,vb.keep kB,k0.trans kB (by simp),by omega⟩,⟨(by simp only[TB0,N8G];exact t11'),(by simp only[TB0,N8G];exact t12'),by rw[kB.get _ l11 (by simp)];exact g11,by rw[kB.get _ l12 (by simp)];exact g12,vc.keep kB,vd.keep kB,(by simp only[TB0,N8G]),(by simp only[TB0,N8G]),(by simp only[TB0,N8G]),(by simp only[TB0,N8G]), .inr rfl,rfl,rfl⟩,kB⟩
 ·rw[if_neg hd] at ca
  rw[ca] at cb
  simp only[ca,if_true] at ea
  obtain⟨HA,hA⟩: ∃G,H.new (rG 72 1 ac 0 false true true)=G:=⟨_,rfl⟩
  have nxA:HA.nx=H.nx+1:=by rw[←hA];rfl
  have roA:HA.ro=H.ro:=by rw[←hA];rfl
  have kA:Keep H HA []:=by rw[←hA];exact Keep.new _ _ _
  rw[←tx] at nb
  have eb0:=fun{j} {G:Heap} (k1:Keep H G []) (r1:G.ro≤G.nx)=>ZCU (Zk:=Zk) (fs:=fs) (fuel:=fuel) E M (k:=7) (n:=j) (by decide) (by omega) (g.keep k1 (by simp)) (gu.keep0 k1) r1 (vb.keep k1) ob tb (by rw[←tx];exact nb)
  rw[←tx] at eb0
  simp only[cb,if_true] at eb0
  generalize JV.text (h+2) (JV.va v)=T at*
  obtain⟨HB,hB⟩: ∃G,HA.new (rG 5 1 (T.map u8V) 0 true true false)=G:=⟨_,rfl⟩
  simp only[hA,hB] at ea
  have nxB:HB.nx=H.nx+1+1:=by rw[←hB,Vn,nxA]
  have roB:HB.ro=HA.ro:=by rw[←hB];rfl
  have kB:Keep H HB []:=by rw[←hB];exact kA.then_new _
  have g10B:HB.t.get p10=some (rG 72 1 bc 0 false true true):=by rw[kB.get _ l10 (by simp)];exact g10
  have eb:=fun{j}=>eb0 (j:=j) kB (by omega)
  obtain⟨HC,hC⟩: ∃G,HB.new (rG 72 1 bc 0 false true true)=G:=⟨_,rfl⟩
  have nxC:HC.nx=H.nx+1+1+1:=by rw[←hC,Vn,nxB]
  have roC:HC.ro=HB.ro:=by rw[←hC];rfl
  have kC:Keep H HC []:=by rw[←hC];exact kB.then_new _
  obtain⟨HD,hD⟩: ∃G,HC.new (rG 5 1 (T.map u8V) 0 true true false)=G:=⟨_,rfl⟩
  simp only[hC,hD,nxB] at eb
  have nxD:HD.nx=H.nx+1+1+1+1:=by rw[←hD,Vn,nxC]
  have roD:HD.ro=HC.ro:=by rw[←hD];rfl
  have kD:Keep H HD []:=by rw[←hD];exact kC.then_new _
  have gx:HD.t.get (H.nx+1)=some (rG 5 1 (T.map u8V) 0 true true false):=by rw[←hD,ZH (by omega),←hC,ZH (by omega),←hB,ZA nxA]
  have gy:HD.t.get (H.nx+1+1+1)=some (rG 5 1 (T.map u8V) 0 true true false):=by rw[←hD,ZA nxC]
  simp(maxSteps:=4000000) (disch:=first|assumption|omega|(simp -implicitDefEqProofs only[Zt,Zu]<;>first|assumption|omega)|decide) only[t9,t10,g9,g10B,ldA,ldB,ea,eb,ZlI,ZG,N8G,Zr,Zs,Zd,Ze,Zf,Nat.reduceEqDiff,reduceCtorEq,TB0,TB2]
  refine⟨_,HD, .slice (H.nx+1) 0 T.length none, .slice (H.nx+1+1+1) 0 T.length none,0,T,rfl,?_⟩
  exact⟨⟨(by simp only[TB0,N8G];exact t1'),(by simp only[TB0,N8G];exact t5'),(by simp only[TB0,N8G];exact t9'),(by simp only[TB0,N8G];exact t10'),by rw[kD.get _ l5 (by simp)];exact g5,by rw[kD.get _ l9 (by simp)];exact g9,by rw[kD.get _ l10 (by simp)];exact g10,by omega,by omega,by omega,va.keep kD,vb.keep kD,k0.trans kD (by simp),by omega⟩,⟨(by simp only[TB0,N8G];exact t11'),(by simp only[TB0,N8G];exact t12'),by rw[kD.get _ l11 (by simp)];exact g11,by rw[kD.get _ l12 (by simp)];exact g12,vc.keep kD,vd.keep kD,(by simp only[TB0,N8G]),(by simp only[TB0,N8G]),(by simp only[TB0,N8G]),(by simp only[TB0,N8G]), .inl rfl,ZED (c:=none) gx,ZED (c:=none) gy⟩,kD⟩
theorem ZC7{Zk:Lib}{fs:T CF}{fuel:Nat}(E:Env Zk fs fuel){n:Nat}{y f d r}{x:X}{tm:TM}{H0 H:Heap}{key:List UInt8}{p5 p9 p10 p11 p12 h e:Nat}{v:JV}{cs ac bc cc dc:List AV}{xx yy:AV}{T:List UInt8}(S:ZA0 H0 key p5 cs v h p9 p10 ac bc tm H)(Q:ZBs p11 p12 cc dc v h xx yy e T tm H)(hh:h≤45)(ov:JV.ok (h+1) v):
  ∃tm',ZiO ⟨ZQ (LK Zk fs fuel 7) fs fuel (n+60),y,f,d,r⟩ tm H x= .ok .normal tm' H x∧ZA0 H0 key p5 cs v h p9 p10 ac bc tm' H:=by
 obtain⟨t1,t5,t9,t10,g5,g9,g10,l5,l9,l10,va,vb,k0,hro⟩:=S
 obtain⟨t11,t12,g11,g12,vc,vd,t13,t15,t14,t16,he,sx,sy⟩:=Q
 have t1':=t1;have t5':=t5;have t9':=t9;have t10':=t10
 simp only[Zup] at t9
 simp only[ZsI] at t10
 simp only[Zxp] at t11
 simp only[ZDM] at t12
 simp only[ZDN] at t13
 simp only[ZDO] at t14
 simp only[Zxq] at t15
 simp only[Zxr] at t16
 have la:=va.len
 have lb:=vb.len
 have lc:=vc.len
 have ld:=vd.len
 have ldA: ∀G:Heap,ldN 6 (some (rG 72 1 ac 0 false true true)) 0 G= .val (.agg ac) G:=fun G=>by rw[Yu (by omega)];congr 2;rw[ZK,Zv (by omega)]
 have ldB: ∀G:Heap,ldN 6 (some (rG 72 1 bc 0 false true true)) 0 G= .val (.agg bc) G:=fun G=>by rw[Yu (by omega)];congr 2;rw[ZK,Zv (by omega)]
 have ldC: ∀G:Heap,ldN 6 (some (rG 72 1 cc 0 false true true)) 0 G= .val (.agg cc) G:=fun G=>by rw[Yu (by omega)];congr 2;rw[ZK,Zv (by omega)]
 have ldD: ∀G:Heap,ldN 6 (some (rG 72 1 dc 0 false true true)) 0 G= .val (.agg dc) G:=fun G=>by rw[Yu (by omega)];congr 2;rw[ZK,Zv (by omega)]
 obtain⟨oa,ob,oc,od⟩:=Zy0 ov
 have eq:=ZAZ E (k:=7) (n:=n+59) sx sy
 have sab:=fun{j}=>sameV (Zk:=Zk) (fs:=fs) (fuel:=fuel) E (k:=7) (n:=j) (by decide) (by omega) hro va vb oa ob
 have sac:=fun{j}=>sameV (Zk:=Zk) (fs:=fs) (fuel:=fuel) E (k:=7) (n:=j) (by decide) (by omega) hro va vc oa oc
 have sad:=fun{j}=>sameV (Zk:=Zk) (fs:=fs) (fuel:=fuel) E (k:=7) (n:=j) (by decide) (by omega) hro va vd oa od
 have sca:=fun{j}=>sameV (Zk:=Zk) (fs:=fs) (fuel:=fuel) E (k:=7) (n:=j) (by decide) (by omega) hro vc va oc oa
 rw[JV.same_ab (h+1) v] at sab
 rw[(JV.same_ac (h+1) v).1] at sac
 rw[(JV.same_ac (h+1) v).2] at sca
 rw[JV.same_ad h v] at sad
 have n1:=fun G=>ZlF (rfl:e=e) .i64 G
 rcases he with rfl|rfl
 ·have n2:=fun G=>ZlF (rfl:0=0) .i64 G
  simp(maxSteps:=4000000) (disch:=first|assumption|omega|(simp -implicitDefEqProofs only[Zt,Zu]<;>first|assumption|omega)|decide) only[t9,t10,t11,t12,t13,t14,t15,t16,n1,n2,eq,g9,g10,g11,g12,ldA,ldB,ldC,ldD,sab,sac,sad,sca,Zca,ZiO,ZG,N8G,Zr,Zs,Zd,Ze,Zf,Nat.reduceEqDiff,reduceCtorEq,TB0,TB2,TB3]
  refine⟨_,rfl,?_⟩
  exact⟨(by simp only[TB0,N8G];exact t1'),(by simp only[TB0,N8G];exact t5'),(by simp only[TB0,N8G];exact t9'),(by simp only[TB0,N8G];exact t10'),g5,g9,g10,l5,l9,l10,va,vb,k0,hro⟩
 ·have n2:=fun G=>ZlE (show(23:Nat)≠0 by decide) .i64 G
  have n3:=fun G=>ZlF (rfl:23=23) .i64 G
  simp(maxSteps:=4000000) (disch:=first|assumption|omega|(simp -implicitDefEqProofs only[Zt,Zu]<;>first|assumption|omega)|decide) only[t9,t10,t11,t12,t13,t14,t15,t16,n1,n2,n3,eq,g9,g10,g11,g12,ldA,ldB,ldC,ldD,sab,sac,sad,sca,Zca,ZiO,ZG,N8G,Zr,Zs,Zd,Ze,Zf,Nat.reduceEqDiff,reduceCtorEq,TB0,TB2,TB3]
  refine⟨_,rfl,?_⟩
  exact⟨(by simp only[TB0,N8G];exact t1'),(by simp only[TB0,N8G];exact t5'),(by simp only[TB0,N8G];exact t9'),(by simp only[TB0,N8G];exact t10'),g5,g9,g10,l5,l9,l10,va,vb,k0,hro⟩
end
end Go.AI
namespace Go.AI
open Go
noncomputable section
theorem Zqr{s:List UInt8}{q:Nat}(h:q≤s.length)(j:IntKind)(H:Heap):Zf3 (.str s) none (some (nI j q)) H= .val (.str (s.take q)) H:=by
 have e:Zf3 (.str s) none (some (nI j q)) H=Zf3 (.str s) (some (nI .i64 0)) (some (nI j q)) H:=rfl
 rw[e,ZeC (Nat.zero_le _) h,ZK]
theorem ZA1{H:Heap}{ks:List (List UInt8)}:Sl (H.new (rG 9 1 (ks.map fun s=> .str s) 0 false true true)) 1 (.slice H.nx 0 ks.length none) (ks.map fun s=>[.str s]):=by
 have hf:(ks.map fun s=>[AV.str s]).flatten=ks.map fun s=>AV.str s:=Zf9 ks
 have:=Sl.of_rG (H:=H.new (rG 9 1 (ks.map fun s=> .str s) 0 false true true)) (b:=H.nx) (e:=9) (sz:=1) (ls:=ks.map fun s=>[AV.str s]) (fz:=0) (sm:=false) (own:=true) (ex:=true) (c:=none) (by rw[hf];exact ZA rfl _) (Yf _) (fun l hl=>by obtain⟨s,_,rfl⟩:=List.mem_map.1 hl;rfl)
 rw[Zy] at this
 exact this
theorem bk1(a:List UInt8)(H:Heap):Uz 9 1 1 [.str []] [(0,1, .str a)] H= .val (.slice H.nx 0 1 none) (H.new (rG 9 1 [.str a] 0 false true true)):=rfl
theorem bk2(a b:List UInt8)(H:Heap):Uz 9 1 2 (List.replicate 2 [.str []]).flatten [(0,1, .str a),(1,1, .str b)] H= .val (.slice H.nx 0 2 none) (H.new (rG 9 1 [.str a, .str b] 0 false true true)):=rfl
theorem bk3(a b c:List UInt8)(H:Heap):Uz 9 1 3 (List.replicate 3 [.str []]).flatten [(0,1, .str a),(1,1, .str b),(2,1, .str c)] H= .val (.slice H.nx 0 3 none) (H.new (rG 9 1 [.str a, .str b, .str c] 0 false true true)):=rfl
theorem get_put{Zk:Lib}{fs:T CF}{fuel:Nat}(E:Env Zk fs fuel){n h:Nat}{H:Heap}{v:JV}{cs:List AV}{ks:List (List UInt8)}(hro:H.ro≤H.nx)(hv:VR H h v cs)(ov:JV.ok h v)(hl:ks.length≤9000):
  ∃ds HB HC,(∀kr,kr=rG 9 1 (ks.map fun s=> .str s) 0 false true true→ZQ (LK Zk fs fuel 7) fs fuel (n+60) 44 [.agg cs, .slice H.nx 0 ks.length none] (H.new kr)= .ret (.tup [.agg ds, .bool (JV.get v ks).isSome]) HB)∧
   HB.new (rG 72 1 ds 0 false true true)=HC∧stN 6 (some (rG 72 1 [nI .i64 0, .bool false,nI .i64 0, .str [], .nils, .nils] 0 false true true)) HB.nx 0 (.agg ds) (HB.new (rG 72 1 [nI .i64 0, .bool false,nI .i64 0, .str [], .nils, .nils] 0 false true true))= .val Yo HC∧HC.t.get HB.nx=some (rG 72 1 ds 0 false true true)∧HB.nx<HC.nx∧H.nx<HB.nx∧
   VR HC h (Qi v ks) ds∧JV.ok h (Qi v ks)∧Keep H HC []∧HC.ro≤HC.nx:=by
 have kA:Keep H (H.new (rG 9 1 (ks.map fun s=> .str s) 0 false true true)) []:=Keep.new _ _ _
 obtain⟨ds,HB,e,hd,od,kB⟩:=ZAX E (k:=7) (n:=n+57) (H:=H.new (rG 9 1 (ks.map fun s=> .str s) 0 false true true)) (show H.ro≤H.nx+1 by omega) (hv.keep kA) ov ZA1 hl
 have nxB:=kB.nx
 have nxA:(H.new (rG 9 1 (ks.map fun s=> .str s) 0 false true true)).nx=H.nx+1:=rfl
 have roA:(H.new (rG 9 1 (ks.map fun s=> .str s) 0 false true true)).ro=H.ro:=rfl
 have roB:=kB.ro
 have kC:Keep H (HB.new (rG 72 1 ds 0 false true true)) []:=(kA.trans kB (by simp)).then_new _
 have hst:=Yx (n:=6) (l:=[nI .i64 0, .bool false,nI .i64 0, .str [], .nils, .nils]) (vs:=ds) (b:=HB.nx) (H:=HB.new (rG 72 1 [nI .i64 0, .bool false,nI .i64 0, .str [], .nils, .nils] 0 false true true)) (by rfl) hd.len (by omega) (show HB.ro≤HB.nx by omega) 72 1 false true
 rw[Wy rfl] at hst
 exact⟨ds,HB,_,fun kr hk=>by rw[hk];exact e,rfl,hst,ZA rfl _,Yf _,by omega,hd.keep (Keep.new _ _ _),od,kC,by show HB.ro≤HB.nx+1;omega⟩
structure ZEF(H0:Heap)(p5:Nat)(cs:List AV)(v w:JV)(b:Bool)(h q17 q19 q21 q23 q25:Nat)(d1 d2 d3 d4 d5:List AV)(tm:TM)(H:Heap):Prop where
 t5:gt5 tm= .ptr p5 0
 t17:YQ tm= .ptr q17 0
 t18:Wj tm= .bool true
 t19:Wc tm= .ptr q19 0
 t20:Wh tm= .bool true
 t21:Y0 tm= .ptr q21 0
 t22:WJ tm= .bool b
 t23:Y8 tm= .ptr q23 0
 t24:W7 tm= .bool true
 t25:Ws tm= .ptr q25 0
 t26:W1 tm= .bool b
 g5:H.t.get p5=some (rG 72 1 cs 0 false true true)
 g17:H.t.get q17=some (rG 72 1 d1 0 false true true)
 g19:H.t.get q19=some (rG 72 1 d2 0 false true true)
 g21:H.t.get q21=some (rG 72 1 d3 0 false true true)
 g23:H.t.get q23=some (rG 72 1 d4 0 false true true)
 g25:H.t.get q25=some (rG 72 1 d5 0 false true true)
 v5:VR H (h+2) v cs
 v17:VR H (h+2) v d1
 v19:VR H (h+2) v d2
 v21:VR H (h+2) w d3
 v25:VR H (h+2) w d5
 ov:JV.ok (h+2) v
 ow:JV.ok (h+2) w
 s23: ∃a b c e f,d4=[a,b,c, .str [51],e,f]
 k:Keep H0 H []
 ro:H.ro≤H.nx
theorem ZC8{H:Heap}{h:Nat}{ds:List AV}(r:VR H h JV.thr ds): ∃a b c e f,ds=[a,b,c, .str [51],e,f]:=by
 cases h with
 |zero=>exact r.elim
 |succ h=>
  obtain⟨lv,mv,ls,ms,e,_⟩:=r
  exact⟨_,_,_,_,_,e⟩
theorem ZC9{Zk:Lib}{fs:T CF}{fuel:Nat}(E:Env Zk fs fuel){n:Nat}{y f d r}{x:X}{tm:TM}{H0 H:Heap}{key:List UInt8}{p5 p9 p10 h:Nat}{v:JV}{cs ac bc:List AV}(S:ZA0 H0 key p5 cs v h p9 p10 ac bc tm H)(hv:VR H (h+1) v cs)(ov:JV.ok (h+1) v)(hh:h≤45):
  ∃tm' H' w b q17 q19 q21 q23 q25 d1 d2 d3 d4 d5,Zoy ⟨ZQ (LK Zk fs fuel 7) fs fuel (n+60),y,f,d,r⟩ tm H x=Zox ⟨ZQ (LK Zk fs fuel 7) fs fuel (n+60),y,f,d,r⟩ tm' H' x∧ZEF H0 p5 cs v w b h q17 q19 q21 q23 q25 d1 d2 d3 d4 d5 tm' H':=by
 obtain⟨t1,t5,t9,t10,g5,g9,g10,l5,l9,l10,va,vb,k0,hro⟩:=S
 have t5':=t5
 simp only[ZbK] at t1
 simp only[Ziu] at t5
 simp only[Zup] at t9
 simp only[ZsI] at t10
 have hlen:=hv.len
 have la:=va.len
 have lb:=vb.len
 have ld5: ∀G:Heap,ldN 6 (some (rG 72 1 cs 0 false true true)) 0 G= .val (.agg cs) G:=fun G=>by rw[Yu (by omega)];congr 2;rw[ZK,Zv (by omega)]
 have ldA: ∀G:Heap,ldN 6 (some (rG 72 1 ac 0 false true true)) 0 G= .val (.agg ac) G:=fun G=>by rw[Yu (by omega)];congr 2;rw[ZK,Zv (by omega)]
 have ldB: ∀G:Heap,ldN 6 (some (rG 72 1 bc 0 false true true)) 0 G= .val (.agg bc) G:=fun G=>by rw[Yu (by omega)];congr 2;rw[ZK,Zv (by omega)]
 obtain⟨oa,ob,_,_⟩:=Zy0 ov
 have mn:=fun G=>ZpM key.length 20 G
 have sk:=fun G=>Zqr (s:=key) (q:=min key.length 20) (Nat.min_le_left _ _) .i64 G
 obtain⟨K,hK⟩: ∃K,key.take (min key.length 20)=K:=⟨_,rfl⟩
 have hKl:K.length≤20:=by rw[←hK,List.length_take];omega
 simp only[hK] at sk
 obtain⟨d1,HB1,H1,e1,n1,s1,g17,lt1,ln1,v1,o1,k1,r1⟩:=get_put E (n:=n) (ks:=[JV.kOne]) hro va oa (by simp)
 have e1:=e1 _ rfl
 have m1:Qi (JV.va v) [JV.kOne]=v:=by unfold Qi;rw[JV.get_a];rfl
 have i1:(JV.get (JV.va v) [JV.kOne]).isSome=true:=by rw[JV.get_a];rfl
 rw[m1] at v1 o1
 rw[i1] at e1
 have g9_1:H1.t.get p9=some (rG 72 1 ac 0 false true true):=by rw[k1.get _ l9 (by simp)];exact g9
 have g10_1:H1.t.get p10=some (rG 72 1 bc 0 false true true):=by rw[k1.get _ l10 (by simp)];exact g10
 have nx1:=k1.nx
 obtain⟨d2,HB2,H2,e2,n2,s2,g19,lt2,ln2,v2,o2,k2,r2⟩:=get_put E (n:=n) (ks:=[JV.kOne]) r1 (vb.keep k1) ob (by simp)
 have e2:=e2 _ rfl
 have m2:Qi (JV.vb v) [JV.kOne]=v:=by unfold Qi;rw[JV.get_b];rfl
 have i2:(JV.get (JV.vb v) [JV.kOne]).isSome=true:=by rw[JV.get_b];rfl
 rw[m2] at v2 o2
 rw[i2] at e2
 have nx2:=k2.nx
 have g9_2:H2.t.get p9=some (rG 72 1 ac 0 false true true):=by rw[k2.get _ (by omega) (by simp)];exact g9_1
 have k02:=k1.trans k2 (by simp)
 obtain⟨d3,HB3,H3,e3,n3,s3,g21,lt3,ln3,v3,o3,k3,r3⟩:=get_put E (n:=n) (ks:=[JV.kOne,JV.kTwo,K]) r2 (va.keep k02) oa (by simp)
 have e3:=e3 _ rfl
 have m3:Qi (JV.va v) [JV.kOne,JV.kTwo,K]=Qi v [JV.kTwo,K]:=by unfold Qi;rw[JV.get_a]
 rw[m3] at v3 o3
 rw[JV.get_a] at e3
 have nx3:=k3.nx
 have g9_3:H3.t.get p9=some (rG 72 1 ac 0 false true true):=by rw[k3.get _ (by omega) (by simp)];exact g9_2
 have k03:=k02.trans k3 (by simp)
 have bdK: ∀G:Heap,Zay [.str [],nI .i64 0, .bool false,nI .i64 0, .str [], .nils, .nils] [(0,1, .str K),(1,6, .agg ac)] G= .val (.agg (.str K::ac)) G:=fun G=>Zvh la K G
 have bsK:=ZF9 (a:= .str K::ac) (by rw[Zn,la]) H3
 obtain⟨HT,hHT⟩: ∃G,H3.new (rG 100 7 [.str K::ac].flatten 0 false true true)=G:=⟨_,rfl⟩
 rw[hHT] at bsK
 have nxT:HT.nx=H3.nx+1:=by rw[←hHT];rfl
 have roT:HT.ro=H3.ro:=by rw[←hHT];rfl
 have kT:Keep H3 HT []:=by rw[←hHT];exact Keep.new _ _ _
 have gT:HT.t.get H3.nx=some (rG 100 7 [.str K::ac].flatten 0 false true true):=by rw[←hHT,ZA rfl]
 obtain⟨HU,eU,kU⟩:=ZeL E (k:=7) (n:=n+58) (by decide) (v:= .slice H3.nx 0 1 none) (H:=HT) (.inr ⟨_,_,_,_,rfl⟩) (by omega)
 have nxU:=kU.nx
 have roU:=kU.ro
 have k3U:=kT.trans kU (by simp)
 have k0U:=k03.trans k3U (by simp)
 have vT:VR HU (h+3) (JV.tab [(K,JV.va v)]) (Za5 H3.nx 1):=ZlK (M:=[(K,JV.va v)]) (by rw[kU.get _ (by omega) (by simp)];exact gT) (by omega) rfl (show 1≤12 by decide) (fun i hi=>by
  have hi:i<1:=hi
  match i,hi with
  |0,_=>exact⟨show K.length≤9000 by omega,ac,rfl,va.keep k0U⟩)
 have oT:JV.ok (h+3) (JV.tab [(K,JV.va v)]):=⟨⟨by omega,by omega⟩,(show 1≤12 by decide),fun x hx=>(by cases hx),fun e he=>by rw[List.mem_singleton.1 he];exact oa⟩
 obtain⟨d4,HB4,H4,e4,n4,s4,g23,lt4,ln4,v4,o4,k4,r4⟩:=get_put E (n:=n) (ks:=[K,JV.kThree]) (by omega) vT oT (by simp)
 have e4:=e4 _ rfl
 have m4:Qi (JV.tab [(K,JV.va v)]) [K,JV.kThree]=JV.thr:=by unfold Qi;rw[JV.get_k];rfl
 have i4:(JV.get (JV.tab [(K,JV.va v)]) [K,JV.kThree]).isSome=true:=by rw[JV.get_k];rfl
 rw[m4] at v4
 rw[i4] at e4
 have nx4:=k4.nx
 have k04:=k0U.trans k4 (by simp)
 have g5_4:H4.t.get p5=some (rG 72 1 cs 0 false true true):=by rw[k04.get _ l5 (by simp)];exact g5
 have ov2:=Ztc (show h+1≤h+2 by omega) hv ov
 have hv4:VR H4 (h+2) v cs:=(hv.keep k04).up (by omega)
 obtain⟨d5,HB5,H5,e5,n5,s5,g25,lt5,ln5,v5,o5,k5,r5⟩:=get_put E (n:=n) (ks:=[JV.kTwo,K]) r4 hv4 ov2 (by simp)
 have e5:=e5 _ rfl
 have nx5:=k5.nx
 have k05:=k04.trans k5 (by simp)
 have k45:=k4.trans k5 (by simp)
 have k35:=k3U.trans k45 (by simp)
 have k25:=k3.trans k35 (by simp)
 have k15:=k2.trans k25 (by simp)
 simp only[List.map_cons,List.map_nil,Zn,ZE] at e1 e2 e3 e4 e5
 obtain⟨bb,hbb⟩: ∃b,(JV.get v [JV.kTwo,K]).isSome=b:=⟨_,rfl⟩
 rw[hbb] at e3 e5
 unfold JV.kOne at e1 e2 e3
 unfold JV.kTwo at e3 e5
 unfold JV.kThree at e4
 unfold Za5 at e4
 simp(maxSteps:=4000000) (disch:=first|assumption|omega|(simp -implicitDefEqProofs only[Zt,Zu]<;>first|assumption|omega)|decide) only[t1,t5,t9,t10,mn,sk,ld5,ldA,ldB,g9,bk1,bk2,bk3,e1,s1,g10_1,e2,s2,g9_2,e3,s3,g9_3,bdK,bsK,eU,e4,s4,g5_4,e5,s5,Z1,Zoy,ZG,N8G,Zr,Zs,Zd,Ze,Zf,Nat.reduceEqDiff,reduceCtorEq,TB0,TB3,TB4]
 refine⟨_,H5,Qi v [JV.kTwo,K],bb,HB1.nx,HB2.nx,HB3.nx,HB4.nx,HB5.nx,d1,d2,d3,d4,d5,rfl,?_⟩
 exact⟨(by simp only[TB0,N8G];exact t5'),(by simp only[TB0,N8G]),(by simp only[TB0,N8G]),(by simp only[TB0,N8G]),(by simp only[TB0,N8G]),(by simp only[TB0,N8G]),(by simp only[TB0,N8G]),(by simp only[TB0,N8G]),(by simp only[TB0,N8G]),(by simp only[TB0,N8G]),(by simp only[TB0,N8G]),by rw[k5.get _ (by omega) (by simp)];exact g5_4,by rw[k15.get _ lt1 (by simp)];exact g17,by rw[k25.get _ lt2 (by simp)];exact g19,by rw[k35.get _ lt3 (by simp)];exact g21,by rw[k5.get _ lt4 (by simp)];exact g23,g25,
  hv4.keep k5,v1.keep k15,v2.keep k25,v3.keep k35,v5,ov2,o5,ZC8 v4,k0.trans k05 (by simp),r5⟩
theorem ZDa{Zk:Lib}{fs:T CF}{fuel:Nat}(E:Env Zk fs fuel){n:Nat}{y f d r}{x:X}{tm:TM}{H0 H:Heap}{p5 q17 q19 q21 q23 q25 h:Nat}{v w:JV}{b:Bool}{cs d1 d2 d3 d4 d5:List AV}(S:ZEF H0 p5 cs v w b h q17 q19 q21 q23 q25 d1 d2 d3 d4 d5 tm H)(hh:h≤45)
  (hW: ∀H',Keep H0 H' []→Zk 35 [] H'=some (.ret (.bool true) H')):
  ∃tm',Zox ⟨ZQ (LK Zk fs fuel 7) fs fuel (n+60),y,f,d,r⟩ tm H x= .ok .ret tm' H x∧gt4 tm'= .bool true:=by
 obtain⟨t5,t17,t18,t19,t20,t21,t22,t23,t24,t25,t26,g5,g17,g19,g21,g23,g25,v5,v17,v19,v21,v25,ov,ow,⟨a1,a2,a3,a4,a5,rfl⟩,k0,hro⟩:=S
 simp only[Ziu] at t5
 simp only[Zxs] at t17
 simp only[ZDP] at t18
 simp only[ZDQ] at t19
 simp only[ZDR] at t20
 simp only[ZBh] at t21
 simp only[ZDS] at t22
 simp only[ZDT] at t23
 simp only[ZDU] at t24
 simp only[ZDV] at t25
 simp only[ZDW] at t26
 have ll5:=v5.len
 have ld5: ∀G:Heap,ldN 6 (some (rG 72 1 cs 0 false true true)) 0 G= .val (.agg cs) G:=fun G=>by rw[Yu (by omega)];congr 2;rw[ZK,Zv (by omega)]
 have ll17:=v17.len
 have ld17: ∀G:Heap,ldN 6 (some (rG 72 1 d1 0 false true true)) 0 G= .val (.agg d1) G:=fun G=>by rw[Yu (by omega)];congr 2;rw[ZK,Zv (by omega)]
 have ll19:=v19.len
 have ld19: ∀G:Heap,ldN 6 (some (rG 72 1 d2 0 false true true)) 0 G= .val (.agg d2) G:=fun G=>by rw[Yu (by omega)];congr 2;rw[ZK,Zv (by omega)]
 have ll21:=v21.len
 have ld21: ∀G:Heap,ldN 6 (some (rG 72 1 d3 0 false true true)) 0 G= .val (.agg d3) G:=fun G=>by rw[Yu (by omega)];congr 2;rw[ZK,Zv (by omega)]
 have ll25:=v25.len
 have ld25: ∀G:Heap,ldN 6 (some (rG 72 1 d5 0 false true true)) 0 G= .val (.agg d5) G:=fun G=>by rw[Yu (by omega)];congr 2;rw[ZK,Zv (by omega)]
 have sp:=fun{j}=>sameV (Zk:=Zk) (fs:=fs) (fuel:=fuel) E (k:=7) (n:=j) (by decide) (by omega) hro v17 v5 ov ov
 have sq:=fun{j}=>sameV (Zk:=Zk) (fs:=fs) (fuel:=fuel) E (k:=7) (n:=j) (by decide) (by omega) hro v19 v5 ov ov
 have sr:=fun{j}=>sameV (Zk:=Zk) (fs:=fs) (fuel:=fuel) E (k:=7) (n:=j) (by decide) (by omega) hro v21 v25 ow ow
 rw[JV.same_refl] at sp sq sr
 have eb: ∀G:Heap,eqV eqB false (.bool b) (.bool b) G= .val (.bool true) G:=fun G=>by cases b<;>rfl
 have ld3: ∀G:Heap,ld1 (some (rG 72 1 [a1,a2,a3, .str [51],a4,a5] 0 false true true)) 3 G= .val (.str [51]) G:=fun G=>by rw[ZT (by simp)];rfl
 have es: ∀G:Heap,eqV eqS false (.str [51]) (.str [51]) G= .val (.bool true) G:=fun G=>by rw[VB,Zh rfl]
 have eW: ∀m,ZQ (LK Zk fs fuel 7) fs fuel (m+1) 35 [] H= .ret (.bool true) H:=fun m=>Zhr rfl (hW H k0)
 simp(maxSteps:=4000000) (disch:=first|assumption|omega|(simp -implicitDefEqProofs only[Zt,Zu]<;>first|assumption|omega)|decide) only[t5,t17,t18,t19,t20,t21,t22,t23,t24,t25,t26,g5,g17,g19,g21,g23,g25,ld5,ld17,ld19,ld21,ld25,sp,sq,sr,eb,ld3,es,eW,Zo,Zox,ZG,N8G,Zr,Zs,Zd,Ze,Zf,Nat.reduceEqDiff,reduceCtorEq,TB0,TB4,TB5]
 refine⟨_,rfl,?_⟩
 exact(by simp only[TB0,N8G])
theorem ZA2{Zk:Lib}{fs:T CF}{fuel:Nat}(E:Env Zk fs fuel)(M:MNZ Zk){n:Nat}{H:Heap}{a:AV}{l:List Nat}{key:List UInt8}(ha:ArgN H a l)(g:Glob H)(gu:GlobU H)(hro:H.ro≤H.nx)(hW: ∀H',Keep H H' []→Zk 35 [] H'=some (.ret (.bool true) H')):
  ∃H',ZQ (LK Zk fs fuel 7) fs fuel (n+61) 7 [a, .str key] H= .ret (.bool true) H':=by
 rw[ZV (ZL E.n7 (.inr rfl) _ _) E.f7,ZCY]
 obtain⟨h,v,cs,H1,e1,hh,hv,ov,tv,k1⟩:=ZyY E (k:=7) (n:=n) (by decide) ha hro
 have nx1:=k1.nx
 have ro1:=k1.ro
 have hlen:=hv.len
 have hst:=Yx (n:=6) (l:=[nI .i64 0, .bool false,nI .i64 0, .str [], .nils, .nils]) (vs:=cs) (b:=H1.nx) (H:=H1.new (rG 72 1 [nI .i64 0, .bool false,nI .i64 0, .str [], .nils, .nils] 0 false true true)) (by rfl) hlen (by omega) (show H1.ro≤H1.nx by omega) 72 1 false true
 obtain⟨H2,hH2⟩: ∃G,H1.new (rG 72 1 cs 0 false true true)=G:=⟨_,rfl⟩
 rw[Wy rfl,hH2] at hst
 have nx2:H2.nx=H1.nx+1:=by rw[←hH2];rfl
 have ro2:H2.ro=H1.ro:=by rw[←hH2];rfl
 have k2:Keep H H2 []:=by rw[←hH2];exact k1.then_new _
 have k12:Keep H1 H2 []:=by rw[←hH2];exact Keep.new _ _ _
 have g5:H2.t.get H1.nx=some (rG 72 1 cs 0 false true true):=by rw[←hH2,ZA rfl]
 have ld5: ∀G:Heap,ldN 6 (some (rG 72 1 cs 0 false true true)) 0 G= .val (.agg cs) G:=fun G=>by rw[Yu (by omega)];congr 2;rw[ZK,Zv (by omega)]
 have ec:=fun{j}=>ZyA (Zk:=Zk) (fs:=fs) (fuel:=fuel) E (k:=7) (n:=j) (by decide) (gu.keep0 k2) (by omega) (hv.keep k12)
 by_cases hc:JV.check v=0
 ·rw[hc] at ec
  have n1:=fun G=>ZlF (rfl:0=0) .i64 G
  have key0: ∀TT:TM,gt1 TT= .str key→gt5 TT= .ptr H1.nx 0→ ∃tm' H',ZlJ ⟨ZQ (LK Zk fs fuel 7) fs fuel (n+60),Y1,UI fs fuel (ZQ (LK Zk fs fuel 7) fs fuel (n+60)),fuel,false⟩ TT H2 ⟨[],none⟩= .ok .ret tm' H' ⟨[],none⟩∧gt4 tm'= .bool true:=by
   intro TT tt1 tt5
   obtain⟨tm3,H3,p6,p7,p8,q3,S3⟩:=ZC0 E (n:=n) (y:=Y1) (f:=UI fs fuel (ZQ (LK Zk fs fuel 7) fs fuel (n+60))) (d:=fuel) (r:=false) (x:=⟨[],none⟩) (tm:=TT) (H:=H2) (key:=key) (p5:=H1.nx) tt1 tt5 g5 (by omega) (by omega) (hv.keep k12)
   have w3:=(hv.keep k12).keep S3.k
   obtain⟨tm4,H4,p9,p10,ac,bc,q4,S4,k4⟩:=ZC4 E (n:=n) (y:=Y1) (f:=UI fs fuel (ZQ (LK Zk fs fuel 7) fs fuel (n+60))) (d:=fuel) (r:=false) (x:=⟨[],none⟩) S3 w3
   obtain⟨tm5,H5,p11,p12,cc,dc,q5,S5,k5⟩:=ZC5 E (n:=n) (y:=Y1) (f:=UI fs fuel (ZQ (LK Zk fs fuel 7) fs fuel (n+60))) (d:=fuel) (r:=false) (x:=⟨[],none⟩) S4 (w3.keep k4)
   have w5:=(w3.keep k4).keep k5
   have K5:=k2.trans S5.e.e.k (by simp)
   obtain⟨tm6,H6,xx,yy,e,T,q6,S6,Q6,k6⟩:=ZC6 E M (n:=n) (y:=Y1) (f:=UI fs fuel (ZQ (LK Zk fs fuel 7) fs fuel (n+60))) (d:=fuel) (r:=false) (x:=⟨[],none⟩) S5 (g.keep K5 (by simp)) (gu.keep0 K5) (by omega) ov tv hc
   obtain⟨tm7,q7,S7⟩:=ZC7 E (n:=n) (y:=Y1) (f:=UI fs fuel (ZQ (LK Zk fs fuel 7) fs fuel (n+60))) (d:=fuel) (r:=false) (x:=⟨[],none⟩) S6 Q6 (by omega) ov
   obtain⟨tm8,H8,w,b,q17,q19,q21,q23,q25,d1,d2,d3,d4,d5,q8,S8⟩:=ZC9 E (n:=n) (y:=Y1) (f:=UI fs fuel (ZQ (LK Zk fs fuel 7) fs fuel (n+60))) (d:=fuel) (r:=false) (x:=⟨[],none⟩) S7 (w5.keep k6) ov (by omega)
   obtain⟨tm9,q9,t9⟩:=ZDa E (n:=n) (y:=Y1) (f:=UI fs fuel (ZQ (LK Zk fs fuel 7) fs fuel (n+60))) (d:=fuel) (r:=false) (x:=⟨[],none⟩) S8 (by omega) (fun H' k=>hW H' (k2.trans k (by simp)))
   refine⟨tm9,H8,?_,t9⟩
   refine q3.trans (q4.trans (q5.trans (q6.trans ?_)))
   show QH (ZiO _ _ _ _) _=_
   rw[q7]
   exact q8.trans q9
  simp(maxSteps:=4000000) (disch:=first|assumption|omega|(simp -implicitDefEqProofs only[Zt,Zu]<;>first|assumption|omega)|decide) only[e1,hst,hH2,g5,ld5,ec,n1,xc7,ZG,N8G,Zr,Zs,Zd,Ze,Zf,Nat.reduceEqDiff,reduceCtorEq,TB0,TB1]
  generalize hS:ZlJ _ _ _ _=L
  have hL: ∃tm' H',L= .ok .ret tm' H' ⟨[],none⟩∧gt4 tm'= .bool true:=by
   rw[←hS]
   refine key0 _ ?_ ?_<;>simp only[TB0,N8G]
  obtain⟨tm',H',rfl,t4⟩:=hL
  simp only[Zlc] at t4
  simp(maxSteps:=4000000) (disch:=first|assumption|omega|(simp -implicitDefEqProofs only[Zt,Zu]<;>first|assumption|omega)|decide) only[t4,xc7,ZG,N8G,Zr,Zs,Zd,Ze,Zf,Nat.reduceEqDiff,reduceCtorEq,TB0,TB1]
  exact⟨_,rfl⟩
 ·have n1:=fun G=>ZlE hc .i64 G
  have eW: ∀m,ZQ (LK Zk fs fuel 7) fs fuel (m+1) 35 [] H2= .ret (.bool true) H2:=fun m=>Zhr rfl (hW H2 k2)
  simp(maxSteps:=4000000) (disch:=first|assumption|omega|(simp -implicitDefEqProofs only[Zt,Zu]<;>first|assumption|omega)|decide) only[e1,hst,hH2,g5,ld5,ec,n1,eW,xc7,ZG,N8G,Zr,Zs,Zd,Ze,Zf,Nat.reduceEqDiff,reduceCtorEq,TB0,TB1]
  exact⟨_,rfl⟩
end
end Go.AI
