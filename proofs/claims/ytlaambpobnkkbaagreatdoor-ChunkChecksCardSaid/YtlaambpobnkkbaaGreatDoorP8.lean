/- Equations in bundles; plain words; the code of the functions that the law comes to. -/
import Derived.Test.YtlaambpobnkkbaaGreatDoorP7
import Derived.Test.YtlaambpobnkkbaaGreatDoorP5
import Derived.Test.YtlaambpobnkkbaaGreatDoorProg
import Derived.Test.YtlaambpobnkkbaaGreatDoorP6
set_option maxRecDepth 1000000
set_option maxHeartbeats 0
set_option linter.unusedVariables false
set_option linter.unusedSimpArgs false
namespace Go.AI
open Go
noncomputable section
section
open Go N8
theorem Wi(b:Bool)(yes no:WC):Tp YS b yes no=no:=rfl
theorem nf{r r':WC}(h:r=r')(k:TM->Heap->X->WC):Q7 r k=Q7 r' k:=by rw[h]
theorem jz{r r':OR}(h:r=r')(n:TM->Heap->X->WC)(d:ZK)(c:Ctx)(tm:TM)(H:Heap)(x:X):OO n d c tm H x r=OO n d c tm H x r':=by rw[h]
theorem jB{r r':CR}(h:r=r')(n:TM->Heap->X->WC)(d:ZK)(tm:TM)(x:X):Bk n d tm x r=Bk n d tm x r':=by rw[h]
theorem jA{v v':AV}(h:v=v')(k:Bool->WC):xf v k=xf v' k:=by rw[h]
theorem tX{v v':AV}(h:v=v')(b:Bool)(yes no:WC):Tp v b yes no=Tp v' b yes no:=by rw[h]
theorem na{v v':Bool}(h:v=v')(a b:TM->Heap->X->WC)(tm:TM)(H:Heap)(x:X):Hq a b v tm H x=Hq a b v' tm H x:=by rw[h]
theorem tY{r r':WC}(h:r=r')(i:Nat):PZ i r=PZ i r':=by rw[h]
theorem jC{r r':WC}(h:r=r')(dc:Option AV->Nat->List AV->Heap->DR)(rs:List (Z2×Option (Nat×Bool))):KA dc rs r=KA dc rs r':=by rw[h]
theorem nb{r r':OR}(h:r=r')(p:PI)(nx:PK)(rs:List RD)(tm:TM)(H:Heap)(x:X):KQ p nx rs tm H x r=KQ p nx rs tm H x r':=by rw[h]
theorem nc{r r':OR}(h:r=r')(p:PI)(nx:PK)(rs:List RD)(tm:TM)(H:Heap)(x:X):Ie p nx rs tm H x r=Ie p nx rs tm H x r':=by rw[h]
theorem jy{r r':OR}(h:r=r')(ds:List ZK)(p:PI)(nx:PK)(rs:List RD)(c:Ctx)(tm:TM)(x:X):Hw ds p nx rs c tm x r=Hw ds p nx rs c tm x r':=by rw[h]
theorem jD{r r':CR}(h:r=r')(ds:List ZK)(p:PI)(nx:PK)(rs:List RD)(tm:TM)(x:X):Bt ds p nx rs tm x r=Bt ds p nx rs tm x r':=by rw[h]
attribute [congr] nf jz jB jA tX na tY jC nb nc jy jD
theorem Yt:(∀tm:TM,Yu tm=a0 (a0 (a0 tm))∧XR tm=a1 (a0 (a0 tm))∧Vt tm=a2 (a0 (a0 tm))∧Xx tm=a3 (a0 (a0 tm))∧Xu tm=a4 (a0 (a0 tm))∧YT tm=a5 (a0 (a0 tm))∧Wm tm=a6 (a0 (a0 tm))∧XY tm=a7 (a0 (a0 tm))∧Xt tm=a0 (a1 (a0 tm))∧WO tm=a1 (a1 (a0 tm))∧YB tm=a2 (a1 (a0 tm))∧YN tm=a3 (a1 (a0 tm))∧Xj tm=a4 (a1 (a0 tm))∧Y6 tm=a5 (a1 (a0 tm))∧XQ tm=a6 (a1 (a0 tm))∧XW tm=a7 (a1 (a0 tm))∧X6 tm=a0 (a2 (a0 tm))∧Wt tm=a1 (a2 (a0 tm))∧Wd tm=a2 (a2 (a0 tm))∧XO tm=a3 (a2 (a0 tm))∧Vg tm=a4 (a2 (a0 tm))∧WU tm=a5 (a2 (a0 tm))∧WV tm=a6 (a2 (a0 tm))∧Va tm=a7 (a2 (a0 tm))∧Wz tm=a0 (a3 (a0 tm))∧VX tm=a1 (a3 (a0 tm))∧VD tm=a2 (a3 (a0 tm))∧VR tm=a3 (a3 (a0 tm))∧VE tm=a4 (a3 (a0 tm))∧Vq tm=a5 (a3 (a0 tm))∧UX tm=a6 (a3 (a0 tm))∧UM tm=a7 (a3 (a0 tm)))∧(∀(tm:TM) (v:AV),st0 tm v=u0 (u0 (u0 λ_=>v)) tm∧st1 tm v=u0 (u0 (u1 λ_=>v)) tm∧st2 tm v=u0 (u0 (u2 λ_=>v)) tm∧VM tm v=u0 (u0 (u3 λ_=>v)) tm∧Xi tm v=u0 (u0 (u4 λ_=>v)) tm∧WZ tm v=u0 (u0 (u5 λ_=>v)) tm∧Vv tm v=u0 (u0 (u6 λ_=>v)) tm∧Vw tm v=u0 (u0 (u7 λ_=>v)) tm∧Vc tm v=u0 (u1 (u0 λ_=>v)) tm∧Uh tm v=u0 (u1 (u1 λ_=>v)) tm∧XJ tm v=u0 (u1 (u2 λ_=>v)) tm∧XF tm v=u0 (u1 (u3 λ_=>v)) tm∧X7 tm v=u0 (u1 (u4 λ_=>v)) tm∧X5 tm v=u0 (u1 (u5 λ_=>v)) tm∧WK tm v=u0 (u1 (u6 λ_=>v)) tm∧WA tm v=u0 (u1 (u7 λ_=>v)) tm∧WB tm v=u0 (u2 (u0 λ_=>v)) tm∧WX tm v=u0 (u2 (u1 λ_=>v)) tm∧WY tm v=u0 (u2 (u2 λ_=>v)) tm∧Vo tm v=u0 (u2 (u3 λ_=>v)) tm∧VA tm v=u0 (u2 (u4 λ_=>v)) tm∧V1 tm v=u0 (u2 (u5 λ_=>v)) tm∧V2 tm v=u0 (u2 (u6 λ_=>v)) tm∧V5 tm v=u0 (u2 (u7 λ_=>v)) tm∧V3 tm v=u0 (u3 (u0 λ_=>v)) tm∧Uf tm v=u0 (u3 (u1 λ_=>v)) tm∧Ug tm v=u0 (u3 (u2 λ_=>v)) tm∧Ul tm v=u0 (u3 (u3 λ_=>v)) tm∧Uq tm v=u0 (u3 (u4 λ_=>v)) tm∧UP tm v=u0 (u3 (u5 λ_=>v)) tm∧UV tm v=u0 (u3 (u6 λ_=>v)) tm∧Th tm v=u0 (u3 (u7 λ_=>v)) tm):=⟨λ_=>⟨rfl,rfl,rfl,rfl,rfl,rfl,rfl,rfl,rfl,rfl,rfl,rfl,rfl,rfl,rfl,rfl,rfl,rfl,rfl,rfl,rfl,rfl,rfl,rfl,rfl,rfl,rfl,rfl,rfl,rfl,rfl,rfl⟩,λ_ _=>⟨rfl,rfl,rfl,rfl,rfl,rfl,rfl,rfl,rfl,rfl,rfl,rfl,rfl,rfl,rfl,rfl,rfl,rfl,rfl,rfl,rfl,rfl,rfl,rfl,rfl,rfl,rfl,rfl,rfl,rfl,rfl,rfl⟩⟩
theorem Vf:(∀tm:TM,UY tm=a0 (a4 (a0 tm))∧Tl tm=a1 (a4 (a0 tm))∧UR tm=a2 (a4 (a0 tm))∧Tm tm=a3 (a4 (a0 tm))∧T3 tm=a4 (a4 (a0 tm))∧SM tm=a5 (a4 (a0 tm))∧TX tm=a6 (a4 (a0 tm))∧Sj tm=a7 (a4 (a0 tm))∧T4 tm=a0 (a5 (a0 tm))∧SX tm=a1 (a5 (a0 tm))∧Sq tm=a2 (a5 (a0 tm))∧Rb tm=a3 (a5 (a0 tm))∧To tm=a4 (a5 (a0 tm))∧SN tm=a5 (a5 (a0 tm))∧RH tm=a6 (a5 (a0 tm))∧TY tm=a7 (a5 (a0 tm))∧QD tm=a0 (a6 (a0 tm))∧SY tm=a1 (a6 (a0 tm))∧QE tm=a2 (a6 (a0 tm))∧Sr tm=a3 (a6 (a0 tm))∧QF tm=a4 (a6 (a0 tm))∧QV tm=a5 (a6 (a0 tm))∧Te tm=a6 (a6 (a0 tm))∧Qo tm=a7 (a6 (a0 tm))∧SZ tm=a0 (a7 (a0 tm))∧QG tm=a1 (a7 (a0 tm))∧S0 tm=a2 (a7 (a0 tm))∧RV tm=a3 (a7 (a0 tm))∧Rx tm=a4 (a7 (a0 tm))∧RI tm=a5 (a7 (a0 tm))∧RW tm=a6 (a7 (a0 tm))∧RX tm=a7 (a7 (a0 tm)))∧(∀(tm:TM) (v:AV),TS tm v=u0 (u4 (u0 λ_=>v)) tm∧T7 tm v=u0 (u4 (u1 λ_=>v)) tm∧Sw tm v=u0 (u4 (u2 λ_=>v)) tm∧SB tm v=u0 (u4 (u3 λ_=>v)) tm∧SU tm v=u0 (u4 (u4 λ_=>v)) tm∧SV tm v=u0 (u4 (u5 λ_=>v)) tm∧SC tm v=u0 (u4 (u6 λ_=>v)) tm∧S1 tm v=u0 (u4 (u7 λ_=>v)) tm∧Rh tm v=u0 (u5 (u0 λ_=>v)) tm∧Ri tm v=u0 (u5 (u1 λ_=>v)) tm∧Ro tm v=u0 (u5 (u2 λ_=>v)) tm∧SW tm v=u0 (u5 (u3 λ_=>v)) tm∧RA tm v=u0 (u5 (u4 λ_=>v)) tm∧Qe tm v=u0 (u5 (u5 λ_=>v)) tm∧Qw tm v=u0 (u5 (u6 λ_=>v)) tm∧Qx tm v=u0 (u5 (u7 λ_=>v)) tm∧QK tm v=u0 (u6 (u0 λ_=>v)) tm∧QL tm v=u0 (u6 (u1 λ_=>v)) tm∧Q1 tm v=u0 (u6 (u2 λ_=>v)) tm∧Q2 tm v=u0 (u6 (u3 λ_=>v)) tm∧Q3 tm v=u0 (u6 (u4 λ_=>v)) tm∧QM tm v=u0 (u6 (u5 λ_=>v)) tm∧Qy tm v=u0 (u6 (u6 λ_=>v)) tm∧QN tm v=u0 (u6 (u7 λ_=>v)) tm∧Qz tm v=u0 (u7 (u0 λ_=>v)) tm∧QO tm v=u0 (u7 (u1 λ_=>v)) tm∧Q4 tm v=u0 (u7 (u2 λ_=>v)) tm∧Q5 tm v=u0 (u7 (u3 λ_=>v)) tm∧QA tm v=u0 (u7 (u4 λ_=>v)) tm∧Pr tm v=u0 (u7 (u5 λ_=>v)) tm∧Q6 tm v=u0 (u7 (u6 λ_=>v)) tm∧QP tm v=u0 (u7 (u7 λ_=>v)) tm):=⟨λ_=>⟨rfl,rfl,rfl,rfl,rfl,rfl,rfl,rfl,rfl,rfl,rfl,rfl,rfl,rfl,rfl,rfl,rfl,rfl,rfl,rfl,rfl,rfl,rfl,rfl,rfl,rfl,rfl,rfl,rfl,rfl,rfl,rfl⟩,λ_ _=>⟨rfl,rfl,rfl,rfl,rfl,rfl,rfl,rfl,rfl,rfl,rfl,rfl,rfl,rfl,rfl,rfl,rfl,rfl,rfl,rfl,rfl,rfl,rfl,rfl,rfl,rfl,rfl,rfl,rfl,rfl,rfl,rfl⟩⟩
theorem PE:(∀tm:TM,Ph tm=a0 (a0 (a1 tm))∧PF tm=a1 (a0 (a1 tm))∧PG tm=a2 (a0 (a1 tm))∧P9 tm=a3 (a0 (a1 tm))∧Ot tm=a4 (a0 (a1 tm))∧Ma tm=a5 (a0 (a1 tm))∧Ou tm=a6 (a0 (a1 tm))∧MG tm=a7 (a0 (a1 tm))∧PX tm=a0 (a1 (a1 tm))∧QH tm=a1 (a1 (a1 tm))∧MH tm=a2 (a1 (a1 tm))∧OV tm=a3 (a1 (a1 tm))∧M5 tm=a4 (a1 (a1 tm))∧Kw tm=a5 (a1 (a1 tm))∧Mb tm=a6 (a1 (a1 tm))∧Nk tm=a7 (a1 (a1 tm))∧Kx tm=a0 (a2 (a1 tm))∧IF tm=a1 (a2 (a1 tm))∧JT tm=a2 (a2 (a1 tm))∧JU tm=a3 (a2 (a1 tm))∧Oa tm=a4 (a2 (a1 tm))∧Ky tm=a5 (a2 (a1 tm))∧HU tm=a6 (a2 (a1 tm))∧M6 tm=a7 (a2 (a1 tm))∧IG tm=a0 (a3 (a1 tm))∧FC tm=a1 (a3 (a1 tm))∧FD tm=a2 (a3 (a1 tm))∧KX tm=a3 (a3 (a1 tm))∧Kz tm=a4 (a3 (a1 tm))∧E8 tm=a5 (a3 (a1 tm))∧E9 tm=a6 (a3 (a1 tm))∧IH tm=a7 (a3 (a1 tm)))∧(∀(tm:TM) (v:AV),Ps tm v=u1 (u0 (u0 λ_=>v)) tm∧PJ tm v=u1 (u0 (u1 λ_=>v)) tm∧Od tm v=u1 (u0 (u2 λ_=>v)) tm∧Na tm v=u1 (u0 (u3 λ_=>v)) tm∧NE tm v=u1 (u0 (u4 λ_=>v)) tm∧Me tm v=u1 (u0 (u5 λ_=>v)) tm∧Mf tm v=u1 (u0 (u6 λ_=>v)) tm∧MQ tm v=u1 (u0 (u7 λ_=>v)) tm∧Lo tm v=u1 (u1 (u0 λ_=>v)) tm∧MR tm v=u1 (u1 (u1 λ_=>v)) tm∧MT tm v=u1 (u1 (u2 λ_=>v)) tm∧MU tm v=u1 (u1 (u3 λ_=>v)) tm∧Lq tm v=u1 (u1 (u4 λ_=>v)) tm∧KB tm v=u1 (u1 (u5 λ_=>v)) tm∧KC tm v=u1 (u1 (u6 λ_=>v)) tm∧KD tm v=u1 (u1 (u7 λ_=>v)) tm∧KE tm v=u1 (u2 (u0 λ_=>v)) tm∧Jp tm v=u1 (u2 (u1 λ_=>v)) tm∧JW tm v=u1 (u2 (u2 λ_=>v)) tm∧JX tm v=u1 (u2 (u3 λ_=>v)) tm∧JY tm v=u1 (u2 (u4 λ_=>v)) tm∧GX tm v=u1 (u2 (u5 λ_=>v)) tm∧GY tm v=u1 (u2 (u6 λ_=>v)) tm∧F5 tm v=u1 (u2 (u7 λ_=>v)) tm∧F6 tm v=u1 (u3 (u0 λ_=>v)) tm∧F7 tm v=u1 (u3 (u1 λ_=>v)) tm∧F8 tm v=u1 (u3 (u2 λ_=>v)) tm∧F9 tm v=u1 (u3 (u3 λ_=>v)) tm∧Ea tm v=u1 (u3 (u4 λ_=>v)) tm∧Dg tm v=u1 (u3 (u5 λ_=>v)) tm∧Dh tm v=u1 (u3 (u6 λ_=>v)) tm∧GZ tm v=u1 (u3 (u7 λ_=>v)) tm):=⟨λ_=>⟨rfl,rfl,rfl,rfl,rfl,rfl,rfl,rfl,rfl,rfl,rfl,rfl,rfl,rfl,rfl,rfl,rfl,rfl,rfl,rfl,rfl,rfl,rfl,rfl,rfl,rfl,rfl,rfl,rfl,rfl,rfl,rfl⟩,λ_ _=>⟨rfl,rfl,rfl,rfl,rfl,rfl,rfl,rfl,rfl,rfl,rfl,rfl,rfl,rfl,rfl,rfl,rfl,rfl,rfl,rfl,rfl,rfl,rfl,rfl,rfl,rfl,rfl,rfl,rfl,rfl,rfl,rfl⟩⟩
theorem DN:(∀tm:TM,II tm=a0 (a4 (a1 tm))∧JV tm=a1 (a4 (a1 tm))∧Da tm=a2 (a4 (a1 tm))∧FE tm=a3 (a4 (a1 tm))∧M0 tm=a4 (a4 (a1 tm))∧M1 tm=a5 (a4 (a1 tm))∧Nv tm=a6 (a4 (a1 tm))∧Nw tm=a7 (a4 (a1 tm))∧Ki tm=a0 (a5 (a1 tm))∧M2 tm=a1 (a5 (a1 tm))∧Kj tm=a2 (a5 (a1 tm))∧OS tm=a3 (a5 (a1 tm))∧M3 tm=a4 (a5 (a1 tm))∧HK tm=a5 (a5 (a1 tm))∧ED tm=a6 (a5 (a1 tm))∧HL tm=a7 (a5 (a1 tm))∧HM tm=a0 (a6 (a1 tm))∧Kk tm=a1 (a6 (a1 tm))∧HN tm=a2 (a6 (a1 tm))∧HR tm=a3 (a6 (a1 tm))∧HS tm=a4 (a6 (a1 tm))∧M4 tm=a5 (a6 (a1 tm))∧EE tm=a6 (a6 (a1 tm))∧EF tm=a7 (a6 (a1 tm))∧EG tm=a0 (a7 (a1 tm))∧OT tm=a1 (a7 (a1 tm))∧Cy tm=a2 (a7 (a1 tm))∧EH tm=a3 (a7 (a1 tm))∧HT tm=a4 (a7 (a1 tm))∧A6 tm=a5 (a7 (a1 tm))∧A7 tm=a6 (a7 (a1 tm))∧A8 tm=a7 (a7 (a1 tm)))∧(∀(tm:TM) (v:AV),G0 tm v=u1 (u4 (u0 λ_=>v)) tm∧Eb tm v=u1 (u4 (u1 λ_=>v)) tm∧Ec tm v=u1 (u4 (u2 λ_=>v)) tm∧Ed tm v=u1 (u4 (u3 λ_=>v)) tm∧Lk tm v=u1 (u4 (u4 λ_=>v)) tm∧Ll tm v=u1 (u4 (u5 λ_=>v)) tm∧Kq tm v=u1 (u4 (u6 λ_=>v)) tm∧Kr tm v=u1 (u4 (u7 λ_=>v)) tm∧Ks tm v=u1 (u5 (u0 λ_=>v)) tm∧Kt tm v=u1 (u5 (u1 λ_=>v)) tm∧Ku tm v=u1 (u5 (u2 λ_=>v)) tm∧Ln tm v=u1 (u5 (u3 λ_=>v)) tm∧Jo tm v=u1 (u5 (u4 λ_=>v)) tm∧GL tm v=u1 (u5 (u5 λ_=>v)) tm∧GM tm v=u1 (u5 (u6 λ_=>v)) tm∧GN tm v=u1 (u5 (u7 λ_=>v)) tm∧GO tm v=u1 (u6 (u0 λ_=>v)) tm∧GP tm v=u1 (u6 (u1 λ_=>v)) tm∧GQ tm v=u1 (u6 (u2 λ_=>v)) tm∧GR tm v=u1 (u6 (u3 λ_=>v)) tm∧GS tm v=u1 (u6 (u4 λ_=>v)) tm∧GU tm v=u1 (u6 (u5 λ_=>v)) tm∧E0 tm v=u1 (u6 (u6 λ_=>v)) tm∧E1 tm v=u1 (u6 (u7 λ_=>v)) tm∧E2 tm v=u1 (u7 (u0 λ_=>v)) tm∧E3 tm v=u1 (u7 (u1 λ_=>v)) tm∧E4 tm v=u1 (u7 (u2 λ_=>v)) tm∧GV tm v=u1 (u7 (u3 λ_=>v)) tm∧GW tm v=u1 (u7 (u4 λ_=>v)) tm∧z9 tm v=u1 (u7 (u5 λ_=>v)) tm∧ya tm v=u1 (u7 (u6 λ_=>v)) tm∧yb tm v=u1 (u7 (u7 λ_=>v)) tm):=⟨λ_=>⟨rfl,rfl,rfl,rfl,rfl,rfl,rfl,rfl,rfl,rfl,rfl,rfl,rfl,rfl,rfl,rfl,rfl,rfl,rfl,rfl,rfl,rfl,rfl,rfl,rfl,rfl,rfl,rfl,rfl,rfl,rfl,rfl⟩,λ_ _=>⟨rfl,rfl,rfl,rfl,rfl,rfl,rfl,rfl,rfl,rfl,rfl,rfl,rfl,rfl,rfl,rfl,rfl,rfl,rfl,rfl,rfl,rfl,rfl,rfl,rfl,rfl,rfl,rfl,rfl,rfl,rfl,rfl⟩⟩
theorem jd:(∀tm:TM,EI tm=a0 (a0 (a2 tm))∧wZ tm=a1 (a0 (a2 tm))∧w7 tm=a2 (a0 (a2 tm))∧vd tm=a3 (a0 (a2 tm))∧KV tm=a4 (a0 (a2 tm))∧ve tm=a5 (a0 (a2 tm))∧vf tm=a6 (a0 (a2 tm))∧vg tm=a7 (a0 (a2 tm))∧vh tm=a0 (a1 (a2 tm))∧A9 tm=a1 (a1 (a2 tm))∧za tm=a2 (a1 (a2 tm))∧zb tm=a3 (a1 (a2 tm))∧zd tm=a4 (a1 (a2 tm))∧Cz tm=a5 (a1 (a2 tm))∧Kl tm=a6 (a1 (a2 tm))∧ze tm=a7 (a1 (a2 tm))∧zf tm=a0 (a2 (a2 tm))∧zg tm=a1 (a2 (a2 tm))∧CA tm=a2 (a2 (a2 tm))∧CB tm=a3 (a2 (a2 tm))∧CC tm=a4 (a2 (a2 tm))∧KW tm=a5 (a2 (a2 tm))∧CD tm=a6 (a2 (a2 tm))∧CG tm=a7 (a2 (a2 tm))∧OU tm=a0 (a3 (a2 tm))∧CH tm=a1 (a3 (a2 tm))∧CI tm=a2 (a3 (a2 tm))∧CJ tm=a3 (a3 (a2 tm))∧zh tm=a4 (a3 (a2 tm))∧zi tm=a5 (a3 (a2 tm))∧zj tm=a6 (a3 (a2 tm))∧zk tm=a7 (a3 (a2 tm)))∧(∀(tm:TM) (v:AV),uO tm v=u2 (u0 (u0 λ_=>v)) tm∧uP tm v=u2 (u0 (u1 λ_=>v)) tm∧uQ tm v=u2 (u0 (u2 λ_=>v)) tm∧uR tm v=u2 (u0 (u3 λ_=>v)) tm∧uS tm v=u2 (u0 (u4 λ_=>v)) tm∧uT tm v=u2 (u0 (u5 λ_=>v)) tm∧uU tm v=u2 (u0 (u6 λ_=>v)) tm∧uV tm v=u2 (u0 (u7 λ_=>v)) tm∧uW tm v=u2 (u1 (u0 λ_=>v)) tm∧yc tm v=u2 (u1 (u1 λ_=>v)) tm∧yd tm v=u2 (u1 (u2 λ_=>v)) tm∧ye tm v=u2 (u1 (u3 λ_=>v)) tm∧yf tm v=u2 (u1 (u4 λ_=>v)) tm∧BG tm v=u2 (u1 (u5 λ_=>v)) tm∧BH tm v=u2 (u1 (u6 λ_=>v)) tm∧yg tm v=u2 (u1 (u7 λ_=>v)) tm∧yh tm v=u2 (u2 (u0 λ_=>v)) tm∧yi tm v=u2 (u2 (u1 λ_=>v)) tm∧BI tm v=u2 (u2 (u2 λ_=>v)) tm∧BJ tm v=u2 (u2 (u3 λ_=>v)) tm∧BK tm v=u2 (u2 (u4 λ_=>v)) tm∧BL tm v=u2 (u2 (u5 λ_=>v)) tm∧BM tm v=u2 (u2 (u6 λ_=>v)) tm∧BN tm v=u2 (u2 (u7 λ_=>v)) tm∧BO tm v=u2 (u3 (u0 λ_=>v)) tm∧BP tm v=u2 (u3 (u1 λ_=>v)) tm∧BQ tm v=u2 (u3 (u2 λ_=>v)) tm∧BR tm v=u2 (u3 (u3 λ_=>v)) tm∧yj tm v=u2 (u3 (u4 λ_=>v)) tm∧yk tm v=u2 (u3 (u5 λ_=>v)) tm∧yl tm v=u2 (u3 (u6 λ_=>v)) tm∧ym tm v=u2 (u3 (u7 λ_=>v)) tm):=⟨λ_=>⟨rfl,rfl,rfl,rfl,rfl,rfl,rfl,rfl,rfl,rfl,rfl,rfl,rfl,rfl,rfl,rfl,rfl,rfl,rfl,rfl,rfl,rfl,rfl,rfl,rfl,rfl,rfl,rfl,rfl,rfl,rfl,rfl⟩,λ_ _=>⟨rfl,rfl,rfl,rfl,rfl,rfl,rfl,rfl,rfl,rfl,rfl,rfl,rfl,rfl,rfl,rfl,rfl,rfl,rfl,rfl,rfl,rfl,rfl,rfl,rfl,rfl,rfl,rfl,rfl,rfl,rfl,rfl⟩⟩
theorem qF:(∀tm:TM,zl tm=a0 (a4 (a2 tm))∧vi tm=a1 (a4 (a2 tm))∧vj tm=a2 (a4 (a2 tm))∧CK tm=a3 (a4 (a2 tm))∧pe tm=a4 (a4 (a2 tm))∧iq tm=a5 (a4 (a2 tm))∧ir tm=a6 (a4 (a2 tm))∧it tm=a7 (a4 (a2 tm))∧iv tm=a0 (a5 (a2 tm))∧iz tm=a1 (a5 (a2 tm))∧iA tm=a2 (a5 (a2 tm))∧iB tm=a3 (a5 (a2 tm))∧iC tm=a4 (a5 (a2 tm))∧iD tm=a5 (a5 (a2 tm))∧iE tm=a6 (a5 (a2 tm))∧vk tm=a7 (a5 (a2 tm))∧vl tm=a0 (a6 (a2 tm))∧iF tm=a1 (a6 (a2 tm))∧iG tm=a2 (a6 (a2 tm))∧iH tm=a3 (a6 (a2 tm))∧iI tm=a4 (a6 (a2 tm))∧iJ tm=a5 (a6 (a2 tm))∧iK tm=a6 (a6 (a2 tm))∧iL tm=a7 (a6 (a2 tm))∧iM tm=a0 (a7 (a2 tm))∧iN tm=a1 (a7 (a2 tm))∧iO tm=a2 (a7 (a2 tm))∧Zcr tm=a3 (a7 (a2 tm))∧Zcs tm=a4 (a7 (a2 tm))∧Zct tm=a5 (a7 (a2 tm))∧Zcu tm=a6 (a7 (a2 tm))∧Zcv tm=a7 (a7 (a2 tm)))∧(∀(tm:TM) (v:AV),yn tm v=u2 (u4 (u0 λ_=>v)) tm∧uX tm v=u2 (u4 (u1 λ_=>v)) tm∧uY tm v=u2 (u4 (u2 λ_=>v)) tm∧uZ tm v=u2 (u4 (u3 λ_=>v)) tm∧oz tm v=u2 (u4 (u4 λ_=>v)) tm∧dM tm v=u2 (u4 (u5 λ_=>v)) tm∧dN tm v=u2 (u4 (u6 λ_=>v)) tm∧dO tm v=u2 (u4 (u7 λ_=>v)) tm∧dP tm v=u2 (u5 (u0 λ_=>v)) tm∧dQ tm v=u2 (u5 (u1 λ_=>v)) tm∧dR tm v=u2 (u5 (u2 λ_=>v)) tm∧dS tm v=u2 (u5 (u3 λ_=>v)) tm∧dT tm v=u2 (u5 (u4 λ_=>v)) tm∧dU tm v=u2 (u5 (u5 λ_=>v)) tm∧dV tm v=u2 (u5 (u6 λ_=>v)) tm∧dW tm v=u2 (u5 (u7 λ_=>v)) tm∧dX tm v=u2 (u6 (u0 λ_=>v)) tm∧dY tm v=u2 (u6 (u1 λ_=>v)) tm∧dZ tm v=u2 (u6 (u2 λ_=>v)) tm∧ce tm v=u2 (u6 (u3 λ_=>v)) tm∧ci tm v=u2 (u6 (u4 λ_=>v)) tm∧cj tm v=u2 (u6 (u5 λ_=>v)) tm∧cq tm v=u2 (u6 (u6 λ_=>v)) tm∧cr tm v=u2 (u6 (u7 λ_=>v)) tm∧ct tm v=u2 (u7 (u0 λ_=>v)) tm∧cu tm v=u2 (u7 (u1 λ_=>v)) tm∧cA tm v=u2 (u7 (u2 λ_=>v)) tm∧Zdt tm v=u2 (u7 (u3 λ_=>v)) tm∧Zdu tm v=u2 (u7 (u4 λ_=>v)) tm∧Zdv tm v=u2 (u7 (u5 λ_=>v)) tm∧Zdw tm v=u2 (u7 (u6 λ_=>v)) tm∧Zdx tm v=u2 (u7 (u7 λ_=>v)) tm):=⟨λ_=>⟨rfl,rfl,rfl,rfl,rfl,rfl,rfl,rfl,rfl,rfl,rfl,rfl,rfl,rfl,rfl,rfl,rfl,rfl,rfl,rfl,rfl,rfl,rfl,rfl,rfl,rfl,rfl,rfl,rfl,rfl,rfl,rfl⟩,λ_ _=>⟨rfl,rfl,rfl,rfl,rfl,rfl,rfl,rfl,rfl,rfl,rfl,rfl,rfl,rfl,rfl,rfl,rfl,rfl,rfl,rfl,rfl,rfl,rfl,rfl,rfl,rfl,rfl,rfl,rfl,rfl,rfl,rfl⟩⟩
theorem TB6:(∀tm:TM,Zcw tm=a0 (a0 (a3 tm))∧Zcx tm=a1 (a0 (a3 tm))∧Zcy tm=a2 (a0 (a3 tm))∧Zcz tm=a3 (a0 (a3 tm))∧ZcA tm=a4 (a0 (a3 tm))∧ZcB tm=a5 (a0 (a3 tm))∧ZcC tm=a6 (a0 (a3 tm))∧ZcD tm=a7 (a0 (a3 tm))∧ZcE tm=a0 (a1 (a3 tm))∧ZcF tm=a1 (a1 (a3 tm))∧ZcG tm=a2 (a1 (a3 tm))∧ZcH tm=a3 (a1 (a3 tm))∧ZcI tm=a4 (a1 (a3 tm))∧ZcJ tm=a5 (a1 (a3 tm))∧ZcK tm=a6 (a1 (a3 tm))∧ZcL tm=a7 (a1 (a3 tm))∧ZcM tm=a0 (a2 (a3 tm))∧ZcN tm=a1 (a2 (a3 tm))∧ZcO tm=a2 (a2 (a3 tm))∧ZcP tm=a3 (a2 (a3 tm))∧ZcQ tm=a4 (a2 (a3 tm))∧ZcR tm=a5 (a2 (a3 tm))∧ZcS tm=a6 (a2 (a3 tm))∧ZcT tm=a7 (a2 (a3 tm))∧ZhT tm=a0 (a3 (a3 tm))∧ZhU tm=a1 (a3 (a3 tm))∧ZhV tm=a2 (a3 (a3 tm))∧ZhW tm=a3 (a3 (a3 tm))∧ZhX tm=a4 (a3 (a3 tm))∧ZhY tm=a5 (a3 (a3 tm))∧ZhZ tm=a6 (a3 (a3 tm))∧Zh0 tm=a7 (a3 (a3 tm)))∧(∀(tm:TM) (v:AV),Zdy tm v=u3 (u0 (u0 λ_=>v)) tm∧Zdz tm v=u3 (u0 (u1 λ_=>v)) tm∧ZdA tm v=u3 (u0 (u2 λ_=>v)) tm∧ZdB tm v=u3 (u0 (u3 λ_=>v)) tm∧ZdC tm v=u3 (u0 (u4 λ_=>v)) tm∧ZdD tm v=u3 (u0 (u5 λ_=>v)) tm∧ZdE tm v=u3 (u0 (u6 λ_=>v)) tm∧ZdF tm v=u3 (u0 (u7 λ_=>v)) tm∧ZdG tm v=u3 (u1 (u0 λ_=>v)) tm∧ZdH tm v=u3 (u1 (u1 λ_=>v)) tm∧ZdI tm v=u3 (u1 (u2 λ_=>v)) tm∧ZdJ tm v=u3 (u1 (u3 λ_=>v)) tm∧ZdK tm v=u3 (u1 (u4 λ_=>v)) tm∧ZdL tm v=u3 (u1 (u5 λ_=>v)) tm∧ZdM tm v=u3 (u1 (u6 λ_=>v)) tm∧ZdN tm v=u3 (u1 (u7 λ_=>v)) tm∧ZdO tm v=u3 (u2 (u0 λ_=>v)) tm∧ZdP tm v=u3 (u2 (u1 λ_=>v)) tm∧ZdQ tm v=u3 (u2 (u2 λ_=>v)) tm∧ZdR tm v=u3 (u2 (u3 λ_=>v)) tm∧ZdS tm v=u3 (u2 (u4 λ_=>v)) tm∧ZdT tm v=u3 (u2 (u5 λ_=>v)) tm∧ZdU tm v=u3 (u2 (u6 λ_=>v)) tm∧ZdV tm v=u3 (u2 (u7 λ_=>v)) tm∧Zjx tm v=u3 (u3 (u0 λ_=>v)) tm∧Zjy tm v=u3 (u3 (u1 λ_=>v)) tm∧Zjz tm v=u3 (u3 (u2 λ_=>v)) tm∧ZjA tm v=u3 (u3 (u3 λ_=>v)) tm∧ZjB tm v=u3 (u3 (u4 λ_=>v)) tm∧ZjC tm v=u3 (u3 (u5 λ_=>v)) tm∧ZjD tm v=u3 (u3 (u6 λ_=>v)) tm∧ZjE tm v=u3 (u3 (u7 λ_=>v)) tm):=⟨λ_=>⟨rfl,rfl,rfl,rfl,rfl,rfl,rfl,rfl,rfl,rfl,rfl,rfl,rfl,rfl,rfl,rfl,rfl,rfl,rfl,rfl,rfl,rfl,rfl,rfl,rfl,rfl,rfl,rfl,rfl,rfl,rfl,rfl⟩,λ_ _=>⟨rfl,rfl,rfl,rfl,rfl,rfl,rfl,rfl,rfl,rfl,rfl,rfl,rfl,rfl,rfl,rfl,rfl,rfl,rfl,rfl,rfl,rfl,rfl,rfl,rfl,rfl,rfl,rfl,rfl,rfl,rfl,rfl⟩⟩
end
def Tk(x:Nat):List UInt8->Nat
 |[]=>0
 |c::s=>if Tk x s=0 then(if c.toNat=x then 1 else 0) else Tk x s+1
def TJ(x:Nat):List UInt8->Nat
 |[]=>0
 |c::s=>if c.toNat=x then 1 else if TJ x s=0 then 0 else TJ x s+1
def Y9:List UInt8->List (List UInt8)
 |[]=>[[]]
 |c::s=>if c.toNat=47 then []::Y9 s else match Y9 s with|[]=>[[c]]|h::t=>(c::h)::t
theorem Ck(x:Nat): ∀(l:List UInt8) (c:UInt8),Tk x (l++[c])=if c.toNat=x then l.length+1 else Tk x l
 |[],c=>by simp[Tk]
 |a::l,c=>by
  rw[Wq,Tk,Ck x l c,Tk]
  by_cases h:c.toNat=x
  ·simp[h]
  ·simp[h]
theorem Ej{s:List UInt8}{m:Nat}(h:m<s.length):s.take (m+1)=s.take m++[s.getD m 0]:=by
 rw[UB,Ze,Zk h];rfl
theorem aT{x:Nat}{s:List UInt8}{m:Nat}(h:m<s.length)(e:(s.getD m 0).toNat=x):Tk x (s.take (m+1))=m+1:=by
 rw[Ej h,Ck,if_pos e,ZW,Wb (Pt h)]
theorem jH{x:Nat}{s:List UInt8}{m:Nat}(h:m<s.length)(e:(s.getD m 0).toNat≠x):Tk x (s.take (m+1))=Tk x (s.take m):=by
 rw[Ej h,Ck,if_neg e]
theorem su(x:Nat): ∀s:List UInt8,Tk x s<=s.length
 |[]=>Zo _
 |c::s=>by
  have:=su x s
  rw[Tk,Ye]
  split
  ·split<;>omega
  ·omega
theorem pH(x:Nat): ∀(s:List UInt8) (n:Nat),PY x s n=if TJ x s=0 then Int.negSucc 0 else((n+TJ x s - 1:Nat):Int)
 |[],n=>rfl
 |c::s,n=>by
  show cond (Nat.beq c.toNat x) (Int.ofNat n) (PY x s (Nat.succ n))=_
  rw[pH x s,TJ]
  by_cases h:c.toNat=x
  ·rw[if_pos h,h,show Nat.beq x x=true from Ys x];simp
  ·have:Nat.beq c.toNat x=false:=by
    cases e:Nat.beq c.toNat x with
    |false=>rfl
    |true=>exact absurd (ZM e) h
   rw[this,if_neg h,cond_false]
   by_cases h0:TJ x s=0
   ·rw[if_pos h0,if_pos h0,if_pos rfl]
   ·rw[if_neg h0,if_neg h0,if_neg (by omega)]
    congr 1
    omega
theorem RT{x:Nat}: ∀{s:List UInt8},TJ x s=0↔ ∀c∈s,c.toNat≠x
 |[]=>by simp[TJ]
 |c::s=>by
  rw[TJ]
  have ih:=RT (x:=x) (s:=s)
  by_cases h:c.toNat=x
  ·simp[h]
  ·rw[if_neg h]
   by_cases h0:TJ x s=0
   ·simp only[h0,if_true,true_iff]
    intro b hb
    rcases ZR.1 hb with rfl|hb
    ·exact h
    ·exact ih.1 h0 b hb
   ·rw[if_neg h0]
    refine⟨λe=>by omega,λe=>absurd (ih.2 λb hb=>e b (ZC _ hb)) h0⟩
theorem y5{x:Nat}: ∀{s:List UInt8} {j:Nat},TJ x s=j+1->j<s.length∧(s.getD j 0).toNat=x
 |[],j,h=>by simp[TJ] at h
 |c::s,j,h=>by
  rw[TJ] at h
  by_cases hc:c.toNat=x
  ·rw[if_pos hc] at h
   have:j=0:=by omega
   subst this
   exact⟨by simp,hc⟩
  ·rw[if_neg hc] at h
   split at h
   ·omega
   ·rename_i h0
    obtain⟨i,rfl⟩: ∃i,j=i+1:=⟨j - 1,by omega⟩
    obtain⟨h1,h2⟩:=y5 (x:=x) (s:=s) (j:=i) (by omega)
    exact⟨by simp;omega,by simpa using h2⟩
theorem Q0: ∀s:List UInt8,Y9 s≠[]
 |[]=>by simp[Y9]
 |c::s=>by
  rw[Y9]
  split
  ·simp
  ·split<;>simp
theorem Pq: ∀{s:List UInt8},TJ 47 s=0->Y9 s=[s]
 |[],_=>rfl
 |c::s,h=>by
  have h1:=RT.1 h
  rw[Y9,if_neg (h1 c (Zs ..)),Pq (RT.2 λb hb=>h1 b (ZC _ hb))]
theorem Lj: ∀{s:List UInt8} {j:Nat},TJ 47 s=j+1->Y9 s=s.take j::Y9 (s.drop (j+1))
 |[],j,h=>by simp[TJ] at h
 |c::s,j,h=>by
  rw[TJ] at h
  by_cases hc:c.toNat=47
  ·rw[if_pos hc] at h
   have:j=0:=by omega
   subst this
   rw[Y9,if_pos hc];rfl
  ·rw[if_neg hc] at h
   split at h
   ·omega
   ·obtain⟨i,rfl⟩: ∃i,j=i+1:=⟨j - 1,by omega⟩
    rw[Y9,if_neg hc,Lj (s:=s) (j:=i) (by omega)]
    rfl
theorem Hp(x:Nat): ∀(l:List UInt8) (n:Nat),Xs x l n=n+Xs x l 0
 |[],n=>rfl
 |b::l,n=>by
  show cond (Nat.beq b.toNat x) (Xs x l (Nat.succ n)) (Xs x l n)=n+cond (Nat.beq b.toNat x) (Xs x l (Nat.succ 0)) (Xs x l 0)
  rw[Hp x l (Nat.succ n),Hp x l n,Hp x l (Nat.succ 0)]
  cases Nat.beq b.toNat x<;>simp;omega
theorem OF: ∀s:List UInt8,(Y9 s).length=Xs 47 s 0+1
 |[]=>rfl
 |c::s=>by
  have ih:=OF s
  show _=cond (Nat.beq c.toNat 47) (Xs 47 s (Nat.succ 0)) (Xs 47 s 0)+1
  rw[Y9,Hp 47 s (Nat.succ 0)]
  by_cases hc:c.toNat=47
  ·rw[if_pos hc,hc,show Nat.beq 47 47=true from rfl,Ye,ih,cond_true];omega
  ·have:Nat.beq c.toNat 47=false:=by
    cases e:Nat.beq c.toNat 47 with
    |false=>rfl
    |true=>exact absurd (ZM e) hc
   rw[if_neg hc,this,cond_false,<-ih]
   split
   ·rename_i h;exact absurd h (Q0 s)
   ·rename_i a b h;rw[h];rfl
theorem yS: ∀(x:Nat) (s:List UInt8),Xs x s 0<=s.length
 |x,[]=>Zo _
 |x,c::s=>by
  have:=yS x s
  show cond (Nat.beq c.toNat x) (Xs x s (Nat.succ 0)) (Xs x s 0)<=s.length+1
  rw[Hp x s (Nat.succ 0)]
  cases Nat.beq c.toNat x<;>simp<;>omega
def Af:List UInt8:=[46]
def J2:List UInt8:=[46,46]
def yy:List UInt8:=[46,119,104,46]
def lD:List UInt8:=[46,119,104,46,46,119,104,46,46,111,112,113]
def qw:List UInt8:=[46,119,104,46,46,119,104,46,116,111,99]
def O6(p s:List UInt8):Bool:=decide (p.length<=s.length)&&decide (s.take p.length=p)
def Pe(l s:List UInt8):Bool:=s.any λc=>decide (c∈l)
def YF(s:List UInt8):Bool:=!decide (s=[])&&decide (s.length<=251)&&!decide (s=Af)&&!decide (s=J2)&&!Pe [47,0] s&&!O6 yy s
def Z6(p:List UInt8):List (List UInt8):=if p=[] then [] else Y9 p
def T6(p:List UInt8):Bool:=decide (p.length<=4080)&&decide ((Z6 p).length<255)&&(Z6 p).all YF
def XC(p:List UInt8):List UInt8:=p.drop (Tk 47 p)
def Uw(p:List UInt8):List UInt8:=p.take (Tk 47 p)
def RE(b:List UInt8):Nat:=if b=lD then 3 else if O6 yy b then 2 else 1
def FP(d:List UInt8):List UInt8:=if (1<=d.length∧d.drop (d.length - 1)=[47]) then d.take (d.length - 1) else d
def Tt(p:List UInt8):List UInt8:=if RE (XC p)=1 then Uw p++XC p else if RE (XC p)=2 then Uw p++(XC p).drop 4 else FP (Uw p)
def NR(p:List UInt8):Bool:=!T6 (Tt p)||(!decide (RE (XC p)=3)&&decide (Tt p=[]))||(decide (RE (XC p)=2)&&!YF ((XC p).drop 4))||decide (Uw p=[47])
def Y8(p:List UInt8):Nat×List UInt8:=if p=qw then(4,[]) else if NR p then(0,[]) else(RE (XC p),Tt p)
theorem Za4(b:List UInt8):1<=RE b∧RE b<=3:=by
 unfold RE
 split
 ·exact⟨by decide,by decide⟩
 ·split<;>exact⟨by decide,by decide⟩
def I9(l:List UInt8):List UInt8->Nat
 |[]=>0
 |c::s=>if c∈l then 1 else if I9 l s=0 then 0 else I9 l s+1
theorem DU{l:List UInt8}: ∀{s:List UInt8},(∀j,j<s.length->s.getD j 0∉l)->I9 l s=0
 |[],_=>rfl
 |c::s,h=>by
  have h0:c∉l:=h 0 (by simp)
  rw[I9,if_neg h0,DU λj hj=>by simpa using h (j+1) (by simp;omega),if_pos rfl]
theorem yH{l:List UInt8}: ∀{s:List UInt8} {p:Nat},p<s.length->s.getD p 0∈l->(∀j,j<p->s.getD j 0∉l)->I9 l s=p+1
 |[],p,h,_,_=>by simp at h
 |c::s,0,h,e,_=>by
  have:c∈l:=e
  rw[I9,if_pos this]
 |c::s,p+1,h,e,hn=>by
  have h0:c∉l:=hn 0 (by omega)
  rw[I9,if_neg h0,yH (s:=s) (p:=p) (by simpa using h) (by simpa using e) λj hj=>by simpa using hn (j+1) (by omega),if_neg (by omega)]
theorem qJ(l:List UInt8): ∀s:List UInt8,decide (0<I9 l s)=Pe l s
 |[]=>rfl
 |c::s=>by
  have ih:=qJ l s
  unfold Pe at ih ⊢
  rw[List.any_cons,<-ih,I9]
  by_cases h:c∈l
  ·simp[h]
  ·rw[if_neg h,Zb h]
   by_cases h0:I9 l s=0
   ·simp[h0]
   ·rw[if_neg h0];simp;omega
theorem D0(s:List UInt8)(i:Nat):((⟨s.toArray⟩:ByteArray).get! i).toNat=(s.getD i 0).toNat:=by
 show(s.toArray[i]!).toNat=_
 rw[List.getElem!_toArray,Ze,List.getElem!_eq_getElem?_getD]
 rfl
theorem qU{s:List UInt8}{i:Nat}(hc:(s.getD i 0).toNat<128):Utf8.decode ⟨s.toArray⟩ i=((s.getD i 0).toNat,1):=by
 have e:=D0 s (i+0)
 rw[Zj] at e
 unfold Utf8.decode
 simp only[Zj,e]
 rw[if_pos hc]
theorem Zeq{s:List UInt8}{i:Nat}(h:i<s.length)(hc:128<=(s.getD i 0).toNat):
  ∃r w,Utf8.decode ⟨s.toArray⟩ i=(r,w)∧128<=r∧r<=1114111∧1<=w∧ ∀j,j<w->i+j<s.length∧128<=(s.getD (i+j) 0).toNat:=by
 have e0:=D0 s i
 have e1:=D0 s (i+1)
 have e2:=D0 s (i+2)
 have e3:=D0 s (i+3)
 have hsz:(⟨s.toArray⟩:ByteArray).size=s.length:=by show s.toArray.size=_;simp
 unfold Utf8.decode
 simp only[Zj,e0,e1,e2,e3,hsz]
 have l0:=(s.getD i 0).toNat_lt
 have l1:=(s.getD (i+1) 0).toNat_lt
 have l2:=(s.getD (i+2) 0).toNat_lt
 have l3:=(s.getD (i+3) 0).toNat_lt
 generalize g0:(s.getD i 0).toNat=b0 at*
 generalize g1:(s.getD (i+1) 0).toNat=b1 at*
 generalize g2:(s.getD (i+2) 0).toNat=b2 at*
 generalize g3:(s.getD (i+3) 0).toNat=b3 at*
 have one: ∀j,j<1->i+j<s.length∧128<=(s.getD (i+j) 0).toNat:=λj hj=>by
  obtain rfl:j=0:=by omega
  exact⟨h,by rw[Zj,g0];exact hc⟩
 have err: ∃r w,((Utf8.runeError,1):Nat×Nat)=(r,w)∧128<=r∧r<=1114111∧1<=w∧ ∀j,j<w->i+j<s.length∧128<=(s.getD (i+j) 0).toNat:=⟨_,_,rfl,by decide,by decide,by decide,one⟩
 rw[if_neg (by omega)]
 split
 ·rename_i c2
  simp only[Yv,beq_iff_eq,decide_eq_true_eq] at c2
  split
  ·exact⟨_,_,rfl,by omega,by omega,by decide,λj hj=>by
    rcases(show j=0∨j=1 by omega) with rfl|rfl
    ·exact one 0 (by decide)
    ·exact⟨by omega,by rw[g1];omega⟩⟩
  ·exact err
 ·split
  ·rename_i c3
   simp only[Yv,beq_iff_eq,decide_eq_true_eq] at c3
   split
   ·rename_i c4
    simp only[Yv,decide_eq_true_eq] at c4
    refine⟨_,_,rfl,by omega,by omega,by decide,λj hj=>?_⟩
    rcases(show j=0∨j=1∨j=2 by omega) with rfl|rfl|rfl
    ·exact one 0 (by decide)
    ·exact⟨by omega,by rw[g1];omega⟩
    ·exact⟨by omega,by rw[g2];omega⟩
   ·exact err
  ·split
   ·rename_i c3
    simp only[Yv,beq_iff_eq,decide_eq_true_eq] at c3
    split
    ·rename_i c4
     simp only[Yv,decide_eq_true_eq,Utf8.valid,V7] at c4
     refine⟨_,_,rfl,by omega,by omega,by decide,λj hj=>?_⟩
     rcases(show j=0∨j=1∨j=2∨j=3 by omega) with rfl|rfl|rfl|rfl
     ·exact one 0 (by decide)
     ·exact⟨by omega,by rw[g1];omega⟩
     ·exact⟨by omega,by rw[g2];omega⟩
     ·exact⟨by omega,by rw[g3];omega⟩
    ·exact err
   ·exact err
theorem jS{r:Nat}(h:128<=r): ∃rs:List UInt8,(Utf8.encode (r:Int)).data.toList=rs∧2<=rs.length∧rs.length<=4∧128<=(rs.getD (rs.length - 1) 0).toNat:=by
 have key: ∀c:Nat,128<=(UInt8.ofNat (128+c % 64)).toNat:=λc=>by
  rw[S8,Yx (by omega)];omega
 unfold Utf8.encode
 have hc:128<=(if Utf8.valid (r:Int)=true then(r:Int).toNat else Utf8.runeError):=by
  split
  ·simpa using h
  ·decide
 generalize(if Utf8.valid (r:Int)=true then(r:Int).toNat else Utf8.runeError)=c at hc
 simp only
 rw[if_neg (by omega)]
 split
 ·exact⟨_,rfl,Zo 2,by show 2<=4;decide,key _⟩
 ·split
  ·exact⟨_,rfl,by show 2<=3;decide,by show 3<=4;decide,key _⟩
  ·exact⟨_,rfl,by show 2<=4;decide,Zo 4,key _⟩
def KF:List AV:=List.replicate 256 (.bool false)
def Oc(cs:List UInt8):List AV:=cs.foldl (λL c=>L.set c.toNat (.bool true)) KF
theorem lX(cs:List UInt8)(c:UInt8):Oc (cs++[c])=(Oc cs).set c.toNat (.bool true):=by
 unfold Oc;rw[List.foldl_append];rfl
theorem GG(cs:List UInt8):(Oc cs).length=256:=by
 unfold Oc
 have: ∀(cs:List UInt8) (L:List AV),L.length=256->(cs.foldl (λL c=>L.set c.toNat (.bool true)) L).length=256:=by
  intro cs
  induction cs with
  |nil=>intro L h;exact h
  |cons c cs ih=>intro L h;exact ih _ (by rw[Um];exact h)
 exact this cs KF (by unfold KF;rw[Y5])
theorem dD(cs:List UInt8){x:UInt8}:(Oc cs).getD x.toNat .unk=.bool (decide (x∈cs)):=by
 unfold Oc
 have hx:=x.toNat_lt
 have: ∀(cs:List UInt8) (L:List AV) (b:Bool),L.length=256->L.getD x.toNat .unk=.bool b->(cs.foldl (λL c=>L.set c.toNat (.bool true)) L).getD x.toNat .unk=.bool (b||decide (x∈cs)):=by
  intro cs
  induction cs with
  |nil=>intro L b h h2;simpa using h2
  |cons c cs ih=>
   intro L b h h2
   have:=ih (L.set c.toNat (.bool true)) (b||decide (x=c)) (by rw[Um];exact h) (by
    rw[Ze,Ql]
    by_cases e:c.toNat=x.toNat
    ·have:c=x:=U9.1 e
     subst this
     have hx':c.toNat<256:=hx
     simp[h,hx']
    ·have:x≠c:=λq=>e (by rw[q])
     rw[if_neg e,Zb this,Bool.or_false,<-Ze];exact h2)
   rw[U6,this]
   congr 1
   cases b<;>simp[ZR]
 rw[this cs KF false (by unfold KF;rw[Y5]) (by unfold KF;rw[Ze,Vr,if_pos hx];rfl),Bool.false_or]
section
open Go.Proofs N8
def z35:List AV:=nI .i64 0::nI .i64 0::nI .i64 0::List.replicate 32 (nI .u8 0)
def c31:CF:=⟨[(Vt,none),(Xx,none)],(Zg (Za (Zi (k (nI .i64 0))) st2<|Za (Zi (k (.str []))) VM<|Zc) (Zg (Zg (Za (Zi Yu) Vv<|Za (Vu Wm (k (.str [46,119,104,46,46,119,104,46,116,111,99])) Mj false) Vw<|Zc) (ZL XY (Zg (Za (Zi (k (nI .i64 4))) st2<|Za (Zi (k (.str []))) VM<|Zc) Z8) Zc)) (Zg (Za (Zi Yu) Vc<|Za (ZB 47 [Xt]) Uh<|Za (Zi WO) Xi<|Zc) (Zg (Za (Zi Xu) XJ<|Za (ZB 48 [YB]) XF<|Za (Zi YN) st2<|Zc) (Zg (Za (Zi Yu) X7<|Za (Zi Xu) X5<|Za (ZB 49 [Xj,Y6]) WK<|Za (Zi XQ) WZ<|Zc) (Zg (Za (Zu (k (.ptr 0 0))) WA<|Za (Zi Vt) WB<|Za (JH Uk .nilf false XW X6) WX<|Za (Zi YT) WY<|Za (Zi Xu) Vo<|Za (OZ Wt Tryz.prog [Wd,XO]) VA<|Za (Zi Vg) VM<|Zc) (Zg (Zg (Za (Zi Xx) V1<|Za (ZB 50 [WU]) V2<|Za (PH WV) V5<|Za (Zi Va) V3<|Zx Wz false (Zi Vt) Uf<|Zx Wz false (Vu VX (k (nI .i64 3)) Uk true) Ug<|Zx Wz false (Zi VD) Ul<|Zx VR true (Zi Xx) Uq<|Zx VR true (Vu VE (k (.str [])) Mj false) UP<|Zx Wz false (Yg VR Vq (k (.bool false))) UV<|Za (Yg Wz (k (.bool true)) UX) Th<|Za (Zi UM) TS<|Zx UY false (Zi Vt) T7<|Zx UY false (Vu Tl (k (nI .i64 2)) Uk false) Sw<|Zx UY false (Zi UR) SB<|Zx Tm true (Zi Xu) SU<|Zx Tm true (Vm T3 (some (k (nI .i64 4))) none none) SV<|Zx Tm true (ZB 51 [SM]) SC<|Zx Tm true (PH TX) S1<|Zx UY false (Yg Tm Sj (k (.bool false))) Rh<|Za (Yg UY (k (.bool true)) T4) Ri<|Za (Zi SX) Ro<|Zx Sq false (Zi YT) SW<|Zx Sq false (Vu Rb (k (.str [47])) Mj false) RA<|Za (Yg Sq (k (.bool true)) To) Qe<|Zc) (ZL SN (Zg (Za (Zi (k (nI .i64 0))) st2<|Za (Zi (k (.str []))) VM<|Zc) Z8) Zc)) (Zg (Za (Zi Vt) Qw<|Za (Zi Xx) Qx<|Za (Zi RH) st2<|Za (Zi TY) VM<|Zc) Z8))))))))⟩
def c47:CF:=⟨[(Vt,none)],(Zg (Za (Zi (k (.str []))) st2<|Zc) (Zg (Za (Zi Yu) VM<|Za (Zi Yu) Xi<|Za (ZB 65 [Xu,(k (nI .u8 47))]) WZ<|Za (Yc YT (k (nI .i64 1))) Vv<|Za (Vm Xx (some Wm) none none) Vw<|Za (Zi XY) st2<|Zc) Z8))⟩
def c65:CF:=⟨[(Xu,none)],(Zg (Za (Zi (k (nI .i64 0))) Xi<|Zc) (Zg (Za (Zi Yu) WZ<|Za (Zi XR) Vv<|Za (ZB 90 [YT,Wm]) Vw<|Za (Zi XY) Xi<|Zc) Z8))⟩
def Fr:D:=(Zg (Zg (Za (Zi YT) Uh<|Za (Yj WO (k (nI .i64 0)) SA Wx) XJ<|Zc) (ZL YB Zc (XG 0))) (Zg (ZY 1 (Zg (Za (Zi Yu) X5<|Za (Zi YT) WK<|Za (Wp Y6 XQ) WA<|Za (Zi XR) WB<|Za (Vu XW X6 Uk false) WX<|Zc) (ZL Wt (Zg (Za (Zi YT) WY<|Za (Zi Wd) Xi<|Zc) Z8) Zc))) (Za (Zi YT) XF<|Za (VZ YN (k (nI .i64 1))) X7<|Za (Zi Xj) WZ<|Zc)))
def c90:CF:=⟨[(Xu,none)],(Zg (Za (Zi (k (nI .i64 0))) Xi<|Zc) (Zg (Zg (Za (Zi Yu) Vv<|Za (XN Wm) Vw<|Za (VZ XY (k (nI .i64 1))) Vc<|Za (Zi Xt) WZ<|Zc) (ZY 0 (XS Fr))) (Zg (Za (Zi (k (.int .i64 (.negSucc 0)))) Xi<|Zc) Z8)))⟩
def c48:CF:=⟨[(Vt,none)],(Zg (Za (Zi (k (nI .i64 0))) st2<|Zc) (Zg (ZY 0 (Zg (Za (Zi Yu) Xi<|Za (Vu Xu (k (.str [46,119,104,46,46,119,104,46,46,111,112,113])) Mj false) WZ<|Za (Zi YT) VM<|Zc) (ZL Xx (Zg (Za (Zi (k (nI .i64 3))) st2<|Zc) Z8) (Zg (Za (Zi Yu) Vw<|Za (ZB 66 [XY,(k (.str [46,119,104,46]))]) Vc<|Za (Zi Xt) Vv<|Zc) (ZL Wm (Zg (Za (Zi (k (nI .i64 2))) st2<|Zc) Z8) Zc))))) (Zg (Za (Zi (k (nI .i64 1))) st2<|Zc) Z8)))⟩
def c66:CF:=⟨[(Xu,none)],(Zg (Za (Zi (k (.bool false))) Xi<|Zc) (Zg (Za (Zi Yu) WZ<|Za (Zi XR) Vv<|Za (ZB 91 [YT,Wm]) Vw<|Za (Zi XY) Xi<|Zc) Z8))⟩
def c91:CF:=⟨[(Xu,none)],(Zg (Za (Zi (k (.bool false))) Xi<|Zc) (Zg (Za (Zi Yu) WZ<|Za (XN YT) Vv<|Za (Zi XR) Vw<|Za (XN XY) Vc<|Za (Yj Wm Xt SA Wx) Uh<|Za (Zi WO) XJ<|Zx YB true (Zi Yu) XF<|Zx YB true (Zi XR) X7<|Zx YB true (XN Xj) X5<|Zx YB true (Vm YN none (some Y6) none) WK<|Zx YB true (Zi XR) WA<|Zx YB true (Vu XQ XW Mj false) WB<|Za (Yg YB X6 (k (.bool false))) WX<|Za (Zi Wt) Xi<|Zc) Z8))⟩
def c49:CF:=⟨[(Xu,none)],(Zg (Za (Zi (k (.str []))) Xi<|Zc) (Zg (Za (Zi Yu) WZ<|Za (Zi XR) Vv<|Za (ZB 67 [YT,Wm]) Vw<|Za (Zi XY) Xi<|Zc) Z8))⟩
def c67:CF:=⟨[(Xu,none)],(Zg (Za (Zi (k (.str []))) Xi<|Zc) (Zg (Zg (Za (Zi Yu) WZ<|Za (Zi XR) Vv<|Za (ZB 92 [YT,Wm]) Vw<|Zc) (ZL XY (Zg (Za (Zi Yu) Vc<|Za (Zi Yu) Uh<|Za (XN WO) XJ<|Za (Zi XR) XF<|Za (XN YN) X7<|Za (VZ YB Xj) X5<|Za (Vm Xt none (some Y6) none) WK<|Za (Zi XQ) Xi<|Zc) Z8) Zc)) (Zg (Za (Zi Yu) WA<|Za (Zi XW) Xi<|Zc) Z8)))⟩
def c92:CF:=⟨[(Xu,none)],(Zg (Za (Zi (k (.bool false))) Xi<|Zc) (Zg (Za (Zi Yu) WZ<|Za (XN YT) Vv<|Za (Zi XR) Vw<|Za (XN XY) Vc<|Za (Yj Wm Xt SA Wx) Uh<|Za (Zi WO) XJ<|Zx YB true (Zi Yu) XF<|Zx YB true (Zi Yu) X7<|Zx YB true (XN Xj) X5<|Zx YB true (Zi XR) WK<|Zx YB true (XN XQ) WA<|Zx YB true (VZ Y6 XW) WB<|Zx YB true (Vm YN (some X6) none none) WX<|Zx YB true (Zi XR) WY<|Zx YB true (Vu Wt Wd Mj false) Vo<|Za (Yg YB XO (k (.bool false))) VA<|Za (Zi Vg) Xi<|Zc) Z8))⟩
def aK:CF:=⟨[(Xu,none)],(Zg (Za (Zi (k (.str []))) Xi<|Zc) (Zg (Za (Zi Yu) WZ<|Za (Zi XR) Vv<|Za (Yc YT Wm) Vw<|Za (Zi XY) Xi<|Zc) Z8))⟩
def aL:CF:=⟨[(Xu,none)],(Zg (Za (Zi (k (.str []))) Xi<|Zc) (Zg (Za (Zi Yu) WZ<|Za (Zi XR) Vv<|Za (Vm Wm (some (k (nI .i64 4))) none none) Vw<|Za (Yc YT XY) Vc<|Za (Zi Xt) Xi<|Zc) Z8))⟩
def aM:CF:=⟨[(Xu,none)],(Zg (Za (Zi (k (.str []))) Xi<|Zc) (Zg (Za (Zi Yu) WZ<|Za (ZB 49 [YT,(k (.str [47]))]) Vv<|Za (Zi Wm) Xi<|Zc) Z8))⟩
def c50:CF:=⟨[(Vt,none)],(Zg (Za (Zi (k (.bool false))) st2<|Zc) (Zg (Za (Zi Yu) Xi<|Za (ZB 68 [Xu]) WZ<|Za (Zi YT) VM<|Zc) (Zg (Za (Zi Yu) Vv<|Za (XN Wm) Vw<|Za (Yj XY (k (nI .i64 4080)) Rm Uo) Vc<|Za (Zi Xt) Uh<|Zx WO true (Zi Xx) XJ<|Zx WO true (Xe YB) XF<|Zx WO true (Yj YN (k (nI .i64 255)) X1 YK) X7<|Za (Yg WO Xj (k (.bool false))) X5<|Za (Zi Y6) WK<|Zx XQ true (Zi Xx) WA<|Zx XQ true (ZB 69 [XW,(k (.func 70 [] []))]) WB<|Zx XQ true (PH X6) WX<|Za (Yg XQ Wt (k (.bool false))) WY<|Za (Zi Wd) st2<|Zc) Z8)))⟩
def c68:CF:=⟨[(Vt,none)],(Zg (Za (Zi (k .nils)) st2<|Zc) (Zg (Zg (Za (Zi Yu) VM<|Za (Vu Xx (k (.str [])) Mj false) Xi<|Zc) (ZL Xu (Zg (Za (Zi (k .nils)) st2<|Zc) Z8) Zc)) (Zg (Za (Zi Yu) WZ<|Za (ZB 93 [YT,(k (.str [47]))]) Vv<|Za (Zi Wm) st2<|Zc) Z8)))⟩
def c93:CF:=⟨[(Xu,none)],(Zg (Za (Zi (k .nils)) Xi<|Zc) (Zg (Za (Zi Yu) WZ<|Za (Zi XR) Vv<|Za (ZB 107 [YT,Wm,(k (nI .i64 0)),(k (.int .i64 (.negSucc 0)))]) Vw<|Za (Zi XY) Xi<|Zc) Z8))⟩
def Hk:D:=(Zg (Zg (Za (Zi YB) Sw<|Za (Zi Xx) SB<|Za (Yj UR Tm X1 YK) SU<|Zc) (ZL T3 Zc (XG 0))) (ZY 1 (Zg (Za (Zi Yu) SV<|Za (Zi XR) SC<|Za (ZB 116 [SM,TX]) S1<|Za (Zi Sj) XF<|Zc) (Zg (Zg (Za (Zi YN) Rh<|Za (Yj T4 (k (nI .i64 0)) X1 YK) Ri<|Zc) (ZL SX (XG 0) Zc)) (Zg (Za (Zi WO) Ro<|Za (Zi YB) SW<|Za (Zi Yu) RA<|Za (Zi YN) Qe<|Za (Zi Vt) Qw<|Za (Yc SN RH) Qx<|Za (Vm To none (some TY) none) QK<|Za (WJ Sq Rb 1) QL<|Za (YC SY QD 1) d0<|Zc) (Zg (Za (Zi Yu) Q1<|Za (Zi YN) Q2<|Za (Zi XR) Q3<|Za (XN QF) QM<|Za (Yc Sr QV) Qy<|Za (Vm QE (some Te) none none) QN<|Za (Zi Qo) st0<|Zc) (Za (Zi YB) Qz<|Za (Yc SZ (k (nI .i64 1))) QO<|Za (Zi QG) XJ<|Zc)))))))
def az:CF:=⟨[(Xt,none)],(Zg (Za (Zi (k .nils)) Vc<|Zc) (Zg (Zg (Za (Zi Xx) X7<|Za (Vu Xj (k (nI .i64 0)) Uk false) X5<|Zc) (ZL Y6 (Zg (Za (Zi (k .nils)) Vc<|Zc) Z8) Zc)) (Zg (Zg (Za (Zi XR) WK<|Za (Vu XQ (k (.str [])) Mj false) WA<|Zc) (ZL XW (Zg (Za (Zi Yu) WB<|Za (Zi Xx) WX<|Za (ZB 123 [X6,Wt]) WY<|Za (Zi Wd) Vc<|Zc) Z8) Zc)) (Zg (Zg (Za (Zi Xx) Vo<|Za (Yj XO (k (nI .i64 0)) X1 YK) VA<|Zc) (ZL Vg (Za (Zi Yu) V1<|Za (Zi XR) V2<|Za (ZB 124 [WU,WV]) V5<|Za (Yc Va (k (nI .i64 1))) V3<|Za (Zi Wz) VM<|Zc) Zc)) (Zg (Za (Zi Xx) Uf<|Za (Zi Yu) Ug<|Za (XN VD) Ul<|Za (Yc VR (k (nI .i64 1))) Uq<|Za (TW false [VX,VE]) UP<|Za (Zi Vq) VM<|Zc) (Zg (Za (Zi Xx) UV<|Za (Gi 9 1 16 [(.str [])] UX UX) Th<|Za (Zi UM) Uh<|Zc) (Zg (Za (Zi Xx) TS<|Za (VZ UY (k (nI .i64 1))) T7<|Za (Zi Tl) VM<|Zc) (Zg (Za (Zi (k (nI .i64 0))) XJ<|Zc) (Zg (ZY 0 (XS Hk)) (Zg (Za (Zi WO) Q4<|Za (Zi YB) Q5<|Za (Zi Yu) QA<|Za (WJ S0 RV 1) Pr<|Za (YC RI Rx 1) d0<|Zc) (Zg (Za (Zi WO) Q6<|Za (Zi YB) QP<|Za (Yc RX (k (nI .i64 1))) Ps<|Za (TQ 1 RW none (some Ph) none) PJ<|Za (Zi PF) Vc<|Zc) Z8)))))))))))⟩
def aI:D:=(ZY 1 (Zg (Za (Zi Yu) VA<|Za (Zi XR) V1<|Za (ZB 116 [Vg,WU]) V2<|Za (Zi WV) Vv<|Zc) (Zg (Zg (Za (Zi Wm) V5<|Za (Vu Va (k (.int .i64 (.negSucc 0))) Uk false) V3<|Zc) (ZL Wz (Zg (Za (Zi YT) Uf<|Za (Zi VX) Xi<|Zc) Z8) Zc)) (Zg (Za (Zi YT) Ug<|Za (Yc VD (k (nI .i64 1))) Ul<|Za (Zi VR) WZ<|Zc) (Za (Zi Yu) Uq<|Za (Zi Wm) UP<|Za (Zi XR) UV<|Za (XN UX) Th<|Za (Yc Vq UM) TS<|Za (Vm VE (some UY) none none) T7<|Za (Zi Tl) st0<|Zc)))))
def aH:CF:=⟨[(Xu,none)],(Zg (Za (Zi (k (nI .i64 0))) Xi<|Zc) (Zg (Zg (Za (Zi XR) Vw<|Za (XN XY) Vc<|Za (Vu Xt (k (nI .i64 0)) Uk false) Uh<|Zc) (ZL WO (Zg (Za (Zi Yu) XJ<|Za (ZB 137 [YB]) XF<|Za (Yc YN (k (nI .i64 1))) X7<|Za (Zi Xj) Xi<|Zc) Z8) Zc)) (Zg (Zg (Za (Zi XR) X5<|Za (XN Y6) WK<|Za (Vu XQ (k (nI .i64 1)) Uk false) WA<|Zc) (ZL XW (Zg (Za (Zi Yu) WB<|Za (Zi XR) WX<|Za (Wp Wt (k (nI .i64 0))) WY<|Za (ZB 139 [X6,Wd]) Vo<|Za (Zi XO) Xi<|Zc) Z8) Zc)) (Zg (Za (Zi (k (nI .i64 0))) WZ<|Zc) (ZY 0 (XS aI))))))⟩
def aG:CF:=⟨[(Xu,none)],(Zg (Za (Zi (k (nI .i64 0))) Xi<|Zc) (Zg (Za (Zi Yu) WZ<|Za (Zi XR) Vv<|Za (ZB 132 [YT,Wm]) Vw<|Za (Zi XY) Xi<|Zc) Z8))⟩
def aJ:D:=(Zg (Zg (Za (Zi Xt) QO<|Za (Zi WO) Q4<|Za (Yj QG S0 X1 YK) Q5<|Zc) (ZL RV Zc (XG 1))) (ZY 2 (Zg (Zg (Za (Zi Yu) QA<|Za (Zi Xt) Pr<|Za (Wp Rx RI) Q6<|Za (Zi Wm) QP<|Za (Vu RW RX Uk true) Ps<|Zc) (ZL Ph (Zg (Za (Zi Yu) PJ<|Za (Zi Xt) Od<|Za (Yc PG (k (nI .i64 1))) Na<|Za (Zi WO) NE<|Za (Vm PF (some P9) (some Ot) none) Me<|Za (Zi Wm) Mf<|Za (ZB 96 [Ma,Ou]) MQ<|Za (Zi MG) XF<|Zc) (Zg (Zg (Za (Zi YN) Lo<|Za (Yj PX (k (nI .i64 0)) X1 YK) MR<|Zc) (ZL QH (Zg (Za (Zi (k (.int .i64 (.negSucc 0)))) Xi<|Zc) Z8) Zc)) (Za (Zi Xt) MT<|Za (Zi YN) MU<|Za (Yc OV (k (nI .i64 1))) Lq<|Za (Yc MH M5) KB<|Za (Zi Kw) Vc<|Zc))) Zc)) (Zg (Zg (Za (Zi Yu) KC<|Za (Zi Xt) KD<|Za (Yc Nk (k (nI .i64 1))) KE<|Za (Wp Mb Kx) Jp<|Za (Zi XY) JW<|Za (Vu IF JT Uk false) JX<|Za (Zi JU) JY<|Zx Oa true (Zi Yu) GX<|Zx Oa true (Zi Xt) GY<|Zx Oa true (Zi Xt) F5<|Zx Oa true (Zi YT) F6<|Zx Oa true (Yc M6 IG) F7<|Zx Oa true (Vm Ky (some HU) (some FC) none) F8<|Zx Oa true (Zi XR) F9<|Zx Oa true (Vu FD KX Mj false) Ea<|Za (Yg Oa Kz (k (.bool false))) Dg<|Zc) (ZL E8 (Zg (Za (Zi Xt) Dh<|Za (Zi E9) Xi<|Zc) Z8) Zc)) (Zg (Za (Zi Xt) GZ<|Za (Yc IH (k (nI .i64 1))) G0<|Za (Zi II) Vc<|Zc) (Zg (Za (Zi YB) Eb<|Za (Yc JV (k (nI .i64 1))) Ec<|Za (Zi Da) XJ<|Zc) (Zg (Za (Zi YT) Ed<|Za (Zu (k (.ptr 4 0))) Lk<|Za (Yj FE M0 Rm Uo) Ll<|Za (Zi M1) Kq<|Zx Nv true (Zi YB) Kr<|Zx Nv true (Zi Xt) Ks<|Zx Nv true (ZB 126 [Ki]) Kt<|Zx Nv true (Yj Nw M2 Tf W0) Ku<|Za (Yg Nv Kj (k (.bool false))) Ln<|Zc) (ZL OS (Zg (Za (Zi Yu) Jo<|Za (Zi Xt) GL<|Za (Vm M3 (some HK) none none) GM<|Za (Zi XR) GN<|Za (ZB 127 [ED,HL]) GO<|Za (Zi HM) X7<|Zc) (Zg (Zg (Za (Zi Xj) GP<|Za (Yj Kk (k (nI .i64 0)) SA Wx) GQ<|Zc) (ZL HN (Zg (Za (Zi Xj) GR<|Za (Zi Xt) GS<|Za (Yc HR HS) GU<|Za (Zi M4) Xi<|Zc) Z8) Zc)) (Zg (Za (Zi (k (.int .i64 (.negSucc 0)))) Xi<|Zc) Z8))) (Zg (Za (Zi YT) E0<|Za (Zu (k (.ptr 4 0))) E1<|Za (Yj EE EF Tf W0) E2<|Za (Zi EG) E3<|Zx OT true (Zi YB) E4<|Zx OT true (Zi Xt) GV<|Zx OT true (Md EH (k (nI .u64 4))) GW<|Zx OT true (Yc (k (nI .i64 4)) HT) z9<|Zx OT true (Yj Cy A6 SA Wx) ya<|Za (Yg OT A7 (k (.bool false))) yb<|Za (Zi A8) uO<|Zx EI true (Zi Xt) uP<|Zx EI true (Zi WO) uQ<|Zx EI true (Yj wZ w7 X1 YK) uR<|Za (Yg EI vd (k (.bool false))) uS<|Zc) (ZL KV (Zg (Za (Zi Yu) uT<|Za (Zi Xt) uU<|Za (Vm ve (some vf) none none) uV<|Za (Zi XR) uW<|Za (ZB 145 [vg,vh]) yc<|Za (Zi A9) X5<|Zc) (Zg (Zg (Za (Zi Y6) yd<|Za (Yj za (k (nI .i64 0)) X1 YK) ye<|Zc) (ZL zb (Zg (Za (Zi (k (.int .i64 (.negSucc 0)))) Xi<|Zc) Z8) Zc)) (Zg (Za (Zi Xt) yf<|Za (Zi Y6) BG<|Za (Yc zd Cz) BH<|Za (Zi Kl) Xi<|Zc) Z8))) Zc))))))))))
def jq:CF:=⟨[(Xu,none)],(Zg (Za (Zi (k (nI .i64 0))) Xi<|Zc) (Zg (Za (Zi XR) WK<|Za (XN XQ) WA<|Za (Zi XW) WZ<|Zc) (Zg (ZY 0 (Zg (Za (Zi YT) WX<|Za (Vu Wt (k (nI .i64 0)) Uk false) WY<|Za (Zi Wd) Vo<|Zx XO false (Zi XR) VA<|Zx XO false (Zi Yu) V1<|Zx XO false (Vu Vg WU Mj false) V2<|Za (Yg XO (k (.bool true)) WV) V5<|Za (Zi Va) WB<|Zc) (ZL X6 (Zg (Za (Zi (k (nI .i64 0))) Xi<|Zc) Z8) (Zg (Za (Zi YT) Uf<|Za (Vu VX (k (nI .i64 1)) Uk false) Ug<|Za (Zi VD) V3<|Zc) (ZL Wz (Zg (Za (Zi Yu) Ul<|Za (Zi XR) Uq<|Za (Wp VE (k (nI .i64 0))) UP<|Za (ZB 96 [VR,Vq]) UV<|Za (Zi UX) Xi<|Zc) Z8) (Zg (Za (Zi YT) TS<|Za (Zi Yu) T7<|Za (XN Tl) Sw<|Za (Yj UY UR SA Wx) SB<|Za (Zi Tm) Th<|Zc) (ZL UM (Zg (Za (Zi (k (.int .i64 (.negSucc 0)))) Xi<|Zc) Z8) (Zg (Za (Zi YT) SV<|Za (Zu (k (.ptr 4 0))) SC<|Za (Yj SM TX Rm Uo) S1<|Za (Zi Sj) Rh<|Zx T4 true (Zi Yu) Ri<|Zx T4 true (XN SX) Ro<|Zx T4 true (Yj Sq (k (nI .i64 64)) Rm Uo) SW<|Za (Yg T4 Rb (k (.bool false))) RA<|Za (Zi To) SU<|Zc) (ZL T3 (Zg (Za (Zi Yu) Qe<|Za (Zi XR) Qw<|Za (ZB 127 [SN,RH]) Qx<|Za (Zi TY) Xi<|Zc) Z8) Zc))))))))) (Zg (Za (Zi XR) QK<|Za (Wp QD (k (nI .i64 0))) QL<|Za (Zi SY) Vv<|Zc) (Zg (Za (Zi XR) Q1<|Za (Wp QE (k (nI .i64 1))) Q2<|Za (Zi Sr) Vw<|Zc) (Zg (Za (Zi (k (nI .i64 0))) Vc<|Zc) (Zg (Za (Zi Yu) Q3<|Za (XN QF) QM<|Za (Zi YT) Qy<|Za (VZ QV Te) QN<|Za (Yc Qo (k (nI .i64 1))) Qz<|Za (Zi SZ) Uh<|Zc) (Zg (Za (Zi (k (nI .i64 0))) XJ<|Zc) (Zg (ZY 1 (XS aJ)) (Zg (Za (Zi (k (.int .i64 (.negSucc 0)))) Xi<|Zc) Z8))))))))))⟩
def c69:CF:=⟨[(Xu,none)],(Zg (Za (Zi (k (.bool false))) Xi<|Zc) (Zg (Za (Zi Yu) WZ<|Za (Zi XR) Vv<|Za (ZB 94 [YT,Wm]) Vw<|Za (Yj XY (k (nI .i64 0)) SA Wx) Vc<|Za (Zi Xt) Xi<|Zc) Z8))⟩
def Fs:D:=(Zg (Za (Yj Xt XY X1 YK) Uh<|Zc) (Zg (ZL WO Zc (XG 0)) (Zg (ZY 1 (Zg (Za (Zi Xt) XJ<|Za (Zi YB) WZ<|Zc) (Zg (Za (Zi XR) XF<|Za (Zi Yu) X7<|Za (Zi YT) X5<|Za (WJ Xj Y6 1) WK<|Za (Zu XQ) WA<|Za (OZ YN Tryz.prog [XW]) WB<|Zc) (ZL X6 (Zg (Za (Zi YT) WX<|Za (Zi Wt) Xi<|Zc) Z8) Zc)))) (Za (Yc Xt (k (nI .i64 1))) WY<|Za (Zi Wd) Vc<|Zc))))
def c94:CF:=⟨[(Xu,none)],(Zg (Za (Zi (k (nI .i64 0))) Xi<|Zc) (Zg (Zg (Za (Zi Yu) Vv<|Za (Xe Wm) Vw<|Za (Zi (k (nI .i64 0))) Vc<|Zc) (ZY 0 (XS Fs))) (Zg (Za (Zi (k (.int .i64 (.negSucc 0)))) Xi<|Zc) Z8)))⟩
def c70:CF:=⟨[(Vt,none)],(Zg (Za (Zi (k (.bool false))) st2<|Zc) (Zg (Za (Zi Yu) VM<|Za (ZB 51 [Xx]) Xi<|Za (PH Xu) WZ<|Za (Zi YT) st2<|Zc) Z8))⟩
def c51:CF:=⟨[(Vt,none)],(Zg (Za (Zi (k (.bool false))) st2<|Zc) (Zg (Za (Zi Yu) VM<|Za (Vu Xx (k (.str [])) Mj true) Xi<|Za (Zi Xu) WZ<|Zx YT true (Zi Yu) Vv<|Zx YT true (XN Wm) Vw<|Zx YT true (Yj XY (k (nI .i64 251)) Rm Uo) Vc<|Za (Yg YT Xt (k (.bool false))) Uh<|Za (Zi WO) XJ<|Zx YB true (Zi Yu) XF<|Zx YB true (Vu YN (k (.str [46])) Mj true) X7<|Za (Yg YB Xj (k (.bool false))) X5<|Za (Zi Y6) WK<|Zx XQ true (Zi Yu) WA<|Zx XQ true (Vu XW (k (.str [46,46])) Mj true) WB<|Za (Yg XQ X6 (k (.bool false))) WX<|Za (Zi Wt) WY<|Zx Wd true (Zi Yu) Vo<|Zx Wd true (ZB 71 [XO,(k (.str [47,0]))]) VA<|Zx Wd true (PH Vg) V1<|Za (Yg Wd WU (k (.bool false))) V2<|Za (Zi WV) V5<|Zx Va true (Zi Yu) V3<|Zx Va true (ZB 66 [Wz,(k (.str [46,119,104,46]))]) Uf<|Zx Va true (PH VX) Ug<|Za (Yg Va VD (k (.bool false))) Ul<|Za (Zi VR) st2<|Zc) Z8))⟩
def c71:CF:=⟨[(Xu,none)],(Zg (Za (Zi (k (.bool false))) Xi<|Zc) (Zg (Za (Zi Yu) WZ<|Za (Zi XR) Vv<|Za (ZB 95 [YT,Wm]) Vw<|Za (Yj XY (k (nI .i64 0)) SA Wx) Vc<|Za (Zi Xt) Xi<|Zc) Z8))⟩
def Ft:D:=(Zg (Zg (Za (Zi Xt) T7<|Za (Zi Yu) Sw<|Za (XN UR) SB<|Za (Yj Tl Tm X1 YK) SU<|Zc) (ZL T3 Zc (XG 0))) (Zg (ZY 1 (Zg (Za (Zi Yu) S1<|Za (Zi Xt) Rh<|Za (Wp Sj T4) Ri<|Za (ZB 111 [Wm,SX]) Ro<|Zc) (ZL Sq (Zg (Za (Zi Xt) SW<|Za (Zi Rb) Xi<|Zc) Z8) Zc))) (Za (Zi Xt) SV<|Za (Yc SM (k (nI .i64 1))) SC<|Za (Zi TX) Vc<|Zc)))
def Iw:D:=(Zg (Za (p6 SN) Qw<|Za (Wf RH 0) Qx<|Zc) (Zg (ZL TY Zc (XG 2)) (ZY 3 (Zg (Za (Wf RH 1) QK<|Za (Wf RH 2) QL<|Za (Zi QD) Uh<|Za (Zi SY) XJ<|Zc) (Zg (Za (Zi XR) Q1<|Za (Zi YB) Q2<|Za (ZB 108 [QE,Sr]) Q3<|Za (Yj QF (k (nI .i64 0)) SA Wx) QM<|Zc) (ZL QV (Zg (Za (Zi WO) Qy<|Za (Zi Te) Xi<|Zc) Z8) Zc))))))
def c95:CF:=⟨[(Xu,none)],(Zg (Za (Zi (k (nI .i64 0))) Xi<|Zc) (Zg (Zg (Za (Zi XR) XF<|Za (Vu YN (k (.str [])) Mj false) X7<|Zc) (ZL Xj (Zg (Za (Zi (k (.int .i64 (.negSucc 0)))) Xi<|Zc) Z8) Zc)) (Zg (Zg (Za (Zi XR) X5<|Za (XN Y6) WK<|Za (Vu XQ (k (nI .i64 1)) Uk false) WA<|Zc) (ZL XW (Zg (Za (Zi XR) WB<|Za (Wp X6 (k (nI .i64 0))) WX<|Za (SQ Wt .i32) WY<|Za (Zi Wd) WZ<|Zc) (Zg (Zg (Za (Zi YT) Vo<|Za (Yj XO (k (nI .i32 128)) SA Wx) VA<|Zc) (ZL Vg (Za (Zi (k (nI .i32 65533))) WZ<|Zc) Zc)) (Zg (Za (Zi Yu) V1<|Za (Zi YT) V2<|Za (ZB 108 [WU,WV]) V5<|Za (Zi Va) Xi<|Zc) Z8))) Zc)) (Zg (Zg (Za (Zi Yu) V3<|Za (XN Wz) Uf<|Za (ZB 109 [VX]) Ug<|Zc) (ZL VD (Zg (Za (Zi XR) Uq<|Za (ZB 110 [VE]) UP<|Za (Zi Vq) Ul<|Za (Wf VR 0) UV<|Za (Wf VR 1) Th<|Za (WF 166 KF) Vv<|Za (YC Wm UX 256) d0<|Za (Zi UM) Vw<|Zc) (Zg (Za (Zi XY) TS<|Zc) (ZL UY (Zg (Zg (Za (Zi (k (nI .i64 0))) Vc<|Zc) (ZY 0 (XS Ft))) (Zg (Za (Zi (k (.int .i64 (.negSucc 0)))) Xi<|Zc) Z8)) Zc))) Zc)) (Zg (Zg (Za (Zi Yu) RA<|Za (Dx To) Qe<|Zc) (ZY 2 (XS Iw))) (Zg (Za (Zi (k (.int .i64 (.negSucc 0)))) Xi<|Zc) Z8))))))⟩
def aD:CF:=⟨[(Vt,none)],(Zg (Za (Zi (k (.bool false))) st2<|Zc) (Zg (Za (Zi Yu) VM<|Za (Yj Xx (k (nI .i64 8)) Tf W0) Xi<|Za (Zi Xu) st2<|Zc) Z8))⟩
def Hm:D:=(Zg (Zg (Za (Zi Xu) Vv<|Za (Zi Yu) Vw<|Za (XN XY) Vc<|Za (Yj Wm Xt X1 YK) Uh<|Zc) (ZL WO Zc (XG 0))) (Zg (ZY 1 (Zg (Za (Zi Yu) X7<|Za (Zi Xu) X5<|Za (Wp Xj Y6) WK<|Za (Zi XQ) WZ<|Zc) (Zg (Zg (Za (Zi YT) WA<|Za (Yj XW (k (nI .u8 128)) SA Wx) WB<|Zc) (ZL X6 (Zg (Za (Wk Vt 256) WX<|Za (YC Vt Wt 256) d0<|Za (Zi (k (.bool false))) VM<|Zc) Z8) Zc)) (Za (Zi YT) WY<|Za (XI Vt Wd 256 1) Vo<|Za (YC XO (k (.bool true)) 1) d0<|Zc)))) (Za (Zi Xu) XJ<|Za (Yc YB (k (nI .i64 1))) XF<|Za (Zi YN) Xi<|Zc)))
def aE:CF:=⟨[(Vt,some (256,true)),(Xx,none)],(Zg (Za (WF 166 KF) st2<|Za (Zi (k (.bool false))) VM<|Zc) (Zg (Zg (Za (Zi (k (nI .i64 0))) Xi<|Zc) (ZY 0 (XS Hm))) (Zg (Za (Wk Vt 256) VA<|Za (YC Vt Vg 256) d0<|Za (Zi (k (.bool true))) VM<|Zc) Z8)))⟩
def aF:CF:=⟨[(Xu,none)],(Zg (Za (Zi (k (.bool false))) Xi<|Zc) (Zg (Za (Zi Yu) WZ<|Za (Zi XR) Vv<|Za (TD YT) Vw<|Za (XI XY Wm 256 1) Vc<|Za (Zu Xt) Uh<|Za (Zi WO) Xi<|Zc) Z8))⟩
def Hl:D:=(Zg (Za (p6 vk) dX<|Za (Wf vl 0) dY<|Zc) (Zg (ZL iF Zc (XG 9)) (ZY 10 (Zg (Za (Wf vl 1) dZ<|Za (Wf vl 2) ce<|Za (Zi iG) WZ<|Za (Zi iH) Vv<|Zc) (Zg (Za (Zi Wm) ci<|Za (Vu iI (k (nI .i32 65533)) Uk false) cj<|Zc) (ZL iJ (Zg (Za (Zi YT) cq<|Za (Zi iK) Xi<|Zc) Z8) Zc))))))
def aA:D:=(Zg (Zg (Za (Zi Xj) QK<|Za (Zi XY) QL<|Za (XN SY) Q1<|Za (Yj QD QE X1 YK) Q2<|Zc) (ZL Sr Zc (XG 3))) (Zg (ZY 4 (Zg (WE [⟨Zi Yu,none,[(st0,Yu)],Qy,.free,0,0⟩,⟨Zi WO,none,[(Uh,WO)],QN,.free,1,0⟩,⟨Zi Xj,none,[(X7,Xj)],Qz,.free,2,0⟩,⟨VZ Qo SZ,none,[(QN,Qo),(Qz,SZ)],QO,.free,3,6⟩,⟨Wp Te QG,none,[(Qy,Te),(QO,QG)],Q4,.free,4,15⟩,⟨Zi XY,none,[(Vw,XY)],Q5,.free,5,0⟩,⟨Zi Xt,none,[(Vc,Xt)],QA,.free,6,0⟩,⟨Zi Xj,none,[(X7,Xj)],Pr,.free,7,0⟩,⟨VZ Rx RI,none,[(QA,Rx),(Pr,RI)],Q6,.free,8,192⟩,⟨Wp RV RW,none,[(Q5,RV),(Q6,RW)],QP,.free,9,480⟩,⟨Vu S0 RX Uk true,none,[(Q4,S0),(QP,RX)],Ps,.free,10,1023⟩]) (ZL Ph PS Zc))) (Za (Zi Xj) Q3<|Za (Yc QF (k (nI .i64 1))) QM<|Za (Zi QV) X7<|Zc)))
def yQ:D:=(Zg (Zg (Za (Zi WO) V5<|Za (Zi Yu) V3<|Za (XN Wz) Uf<|Za (Yj Va VX X1 YK) Ug<|Zc) (ZL VD Zc (XG 1))) (ZY 2 (Zg (Zg (WE [⟨Zi Yu,none,[(st0,Yu)],Ul,.free,0,0⟩,⟨Zi WO,none,[(Uh,WO)],Uq,.free,1,0⟩,⟨Wp VR VE,none,[(Ul,VR),(Uq,VE)],UP,.free,2,3⟩,⟨Zi XY,none,[(Vw,XY)],UV,.free,3,0⟩,⟨Zi Xt,none,[(Vc,Xt)],Th,.free,4,0⟩,⟨Wp UX UM,none,[(UV,UX),(Th,UM)],TS,.free,5,24⟩,⟨Vu Vq UY Uk true,none,[(UP,Vq),(TS,UY)],T7,.free,6,63⟩]) (ZL Tl (Zg (WE [⟨Zi Yu,none,[(st0,Yu)],Sw,.free,0,0⟩,⟨Zi WO,none,[(Uh,WO)],SB,.free,1,0⟩,⟨Yc Tm (k (nI .i64 1)),none,[(SB,Tm)],SU,.free,2,2⟩,⟨Vm UR (some T3) none none,none,[(Sw,UR),(SU,T3)],SV,.free,3,7⟩,⟨Zi XY,none,[(Vw,XY)],SC,.free,4,0⟩,⟨Zi Xt,none,[(Vc,Xt)],S1,.free,5,0⟩,⟨Wp TX Sj,none,[(SC,TX),(S1,Sj)],Rh,.free,6,48⟩,⟨ZB 72 [SM,T4],none,[(SV,SM),(Rh,T4)],Ri,.eff,7,127⟩,⟨Zi SX,none,[(Ri,SX)],XF,.eff,8,255⟩]) (Zg (Zg (Za (Zi YN) Ro<|Za (Yj Sq (k (nI .i64 0)) X1 YK) SW<|Zc) (ZL Rb (Zg (Za (Zi (k (.int .i64 (.negSucc 0)))) Xi<|Zc) Z8) Zc)) (Za (Zi WO) RA<|Za (Zi YN) Qe<|Za (Yc SN (k (nI .i64 1))) Qw<|Za (Yc To RH) Qx<|Za (Zi TY) Uh<|Zc))) Zc)) (Zg (Zg (Za (Zi (k (nI .i64 1))) X7<|Zc) (ZY 3 (XS aA))) (Zg (Zg (Za (Zi WO) PJ<|Za (Zi Xt) Od<|Za (VZ PF PG) Na<|Za (Zi P9) Xi<|Zc) Z8) (Zg Zc (Zg (Za (Zi YB) NE<|Za (Yc Ot (k (nI .i64 1))) Me<|Za (Zi Ma) XJ<|Zc) (Zg (Za (Zi WO) Mf<|Za (Yc Ou (k (nI .i64 1))) MQ<|Za (Zi MG) Uh<|Zc) (Zg (Za (Zi (k (.bool true))) Lo<|Zx PX true (Zi YB) MR<|Zx PX true (Zi WO) MT<|Zx PX true (ZB 126 [MH]) MU<|Zx PX true (Yj QH OV Tf W0) Lq<|Za (Yg PX M5 (k (.bool false))) KB<|Za (Zi Kw) KC<|Zx Mb true (Zi WO) KD<|Zx Mb true (Zi Yu) KE<|Zx Mb true (XN Kx) Jp<|Zx Mb true (Yj Nk IF X1 YK) JW<|Za (Yg Mb JT (k (.bool false))) JX<|Za (Zi JU) JY<|Zx Oa false (Zi (k (.bool false))) GX<|Zx Ky true (Zi YB) GY<|Zx Ky true (Zi WO) F5<|Zx Ky true (Md M6 (k (nI .u64 4))) F6<|Zx Ky true (Yc (k (nI .i64 4)) IG) F7<|Zx Ky true (Yj HU FC SA Wx) F8<|Zx Oa false (Yg Ky FD (k (.bool false))) F9<|Zx Oa false (Zi KX) Ea<|Zx Kz true (Zi WO) Dg<|Zx Kz true (Zi Yu) Dh<|Zx Kz true (XN E9) GZ<|Zx Kz true (Yj E8 IH X1 YK) G0<|Zx Oa false (Yg Kz II (k (.bool false))) Eb<|Za (Yg Oa (k (.bool true)) JV) Ec<|Zc) (ZL Da PS Zc))))))))))
def aB:D:=(Zg (Zg (Za (Zi X6) yf<|Za (Zi XY) BG<|Za (XN Cz) BH<|Za (Yj zd Kl X1 YK) yg<|Zc) (ZL ze Zc (XG 7))) (Zg (ZY 8 (Zg (WE [⟨Zi Yu,none,[(st0,Yu)],BI,.free,0,0⟩,⟨Zi WO,none,[(Uh,WO)],BJ,.free,1,0⟩,⟨Zi X6,none,[(WB,X6)],BK,.free,2,0⟩,⟨VZ CB CC,none,[(BJ,CB),(BK,CC)],BL,.free,3,6⟩,⟨Wp CA KW,none,[(BI,CA),(BL,KW)],BM,.free,4,15⟩,⟨Zi XY,none,[(Vw,XY)],BN,.free,5,0⟩,⟨Zi Xt,none,[(Vc,Xt)],BO,.free,6,0⟩,⟨Zi X6,none,[(WB,X6)],BP,.free,7,0⟩,⟨VZ OU CH,none,[(BO,OU),(BP,CH)],BQ,.free,8,192⟩,⟨Wp CG CI,none,[(BN,CG),(BQ,CI)],BR,.free,9,480⟩,⟨Vu CD CJ Uk true,none,[(BM,CD),(BR,CJ)],yj,.free,10,1023⟩]) (ZL zh (XG 6) Zc))) (Za (Zi X6) yh<|Za (Yc zf (k (nI .i64 1))) yi<|Za (Zi zg) WB<|Zc)))
def aC:D:=(Zg (Zg (Za (Zi WO) E3<|Za (Zi Yu) E4<|Za (XN Cy) GV<|Za (Yj OT EH X1 YK) GW<|Zc) (ZL HT Zc (XG 5))) (Zg (ZY 6 (Zg (Za (Zi Yu) yb<|Za (Zi WO) uO<|Za (Wp A8 EI) uP<|Za (Zi XQ) uQ<|Za (Vu wZ w7 Uk false) uR<|Za (Zi vd) uS<|Zx KV true (Zi Yu) uT<|Zx KV true (Zi WO) uU<|Zx KV true (VZ vf (k (nI .i64 1))) uV<|Zx KV true (Wp ve vg) uW<|Zx KV true (Zi XW) yc<|Zx KV true (Vu vh A9 Uk false) yd<|Za (Yg KV za (k (.bool false))) ye<|Zc) (ZL zb (Zg (Zg (Za (Zi (k (nI .i64 2))) WB<|Zc) (ZY 7 (XS aB))) (Zg (Za (Zi WO) yk<|Za (Zi Xt) yl<|Za (VZ zi zj) ym<|Za (Zi zk) Xi<|Zc) Z8)) Zc))) (Za (Zi WO) z9<|Za (Yc A6 (k (nI .i64 1))) ya<|Za (Zi A7) Uh<|Zc)))
def wC:CF:=⟨[(Xu,none)],(Zg (Za (Zi (k (nI .i64 0))) Xi<|Zc) (ZY 0 (Zg (Za (Zi XR) uX<|Za (Yj (k (nI .i32 0)) vi Rm Uo) uY<|Za (Zi vj) uZ<|Zx CK true (Zi XR) oz<|Zx CK true (Yj pe (k (nI .i32 128)) X1 YK) dM<|Za (Yg CK iq (k (.bool false))) dN<|Za (Zi ir) yn<|Zc) (ZL zl (Zg (Za (Zi Yu) dO<|Za (Zi XR) dP<|Za (SQ iv .u8) dQ<|Za (ZB 72 [it,iz]) dR<|Za (Zi iA) Xi<|Zc) Z8) (Zg (Za (Zi XR) dT<|Za (Vu iC (k (nI .i32 65533)) Uk false) dU<|Za (Zi iD) dS<|Zc) (ZL iB (Zg (Zg (Za (Zi Yu) dV<|Za (Dx iE) dW<|Zc) (ZY 9 (XS Hl))) (Zg (Za (Zi (k (.int .i64 (.negSucc 0)))) Xi<|Zc) Z8)) (Zg (Za (Zi XR) ct<|Za (ZB 125 [iM]) cu<|Za (PH iN) cA<|Za (Zi iO) cr<|Zc) (ZL iL (Zg (Za (Zi (k (.int .i64 (.negSucc 0)))) Xi<|Zc) Z8) (Zg (Za (Zi XR) WX<|Za (p7 Wt) WY<|Za (Zi Wd) Vw<|Zc) (Zg (Za (Zi XY) Vo<|Za (XN XO) VA<|Za (VZ Vg (k (nI .i64 1))) V1<|Za (Zi WU) Vc<|Zc) (Zg (Za (Zi Xt) V2<|Za (Zi WV) Uh<|Zc) (Zg (Za (Zi (k (nI .i64 0))) XJ<|Zc) (Zg (ZY 1 (XS yQ)) (Zg (Zg (Za (Zi (k (.int .i64 (.negSucc 0)))) Xi<|Zc) Z8) (Zg Zc (Zg (ZL (k (.bool true)) (Zg (Za (Zi Yu) Ed<|Za (Zi WO) Lk<|Za (Zi Xt) Ll<|Za (VZ M0 M1) Kq<|Za (Vm FE (some Nv) none none) Kr<|Za (Zi XR) Ks<|Za (p7 Ki) Kt<|Za (ZB 127 [Nw,M2]) Ku<|Za (Zi Kj) X5<|Zc) (Zg (Za (Zi Y6) Ln<|Za (Yj OS (k (nI .i64 0)) SA Wx) Jo<|Zc) (ZL M3 (Zg (Za (Zi WO) GL<|Za (Zi Y6) GM<|Za (Yc HK ED) GN<|Za (Zi Xt) GO<|Za (VZ HL HM) GP<|Za (Zi Kk) Xi<|Zc) Z8) Zc))) (Zg (Za (Zi XY) GQ<|Za (Zi Xt) GR<|Za (Wp HN HR) GS<|Za (Zi HS) WK<|Zc) (Zg (Za (Zi XY) GU<|Za (Zi Xt) E0<|Za (VZ EE (k (nI .i64 1))) E1<|Za (Wp M4 EF) E2<|Za (Zi EG) WA<|Zc) (Zg Zc (ZY 5 (XS aC)))))) (Zg (Za (Zi (k (.int .i64 (.negSucc 0)))) Xi<|Zc) Z8)))))))))))))))))⟩
def oY:CF:=⟨[(Vt,none)],(Zg (Za (Zi (k (.bool false))) st2<|Zc) (Zg (ZY 0 (Zg (Za (Zi Yu) Xi<|Za (Yj (k (nI .i32 0)) Xu Rm Uo) WZ<|Za (Zi YT) Vv<|Zx Wm true (Zi Yu) Vw<|Zx Wm true (Yj XY (k (nI .i32 55296)) X1 YK) Vc<|Za (Yg Wm Xt (k (.bool false))) Uh<|Za (Zi WO) VM<|Zc) (ZL Xx (Zg (Za (Zi (k (.bool true))) st2<|Zc) Z8) (Zg (Za (Zi Yu) XF<|Za (Yj (k (nI .i32 57343)) YN X1 YK) X7<|Za (Zi Xj) X5<|Zx Y6 true (Zi Yu) WK<|Zx Y6 true (Yj XQ (k (nI .i32 1114111)) Rm Uo) WA<|Za (Yg Y6 XW (k (.bool false))) WB<|Za (Zi X6) XJ<|Zc) (ZL YB (Zg (Za (Zi (k (.bool true))) st2<|Zc) Z8) Zc))))) (Zg (Za (Zi (k (.bool false))) st2<|Zc) Z8)))⟩
def c72:CF:=⟨[(Xu,none)],(Zg (Za (Zi (k (nI .i64 0))) Xi<|Zc) (Zg (Za (Zi Yu) WZ<|Za (Zi XR) Vv<|Za (ZB 96 [YT,Wm]) Vw<|Za (Zi XY) Xi<|Zc) Z8))⟩
def c96:CF:=⟨[(Xu,none)],(Zg (Za (Zi (k (nI .i64 0))) Xi<|Zc) (Zg (Za (Zi Yu) WZ<|Za (Zi XR) Vv<|Za (ZB 112 [YT,Wm]) Vw<|Za (Zi XY) Xi<|Zc) Z8))⟩
def c32:CF:=⟨[(Vt,none)],(Zg (Za (Mc Yu 28) st1<|Za (Zi (k (.bool false))) st2<|Zc) (Zg (Za (Z7 XR 0) Vw<|Za (Zu XY) Vc<|Za (ZB 31 [Xt]) Uh<|Za (Zi WO) Vv<|Za (Wf Wm 0) XJ<|Za (Wf Wm 1) XF<|Za (Zi YB) VM<|Za (Zi YN) Xi<|Zc) (Zg (Za (Z7 XR 1) X7<|Za (Wk Xj 8) X5<|Za (WF 26 [(nI .i64 0),(nI .u32 0),(nI .u32 0),(nI .u32 0),(nI .i64 0),.nils,.nils,(.str [])]) WZ<|Za (YC YT Y6 8) d0<|Zc) (Zg (Zg (Za (Zi Xx) WK<|Za (Vu XQ (k (nI .i64 0)) Uk false) WA<|Za (Zi XW) WB<|Zx X6 false (Zu (k (.ptr 1 0))) WX<|Zx X6 false (Z7 YT 0) WY<|Zx X6 false (Zu Wd) Vo<|Zx X6 false (JH Uk (nI .u8 0) false Wt XO) VA<|Zx X6 false (Vu Vg (k (nI .u8 0)) Uk false) V1<|Za (Yg X6 (k (.bool true)) WU) V2<|Za (Zi WV) V5<|Zx Va false (Z7 YT 1) V3<|Zx Va false (Zu Wz) Uf<|Zx Va false (Yj VX (k (nI .u32 4095)) Tf W0) Ug<|Za (Yg Va (k (.bool true)) VD) Ul<|Za (Zi VR) Uq<|Zx VE false (Z7 YT 5) UP<|Zx VE false (Zu Vq) UV<|Zx VE false (ZB 52 [UX]) Th<|Zx VE false (PH UM) TS<|Za (Yg VE (k (.bool true)) UY) T7<|Za (Zi Tl) Sw<|Zx UR false (Z7 YT 7) SB<|Zx UR false (Zu Tm) SU<|Zx UR false (Z7 YT 0) SV<|Zx UR false (Zu SM) SC<|Zx UR false (Vu TX (k (nI .i64 3)) Uk false) S1<|Zx UR false (ZB 53 [T3,Sj]) Rh<|Zx UR false (PH T4) Ri<|Za (Yg UR (k (.bool true)) SX) Ro<|Zc) (ZL Sq (Zg (Za (Zi (k (.bool false))) st2<|Zc) Z8) Zc)) (Zg (Za (Z7 YT 6) SW<|Za (Zu Rb) RA<|Za (Xe To) Qe<|Za (Yj SN (k (nI .i64 16777216)) Rm Uo) Qw<|Za (Zi RH) Qx<|Zx TY true (Z7 YT 0) QK<|Zx TY true (Zu QD) QL<|Zx TY true (Vu SY (k (nI .i64 2)) Uk false) Q1<|Zx TY true (Zi QE) Q2<|Zx Sr false (Z7 YT 6) Q3<|Zx Sr false (Zu QF) QM<|Zx Sr false (Xe QV) Qy<|Zx Sr false (Vu Te (k (nI .i64 0)) Uk false) QN<|Zx TY true (Yg Sr (k (.bool true)) Qo) Qz<|Za (Yg TY SZ (k (.bool false))) QO<|Za (Zi QG) st2<|Zc) Z8)))))⟩
def MD:D:=(Zg (Za (Yj XY Wm X1 YK) Vc<|Zc) (Zg (ZL Xt Zc (XG 0)) (Zg (ZY 1 (Zg (Za (Zi XY) Uh<|Za (WJ YT XY 2) XJ<|Za (Wk YB 2) XF<|Za (WF 52 [(.str []),(.str [])]) Xi<|Za (Zi WO) VM<|Za (YC Xu YN 2) d0<|Zc) (Zg (WE [⟨Z7 Xu 0,none,[(Xi,Xu)],X7,.free,0,0⟩,⟨Zu Xj,none,[(X7,Xj)],X5,.read,1,1⟩,⟨Vu Y6 (k (.str [])) Mj false,none,[(X5,Y6)],WK,.free,2,3⟩,⟨Zi XQ,none,[(WK,XQ)],WA,.free,3,7⟩,⟨Z7 Xu 0,(some (XW,false)),[(Xi,Xu)],WB,.free,4,15⟩,⟨Zu X6,(some (XW,false)),[(WB,X6)],WX,.read,5,31⟩,⟨XN Wt,(some (XW,false)),[(WX,Wt)],WY,.free,6,63⟩,⟨Yj Wd (k (nI .i64 242)) Tf W0,(some (XW,false)),[(WY,Wd)],Vo,.free,7,127⟩,⟨Yg XW (k (.bool true)) XO,none,[(WA,XW),(Vo,XO)],VA,.free,8,255⟩,⟨Zi Vg,none,[(VA,Vg)],V1,.free,9,511⟩,⟨Z7 Xu 0,(some (WU,false)),[(Xi,Xu)],V2,.free,10,1023⟩,⟨Zu WV,(some (WU,false)),[(V2,WV)],V5,.read,11,2047⟩,⟨ZB 71 [Va,(k (.str [0,61,10]))],(some (WU,false)),[(V5,Va)],V3,.eff,12,4095⟩,⟨Yg WU (k (.bool true)) Wz,none,[(V1,WU),(V3,Wz)],Uf,.free,13,8191⟩,⟨Zi VX,none,[(Uf,VX)],Ug,.free,14,16383⟩,⟨Zi Xx,(some (VD,false)),[(VM,Xx)],Ul,.free,15,32767⟩,⟨Yj VR (k (nI .i64 0)) Tf W0,(some (VD,false)),[(Ul,VR)],Uq,.free,16,65535⟩,⟨Zi VE,(some (VD,false)),[(Uq,VE)],UP,.free,17,131071⟩,⟨Zi Yu,(some (Vq,true)),[(st0,Yu)],UV,.free,18,262143⟩,⟨Zi Xx,(some (Vq,true)),[(VM,Xx)],Th,.free,19,262143⟩,⟨VZ UM (k (nI .i64 1)),(some (Vq,true)),[(Th,UM)],TS,.free,20,786431⟩,⟨WJ UX UY 2,(some (Vq,true)),[(UV,UX),(TS,UY)],T7,.free,21,2097151⟩,⟨Z7 Tl 0,(some (Vq,true)),[(T7,Tl)],Sw,.free,22,4194303⟩,⟨Zu UR,(some (Vq,true)),[(Sw,UR)],SB,.read,23,8388607⟩,⟨Z7 Xu 0,(some (Vq,true)),[(Xi,Xu)],SU,.free,24,262143⟩,⟨Zu T3,(some (Vq,true)),[(SU,T3)],SV,.read,25,17039359⟩,⟨Yj Tm SM SA Wx,(some (Vq,true)),[(SB,Tm),(SV,SM)],SC,.free,26,67108863⟩,⟨Yg Vq TX (k (.bool false)),(some (VD,false)),[(UP,Vq),(SC,TX)],S1,.free,27,134217727⟩,⟨Yg VD (k (.bool true)) Sj,none,[(Ug,VD),(S1,Sj)],Rh,.free,28,268435455⟩]) (ZL T4 (Zg (Za (Zi (k (.bool false))) st2<|Zc) Z8) Zc)))) (Za (Yc XY (k (nI .i64 1))) Ri<|Za (Zi SX) Vw<|Zc))))
def c52:CF:=⟨[(Vt,none)],(Zg (Za (Zi (k (.bool false))) st2<|Zc) (Zg (Zg (Za (Zi Yu) WZ<|Za (Xe YT) Vv<|Za (Zi (k (nI .i64 0))) Vw<|Zc) (ZY 0 (XS MD))) (Zg (Za (Zi Yu) Ro<|Za (Xe Sq) SW<|Za (Yj Rb (k (nI .i64 16)) Rm Uo) RA<|Za (Zi To) st2<|Zc) Z8)))⟩
def c53:CF:=⟨[(Xu,none)],(Zg (Za (Zi (k (.bool false))) Xi<|Zc) (Zg (Zg (Za (Zi XR) WZ<|Za (PH YT) Vv<|Zc) (ZL Wm (Zg (Za (Zi Yu) Vw<|Za (Vu XY (k (.str [])) Mj false) Vc<|Za (Zi Xt) Xi<|Zc) Z8) Zc)) (Zg (Za (Zi Yu) Uh<|Za (Vu WO (k (.str [])) Mj true) XJ<|Za (Zi YB) XF<|Zx YN true (Zi Yu) X7<|Zx YN true (XN Xj) X5<|Zx YN true (Yj Y6 (k (nI .i64 4096)) Rm Uo) WK<|Za (Yg YN XQ (k (.bool false))) WA<|Za (Zi XW) WB<|Zx X6 true (Zi Yu) WX<|Zx X6 true (ZB 72 [Wt,(k (nI .u8 0))]) WY<|Zx X6 true (Yj Wd (k (nI .i64 0)) X1 YK) Vo<|Za (Yg X6 XO (k (.bool false))) VA<|Za (Zi Vg) Xi<|Zc) Z8)))⟩
def Ip:D:=(Zg (Za (Yj SY QD X1 YK) Q1<|Zc) (Zg (ZL QE Zc (XG 2)) (Zg (ZY 3 (Zg (Za (WJ TY SY 35) Q2<|Za (Wk Sr 35) Q3<|Za (WF 57 z35) Vc<|Za (YC Xt QF 35) d0<|Zc) (Zg (Za (Zi Xu) QM<|Za (Z7 Xt 2) Qy<|Za (Zu Te) QN<|Za (OZ QV Tryz.prog [Qo]) Qz<|Za (PH SZ) QO<|Zc) (ZL QG (Zg (Za (Zi (k (.bool false))) st2<|Zc) Z8) Zc)))) (Za (Yc SY (k (nI .i64 1))) Q4<|Za (Zi S0) QL<|Zc))))
def NT:D:=(Zg (Za (Yj Y6 Xj X1 YK) WK<|Zc) (Zg (ZL XQ Zc (XG 0)) (Zg (ZY 1 (Zg (Za (Zi Y6) WA<|Za (WJ YN Y6 12) WB<|Za (Wk X6 12) WX<|Za (WF 31 [(.str []),(nI .i64 0),(nI .u32 0),(nI .u32 0),(nI .u32 0),(nI .i64 0),.nils,.nils,(.str []),(nI .i64 0),(nI .i64 0),.nils]) Vv<|Za (Zi XW) WZ<|Za (YC Wm Wt 12) d0<|Zc) (Zg (Zg (WE [⟨Wk Wm 12,none,[(Vv,Wm)],WY,.read,0,0⟩,⟨ZB 22 [Wd],none,[(WY,Wd)],Vo,.eff,1,1⟩,⟨PH XO,none,[(Vo,XO)],VA,.free,2,3⟩,⟨Zi Vg,none,[(VA,Vg)],V1,.free,3,7⟩,⟨Zi YT,(some (WU,false)),[(WZ,YT)],V2,.free,4,15⟩,⟨Yj WV (k (nI .i64 0)) Tf W0,(some (WU,false)),[(V2,WV)],V5,.free,5,31⟩,⟨Zi Va,(some (WU,false)),[(V5,Va)],V3,.free,6,63⟩,⟨Z7 XR 0,(some (Wz,true)),[(st1,XR)],Uf,.free,7,127⟩,⟨Zu VX,(some (Wz,true)),[(Uf,VX)],Ug,.read,8,255⟩,⟨Zi YT,(some (Wz,true)),[(WZ,YT)],Ul,.free,9,127⟩,⟨VZ VR (k (nI .i64 1)),(some (Wz,true)),[(Ul,VR)],Uq,.free,10,639⟩,⟨WJ VD VE 12,(some (Wz,true)),[(Ug,VD),(Uq,VE)],UP,.free,11,2047⟩,⟨Z7 Vq 0,(some (Wz,true)),[(UP,Vq)],UV,.free,12,4095⟩,⟨Z7 UX 0,(some (Wz,true)),[(UV,UX)],Th,.free,13,8191⟩,⟨Zu UM,(some (Wz,true)),[(Th,UM)],TS,.read,14,16383⟩,⟨Z7 Wm 0,(some (Wz,true)),[(Vv,Wm)],T7,.free,15,127⟩,⟨Z7 Tl 0,(some (Wz,true)),[(T7,Tl)],Sw,.free,16,32895⟩,⟨Zu UR,(some (Wz,true)),[(Sw,UR)],SB,.read,17,98431⟩,⟨Yj UY Tm SA Wx,(some (Wz,true)),[(TS,UY),(SB,Tm)],SU,.free,18,262143⟩,⟨Yg Wz T3 (k (.bool false)),(some (WU,false)),[(V3,Wz),(SU,T3)],SV,.free,19,524287⟩,⟨Yg WU (k (.bool true)) SM,none,[(V1,WU),(SV,SM)],SC,.free,20,1048575⟩,⟨Zi TX,none,[(SC,TX)],S1,.free,21,2097151⟩,⟨Zi Xu,(some (Sj,false)),[(Xi,Xu)],Rh,.free,22,4194303⟩,⟨Z7 Wm 10,(some (Sj,false)),[(Vv,Wm)],Ri,.free,23,4194303⟩,⟨Zu SX,(some (Sj,false)),[(Ri,SX)],Ro,.read,24,12582911⟩,⟨OZ T4 Tryz.prog [Sq],(some (Sj,false)),[(Rh,T4),(Ro,Sq)],SW,.eff,25,33554431⟩,⟨PH Rb,(some (Sj,false)),[(SW,Rb)],RA,.free,26,67108863⟩,⟨Yg Sj (k (.bool true)) To,none,[(S1,Sj),(RA,To)],Qe,.free,27,134217727⟩]) (ZL SN (Zg (Za (Zi (k (.bool false))) st2<|Zc) Z8) Zc)) (Zg (Za (Z7 Wm 11) Qw<|Za (Zu RH) Qx<|Za (Xe TY) QK<|Za (Zi (k (nI .i64 0))) QL<|Zc) (ZY 2 (XS Ip)))))) (Za (Yc Y6 (k (nI .i64 1))) Q5<|Za (Zi RV) X5<|Zc))))
def c11:CF:=⟨[(Vt,none)],(Zg (Za (Mc Yu 47) st1<|Za (Zi (k (.bool false))) st2<|Zc) (Zg (Za (WF 2 [(nI .i64 0)]) VM<|Za (YC Xx (k (.int .i64 (.negSucc 0))) 1) d0<|Zc) (Zg (Za (Ib 21 [] [Xx]) Uh<|Za (Zi WO) Xi<|Zc) (Zg (Zg (Za (Z7 XR 0) XJ<|Za (Zu YB) XF<|Za (Xe YN) X7<|Za (Zi (k (nI .i64 0))) X5<|Zc) (ZY 0 (XS NT))) (Zg (Za (Z7 XR 0) QA<|Za (Zu Rx) Pr<|Za (Xe RI) Q6<|Za (Yj RW (k (nI .i64 4096)) Rm Uo) QP<|Za (Zi RX) st2<|Zc) Z8)))))⟩
def c21:CF:=⟨[(Xx,none)],(Zg (Za (Zi (k (.bool false))) VM<|Zc) (Zg (Za (Zi Yu) WZ<|Za (Zu XR) Vv<|Za (Yj YT Wm Tf W0) Vw<|Za (Zi XY) Vc<|Zx Xt true (Zi Yu) Uh<|Zx Xt true (Yj WO (k (nI .i64 1099511627776)) Rm Uo) XJ<|Za (Yg Xt YB (k (.bool false))) XF<|Za (Zi YN) Xi<|Zc) (Zg (Za (Zi Yu) X7<|Za (YC XR Xj 1) d0<|Zc) (Zg (Za (Zi Xu) X5<|Za (Zi Y6) VM<|Zc) Z8))))⟩
def LD:D:=(Zg (Za (Yj Rx RV X1 YK) Pr<|Zc) (Zg (ZL RI Zc (XG 0)) (Zg (ZY 1 (Zg (Za (WJ S0 Rx 35) Q6<|Za (Wk RW 35) QP<|Za (WF 57 z35) Vw<|Za (YC XY RX 35) d0<|Zc) (Zg (Zg (Za (Z7 XY 0) Ps<|Za (Zu Ph) PJ<|Za (Zi YT) Od<|Za (Vu PF PG Uk true) Na<|Za (Zi P9) NE<|Zx Ot false (Z7 XY 1) Me<|Zx Ot false (Zu Ma) Mf<|Zx Ot false (Yj Ou (k (nI .i64 1)) X1 YK) MQ<|Za (Yg Ot (k (.bool true)) MG) Lo<|Za (Zi PX) MR<|Zx QH false (Z7 XY 1) MT<|Zx QH false (Zu MH) MU<|Zx QH false (Yj OV (k (nI .i64 65536)) Tf W0) Lq<|Za (Yg QH (k (.bool true)) M5) KB<|Zc) (ZL Kw (Zg (Za (Zi (k (.bool false))) st2<|Zc) Z8) Zc)) (Za (Zi YT) KC<|Za (Z7 XY 1) KD<|Za (Zu Nk) KE<|Za (Yc Mb Kx) Jp<|Za (Zi IF) WZ<|Zc)))) (Za (Yc Rx (k (nI .i64 1))) JW<|Za (Zi JT) QA<|Zc))))
def kO:CF:=⟨[(Vt,none)],(Zg (Za (Mc Yu 31) st1<|Za (Zi (k (.bool false))) st2<|Zc) (Zg (Za (Z7 XR 0) Uh<|Za (Z7 WO 0) XJ<|Za (Zu YB) XF<|Za (ZB 31 [YN]) X7<|Za (Zi Xj) Vc<|Za (Wf Xt 0) X5<|Za (Wf Xt 1) WK<|Za (Zi Y6) VM<|Za (Zi XQ) Xi<|Zc) (Zg (Zg (Za (Z7 XR 0) WA<|Za (Wk XW 9) WB<|Za (ZB 32 [X6]) WX<|Za (PH Wt) WY<|Za (Zi Wd) Vo<|Zx XO false (Z7 XR 0) VA<|Zx XO false (Z7 Vg 1) V1<|Zx XO false (Z7 WU 6) V2<|Zx XO false (Zu WV) V5<|Zx XO false (Xe Va) V3<|Zx XO false (Yj Wz (k (nI .i64 0)) Tf W0) Uf<|Za (Yg XO (k (.bool true)) VX) Ug<|Za (Zi VD) Ul<|Zx VR false (Zi Xx) Uq<|Zx VR false (Yj VE (k (nI .i64 1)) X1 YK) UP<|Za (Yg VR (k (.bool true)) Vq) UV<|Za (Zi UX) Th<|Zx UM false (Zi Xx) TS<|Zx UM false (Yj UY (k (nI .i64 3)) Tf W0) T7<|Za (Yg UM (k (.bool true)) Tl) Sw<|Za (Zi UR) SB<|Zx Tm false (Z7 XR 9) SU<|Zx Tm false (Zu T3) SV<|Zx Tm false (Yj SM (k (nI .i64 0)) X1 YK) SC<|Za (Yg Tm (k (.bool true)) TX) S1<|Za (Zi Sj) Rh<|Zx T4 false (Z7 XR 9) Ri<|Zx T4 false (Zu SX) Ro<|Zx T4 false (Yj Sq (k (nI .i64 16777216)) Tf W0) SW<|Za (Yg T4 (k (.bool true)) Rb) RA<|Za (Zi To) Qe<|Zx SN false (Z7 XR 9) Qw<|Zx SN false (Zu RH) Qx<|Zx SN false (Yj TY (k (nI .i64 0)) Tf W0) QK<|Zx SN false (Zi QD) QL<|Zx SY true (Z7 XR 0) Q1<|Zx SY true (Z7 QE 1) Q2<|Zx SY true (Z7 Sr 0) Q3<|Zx SY true (Zu QF) QM<|Zx SY true (Vu QV (k (nI .i64 2)) Uk true) Qy<|Zx SN false (Yg SY Te (k (.bool false))) QN<|Za (Yg SN (k (.bool true)) Qo) Qz<|Zc) (ZL SZ (Zg (Za (Zi (k (.bool false))) st2<|Zc) Z8) Zc)) (Zg (Za (Zi (k (nI .i64 0))) WZ<|Zc) (Zg (Zg (Za (Z7 XR 11) QO<|Za (Zu QG) Q4<|Za (Xe S0) Q5<|Za (Zi (k (nI .i64 0))) QA<|Zc) (ZY 0 (XS LD))) (Zg (Za (Zi YT) JX<|Za (Z7 XR 9) JY<|Za (Zu Oa) GX<|Za (Vu JU Ky Uk false) GY<|Za (Zi HU) st2<|Zc) Z8))))))⟩
def c3:CF:=⟨[(Wm,none)],(Zg (Za (Mc Yu 31) VM<|Za (Zi (k (.bool false))) Vv<|Zc) (Zg (Za (Zi Vt) X7<|Za (Zi Vt) X5<|Za (Xe Y6) WK<|Za (TW false [XQ,(k (nI .i64 1200))]) WA<|Za (TQ 1 Xj none (some XW) none) WB<|Za (Zi X6) st2<|Zc) (Zg (Za (Z7 Xx 0) WX<|Za (Wk Wt 9) WY<|Za (We 28 9 1 [(.str []),(nI .i64 0),(nI .u32 0),(nI .u32 0),(nI .u32 0),(nI .i64 0),.nils,.nils,(.str [])] [⟨0,9,Wd⟩]) Vo<|Za (ZB 4 [XO]) VA<|Za (WJ Vg (k (nI .i64 0)) 9) V1<|Za (Wk WU 9) V2<|Za (Z7 Xx 0) V5<|Za (YC Va WV 9) d0<|Zc) (Zg (Za (Z7 Xx 11) V3<|Za (Zu Wz) Uf<|Za (Z7 Xx 11) Ug<|Za (Zu VD) Ul<|Za (Xe VR) Uq<|Za (TW false [VE,(k (nI .i64 20))]) UP<|Za (TQ 35 VX none (some Vq) none) UV<|Za (Z7 Xx 11) Th<|Za (YC UM UX 1) d0<|Zc) (Zg (Za (Zi Vt) TS<|Za (ZB 5 [UY]) T7<|Za (Zi Tl) Vw<|Zc) (Zg (Za (Wk Xx 12) SB<|Za (Zi XR) SU<|Za (Zi XY) SV<|Za (ZB 6 [Tm,T3,SM]) SC<|Za (Zi TX) Sw<|Za (Wf UR 0) S1<|Za (Wf UR 1) Rh<|Za (Zi Sj) Vc<|Za (Zi T4) Uh<|Zc) (Zg (Za (Wk Xx 12) Ro<|Za (We 31 12 1 [(.str []),(nI .i64 0),(nI .u32 0),(nI .u32 0),(nI .u32 0),(nI .i64 0),.nils,.nils,(.str []),(nI .i64 0),(nI .i64 0),.nils] [⟨0,12,Sq⟩]) SW<|Za (UF [.nils] [⟨0,1,Rb⟩]) RA<|Za (ZB 8 [To]) Qe<|Za (WJ SN (k (nI .i64 0)) 12) Qw<|Za (Wk RH 12) Qx<|Za (Zi XR) QK<|Za (Zi Vt) QL<|Za (ZB 7 [TY,QD,SY]) Q1<|Za (Zi QE) Ri<|Za (Wf SX 0) Q2<|Za (Wf SX 1) Q3<|Za (Zi Sr) XJ<|Za (Zi QF) XF<|Zc) (Zg (Za (Zi Xt) QM<|Za (Zi YB) Qy<|Za (ZB 9 [QV,Te]) QN<|Za (Zi Qo) Qz<|Zx SZ true (Zi WO) QO<|Zx SZ true (Zi YN) Q4<|Zx SZ true (Vu QG S0 Uk false) Q5<|Za (Yg SZ RV (k (.bool false))) QA<|Za (Zi Rx) Pr<|Zx RI true (Zi XY) Q6<|Zx RI true (Zi Vt) QP<|Zx RI true (ZB 9 [RW,RX]) Ps<|Za (Yg RI Ph (k (.bool false))) PJ<|Za (Zi PF) Od<|Zx PG true (ZB 10 []) Na<|Za (Yg PG P9 (k (.bool false))) NE<|Za (Zi Ot) Vv<|Zc) Z8))))))))⟩
def Az:D:=(Zg (Za (Yj SZ Qo X1 YK) QO<|Zc) (Zg (ZL QG Zc (XG 2)) (Zg (ZY 3 (Zg (Za (Zi SZ) Q4<|Za (WJ Te SZ 2) Q5<|Za (Wk RV 2) QA<|Za (WF 52 [(.str []),(.str [])]) Vc<|Za (Zi S0) Vw<|Za (YC Xt Rx 2) d0<|Zc) (Zg (Za (Zi XY) Pr<|Za (Yj RI (k (nI .i64 18)) X1 YK) Q6<|Zc) (ZL RW (WE [⟨Z7 YT 1,none,[(WZ,YT)],QP,.free,0,0⟩,⟨Z7 RX 5,none,[(QP,RX)],Ps,.free,1,1⟩,⟨Zu Ph,none,[(Ps,Ph)],PJ,.read,2,3⟩,⟨Z7 Xt 0,none,[(Vc,Xt)],Od,.free,3,0⟩,⟨Zu PG,none,[(Od,PG)],Na,.read,4,8⟩,⟨Z7 Xt 0,none,[(Vc,Xt)],NE,.free,5,0⟩,⟨Zu Ot,none,[(NE,Ot)],Me,.read,6,32⟩,⟨XN Ma,none,[(Me,Ma)],Mf,.free,7,96⟩,⟨TW false [Ou,(k (nI .i64 40))],none,[(Mf,Ou)],MQ,.free,8,224⟩,⟨Vm P9 none (some MG) none,none,[(Na,P9),(MQ,MG)],Lo,.free,9,504⟩,⟨Z7 Xt 1,none,[(Vc,Xt)],MR,.free,10,0⟩,⟨Zu QH,none,[(MR,QH)],MT,.read,11,1024⟩,⟨Z7 Xt 1,none,[(Vc,Xt)],MU,.free,12,0⟩,⟨Zu OV,none,[(MU,OV)],Lq,.read,13,4096⟩,⟨XN M5,none,[(Lq,M5)],KB,.free,14,12288⟩,⟨TW false [Kw,(k (nI .i64 40))],none,[(KB,Kw)],KC,.free,15,28672⟩,⟨Vm MH none (some Mb) none,none,[(MT,MH),(KC,Mb)],KD,.free,16,64512⟩,⟨UF [(.str []),(.str [])] [⟨0,1,PX⟩,⟨1,1,Nk⟩],none,[(Lo,PX),(KD,Nk)],KE,.free,17,131064⟩,⟨We 52 2 1 [(.str []),(.str [])] [⟨0,2,Kx⟩],none,[(KE,Kx)],Jp,.free,18,262136⟩,⟨W7 PF IF 52 2 32,none,[(PJ,PF),(Jp,IF)],JW,.eff,19,524287⟩,⟨Z7 YT 1,none,[(WZ,YT)],JX,.free,20,1048575⟩,⟨Z7 JU 5,none,[(JX,JU)],JY,.free,21,2097151⟩,⟨YC Oa JT 1,none,[(JY,Oa),(JW,JT)],d0,.eff,22,4194303⟩]) Zc)))) (Za (Yc SZ (k (nI .i64 1))) GX<|Za (Zi Ky) Qz<|Zc))))
def wD:D:=(Zg (Za (Yj YN YB X1 YK) X7<|Zc) (Zg (ZL Xj Zc (XG 0)) (Zg (ZY 1 (Zg (Za (Zi YN) X5<|Za (WJ WO YN 9) WK<|Za (Wk XQ 9) WA<|Za (WF 28 [(.str []),(nI .i64 0),(nI .u32 0),(nI .u32 0),(nI .u32 0),(nI .i64 0),.nils,.nils,(.str [])]) WZ<|Za (Zi Y6) Xi<|Za (YC YT XW 9) d0<|Zc) (Zg (Zg (Za (Zi Xu) WB<|Za (Vu X6 (k (nI .i64 8)) Uk false) WX<|Zc) (ZL Wt (XG 0) Zc)) (Zg (Za (Z7 YT 1) WY<|Za (Z7 Wd 5) Vo<|Za (Zu XO) VA<|Za (Zi Vg) Vv<|Zc) (Zg (WE [⟨Z7 YT 0,none,[(WZ,YT)],V1,.free,0,0⟩,⟨Zu WU,none,[(V1,WU)],V2,.read,1,1⟩,⟨Z7 YT 0,none,[(WZ,YT)],V5,.free,2,0⟩,⟨Zu Va,none,[(V5,Va)],V3,.read,3,4⟩,⟨XN Wz,none,[(V3,Wz)],Uf,.free,4,12⟩,⟨TW false [VX,(k (nI .i64 300))],none,[(Uf,VX)],Ug,.free,5,28⟩,⟨Vm WV none (some VD) none,none,[(V2,WV),(Ug,VD)],Ul,.free,6,63⟩,⟨Z7 YT 1,none,[(WZ,YT)],Uq,.free,7,0⟩,⟨Z7 VE 7,none,[(Uq,VE)],UP,.free,8,128⟩,⟨Zu Vq,none,[(UP,Vq)],UV,.read,9,384⟩,⟨Z7 YT 1,none,[(WZ,YT)],Th,.free,10,0⟩,⟨Z7 UM 7,none,[(Th,UM)],TS,.free,11,1024⟩,⟨Zu UY,none,[(TS,UY)],T7,.read,12,3072⟩,⟨XN Tl,none,[(T7,Tl)],Sw,.free,13,7168⟩,⟨TW false [UR,(k (nI .i64 300))],none,[(Sw,UR)],SB,.free,14,15360⟩,⟨Vm UX none (some Tm) none,none,[(UV,UX),(SB,Tm)],SU,.free,15,32640⟩,⟨Z7 YT 1,none,[(WZ,YT)],SV,.free,16,0⟩,⟨Z7 SM 6,none,[(SV,SM)],SC,.free,17,65536⟩,⟨Zu TX,none,[(SC,TX)],S1,.read,18,196608⟩,⟨Z7 YT 1,none,[(WZ,YT)],Rh,.free,19,0⟩,⟨Z7 T4 6,none,[(Rh,T4)],Ri,.free,20,524288⟩,⟨Zu SX,none,[(Ri,SX)],Ro,.read,21,1572864⟩,⟨Xe Sq,none,[(Ro,Sq)],SW,.free,22,3670016⟩,⟨TW false [Rb,(k (nI .i64 300))],none,[(SW,Rb)],RA,.free,23,7864320⟩,⟨TQ 1 Sj none (some To) none,none,[(S1,Sj),(RA,To)],Qe,.read,24,16711680⟩,⟨Z7 YT 0,none,[(WZ,YT)],Qx,.free,26,4136959⟩,⟨ZB 5 [SN],none,[(Qe,SN)],Qw,.eff,25,33488896⟩,⟨YC TY VR 1,none,[(Qx,TY),(Ul,VR)],d0,.eff,27,134160383⟩,⟨Z7 YT 1,none,[(WZ,YT)],QK,.free,28,268435455⟩,⟨Z7 QD 7,none,[(QK,QD)],QL,.free,29,536870911⟩,⟨YC SY T3 1,none,[(QL,SY),(SU,T3)],d0,.eff,30,1073741823⟩,⟨Z7 YT 1,none,[(WZ,YT)],Q1,.free,31,2147483647⟩,⟨Z7 QE 6,none,[(Q1,QE)],Q2,.free,32,4294967295⟩,⟨YC Sr RH 1,none,[(Q2,Sr),(Qw,RH)],d0,.eff,33,8589934591⟩]) (Zg (Za (Z7 YT 1) Q3<|Za (Z7 QF 5) QM<|Za (YC QV (k .nils) 1) d0<|Zc) (Zg (Zg (Za (Zi Wm) Qy<|Za (Xe Te) QN<|Za (Zi (k (nI .i64 0))) Qz<|Zc) (ZY 2 (XS Az))) (Za (Zi Xx) GY<|Za (Wk YT 9) F5<|Za (We 28 9 1 [(.str []),(nI .i64 0),(nI .u32 0),(nI .u32 0),(nI .u32 0),(nI .i64 0),.nils,.nils,(.str [])] [⟨0,9,M6⟩]) F6<|Za (W7 HU IG 28 9 112) F7<|Za (Zi FC) VM<|Zc)))))))) (Za (Yc YN (k (nI .i64 1))) F8<|Za (Zi FD) XF<|Zc))))
def c4:CF:=⟨[(Vt,none)],(Zg (Za (Zi (k .nils)) st2<|Zc) (Zg (Za (Zi (k .nils)) VM<|Zc) (Zg (Zg (Za (Zi Yu) Uh<|Za (Xe WO) XJ<|Za (Zi (k (nI .i64 0))) XF<|Zc) (ZY 0 (XS wD))) (Zg (Za (Zi Xx) F9<|Za (Zi KX) st2<|Zc) Z8))))⟩
def c5:CF:=⟨[(Vt,none)],(Zg (Za (Zi (k .nils)) st2<|Zc) (Zg (Zg (Za (Zi Yu) VM<|Za (Vu Xx (k .nils) jV false) Xi<|Zc) (ZL Xu (Zg (Za (Zi (k .nils)) st2<|Zc) Z8) Zc)) (Zg (Za (We 5 1 0 (List.replicate 0 [(nI .u8 0)]).flatten []) WZ<|Za (Zi Yu) Vv<|Za (W7 YT Wm 5 1 1) Vw<|Za (Zi XY) st2<|Zc) Z8)))⟩
def c9:CF:=⟨[(Xu,none)],(Zg (Za (Zi (k (.bool false))) Xi<|Zc) (Zg (Za (Zi Yu) WZ<|Za (vZ YT) Vv<|Za (Zi XR) Vw<|Za (vZ XY) Vc<|Za (Vu Wm Xt Mj false) Uh<|Za (Zi WO) Xi<|Zc) Z8))⟩
def wE:D:=(Zg (Za (Yj VD VX X1 YK) Ul<|Zc) (Zg (ZL VR Zc (XG 2)) (Zg (ZY 3 (Zg (Za (WJ Wz VD 35) Uq<|Za (Wk VE 35) UP<|Za (WF 57 z35) Vc<|Za (YC Xt Vq 35) d0<|Zc) (Za (Z7 Wm 11) UV<|Za (Zu UX) Th<|Za (Wk Xt 35) TS<|Za (We 63 35 1 z35 [⟨0,35,UY⟩]) T7<|Za (W7 UM Tl 63 35 56) Sw<|Za (Z7 Wm 11) SB<|Za (YC Tm UR 1) d0<|Zc))) (Za (Yc VD (k (nI .i64 1))) SU<|Za (Zi T3) Ug<|Zc))))
def wF:D:=(Zg (Za (Yj Xj YN X1 YK) X5<|Zc) (Zg (ZL Y6 Zc (XG 0)) (Zg (ZY 1 (Zg (Za (WJ YB Xj 12) WK<|Za (Wk XQ 12) WA<|Za (WF 31 [(.str []),(nI .i64 0),(nI .u32 0),(nI .u32 0),(nI .u32 0),(nI .i64 0),.nils,.nils,(.str []),(nI .i64 0),(nI .i64 0),.nils]) WZ<|Za (YC YT XW 12) d0<|Zc) (Zg (Za (Z7 YT 0) WB<|Za (Wk X6 9) WX<|Za (Z7 YT 9) WY<|Za (Zu Wd) Vo<|Za (Z7 YT 10) VA<|Za (Zu Vg) V1<|Za (UF [(.str []),(nI .i64 0),(nI .u32 0),(nI .u32 0),(nI .u32 0),(nI .i64 0),.nils,.nils,(.str []),(nI .i64 0),(nI .i64 0),.nils] [⟨0,9,Wt⟩,⟨9,1,XO⟩,⟨10,1,WU⟩]) V2<|Za (WF 42 [(.str []),(nI .i64 0),(nI .u32 0),(nI .u32 0),(nI .u32 0),(nI .i64 0),.nils,.nils,(.str []),(nI .i64 0),(nI .i64 0),.nils]) Vv<|Za (YC Wm WV 12) d0<|Zc) (Zg (Zg (Za (Z7 YT 11) V5<|Za (Zu Va) V3<|Za (Xe Wz) Uf<|Za (Zi (k (nI .i64 0))) Ug<|Zc) (ZY 2 (XS wE))) (Za (Zi Xx) SV<|Za (Wk Wm 12) SC<|Za (We 42 12 1 [(.str []),(nI .i64 0),(nI .u32 0),(nI .u32 0),(nI .u32 0),(nI .i64 0),.nils,.nils,(.str []),(nI .i64 0),(nI .i64 0),.nils] [⟨0,12,TX⟩]) S1<|Za (W7 SM Sj 42 12 152) Rh<|Za (Zi T4) VM<|Zc))))) (Za (Yc Xj (k (nI .i64 1))) Ri<|Za (Zi SX) X7<|Zc))))
def c8:CF:=⟨[(Vt,none)],(Zg (Za (Mc Yu 47) st1<|Za (Zi (k .nils)) st2<|Zc) (Zg (Za (Zi (k .nils)) VM<|Zc) (Zg (Zg (Za (Z7 XR 0) Uh<|Za (Zu WO) XJ<|Za (Xe YB) XF<|Za (Zi (k (nI .i64 0))) X7<|Zc) (ZY 0 (XS wF))) (Zg (Za (Zi Xx) Ro<|Za (Zi Sq) st2<|Zc) Z8))))⟩
def c6:CF:=⟨[(Wm,none),(XY,none)],(Zg (Za (Mc Yu 31) VM<|Za (Zi (k .nils)) Vv<|Za (Zi (k (nI .i64 0))) Vw<|Zc) (Zg (Zg (Za (Zi XR) XJ<|Za (Yj YB (k (nI .i64 0)) X1 YK) XF<|Za (Zi YN) X7<|Zx Xj false (Zi XR) X5<|Zx Xj false (Z7 Xx 11) WK<|Zx Xj false (Zu XQ) WA<|Zx Xj false (Xe XW) WB<|Zx Xj false (Yj Y6 X6 SA Wx) WX<|Za (Yg Xj (k (.bool true)) Wt) WY<|Za (Zi Wd) Vo<|Zx XO false (Wk Xx 12) VA<|Zx XO false (We 31 12 1 [(.str []),(nI .i64 0),(nI .u32 0),(nI .u32 0),(nI .u32 0),(nI .i64 0),.nils,.nils,(.str []),(nI .i64 0),(nI .i64 0),.nils] [⟨0,12,Vg⟩]) V1<|Zx XO false (UF [.nils] [⟨0,1,WU⟩]) V2<|Zx XO false (ZB 11 [WV]) V5<|Zx XO false (PH Va) V3<|Za (Yg XO (k (.bool true)) Wz) Uf<|Zc) (ZL VX (Zg (Za (Zi (k .nils)) Vv<|Za (Zi (k (nI .i64 1))) Vw<|Zc) Z8) Zc)) (Zg (Za (Z7 Xx 11) Ug<|Za (Zu VD) Ul<|Za (Zi XR) Uq<|Za (WJ VR VE 35) UP<|Za (Wk Vq 35) UV<|Za (WF 57 z35) Vc<|Za (YC Xt UX 35) d0<|Za (Zi (k (nI .i64 0))) Uh<|Zc) (Zg (Zg (Za (Zi XR) Th<|Za (Z7 Xx 11) TS<|Za (Zu UY) T7<|Za (Xe Tl) Sw<|Za (VZ UR (k (nI .i64 1))) SB<|Za (Vu UM Tm Uk false) SU<|Zc) (ZL T3 (Za (Z7 Xx 9) SV<|Za (Zu SM) SC<|Za (ZB 12 [TX]) S1<|Za (Zi Sj) Uh<|Zc) Zc)) (Zg (Zg (Za (Zi Vt) Rh<|Za (Xe T4) Ri<|Za (Z7 Xt 1) Ro<|Za (Zu Sq) SW<|Za (Zi WO) RA<|Za (Yc Rb To) Qe<|Za (Vu SX SN Uk true) Qw<|Za (Zi RH) Qx<|Zx TY false (Zi Vt) QK<|Zx TY false (Z7 Xt 1) QL<|Zx TY false (Zu SY) Q1<|Zx TY false (TQ 1 QD (some QE) none none) Q2<|Zx TY false (ZB 13 [Sr,(k (.func 14 [] []))]) Q3<|Za (Yg TY (k (.bool true)) QF) QM<|Zc) (ZL QV (Zg (Za (Zi (k .nils)) Vv<|Za (Zi (k (nI .i64 5))) Vw<|Zc) Z8) Zc)) (Zg (Zg (WE [⟨Zi Vt,none,[(st2,Vt)],Qy,.free,0,0⟩,⟨Z7 Xt 1,none,[(Vc,Xt)],QN,.free,1,0⟩,⟨Zu Qo,none,[(QN,Qo)],Qz,.read,2,2⟩,⟨TQ 1 Te none (some SZ) none,none,[(Qy,Te),(Qz,SZ)],QO,.read,3,7⟩,⟨Z7 Xt 3,none,[(Vc,Xt)],Q5,.free,5,0⟩,⟨Wk RV 32,none,[(Q5,RV)],QA,.read,6,32⟩,⟨ZB 15 [QG],none,[(QO,QG)],Q4,.eff,4,15⟩,⟨Vu S0 Rx (Ag Tryz.prog 10 55) true,none,[(Q4,S0),(QA,Rx)],Pr,.free,7,127⟩]) (ZL RI (Zg (Za (Zi (k .nils)) Vv<|Za (Zi (k (nI .i64 21))) Vw<|Zc) Z8) Zc)) (Zg (Za (Zi Vt) Q6<|Za (Z7 Xt 1) QP<|Za (Zu RX) Ps<|Za (TQ 1 RW none (some Ph) none) PJ<|Za (ZB 5 [PF]) Od<|Za (Zi PG) Vv<|Za (Zi (k (nI .i64 0))) Vw<|Zc) Z8)))))))⟩
def c14:CF:=⟨[(Vt,none)],(Zg (Za (Zi (k (.bool false))) st2<|Zc) (Zg (Za (Zi Yu) VM<|Za (Vu Xx (k (nI .u8 0)) Uk true) Xi<|Za (Zi Xu) st2<|Zc) Z8))⟩
def c13:CF:=⟨[(Xu,none)],(Zg (Za (Zi (k (.bool false))) Xi<|Zc) (Zg (Za (Zi Yu) WZ<|Za (Zi XR) Vv<|Za (ZB 23 [YT,Wm]) Vw<|Za (Yj XY (k (nI .i64 0)) SA Wx) Vc<|Za (Zi Xt) Xi<|Zc) Z8))⟩
def Fh:D:=(Zg (Za (Yj Xt XY X1 YK) Uh<|Zc) (Zg (ZL WO Zc (XG 0)) (Zg (ZY 1 (Zg (Za (Zi Xt) XJ<|Za (Zi YB) WZ<|Zc) (Zg (Za (Zi XR) XF<|Za (Zi Yu) X7<|Za (Zi YT) X5<|Za (WJ Xj Y6 1) WK<|Za (Zu XQ) WA<|Za (OZ YN Tryz.prog [XW]) WB<|Zc) (ZL X6 (Zg (Za (Zi YT) WX<|Za (Zi Wt) Xi<|Zc) Z8) Zc)))) (Za (Yc Xt (k (nI .i64 1))) WY<|Za (Zi Wd) Vc<|Zc))))
def c23:CF:=⟨[(Xu,none)],(Zg (Za (Zi (k (nI .i64 0))) Xi<|Zc) (Zg (Zg (Za (Zi Yu) Vv<|Za (Xe Wm) Vw<|Za (Zi (k (nI .i64 0))) Vc<|Zc) (ZY 0 (XS Fh))) (Zg (Za (Zi (k (.int .i64 (.negSucc 0)))) Xi<|Zc) Z8)))⟩
def c12:CF:=⟨[(Vt,none)],(Zg (Za (Zi (k (nI .i64 0))) st2<|Zc) (Zg (Zg (Za (Zi Yu) VM<|Za (Yj Xx (k (nI .i64 0)) X1 YK) Xi<|Zc) (ZL Xu (Zg (Za (Zi (k (nI .i64 0))) st2<|Zc) Z8) Zc)) (Zg (Za (Zi Yu) WZ<|Za (xG YT) Vv<|Za (WP Wm (k (nI .i64 511)) TZ) Vw<|Za (Zi XY) st2<|Zc) Z8)))⟩
def Cb:D:=(Zg (Zg (Za (Zi YB) QL<|Za (Zi Vt) Q1<|Za (Xe QE) Q2<|Za (Yj SY Sr X1 YK) Q3<|Zc) (ZL QF Zc (XG 0))) (Zg (ZY 1 (Zg (Za (Zi Vt) QN<|Za (Zi YB) Qz<|Za (WJ Qo SZ 1) QO<|Za (Zu QG) Q4<|Za (Vu S0 (k (nI .u8 0)) Uk true) Q5<|Zc) (ZL RV (Zg (Za (Zi (k .nils)) Vv<|Za (Zi (k (nI .i64 5))) Vw<|Zc) Z8) Zc))) (Za (Zi YB) QM<|Za (Yc QV (k (nI .i64 1))) Qy<|Za (Zi Te) XJ<|Zc)))
def c7:CF:=⟨[(Wm,none),(XY,none)],(Zg (Za (Mc Yu 42) VM<|Za (Zi (k .nils)) Vv<|Za (Zi (k (nI .i64 0))) Vw<|Zc) (Zg (Zg (Za (Zi XR) XF<|Za (Yj YN (k (nI .i64 0)) X1 YK) X7<|Za (Zi Xj) X5<|Zx Y6 false (Zi XR) WK<|Zx Y6 false (Z7 Xx 11) WA<|Zx Y6 false (Zu XW) WB<|Zx Y6 false (Xe X6) WX<|Zx Y6 false (Yj XQ Wt SA Wx) WY<|Za (Yg Y6 (k (.bool true)) Wd) Vo<|Za (Zi XO) VA<|Zx Vg false (Wk Xx 12) V1<|Zx Vg false (We 42 12 1 [(.str []),(nI .i64 0),(nI .u32 0),(nI .u32 0),(nI .u32 0),(nI .i64 0),.nils,.nils,(.str []),(nI .i64 0),(nI .i64 0),.nils] [⟨0,12,WU⟩]) V2<|Zx Vg false (ZB 16 [WV]) V5<|Zx Vg false (PH Va) V3<|Za (Yg Vg (k (.bool true)) Wz) Uf<|Zc) (ZL VX (Zg (Za (Zi (k .nils)) Vv<|Za (Zi (k (nI .i64 1))) Vw<|Zc) Z8) Zc)) (Zg (Za (Z7 Xx 11) Ug<|Za (Zu VD) Ul<|Za (Zi XR) Uq<|Za (WJ VR VE 35) UP<|Za (Wk Vq 35) UV<|Za (WF 63 z35) Vc<|Za (YC Xt UX 35) d0<|Zc) (Zg (Za (Zi (k (nI .i64 0))) Uh<|Zc) (Zg (Zg (Za (Zi XR) Th<|Za (Yc UM (k (nI .i64 1))) TS<|Za (Z7 Xx 11) T7<|Za (Zu Tl) Sw<|Za (Xe UR) SB<|Za (Vu UY Tm Uk false) SU<|Zc) (ZL T3 (Za (Z7 Xx 9) SV<|Za (Zu SM) SC<|Za (ZB 17 [TX]) S1<|Za (Zi Sj) Uh<|Zc) Zc)) (Zg (Zg (Za (Zi Vt) Rh<|Za (Xe T4) Ri<|Za (Z7 Xt 1) Ro<|Za (Zu Sq) SW<|Za (Zi WO) RA<|Za (Yc Rb To) Qe<|Za (Vu SX SN Uk true) Qw<|Zc) (ZL RH (Zg (Za (Zi (k .nils)) Vv<|Za (Zi (k (nI .i64 5))) Vw<|Zc) Z8) Zc)) (Zg (Zg (Za (Z7 Xt 1) Qx<|Za (Zu TY) QK<|Za (Zi QD) XJ<|Zc) (ZY 0 (XS Cb))) (Zg (Zg (WE [⟨Zi Vt,none,[(st2,Vt)],QA,.free,0,0⟩,⟨Z7 Xt 1,none,[(Vc,Xt)],Pr,.free,1,0⟩,⟨Zu RI,none,[(Pr,RI)],Q6,.read,2,2⟩,⟨TQ 1 Rx none (some RW) none,none,[(QA,Rx),(Q6,RW)],QP,.read,3,7⟩,⟨Z7 Xt 3,none,[(Vc,Xt)],PJ,.free,5,0⟩,⟨Wk PF 32,none,[(PJ,PF)],Od,.read,6,32⟩,⟨ZB 18 [RX],none,[(QP,RX)],Ps,.eff,4,15⟩,⟨Vu Ph PG (Ag Tryz.prog 10 54) true,none,[(Ps,Ph),(Od,PG)],Na,.free,7,127⟩]) (ZL P9 (Zg (Za (Zi (k .nils)) Vv<|Za (Zi (k (nI .i64 21))) Vw<|Zc) Z8) Zc)) (Zg (Za (Zi Vt) NE<|Za (Z7 Xt 1) Me<|Za (Zu Ma) Mf<|Za (TQ 1 Ot none (some Ou) none) MQ<|Za (Zi MG) Vv<|Za (Zi (k (nI .i64 0))) Vw<|Zc) Z8)))))))))⟩
def D4:D:=(Zg (Zg (Za (Zi Yu) Xi<|Za (Zi Xx) WZ<|Za (Yc Xu YT) Vv<|Za (vX Wm (k (nI .i64 512))) Vw<|Za (Vu XY (k (nI .i64 0)) Uk true) Vc<|Zc) (ZL Xt Zc (XG 0))) (ZY 1 (Za (Zi Xx) Uh<|Za (Yc WO (k (nI .i64 1))) XJ<|Za (Zi YB) VM<|Zc)))
def c17:CF:=⟨[(Vt,none)],(Zg (Za (Zi (k (nI .i64 0))) st2<|Zc) (Zg (Za (Zi (k (nI .i64 0))) VM<|Zc) (Zg (ZY 0 (XS D4)) (Zg (Za (Zi Xx) XF<|Za (Zi YN) st2<|Zc) Z8))))⟩
def LB:D:=(Zg (Zg (Za (Zi WO) Ea<|Za (Z7 YT 11) Dg<|Za (Zu E8) Dh<|Za (Xe E9) GZ<|Za (Yj Kz IH X1 YK) G0<|Zc) (ZL II Zc (XG 2))) (Zg (ZY 3 (Zg (Za (Z7 YT 11) Ed<|Za (Zu FE) Lk<|Za (Zi WO) Ll<|Za (WJ M0 M1 35) Kq<|Za (Wk Nv 35) Kr<|Za (WF 63 z35) XJ<|Za (YC YB Nw 35) d0<|Zc) (Zg (Zg (Za (Z7 YB 0) Ks<|Za (Zu Ki) Kt<|Za (Zi Xt) Ku<|Za (Vu M2 Kj Uk true) Ln<|Za (Zi OS) Jo<|Zx M3 false (Z7 YB 1) GL<|Zx M3 false (Zu HK) GM<|Zx M3 false (Yj ED (k (nI .i64 0)) Rm Uo) GN<|Za (Yg M3 (k (.bool true)) HL) GO<|Za (Zi HM) GP<|Zx Kk false (Z7 YB 1) GQ<|Zx Kk false (Zu HN) GR<|Zx Kk false (Yj HR (k (nI .i64 65536)) Tf W0) GS<|Za (Yg Kk (k (.bool true)) HS) GU<|Zc) (ZL M4 (Zg (Za (Zi (k (.bool false))) st2<|Zc) Z8) Zc)) (Zg (Za (Zi Xt) E0<|Za (Z7 YB 1) E1<|Za (Zu EF) E2<|Za (Yc EE EG) E3<|Za (Zi OT) Vc<|Zc) (Za (Zi Xx) E4<|Za (Z7 YB 2) GV<|Za (Zu EH) GW<|Za (We 2 1 1 [(nI .i64 0)] [⟨0,1,HT⟩]) z9<|Za (W7 Cy A6 2 1 8) ya<|Za (Zi A7) VM<|Zc))))) (Za (Zi WO) Eb<|Za (Yc JV (k (nI .i64 1))) Ec<|Za (Zi Da) Uh<|Zc)))
def Oj:D:=(Zg (Zg (Za (Zi Xu) WA<|Za (Zi Yu) WB<|Za (Xe X6) WX<|Za (Yj XW Wt X1 YK) WY<|Zc) (ZL Wd Zc (XG 0))) (Zg (ZY 1 (Zg (Za (Zi Yu) V1<|Za (Zi Xu) V2<|Za (WJ WU WV 12) V5<|Za (Wk Va 12) V3<|Za (WF 42 [(.str []),(nI .i64 0),(nI .u32 0),(nI .u32 0),(nI .u32 0),(nI .i64 0),.nils,.nils,(.str []),(nI .i64 0),(nI .i64 0),.nils]) WZ<|Za (YC YT Wz 12) d0<|Zc) (Zg (Za (Z7 YT 0) Ug<|Za (Z7 VD 0) Ul<|Za (Zu VR) Uq<|Za (ZB 25 [VE]) UP<|Za (Zi Vq) Uf<|Za (Wf VX 0) UV<|Za (Wf VX 1) Th<|Za (Zi UX) Vv<|Za (Zi UM) Vw<|Zc) (Zg (Zg (Za (Zi Wm) TS<|Za (Yj UY (k (nI .i64 1)) X1 YK) T7<|Za (Zi Tl) Sw<|Zx UR false (Zi Wm) SB<|Zx UR false (Yj Tm (k (nI .i64 3)) Tf W0) SU<|Za (Yg UR (k (.bool true)) T3) SV<|Za (Zi SM) SC<|Zx TX false (Z7 YT 0) S1<|Zx TX false (Wk Sj 9) Rh<|Zx TX false (ZB 26 [T4]) Ri<|Zx TX false (PH SX) Ro<|Za (Yg TX (k (.bool true)) Sq) SW<|Za (Zi Rb) RA<|Zx To false (Z7 YT 0) Qe<|Zx To false (Z7 SN 1) Qw<|Zx To false (Z7 RH 6) Qx<|Zx To false (Zu TY) QK<|Zx To false (Xe QD) QL<|Zx To false (Yj SY (k (nI .i64 0)) Tf W0) Q1<|Za (Yg To (k (.bool true)) QE) Q2<|Zc) (ZL Sr (Zg (Za (Zi (k (.bool false))) st2<|Zc) Z8) Zc)) (Zg (Zg (WE [⟨Zi Xu,none,[(Xi,Xu)],Q3,.free,0,0⟩,⟨Yj QF (k (nI .i64 0)) Tf W0,none,[(Q3,QF)],QM,.free,1,1⟩,⟨Zi QV,none,[(QM,QV)],Qy,.free,2,3⟩,⟨Z7 YT 0,(some (Te,true)),[(WZ,YT)],QN,.free,3,7⟩,⟨Z7 Qo 0,(some (Te,true)),[(QN,Qo)],Qz,.free,4,15⟩,⟨Zu SZ,(some (Te,true)),[(Qz,SZ)],QO,.read,5,31⟩,⟨Zi Yu,(some (Te,true)),[(st0,Yu)],Q4,.free,6,7⟩,⟨Zi Xu,(some (Te,true)),[(Xi,Xu)],Q5,.free,7,7⟩,⟨VZ RV (k (nI .i64 1)),(some (Te,true)),[(Q5,RV)],QA,.free,8,135⟩,⟨WJ S0 Rx 12,(some (Te,true)),[(Q4,S0),(QA,Rx)],Pr,.free,9,455⟩,⟨Z7 RI 0,(some (Te,true)),[(Pr,RI)],Q6,.free,10,967⟩,⟨Z7 RW 0,(some (Te,true)),[(Q6,RW)],QP,.free,11,1991⟩,⟨Zu RX,(some (Te,true)),[(QP,RX)],Ps,.read,12,4039⟩,⟨Yj QG Ph Rm Uo,(some (Te,true)),[(QO,QG),(Ps,Ph)],PJ,.free,13,8191⟩,⟨Yg Te PF (k (.bool false)),none,[(Qy,Te),(PJ,PF)],Od,.free,14,16383⟩]) (ZL PG (Zg (Za (Zi (k (.bool false))) st2<|Zc) Z8) Zc)) (Zg (Zg (Za (Z7 YT 9) Na<|Za (Zu P9) NE<|Za (Yj Ot (k (nI .i64 0)) X1 YK) Me<|Za (Zi Ma) Mf<|Zx Ou false (Z7 YT 9) MQ<|Zx Ou false (Zu MG) Lo<|Zx Ou false (Yj PX (k (nI .i64 16777216)) Tf W0) MR<|Za (Yg Ou (k (.bool true)) QH) MT<|Za (Zi MH) MU<|Zx OV false (Z7 YT 9) Lq<|Zx OV false (Zu M5) KB<|Zx OV false (Vu Kw (k (nI .i64 0)) Uk true) KC<|Zx OV false (Zi Mb) KD<|Zx Nk true (Z7 YT 0) KE<|Zx Nk true (Z7 Kx 1) Jp<|Zx Nk true (Z7 IF 0) JW<|Zx Nk true (Zu JT) JX<|Zx Nk true (Vu JU (k (nI .i64 2)) Uk true) JY<|Zx OV false (Yg Nk Oa (k (.bool false))) GX<|Za (Yg OV (k (.bool true)) Ky) GY<|Zc) (ZL HU (Zg (Za (Zi (k (.bool false))) st2<|Zc) Z8) Zc)) (Zg (Za (Zi Xx) F5<|Za (Z7 YT 10) F6<|Za (Zu IG) F7<|Za (We 2 1 1 [(nI .i64 0)] [⟨0,1,FC⟩]) F8<|Za (W7 M6 FD 2 1 8) F9<|Za (Zi KX) VM<|Zc) (Zg (Za (Zi (k (nI .i64 0))) Vc<|Zc) (Zg (Zg (Za (Zi (k (nI .i64 0))) Uh<|Zc) (ZY 2 (XS LB))) (Zg (Za (Zi Xt) yb<|Za (Z7 YT 9) uO<|Za (Zu EI) uP<|Za (Vu A8 wZ Uk true) uQ<|Zc) (ZL w7 (Zg (Za (Zi (k (.bool false))) st2<|Zc) Z8) Zc))))))))))) (Za (Zi Xu) Vo<|Za (Yc XO (k (nI .i64 1))) VA<|Za (Zi Vg) Xi<|Zc)))
def LC:D:=(Zg (Zg (Za (Zi YN) uR<|Za (Zi Xx) uS<|Za (Xe KV) uT<|Za (Yj vd ve X1 YK) uU<|Zc) (ZL vf Zc (XG 4))) (Zg (ZY 5 (Zg (WE [⟨Zi Xx,none,[(VM,Xx)],yc,.free,0,0⟩,⟨Zi YN,none,[(XF,YN)],yd,.free,1,0⟩,⟨WJ A9 za 1,none,[(yc,A9),(yd,za)],ye,.free,2,3⟩,⟨Zu zb,none,[(ye,zb)],yf,.read,3,7⟩,⟨Yj zd (k (nI .i64 0)) X1 YK,none,[(yf,zd)],BG,.free,4,15⟩,⟨Zi Cz,none,[(BG,Cz)],BH,.free,5,31⟩,⟨Zi Xx,(some (Kl,false)),[(VM,Xx)],yg,.free,6,63⟩,⟨Zi YN,(some (Kl,false)),[(XF,YN)],yh,.free,7,63⟩,⟨WJ ze zf 1,(some (Kl,false)),[(yg,ze),(yh,zf)],yi,.free,8,255⟩,⟨Zu zg,(some (Kl,false)),[(yi,zg)],BI,.read,9,511⟩,⟨Yj CA (k (nI .i64 1099511627776)) Tf W0,(some (Kl,false)),[(BI,CA)],BJ,.free,10,1023⟩,⟨Yg Kl (k (.bool true)) CB,none,[(BH,Kl),(BJ,CB)],BK,.free,11,2047⟩,⟨Zi CC,none,[(BK,CC)],BL,.free,12,4095⟩,⟨Zi YN,(some (KW,false)),[(XF,YN)],BM,.free,13,8191⟩,⟨Yj CD (k (nI .i64 0)) Tf W0,(some (KW,false)),[(BM,CD)],BN,.free,14,16383⟩,⟨Zi CG,(some (KW,false)),[(BN,CG)],BO,.free,15,32767⟩,⟨Zi Xx,(some (OU,true)),[(VM,Xx)],BP,.free,16,65535⟩,⟨Zi YN,(some (OU,true)),[(XF,YN)],BQ,.free,17,65535⟩,⟨WJ CH CI 1,(some (OU,true)),[(BP,CH),(BQ,CI)],BR,.free,18,262143⟩,⟨Zu CJ,(some (OU,true)),[(BR,CJ)],yj,.read,19,524287⟩,⟨Zi Xx,(some (OU,true)),[(VM,Xx)],yk,.free,20,65535⟩,⟨Zi YN,(some (OU,true)),[(XF,YN)],yl,.free,21,65535⟩,⟨VZ zj (k (nI .i64 1)),(some (OU,true)),[(yl,zj)],ym,.free,22,2162687⟩,⟨WJ zi zk 1,(some (OU,true)),[(yk,zi),(ym,zk)],yn,.free,23,7405567⟩,⟨Zu zl,(some (OU,true)),[(yn,zl)],uX,.read,24,15794175⟩,⟨Yj zh vi Rm Uo,(some (OU,true)),[(yj,zh),(uX,vi)],uY,.free,25,33554431⟩,⟨Yg OU vj (k (.bool false)),(some (KW,false)),[(BO,OU),(uY,vj)],uZ,.free,26,67108863⟩,⟨Yg KW (k (.bool true)) CK,none,[(BL,KW),(uZ,CK)],oz,.free,27,134217727⟩]) (ZL pe (Zg (Za (Zi (k (.bool false))) st2<|Zc) Z8) Zc))) (Za (Zi YN) uV<|Za (Yc vg (k (nI .i64 1))) uW<|Za (Zi vh) XF<|Zc)))
def c16:CF:=⟨[(Vt,none)],(Zg (Za (Zi (k (.bool false))) st2<|Zc) (Zg (Zg (Za (Zi Yu) X7<|Za (Xe Xj) X5<|Za (Yj Y6 (k (nI .i64 4096)) Tf W0) WK<|Zc) (ZL XQ (Zg (Za (Zi (k (.bool false))) st2<|Zc) Z8) Zc)) (Zg (Za (Zi (k .nils)) VM<|Zc) (Zg (Zg (Za (Zi (k (nI .i64 0))) Xi<|Zc) (ZY 0 (XS Oj))) (Zg (Zg (Za (Zi (k (nI .i64 0))) XF<|Zc) (ZY 4 (XS LC))) (Zg (Za (Zi (k (.bool true))) st2<|Zc) Z8))))))⟩
def Fi:D:=(Zg (Zg (Za (Zi Wm) V5<|Za (Zi Xu) V3<|Za (Xe Wz) Uf<|Za (VZ VX (k (nI .i64 1))) Ug<|Za (Yj Va VD X1 YK) Ul<|Zc) (ZL VR Zc (XG 0))) (Zg (ZY 1 (Zg (Za (Zi Xu) UV<|Za (Zi Wm) Th<|Za (WJ UX UM 1) TS<|Za (Zu UY) T7<|Za (ZB 37 [Tl]) Sw<|Za (PH UR) SB<|Zc) (ZL Tm (Zg (Za (Zi (k (nI .i64 0))) st2<|Za (Zi (k (.str []))) VM<|Zc) Z8) Zc))) (Za (Zi Wm) Uq<|Za (Yc VE (k (nI .i64 1))) UP<|Za (Zi Vq) Vv<|Zc)))
def c25:CF:=⟨[(Vt,none),(Xx,none)],(Zg (Za (Zi (k (nI .i64 0))) st2<|Za (Zi (k (.str []))) VM<|Zc) (Zg (Zg (Za (Zi Yu) XJ<|Za (Vu YB (k (.str [46,119,104,46,46,119,104,46,116,111,99])) Mj false) XF<|Zc) (ZL YN (Zg (Za (Zi (k (nI .i64 4))) st2<|Za (Zi (k (.str []))) VM<|Zc) Z8) Zc)) (Zg (Za (Zi Yu) X7<|Za (ZB 36 [Xj]) X5<|Za (Zi Y6) Xi<|Zc) (Zg (Zg (Za (Zi Xu) WK<|Za (Xe XQ) WA<|Za (Vu XW (k (nI .i64 0)) Uk false) WB<|Zc) (ZL X6 (Zg (Za (Zi (k (nI .i64 0))) st2<|Za (Zi (k (.str []))) VM<|Zc) Z8) Zc)) (Zg (Za (Zi Xu) WX<|Za (Zi Xu) WY<|Za (Xe Wd) Vo<|Za (VZ XO (k (nI .i64 1))) VA<|Za (WJ Wt Vg 1) V1<|Za (Zu WU) V2<|Za (Zi WV) WZ<|Zc) (Zg (Zg (Za (Zi (k (nI .i64 0))) Vv<|Zc) (ZY 0 (XS Fi))) (Zg (Za (Zi Xu) SU<|Za (Zi Xu) SV<|Za (Xe SM) SC<|Za (VZ TX (k (nI .i64 1))) S1<|Za (TQ 1 T3 none (some Sj) none) Rh<|Za (ZB 38 [T4]) Ri<|Za (Zi SX) Vw<|Zc) (Zg (Za (Zi (k (nI .i64 0))) Vc<|Zc) (Zg (Za (Zi (k (.str []))) Uh<|Zc) (Zg (Zg (Za (Zi YT) Ro<|Za (ZB 37 [Sq]) SW<|Zc) (ZL Rb (Zg (Za (Zi (k (nI .i64 1))) Vc<|Zc) (Za (Zi Yu) RA<|Za (Zi To) Uh<|Zc)) (Zg (Za (Zi YT) Qe<|Za (Vu SN (k (.str [46,119,104,46,46,119,104,46,46,111,112,113])) Mj false) Qw<|Zc) (ZL RH (Zg (Za (Zi (k (nI .i64 3))) Vc<|Zc) (Za (Zi XY) Qx<|Za (Zi TY) Uh<|Zc)) (Zg (Za (Zi YT) QK<|Za (ZB 39 [QD,(k (.str [46,119,104,46]))]) QL<|Za (Zi SY) Q1<|Zx QE true (Zi YT) Q2<|Zx QE true (Vm Sr (some (k (nI .i64 4))) none none) Q3<|Zx QE true (ZB 37 [QF]) QM<|Za (Yg QE QV (k (.bool false))) Qy<|Zc) (ZL Te (Zg (Za (Zi (k (nI .i64 2))) Vc<|Zc) (Za (Zi XY) QN<|Za (Zi YT) Qz<|Za (Vm SZ (some (k (nI .i64 4))) none none) QO<|Za (We 9 1 2 (List.replicate 2 [(.str [])]).flatten [⟨0,1,Qo⟩,⟨1,1,QG⟩]) Q4<|Za (ZB 38 [S0]) Q5<|Za (Zi RV) Uh<|Zc)) Zc)))))) (Zg (Zg (Za (Zi Xt) QA<|Za (Vu Rx (k (nI .i64 0)) Uk false) Pr<|Za (Zi RI) Q6<|Zx RW false (Zi WO) QP<|Zx RW false (ZB 40 [RX]) Ps<|Zx RW false (PH Ph) PJ<|Za (Yg RW (k (.bool true)) PF) Od<|Zc) (ZL PG (Zg (Za (Zi (k (nI .i64 0))) st2<|Za (Zi (k (.str []))) VM<|Zc) Z8) Zc)) (Zg (Za (Zi Xt) Na<|Za (Zi WO) NE<|Za (Zi P9) st2<|Za (Zi Ot) VM<|Zc) Z8))))))))))))⟩
def Iq:D:=(Zg (Zg (Za (Zi YT) Uh<|Za (Zi Yu) XJ<|Za (XN YB) XF<|Za (Yj WO YN Rm Uo) X7<|Zc) (ZL Xj Zc (XG 0))) (Zg (ZY 1 (Zg (Za (Zi YT) WA<|Za (Zi Yu) WB<|Za (XN X6) WX<|Za (Vu XW Wt Uk false) WY<|Za (Zi Wd) Vo<|Zx XO false (Zi Yu) VA<|Zx XO false (Zi YT) V1<|Zx XO false (Wp Vg WU) V2<|Zx XO false (Vu WV (k (nI .u8 47)) Uk false) V5<|Za (Yg XO (k (.bool true)) Va) V3<|Zc) (ZL Wz (Zg (Za (Zi Xx) Uf<|Za (Zi Yu) Ug<|Za (Zi Xu) Ul<|Za (Zi YT) Uq<|Za (Vm VD (some VR) (some VE) none) UP<|Za (We 9 1 1 [(.str [])] [⟨0,1,Vq⟩]) UV<|Za (W7 VX UX 9 1 16) Th<|Za (Zi UM) VM<|Zc) (Za (Zi YT) TS<|Za (Yc UY (k (nI .i64 1))) T7<|Za (Zi Tl) Xi<|Zc)) Zc))) (Za (Zi YT) X5<|Za (Yc Y6 (k (nI .i64 1))) WK<|Za (Zi XQ) WZ<|Zc)))
def c36:CF:=⟨[(Vt,none)],(Zg (Za (Zi (k .nils)) st2<|Zc) (Zg (Za (Zi (k .nils)) VM<|Zc) (Zg (Zg (Za (Zi Yu) Vv<|Za (Vu Wm (k (.str [])) Mj false) Vw<|Zc) (ZL XY (Zg (Za (Zi Xx) Vc<|Za (Zi Xt) st2<|Zc) Z8) Zc)) (Zg (Za (Zi (k (nI .i64 0))) Xi<|Zc) (Zg (Zg (Za (Zi (k (nI .i64 0))) WZ<|Zc) (ZY 0 (XS Iq))) (Zg (Za (Zi Xx) Sw<|Za (Zi UR) st2<|Zc) Z8))))))⟩
def c37:CF:=⟨[(Vt,none)],(Zg (Za (Zi (k (.bool false))) st2<|Zc) (Zg (Za (Zi Yu) VM<|Za (ZB 57 [Xx]) Xi<|Za (Zi Xu) WZ<|Zx YT true (Zi Yu) Vv<|Zx YT true (XN Wm) Vw<|Zx YT true (Yj XY (k (nI .i64 251)) Rm Uo) Vc<|Za (Yg YT Xt (k (.bool false))) Uh<|Za (Zi WO) XJ<|Zx YB true (Zi Yu) XF<|Zx YB true (ZB 39 [YN,(k (.str [46,119,104,46]))]) X7<|Zx YB true (PH Xj) X5<|Za (Yg YB Y6 (k (.bool false))) WK<|Za (Zi XQ) st2<|Zc) Z8))⟩
def Iu:D:=(Zg (Zg (Za (Zi Xx) Xi<|Za (Zi Yu) WZ<|Za (XN YT) Vv<|Za (Yj Xu Wm X1 YK) Vw<|Zc) (ZL XY Zc (XG 0))) (Zg (ZY 1 (Zg (Za (Zi Yu) XJ<|Za (Zi Xx) XF<|Za (Wp YB YN) X7<|Za (Vu Xj (k (nI .u8 0)) Uk false) X5<|Za (Zi Y6) WK<|Zx XQ false (Zi Yu) WA<|Zx XQ false (Zi Xx) WB<|Zx XQ false (Wp XW X6) WX<|Zx XQ false (Vu Wt (k (nI .u8 47)) Uk false) WY<|Za (Yg XQ (k (.bool true)) Wd) Vo<|Zc) (ZL XO (Zg (Za (Zi (k (.bool false))) st2<|Zc) Z8) Zc))) (Za (Zi Xx) Vc<|Za (Yc Xt (k (nI .i64 1))) Uh<|Za (Zi WO) VM<|Zc)))
def c57:CF:=⟨[(Vt,none)],(Zg (Za (Zi (k (.bool false))) st2<|Zc) (Zg (Zg (Za (Zi (k (nI .i64 0))) VM<|Zc) (ZY 0 (XS Iu))) (Zg (Za (Zi Yu) VA<|Za (XN Vg) V1<|Za (Yj WU (k (nI .i64 1)) SA Wx) V2<|Za (Zi WV) V5<|Zx Va true (Zi Yu) V3<|Zx Va true (XN Wz) Uf<|Zx Va true (Yj VX (k (nI .i64 255)) Rm Uo) Ug<|Za (Yg Va VD (k (.bool false))) Ul<|Za (Zi VR) Uq<|Zx VE true (Zi Yu) UP<|Zx VE true (Vu Vq (k (.str [46])) Mj true) UV<|Za (Yg VE UX (k (.bool false))) Th<|Za (Zi UM) TS<|Zx UY true (Zi Yu) T7<|Zx UY true (Vu Tl (k (.str [46,46])) Mj true) Sw<|Za (Yg UY UR (k (.bool false))) SB<|Za (Zi Tm) st2<|Zc) Z8)))⟩
def Ir:D:=(Zg (Zg (Za (Zi Xu) WZ<|Za (Zi Yu) Vv<|Za (Xe Wm) Vw<|Za (Yj YT XY X1 YK) Vc<|Zc) (ZL Xt Zc (XG 0))) (Zg (ZY 1 (Zg (Zg (Za (Zi Yu) XF<|Za (Zi Xu) X7<|Za (WJ YN Xj 1) X5<|Za (Zu Y6) WK<|Za (Vu XQ (k (.str [])) Mj false) WA<|Zc) (ZL XW (XG 1) Zc)) (Zg (Zg (Za (Zi Xx) WB<|Za (Vu X6 (k (.str [])) Mj true) WX<|Zc) (ZL Wt (Za (Zi Xx) WY<|Za (Yc Wd (k (.str [47]))) Vo<|Za (Zi XO) VM<|Zc) Zc)) (Za (Zi Xx) VA<|Za (Zi Yu) V1<|Za (Zi Xu) V2<|Za (WJ WU WV 1) V5<|Za (Zu Va) V3<|Za (Yc Vg Wz) Uf<|Za (Zi VX) VM<|Zc)))) (Za (Zi Xu) Uh<|Za (Yc WO (k (nI .i64 1))) XJ<|Za (Zi YB) Xi<|Zc)))
def c38:CF:=⟨[(Vt,none)],(Zg (Za (Zi (k (.str []))) st2<|Zc) (Zg (Za (Zi (k (.str []))) VM<|Zc) (Zg (Zg (Za (Zi (k (nI .i64 0))) Xi<|Zc) (ZY 0 (XS Ir))) (Zg (Za (Zi Xx) Ug<|Za (Zi VD) st2<|Zc) Z8))))⟩
def c39:CF:=⟨[(Xu,none)],(Zg (Za (Zi (k (.bool false))) Xi<|Zc) (Zg (Za (Zi Yu) WZ<|Za (XN YT) Vv<|Za (Zi XR) Vw<|Za (XN XY) Vc<|Za (Yj Wm Xt SA Wx) Uh<|Za (Zi WO) XJ<|Zx YB true (Zi Yu) XF<|Zx YB true (Zi XR) X7<|Zx YB true (XN Xj) X5<|Zx YB true (Vm YN none (some Y6) none) WK<|Zx YB true (Zi XR) WA<|Zx YB true (Vu XQ XW Mj false) WB<|Za (Yg YB X6 (k (.bool false))) WX<|Za (Zi Wt) Xi<|Zc) Z8))⟩
def Fo:D:=(Zg (Zg (Za (Zi Xu) Vw<|Za (Zi Xx) Vc<|Za (Xe Xt) Uh<|Za (Yj XY WO X1 YK) XJ<|Zc) (ZL YB Zc (XG 0))) (Zg (ZY 1 (Zg (Za (Zi Xx) X5<|Za (Zi Xu) WK<|Za (WJ Y6 XQ 1) WA<|Za (Zu XW) WB<|Za (ZB 37 [X6]) WX<|Za (PH Wt) WY<|Zc) (ZL Wd (Zg (Za (Zi (k (.bool false))) st2<|Zc) Z8) Zc))) (Za (Zi Xu) XF<|Za (Yc YN (k (nI .i64 1))) X7<|Za (Zi Xj) Xi<|Zc)))
def c40:CF:=⟨[(Vt,none)],(Zg (Za (Zi (k (.bool false))) st2<|Zc) (Zg (Za (Zi Yu) WZ<|Za (ZB 36 [YT]) Vv<|Za (Zi Wm) VM<|Zc) (Zg (Zg (Za (Zi (k (nI .i64 0))) Xi<|Zc) (ZY 0 (XS Fo))) (Zg (Za (Zi Xx) Vo<|Za (Xe XO) VA<|Za (Yj Vg (k (nI .i64 254)) Rm Uo) V1<|Za (Zi WU) V2<|Zx WV true (Zi Yu) V5<|Zx WV true (XN Va) V3<|Zx WV true (Yj Wz (k (nI .i64 4080)) Rm Uo) Uf<|Za (Yg WV VX (k (.bool false))) Ug<|Za (Zi VD) st2<|Zc) Z8))))⟩
def Nh:D:=(Zg (Zg (Za (Zi Wm) S1<|Za (Z7 YT 5) Rh<|Za (Zu T4) Ri<|Za (Xe SX) Ro<|Za (Yj Sj Sq X1 YK) SW<|Zc) (ZL Rb Zc (XG 0))) (Zg (ZY 1 (Zg (Za (Z7 YT 5) Qw<|Za (Zu RH) Qx<|Za (Zi Wm) QK<|Za (WJ TY QD 2) QL<|Za (Z7 SY 0) Q1<|Za (Zu QE) Q2<|Za (Zi Sr) Vw<|Zc) (Zg (Zg (Za (Zi XY) Q3<|Za (Vu QF (k (.str [])) Mj false) QM<|Za (Zi QV) Qy<|Zx Te false (Zi XY) QN<|Zx Te false (XN Qo) Qz<|Zx Te false (Yj SZ (k (nI .i64 242)) Tf W0) QO<|Za (Yg Te (k (.bool true)) QG) Q4<|Za (Zi S0) Q5<|Zx RV false (Zi XY) QA<|Zx RV false (ZB 41 [Rx,(k (nI .u8 0))]) Pr<|Za (Yg RV (k (.bool true)) RI) Q6<|Za (Zi RW) QP<|Zx RX false (Zi XY) Ps<|Zx RX false (ZB 41 [Ph,(k (nI .u8 61))]) PJ<|Za (Yg RX (k (.bool true)) PF) Od<|Za (Zi PG) Na<|Zx P9 false (Zi XY) NE<|Zx P9 false (ZB 41 [Ot,(k (nI .u8 10))]) Me<|Za (Yg P9 (k (.bool true)) Ma) Mf<|Zc) (ZL Ou (Zg (Za (Zi (k (.bool false))) st2<|Zc) Z8) Zc)) (Zg (Za (Zi Wm) MQ<|Za (Yj MG (k (nI .i64 0)) Tf W0) Lo<|Za (Zi PX) MR<|Zx QH true (Z7 YT 5) MT<|Zx QH true (Zu MH) MU<|Zx QH true (Zi Wm) Lq<|Zx QH true (VZ M5 (k (nI .i64 1))) KB<|Zx QH true (WJ OV Kw 2) KC<|Zx QH true (Z7 Mb 0) KD<|Zx QH true (Zu Nk) KE<|Zx QH true (Zi XY) Jp<|Zx QH true (Yj Kx IF SA Wx) JW<|Za (Yg QH JT (k (.bool false))) JX<|Zc) (ZL JU (Zg (Za (Zi (k (.bool false))) st2<|Zc) Z8) Zc))))) (Za (Zi Wm) RA<|Za (Yc To (k (nI .i64 1))) Qe<|Za (Zi SN) Vv<|Zc)))
def aN:CF:=⟨[(Vt,none)],(Zg (Za (Mc Yu 28) st1<|Za (Zi (k (.bool false))) st2<|Zc) (Zg (Za (Z7 XR 0) Uh<|Za (Zu WO) XJ<|Za (ZB 25 [YB]) XF<|Za (Zi YN) Vc<|Za (Wf Xt 0) X7<|Za (Wf Xt 1) X5<|Za (Zi Xj) VM<|Za (Zi Y6) Xi<|Zc) (Zg (Za (Z7 XR 1) WK<|Za (Wk XQ 8) WA<|Za (WF 26 [(nI .i64 0),(nI .u32 0),(nI .u32 0),(nI .u32 0),(nI .i64 0),.nils,.nils,(.str [])]) WZ<|Za (YC YT XW 8) d0<|Zc) (Zg (Zg (Za (Zi Xx) WB<|Za (Vu X6 (k (nI .i64 0)) Uk false) WX<|Za (Zi Wt) WY<|Zx Wd false (Z7 YT 0) Vo<|Zx Wd false (Zu XO) VA<|Zx Wd false (Yj Vg (k (nI .i64 1)) X1 YK) V1<|Za (Yg Wd (k (.bool true)) WU) V2<|Za (Zi WV) V5<|Zx Va false (Z7 YT 0) V3<|Zx Va false (Zu Wz) Uf<|Zx Va false (Yj VX (k (nI .i64 4)) Tf W0) Ug<|Za (Yg Va (k (.bool true)) VD) Ul<|Za (Zi VR) Uq<|Zx VE false (Z7 YT 1) UP<|Zx VE false (Zu Vq) UV<|Zx VE false (Yj UX (k (nI .u32 4095)) Tf W0) Th<|Za (Yg VE (k (.bool true)) UM) TS<|Za (Zi UY) T7<|Zx Tl false (Z7 YT 5) Sw<|Zx Tl false (Zu UR) SB<|Zx Tl false (Xe Tm) SU<|Zx Tl false (Yj T3 (k (nI .i64 16)) Tf W0) SV<|Za (Yg Tl (k (.bool true)) SM) SC<|Zc) (ZL TX (Zg (Za (Zi (k (.bool false))) st2<|Zc) Z8) Zc)) (Zg (Zg (Za (Zi (k (nI .i64 0))) Vv<|Zc) (ZY 0 (XS Nh))) (Zg (Zg (Za (Z7 YT 0) JY<|Za (Zu Oa) GX<|Za (Vu Ky (k (nI .i64 3)) Uk false) GY<|Za (Zi HU) F5<|Zx M6 true (Z7 YT 7) F6<|Zx M6 true (Zu IG) F7<|Zx M6 true (Vu FC (k (.str [])) Mj false) F8<|Zx M6 true (Zi FD) F9<|Zx KX false (Z7 YT 7) Ea<|Zx KX false (Zu Kz) Dg<|Zx KX false (XN E8) Dh<|Zx KX false (Yj E9 (k (nI .i64 4096)) Tf W0) GZ<|Zx M6 true (Yg KX (k (.bool true)) IH) G0<|Zx M6 true (Zi II) Eb<|Zx JV false (Z7 YT 7) Ec<|Zx JV false (Zu Da) Ed<|Zx JV false (ZB 41 [FE,(k (nI .u8 0))]) Lk<|Zx M6 true (Yg JV (k (.bool true)) M0) Ll<|Za (Yg M6 M1 (k (.bool false))) Kq<|Za (Zi Nv) Kr<|Zx Nw false (Z7 YT 0) Ks<|Zx Nw false (Zu Ki) Kt<|Zx Nw false (Vu M2 (k (nI .i64 3)) Uk true) Ku<|Zx Nw false (Zi Kj) Ln<|Zx OS true (Z7 YT 7) Jo<|Zx OS true (Zu M3) GL<|Zx OS true (Vu HK (k (.str [])) Mj true) GM<|Zx Nw false (Yg OS ED (k (.bool false))) GN<|Za (Yg Nw (k (.bool true)) HL) GO<|Zc) (ZL HM (Zg (Za (Zi (k (.bool false))) st2<|Zc) Z8) Zc)) (Zg (Za (Z7 YT 6) GP<|Za (Zu Kk) GQ<|Za (Xe HN) GR<|Za (Yj HR (k (nI .i64 16777216)) Rm Uo) GS<|Za (Zi HS) GU<|Zx M4 true (Z7 YT 0) E0<|Zx M4 true (Zu EE) E1<|Zx M4 true (Vu EF (k (nI .i64 2)) Uk false) E2<|Zx M4 true (Zi EG) E3<|Zx OT false (Z7 YT 6) E4<|Zx OT false (Zu Cy) GV<|Zx OT false (Xe EH) GW<|Zx OT false (Vu HT (k (nI .i64 0)) Uk false) z9<|Zx M4 true (Yg OT (k (.bool true)) A6) ya<|Za (Yg M4 A7 (k (.bool false))) yb<|Za (Zi A8) st2<|Zc) Z8)))))))⟩
def Fp:D:=(Zg (Zg (Za (Zi YT) Vv<|Za (Zi Yu) Vw<|Za (XN XY) Vc<|Za (Yj Wm Xt X1 YK) Uh<|Zc) (ZL WO Zc (XG 0))) (Zg (ZY 1 (Zg (Za (Zi Yu) X7<|Za (Zi YT) X5<|Za (Wp Xj Y6) WK<|Za (Zi XR) WA<|Za (Vu XQ XW Uk false) WB<|Zc) (ZL X6 (Zg (Za (Zi (k (.bool true))) Xi<|Zc) Z8) Zc))) (Za (Zi YT) XJ<|Za (Yc YB (k (nI .i64 1))) XF<|Za (Zi YN) WZ<|Zc)))
def c41:CF:=⟨[(Xu,none)],(Zg (Za (Zi (k (.bool false))) Xi<|Zc) (Zg (Zg (Za (Zi (k (nI .i64 0))) WZ<|Zc) (ZY 0 (XS Fp))) (Zg (Za (Zi (k (.bool false))) Xi<|Zc) Z8)))⟩
def D5:D:=(Zg (Zg (Za (Zi Xx) Vo<|Za (Xe XO) VA<|Za (vX Vg (k (nI .i64 64))) V1<|Za (Vu WU (k (nI .i64 56)) Uk true) V2<|Zc) (ZL WV Zc (XG 0))) (ZY 1 (Za (Zi Xx) V5<|Za (We 5 1 1 [(nI .u8 0)] [⟨0,1,(k (nI .u8 0))⟩]) V3<|Za (W7 Va Wz 5 1 1) Uf<|Za (Zi VX) VM<|Zc)))
def D6:D:=(Zg (Zg (Za (Zi Wm) UV<|Za (Yj UX (k (nI .i64 0)) SA Wx) Th<|Zc) (ZL UM Zc (XG 2))) (Zg (ZY 3 (Zg (Za (Zi Wm) Sw<|Za (Zi Xu) SB<|Za (vX Tm (k (nI .u64 256))) SU<|Za (SQ T3 .u8) SV<|Za (XI YT UR 8 1) SC<|Za (YC TX SM 1) d0<|Zc) (Za (Zi Xu) S1<|Za (xH Sj (k (nI .u64 256))) Rh<|Za (Zi T4) Xi<|Zc))) (Za (Zi Wm) TS<|Za (VZ UY (k (nI .i64 1))) T7<|Za (Zi Tl) Vv<|Zc)))
def D7:D:=(Zg (Zg (Za (Zi WO) Qw<|Za (Zi Xx) Qx<|Za (Xe TY) QK<|Za (Yj RH QD X1 YK) QL<|Zc) (ZL SY Zc (XG 4))) (Zg (ZY 5 (WE [⟨Wk Xt 8,none,[(Vc,Xt)],Q3,.read,0,0⟩,⟨Zi Xx,none,[(VM,Xx)],QM,.free,1,0⟩,⟨Zi WO,none,[(Uh,WO)],Qy,.free,2,0⟩,⟨Zi WO,none,[(Uh,WO)],QN,.free,3,0⟩,⟨Yc Qo (k (nI .i64 64)),none,[(QN,Qo)],Qz,.free,4,8⟩,⟨TQ 1 QV (some Te) (some SZ) none,none,[(QM,QV),(Qy,Te),(Qz,SZ)],QO,.read,5,30⟩,⟨Wk XY 64,none,[(Vw,XY)],Q4,.read,6,0⟩,⟨ZB 28 [QF,QG,S0],none,[(Q3,QF),(QO,QG),(Q4,S0)],Q5,.eff,7,127⟩,⟨YC Xt RV 8,none,[(Vc,Xt),(Q5,RV)],d0,.eff,8,255⟩])) (Za (Zi WO) Q1<|Za (Yc QE (k (nI .i64 64))) Q2<|Za (Zi Sr) Uh<|Zc)))
def D8:D:=(Zg (Zg (Za (Zi Xj) Ps<|Za (Yj Ph (k (nI .i64 4)) X1 YK) PJ<|Zc) (ZL PF Zc (XG 8))) (Zg (ZY 9 (Za (Zi YN) NE<|Za (Nm (k (nI .i64 4)) Ot) Me<|Za (Zi Xj) Mf<|Za (Yc Ma Ou) MQ<|Za (Zi YN) Lo<|Za (XI Xt PX 8 1) MR<|Za (Zu QH) MT<|Za (Zi Xj) MU<|Za (Nm (k (nI .i64 8)) OV) Lq<|Za (VZ (k (nI .i64 24)) M5) KB<|Za (Md MH Kw) KC<|Za (SQ Mb .u8) KD<|Za (XI YB MG 32 1) KE<|Za (YC Kx Nk 1) d0<|Zc)) (Za (Zi Xj) Od<|Za (Yc PG (k (nI .i64 1))) Na<|Za (Zi P9) X7<|Zc)))
def D9:D:=(Zg (Zg (Za (Zi YN) QA<|Za (Yj Rx (k (nI .i64 8)) X1 YK) Pr<|Zc) (ZL RI Zc (XG 6))) (Zg (ZY 7 (Zg (Za (Zi (k (nI .i64 0))) X7<|Zc) (ZY 8 (XS D8)))) (Za (Zi YN) Q6<|Za (Yc RW (k (nI .i64 1))) QP<|Za (Zi RX) XF<|Zc)))
def c18:CF:=⟨[(Vt,some (32,true))],(Zg (Za (TV 54 32 (nI .u8 0)) st2<|Zc) (Zg (Za (Zi (k .nils)) VM<|Zc) (Zg (Za (Zi Xx) X5<|Za (Zi Yu) WK<|Za (W7 Y6 XQ 5 1 1) WA<|Za (Zi XW) VM<|Zc) (Zg (Za (Zi Xx) WB<|Za (We 5 1 1 [(nI .u8 0)] [⟨0,1,(k (nI .u8 128))⟩]) WX<|Za (W7 X6 Wt 5 1 1) WY<|Za (Zi Wd) VM<|Zc) (Zg (ZY 0 (XS D5)) (Zg (Za (Zi Yu) Ug<|Za (Xe VD) Ul<|Za (SQ VR .u64) Uq<|Za (Nm VE (k (nI .u64 8))) UP<|Za (Zi Vq) Xi<|Zc) (Zg (Za (WF 79 [(nI .u8 0),(nI .u8 0),(nI .u8 0),(nI .u8 0),(nI .u8 0),(nI .u8 0),(nI .u8 0),(nI .u8 0)]) WZ<|Zc) (Zg (Zg (Za (Zi (k (nI .i64 7))) Vv<|Zc) (ZY 2 (XS D6))) (Zg (Za (Zi Xx) Ri<|Za (Pm 8 1 YT none none none) Ro<|Za (W7 SX Sq 5 1 1) SW<|Za (Zi Rb) VM<|Zc) (Zg (Za (ZB 27 []) RA<|Za (TV 80 64 (nI .u32 0)) Vw<|Za (YC XY To 64) d0<|Zc) (Zg (Za (UF [(nI .u32 0),(nI .u32 0),(nI .u32 0),(nI .u32 0),(nI .u32 0),(nI .u32 0),(nI .u32 0),(nI .u32 0)] [⟨0,1,(k (nI .u32 1779033703))⟩,⟨1,1,(k (nI .u32 3144134277))⟩,⟨2,1,(k (nI .u32 1013904242))⟩,⟨3,1,(k (nI .u32 2773480762))⟩,⟨4,1,(k (nI .u32 1359893119))⟩,⟨5,1,(k (nI .u32 2600822924))⟩,⟨6,1,(k (nI .u32 528734635))⟩,⟨7,1,(k (nI .u32 1541459225))⟩]) Qe<|Za (WF 82 [(nI .u32 0),(nI .u32 0),(nI .u32 0),(nI .u32 0),(nI .u32 0),(nI .u32 0),(nI .u32 0),(nI .u32 0)]) Vc<|Za (YC Xt SN 8) d0<|Zc) (Zg (Zg (Za (Zi (k (nI .i64 0))) Uh<|Zc) (ZY 4 (XS D7))) (Zg (Za (TV 54 32 (nI .u8 0)) XJ<|Zc) (Zg (Zg (Za (Zi (k (nI .i64 0))) XF<|Zc) (ZY 6 (XS D9))) (Zg (Za (Wk YB 32) Jp<|Za (YC Vt IF 32) d0<|Zc) Z8)))))))))))))))⟩
def Fj:D:=(Zg (Zg (Za (Zi Xt) V3<|Za (Yj Wz (k (nI .i64 64)) X1 YK) Uf<|Zc) (ZL VX Zc (XG 0))) (Zg (ZY 1 (Zg (Zg (Za (Zi Xt) Uq<|Za (Yj VE (k (nI .i64 16)) X1 YK) UP<|Zc) (ZL Vq (Zg (WE [⟨Zi Xt,none,[(Vc,Xt)],UV,.free,0,0⟩,⟨Zi XR,none,[(st1,XR)],Th,.free,1,0⟩,⟨Zi Xt,none,[(Vc,Xt)],TS,.free,2,0⟩,⟨Nm (k (nI .i64 4)) UY,none,[(TS,UY)],T7,.free,3,4⟩,⟨WJ UM Tl 1,none,[(Th,UM),(T7,Tl)],Sw,.free,4,14⟩,⟨Zu UR,none,[(Sw,UR)],SB,.read,5,30⟩,⟨SQ Tm .u32,none,[(SB,Tm)],SU,.free,6,62⟩,⟨Al T3 (k (nI .u64 24)),none,[(SU,T3)],SV,.free,7,126⟩,⟨Zi XR,none,[(st1,XR)],SC,.free,8,0⟩,⟨Zi Xt,none,[(Vc,Xt)],S1,.free,9,0⟩,⟨Nm (k (nI .i64 4)) Sj,none,[(S1,Sj)],Rh,.free,10,512⟩,⟨Yc T4 (k (nI .i64 1)),none,[(Rh,T4)],Ri,.free,11,1536⟩,⟨WJ TX SX 1,none,[(SC,TX),(Ri,SX)],Ro,.free,12,3840⟩,⟨Zu Sq,none,[(Ro,Sq)],SW,.read,13,7936⟩,⟨SQ Rb .u32,none,[(SW,Rb)],RA,.free,14,16128⟩,⟨Al To (k (nI .u64 16)),none,[(RA,To)],Qe,.free,15,32512⟩,⟨Yc SM SN,none,[(SV,SM),(Qe,SN)],Qw,.free,16,65534⟩,⟨Zi XR,none,[(st1,XR)],Qx,.free,17,0⟩,⟨Zi Xt,none,[(Vc,Xt)],QK,.free,18,0⟩,⟨Nm (k (nI .i64 4)) QD,none,[(QK,QD)],QL,.free,19,262144⟩,⟨Yc SY (k (nI .i64 2)),none,[(QL,SY)],Q1,.free,20,786432⟩,⟨WJ TY QE 1,none,[(Qx,TY),(Q1,QE)],Q2,.free,21,1966080⟩,⟨Zu Sr,none,[(Q2,Sr)],Q3,.read,22,4063232⟩,⟨SQ QF .u32,none,[(Q3,QF)],QM,.free,23,8257536⟩,⟨Al QV (k (nI .u64 8)),none,[(QM,QV)],Qy,.free,24,16646144⟩,⟨Yc RH Te,none,[(Qw,RH),(Qy,Te)],QN,.free,25,33554430⟩,⟨Zi XR,none,[(st1,XR)],Qz,.free,26,0⟩,⟨Zi Xt,none,[(Vc,Xt)],QO,.free,27,0⟩,⟨Nm (k (nI .i64 4)) QG,none,[(QO,QG)],Q4,.free,28,134217728⟩,⟨Yc S0 (k (nI .i64 3)),none,[(Q4,S0)],Q5,.free,29,402653184⟩,⟨WJ SZ RV 1,none,[(Qz,SZ),(Q5,RV)],QA,.free,30,1006632960⟩,⟨Zu Rx,none,[(QA,Rx)],Pr,.read,31,2080374784⟩,⟨SQ RI .u32,none,[(Pr,RI)],Q6,.free,32,4227858432⟩,⟨Yc Qo RW,none,[(QN,Qo),(Q6,RW)],QP,.free,33,8589934590⟩,⟨XI XY UX 64 1,none,[(Vw,XY),(UV,UX)],Ps,.free,34,17179869183⟩,⟨YC Ph RX 1,none,[(Ps,Ph),(QP,RX)],d0,.eff,35,34359738367⟩]) (XG 1)) Zc)) (Zg (Za (Zi Xt) PJ<|Za (VZ PF (k (nI .i64 15))) Od<|Za (XI XY PG 64 1) Na<|Za (Zu P9) NE<|Za (Zi Ot) Uh<|Zc) (Zg (Za (Zi Xt) Me<|Za (VZ Ma (k (nI .i64 2))) Mf<|Za (XI XY Ou 64 1) MQ<|Za (Zu MG) Lo<|Za (Zi PX) XJ<|Zc) (WE [⟨Zi Xt,none,[(Vc,Xt)],MR,.free,0,0⟩,⟨Zi YB,none,[(XJ,YB)],MT,.free,1,0⟩,⟨Zi YB,none,[(XJ,YB)],Lq,.free,3,0⟩,⟨Zi YB,none,[(XJ,YB)],KD,.free,6,0⟩,⟨Md Nk (k (nI .u64 10)),none,[(KD,Nk)],KE,.free,7,64⟩,⟨Zi Xt,none,[(Vc,Xt)],JW,.free,9,0⟩,⟨VZ JT (k (nI .i64 7)),none,[(JW,JT)],JX,.free,10,512⟩,⟨XI XY JU 64 1,none,[(Vw,XY),(JX,JU)],JY,.free,11,1536⟩,⟨Zu Oa,none,[(JY,Oa)],GX,.read,12,3584⟩,⟨Zi WO,none,[(Uh,WO)],F5,.free,14,0⟩,⟨Zi WO,none,[(Uh,WO)],F7,.free,16,0⟩,⟨Zi WO,none,[(Uh,WO)],Ea,.free,19,0⟩,⟨Md Kz (k (nI .u64 3)),none,[(Ea,Kz)],Dg,.free,20,524288⟩,⟨Zi Xt,none,[(Vc,Xt)],G0,.free,23,0⟩,⟨VZ II (k (nI .i64 16)),none,[(G0,II)],Eb,.free,24,8388608⟩,⟨XI XY JV 64 1,none,[(Vw,XY),(Eb,JV)],Ec,.free,25,25165824⟩,⟨Zu Da,none,[(Ec,Da)],Ed,.read,26,58720256⟩,⟨ZB 42 [MH,(k (nI .i64 17))],none,[(MT,MH)],MU,.eff,2,2⟩,⟨ZB 42 [M5,(k (nI .i64 19))],none,[(Lq,M5)],KB,.eff,4,14⟩,⟨WP OV Kw Nt,none,[(MU,OV),(KB,Kw)],KC,.free,5,30⟩,⟨WP Mb Kx Nt,none,[(KC,Mb),(KE,Kx)],Jp,.free,8,254⟩,⟨Yc IF Ky,none,[(Jp,IF),(GX,Ky)],GY,.free,13,8190⟩,⟨ZB 42 [M6,(k (nI .i64 7))],none,[(F5,M6)],F6,.eff,15,16414⟩,⟨ZB 42 [FC,(k (nI .i64 18))],none,[(F7,FC)],F8,.eff,17,114718⟩,⟨WP IG FD Nt,none,[(F6,IG),(F8,FD)],F9,.free,18,245790⟩,⟨WP KX E8 Nt,none,[(F9,KX),(Dg,E8)],Dh,.free,21,2080798⟩,⟨Yc HU E9,none,[(GY,HU),(Dh,E9)],GZ,.free,22,4194302⟩,⟨Yc IH FE,none,[(GZ,IH),(Ed,FE)],Lk,.free,27,134217726⟩,⟨XI XY QH 64 1,none,[(Vw,XY),(MR,QH)],Ll,.free,28,268435455⟩,⟨YC M1 M0 1,none,[(Ll,M1),(Lk,M0)],d0,.eff,29,536870911⟩]))))) (Za (Zi Xt) Ug<|Za (Yc VD (k (nI .i64 1))) Ul<|Za (Zi VR) Vc<|Zc)))
def Ca:D:=(Zg (Zg (Za (Zi XO) E0<|Za (Yj EE (k (nI .i64 64)) X1 YK) E1<|Zc) (ZL EF Zc (XG 2))) (Zg (ZY 3 (Zg (Za (Zi XW) E4<|Za (Zi X6) GV<|Za (WP Cy EH TZ) GW<|Za (Zi XW) z9<|Za (VZ (k (nI .u32 4294967295)) A6) ya<|Za (Zi Wt) yb<|Za (WP A7 A8 TZ) uO<|Za (WP HT EI Dc) uP<|Za (Zi wZ) VA<|Zc) (Zg (Za (Zi YN) uQ<|Za (Zi Xj) uR<|Za (WP w7 vd TZ) uS<|Za (Zi YN) uT<|Za (Zi Y6) uU<|Za (WP ve vf TZ) uV<|Za (WP KV vg Dc) uW<|Za (Zi Xj) yc<|Za (Zi Y6) yd<|Za (WP A9 za TZ) ye<|Za (WP vh zb Dc) yf<|Za (Zi zd) V1<|Zc) (Zg (WE [⟨Zi Wd,none,[(WY,Wd)],BG,.free,0,0⟩,⟨Zi XW,none,[(WA,XW)],BH,.free,1,0⟩,⟨Zi XW,none,[(WA,XW)],yh,.free,3,0⟩,⟨Zi XW,none,[(WA,XW)],BJ,.free,6,0⟩,⟨Zi Vg,none,[(VA,Vg)],BN,.free,10,0⟩,⟨Zi XO,none,[(Vo,XO)],BP,.free,12,0⟩,⟨XI YT CH 64 1,none,[(WZ,YT),(BP,CH)],BQ,.free,13,4096⟩,⟨Zu CI,none,[(BQ,CI)],BR,.read,14,12288⟩,⟨Zi XO,none,[(Vo,XO)],yk,.free,16,0⟩,⟨XI XY zi 64 1,none,[(Vw,XY),(yk,zi)],yl,.free,17,65536⟩,⟨Zu zj,none,[(yl,zj)],ym,.read,18,196608⟩,⟨ZB 42 [Kl,(k (nI .i64 6))],none,[(BH,Kl)],yg,.eff,2,2⟩,⟨ZB 42 [zf,(k (nI .i64 11))],none,[(yh,zf)],yi,.eff,4,14⟩,⟨WP ze zg Nt,none,[(yg,ze),(yi,zg)],BI,.free,5,30⟩,⟨ZB 42 [CB,(k (nI .i64 25))],none,[(BJ,CB)],BK,.eff,7,94⟩,⟨WP CA CC Nt,none,[(BI,CA),(BK,CC)],BL,.free,8,254⟩,⟨Yc Cz KW,none,[(BG,Cz),(BL,KW)],BM,.free,9,511⟩,⟨Yc CD CG,none,[(BM,CD),(BN,CG)],BO,.free,11,2047⟩,⟨Yc OU CJ,none,[(BO,OU),(BR,CJ)],yj,.free,15,32767⟩,⟨Yc zh zk,none,[(yj,zh),(ym,zk)],yn,.free,19,524287⟩,⟨Zi zl,none,[(yn,zl)],V2,.eff,20,1048575⟩]) (Zg (Za (Zi YN) uX<|Za (ZB 42 [vi,(k (nI .i64 2))]) uY<|Za (Zi YN) uZ<|Za (ZB 42 [CK,(k (nI .i64 13))]) oz<|Za (WP vj pe Nt) dM<|Za (Zi YN) dN<|Za (ZB 42 [ir,(k (nI .i64 22))]) dO<|Za (WP iq it Nt) dP<|Za (Zi WU) dQ<|Za (Yc iv iz) dR<|Za (Zi iA) V5<|Zc) (Zg (Za (Zi Wt) dS<|Za (Zi iB) WY<|Zc) (Zg (Za (Zi X6) dT<|Za (Zi iC) WX<|Zc) (Zg (Za (Zi XW) dU<|Za (Zi iD) WB<|Zc) (Zg (Za (Zi XQ) dV<|Za (Zi WV) dW<|Za (Yc iE vk) dX<|Za (Zi vl) WA<|Zc) (Zg (Za (Zi Y6) dY<|Za (Zi iF) WK<|Zc) (Zg (Za (Zi Xj) dZ<|Za (Zi iG) X5<|Zc) (Zg (Za (Zi YN) ce<|Za (Zi iH) X7<|Zc) (Za (Zi WV) ci<|Za (Zi Va) cj<|Za (Yc iI iJ) cq<|Za (Zi iK) XF<|Zc))))))))))))) (Za (Zi XO) E2<|Za (Yc EG (k (nI .i64 1))) E3<|Za (Zi OT) Vo<|Zc)))
def c28:CF:=⟨[(Wm,some (8,true))],(Zg (Za (Mc Yu 82) VM<|Za (Mc Vt 80) WZ<|Za (WF 82 [(nI .u32 0),(nI .u32 0),(nI .u32 0),(nI .u32 0),(nI .u32 0),(nI .u32 0),(nI .u32 0),(nI .u32 0)]) Vv<|Zc) (Zg (Za (TV 80 64 (nI .u32 0)) Vw<|Zc) (Zg (Zg (Za (Zi (k (nI .i64 0))) Vc<|Zc) (ZY 0 (XS Fj))) (Zg (WE [⟨XI Xx (k (nI .i64 0)) 8 1,none,[(VM,Xx)],Kq,.free,0,0⟩,⟨Zu Nv,none,[(Kq,Nv)],Kr,.read,1,1⟩,⟨XI Xx (k (nI .i64 1)) 8 1,none,[(VM,Xx)],Ks,.free,2,0⟩,⟨Zu Ki,none,[(Ks,Ki)],Kt,.read,3,4⟩,⟨XI Xx (k (nI .i64 2)) 8 1,none,[(VM,Xx)],Ku,.free,4,0⟩,⟨Zu Kj,none,[(Ku,Kj)],Ln,.read,5,16⟩,⟨XI Xx (k (nI .i64 3)) 8 1,none,[(VM,Xx)],Jo,.free,6,0⟩,⟨Zu M3,none,[(Jo,M3)],GL,.read,7,64⟩,⟨XI Xx (k (nI .i64 4)) 8 1,none,[(VM,Xx)],GM,.free,8,0⟩,⟨Zu ED,none,[(GM,ED)],GN,.read,9,256⟩,⟨XI Xx (k (nI .i64 5)) 8 1,none,[(VM,Xx)],GO,.free,10,0⟩,⟨Zu HM,none,[(GO,HM)],GP,.read,11,1024⟩,⟨XI Xx (k (nI .i64 6)) 8 1,none,[(VM,Xx)],GQ,.free,12,0⟩,⟨Zu HN,none,[(GQ,HN)],GR,.read,13,4096⟩,⟨XI Xx (k (nI .i64 7)) 8 1,none,[(VM,Xx)],GS,.free,14,0⟩,⟨Zu HS,none,[(GS,HS)],GU,.read,15,16384⟩,⟨Zi Nw,none,[(Kr,Nw)],XF,.eff,16,3⟩,⟨Zi M2,none,[(Kt,M2)],X7,.eff,17,65551⟩,⟨Zi OS,none,[(Ln,OS)],X5,.eff,18,196671⟩,⟨Zi HK,none,[(GL,HK)],WK,.eff,19,459007⟩,⟨Zi HL,none,[(GN,HL)],WA,.eff,20,984063⟩,⟨Zi Kk,none,[(GP,Kk)],WB,.eff,21,2035711⟩,⟨Zi HR,none,[(GR,HR)],WX,.eff,22,4145151⟩,⟨Zi M4,none,[(GU,M4)],WY,.eff,23,8388607⟩]) (Zg (Zg (Za (Zi (k (nI .i64 0))) Vo<|Zc) (ZY 2 (XS Ca))) (Zg (Za (XI Xx (k (nI .i64 0)) 8 1) cr<|Za (Zu iL) ct<|Za (Zi YN) cu<|Za (Yc iM iN) cA<|Za (XI Xx (k (nI .i64 1)) 8 1) Zdt<|Za (Zu Zcr) Zdu<|Za (Zi Xj) Zdv<|Za (Yc Zcs Zct) Zdw<|Za (XI Xx (k (nI .i64 2)) 8 1) Zdx<|Za (Zu Zcv) Zdy<|Za (Zi Y6) Zdz<|Za (Yc Zcw Zcx) ZdA<|Za (XI Xx (k (nI .i64 3)) 8 1) ZdB<|Za (Zu Zcz) ZdC<|Za (Zi XQ) ZdD<|Za (Yc ZcA ZcB) ZdE<|Za (XI Xx (k (nI .i64 4)) 8 1) ZdF<|Za (Zu ZcD) ZdG<|Za (Zi XW) ZdH<|Za (Yc ZcE ZcF) ZdI<|Za (XI Xx (k (nI .i64 5)) 8 1) ZdJ<|Za (Zu ZcH) ZdK<|Za (Zi X6) ZdL<|Za (Yc ZcI ZcJ) ZdM<|Za (XI Xx (k (nI .i64 6)) 8 1) ZdN<|Za (Zu ZcL) ZdO<|Za (Zi Wt) ZdP<|Za (Yc ZcM ZcN) ZdQ<|Za (XI Xx (k (nI .i64 7)) 8 1) ZdR<|Za (Zu ZcP) ZdS<|Za (Zi Wd) ZdT<|Za (Yc ZcQ ZcR) ZdU<|Za (UF [(nI .u32 0),(nI .u32 0),(nI .u32 0),(nI .u32 0),(nI .u32 0),(nI .u32 0),(nI .u32 0),(nI .u32 0)] [⟨0,1,iO⟩,⟨1,1,Zcu⟩,⟨2,1,Zcy⟩,⟨3,1,ZcC⟩,⟨4,1,ZcG⟩,⟨5,1,ZcK⟩,⟨6,1,ZcO⟩,⟨7,1,ZcS⟩]) ZdV<|Za (YC Wm ZcT 8) d0<|Zc) Z8))))))⟩
def c27:CF:=⟨[(Yu,some (64,true))],(Zg (Za (TV 80 64 (nI .u32 0)) st0<|Zc) (Zg (Za (UF [(nI .u32 0),(nI .u32 0),(nI .u32 0),(nI .u32 0),(nI .u32 0),(nI .u32 0),(nI .u32 0),(nI .u32 0),(nI .u32 0),(nI .u32 0),(nI .u32 0),(nI .u32 0),(nI .u32 0),(nI .u32 0),(nI .u32 0),(nI .u32 0),(nI .u32 0),(nI .u32 0),(nI .u32 0),(nI .u32 0),(nI .u32 0),(nI .u32 0),(nI .u32 0),(nI .u32 0),(nI .u32 0),(nI .u32 0),(nI .u32 0),(nI .u32 0),(nI .u32 0),(nI .u32 0),(nI .u32 0),(nI .u32 0),(nI .u32 0),(nI .u32 0),(nI .u32 0),(nI .u32 0),(nI .u32 0),(nI .u32 0),(nI .u32 0),(nI .u32 0),(nI .u32 0),(nI .u32 0),(nI .u32 0),(nI .u32 0),(nI .u32 0),(nI .u32 0),(nI .u32 0),(nI .u32 0),(nI .u32 0),(nI .u32 0),(nI .u32 0),(nI .u32 0),(nI .u32 0),(nI .u32 0),(nI .u32 0),(nI .u32 0),(nI .u32 0),(nI .u32 0),(nI .u32 0),(nI .u32 0),(nI .u32 0),(nI .u32 0),(nI .u32 0),(nI .u32 0)] [⟨0,1,(k (nI .u32 1116352408))⟩,⟨1,1,(k (nI .u32 1899447441))⟩,⟨2,1,(k (nI .u32 3049323471))⟩,⟨3,1,(k (nI .u32 3921009573))⟩,⟨4,1,(k (nI .u32 961987163))⟩,⟨5,1,(k (nI .u32 1508970993))⟩,⟨6,1,(k (nI .u32 2453635748))⟩,⟨7,1,(k (nI .u32 2870763221))⟩,⟨8,1,(k (nI .u32 3624381080))⟩,⟨9,1,(k (nI .u32 310598401))⟩,⟨10,1,(k (nI .u32 607225278))⟩,⟨11,1,(k (nI .u32 1426881987))⟩,⟨12,1,(k (nI .u32 1925078388))⟩,⟨13,1,(k (nI .u32 2162078206))⟩,⟨14,1,(k (nI .u32 2614888103))⟩,⟨15,1,(k (nI .u32 3248222580))⟩,⟨16,1,(k (nI .u32 3835390401))⟩,⟨17,1,(k (nI .u32 4022224774))⟩,⟨18,1,(k (nI .u32 264347078))⟩,⟨19,1,(k (nI .u32 604807628))⟩,⟨20,1,(k (nI .u32 770255983))⟩,⟨21,1,(k (nI .u32 1249150122))⟩,⟨22,1,(k (nI .u32 1555081692))⟩,⟨23,1,(k (nI .u32 1996064986))⟩,⟨24,1,(k (nI .u32 2554220882))⟩,⟨25,1,(k (nI .u32 2821834349))⟩,⟨26,1,(k (nI .u32 2952996808))⟩,⟨27,1,(k (nI .u32 3210313671))⟩,⟨28,1,(k (nI .u32 3336571891))⟩,⟨29,1,(k (nI .u32 3584528711))⟩,⟨30,1,(k (nI .u32 113926993))⟩,⟨31,1,(k (nI .u32 338241895))⟩,⟨32,1,(k (nI .u32 666307205))⟩,⟨33,1,(k (nI .u32 773529912))⟩,⟨34,1,(k (nI .u32 1294757372))⟩,⟨35,1,(k (nI .u32 1396182291))⟩,⟨36,1,(k (nI .u32 1695183700))⟩,⟨37,1,(k (nI .u32 1986661051))⟩,⟨38,1,(k (nI .u32 2177026350))⟩,⟨39,1,(k (nI .u32 2456956037))⟩,⟨40,1,(k (nI .u32 2730485921))⟩,⟨41,1,(k (nI .u32 2820302411))⟩,⟨42,1,(k (nI .u32 3259730800))⟩,⟨43,1,(k (nI .u32 3345764771))⟩,⟨44,1,(k (nI .u32 3516065817))⟩,⟨45,1,(k (nI .u32 3600352804))⟩,⟨46,1,(k (nI .u32 4094571909))⟩,⟨47,1,(k (nI .u32 275423344))⟩,⟨48,1,(k (nI .u32 430227734))⟩,⟨49,1,(k (nI .u32 506948616))⟩,⟨50,1,(k (nI .u32 659060556))⟩,⟨51,1,(k (nI .u32 883997877))⟩,⟨52,1,(k (nI .u32 958139571))⟩,⟨53,1,(k (nI .u32 1322822218))⟩,⟨54,1,(k (nI .u32 1537002063))⟩,⟨55,1,(k (nI .u32 1747873779))⟩,⟨56,1,(k (nI .u32 1955562222))⟩,⟨57,1,(k (nI .u32 2024104815))⟩,⟨58,1,(k (nI .u32 2227730452))⟩,⟨59,1,(k (nI .u32 2361852424))⟩,⟨60,1,(k (nI .u32 2428436474))⟩,⟨61,1,(k (nI .u32 2756734187))⟩,⟨62,1,(k (nI .u32 3204031479))⟩,⟨63,1,(k (nI .u32 3329325298))⟩]) st1<|Za (YC Yu XR 64) d0<|Zc) Z8))⟩
def c42:CF:=⟨[(Xu,none)],(Zg (Za (Zi (k (nI .u32 0))) Xi<|Zc) (Zg (WE [⟨Zi Yu,none,[(st0,Yu)],WZ,.free,0,0⟩,⟨Zi XR,none,[(st1,XR)],Vv,.free,1,0⟩,⟨Md YT Wm,none,[(WZ,YT),(Vv,Wm)],Vw,.free,2,3⟩,⟨Zi Yu,none,[(st0,Yu)],Vc,.free,3,0⟩,⟨Zi XR,none,[(st1,XR)],Uh,.free,4,0⟩,⟨VZ (k (nI .i64 32)) WO,none,[(Uh,WO)],XJ,.free,5,16⟩,⟨Al Xt YB,none,[(Vc,Xt),(XJ,YB)],XF,.free,6,56⟩,⟨WP XY YN Dc,none,[(Vw,XY),(XF,YN)],X7,.free,7,127⟩,⟨Zi Xj,none,[(X7,Xj)],Xi,.eff,8,255⟩]) Z8))⟩
end
section
open Go.Proofs N8
def wg:CF:=⟨[(Xu,none)],(Zg (Za (Zi (k (nI .u32 0))) Xi<|Zc) (Zg (Za (Zi Yu) WZ<|Za (Zi XR) Vv<|Za (xG Wm) Vw<|Za (ZB 97 [YT,XY]) Vc<|Za (Zi Xt) Xi<|Zc) Z8))⟩
def yR:CF:=⟨[(Xu,none)],(Zg (Za (Zi (k (nI .u32 0))) Xi<|Zc) (Zg (Za (Zi XR) Vv<|Za (SQ Wm .u64) Vw<|Za (WP XY (k (nI .u64 31)) TZ) Vc<|Za (Zi Xt) WZ<|Zc) (Zg (Za (Zi Yu) Uh<|Za (Zi YT) XJ<|Za (Al WO YB) XF<|Za (Zi Yu) X7<|Za (Zi YT) X5<|Za (VZ (k (nI .u64 32)) Y6) WK<|Za (Md Xj XQ) WA<|Za (WP YN XW Dc) WB<|Za (Zi X6) Xi<|Zc) Z8)))⟩
def Iv:D:=(Zg (Za (Yj Wz Va X1 YK) Uf<|Zc) (Zg (ZL VX Zc (XG 2)) (Zg (ZY 3 (Zg (Za (WJ WV Wz 1) Ug<|Za (Zu VD) Ul<|Za (Zi VR) Vv<|Zc) (Za (Zi Xu) Uq<|Za (Zi Xu) UP<|Za (XI Xx Vq 64 1) UV<|Za (Zu UX) Th<|Za (Al UM (k (nI .u64 8))) TS<|Za (Zi Wm) T7<|Za (SQ Tl .u32) Sw<|Za (WP UY UR Dc) SB<|Za (XI Xx VE 64 1) SU<|Za (YC T3 Tm 1) d0<|Zc))) (Za (Yc Wz (k (nI .i64 1))) SV<|Za (Zi SM) V3<|Zc))))
def LF:D:=(Zg (Za (Yj YN (k (nI .i64 64)) X1 YK) X7<|Zc) (Zg (ZL Xj Zc (XG 0)) (Zg (ZY 1 (Zg (Za (Zi YN) X5<|Za (Zi Y6) Xi<|Zc) (Zg (Zg (Za (Zi Xu) WK<|Za (Yj XQ (k (nI .i64 16)) X1 YK) WA<|Zc) (ZL XW (Zg (Zg (Za (Zi Yu) WB<|Za (Zi Xu) WX<|Za (Nm (k (nI .i64 4)) Wt) WY<|Za (Zi Xu) Vo<|Za (Nm (k (nI .i64 4)) XO) VA<|Za (Yc Vg (k (nI .i64 4))) V1<|Za (TQ 1 X6 (some Wd) (some WU) none) V2<|Za (Xe WV) V5<|Za (Zi (k (nI .i64 0))) V3<|Zc) (ZY 2 (XS Iv))) (XG 1)) Zc)) (Zg (WE [⟨Zi Xu,none,[(Xi,Xu)],SC,.free,0,0⟩,⟨VZ TX (k (nI .i64 15)),none,[(SC,TX)],S1,.free,1,1⟩,⟨XI Xx Sj 64 1,none,[(VM,Xx),(S1,Sj)],Rh,.free,2,3⟩,⟨Zu T4,none,[(Rh,T4)],Ri,.read,3,7⟩,⟨Zi Xu,none,[(Xi,Xu)],Ro,.free,4,0⟩,⟨VZ Sq (k (nI .i64 2)),none,[(Ro,Sq)],SW,.free,5,16⟩,⟨XI Xx Rb 64 1,none,[(VM,Xx),(SW,Rb)],RA,.free,6,48⟩,⟨Zu To,none,[(RA,To)],Qe,.read,7,112⟩,⟨Zi SX,none,[(Ri,SX)],Vw,.eff,8,15⟩,⟨Zi SN,none,[(Qe,SN)],Vc,.eff,9,511⟩]) (Zg (Za (Zi XY) Qw<|Za (ZB 74 [RH,(k (nI .i64 7))]) Qx<|Za (Zi XY) QK<|Za (ZB 74 [QD,(k (nI .i64 18))]) QL<|Za (WP TY SY Nt) Q1<|Za (Zi XY) Q2<|Za (Md Sr (k (nI .u64 3))) Q3<|Za (WP QE QF Nt) QM<|Za (Zi QV) Uh<|Zc) (Zg (Za (Zi Xt) Qy<|Za (ZB 74 [Te,(k (nI .i64 17))]) QN<|Za (Zi Xt) Qz<|Za (ZB 74 [SZ,(k (nI .i64 19))]) QO<|Za (WP Qo QG Nt) Q4<|Za (Zi Xt) Q5<|Za (Md RV (k (nI .u64 10))) QA<|Za (WP S0 Rx Nt) Pr<|Za (Zi RI) XJ<|Zc) (WE [⟨Zi Xu,none,[(Xi,Xu)],Q6,.free,0,0⟩,⟨Zi YB,none,[(XJ,YB)],QP,.free,1,0⟩,⟨Zi Xu,none,[(Xi,Xu)],Ps,.free,2,0⟩,⟨VZ Ph (k (nI .i64 7)),none,[(Ps,Ph)],PJ,.free,3,4⟩,⟨XI Xx PF 64 1,none,[(VM,Xx),(PJ,PF)],Od,.free,4,12⟩,⟨Zu PG,none,[(Od,PG)],Na,.read,5,28⟩,⟨Yc RX P9,none,[(QP,RX),(Na,P9)],NE,.free,6,62⟩,⟨Zi WO,none,[(Uh,WO)],Me,.free,7,0⟩,⟨Yc Ot Ma,none,[(NE,Ot),(Me,Ma)],Mf,.free,8,254⟩,⟨Zi Xu,none,[(Xi,Xu)],MQ,.free,9,0⟩,⟨VZ MG (k (nI .i64 16)),none,[(MQ,MG)],Lo,.free,10,512⟩,⟨XI Xx PX 64 1,none,[(VM,Xx),(Lo,PX)],MR,.free,11,1536⟩,⟨Zu QH,none,[(MR,QH)],MT,.read,12,3584⟩,⟨Yc Ou MH,none,[(Mf,Ou),(MT,MH)],MU,.free,13,8190⟩,⟨XI Xx RW 64 1,none,[(VM,Xx),(Q6,RW)],Lq,.free,14,16383⟩,⟨YC M5 OV 1,none,[(Lq,M5),(MU,OV)],d0,.eff,15,32767⟩]))))))) (Za (Yc YN (k (nI .i64 1))) KB<|Za (Zi Kw) XF<|Zc))))
def kP:CF:=⟨[(Vt,some (64,true))],(Zg (Za (TV 80 64 (nI .u32 0)) st2<|Zc) (Zg (Za (TV 80 64 (nI .u32 0)) VM<|Zc) (Zg (Zg (Za (Zi (k (nI .i64 0))) XF<|Zc) (ZY 0 (XS LF))) (Zg (Za (Wk Xx 64) KC<|Za (YC Vt Mb 64) d0<|Zc) Z8))))⟩
def Is:D:=(Zg (Za (Yj Wd (k (nI .i64 64)) X1 YK) Vo<|Zc) (Zg (ZL XO Zc (XG 0)) (Zg (ZY 1 (Zg (Za (Zi Wd) VA<|Za (Zi Vg) Vv<|Zc) (Zg (WE [⟨XI Xu (k (nI .i64 4)) 8 1,none,[(Xi,Xu)],V1,.free,0,0⟩,⟨Zu WU,none,[(V1,WU)],V2,.read,1,1⟩,⟨XI Xu (k (nI .i64 0)) 8 1,none,[(Xi,Xu)],V5,.free,2,0⟩,⟨Zu Va,none,[(V5,Va)],V3,.read,3,4⟩,⟨Zi WV,none,[(V2,WV)],Vw,.eff,4,3⟩,⟨Zi Wz,none,[(V3,Wz)],Vc,.eff,5,31⟩]) (Zg (WE [⟨XI Xu (k (nI .i64 7)) 8 1,none,[(Xi,Xu)],Uf,.free,0,0⟩,⟨Zu VX,none,[(Uf,VX)],Ug,.read,1,1⟩,⟨Zi XY,none,[(Vw,XY)],Ul,.free,2,0⟩,⟨Zi XY,none,[(Vw,XY)],UP,.free,4,0⟩,⟨Zi XY,none,[(Vw,XY)],TS,.free,7,0⟩,⟨Zi XY,none,[(Vw,XY)],SU,.free,11,0⟩,⟨XI Xu (k (nI .i64 5)) 8 1,none,[(Xi,Xu)],SV,.free,12,0⟩,⟨Zu SM,none,[(SV,SM)],SC,.read,13,4096⟩,⟨WP T3 TX TZ,none,[(SU,T3),(SC,TX)],S1,.free,14,14336⟩,⟨Zi XY,none,[(Vw,XY)],Rh,.free,15,0⟩,⟨p9 T4,none,[(Rh,T4)],Ri,.free,16,32768⟩,⟨XI Xu (k (nI .i64 6)) 8 1,none,[(Xi,Xu)],Ro,.free,17,0⟩,⟨Zu Sq,none,[(Ro,Sq)],SW,.read,18,131072⟩,⟨WP SX Rb TZ,none,[(Ri,SX),(SW,Rb)],RA,.free,19,491520⟩,⟨WP Sj To Nt,none,[(S1,Sj),(RA,To)],Qe,.free,20,1046528⟩,⟨Zi Wm,none,[(Vv,Wm)],Qx,.free,22,0⟩,⟨XI (k (.ptr 3 0)) TY 64 1,none,[(Qx,TY)],QK,.free,23,4194304⟩,⟨Zu QD,none,[(QK,QD)],QL,.read,24,12582912⟩,⟨Zi Wm,none,[(Vv,Wm)],Q2,.free,26,0⟩,⟨XI YT Sr 64 1,none,[(WZ,YT),(Q2,Sr)],Q3,.free,27,67108864⟩,⟨Zu QF,none,[(Q3,QF)],QM,.read,28,201326592⟩,⟨ZB 74 [VR,(k (nI .i64 6))],none,[(Ul,VR)],Uq,.eff,3,4⟩,⟨ZB 74 [Vq,(k (nI .i64 11))],none,[(UP,Vq)],UV,.eff,5,28⟩,⟨WP VE UX Nt,none,[(Uq,VE),(UV,UX)],Th,.free,6,60⟩,⟨ZB 74 [UY,(k (nI .i64 25))],none,[(TS,UY)],T7,.eff,8,188⟩,⟨WP UM Tl Nt,none,[(Th,UM),(T7,Tl)],Sw,.free,9,508⟩,⟨Yc VD UR,none,[(Ug,VD),(Sw,UR)],SB,.free,10,1023⟩,⟨Yc Tm SN,none,[(SB,Tm),(Qe,SN)],Qw,.free,21,2097151⟩,⟨Yc RH SY,none,[(Qw,RH),(QL,SY)],Q1,.free,25,33554431⟩,⟨Yc QE QV,none,[(Q1,QE),(QM,QV)],Qy,.free,29,536870911⟩,⟨Zi Te,none,[(Qy,Te)],Uh,.eff,30,1073741823⟩]) (Zg (WE [⟨Zi Xt,none,[(Vc,Xt)],QN,.free,0,0⟩,⟨Zi Xt,none,[(Vc,Xt)],QO,.free,2,0⟩,⟨Zi Xt,none,[(Vc,Xt)],QA,.free,5,0⟩,⟨Zi Xt,none,[(Vc,Xt)],QP,.free,8,0⟩,⟨XI Xu (k (nI .i64 1)) 8 1,none,[(Xi,Xu)],Ps,.free,9,0⟩,⟨Zu Ph,none,[(Ps,Ph)],PJ,.read,10,512⟩,⟨WP RX PF TZ,none,[(QP,RX),(PJ,PF)],Od,.free,11,1792⟩,⟨Zi Xt,none,[(Vc,Xt)],Na,.free,12,0⟩,⟨XI Xu (k (nI .i64 2)) 8 1,none,[(Xi,Xu)],NE,.free,13,0⟩,⟨Zu Ot,none,[(NE,Ot)],Me,.read,14,8192⟩,⟨WP P9 Ma TZ,none,[(Na,P9),(Me,Ma)],Mf,.free,15,28672⟩,⟨WP PG Ou Nt,none,[(Od,PG),(Mf,Ou)],MQ,.free,16,65280⟩,⟨XI Xu (k (nI .i64 1)) 8 1,none,[(Xi,Xu)],Lo,.free,17,0⟩,⟨Zu PX,none,[(Lo,PX)],MR,.read,18,131072⟩,⟨XI Xu (k (nI .i64 2)) 8 1,none,[(Xi,Xu)],MT,.free,19,0⟩,⟨Zu MH,none,[(MT,MH)],MU,.read,20,524288⟩,⟨WP QH OV TZ,none,[(MR,QH),(MU,OV)],Lq,.free,21,1966080⟩,⟨WP MG M5 Nt,none,[(MQ,MG),(Lq,M5)],KB,.free,22,4194048⟩,⟨ZB 74 [Qo,(k (nI .i64 2))],none,[(QN,Qo)],Qz,.eff,1,1⟩,⟨ZB 74 [QG,(k (nI .i64 13))],none,[(QO,QG)],Q4,.eff,3,7⟩,⟨WP SZ S0 Nt,none,[(Qz,SZ),(Q4,S0)],Q5,.free,4,15⟩,⟨ZB 74 [Rx,(k (nI .i64 22))],none,[(QA,Rx)],Pr,.eff,6,47⟩,⟨WP RV RI Nt,none,[(Q5,RV),(Pr,RI)],Q6,.free,7,127⟩,⟨Yc RW Kw,none,[(Q6,RW),(KB,Kw)],KC,.free,23,8388607⟩,⟨Zi Mb,none,[(KC,Mb)],XJ,.eff,24,16777215⟩]) (Zg (WE [⟨Pm 8 1 Xu (some (k (nI .i64 1))) none none,none,[(Xi,Xu)],KD,.free,0,0⟩,⟨Pm 8 1 Xu none (some (k (nI .i64 7))) none,none,[(Xi,Xu)],KE,.free,1,0⟩,⟨EU Nk Kx 1,none,[(KD,Nk),(KE,Kx)],Jp,.eff,2,3⟩]) (Zg (Za (XI Xu (k (nI .i64 4)) 8 1) JW<|Za (Zu JT) JX<|Za (Zi WO) JY<|Za (Yc JU Oa) GX<|Za (XI Xu (k (nI .i64 4)) 8 1) GY<|Za (YC HU Ky 1) d0<|Zc) (Za (Zi WO) F5<|Za (Zi YB) F6<|Za (Yc M6 IG) F7<|Za (XI Xu (k (nI .i64 0)) 8 1) F8<|Za (YC FD FC 1) d0<|Zc)))))))) (Za (Yc Wd (k (nI .i64 1))) F9<|Za (Zi KX) WY<|Zc))))
def It:D:=(Zg (Za (Yj Kz (k (nI .i64 8)) X1 YK) Dg<|Zc) (Zg (ZL E8 Zc (XG 2)) (Zg (ZY 3 (Zg (Za (Zi Kz) Dh<|Za (Zi E9) XF<|Zc) (WE [⟨Zi Yu,none,[(st0,Yu)],GZ,.free,0,0⟩,⟨Zi YN,none,[(XF,YN)],G0,.free,1,0⟩,⟨TD IH,none,[(GZ,IH)],Eb,.free,2,1⟩,⟨Z7 JV 0,none,[(Eb,JV)],Ec,.free,3,5⟩,⟨XI Da II 8 1,none,[(Ec,Da),(G0,II)],Ed,.free,4,15⟩,⟨Zu FE,none,[(Ed,FE)],Lk,.read,5,31⟩,⟨Zi YN,none,[(XF,YN)],Ll,.free,6,0⟩,⟨XI Xu M1 8 1,none,[(Xi,Xu),(Ll,M1)],Kq,.free,7,64⟩,⟨Zu Nv,none,[(Kq,Nv)],Kr,.read,8,192⟩,⟨Yc M0 Nw,none,[(Lk,M0),(Kr,Nw)],Ks,.free,9,511⟩,⟨TD IH,none,[(GZ,IH)],Kt,.free,10,1⟩,⟨Z7 M2 0,none,[(Kt,M2)],Ku,.free,11,1025⟩,⟨XI Kj II 8 1,none,[(Ku,Kj),(G0,II)],Ln,.free,12,4095⟩,⟨YC OS Ki 1,none,[(Ln,OS),(Ks,Ki)],d0,.eff,13,8191⟩]))) (Za (Yc Kz (k (nI .i64 1))) Jo<|Za (Zi M3) Ea<|Zc))))
def js:CF:=⟨[],(Zg (Za (Zi Yu) X7<|Za (TD Xj) X5<|Za (Z7 Y6 0) WK<|Za (Wk XQ 8) WA<|Za (WF 82 [(nI .u32 0),(nI .u32 0),(nI .u32 0),(nI .u32 0),(nI .u32 0),(nI .u32 0),(nI .u32 0),(nI .u32 0)]) Xi<|Za (YC Xu XW 8) d0<|Zc) (Zg (Za (Zi XR) WB<|Za (ZB 73 [X6]) WX<|Za (TV 80 64 (nI .u32 0)) WZ<|Za (YC YT Wt 64) d0<|Zc) (Zg (Zg (Za (Zi (k (nI .i64 0))) WY<|Zc) (ZY 0 (XS Is))) (Zg (Za (Zi (k (nI .i64 0))) Ea<|Zc) (ZY 2 (XS It))))))⟩
def Fq:D:=(Zg (Zg (Za (Zi Yu) WZ<|Za (Xe YT) Vv<|Za (Yj Wm (k (nI .i64 64)) SA Wx) Vw<|Zc) (ZL XY Zc (XG 0))) (Zg (ZY 1 (Za (Zi XR) XJ<|Za (Zi Yu) XF<|Za (TQ 1 YN none (some (k (nI .i64 64))) none) X7<|Za (OZ YB Tryz.prog [Xj]) X5<|Zc)) (Za (Zi Yu) Vc<|Za (TQ 1 Xt (some (k (nI .i64 64))) none none) Uh<|Za (Zi WO) st0<|Zc)))
def aP:CF:=⟨[(Xu,none)],(Zg (Za (Zi (k .nils)) Xi<|Zc) (Zg (ZY 0 (XS Fq)) (Zg (Za (Zi Yu) WK<|Za (Zi XQ) Xi<|Zc) Z8)))⟩
def aO:CF:=⟨[(Vt,none)],(Zg (Za (Zi (k (.bool false))) st2<|Zc) (Zg (Za (Zi Yu) VM<|Za (Vu Xx (k .nilp) nA false) Xi<|Za (Zi Xu) WZ<|Zx YT false (Zi Yu) Vv<|Zx YT false (TD Wm) Vw<|Zx YT false (Z7 XY 10) Vc<|Zx YT false (Zu Xt) Uh<|Zx YT false (PH WO) XJ<|Za (Yg YT (k (.bool true)) YB) XF<|Za (Zi YN) st2<|Zc) Z8))⟩
def Fk:D:=(Zg (Zg (Za (Zi YT) V3<|Za (Xe Wz) Uf<|Za (vX VX (k (nI .i64 64))) Ug<|Za (Vu VD (k (nI .i64 56)) Uk true) Ul<|Zc) (ZL VR Zc (XG 0))) (ZY 1 (Za (Zi YT) Uq<|Za (We 5 1 1 [(nI .u8 0)] [⟨0,1,(k (nI .u8 0))⟩]) UP<|Za (W7 VE Vq 5 1 1) UV<|Za (Zi UX) WZ<|Zc)))
def Fl:D:=(Zg (Zg (Za (Zi Wm) Th<|Za (Yj UM (k (nI .i64 0)) SA Wx) TS<|Zc) (ZL UY Zc (XG 2))) (Zg (ZY 3 (Za (Zi YT) SB<|Za (Zi Yu) SU<|Za (TD T3) SV<|Za (Z7 SM 9) SC<|Za (Zu TX) S1<|Za (Al Sj (k (nI .u64 3))) Rh<|Za (Zi Wm) Ri<|Za (Nm (k (nI .i64 8)) SX) Ro<|Za (Md T4 Sq) SW<|Za (SQ Rb .u8) RA<|Za (We 5 1 1 [(nI .u8 0)] [⟨0,1,To⟩]) Qe<|Za (W7 Tm SN 5 1 1) Qw<|Za (Zi RH) WZ<|Zc)) (Za (Zi Wm) T7<|Za (VZ Tl (k (nI .i64 1))) Sw<|Za (Zi UR) Vv<|Zc)))
def Fm:D:=(Zg (Za (Yj Sr (k (nI .i64 32)) X1 YK) Q3<|Zc) (Zg (ZL QF Zc (XG 4)) (Zg (ZY 5 (Zg (Za (Zi Sr) QM<|Za (Zi QV) Vw<|Zc) (Za (Zi XY) Qy<|Za (Zi Xu) QN<|Za (Zi XY) Qz<|Za (xH SZ (k (nI .i64 4))) QO<|Za (TD Qo) Q4<|Za (Z7 S0 0) Q5<|Za (XI RV QG 8 1) QA<|Za (Zu Rx) Pr<|Za (Zi XY) Q6<|Za (vX RW (k (nI .i64 4))) QP<|Za (Nm (k (nI .i64 8)) RX) Ps<|Za (VZ (k (nI .i64 24)) Ph) PJ<|Za (Md RI PF) Od<|Za (SQ PG .u8) Na<|Za (XI Xx Te 32 1) NE<|Za (YC Ot P9 1) d0<|Zc))) (Za (Yc Sr (k (nI .i64 1))) Me<|Za (Zi Ma) Q2<|Zc))))
def c35:CF:=⟨[(Vt,some (32,true))],(Zg (Za (TV 55 32 (nI .u8 0)) st2<|Zc) (Zg (Za (TV 55 32 (nI .u8 0)) VM<|Zc) (Zg (Zg (Za (Zi Yu) Vc<|Za (ZB 54 [Xt]) Uh<|Zc) (ZL WO (Zg (Za (Wk Xx 32) XJ<|Za (YC Vt YB 32) d0<|Zc) Z8) Zc)) (Zg (Za (Zi Yu) XF<|Za (TD YN) X7<|Za (Z7 Xj 0) X5<|Za (Wk Y6 8) WK<|Za (UF [(nI .u32 0),(nI .u32 0),(nI .u32 0),(nI .u32 0),(nI .u32 0),(nI .u32 0),(nI .u32 0),(nI .u32 0),.nils,(nI .u64 0),(.bool false)] [⟨0,8,XQ⟩,⟨10,1,(k (.bool true))⟩]) WA<|Za (Mc XW 113) WB<|Za (Zi X6) Xi<|Zc) (Zg (Za (Zi Yu) WX<|Za (TD Wt) WY<|Za (Z7 Wd 8) Vo<|Za (Zu XO) VA<|Za (W7 (k .nils) Vg 5 1 1) V1<|Za (We 5 1 1 [(nI .u8 0)] [⟨0,1,(k (nI .u8 128))⟩]) V2<|Za (W7 WU WV 5 1 1) V5<|Za (Zi Va) WZ<|Zc) (Zg (ZY 0 (XS Fk)) (Zg (Zg (Za (Zi (k (nI .i64 7))) Vv<|Zc) (ZY 2 (XS Fl))) (Zg (Za (Zi YT) Qx<|Za (Zi Xu) QK<|Za (Ib 56 [QD] []) QL<|Za (ZB 55 [TY,SY]) Q1<|Zc) (Zg (Zg (Za (Zi (k (nI .i64 0))) Q2<|Zc) (ZY 4 (XS Fm))) (Zg (Za (Wk Xx 32) Mf<|Za (YC Vt Ou 32) d0<|Zc) Z8))))))))))⟩
def c34:CF:=⟨[(Xu,none)],(Zg (Za (Zi (k (nI .i64 0))) Xi<|Zc) (Zg (Zg (Za (Zi Yu) Vv<|Za (ZB 54 [Wm]) Vw<|Zc) (ZL XY (Zg (Za (Zi (k (nI .i64 2))) Xi<|Zc) Z8) Zc)) (Zg (Za (Zi Yu) Vc<|Za (TD Xt) Uh<|Za (Z7 WO 9) XJ<|Za (Zu YB) XF<|Za (Zi XR) X7<|Za (Xe Xj) X5<|Za (SQ Y6 .u64) WK<|Za (Yc YN XQ) WA<|Za (TD Xt) WB<|Za (Z7 X6 9) WX<|Za (YC Wt XW 1) d0<|Zc) (Zg (Za (Zi Yu) WY<|Za (TD Wd) Vo<|Za (Z7 XO 8) VA<|Za (Zu Vg) V1<|Za (Zi XR) V2<|Za (W7 WU WV 5 1 1) V5<|Za (Zi Yu) V3<|Za (Ib 56 [Wz] []) Uf<|Za (ZB 55 [Va,VX]) Ug<|Za (Zi VD) WZ<|Zc) (Zg (Za (Zi Yu) Ul<|Za (Zi YT) Uq<|Za (W7 (k .nils) VE 5 1 1) UP<|Za (TD VR) UV<|Za (Z7 UX 8) Th<|Za (YC UM Vq 1) d0<|Zc) (Zg (Za (Zi (k (nI .i64 0))) Xi<|Zc) Z8))))))⟩
def c33:CF:=⟨[(Yu,none)],(Zg (Za (Zi (k .nilp)) st0<|Zc) (Zg (Za (Wk (k (.ptr 2 0)) 8) st1<|Za (UF [(nI .u32 0),(nI .u32 0),(nI .u32 0),(nI .u32 0),(nI .u32 0),(nI .u32 0),(nI .u32 0),(nI .u32 0),.nils,(nI .u64 0),(.bool false)] [⟨0,8,XR⟩,⟨10,1,(k (.bool true))⟩]) st2<|Za (Mc Vt 113) VM<|Za (Zi Xx) st0<|Zc) Z8))⟩
def jr:D:=(Zg (Za (Yj WO Xt X1 YK) XJ<|Zc) (Zg (ZL YB Zc (XG 0)) (Zg (ZY 1 (Zg (Za (WJ XY WO 1) XF<|Za (Zu YN) X7<|Za (Zi Xj) WZ<|Zc) (Za (Zi Xx) X5<|Za (Zi YT) WK<|Za (ZB 34 [Y6,XQ]) WA<|Zc))) (Za (Yc WO (k (nI .i64 1))) WB<|Za (Zi X6) Uh<|Zc))))
def c24:CF:=⟨[(Vt,some (32,true))],(Zg (Za (TV 55 32 (nI .u8 0)) st2<|Zc) (Zg (Za (ZB 33 []) Vv<|Za (Zi Wm) VM<|Zc) (Zg (Zg (Za (Zi Yu) Vw<|Za (Xe XY) Vc<|Za (Zi (k (nI .i64 0))) Uh<|Zc) (ZY 0 (XS jr))) (Zg (Za (Zi Xx) WX<|Za (ZB 35 [Wt]) WY<|Za (YC Vt Wd 32) d0<|Zc) Z8))))⟩
def c15:CF:=⟨[(Vt,some (32,true))],(Zg (Za (TV 55 32 (nI .u8 0)) st2<|Zc) (Zg (Za (Zi Yu) VM<|Za (We 24 1 1 [.nils] [⟨0,1,Xx⟩]) Xi<|Za (ZB 24 [Xu]) WZ<|Za (YC Vt YT 32) d0<|Zc) Z8))⟩
end
def QY:Nat->Nat
 |9=>1
 |11=>14
 |12=>1
 |14=>1
 |16=>7
 |17=>1
 |18=>3
 |22=>13
 |25=>5
 |26=>6
 |27=>1
 |28=>2
 |31=>11
 |32=>12
 |37=>2
 |38=>3
 |39=>1
 |40=>4
 |41=>1
 |42=>1
 |47=>3
 |48=>3
 |49=>3
 |50=>10
 |51=>6
 |52=>6
 |53=>3
 |57=>1
 |65=>2
 |66=>2
 |67=>2
 |70=>7
 |71=>5
 |72=>2
 |90=>1
 |91=>1
 |92=>1
 |95=>4
 |96=>1
 |108=>3
 |109=>1
 |110=>1
 |111=>1
 |116=>3
 |124=>1
 |125=>1
 |132=>2
 |172=>1
 |173=>1
 |174=>4
 |_=>0
def Nq:Lib:=λ_ _ _=>none
abbrev LK(Zr:Lib)(fs:T CF)(fuel k:Nat):Lib:=Db Zr fs fuel QY Nq k
structure Env(Zr:Lib)(fs:T CF)(fuel:Nat):Prop where
 big:100000<=fuel
 f3:fs.get 3=some c3
 n3: ∀l H,Zr 3 l H=none
 f4:fs.get 4=some c4
 n4: ∀l H,Zr 4 l H=none
 f5:fs.get 5=some c5
 n5: ∀l H,Zr 5 l H=none
 f6:fs.get 6=some c6
 n6: ∀l H,Zr 6 l H=none
 f7:fs.get 7=some c7
 n7: ∀l H,Zr 7 l H=none
 f8:fs.get 8=some c8
 n8: ∀l H,Zr 8 l H=none
 f9:fs.get 9=some c9
 n9: ∀l H,Zr 9 l H=none
 f11:fs.get 11=some c11
 n11: ∀l H,Zr 11 l H=none
 f12:fs.get 12=some c12
 n12: ∀l H,Zr 12 l H=none
 f13:fs.get 13=some c13
 n13: ∀l H,Zr 13 l H=none
 f14:fs.get 14=some c14
 n14: ∀l H,Zr 14 l H=none
 f16:fs.get 16=some c16
 n16: ∀l H,Zr 16 l H=none
 f17:fs.get 17=some c17
 n17: ∀l H,Zr 17 l H=none
 f18:fs.get 18=some c18
 n18: ∀l H,Zr 18 l H=none
 f21:fs.get 21=some c21
 n21: ∀l H,Zr 21 l H=none
 f22:fs.get 22=some kO
 n22: ∀l H,Zr 22 l H=none
 f23:fs.get 23=some c23
 n23: ∀l H,Zr 23 l H=none
 f25:fs.get 25=some c25
 n25: ∀l H,Zr 25 l H=none
 f26:fs.get 26=some aN
 n26: ∀l H,Zr 26 l H=none
 f27:fs.get 27=some c27
 n27: ∀l H,Zr 27 l H=none
 f28:fs.get 28=some c28
 n28: ∀l H,Zr 28 l H=none
 f31:fs.get 31=some c31
 n31: ∀l H,Zr 31 l H=none
 f32:fs.get 32=some c32
 n32: ∀l H,Zr 32 l H=none
 f36:fs.get 36=some c36
 n36: ∀l H,Zr 36 l H=none
 f37:fs.get 37=some c37
 n37: ∀l H,Zr 37 l H=none
 f38:fs.get 38=some c38
 n38: ∀l H,Zr 38 l H=none
 f39:fs.get 39=some c39
 n39: ∀l H,Zr 39 l H=none
 f40:fs.get 40=some c40
 n40: ∀l H,Zr 40 l H=none
 f41:fs.get 41=some c41
 n41: ∀l H,Zr 41 l H=none
 f42:fs.get 42=some c42
 n42: ∀l H,Zr 42 l H=none
 f47:fs.get 47=some c47
 n47: ∀l H,Zr 47 l H=none
 f48:fs.get 48=some c48
 n48: ∀l H,Zr 48 l H=none
 f49:fs.get 49=some c49
 n49: ∀l H,Zr 49 l H=none
 f50:fs.get 50=some c50
 n50: ∀l H,Zr 50 l H=none
 f51:fs.get 51=some c51
 n51: ∀l H,Zr 51 l H=none
 f52:fs.get 52=some c52
 n52: ∀l H,Zr 52 l H=none
 f53:fs.get 53=some c53
 n53: ∀l H,Zr 53 l H=none
 f57:fs.get 57=some c57
 n57: ∀l H,Zr 57 l H=none
 f65:fs.get 65=some c65
 n65: ∀l H,Zr 65 l H=none
 f66:fs.get 66=some c66
 n66: ∀l H,Zr 66 l H=none
 f67:fs.get 67=some c67
 n67: ∀l H,Zr 67 l H=none
 f68:fs.get 68=some c68
 n68: ∀l H,Zr 68 l H=none
 f69:fs.get 69=some c69
 n69: ∀l H,Zr 69 l H=none
 f70:fs.get 70=some c70
 n70: ∀l H,Zr 70 l H=none
 f71:fs.get 71=some c71
 n71: ∀l H,Zr 71 l H=none
 f72:fs.get 72=some c72
 n72: ∀l H,Zr 72 l H=none
 f90:fs.get 90=some c90
 n90: ∀l H,Zr 90 l H=none
 f91:fs.get 91=some c91
 n91: ∀l H,Zr 91 l H=none
 f92:fs.get 92=some c92
 n92: ∀l H,Zr 92 l H=none
 f93:fs.get 93=some c93
 n93: ∀l H,Zr 93 l H=none
 f94:fs.get 94=some c94
 n94: ∀l H,Zr 94 l H=none
 f95:fs.get 95=some c95
 n95: ∀l H,Zr 95 l H=none
 f96:fs.get 96=some c96
 n96: ∀l H,Zr 96 l H=none
 f107:fs.get 107=some az
 n107: ∀l H,Zr 107 l H=none
 f108:fs.get 108=some wC
 n108: ∀l H,Zr 108 l H=none
 f109:fs.get 109=some aD
 n109: ∀l H,Zr 109 l H=none
 f110:fs.get 110=some aE
 n110: ∀l H,Zr 110 l H=none
 f111:fs.get 111=some aF
 n111: ∀l H,Zr 111 l H=none
 f116:fs.get 116=some aG
 n116: ∀l H,Zr 116 l H=none
 f124:fs.get 124=some aH
 n124: ∀l H,Zr 124 l H=none
 f125:fs.get 125=some oY
 n125: ∀l H,Zr 125 l H=none
 f132:fs.get 132=some jq
 n132: ∀l H,Zr 132 l H=none
 f172:fs.get 172=some aK
 n172: ∀l H,Zr 172 l H=none
 f173:fs.get 173=some aL
 n173: ∀l H,Zr 173 l H=none
 f174:fs.get 174=some aM
 n174: ∀l H,Zr 174 l H=none
 ix: ∀(s:List UInt8) (x:Nat) (H:Heap),x<256->Zr 112 [.str s,nI .u8 x] H=some (.ret (.int .i64 (PY x s 0)) H)
 cn: ∀(s:List UInt8) (x:Nat) (H:Heap),x<256->Zr 139 [.str s,nI .u8 x] H=some (.ret (nI .i64 (Xs x s 0)) H)
theorem flat_len{sz:Nat}: ∀{ls:List (List AV)},(∀l∈ls,l.length=sz)->ls.flatten.length=ls.length*sz
 |[],_=>by simp
 |l::ls,h=>by
  rw[V8,ZE,flat_len (λx hx=>h x (ZC _ hx)),h l (Zs ..),Ye,WI]
  omega
theorem flat_at{sz:Nat}: ∀{ls:List (List AV)} {i:Nat},(∀l∈ls,l.length=sz)->i<ls.length->(ls.flatten.drop (i*sz)).take sz=ls.getD i []
 |l::ls,0,h,_=>by
  rw[W4,Zz,V8,List.take_append_of_le_length (by rw[h l (Zs ..)];exact Zo _),Xq (by rw[h l (Zs ..)];exact Zo _)]
  rfl
 |l::ls,i+1,h,hi=>by
  have hl:=h l (Zs ..)
  have e:(i+1)*sz=l.length+i*sz:=by rw[hl,WI];omega
  rw[V8,e,<-SG,List.drop_left]
  have:=flat_at (i:=i) (λx hx=>h x (ZC _ hx)) (by simpa using hi)
  rw[this];rfl
structure Ab(H:Heap)(b e sz:Nat)(ls:List (List AV))(r:Row):Prop where
 at_:H.t.get b=some (.row r)
 elem:r.elem=e
 szr:r.sz=sz
 own:r.own=true
 fz:r.fz=0
 sm:r.sm=false
 exact_:r.exact=false
 cells:Cells r ls.flatten
 each: ∀l∈ls,l.length=sz
 ro:H.ro<=b
 low:b<H.nx
theorem Ab.size{H:Heap}{b e sz:Nat}{ls:List (List AV)}{r:Row}(h:Ab H b e sz ls r):r.size=ls.length*sz:=by rw[h.cells.size,flat_len h.each]
theorem Ab.moved{H H':Heap}{b e sz:Nat}{ls:List (List AV)}{r:Row}(h:Ab H b e sz ls r)(g:H'.t.get b=H.t.get b)(hro:H'.ro=H.ro)(hnx:H.nx<=H'.nx):Ab H' b e sz ls r:=
 ⟨g.trans h.at_,h.elem,h.szr,h.own,h.fz,h.sm,h.exact_,h.cells,h.each,by rw[hro];exact h.ro,ZF h.low hnx⟩
theorem Ab.load{H H':Heap}{b e sz:Nat}{ls:List (List AV)}{r:Row}(h:Ab H b e sz ls r)(ht:H'.t=H.t){i:Nat}(hi:i<ls.length):K2 sz (.ptr b (i*sz)) H'=.val (.agg (ls.getD i [])) H':=by
 have hf:=flat_len h.each
 have hm:(i+1)*sz<=ls.length*sz:=UC _ hi
 rw[WI,S2] at hm
 rw[NJ (r:=r) (by rw[ht];exact h.at_) h.cells (by omega),flat_at h.each hi]
theorem md{n i sz:Nat}(h:i<n)(b o:Nat)(c:Option Nat)(k:IntKind)(H:Heap):HY sz (.slice b o n c) (nI k i) H=.val (.ptr b (o+i*sz)) H:=by
 show ZP (Nat.ble (Nat.succ i) n) (OR.val (.ptr b (Nat.add o (Nat.mul i sz))) H)=_
 rw[Zl (show Nat.succ i<=n from h)];rfl
def RG(H:Heap)(v:AV)(e sz:Nat)(ls:List (List AV))(lo:Nat):Prop:=(ls=[]∧v=.nils)∨(ls≠[]∧ ∃b r,v=.slice b 0 ls.length none∧Ab H b e sz ls r∧lo<=b)
theorem lN{H:Heap}{v:AV}{e sz bytes:Nat}{ls:List (List AV)}{lo:Nat}(h:RG H v e sz ls lo)(hsz:1<=sz)(hby:1<=bytes)(hl:(ls.length+1)*bytes<=140737488355328)(hro:H.ro<=H.nx)(hlo:lo<=H.nx){x:List AV}(hx:x.length=sz):
  ∃v' H',U0 e sz bytes v (.slice H.nx 0 1 none) (H.newRow e sz x true)=.val v' H'∧RG H' v' e sz (ls++[x]) lo∧Below lo H H':=by
 generalize hH1:H.newRow e sz x true=H1
 have Lb:H1.nx=H.nx+1:=by rw[<-hH1];rfl
 have k1:Zw H H1 []:=by rw[<-hH1];exact Zw.new H _ []
 have b1:Below lo H H1:=by rw[<-hH1];exact Below.new lo H _
 have gx:H1.t.get H.nx=some (.row ⟨e,sz,YL x,T.ofList x,.unk,0,false,true,true⟩):=by rw[<-hH1,TC,VL,if_pos rfl]
 have cx:=Cells.new e sz x 0 false true true
 have src: ∀k:Nat->List AV->OR,(xm (.slice H.nx 0 1 none) λn=>VV H1 sz (.slice H.nx 0 1 none) n λnew=>k n new)=k 1 x:=by
  intro k
  show(VV H1 sz (.slice H.nx 0 1 none) 1 λnew=>k 1 new)=_
  generalize(⟨e,sz,YL x,T.ofList x,.unk,0,false,true,true⟩:Row)=r0 at gx cx
  unfold VV XB
  simp only[gx]
  show ZP (Nat.ble (0+1*sz) r0.size) (k 1 (VB r0 0 (1*sz)))=_
  rw[S2,cx.size,hx,Zl (show 0+sz<=sz by omega)]
  have:=cx.load (o:=0) (n:=sz) (by omega)
  rw[this,Zz,Xq (by omega)]
  rfl
 have ap: ∀a,U0 e sz bytes a (.slice H.nx 0 1 none) H1=MW a e sz bytes H1 1 x:=by
  intro a
  show ZP (Nat.ble 1 sz) (ZP (Nat.ble 1 bytes) _)=_
  rw[Zl hsz,Zl hby]
  exact src λn new=>MW a e sz bytes H1 n new
 rw[ap]
 rcases h with⟨rfl,rfl⟩|⟨hne,b,r,rfl,g,hb⟩
 ·refine⟨.slice H1.nx 0 1 none,H1.newRow e sz x false,?_,.inr ⟨by simp,H1.nx,_,rfl,⟨by rw[TC,VL,if_pos rfl],rfl,rfl,rfl,rfl,rfl,rfl,by simpa using Cells.new e sz x 0 false true false,λl hm=>by simp at hm;rw[hm];exact hx,by show H1.ro<=H1.nx;rw[k1.ro];omega,Yo _⟩,by omega⟩,b1.trans (Below.new lo H1 _)⟩
  show ZP (Nat.ble (1*bytes) 140737488355328) (OR.val (.slice H1.nx 0 1 none) (H1.newRow e sz x false))=_
  rw[Zl (by simpa using hl)];rfl
 ·have g1:Ab H1 b e sz ls r:=g.moved (k1.get b g.low (by simp)) k1.ro (by omega)
  have hs:=g1.size
  have hcap:VI r 0 none=ls.length:=by
   show cond (Nat.beq r.sz 1) (r.size - 0) ((r.size - 0)/r.sz)=_
   rw[g1.szr,hs,Nat.sub_zero]
   by_cases h1:sz=1
   ·subst h1;show ls.length*1=_;omega
   ·rw[Yp,Zb h1]
    exact Nat.mul_div_cancel _ (by omega)
  have NX:H1.may r b=true:=by unfold Heap.may;rw[g1.own,Zl g1.ro];rfl
  have hlen:(ls.length+1)*sz=ls.length*sz+sz:=by rw[WI];omega
  refine⟨.slice H1.nx 0 (ls++[x]).length none,⟨Nat.succ H1.nx,(H1.t.del b).set H1.nx (.row ⟨r.elem,sz,(ls.length+1)*sz,YQ r.cells (ls.length*sz) x,r.dflt,r.fz,r.sm,true,false⟩),H1.ro⟩,?_,.inr ⟨by simp,H1.nx,⟨r.elem,sz,(ls.length+1)*sz,YQ r.cells (ls.length*sz) x,r.dflt,r.fz,r.sm,true,false⟩,rfl,⟨by rw[T.get_set,if_pos rfl],g1.elem,rfl,rfl,g1.fz,g1.sm,rfl,?_,?_,ZX g1.ro (Pt g1.low),Yo _⟩,by omega⟩,b1.trans ⟨Vj _,rfl,λc hc hn=>?_⟩⟩
  ·show XB H1 b _=_
   unfold XB
   simp only[g1.at_]
   have h1:Js r sz none=true:=by show Nat.beq r.sz sz=true;rw[g1.szr,Ys]
   have h2:Nat.ble (Nat.add ls.length 1) (VI r 0 none)=false:=by
    rw[hcap]
    cases h:Nat.ble (Nat.add ls.length 1) ls.length with
    |false=>rfl
    |true=>have:=ZT h;have:ls.length+1<=ls.length:=this;omega
   rw[h1,h2]
   show ZP (Nat.ble ((ls.length+1)*bytes) 140737488355328) (ZP (Nat.ble (0+ls.length*sz) r.size) (cond r.exact _ (Ij H1 e b 0 ls.length 1 sz r x)))=_
   rw[Zl hl,hs,Zf,Zl (Zo _),g1.exact_]
   show ZP (Nat.beq r.elem e) (ZP (H1.may r b) (ZP (Nat.ble r.fz (ls.length*sz)) (ZP (Nat.beq (ls.length*sz) r.size) (ZP (Nat.beq 0 0) _))))=_
   rw[g1.elem,Ys,NX,g1.fz,Zl (Ym _),hs,Ys]
   show OR.val (.slice H1.nx 0 (ls.length+1) none) _=_
   rw[ZE]
   rfl
  ·have hf:=flat_len g1.each
   refine⟨by show(ls.length+1)*sz=_;rw[List.flatten_append,ZE,hf];simp[hx];omega,λi hi=>?_⟩
   rw[List.flatten_append,ZE,hf] at hi
   have e1:[x].flatten=x:=by simp
   rw[e1] at hi
   rw[Row.get_eq]
   show((YQ r.cells (ls.length*sz) x).get i).getD r.dflt=_
   rw[OG,Ze,List.flatten_append,e1]
   by_cases h1:ls.length*sz<=i
   ·rw[if_pos ⟨h1,by omega⟩,Z5 (by omega),hf,Zk (show i - ls.length*sz<x.length by omega)];rfl
   ·rw[if_neg (by omega),Z1 (by omega)]
    have:=g1.cells.get i (by omega)
    rw[Row.get_eq,Ze] at this
    exact this
  ·intro l hm
   rcases Zt.1 hm with hm|hm
   ·exact g1.each l hm
   ·simp at hm;rw[hm];exact hx
  ·show((H1.t.del b).set H1.nx _).get c=_
   rw[T.get_set,if_neg (by omega),T.get_del,if_neg (by omega)]
theorem RG.below{H H':Heap}{v:AV}{e sz:Nat}{ls:List (List AV)}{lo:Nat}(h:RG H v e sz ls lo)(hp: ∀c,lo<=c->c<H.nx->H'.t.get c=H.t.get c)(hro:H'.ro=H.ro)(hnx:H.nx<=H'.nx):RG H' v e sz ls lo:=by
 rcases h with h|⟨hne,b,r,rfl,g,hb⟩
 ·exact .inl h
 ·exact .inr ⟨hne,b,r,rfl,g.moved (hp b hb g.low) hro hnx,hb⟩
theorem RG.len{H:Heap}{v:AV}{e sz:Nat}{ls:List (List AV)}{lo:Nat}(h:RG H v e sz ls lo)(G:Heap):Oy v G=.val (nI .i64 ls.length) G:=by
 rcases h with⟨rfl,rfl⟩|⟨_,b,r,rfl,_⟩
 ·exact CZ G
 ·exact Vz ..
theorem RG.low{H:Heap}{v:AV}{e sz:Nat}{ls:List (List AV)}{lo:Nat}(h:RG H v e sz ls lo){n:Nat}(hn:H.nx<=n):Wl n v=true:=by
 rcases h with⟨_,rfl⟩|⟨_,b,r,rfl,g,_⟩
 ·rfl
 ·exact TO (ZF g.low hn) _ _ _
theorem RG.same{H:Heap}{v:AV}{e sz:Nat}{ls:List (List AV)}{lo:Nat}(h:RG H v e sz ls lo)(n:Nat)(t:T Obj):VS (.val v ⟨n,t,n⟩) v n=true:=by
 rcases h with⟨_,rfl⟩|⟨_,b,r,rfl,_⟩
 ·exact Mo n t
 ·exact Ua _ _ _ _ _ _
def Seen(es:List RF)(ks:List (List UInt8)):Prop:=es.map (λe=>(e.key,e.val))=ks.map λk=>(AV.str k,nI .i64 1)
theorem Seen.nil:Seen [] []:=rfl
theorem Seen.push{es:List RF}{ks:List (List UInt8)}(h:Seen es ks)(k:List UInt8)(c:Nat):Seen (es++[⟨.str k,nI .i64 1,c⟩]) (ks++[k]):=by
 unfold Seen at*
 rw[YA,YA,h];rfl
def Zdh(eq:AV->AV->Option Bool)(zv:AV)(ok:Bool)(m k:AV)(H:Heap):OR:=Bl m (J5 ok H zv false) λb=>Ic H b λo=>tO o λes=>Ur eq k (J5 ok H zv false) (λv=>J5 ok H v true) es
theorem Wv(eq:AV->AV->Option Bool)(zv:AV)(ok:Bool)(m k:Z2)(tm:TM)(H:Heap):JH eq zv ok m k tm H=Zdh eq zv ok (m tm) (k tm) H:=rfl
def lkO(eq:AV->AV->Option Bool)(zv:AV)(ok:Bool)(x:Option Obj)(k:AV)(H:Heap):OR:=match x with|some o=>tO o λes=>Ur eq k (J5 ok H zv false) (λv=>J5 ok H v true) es|none=>.fail
theorem VY(eq:AV->AV->Option Bool)(zv:AV)(ok:Bool)(b:Nat)(k:AV)(H:Heap):Zdh eq zv ok (.map b) k H=lkO eq zv ok (H.t.get b) k H:=rfl
structure Sl(H:Heap)(sz:Nat)(v:AV)(ls:List (List AV)):Prop where
 each: ∀l∈ls,l.length=sz
 here:(ls=[]∧v=.nils)∨ ∃b o c,v=.slice b o ls.length c∧b<H.nx∧(ls≠[]-> ∃r,H.t.get b=some (.row r)∧o+ls.length*sz<=r.size∧ ∀i,i<ls.length*sz->r.get (o+i)=ls.flatten.getD i .unk)
theorem Sl.nil(H:Heap)(sz:Nat):Sl H sz .nils []:=⟨λ_ h=>(by cases h),.inl ⟨rfl,rfl⟩⟩
theorem Sl.keep{H H':Heap}{sz:Nat}{v:AV}{ls:List (List AV)}{S:List Nat}(h:Sl H sz v ls)(k:Zw H H' S)(hS: ∀b o n c,v=.slice b o n c->b∉S):Sl H' sz v ls:=by
 refine⟨h.each,?_⟩
 rcases h.here with h1|⟨b,o,c,rfl,hb,h2⟩
 ·exact .inl h1
 ·refine .inr ⟨b,o,c,rfl,ZF hb k.nx,λhne=>?_⟩
  obtain⟨r,h3,h4⟩:=h2 hne
  exact⟨r,by rw[k.get b hb (hS _ _ _ _ rfl)];exact h3,h4⟩
theorem Sl.keep0{H H':Heap}{sz:Nat}{v:AV}{ls:List (List AV)}(h:Sl H sz v ls)(k:Zw H H' []):Sl H' sz v ls:=h.keep k (by simp)
theorem Sl.len{H:Heap}{sz:Nat}{v:AV}{ls:List (List AV)}(h:Sl H sz v ls)(G:Heap):Oy v G=.val (nI .i64 ls.length) G:=by
 rcases h.here with⟨rfl,rfl⟩|⟨b,o,c,rfl,_⟩
 ·rfl
 ·exact Vz ..
theorem Sl.low{H:Heap}{sz:Nat}{v:AV}{ls:List (List AV)}(h:Sl H sz v ls){n:Nat}(hn:H.nx<=n):Wl n v=true:=by
 rcases h.here with⟨rfl,rfl⟩|⟨b,o,c,rfl,hb,_⟩
 ·rfl
 ·exact TO (by omega) ..
theorem Sl.same{H:Heap}{sz:Nat}{v:AV}{ls:List (List AV)}(h:Sl H sz v ls)(n:Nat)(t:T Obj):VS (.val v ⟨n,t,n⟩) v n=true:=by
 rcases h.here with⟨rfl,rfl⟩|⟨b,o,c,rfl,_⟩
 ·exact Mo ..
 ·exact Ua ..
theorem Sl.cells{H:Heap}{sz:Nat}{v:AV}{ls:List (List AV)}(h:Sl H sz v ls):v.cells=[v]:=by
 rcases h.here with⟨rfl,rfl⟩|⟨b,o,c,rfl,_⟩<;>rfl
theorem Sl.at_{H:Heap}{sz:Nat}{v:AV}{ls:List (List AV)}(h:Sl H sz v ls){i:Nat}(hi:i<ls.length):
  ∃b o r,(∀(k:IntKind) (G:Heap),HY sz v (nI k i) G=.val (.ptr b o) G)∧b<H.nx∧H.t.get b=some (.row r)∧(∀G:Heap,wh sz (some (.row r)) o G=.val (.agg (ls.getD i [])) G)∧ ∀(j:Nat) (G:Heap),j<sz->ld1 (some (.row r)) (o+j) G=.val ((ls.getD i []).getD j .unk) G:=by
 have hne:ls≠[]:=by intro e;subst e;cases hi
 rcases h.here with⟨rfl,_⟩|⟨b,o,c,rfl,hb,h2⟩
 ·exact absurd rfl hne
 ·obtain⟨r,h3,h4,h5⟩:=h2 hne
  have hm:(i+1)*sz<=ls.length*sz:=UC _ hi
  rw[WI,S2] at hm
  have hf:=flat_len h.each
  have hg:=flat_at h.each hi
  refine⟨b,o+i*sz,r,λk G=>md hi b o c k G,hb,h3,λG=>?_,λj G hj=>?_⟩
  ·show ZP (Nat.ble (Nat.add (o+i*sz) sz) r.size) (OR.val (.agg (VB r (o+i*sz) sz)) G)=_
   rw[Zl (show Nat.add (o+i*sz) sz<=r.size by show o+i*sz+sz<=_;omega)]
   show OR.val (.agg (VB r (o+i*sz) sz)) G=_
   congr 2
   rw[<-hg]
   apply WS
   intro j
   by_cases hj:j<sz
   ·rw[Qp _ _ _ _ hj,XK hj,Xl]
    have:=h5 (i*sz+j) (by omega)
    rw[<-UJ,Ze,Zk (by omega)] at this
    rw[Zk (by omega),this];rfl
   ·rw[YP (by rw[Qq];omega),YP (by rw[ZW];omega)]
  ·rw[Mq (by omega)]
   congr 1
   rw[<-hg,UJ,h5 _ (by omega),Ze,Ze,XK hj,Xl]
theorem Sl.of_rG{H:Heap}{b e sz:Nat}{ls:List (List AV)}{fz:Nat}{sm own ex:Bool}{c:Option Nat}(hb:H.t.get b=some (rG e sz ls.flatten fz sm own ex))(hn:b<H.nx)(he: ∀l∈ls,l.length=sz):Sl H sz (.slice b 0 ls.length c) ls:=
 ⟨he,.inr ⟨b,0,c,rfl,hn,λ_=>⟨_,hb,by show 0+_<=YL ls.flatten;rw[Yz,flat_len he];omega,λi _=>by rw[Zf,rS]⟩⟩⟩
theorem Sl.of_recs{H:Heap}{b e sz:Nat}{ls:List (List AV)}{r:Row}(h:Ab H b e sz ls r)(c:Option Nat):Sl H sz (.slice b 0 ls.length c) ls:=
 ⟨h.each,.inr ⟨b,0,c,rfl,h.low,λ_=>⟨r,h.at_,by rw[h.size];omega,λi hi=>by rw[Zf];exact h.cells.get i (by rw[flat_len h.each];exact hi)⟩⟩⟩
theorem Sl.of_buf{H:Heap}{v:AV}{e sz:Nat}{ls:List (List AV)}{lo:Nat}(h:RG H v e sz ls lo):Sl H sz v ls:=by
 rcases h with⟨rfl,rfl⟩|⟨_,b,r,rfl,h,_⟩
 ·exact Sl.nil ..
 ·exact Sl.of_recs h _
theorem U4{n b:Nat}{l vs:List AV}{H:Heap}(hl:l.length=n)(hv:vs.length=n)(hn:1<=n)(hro:H.ro<=b)(e sz:Nat)(sm ex:Bool):tI n (some (rG e sz l 0 sm true ex)) b 0 (.agg vs) H=.val YS (H.put b (rG e sz vs 0 sm true ex)):=by
 rw[qk hn (by exact hv) (by omega) hro (Ym _)]
 congr 3
 rw[CX _ _ _ (by show 0+vs.length<=_;omega)]
 show []++(vs++l.drop (0+vs.length))=vs
 rw[X8 (by omega)];simp
end
end Go.AI
