/- Equations in bundles; the code of the functions that the law comes to. -/
import Derived.Test.YtbmjgbajoemnaaaGreatDoorP7
import Derived.Test.YtbmjgbajoemnaaaGreatDoorProg
set_option maxRecDepth 1000000
set_option maxHeartbeats 0
set_option linter.unusedVariables false
set_option linter.unusedSimpArgs false
namespace Go.AI
open Go
noncomputable section
section
open Go N8
theorem QC(b:Bool)(yes no:Wd):Uz Xl b yes no=no:=rfl
theorem ot{r r':Wd}(h:r=r')(k:TM->Heap->X->Wd):RC r k=RC r' k:=by rw[h]
theorem kL{r r':OR}(h:r=r')(n:TM->Heap->X->Wd)(d:ZS)(c:Ctx)(tm:TM)(H:Heap)(x:X):Ph n d c tm H x r=Ph n d c tm H x r':=by rw[h]
theorem kN{r r':CR}(h:r=r')(n:TM->Heap->X->Wd)(d:ZS)(tm:TM)(x:X):Da n d tm x r=Da n d tm x r':=by rw[h]
theorem kM{v v':AV}(h:v=v')(k:Bool->Wd):yU v k=yU v' k:=by rw[h]
theorem uY{v v':AV}(h:v=v')(b:Bool)(yes no:Wd):Uz v b yes no=Uz v' b yes no:=by rw[h]
theorem ol{v v':Bool}(h:v=v')(a b:TM->Heap->X->Wd)(tm:TM)(H:Heap)(x:X):Ho a b v tm H x=Ho a b v' tm H x:=by rw[h]
theorem uZ{r r':Wd}(h:r=r')(i:Nat):QF i r=QF i r':=by rw[h]
theorem kO{r r':Wd}(h:r=r')(dc:Option AV->Nat->List AV->Heap->DR)(rs:List (Ye×Option (Nat×Bool))):M9 dc rs r=M9 dc rs r':=by rw[h]
theorem oo{r r':OR}(h:r=r')(p:PI)(nx:PK)(rs:List RD)(tm:TM)(H:Heap)(x:X):L6 p nx rs tm H x r=L6 p nx rs tm H x r':=by rw[h]
theorem oq{r r':OR}(h:r=r')(p:PI)(nx:PK)(rs:List RD)(tm:TM)(H:Heap)(x:X):GG p nx rs tm H x r=GG p nx rs tm H x r':=by rw[h]
theorem kK{r r':OR}(h:r=r')(ds:List ZS)(p:PI)(nx:PK)(rs:List RD)(c:Ctx)(tm:TM)(x:X):Hw ds p nx rs c tm x r=Hw ds p nx rs c tm x r':=by rw[h]
theorem kP{r r':CR}(h:r=r')(ds:List ZS)(p:PI)(nx:PK)(rs:List RD)(tm:TM)(x:X):Bo ds p nx rs tm x r=Bo ds p nx rs tm x r':=by rw[h]
attribute [congr] ot kL kN kM uY ol uZ kO oo oq kK kP
theorem Z4:(∀tm:TM,Ys tm=a0 (a0 (a0 tm))∧Y2 tm=a1 (a0 (a0 tm))∧Xy tm=a2 (a0 (a0 tm))∧XK tm=a3 (a0 (a0 tm))∧Xf tm=a4 (a0 (a0 tm))∧X5 tm=a5 (a0 (a0 tm))∧WN tm=a6 (a0 (a0 tm))∧WB tm=a7 (a0 (a0 tm))∧Wc tm=a0 (a1 (a0 tm))∧Wv tm=a1 (a1 (a0 tm))∧Xg tm=a2 (a1 (a0 tm))∧Xc tm=a3 (a1 (a0 tm))∧Xq tm=a4 (a1 (a0 tm))∧XH tm=a5 (a1 (a0 tm))∧Wk tm=a6 (a1 (a0 tm))∧Wy tm=a7 (a1 (a0 tm))∧Wu tm=a0 (a2 (a0 tm))∧WJ tm=a1 (a2 (a0 tm))∧Wx tm=a2 (a2 (a0 tm))∧W5 tm=a3 (a2 (a0 tm))∧W1 tm=a4 (a2 (a0 tm))∧WH tm=a5 (a2 (a0 tm))∧Vf tm=a6 (a2 (a0 tm))∧Vu tm=a7 (a2 (a0 tm))∧UU tm=a0 (a3 (a0 tm))∧Uq tm=a1 (a3 (a0 tm))∧UK tm=a2 (a3 (a0 tm))∧Uh tm=a3 (a3 (a0 tm))∧Uy tm=a4 (a3 (a0 tm))∧UL tm=a5 (a3 (a0 tm))∧Ui tm=a6 (a3 (a0 tm))∧VL tm=a7 (a3 (a0 tm)))∧(∀(tm:TM) (v:AV),st0 tm v=u0 (u0 (u0 λ_=>v)) tm∧st1 tm v=u0 (u0 (u1 λ_=>v)) tm∧st2 tm v=u0 (u0 (u2 λ_=>v)) tm∧Vk tm v=u0 (u0 (u3 λ_=>v)) tm∧Xz tm v=u0 (u0 (u4 λ_=>v)) tm∧Vs tm v=u0 (u0 (u5 λ_=>v)) tm∧V3 tm v=u0 (u0 (u6 λ_=>v)) tm∧VZ tm v=u0 (u0 (u7 λ_=>v)) tm∧Vt tm v=u0 (u1 (u0 λ_=>v)) tm∧V2 tm v=u0 (u1 (u1 λ_=>v)) tm∧XJ tm v=u0 (u1 (u2 λ_=>v)) tm∧XE tm v=u0 (u1 (u3 λ_=>v)) tm∧XL tm v=u0 (u1 (u4 λ_=>v)) tm∧Wo tm v=u0 (u1 (u5 λ_=>v)) tm∧WA tm v=u0 (u1 (u6 λ_=>v)) tm∧WZ tm v=u0 (u1 (u7 λ_=>v)) tm∧W0 tm v=u0 (u2 (u0 λ_=>v)) tm∧Vx tm v=u0 (u2 (u1 λ_=>v)) tm∧Vn tm v=u0 (u2 (u2 λ_=>v)) tm∧VJ tm v=u0 (u2 (u3 λ_=>v)) tm∧V1 tm v=u0 (u2 (u4 λ_=>v)) tm∧Us tm v=u0 (u2 (u5 λ_=>v)) tm∧Uw tm v=u0 (u2 (u6 λ_=>v)) tm∧UC tm v=u0 (u2 (u7 λ_=>v)) tm∧UO tm v=u0 (u3 (u0 λ_=>v)) tm∧U4 tm v=u0 (u3 (u1 λ_=>v)) tm∧TB tm v=u0 (u3 (u2 λ_=>v)) tm∧To tm v=u0 (u3 (u3 λ_=>v)) tm∧U9 tm v=u0 (u3 (u4 λ_=>v)) tm∧Tp tm v=u0 (u3 (u5 λ_=>v)) tm∧Tw tm v=u0 (u3 (u6 λ_=>v)) tm∧TC tm v=u0 (u3 (u7 λ_=>v)) tm):=⟨λ_=>⟨rfl,rfl,rfl,rfl,rfl,rfl,rfl,rfl,rfl,rfl,rfl,rfl,rfl,rfl,rfl,rfl,rfl,rfl,rfl,rfl,rfl,rfl,rfl,rfl,rfl,rfl,rfl,rfl,rfl,rfl,rfl,rfl⟩,λ_ _=>⟨rfl,rfl,rfl,rfl,rfl,rfl,rfl,rfl,rfl,rfl,rfl,rfl,rfl,rfl,rfl,rfl,rfl,rfl,rfl,rfl,rfl,rfl,rfl,rfl,rfl,rfl,rfl,rfl,rfl,rfl,rfl,rfl⟩⟩
theorem WG:(∀tm:TM,Un tm=a0 (a4 (a0 tm))∧UV tm=a1 (a4 (a0 tm))∧T9 tm=a2 (a4 (a0 tm))∧U5 tm=a3 (a4 (a0 tm))∧SG tm=a4 (a4 (a0 tm))∧Ty tm=a5 (a4 (a0 tm))∧Sa tm=a6 (a4 (a0 tm))∧TW tm=a7 (a4 (a0 tm))∧Sb tm=a0 (a5 (a0 tm))∧TX tm=a1 (a5 (a0 tm))∧UM tm=a2 (a5 (a0 tm))∧TA tm=a3 (a5 (a0 tm))∧RT tm=a4 (a5 (a0 tm))∧UW tm=a5 (a5 (a0 tm))∧S6 tm=a6 (a5 (a0 tm))∧Sc tm=a7 (a5 (a0 tm))∧SH tm=a0 (a6 (a0 tm))∧Qe tm=a1 (a6 (a0 tm))∧SJ tm=a2 (a6 (a0 tm))∧S7 tm=a3 (a6 (a0 tm))∧RH tm=a4 (a6 (a0 tm))∧Pj tm=a5 (a6 (a0 tm))∧O3 tm=a6 (a6 (a0 tm))∧Ol tm=a7 (a6 (a0 tm))∧P4 tm=a0 (a7 (a0 tm))∧O4 tm=a1 (a7 (a0 tm))∧QB tm=a2 (a7 (a0 tm))∧NC tm=a3 (a7 (a0 tm))∧Pk tm=a4 (a7 (a0 tm))∧ND tm=a5 (a7 (a0 tm))∧Kf tm=a6 (a7 (a0 tm))∧O5 tm=a7 (a7 (a0 tm)))∧(∀(tm:TM) (v:AV),TY tm v=u0 (u4 (u0 λ_=>v)) tm∧TS tm v=u0 (u4 (u1 λ_=>v)) tm∧Sg tm v=u0 (u4 (u2 λ_=>v)) tm∧Si tm v=u0 (u4 (u3 λ_=>v)) tm∧SM tm v=u0 (u4 (u4 λ_=>v)) tm∧Ss tm v=u0 (u4 (u5 λ_=>v)) tm∧Su tm v=u0 (u4 (u6 λ_=>v)) tm∧SN tm v=u0 (u4 (u7 λ_=>v)) tm∧SO tm v=u0 (u5 (u0 λ_=>v)) tm∧Rw tm v=u0 (u5 (u1 λ_=>v)) tm∧SW tm v=u0 (u5 (u2 λ_=>v)) tm∧SX tm v=u0 (u5 (u3 λ_=>v)) tm∧RN tm v=u0 (u5 (u4 λ_=>v)) tm∧Qi tm v=u0 (u5 (u5 λ_=>v)) tm∧R0 tm v=u0 (u5 (u6 λ_=>v)) tm∧R1 tm v=u0 (u5 (u7 λ_=>v)) tm∧Qj tm v=u0 (u6 (u0 λ_=>v)) tm∧Qk tm v=u0 (u6 (u1 λ_=>v)) tm∧QS tm v=u0 (u6 (u2 λ_=>v)) tm∧QT tm v=u0 (u6 (u3 λ_=>v)) tm∧QZ tm v=u0 (u6 (u4 λ_=>v)) tm∧Oq tm v=u0 (u6 (u5 λ_=>v)) tm∧O6 tm v=u0 (u6 (u6 λ_=>v)) tm∧O7 tm v=u0 (u6 (u7 λ_=>v)) tm∧O8 tm v=u0 (u7 (u0 λ_=>v)) tm∧OW tm v=u0 (u7 (u1 λ_=>v)) tm∧OX tm v=u0 (u7 (u2 λ_=>v)) tm∧NQ tm v=u0 (u7 (u3 λ_=>v)) tm∧Li tm v=u0 (u7 (u4 λ_=>v)) tm∧Lj tm v=u0 (u7 (u5 λ_=>v)) tm∧KZ tm v=u0 (u7 (u6 λ_=>v)) tm∧IW tm v=u0 (u7 (u7 λ_=>v)) tm):=⟨λ_=>⟨rfl,rfl,rfl,rfl,rfl,rfl,rfl,rfl,rfl,rfl,rfl,rfl,rfl,rfl,rfl,rfl,rfl,rfl,rfl,rfl,rfl,rfl,rfl,rfl,rfl,rfl,rfl,rfl,rfl,rfl,rfl,rfl⟩,λ_ _=>⟨rfl,rfl,rfl,rfl,rfl,rfl,rfl,rfl,rfl,rfl,rfl,rfl,rfl,rfl,rfl,rfl,rfl,rfl,rfl,rfl,rfl,rfl,rfl,rfl,rfl,rfl,rfl,rfl,rfl,rfl,rfl,rfl⟩⟩
theorem Rn:(∀tm:TM,MW tm=a0 (a0 (a1 tm))∧MX tm=a1 (a0 (a1 tm))∧IA tm=a2 (a0 (a1 tm))∧HR tm=a3 (a0 (a1 tm))∧FD tm=a4 (a0 (a1 tm))∧Me tm=a5 (a0 (a1 tm))∧HS tm=a6 (a0 (a1 tm))∧Pm tm=a7 (a0 (a1 tm))∧Qf tm=a0 (a1 (a1 tm))∧IB tm=a1 (a1 (a1 tm))∧IC tm=a2 (a1 (a1 tm))∧Kg tm=a3 (a1 (a1 tm))∧HT tm=a4 (a1 (a1 tm))∧HU tm=a5 (a1 (a1 tm))∧ID tm=a6 (a1 (a1 tm))∧IE tm=a7 (a1 (a1 tm))∧Kh tm=a0 (a2 (a1 tm))∧NE tm=a1 (a2 (a1 tm))∧Jv tm=a2 (a2 (a1 tm))∧Qu tm=a3 (a2 (a1 tm))∧LP tm=a4 (a2 (a1 tm))∧IF tm=a5 (a2 (a1 tm))∧IG tm=a6 (a2 (a1 tm))∧Ki tm=a7 (a2 (a1 tm))∧MY tm=a0 (a3 (a1 tm))∧HV tm=a1 (a3 (a1 tm))∧HW tm=a2 (a3 (a1 tm))∧HX tm=a3 (a3 (a1 tm))∧HY tm=a4 (a3 (a1 tm))∧FE tm=a5 (a3 (a1 tm))∧CD tm=a6 (a3 (a1 tm))∧CG tm=a7 (a3 (a1 tm)))∧(∀(tm:TM) (v:AV),IX tm v=u1 (u0 (u0 λ_=>v)) tm∧JC tm v=u1 (u0 (u1 λ_=>v)) tm∧IY tm v=u1 (u0 (u2 λ_=>v)) tm∧GW tm v=u1 (u0 (u3 λ_=>v)) tm∧Ec tm v=u1 (u0 (u4 λ_=>v)) tm∧GX tm v=u1 (u0 (u5 λ_=>v)) tm∧IZ tm v=u1 (u0 (u6 λ_=>v)) tm∧I0 tm v=u1 (u0 (u7 λ_=>v)) tm∧JD tm v=u1 (u1 (u0 λ_=>v)) tm∧I1 tm v=u1 (u1 (u1 λ_=>v)) tm∧I2 tm v=u1 (u1 (u2 λ_=>v)) tm∧GY tm v=u1 (u1 (u3 λ_=>v)) tm∧GZ tm v=u1 (u1 (u4 λ_=>v)) tm∧G0 tm v=u1 (u1 (u5 λ_=>v)) tm∧I3 tm v=u1 (u1 (u6 λ_=>v)) tm∧I4 tm v=u1 (u1 (u7 λ_=>v)) tm∧I5 tm v=u1 (u2 (u0 λ_=>v)) tm∧JE tm v=u1 (u2 (u1 λ_=>v)) tm∧JF tm v=u1 (u2 (u2 λ_=>v)) tm∧JG tm v=u1 (u2 (u3 λ_=>v)) tm∧G1 tm v=u1 (u2 (u4 λ_=>v)) tm∧I6 tm v=u1 (u2 (u5 λ_=>v)) tm∧I7 tm v=u1 (u2 (u6 λ_=>v)) tm∧I8 tm v=u1 (u2 (u7 λ_=>v)) tm∧G2 tm v=u1 (u3 (u0 λ_=>v)) tm∧G3 tm v=u1 (u3 (u1 λ_=>v)) tm∧G4 tm v=u1 (u3 (u2 λ_=>v)) tm∧G5 tm v=u1 (u3 (u3 λ_=>v)) tm∧G6 tm v=u1 (u3 (u4 λ_=>v)) tm∧Ed tm v=u1 (u3 (u5 λ_=>v)) tm∧BK tm v=u1 (u3 (u6 λ_=>v)) tm∧BL tm v=u1 (u3 (u7 λ_=>v)) tm):=⟨λ_=>⟨rfl,rfl,rfl,rfl,rfl,rfl,rfl,rfl,rfl,rfl,rfl,rfl,rfl,rfl,rfl,rfl,rfl,rfl,rfl,rfl,rfl,rfl,rfl,rfl,rfl,rfl,rfl,rfl,rfl,rfl,rfl,rfl⟩,λ_ _=>⟨rfl,rfl,rfl,rfl,rfl,rfl,rfl,rfl,rfl,rfl,rfl,rfl,rfl,rfl,rfl,rfl,rfl,rfl,rfl,rfl,rfl,rfl,rfl,rfl,rfl,rfl,rfl,rfl,rfl,rfl,rfl,rfl⟩⟩
theorem JH:(∀tm:TM,CH tm=a0 (a4 (a1 tm))∧CI tm=a1 (a4 (a1 tm))∧CJ tm=a2 (a4 (a1 tm))∧E7 tm=a3 (a4 (a1 tm))∧Lw tm=a4 (a4 (a1 tm))∧Kb tm=a5 (a4 (a1 tm))∧P9 tm=a6 (a4 (a1 tm))∧JO tm=a7 (a4 (a1 tm))∧JP tm=a0 (a5 (a1 tm))∧Qp tm=a1 (a5 (a1 tm))∧JQ tm=a2 (a5 (a1 tm))∧JR tm=a3 (a5 (a1 tm))∧HL tm=a4 (a5 (a1 tm))∧OH tm=a5 (a5 (a1 tm))∧Kc tm=a6 (a5 (a1 tm))∧Kd tm=a7 (a5 (a1 tm))∧Lx tm=a0 (a6 (a1 tm))∧N2 tm=a1 (a6 (a1 tm))∧Oa tm=a2 (a6 (a1 tm))∧N3 tm=a3 (a6 (a1 tm))∧Ob tm=a4 (a6 (a1 tm))∧N4 tm=a5 (a6 (a1 tm))∧N5 tm=a6 (a6 (a1 tm))∧Q2 tm=a7 (a6 (a1 tm))∧N6 tm=a0 (a7 (a1 tm))∧PL tm=a1 (a7 (a1 tm))∧Ng tm=a2 (a7 (a1 tm))∧Nh tm=a3 (a7 (a1 tm))∧N7 tm=a4 (a7 (a1 tm))∧N9 tm=a5 (a7 (a1 tm))∧Oc tm=a6 (a7 (a1 tm))∧Ma tm=a7 (a7 (a1 tm)))∧(∀(tm:TM) (v:AV),BM tm v=u1 (u4 (u0 λ_=>v)) tm∧BN tm v=u1 (u4 (u1 λ_=>v)) tm∧BO tm v=u1 (u4 (u2 λ_=>v)) tm∧Dc tm v=u1 (u4 (u3 λ_=>v)) tm∧LF tm v=u1 (u4 (u4 λ_=>v)) tm∧KU tm v=u1 (u4 (u5 λ_=>v)) tm∧KV tm v=u1 (u4 (u6 λ_=>v)) tm∧JZ tm v=u1 (u4 (u7 λ_=>v)) tm∧J6 tm v=u1 (u5 (u0 λ_=>v)) tm∧J7 tm v=u1 (u5 (u1 λ_=>v)) tm∧J8 tm v=u1 (u5 (u2 λ_=>v)) tm∧J9 tm v=u1 (u5 (u3 λ_=>v)) tm∧GP tm v=u1 (u5 (u4 λ_=>v)) tm∧Ia tm v=u1 (u5 (u5 λ_=>v)) tm∧KW tm v=u1 (u5 (u6 λ_=>v)) tm∧KX tm v=u1 (u5 (u7 λ_=>v)) tm∧LG tm v=u1 (u6 (u0 λ_=>v)) tm∧Ms tm v=u1 (u6 (u1 λ_=>v)) tm∧Mt tm v=u1 (u6 (u2 λ_=>v)) tm∧Mu tm v=u1 (u6 (u3 λ_=>v)) tm∧Mv tm v=u1 (u6 (u4 λ_=>v)) tm∧Mw tm v=u1 (u6 (u5 λ_=>v)) tm∧Mx tm v=u1 (u6 (u6 λ_=>v)) tm∧My tm v=u1 (u6 (u7 λ_=>v)) tm∧Mz tm v=u1 (u7 (u0 λ_=>v)) tm∧Nq tm v=u1 (u7 (u1 λ_=>v)) tm∧Nr tm v=u1 (u7 (u2 λ_=>v)) tm∧Ns tm v=u1 (u7 (u3 λ_=>v)) tm∧MA tm v=u1 (u7 (u4 λ_=>v)) tm∧MB tm v=u1 (u7 (u5 λ_=>v)) tm∧MC tm v=u1 (u7 (u6 λ_=>v)) tm∧MD tm v=u1 (u7 (u7 λ_=>v)) tm):=⟨λ_=>⟨rfl,rfl,rfl,rfl,rfl,rfl,rfl,rfl,rfl,rfl,rfl,rfl,rfl,rfl,rfl,rfl,rfl,rfl,rfl,rfl,rfl,rfl,rfl,rfl,rfl,rfl,rfl,rfl,rfl,rfl,rfl,rfl⟩,λ_ _=>⟨rfl,rfl,rfl,rfl,rfl,rfl,rfl,rfl,rfl,rfl,rfl,rfl,rfl,rfl,rfl,rfl,rfl,rfl,rfl,rfl,rfl,rfl,rfl,rfl,rfl,rfl,rfl,rfl,rfl,rfl,rfl,rfl⟩⟩
theorem E3:(∀tm:TM,Mb tm=a0 (a0 (a2 tm))∧Ly tm=a1 (a0 (a2 tm))∧Mc tm=a2 (a0 (a2 tm))∧Q3 tm=a3 (a0 (a2 tm))∧Lz tm=a4 (a0 (a2 tm))∧Od tm=a5 (a0 (a2 tm))∧HM tm=a6 (a0 (a2 tm))∧JS tm=a7 (a0 (a2 tm))∧HN tm=a0 (a1 (a2 tm))∧HP tm=a1 (a1 (a2 tm))∧LA tm=a2 (a1 (a2 tm))∧HQ tm=a3 (a1 (a2 tm))∧Ni tm=a4 (a1 (a2 tm))∧Cu tm=a5 (a1 (a2 tm))∧Cv tm=a6 (a1 (a2 tm))∧Md tm=a7 (a1 (a2 tm))∧Cw tm=a0 (a2 (a2 tm))∧EE tm=a1 (a2 (a2 tm))∧Cx tm=a2 (a2 (a2 tm))∧Ke tm=a3 (a2 (a2 tm))∧Cy tm=a4 (a2 (a2 tm))∧Cz tm=a5 (a2 (a2 tm))∧CA tm=a6 (a2 (a2 tm))∧EF tm=a7 (a2 (a2 tm))∧JT tm=a0 (a3 (a2 tm))∧CB tm=a1 (a3 (a2 tm))∧wP tm=a2 (a3 (a2 tm))∧wQ tm=a3 (a3 (a2 tm))∧wR tm=a4 (a3 (a2 tm))∧EG tm=a5 (a3 (a2 tm))∧qG tm=a6 (a3 (a2 tm))∧qH tm=a7 (a3 (a2 tm)))∧(∀(tm:TM) (v:AV),ME tm v=u2 (u0 (u0 λ_=>v)) tm∧LH tm v=u2 (u0 (u1 λ_=>v)) tm∧MF tm v=u2 (u0 (u2 λ_=>v)) tm∧MG tm v=u2 (u0 (u3 λ_=>v)) tm∧LI tm v=u2 (u0 (u4 λ_=>v)) tm∧KY tm v=u2 (u0 (u5 λ_=>v)) tm∧Ib tm v=u2 (u0 (u6 λ_=>v)) tm∧Ic tm v=u2 (u0 (u7 λ_=>v)) tm∧GQ tm v=u2 (u1 (u0 λ_=>v)) tm∧GR tm v=u2 (u1 (u1 λ_=>v)) tm∧GS tm v=u2 (u1 (u2 λ_=>v)) tm∧GU tm v=u2 (u1 (u3 λ_=>v)) tm∧GV tm v=u2 (u1 (u4 λ_=>v)) tm∧Bz tm v=u2 (u1 (u5 λ_=>v)) tm∧BA tm v=u2 (u1 (u6 λ_=>v)) tm∧BB tm v=u2 (u1 (u7 λ_=>v)) tm∧BC tm v=u2 (u2 (u0 λ_=>v)) tm∧EX tm v=u2 (u2 (u1 λ_=>v)) tm∧EY tm v=u2 (u2 (u2 λ_=>v)) tm∧EZ tm v=u2 (u2 (u3 λ_=>v)) tm∧BE tm v=u2 (u2 (u4 λ_=>v)) tm∧BF tm v=u2 (u2 (u5 λ_=>v)) tm∧BG tm v=u2 (u2 (u6 λ_=>v)) tm∧BH tm v=u2 (u2 (u7 λ_=>v)) tm∧BI tm v=u2 (u3 (u0 λ_=>v)) tm∧BJ tm v=u2 (u3 (u1 λ_=>v)) tm∧uh tm v=u2 (u3 (u2 λ_=>v)) tm∧ui tm v=u2 (u3 (u3 λ_=>v)) tm∧uj tm v=u2 (u3 (u4 λ_=>v)) tm∧uk tm v=u2 (u3 (u5 λ_=>v)) tm∧pJ tm v=u2 (u3 (u6 λ_=>v)) tm∧pK tm v=u2 (u3 (u7 λ_=>v)) tm):=⟨λ_=>⟨rfl,rfl,rfl,rfl,rfl,rfl,rfl,rfl,rfl,rfl,rfl,rfl,rfl,rfl,rfl,rfl,rfl,rfl,rfl,rfl,rfl,rfl,rfl,rfl,rfl,rfl,rfl,rfl,rfl,rfl,rfl,rfl⟩,λ_ _=>⟨rfl,rfl,rfl,rfl,rfl,rfl,rfl,rfl,rfl,rfl,rfl,rfl,rfl,rfl,rfl,rfl,rfl,rfl,rfl,rfl,rfl,rfl,rfl,rfl,rfl,rfl,rfl,rfl,rfl,rfl,rfl,rfl⟩⟩
theorem yb:(∀tm:TM,qI tm=a0 (a4 (a2 tm))∧qJ tm=a1 (a4 (a2 tm))∧CC tm=a2 (a4 (a2 tm))∧qK tm=a3 (a4 (a2 tm))∧qL tm=a4 (a4 (a2 tm))∧qM tm=a5 (a4 (a2 tm))∧jy tm=a6 (a4 (a2 tm))∧Zaa tm=a7 (a4 (a2 tm))∧Zab tm=a0 (a5 (a2 tm))∧Zec tm=a1 (a5 (a2 tm))∧Zed tm=a2 (a5 (a2 tm))∧Zee tm=a3 (a5 (a2 tm))∧Zef tm=a4 (a5 (a2 tm))∧Zeg tm=a5 (a5 (a2 tm))∧Zeh tm=a6 (a5 (a2 tm))∧Zei tm=a7 (a5 (a2 tm))∧Zej tm=a0 (a6 (a2 tm))∧Zek tm=a1 (a6 (a2 tm))∧Zel tm=a2 (a6 (a2 tm))∧Zem tm=a3 (a6 (a2 tm))∧Zen tm=a4 (a6 (a2 tm))∧Zeo tm=a5 (a6 (a2 tm))∧Zep tm=a6 (a6 (a2 tm))∧Zeq tm=a7 (a6 (a2 tm))∧Zer tm=a0 (a7 (a2 tm))∧Zes tm=a1 (a7 (a2 tm))∧Zet tm=a2 (a7 (a2 tm))∧Zeu tm=a3 (a7 (a2 tm))∧Zev tm=a4 (a7 (a2 tm))∧Zew tm=a5 (a7 (a2 tm))∧Zex tm=a6 (a7 (a2 tm))∧Zey tm=a7 (a7 (a2 tm)))∧(∀(tm:TM) (v:AV),pL tm v=u2 (u4 (u0 λ_=>v)) tm∧pM tm v=u2 (u4 (u1 λ_=>v)) tm∧pN tm v=u2 (u4 (u2 λ_=>v)) tm∧pO tm v=u2 (u4 (u3 λ_=>v)) tm∧pP tm v=u2 (u4 (u4 λ_=>v)) tm∧pQ tm v=u2 (u4 (u5 λ_=>v)) tm∧fG tm v=u2 (u4 (u6 λ_=>v)) tm∧ZaH tm v=u2 (u4 (u7 λ_=>v)) tm∧ZaI tm v=u2 (u5 (u0 λ_=>v)) tm∧Zgw tm v=u2 (u5 (u1 λ_=>v)) tm∧Zgx tm v=u2 (u5 (u2 λ_=>v)) tm∧Zgy tm v=u2 (u5 (u3 λ_=>v)) tm∧Zgz tm v=u2 (u5 (u4 λ_=>v)) tm∧ZgA tm v=u2 (u5 (u5 λ_=>v)) tm∧ZgB tm v=u2 (u5 (u6 λ_=>v)) tm∧ZgC tm v=u2 (u5 (u7 λ_=>v)) tm∧ZgD tm v=u2 (u6 (u0 λ_=>v)) tm∧ZgE tm v=u2 (u6 (u1 λ_=>v)) tm∧ZgF tm v=u2 (u6 (u2 λ_=>v)) tm∧ZgG tm v=u2 (u6 (u3 λ_=>v)) tm∧ZgH tm v=u2 (u6 (u4 λ_=>v)) tm∧ZgI tm v=u2 (u6 (u5 λ_=>v)) tm∧ZgJ tm v=u2 (u6 (u6 λ_=>v)) tm∧ZgK tm v=u2 (u6 (u7 λ_=>v)) tm∧ZgL tm v=u2 (u7 (u0 λ_=>v)) tm∧ZgM tm v=u2 (u7 (u1 λ_=>v)) tm∧ZgN tm v=u2 (u7 (u2 λ_=>v)) tm∧ZgO tm v=u2 (u7 (u3 λ_=>v)) tm∧ZgP tm v=u2 (u7 (u4 λ_=>v)) tm∧ZgQ tm v=u2 (u7 (u5 λ_=>v)) tm∧ZgR tm v=u2 (u7 (u6 λ_=>v)) tm∧ZgS tm v=u2 (u7 (u7 λ_=>v)) tm):=⟨λ_=>⟨rfl,rfl,rfl,rfl,rfl,rfl,rfl,rfl,rfl,rfl,rfl,rfl,rfl,rfl,rfl,rfl,rfl,rfl,rfl,rfl,rfl,rfl,rfl,rfl,rfl,rfl,rfl,rfl,rfl,rfl,rfl,rfl⟩,λ_ _=>⟨rfl,rfl,rfl,rfl,rfl,rfl,rfl,rfl,rfl,rfl,rfl,rfl,rfl,rfl,rfl,rfl,rfl,rfl,rfl,rfl,rfl,rfl,rfl,rfl,rfl,rfl,rfl,rfl,rfl,rfl,rfl,rfl⟩⟩
end
def L4(d:Nat):UInt8:=UInt8.ofNat (48+d)
theorem Ht{d:Nat}(h:d<10):(L4 d).toNat=48+d:=by
 unfold L4
 rw[UInt8.toNat_ofNat_of_lt' (show 48+d<UInt8.size by unfold UInt8.size;omega)]
def yx:Nat->Nat->List UInt8
 |0,_=>[]
 |k+1,n=>yx k (n/10)++[L4 (n % 10)]
theorem L3: ∀k n,(yx k n).length=k
 |0,_=>rfl
 |k+1,n=>by show(yx k (n/10)++[L4 (n % 10)]).length=_;rw[Zf,L3 k];rfl
def Zg0(l:List UInt8):Nat:=l.foldl (λn c=>10*n+(c.toNat - 48)) 0
def QH(n:Nat):Nat:=if n<10 then 1 else QH (n/10)+1
theorem Jh{n:Nat}(h:n<10):QH n=1:=by rw[QH,if_pos h]
theorem Jg{n:Nat}(h:10<=n):QH n=QH (n/10)+1:=by rw[QH,if_neg (by omega)]
theorem Gn(n:Nat):1<=QH n:=by
 by_cases h:n<10
 ·rw[Jh h];exact Zl _
 ·rw[Jg (by omega)];omega
theorem xb: ∀k n,10^k<=n->n<10^(k+1)->QH n=k+1
 |0,n,_,h=>Jh (by simpa using h)
 |k+1,n,h1,h2=>by
  have h3:10^(k+1)=10^k*10:=Qy ..
  have h4:10^(k+1+1)=10^(k+1)*10:=Qy ..
  have h5:1<=10^k:=Nat.one_le_pow _ _ (by decide)
  rw[Jg (by omega),xb k (n/10) (by omega) (by omega)]
theorem ph(n:Nat):n<10^QH n:=by
 induction n using Nat.strongRecOn with
 |ind n ih=>
  by_cases h:n<10
  ·rw[Jh h];simpa using h
  ·rw[Jg (by omega),Qy]
   have:=ih (n/10) (by omega)
   omega
theorem Dr{n k:Nat}(hk:1<=k)(h:n<10^k):QH n<=k:=by
 by_cases h0:n<10
 ·rw[Jh h0];exact hk
 ·obtain⟨j,hj⟩: ∃j,QH n=j+1:=⟨QH n - 1,by have:=Gn n;omega⟩
  rw[hj]
  by_cases hlt:k<j+1
  ·have h1:10^j<=n:=by
    have: ∀n j,QH n=j+1->10<=n->10^j<=n:=by
     intro n
     induction n using Nat.strongRecOn with
     |ind n ih=>
      intro j hj hn
      rw[Jg hn] at hj
      by_cases h2:n/10<10
      ·rw[Jh h2] at hj
       obtain rfl:j=1:=by omega
       simpa using hn
      ·obtain⟨i,rfl⟩: ∃i,j=i+1:=⟨j - 1,by have:=Gn (n/10);omega⟩
       have:=ih (n/10) (by omega) i (by omega) (by omega)
       rw[Qy];omega
    exact this n j hj (by omega)
   have h2:10^k<=10^j:=Nat.pow_le_pow_right (by decide) (by omega)
   omega
  ·omega
def dec(n:Nat):List UInt8:=yx (QH n) n
theorem Hp(n:Nat):(dec n).length=QH n:=L3 ..
theorem yz{n:Nat}(h:n<10):dec n=[L4 n]:=by
 unfold dec;rw[Jh h];show []++[L4 (n % 10)]=_;rw[Z7 h];rfl
theorem kW{n:Nat}(h:10<=n):dec n=dec (n/10)++[L4 (n % 10)]:=by
 unfold dec;rw[Jg h];rfl
def SF(z:Int):List UInt8:=if z<0 then 45::dec z.natAbs else dec z.natAbs
section
open Go.Proofs N8
abbrev ZD(x:Ye)(d:ZS)(n:D):D:=Zc (Z0 x) d n
abbrev Z5(f:W7)(os:List (ZS×Ye))(d:ZS)(i b:Nat):PI:=⟨f,none,os,d,.free,i,b⟩
abbrev kI(n:Nat):Ye:=k (nI .i64 n)
abbrev kB(b:Bool):Ye:=k (.bool b)
abbrev rH(e:Nat)(l:List AV):Obj:=rG e 1 l 0 false true true
abbrev zV:List AV:=[nI .i64 0,.bool false,nI .i64 0,.str [],.nils,.nils]
abbrev eV:List AV:=[.str [],nI .i64 0,.bool false,nI .i64 0,.str [],.nils,.nils]
abbrev zF:List AV:=[.str [],nI .u8 0,nI .u8 0,nI .u8 0,nI .u8 0,nI .u8 0,nI .u8 0,nI .u8 0,nI .u8 0,nI .u8 0,nI .u8 0,nI .u8 0,nI .u8 0,nI .u8 0,nI .u8 0,nI .u8 0,nI .u8 0,nI .u8 0,nI .u8 0,nI .u8 0,nI .u8 0,nI .u8 0,nI .u8 0,nI .u8 0,nI .u8 0,nI .u8 0,nI .u8 0,nI .u8 0,nI .u8 0,nI .u8 0,nI .u8 0,nI .u8 0,nI .u8 0,nI .i64 0,.nils,.nils]
abbrev zD:List AV:=[.str [],nI .u8 0,nI .u8 0,nI .u8 0,nI .u8 0,nI .u8 0,nI .u8 0,nI .u8 0,nI .u8 0,nI .u8 0,nI .u8 0,nI .u8 0,nI .u8 0,nI .u8 0,nI .u8 0,nI .u8 0,nI .u8 0,nI .u8 0,nI .u8 0,nI .u8 0,nI .u8 0,nI .u8 0,nI .u8 0,nI .u8 0,nI .u8 0,nI .u8 0,nI .u8 0,nI .u8 0,nI .u8 0,nI .u8 0,nI .u8 0,nI .u8 0,nI .u8 0,nI .i64 0,.nils]
abbrev zB:List AV:=[nI .u8 0,nI .u8 0,nI .u8 0,nI .u8 0,nI .u8 0,nI .u8 0,nI .u8 0,nI .u8 0,nI .u8 0,nI .u8 0,nI .u8 0,nI .u8 0,nI .u8 0,nI .u8 0,nI .u8 0,nI .u8 0,nI .u8 0,nI .u8 0,nI .u8 0,nI .u8 0,nI .u8 0,nI .u8 0,nI .u8 0,nI .u8 0,nI .u8 0,nI .u8 0,nI .u8 0,nI .u8 0,nI .u8 0,nI .u8 0,nI .u8 0,nI .u8 0]
theorem XZ{α:Type}(a:α): ∃b,a=b:=⟨a,rfl⟩
def Qh:List UInt8:=[97,112,112,108,105,99,97,116,105,111,110,47,118,110,100,46,111,99,105,46,105,109,97,103,101,46,99,111,110,102,105,103,46,118,49,43,106,115,111,110]
def RW:List UInt8:=[97,112,112,108,105,99,97,116,105,111,110,47,118,110,100,46,111,99,105,46,105,109,97,103,101,46,108,97,121,101,114,46,118,49,46,116,97,114,43,103,122,105,112]
def U6:List UInt8:=[97,112,112,108,105,99,97,116,105,111,110,47,118,110,100,46,111,99,105,46,105,109,97,103,101,46,109,97,110,105,102,101,115,116,46,118,49,43,106,115,111,110]
def C1:List UInt8:=[44,34,115,99,104,101,109,97,86,101,114,115,105,111,110,34,58,50,125]
def RJ:List UInt8:=[97,112,112,108,105,99,97,116,105,111,110,47,118,110,100,46,111,99,105,46,105,109,97,103,101,46,105,110,100,101,120,46,118,49,43,106,115,111,110]
def sg:List UInt8:=[123,34,97,114,99,104,105,116,101,99,116,117,114,101,34,58]
def si:List UInt8:=[44,34,114,111,111,116,102,115,34,58,123,34,100,105,102,102,95,105,100,115,34,58,91]
def sj:List UInt8:=[93,44,34,116,121,112,101,34,58,34,108,97,121,101,114,115,34,125,125]
def SS:List UInt8:=[48,49,50,51,52,53,54,55,56,57,97,98,99,100,101,102]
def Zaw:List UInt8:=[115,116,114,105,110,103,115,58,32,74,111,105,110,32,111,117,116,112,117,116,32,108,101,110,103,116,104,32,111,118,101,114,102,108,111,119]
def ZfL:List UInt8:=[115,116,114,105,110,103,115,46,66,117,105,108,100,101,114,46,71,114,111,119,58,32,110,101,103,97,116,105,118,101,32,99,111,117,110,116]
def pe:List UInt8:=[48,49,50,51,52,53,54,55,56,57,97,98,99,100,101,102,103,104,105,106,107,108,109,110,111,112,113,114,115,116,117,118,119,120,121,122]
def Ra:List UInt8:=[48,48,48,49,48,50,48,51,48,52,48,53,48,54,48,55,48,56,48,57,49,48,49,49,49,50,49,51,49,52,49,53,49,54,49,55,49,56,49,57,50,48,50,49,50,50,50,51,50,52,50,53,50,54,50,55,50,56,50,57,51,48,51,49,51,50,51,51,51,52,51,53,51,54,51,55,51,56,51,57,52,48,52,49,52,50,52,51,52,52,52,53,52,54,52,55,52,56,52,57,53,48,53,49,53,50,53,51,53,52,53,53,53,54,53,55,53,56,53,57,54,48,54,49,54,50,54,51,54,52,54,53,54,54,54,55,54,56,54,57,55,48,55,49,55,50,55,51,55,52,55,53,55,54,55,55,55,56,55,57,56,48,56,49,56,50,56,51,56,52,56,53,56,54,56,55,56,56,56,57,57,48,57,49,57,50,57,51,57,52,57,53,57,54,57,55,57,56,57,57]
def vi:List UInt8:=[0,1,2,2,3,3,3,3,4,4,4,4,4,4,4,4,5,5,5,5,5,5,5,5,5,5,5,5,5,5,5,5,6,6,6,6,6,6,6,6,6,6,6,6,6,6,6,6,6,6,6,6,6,6,6,6,6,6,6,6,6,6,6,6,7,7,7,7,7,7,7,7,7,7,7,7,7,7,7,7,7,7,7,7,7,7,7,7,7,7,7,7,7,7,7,7,7,7,7,7,7,7,7,7,7,7,7,7,7,7,7,7,7,7,7,7,7,7,7,7,7,7,7,7,7,7,7,7,8,8,8,8,8,8,8,8,8,8,8,8,8,8,8,8,8,8,8,8,8,8,8,8,8,8,8,8,8,8,8,8,8,8,8,8,8,8,8,8,8,8,8,8,8,8,8,8,8,8,8,8,8,8,8,8,8,8,8,8,8,8,8,8,8,8,8,8,8,8,8,8,8,8,8,8,8,8,8,8,8,8,8,8,8,8,8,8,8,8,8,8,8,8,8,8,8,8,8,8,8,8,8,8,8,8,8,8,8,8,8,8,8,8,8,8,8,8,8,8,8,8,8,8,8,8,8,8]
def wj:D:=(Zj (Zj (ZD W1 G5<|ZD Xf G6<|Zc (X9 HY) Ed<|Zc (YE HX FE XC Yn) BK<|Zd) (Z3 CD Zd (We 0))) (Zj (Yf 1 (Zj (Xt [Z5 (Z0 Xf) [(Xz,Xf)] BN 0 0,Z5 (Z0 W1) [(V1,W1)] BO 1 0,Z5 (YM CI CJ 35) [(BN,CI),(BO,CJ)] Dc 2 3,⟨YX E7 35,none,[(Dc,E7)],LF,.read,3,7⟩,Z5 (Z0 Xf) [(Xz,Xf)] KV 5 0,Z5 (Z0 W1) [(V1,W1)] JZ 6 0,Z5 (YM P9 JO 35) [(KV,P9),(JZ,JO)] J6 7 96,⟨YX JP 35,none,[(J6,JP)],J7,.read,8,224⟩,⟨ZI 15 [Lw],none,[(LF,Lw)],KU,.eff,4,15⟩,⟨ZI 8 [Qp],none,[(J7,Qp)],J8,.eff,9,511⟩,⟨ZI 16 [JQ],none,[(J8,JQ)],J9,.eff,10,1023⟩,Z5 (UQ Kb JR uJ true) [(KU,Kb),(J9,JR)] GP 11 2047]) (Z3 HL (Zj (Zc (Z0 (kB false)) st2<|Zd) Yv) Zd))) (ZD W1 BL<|Zc (Yk CG (kI 1)) BM<|ZD CH V1<|Zd)))
def c3:CF:=⟨[(Xy,none)],(Zj (Zc (U3 Ys 30) st1<|Zc (Z0 (kB false)) st2<|Zd) (Zj (Xt [Z5 (Yx Y2 0) [(st1,Y2)] Us 0 0,⟨YX WH 35,none,[(Us,WH)],Uw,.read,1,1⟩,Z5 (Yx Y2 35) [(st1,Y2)] UO 3 0,⟨ZM UU,none,[(UO,UU)],U4,.read,4,8⟩,Z5 (WK 26 zD) [] Vk 6 0,⟨ZI 4 [Vf],none,[(Uw,Vf)],UC,.eff,2,3⟩,⟨ZI 5 [Uq],none,[(U4,Uq)],TB,.eff,5,31⟩,⟨YY XK Vu 35,none,[(Vk,XK),(UC,Vu)],d0,.eff,7,127⟩,⟨Z0 UK,none,[(TB,UK)],Xz,.eff,8,255⟩]) (Zj (Xt [Z5 (Yx Y2 36) [(st1,Y2)] To 0 0,⟨ZM Uh,none,[(To,Uh)],U9,.read,1,1⟩,Z5 (Yx Y2 36) [(st1,Y2)] Tp 2 0,⟨ZM UL,none,[(Tp,UL)],Tw,.read,3,4⟩,Z5 (TO Ui) [(Tw,Ui)] TC 4 12,Z5 (QJ false [VL,(kI 300)]) [(TC,VL)] TY 5 28,Z5 (UA Uy none (some Un) none) [(U9,Uy),(TY,Un)] TS 6 63,Z5 (Yx Y2 37) [(st1,Y2)] Sg 7 0,⟨ZM T9,none,[(Sg,T9)],Si,.read,8,128⟩,Z5 (Yx Y2 37) [(st1,Y2)] SM 9 0,⟨ZM SG,none,[(SM,SG)],Ss,.read,10,512⟩,Z5 (TO Ty) [(Ss,Ty)] Su 11 1536,Z5 (QJ false [Sa,(kI 300)]) [(Su,Sa)] SN 12 3584,Z5 (UA U5 none (some TW) none) [(Si,U5),(SN,TW)] SO 13 8064,⟨Z0 UV,none,[(TS,UV)],Vs,.eff,14,127⟩,⟨Z0 Sb,none,[(SO,Sb)],V3,.eff,15,32767⟩]) (Zj (Zc (Yx Y2 38) Rw<|Zc (ZM TX) SW<|Zc (Yx Y2 38) SX<|Zc (ZM TA) RN<|Zc (X9 RT) Qi<|Zc (QJ false [UW,(kI 130)]) R0<|Zc (FT 32 UM none (some S6) none) R1<|ZD Sc VZ<|Zd) (Zj (Zc (YX XK 35) Qk<|ZD Xf QS<|Zc (Vw zF [⟨0,35,Qe⟩,⟨35,1,SJ⟩]) QT<|Zc (ZI 6 [S7]) QZ<|ZD RH Qj<|Zc (XR SH 0) Oq<|Zc (XR SH 1) O6<|ZD Pj Vt<|ZD O3 V2<|Zd) (Zj (Zc (YX XK 35) O8<|Zc (ZI 8 [P4]) OW<|ZD Xf OX<|Zc (ZI 9 [QB]) NQ<|Zc (ZI 7 [O4,NC]) Li<|ZD Pk O7<|Zc (XR Ol 0) Lj<|Zc (XR Ol 1) KZ<|ZD ND XJ<|ZD Kf XE<|Zd) (Zj (ZD Xf IX<|Zc (Vw [.nils] [⟨0,1,MW⟩]) JC<|Zc (ZI 10 [MX]) IY<|ZD IA IW<|Zc (XR O5 0) GW<|Zc (XR O5 1) Ec<|ZD HR XL<|ZD FD Wo<|Zd) (Zj (ZD Xf IZ<|Zc (ZI 9 [HS]) I0<|Zc (ZI 11 [Pm]) JD<|ZD Qf GX<|Zc (XR Me 0) I1<|Zc (XR Me 1) I2<|ZD IB WA<|ZD IC WZ<|Zd) (Zj (ZD X5 GZ<|ZD WN G0<|ZD WB I3<|Zc (Vw [(.str []),(.str []),.nils] [⟨0,1,HT⟩,⟨1,1,HU⟩,⟨2,1,ID⟩]) I4<|Zc (ZI 12 [IE]) I5<|ZD Kh GY<|Zc (XR Kg 0) JE<|Zc (XR Kg 1) JF<|ZD NE W0<|ZD Jv Vx<|Zd) (Zj (ZD X5 G1<|ZD WN I6<|ZD WB I7<|Zc (ZI 14 [IG]) I8<|Zc (ZI 13 [LP,IF,Ki]) G2<|ZD MY JG<|Zc (XR Qu 0) G3<|Zc (XR Qu 1) G4<|ZD HV Vn<|ZD HW VJ<|Zd) (Zj (Zj (Zc (Z0 (kI 0)) V1<|Zd) (Yf 0 (Wj wj))) (Zj (Xt [Z5 (Z0 Wc) [(Vt,Wc)] Ia 0 0,⟨KF OH,none,[(Ia,OH)],KW,.read,1,1⟩,Z5 (Z0 Xg) [(XJ,Xg)] KX 2 0,⟨KF Kd,none,[(KX,Kd)],LG,.read,3,4⟩,Z5 (UQ Kc Lx Nc false) [(KW,Kc),(LG,Lx)] Ms 4 15,Z5 (Z0 N2) [(Ms,N2)] Mt 5 31,⟨Z0 Wv,(some (Oa,true)),[(V2,Wv)],Mu,.free,6,63⟩,⟨Z0 Xc,(some (Oa,true)),[(XE,Xc)],Mv,.free,7,63⟩,⟨UQ N3 Ob Sn false,(some (Oa,true)),[(Mu,N3),(Mv,Ob)],Mw,.free,8,255⟩,Z5 (YN Oa N4 (kB false)) [(Mt,Oa),(Mw,N4)] Mx 9 511,Z5 (Z0 N5) [(Mx,N5)] My 10 1023,⟨Z0 Xq,(some (Q2,true)),[(XL,Xq)],Mz,.free,11,2047⟩,⟨KF N6,(some (Q2,true)),[(Mz,N6)],Nq,.read,12,4095⟩,⟨Z0 Wk,(some (Q2,true)),[(WA,Wk)],Nr,.free,13,2047⟩,⟨KF Ng,(some (Q2,true)),[(Nr,Ng)],Ns,.read,14,10239⟩,⟨UQ PL Nh Nc false,(some (Q2,true)),[(Nq,PL),(Ns,Nh)],MA,.free,15,32767⟩,Z5 (YN Q2 N7 (kB false)) [(My,Q2),(MA,N7)] MB 16 65535,Z5 (Z0 N9) [(MB,N9)] MC 17 131071,⟨Z0 XH,(some (Oc,true)),[(Wo,XH)],MD,.free,18,262143⟩,⟨Z0 Wy,(some (Oc,true)),[(WZ,Wy)],ME,.free,19,262143⟩,⟨UQ Ma Mb Sn false,(some (Oc,true)),[(MD,Ma),(ME,Mb)],LH,.free,20,1048575⟩,Z5 (YN Oc Ly (kB false)) [(MC,Oc),(LH,Ly)] MF 21 2097151,Z5 (Z0 Mc) [(MF,Mc)] MG 22 4194303,⟨Z0 Wu,(some (Q3,true)),[(W0,Wu)],LI,.free,23,8388607⟩,⟨KF Lz,(some (Q3,true)),[(LI,Lz)],KY,.read,24,16777215⟩,⟨Z0 Wx,(some (Q3,true)),[(Vn,Wx)],Ib,.free,25,8388607⟩,⟨KF HM,(some (Q3,true)),[(Ib,HM)],Ic,.read,26,41943039⟩,⟨UQ Od JS Nc false,(some (Q3,true)),[(KY,Od),(Ic,JS)],GQ,.free,27,134217727⟩,Z5 (YN Q3 HN (kB false)) [(MG,Q3),(GQ,HN)] GR 28 268435455,Z5 (Z0 HP) [(GR,HP)] GS 29 536870911,⟨Z0 WJ,(some (LA,true)),[(Vx,WJ)],GU,.free,30,1073741823⟩,⟨Z0 W5,(some (LA,true)),[(VJ,W5)],GV,.free,31,1073741823⟩,⟨UQ HQ Ni Sn false,(some (LA,true)),[(GU,HQ),(GV,Ni)],Bz,.free,32,4294967295⟩,Z5 (YN LA Cu (kB false)) [(GS,LA),(Bz,Cu)] BA 33 8589934591,Z5 (Z0 Cv) [(BA,Cv)] BB 34 17179869183,⟨YX XK 35,(some (Md,true)),[(Vk,XK)],BC,.read,35,34359738367⟩,⟨YX XK 35,(some (Md,true)),[(Vk,XK)],EY,.read,37,34359738367⟩,⟨ZI 15 [Cw],(some (Md,true)),[(BC,Cw)],EX,.eff,36,68719476735⟩,⟨ZI 8 [Cx],(some (Md,true)),[(EY,Cx)],EZ,.eff,38,274877906943⟩,⟨ZI 16 [Ke],(some (Md,true)),[(EZ,Ke)],BE,.eff,39,549755813887⟩,⟨UQ EE Cy uJ false,(some (Md,true)),[(EX,EE),(BE,Cy)],BF,.free,40,1099511627775⟩,Z5 (YN Md Cz (kB false)) [(BB,Md),(BF,Cz)] BG 41 2199023255551,Z5 (Z0 CA) [(BG,CA)] BH 42 4398046511103,⟨ZI 17 [],(some (EF,true)),[],BI,.eff,43,8796093022207⟩,Z5 (YN EF JT (kB false)) [(BH,EF),(BI,JT)] BJ 44 17592186044415,⟨Z0 CB,none,[(BJ,CB)],st2,.eff,45,35184372088831⟩]) Yv))))))))))))⟩
def Ax:D:=(Zj (Zj (ZD Xf Vs<|Zc (Yx Y2 34) V3<|Zc (ZM WN) VZ<|Zc (X9 WB) Vt<|Zc (YE X5 Wc XC Yn) V2<|ZD Wv XJ<|Ya Xg true (Z0 Xf) XE<|Ya Xg true (YE Xc (kI 20) XC Yn) XL<|Zc (YN Xg Xq (kB false)) Wo<|Zd) (Z3 XH Zd (We 0))) (Zj (Yf 1 (Xt [Z5 (Z0 XK) [(Vk,XK)] W0 0 0,Z5 (Yx Y2 34) [(st1,Y2)] Vx 1 0,⟨ZM WJ,none,[(Vx,WJ)],Vn,.read,2,2⟩,Z5 (Z0 Xf) [(Xz,Xf)] VJ 3 0,Z5 (YM Wx W5 2) [(Vn,Wx),(VJ,W5)] V1 4 14,Z5 (Yx W1 0) [(V1,W1)] Us 5 30,⟨ZM WH,none,[(Us,WH)],Uw,.read,6,62⟩,Z5 (Yx Y2 34) [(st1,Y2)] UC 7 0,⟨ZM Vu,none,[(UC,Vu)],UO,.read,8,128⟩,Z5 (Z0 Xf) [(Xz,Xf)] U4 9 0,Z5 (YM UU Uq 2) [(UO,UU),(U4,Uq)] TB 10 896,Z5 (Yx UK 0) [(TB,UK)] To 11 1920,⟨ZM Uh,none,[(To,Uh)],U9,.read,12,3968⟩,Z5 (TO Uy) [(U9,Uy)] Tp 13 8064,Z5 (QJ false [UL,(kI 300)]) [(Tp,UL)] Tw 14 16256,Z5 (UA Vf none (some Ui) none) [(Uw,Vf),(Tw,Ui)] TC 15 32766,Z5 (Yx Y2 34) [(st1,Y2)] TY 16 0,⟨ZM Un,none,[(TY,Un)],TS,.read,17,65536⟩,Z5 (Z0 Xf) [(Xz,Xf)] Sg 18 0,Z5 (YM UV T9 2) [(TS,UV),(Sg,T9)] Si 19 458752,Z5 (Yx U5 1) [(Si,U5)] SM 20 983040,⟨ZM SG,none,[(SM,SG)],Ss,.read,21,2031616⟩,Z5 (Yx Y2 34) [(st1,Y2)] Su 22 0,⟨ZM Sa,none,[(Su,Sa)],SN,.read,23,4194304⟩,Z5 (Z0 Xf) [(Xz,Xf)] SO 24 0,Z5 (YM TW Sb 2) [(SN,TW),(SO,Sb)] Rw 25 29360128,Z5 (Yx TX 1) [(Rw,TX)] SW 26 62914560,⟨ZM UM,none,[(SW,UM)],SX,.read,27,130023424⟩,Z5 (TO TA) [(SX,TA)] RN 28 264241152,Z5 (QJ false [RT,(kI 600)]) [(RN,RT)] Qi 29 532676608,Z5 (UA Ty none (some UW) none) [(Ss,Ty),(Qi,UW)] R0 30 1073676288,⟨Vw [(.str []),(.str [])] [⟨0,1,VL⟩,⟨1,1,S6⟩],none,[(TC,VL),(R0,S6)],R1,.free,31,2147483646⟩,⟨X7 59 2 1 [(.str []),(.str [])] [⟨0,2,Sc⟩],none,[(R1,Sc)],Qj,.free,32,4294967294⟩,⟨VF Wu SH 59 2 32,none,[(W0,Wu),(Qj,SH)],Qk,.eff,33,8589934591⟩,⟨Z0 Qe,none,[(Qk,Qe)],Vk,.eff,34,17179869183⟩])) (ZD Xf WA<|Zc (Yk Wk (kI 1)) WZ<|ZD Wy Xz<|Zd)))
def c4:CF:=⟨[(Xy,some (35,true))],(Zj (Zc (U3 Ys 26) st1<|Zc (WK 26 zD) st2<|Zd) (Zj (Zc (Z0 (k .nils)) Vk<|Zd) (Zj (Zj (Zc (Z0 (kI 0)) Xz<|Zd) (Yf 0 (Wj Ax))) (Zj (ZD XK QS<|Zc (Yx Y2 34) QT<|Zc (YY S7 SJ 1) d0<|Zd) (Zj (Zc (YX Y2 35) QZ<|Zc (YY Xy RH 35) d0<|Zd) Yv)))))⟩
def Ay:D:=(Zj (Zj (ZD Xf Vs<|ZD Ys V3<|Zc (X9 WN) VZ<|Zc (YE X5 WB XC Yn) Vt<|ZD Wc V2<|Ya Wv true (Z0 Xf) XJ<|Ya Wv true (YE Xg (kI 130) XC Yn) XE<|Zc (YN Wv Xc (kB false)) XL<|Zd) (Z3 Xq Zd (We 0))) (Zj (Yf 1 (ZD XK WZ<|ZD Ys W0<|ZD Xf Vx<|Zc (YM Wu WJ 35) Vn<|Zc (YX Wx 35) VJ<|Zc (ZI 4 [W5]) V1<|Zc (X7 26 35 1 zD [⟨0,35,W1⟩]) Us<|Zc (VF Wy WH 26 35 80) Uw<|ZD Vf Vk<|Zd)) (ZD Xf Wo<|Zc (Yk XH (kI 1)) WA<|ZD Wk Xz<|Zd)))
def c5:CF:=⟨[(Xy,none)],(Zj (Zc (Z0 (k .nils)) st2<|Zd) (Zj (Zc (Z0 (k .nils)) Vk<|Zd) (Zj (Zj (Zc (Z0 (kI 0)) Xz<|Zd) (Yf 0 (Wj Ay))) (Zj (ZD XK UC<|ZD Vu st2<|Zd) Yv))))⟩
def c6:CF:=⟨[(Xy,none),(XK,none)],(Zj (Zc (U3 Ys 38) st1<|Zc (Z0 (k .nils)) st2<|Zc (Z0 (kI 0)) Vk<|Zd) (Zj (Xt [⟨YX Y2 36,none,[(st1,Y2)],Xz,.read,0,0⟩,⟨YX Y2 36,none,[(st1,Y2)],V3,.read,2,0⟩,Z5 (LC 20 [WN] []) [(V3,WN)] VZ 3 4,⟨ZI 19 [Xf],none,[(Xz,Xf)],Vs,.eff,1,1⟩,⟨ZI 18 [X5,WB],none,[(Vs,X5),(VZ,WB)],Vt,.eff,4,15⟩,Z5 (XR Wc 0) [(Vt,Wc)] V2 5 31,Z5 (XR Wc 1) [(Vt,Wc)] XJ 6 31,⟨Z0 Wv,none,[(V2,Wv)],st2,.eff,7,127⟩,⟨Z0 Xg,none,[(XJ,Xg)],Vk,.eff,8,255⟩]) Yv))⟩
def c7:CF:=⟨[(Xf,none),(X5,none)],(Zj (Zc (U3 Ys 42) st2<|Zc (Z0 (k .nils)) Xz<|Zc (Z0 (kI 0)) Vs<|Zd) (Zj (Zc (YX Xy 35) XE<|Zc (X7 42 35 1 zD [⟨0,35,Xc⟩]) XL<|Zc (ZI 21 [Xq,(k (.str Qh))]) Wo<|ZD XH XJ<|Zc (XR Xg 0) WA<|Zc (XR Xg 1) WZ<|ZD Wk V3<|ZD Wy VZ<|Zd) (Zj (ZD Y2 Vx<|Zc (ZI 21 [WJ,(k (.str RW))]) Vn<|ZD Wx W0<|Zc (XR Wu 0) VJ<|Zc (XR Wu 1) V1<|ZD W5 Vt<|ZD W1 V2<|Zd) (Zj (Zj (ZD WB Us<|Zc (QY WH) Uw<|ZD Vf UC<|Ya Vu false (Z0 Wv) UO<|Ya Vu false (QY UU) U4<|Zc (YN Vu (kB true) Uq) TB<|Zd) (Z3 UK (Zj (Zc (Z0 (k .nils)) Xz<|Zc (Z0 (kI 1)) Vs<|Zd) Yv) Zd)) (Zj (Xt [Z5 (Z0 WN) [(V3,WN)] To 0 0,Z5 (Z0 WN) [(V3,WN)] U9 1 0,Z5 (TO Uy) [(U9,Uy)] Tp 2 2,Z5 (WX UL (kI 1)) [(Tp,UL)] Tw 3 6,Z5 (UA Uh (some (kI 1)) (some Ui) none) [(To,Uh),(Tw,Ui)] TC 4 15,Z5 (Yk (k (.str [123,34,99,111,110,102,105,103,34,58])) VL) [(TC,VL)] TY 5 31,Z5 (Yk Un (k (.str [44,34,108,97,121,101,114,115,34,58]))) [(TY,Un)] TS 6 63,Z5 (Z0 Wc) [(Vt,Wc)] Sg 7 0,Z5 (Yk UV T9) [(TS,UV),(Sg,T9)] Si 8 255,Z5 (Yk U5 (k (.str [44,34,109,101,100,105,97,84,121,112,101,34,58]))) [(Si,U5)] SM 9 511,⟨ZI 22 [(k (.str U6))],none,[],Ss,.eff,10,0⟩,Z5 (Yk SG Ty) [(SM,SG),(Ss,Ty)] Su 11 2047,Z5 (Yk Sa (k (.str C1))) [(Su,Sa)] SN 12 4095,Z5 (KC TW 5) [(SN,TW)] SO 13 8191,⟨Z0 Sb,none,[(SO,Sb)],Xz,.eff,14,16383⟩,⟨Z0 (kI 0),none,[],Vs,.eff,15,32767⟩]) Yv)))))⟩
def c8:CF:=⟨[(Xy,some (35,true))],(Zj (Zc (U3 Ys 26) st1<|Zc (WK 42 zD) st2<|Zd) (Zj (Zc (Yx Y2 0) Vk<|Zc (ZM XK) Xz<|Zc (Yx Y2 1) Vs<|Zc (YX X5 32) V3<|Zc (Yx Y2 33) VZ<|Zc (ZM WB) Vt<|Zc (Yx Y2 34) V2<|Zc (ZM Wv) XJ<|Zc (Vw zD [⟨0,1,Xf⟩,⟨1,32,WN⟩,⟨33,1,Wc⟩,⟨34,1,Xg⟩]) XE<|Zc (YY Xy Xc 35) d0<|Zd) Yv))⟩
def wl:D:=(Zj (Zj (ZD Xf Vs<|ZD Ys V3<|Zc (X9 WN) VZ<|Zc (YE X5 WB XC Yn) Vt<|Zd) (Z3 Wc Zd (We 0))) (Zj (Yf 1 (ZD XK XE<|ZD Ys XL<|ZD Xf Wo<|Zc (YM Xq XH 35) WA<|Zc (YX Wk 35) WZ<|Zc (ZI 8 [Wy]) W0<|Zc (X7 42 35 1 zD [⟨0,35,Wu⟩]) Vx<|Zc (VF Xc WJ 42 35 80) Vn<|ZD Wx Vk<|Zd)) (ZD Xf V2<|Zc (Yk Wv (kI 1)) XJ<|ZD Xg Xz<|Zd)))
def c9:CF:=⟨[(Xy,none)],(Zj (Zc (Z0 (k .nils)) st2<|Zd) (Zj (Zc (Z0 (k .nils)) Vk<|Zd) (Zj (Zj (Zc (Z0 (kI 0)) Xz<|Zd) (Yf 0 (Wj wl))) (Zj (ZD XK VJ<|ZD W5 st2<|Zd) Yv))))⟩
def c10:CF:=⟨[(Xy,none),(XK,none)],(Zj (Zc (U3 Ys 48) st1<|Zc (Z0 (k .nils)) st2<|Zc (Z0 (kI 0)) Vk<|Zd) (Zj (Xt [⟨YX Y2 1,none,[(st1,Y2)],Xz,.read,0,0⟩,⟨YX Y2 1,none,[(st1,Y2)],V3,.read,2,0⟩,Z5 (LC 24 [WN] []) [(V3,WN)] VZ 3 4,⟨ZI 23 [Xf],none,[(Xz,Xf)],Vs,.eff,1,1⟩,⟨ZI 18 [X5,WB],none,[(Vs,X5),(VZ,WB)],Vt,.eff,4,15⟩,Z5 (XR Wc 0) [(Vt,Wc)] V2 5 31,Z5 (XR Wc 1) [(Vt,Wc)] XJ 6 31,⟨Z0 Wv,none,[(V2,Wv)],st2,.eff,7,127⟩,⟨Z0 Xg,none,[(XJ,Xg)],Vk,.eff,8,255⟩]) Yv))⟩
def c11:CF:=⟨[(Xy,none),(XK,none)],(Zj (Zc (Z0 (k .nils)) st2<|Zc (Z0 (kI 0)) Vk<|Zd) (Zj (ZD Ys VZ<|Zc (ZI 21 [WB,(k (.str U6))]) Vt<|ZD Wc V3<|Zc (XR WN 0) V2<|Zc (XR WN 1) XJ<|ZD Wv Xz<|ZD Xg Vs<|Zd) (Zj (Zj (ZD X5 XE<|Zc (QY Xc) XL<|Zd) (Z3 Xq (Zj (Zc (Z0 (k .nils)) st2<|Zc (Z0 (kI 1)) Vk<|Zd) Yv) Zd)) (Zj (ZD Xf Wo<|Zc (Yk (k (.str [123,34,109,97,110,105,102,101,115,116,115,34,58])) XH) WA<|Zc (Yk Wk (k (.str [44,34,109,101,100,105,97,84,121,112,101,34,58]))) WZ<|Zc (ZI 22 [(k (.str RJ))]) W0<|Zc (Yk Wy Wu) Vx<|Zc (Yk WJ (k (.str C1))) Vn<|Zc (KC Wx 5) VJ<|ZD W5 st2<|Zc (Z0 (kI 0)) Vk<|Zd) Yv))))⟩
def c12:CF:=⟨[(Xy,none),(XK,none)],(Zj (Zc (U3 Ys 52) st1<|Zc (Z0 (k .nils)) st2<|Zc (Z0 (kI 0)) Vk<|Zd) (Zj (Xt [⟨YX Y2 3,none,[(st1,Y2)],Xz,.read,0,0⟩,⟨YX Y2 3,none,[(st1,Y2)],V3,.read,2,0⟩,Z5 (LC 26 [WN] []) [(V3,WN)] VZ 3 4,⟨ZI 25 [Xf],none,[(Xz,Xf)],Vs,.eff,1,1⟩,⟨ZI 18 [X5,WB],none,[(Vs,X5),(VZ,WB)],Vt,.eff,4,15⟩,Z5 (XR Wc 0) [(Vt,Wc)] V2 5 31,Z5 (XR Wc 1) [(Vt,Wc)] XJ 6 31,⟨Z0 Wv,none,[(V2,Wv)],st2,.eff,7,127⟩,⟨Z0 Xg,none,[(XJ,Xg)],Vk,.eff,8,255⟩]) Yv))⟩
def Fl:D:=(Zj (Zj (ZD Wv TC<|ZD Xy TY<|Zc (X9 Un) TS<|Zc (YE VL UV XC Yn) Sg<|Zd) (Z3 T9 Zd (We 0))) (Zj (Yf 1 (Zj (Zj (ZD Wv Ss<|Zc (YE Ty (kI 0) Sq VS) Su<|Zd) (Z3 Sa (ZD Wc SN<|Zc (Yk TW (k (.str [44]))) SO<|ZD Sb Vt<|Zd) Zd)) (ZD Wc Rw<|ZD Xy SW<|ZD Wv SX<|Zc (YM UM TA 32) RN<|Zc (YX RT 32) Qi<|Zc (ZI 28 [UW]) R0<|Zc (ZI 22 [S6]) R1<|Zc (Yk TX Sc) Qj<|ZD SH Vt<|Zd))) (ZD Wv Si<|Zc (Yk U5 (kI 1)) SM<|ZD SG V2<|Zd)))
def c13:CF:=⟨[(WN,none),(WB,none)],(Zj (Zc (Z0 (k .nils)) V3<|Zc (Z0 (kI 0)) VZ<|Zd) (Zj (Zj (ZD Ys XJ<|Zc (ZI 27 [Xg,(kI 255)]) XE<|Zc (QY Xc) XL<|ZD Xq Wo<|Ya XH false (Z0 Y2) WA<|Ya XH false (ZI 27 [Wk,(kI 255)]) WZ<|Ya XH false (QY Wy) W0<|Zc (YN XH (kB true) Wu) Vx<|ZD WJ Vn<|Ya Wx false (Z0 Xy) VJ<|Ya Wx false (X9 W5) V1<|Ya Wx false (YE W1 (kI 127) Sq VS) Us<|Zc (YN Wx (kB true) WH) Uw<|Zd) (Z3 Vf (Zj (Zc (Z0 (k .nils)) V3<|Zc (Z0 (kI 1)) VZ<|Zd) Yv) Zd)) (Zj (ZD Ys UC<|Zc (ZI 22 [Vu]) UO<|Zc (Yk (k (.str sg)) UU) U4<|Zc (Yk Uq (k (.str [44,34,111,115,34,58]))) TB<|ZD Y2 To<|Zc (ZI 22 [Uh]) U9<|Zc (Yk UK Uy) Tp<|Zc (Yk UL (k (.str si))) Tw<|ZD Ui Vt<|Zd) (Zj (Zj (Zc (Z0 (kI 0)) V2<|Zd) (Yf 0 (Wj Fl))) (Zj (ZD Wc Qk<|Zc (Yk Qe (k (.str sj))) QS<|Zc (KC SJ 5) QT<|ZD S7 V3<|Zc (Z0 (kI 0)) VZ<|Zd) Yv)))))⟩
def Fm:D:=(Zj (Zj (ZD Xf Vs<|ZD Ys V3<|Zc (X9 WN) VZ<|Zc (YE X5 WB XC Yn) Vt<|ZD Wc V2<|Ya Wv true (Z0 Xf) XJ<|Ya Wv true (YE Xg (kI 130) XC Yn) XE<|Zc (YN Wv Xc (kB false)) XL<|Zd) (Z3 Xq Zd (We 0))) (Zj (Yf 1 (ZD XK WZ<|ZD Ys W0<|ZD Xf Vx<|Zc (YM Wu WJ 32) Vn<|Zc (YX Wx 32) VJ<|Zc (X7 22 32 1 zB [⟨0,32,W5⟩]) V1<|Zc (VF Wy W1 22 32 32) Us<|ZD WH Vk<|Zd)) (ZD Xf Wo<|Zc (Yk XH (kI 1)) WA<|ZD Wk Xz<|Zd)))
def c14:CF:=⟨[(Xy,none)],(Zj (Zc (Z0 (k .nils)) st2<|Zd) (Zj (Zc (Z0 (k .nils)) Vk<|Zd) (Zj (Zj (Zc (Z0 (kI 0)) Xz<|Zd) (Yf 0 (Wj Fm))) (Zj (ZD XK Uw<|ZD Vf st2<|Zd) Yv))))⟩
def P2:D:=(Zj (Zc (YE Wv Wc XC Yn) XJ<|Zd) (Zj (Z3 Xg Zd (We 0)) (Zj (Yf 1 (Zj (ZD Wv XE<|Zc (YM WB Wv 2) XL<|Zc (YX Xq 2) Wo<|Zc (WK 59 [(.str []),(.str [])]) Xz<|ZD Xc Vk<|Zc (YY Xf XH 2) d0<|Zd) (Zj (Xt [Z5 (Yx Xf 0) [(Xz,Xf)] WA 0 0,⟨ZM Wk,none,[(WA,Wk)],WZ,.read,1,1⟩,Z5 (UQ Wy (k (.str [])) Nc false) [(WZ,Wy)] W0 2 3,Z5 (Z0 Wu) [(W0,Wu)] Vx 3 7,⟨Yx Xf 0,(some (WJ,false)),[(Xz,Xf)],Vn,.free,4,15⟩,⟨ZM Wx,(some (WJ,false)),[(Vn,Wx)],VJ,.read,5,31⟩,⟨ZI 29 [W5,(kI 255)],(some (WJ,false)),[(VJ,W5)],V1,.eff,6,63⟩,⟨QY W1,(some (WJ,false)),[(V1,W1)],Us,.free,7,127⟩,Z5 (YN WJ (kB true) WH) [(Vx,WJ),(Us,WH)] Uw 8 255,Z5 (Z0 Vf) [(Uw,Vf)] UC 9 511,⟨Yx Xf 1,(some (Vu,false)),[(Xz,Xf)],UO,.free,10,1023⟩,⟨ZM UU,(some (Vu,false)),[(UO,UU)],U4,.read,11,2047⟩,⟨ZI 29 [Uq,(kI 4096)],(some (Vu,false)),[(U4,Uq)],TB,.eff,12,4095⟩,⟨QY UK,(some (Vu,false)),[(TB,UK)],To,.free,13,8191⟩,Z5 (YN Vu (kB true) Uh) [(UC,Vu),(To,Uh)] U9 14 16383,Z5 (Z0 Uy) [(U9,Uy)] Tp 15 32767,⟨Z0 XK,(some (UL,false)),[(Vk,XK)],Tw,.free,16,65535⟩,⟨YE Ui (kI 0) Sq VS,(some (UL,false)),[(Tw,Ui)],TC,.free,17,131071⟩,⟨Z0 VL,(some (UL,false)),[(TC,VL)],TY,.free,18,262143⟩,⟨Yx Y2 34,(some (Un,true)),[(st1,Y2)],TS,.free,19,524287⟩,⟨ZM UV,(some (Un,true)),[(TS,UV)],Sg,.read,20,1048575⟩,⟨Z0 XK,(some (Un,true)),[(Vk,XK)],Si,.free,21,524287⟩,⟨WX U5 (kI 1),(some (Un,true)),[(Si,U5)],SM,.free,22,2621439⟩,⟨YM T9 SG 2,(some (Un,true)),[(Sg,T9),(SM,SG)],Ss,.free,23,8388607⟩,⟨Yx Ty 0,(some (Un,true)),[(Ss,Ty)],Su,.free,24,16777215⟩,⟨ZM Sa,(some (Un,true)),[(Su,Sa)],SN,.read,25,33554431⟩,⟨Yx Xf 0,(some (Un,true)),[(Xz,Xf)],SO,.free,26,524287⟩,⟨ZM Sb,(some (Un,true)),[(SO,Sb)],Rw,.read,27,67633151⟩,⟨YE TW TX SK Vd,(some (Un,true)),[(SN,TW),(Rw,TX)],SW,.free,28,268435455⟩,⟨YN Un UM (kB false),(some (UL,false)),[(TY,Un),(SW,UM)],SX,.free,29,536870911⟩,Z5 (YN UL (kB true) TA) [(Tp,UL),(SX,TA)] RN 30 1073741823]) (Z3 RT (Zj (Zc (Z0 (kB false)) st2<|Zd) Yv) Zd)))) (Zc (Yk Wv (kI 1)) Qi<|ZD UW V2<|Zd))))
def c15:CF:=⟨[(Xy,none)],(Zj (Zc (U3 Ys 26) st1<|Zc (Z0 (kB false)) st2<|Zd) (Zj (Zj (Zc (Yx Y2 34) V3<|Zc (ZM WN) VZ<|Zc (X9 WB) Vt<|Zc (Z0 (kI 0)) V2<|Zd) (Yf 0 (Wj P2))) (Zj (Zc (X7 9 1 4 (List.replicate 4 [(.str [])]).flatten [⟨0,1,(k (.str RJ))⟩,⟨1,1,(k (.str U6))⟩,⟨2,1,(k (.str Qh))⟩,⟨3,1,(k (.str RW))⟩]) R0<|ZD S6 Vs<|Zd) (Zj (ZD X5 R1<|Zc (Yx Y2 0) Qj<|Zc (ZM SH) Qk<|Zc (ZI 30 [Sc,Qe]) QS<|ZD SJ QT<|Ya S7 true (Yx Y2 33) QZ<|Ya S7 true (ZM RH) Oq<|Ya S7 true (YE Pj (kI 0) SK Vd) O6<|Zc (YN S7 O3 (kB false)) O7<|ZD Ol O8<|Ya P4 true (Yx Y2 33) OW<|Ya P4 true (ZM O4) OX<|Ya P4 true (YE QB (kI 1099511627776) Jz Og) NQ<|Zc (YN P4 NC (kB false)) Li<|ZD Pk Lj<|Ya ND true (Yx Y2 34) KZ<|Ya ND true (ZM Kf) IW<|Ya ND true (X9 O5) IX<|Ya ND true (YE MW (kI 16) Jz Og) JC<|Zc (YN ND MX (kB false)) IY<|ZD IA st2<|Zd) Yv))))⟩
def Q9:D:=(Zj (Zj (ZD XK SM<|Zc (Yx Y2 34) Ss<|Zc (ZM Ty) Su<|Zc (X9 Sa) SN<|Zc (YE SG TW XC Yn) SO<|Zd) (Z3 Sb Zd (We 0))) (Zj (Yf 1 (Zj (Zj (Zc (Yx Y2 34) SX<|Zc (ZM TA) RN<|ZD XK Qi<|Zc (YM RT UW 2) R0<|Zc (Yx S6 0) R1<|Zc (ZM Sc) Qj<|Zc (UQ SH (k (.str [])) Nc false) Qk<|ZD Qe QS<|Ya SJ false (Yx Y2 34) QT<|Ya SJ false (ZM S7) QZ<|Ya SJ false (Z0 XK) Oq<|Ya SJ false (YM RH Pj 2) O6<|Ya SJ false (Yx O3 0) O7<|Ya SJ false (ZM Ol) O8<|Ya SJ false (ZI 27 [P4,(kI 255)]) OW<|Ya SJ false (QY O4) OX<|Zc (YN SJ (kB true) QB) NQ<|ZD NC Li<|Ya Pk false (Yx Y2 34) Lj<|Ya Pk false (ZM ND) KZ<|Ya Pk false (Z0 XK) IW<|Ya Pk false (YM Kf O5 2) IX<|Ya Pk false (Yx MW 1) JC<|Ya Pk false (ZM MX) IY<|Ya Pk false (ZI 27 [IA,(kI 4096)]) GW<|Ya Pk false (QY HR) Ec<|Zc (YN Pk (kB true) FD) GX<|Zd) (Z3 Me (Zj (Zc (Z0 (kB false)) st2<|Zd) Yv) Zd)) (Zj (Xt [Z5 (Z0 XK) [(Vk,XK)] IZ 0 0,Z5 (YE HS (kI 0) Sq VS) [(IZ,HS)] I0 1 1,Z5 (Z0 Pm) [(I0,Pm)] JD 2 3,⟨Yx Y2 34,(some (Qf,true)),[(st1,Y2)],I1,.free,3,7⟩,⟨ZM IB,(some (Qf,true)),[(I1,IB)],I2,.read,4,15⟩,⟨Z0 XK,(some (Qf,true)),[(Vk,XK)],GY,.free,5,7⟩,⟨WX Kg (kI 1),(some (Qf,true)),[(GY,Kg)],GZ,.free,6,39⟩,⟨YM IC HT 2,(some (Qf,true)),[(I2,IC),(GZ,HT)],G0,.free,7,127⟩,⟨Yx HU 0,(some (Qf,true)),[(G0,HU)],I3,.free,8,255⟩,⟨ZM ID,(some (Qf,true)),[(I3,ID)],I4,.read,9,511⟩,⟨Yx Y2 34,(some (Qf,true)),[(st1,Y2)],I5,.free,10,7⟩,⟨ZM Kh,(some (Qf,true)),[(I5,Kh)],JE,.read,11,1031⟩,⟨Z0 XK,(some (Qf,true)),[(Vk,XK)],JF,.free,12,7⟩,⟨YM NE Jv 2,(some (Qf,true)),[(JE,NE),(JF,Jv)],JG,.free,13,7175⟩,⟨Yx Qu 0,(some (Qf,true)),[(JG,Qu)],G1,.free,14,15367⟩,⟨ZM LP,(some (Qf,true)),[(G1,LP)],I6,.read,15,31751⟩,⟨YE IE IF SK Vd,(some (Qf,true)),[(I4,IE),(I6,IF)],I7,.free,16,65535⟩,Z5 (YN Qf IG (kB false)) [(JD,Qf),(I7,IG)] I8 17 131071]) (Z3 Ki (Zj (Zc (Z0 (kB false)) st2<|Zd) Yv) Zd)))) (ZD XK Rw<|Zc (Yk TX (kI 1)) SW<|ZD UM Vk<|Zd)))
def c16:CF:=⟨[(Xy,none)],(Zj (Zc (U3 Ys 42) st1<|Zc (Z0 (kB false)) st2<|Zd) (Zj (Zj (Zc (Yx Y2 0) Xz<|Zc (ZM Xf) Vs<|Zc (UQ X5 (k (.str U6)) Nc true) V3<|ZD WN VZ<|Ya WB true (Yx Y2 0) Vt<|Ya WB true (ZM Wc) V2<|Ya WB true (UQ Wv (k (.str RJ)) Nc true) XJ<|Zc (YN WB Xg (kB false)) XE<|ZD Xc XL<|Ya Xq true (Yx Y2 0) Wo<|Ya Xq true (ZM XH) WA<|Ya Xq true (UQ Wk (k (.str Qh)) Nc true) WZ<|Zc (YN Xq Wy (kB false)) W0<|ZD Wu Vx<|Ya WJ true (Yx Y2 0) Vn<|Ya WJ true (ZM Wx) VJ<|Ya WJ true (UQ W5 (k (.str RW)) Nc true) V1<|Zc (YN WJ W1 (kB false)) Us<|Zd) (Z3 WH (Zj (Zc (Z0 (kB false)) st2<|Zd) Yv) Zd)) (Zj (Zj (Zc (Yx Y2 33) Uw<|Zc (ZM Vf) UC<|Zc (YE Vu (kI 0) XC Yn) UO<|ZD UU U4<|Ya Uq false (Yx Y2 33) TB<|Ya Uq false (ZM UK) To<|Ya Uq false (YE Uh (kI 1099511627776) Sq VS) U9<|Zc (YN Uq (kB true) Uy) Tp<|ZD UL Tw<|Ya Ui false (Yx Y2 34) TC<|Ya Ui false (ZM VL) TY<|Ya Ui false (X9 Un) TS<|Ya Ui false (YE UV (kI 16) Sq VS) Sg<|Zc (YN Ui (kB true) T9) Si<|Zd) (Z3 U5 (Zj (Zc (Z0 (kB false)) st2<|Zd) Yv) Zd)) (Zj (Zj (Zc (Z0 (kI 0)) Vk<|Zd) (Yf 0 (Wj Q9))) (Zj (Zc (Z0 (kB true)) st2<|Zd) Yv)))))⟩
def c18:CF:=⟨[(Xf,none),(X5,none)],(Zj (Zc (Z0 (k .nils)) Xz<|Zc (Z0 (kI 0)) Vs<|Zd) (Zj (Zj (ZD Ys V3<|Zc (QY WN) VZ<|Zd) (Z3 WB (Zj (Zc (Z0 (k .nils)) Xz<|Zc (Z0 (kI 1)) Vs<|Zd) Yv) Zd)) (Zj (ZD Y2 Vt<|Zc (Q4 Wc Tryz.prog []) V2<|Zc (ZI 31 [Wv]) XJ<|Zc (XR Xg 0) XE<|Zc (XR Xg 1) XL<|ZD Xc Xz<|ZD Xq Vs<|Zd) Yv)))⟩
def c19:CF:=⟨[(Xy,none)],(Zj (Zc (U3 Ys 38) st1<|Zc (Z0 (kB false)) st2<|Zd) (Zj (Zc (Yx Y2 0) Vk<|Zc (YX XK 35) Xz<|Zc (X7 26 35 1 zD [⟨0,35,Xf⟩]) Vs<|Zc (ZI 32 [(k (.str Qh)),X5]) V3<|ZD WN VZ<|Ya WB true (Yx Y2 35) Vt<|Ya WB true (ZM Wc) V2<|Ya WB true (ZI 32 [(k (.str RW)),Wv]) XJ<|Zc (YN WB Xg (kB false)) XE<|ZD Xc st2<|Zd) Yv))⟩
def c20:CF:=⟨[(Xy,some (6,true))],(Zj (Zc (U3 Ys 38) st1<|Zc (WK 73 zV) st2<|Zd) (Zj (Xt [Z5 (Yx Y2 0) [(st1,Y2)] Vk 0 0,⟨YX XK 35,none,[(Vk,XK)],Xz,.read,1,1⟩,Z5 (Yx Y2 35) [(st1,Y2)] VZ 4 0,⟨ZM WB,none,[(VZ,WB)],Vt,.read,5,16⟩,Z5 (UX (k (.str U6)) 9) [] XE 8 0,Z5 (UX (kI 2) 3) [] Wo 10 0,⟨ZI 34 [Xf],none,[(Xz,Xf)],Vs,.eff,2,3⟩,⟨Vw eV [⟨0,1,(k (.str [99,111,110,102,105,103]))⟩,⟨1,6,X5⟩],none,[(Vs,X5)],V3,.free,3,7⟩,⟨ZI 36 [Wc,(k (.func 34 [] []))],none,[(Vt,Wc)],V2,.eff,6,55⟩,⟨ZI 35 [(k (.str [108,97,121,101,114,115])),Wv],none,[(V2,Wv)],XJ,.eff,7,119⟩,⟨ZI 37 [(k (.str [109,101,100,105,97,84,121,112,101])),Xc],none,[(XE,Xc)],XL,.eff,9,503⟩,⟨ZI 37 [(k (.str [115,99,104,101,109,97,86,101,114,115,105,111,110])),XH],none,[(Wo,XH)],WA,.eff,11,2039⟩,⟨X7 77 7 4 (List.replicate 4 eV).flatten [⟨0,7,WN⟩,⟨7,7,Xg⟩,⟨14,7,Xq⟩,⟨21,7,Wk⟩],none,[(V3,WN),(XJ,Xg),(XL,Xq),(WA,Wk)],WZ,.free,12,4095⟩,⟨ZI 33 [Wy],none,[(WZ,Wy)],W0,.eff,13,8191⟩,⟨YY Xy Wu 6,none,[(st2,Xy),(W0,Wu)],d0,.eff,14,16383⟩]) Yv))⟩
def LW:D:=(Zj (Zj (ZD WB Vt<|ZD Ys V2<|Zc (X9 Wv) XJ<|Zc (YE Wc Xg XC Yn) XE<|Zd) (Z3 Xc Zd (We 0))) (Zj (Yf 1 (Zj (Zj (ZD Ys WA<|ZD WB WZ<|Zc (YM Wk Wy 35) W0<|Zc (YX Wu 35) Vx<|Zc (ZI 16 [WJ]) Vn<|Zc (QY Wx) VJ<|ZD W5 V1<|Ya W1 false (Z0 Ys) Us<|Ya W1 false (Z0 WB) Uw<|Ya W1 false (YM WH Vf 35) UC<|Ya W1 false (Yx Vu 0) UO<|Ya W1 false (ZM UU) U4<|Ya W1 false (Z0 Y2) TB<|Ya W1 false (UQ Uq UK Nc true) To<|Zc (YN W1 (kB true) Uh) U9<|Zd) (Z3 Uy (Zj (Zc (Z0 (k (.str []))) Xz<|Zc (Z0 (kB false)) Vs<|Zd) Yv) Zd)) (Zj (Zj (ZD WB Tp<|Zc (YE UL (kI 0) Sq VS) Tw<|Zd) (Z3 Ui (ZD WN TC<|Zc (Yk VL (k (.str [44]))) TY<|ZD Un V3<|Zd) Zd)) (ZD WN TS<|ZD Ys Sg<|ZD WB Si<|Zc (YM T9 U5 35) SM<|Zc (YX SG 35) Ss<|Zc (ZI 38 [Ty]) Su<|Zc (Yk UV Sa) SN<|ZD TW V3<|Zd)))) (ZD WB XL<|Zc (Yk Xq (kI 1)) Wo<|ZD XH VZ<|Zd)))
def c21:CF:=⟨[(Xf,none),(X5,none)],(Zj (Zc (Z0 (k (.str []))) Xz<|Zc (Z0 (kB false)) Vs<|Zd) (Zj (Zc (Z0 (k (.str [91]))) V3<|Zd) (Zj (Zj (Zc (Z0 (kI 0)) VZ<|Zd) (Yf 0 (Wj LW))) (Zj (ZD WN SO<|Zc (Yk Sb (k (.str [93]))) Rw<|ZD Ys SW<|Zc (X9 UM) SX<|Zc (YE TA (kI 127) Jz Og) RN<|ZD TX Xz<|ZD RT Vs<|Zd) Yv))))⟩
def c22:CF:=⟨[(Xy,none)],(Zj (Zc (Z0 (k (.str []))) st2<|Zd) (Zj (ZD Ys V3<|Zc (Vw zV [⟨0,1,(kI 4)⟩,⟨3,1,WN⟩]) VZ<|Zc (ZI 39 [WB]) Vt<|ZD Wc Vs<|Zc (XR X5 0) V2<|Zc (XR X5 1) XJ<|ZD Wv Vk<|ZD Xg Xz<|Zd) (Zj (ZD XK XE<|Zc (KF Xc) XL<|ZD Xq st2<|Zd) Yv)))⟩
def c23:CF:=⟨[(Xy,none)],(Zj (Zc (U3 Ys 48) st1<|Zc (Z0 (kB false)) st2<|Zd) (Zj (Zc (Yx Y2 0) Vk<|Zc (ZM XK) Xz<|Zc (ZI 32 [(k (.str U6)),Xf]) Vs<|ZD X5 st2<|Zd) Yv))⟩
def c24:CF:=⟨[(Xy,some (6,true))],(Zj (Zc (U3 Ys 48) st1<|Zc (WK 73 zV) st2<|Zd) (Zj (Zc (Yx Y2 0) Vk<|Zc (ZM XK) Xz<|Zc (ZI 36 [Xf,(k (.func 34 [] []))]) Vs<|Zc (ZI 35 [(k (.str [109,97,110,105,102,101,115,116,115])),X5]) V3<|Zc (UX (k (.str RJ)) 9) VZ<|Zc (ZI 37 [(k (.str [109,101,100,105,97,84,121,112,101])),WB]) Vt<|Zc (UX (kI 2) 3) V2<|Zc (ZI 37 [(k (.str [115,99,104,101,109,97,86,101,114,115,105,111,110])),Wv]) XJ<|Zc (X7 77 7 3 (List.replicate 3 eV).flatten [⟨0,7,WN⟩,⟨7,7,Wc⟩,⟨14,7,Xg⟩]) XE<|Zc (ZI 33 [Xc]) XL<|Zc (YY Xy Xq 6) d0<|Zd) Yv))⟩
def c25:CF:=⟨[(Xy,none)],(Zj (Zc (U3 Ys 52) st1<|Zc (Z0 (kB false)) st2<|Zd) (Zj (Zc (Yx Y2 0) Vk<|Zc (ZM XK) Xz<|Zc (ZI 29 [Xf,(kI 255)]) Vs<|ZD X5 V3<|Ya WN true (Yx Y2 1) VZ<|Ya WN true (ZM WB) Vt<|Ya WN true (ZI 29 [Wc,(kI 255)]) V2<|Zc (YN WN Wv (kB false)) XJ<|ZD Xg XE<|Ya Xc true (Yx Y2 2) XL<|Ya Xc true (ZM Xq) Wo<|Ya Xc true (X9 XH) WA<|Ya Xc true (YE Wk (kI 127) Jz Og) WZ<|Zc (YN Xc Wy (kB false)) W0<|ZD Wu st2<|Zd) Yv))⟩
def c26:CF:=⟨[(Xy,some (6,true))],(Zj (Zc (U3 Ys 52) st1<|Zc (WK 73 zV) st2<|Zd) (Zj (Zc (Z0 (k (.func 40 [] []))) Vk<|Zd) (Zj (Zc (Yx Y2 2) Vs<|Zc (ZM X5) V3<|ZD XK VZ<|Zc (ZI 43 [WN,WB]) Vt<|Zc (ZI 35 [(k (.str [100,105,102,102,95,105,100,115])),Wc]) V2<|Zc (UX (k (.str [108,97,121,101,114,115])) 9) XJ<|Zc (ZI 37 [(k (.str [116,121,112,101])),Xg]) XE<|Zc (X7 77 7 2 (List.replicate 2 eV).flatten [⟨0,7,Wv⟩,⟨7,7,Xc⟩]) XL<|Zc (ZI 33 [Xq]) Wo<|Zc (WK 73 zV) Xz<|Zc (YY Xf XH 6) d0<|Zd) (Zj (Xt [Z5 (Yx Y2 0) [(st1,Y2)] WA 0 0,⟨ZM Wk,none,[(WA,Wk)],WZ,.read,1,1⟩,Z5 (UX Wy 9) [(WZ,Wy)] W0 2 3,Z5 (Yx Y2 1) [(st1,Y2)] Vn 4 0,⟨ZM Wx,none,[(Vn,Wx)],VJ,.read,5,16⟩,Z5 (UX W5 9) [(VJ,W5)] V1 6 48,⟨YX Xf 6,none,[(Xz,Xf)],Uw,.read,8,0⟩,⟨Vw eV [⟨0,1,(k (.str [114,111,111,116,102,115]))⟩,⟨1,6,Vf⟩],none,[(Uw,Vf)],UC,.free,9,256⟩,⟨ZI 37 [(k (.str [97,114,99,104,105,116,101,99,116,117,114,101])),Wu],none,[(W0,Wu)],Vx,.eff,3,7⟩,⟨ZI 37 [(k (.str [111,115])),W1],none,[(V1,W1)],Us,.eff,7,127⟩,⟨X7 77 7 3 (List.replicate 3 eV).flatten [⟨0,7,WJ⟩,⟨7,7,WH⟩,⟨14,7,Vu⟩],none,[(Vx,WJ),(Us,WH),(UC,Vu)],UO,.free,10,1023⟩,⟨ZI 33 [UU],none,[(UO,UU)],U4,.eff,11,2047⟩,⟨YY Xy Uq 6,none,[(st2,Xy),(U4,Uq)],d0,.eff,12,4095⟩]) Yv))))⟩
def c27:CF:=⟨[(Xf,none)],(Zj (Zc (Z0 (kB false)) Xz<|Zd) (Zj (ZD Ys Vs<|Zc (TO X5) V3<|ZD Y2 VZ<|Zc (YE WN WB Jz Og) Vt<|ZD Wc V2<|Ya Wv true (Z0 Ys) XJ<|Ya Wv true (Vw zV [⟨0,1,(kI 4)⟩,⟨3,1,Xg⟩]) XE<|Ya Wv true (ZI 44 [Xc]) XL<|Ya Wv true (UQ Xq (kI 0) Sn false) Wo<|Zc (YN Wv XH (kB false)) WA<|ZD Wk Xz<|Zd) Yv))⟩
def DP:D:=(Zj (Zj (ZD Xf Vs<|Zc (YE X5 (kI 32) XC Yn) V3<|Zd) (Z3 WN Zd (We 0))) (Zj (Yf 1 (Xt [Z5 (Z0 XK) [(Vk,XK)] V2 0 0,Z5 (Z0 Xf) [(Xz,Xf)] XJ 1 0,Z5 (KD Y2 Xg 32 1) [(st1,Y2),(XJ,Xg)] XE 2 2,⟨ZM Xc,none,[(XE,Xc)],XL,.read,3,6⟩,Z5 (M6 Xq (k (nI .u8 16))) [(XL,Xq)] Wo 4 14,Z5 (Z0 Xf) [(Xz,Xf)] WA 5 0,Z5 (KD Y2 Wk 32 1) [(st1,Y2),(WA,Wk)] WZ 6 32,⟨ZM Wy,none,[(WZ,Wy)],W0,.read,7,96⟩,Z5 (M6 Wu (k (nI .u8 16))) [(W0,Wu)] Vx 8 224,Z5 (Yk WJ (k (nI .u8 1))) [(Vx,WJ)] Vn 9 480,Z5 (UA (k (.str SS)) (some XH) (some Wx) none) [(Wo,XH),(Vn,Wx)] VJ 10 1022,Z5 (Yk Wv W5) [(V2,Wv),(VJ,W5)] V1 11 2047,Z5 (Z0 Xf) [(Xz,Xf)] Us 12 0,Z5 (KD Y2 WH 32 1) [(st1,Y2),(Us,WH)] Uw 13 4096,⟨ZM Vf,none,[(Uw,Vf)],UC,.read,14,12288⟩,Z5 (Gu Vu (k (nI .u8 16))) [(UC,Vu)] UO 15 28672,Z5 (Z0 Xf) [(Xz,Xf)] U4 16 0,Z5 (KD Y2 Uq 32 1) [(st1,Y2),(U4,Uq)] TB 17 65536,⟨ZM UK,none,[(TB,UK)],To,.read,18,196608⟩,Z5 (Gu Uh (k (nI .u8 16))) [(To,Uh)] U9 19 458752,Z5 (Yk Uy (k (nI .u8 1))) [(U9,Uy)] Tp 20 983040,Z5 (UA (k (.str SS)) (some UU) (some UL) none) [(UO,UU),(Tp,UL)] Tw 21 2093056,Z5 (Yk W1 Ui) [(V1,W1),(Tw,Ui)] TC 22 4194303,⟨Z0 VL,none,[(TC,VL)],Vk,.eff,23,8388607⟩])) (ZD Xf VZ<|Zc (Yk WB (kI 1)) Vt<|ZD Wc Xz<|Zd)))
def c28:CF:=⟨[(Xy,none)],(Zj (Zc (U3 Ys 22) st1<|Zc (Z0 (k (.str []))) st2<|Zd) (Zj (Zc (Z0 (k (.str [115,104,97,50,53,54,58]))) Vk<|Zd) (Zj (Zj (Zc (Z0 (kI 0)) Xz<|Zd) (Yf 0 (Wj DP))) (Zj (ZD XK TY<|ZD Un st2<|Zd) Yv))))⟩
def c29:CF:=⟨[(Xf,none)],(Zj (Zc (Z0 (kB false)) Xz<|Zd) (Zj (ZD Ys Vs<|Zc (TO X5) V3<|ZD Y2 VZ<|Zc (YE WN WB Jz Og) Vt<|ZD Wc V2<|Ya Wv true (Z0 Ys) XJ<|Ya Wv true (ZI 45 [Xg]) XE<|Zc (YN Wv Xc (kB false)) XL<|ZD Xq Xz<|Zd) Yv))⟩
def c30:CF:=⟨[(Xf,none)],(Zj (Zc (Z0 (kB false)) Xz<|Zd) (Zj (ZD Ys Vs<|ZD Y2 V3<|Zc (ZI 46 [X5,WN]) VZ<|Zc (YE WB (kI 0) SK Vd) Vt<|ZD Wc Xz<|Zd) Yv))⟩
def c31:CF:=⟨[(Xy,none),(XK,none)],(Zj (Zc (U3 Ys 73) st1<|Zc (Z0 (k .nils)) st2<|Zc (Z0 (kI 0)) Vk<|Zd) (Zj (Zj (Zc (YX Y2 6) Vs<|Zc (ZI 47 [X5]) V3<|ZD WN Xz<|Zd) (Zj (ZD Xf VZ<|Zc (UQ WB (kI 0) Sn true) Vt<|Zd) (Z3 Wc (Zj (ZD Xf V2<|Zc (Z0 (k .nils)) st2<|ZD Wv Vk<|Zd) Yv) Zd))) (Zj (Zc (YX Y2 6) XJ<|Zc (ZI 48 [Xg]) XE<|Zc (KC Xc 5) XL<|ZD Xq st2<|Zc (Z0 (kI 0)) Vk<|Zd) Yv)))⟩
def c32:CF:=⟨[(Xf,none)],(Zj (Zc (U3 Ys 9) st2<|Zc (Z0 (kB false)) Xz<|Zd) (Zj (ZD Y2 Vs<|Zc (X9 X5) V3<|Zc (YE WN (kI 127) Jz Og) VZ<|ZD WB Vt<|Ya Wc true (Z0 Y2) V2<|Ya Wc true (LC 50 [] [Xy]) XJ<|Ya Wc true (ZI 49 [Wv,Xg]) XE<|Ya Wc true (QY Xc) XL<|Zc (YN Wc Xq (kB false)) Wo<|ZD XH Xz<|Zd) Yv))⟩
def c33:CF:=⟨[(Xy,some (6,true))],(Zj (Zc (WK 73 zV) st2<|Zd) (Zj (ZD Ys Vk<|Zc (UX XK 71) Xz<|Zc (ZI 41 [Xf]) Vs<|Zc (YY Xy X5 6) d0<|Zd) Yv))⟩
def DQ:D:=(Zj (Zc (YE Uy Uh XC Yn) Tp<|Zd) (Zj (Z3 UL Zd (We 0)) (Zj (Yf 1 (Zj (Zc (YM UK Uy 2) Tw<|Zc (YX Ui 2) TC<|Zc (WK 59 [(.str []),(.str [])]) V3<|Zc (YY WN VL 2) d0<|Zd) (ZD Xf TY<|Zc (Yx WN 0) TS<|Zc (ZM UV) Sg<|Zc (Yx WN 1) Si<|Zc (ZM U5) SM<|Zc (UX SG 9) Ss<|Zc (ZI 37 [T9,Ty]) Su<|Zc (X7 77 7 1 eV [⟨0,7,Sa⟩]) SN<|Zc (VF Un TW 77 7 104) SO<|ZD Sb Xz<|Zd))) (Zc (Yk Uy (kI 1)) Rw<|ZD TX U9<|Zd))))
def c34:CF:=⟨[(Xy,some (6,true))],(Zj (Zc (U3 Ys 26) st1<|Zc (WK 73 zV) st2<|Zd) (Zj (Xt [Z5 (Yx Y2 1) [(st1,Y2)] VZ 0 0,⟨YX WB 32,none,[(VZ,WB)],Vt,.read,1,1⟩,Z5 (Yx Y2 0) [(st1,Y2)] XL 5 0,⟨ZM Xq,none,[(XL,Xq)],Wo,.read,6,32⟩,Z5 (UX XH 9) [(Wo,XH)] WA 7 96,Z5 (Yx Y2 33) [(st1,Y2)] W0 9 0,⟨ZM Wu,none,[(W0,Wu)],Vx,.read,10,512⟩,Z5 (UX WJ 2) [(Vx,WJ)] Vn 11 1536,⟨ZI 42 [Wc],none,[(Vt,Wc)],V2,.eff,2,3⟩,Z5 (UX Wv 9) [(V2,Wv)] XJ 3 7,⟨ZI 37 [(k (.str [100,105,103,101,115,116])),Xg],none,[(XJ,Xg)],XE,.eff,4,15⟩,⟨ZI 37 [(k (.str [109,101,100,105,97,84,121,112,101])),Wk],none,[(WA,Wk)],WZ,.eff,8,255⟩,⟨ZI 37 [(k (.str [115,105,122,101])),Wx],none,[(Vn,Wx)],VJ,.eff,12,4095⟩,⟨X7 77 7 3 (List.replicate 3 eV).flatten [⟨0,7,Xc⟩,⟨7,7,Wy⟩,⟨14,7,W5⟩],none,[(XE,Xc),(WZ,Wy),(VJ,W5)],V1,.free,13,8191⟩,⟨Z0 W1,none,[(V1,W1)],Vk,.eff,14,16383⟩]) (Zj (Zj (Zc (Yx Y2 34) Us<|Zc (ZM WH) Uw<|Zc (X9 Vf) UC<|Zc (YE Vu (kI 0) Sq VS) UO<|Zd) (Z3 UU (Zj (Zc (Z0 (k .nils)) Xz<|Zd) (Zj (Zj (Zc (Yx Y2 34) U4<|Zc (ZM Uq) TB<|Zc (X9 UK) To<|Zc (Z0 (kI 0)) U9<|Zd) (Yf 0 (Wj DQ))) (ZD XK SW<|ZD Xf SX<|Zc (UX TA 71) RN<|Zc (ZI 37 [(k (.str [97,110,110,111,116,97,116,105,111,110,115])),RT]) Qi<|Zc (X7 77 7 1 eV [⟨0,7,UW⟩]) R0<|Zc (VF UM S6 77 7 104) R1<|ZD Sc Vk<|Zd))) Zd)) (Zj (ZD XK Qj<|Zc (ZI 33 [SH]) Qk<|Zc (YY Xy Qe 6) d0<|Zd) Yv))))⟩
def c35:CF:=⟨[(Xf,some (7,true))],(Zj (Zc (U3 Y2 77) Vk<|Zc (WK 77 eV) Xz<|Zd) (Zj (ZD Ys Vs<|Zc (Yx XK 1) V3<|Zc (YX WN 6) VZ<|Zc (Vw eV [⟨0,1,X5⟩,⟨1,6,WB⟩]) Vt<|Zc (YY Xf Wc 7) d0<|Zd) Yv))⟩
def DS:D:=(Zj (Zc (YE Xc Xg XC Yn) XL<|Zd) (Zj (Z3 Xq Zd (We 0)) (Zj (Yf 1 (Zj (Zc (YM Wv Xc 35) Wo<|Zc (YX XH 35) WA<|Zc (WK 26 zD) VZ<|Zc (YY WB Wk 35) d0<|Zd) (ZD X5 WZ<|ZD Y2 W0<|Zc (YX WB 35) Vx<|Zc (Q4 Wu Tryz.prog [WJ]) Vn<|Zc (X7 73 6 1 zV [⟨0,6,Wx⟩]) VJ<|Zc (VF Wy W5 73 6 88) V1<|ZD W1 Vs<|Zd))) (Zc (Yk Xc (kI 1)) Us<|ZD WH XE<|Zd))))
def c36:CF:=⟨[(Xf,some (7,true))],(Zj (Zc (WK 77 eV) Xz<|Zd) (Zj (Zc (X7 73 6 0 (List.replicate 0 zV).flatten []) Vt<|ZD Wc Vs<|Zd) (Zj (Zj (ZD Ys V2<|Zc (X9 Wv) XJ<|Zc (Z0 (kI 0)) XE<|Zd) (Yf 0 (Wj DS))) (Zj (ZD X5 Uw<|Zc (UX Vf 70) UC<|Zc (ZI 41 [Vu]) UO<|Zc (Vw eV [⟨1,6,UU⟩]) U4<|Zc (YY Xf Uq 7) d0<|Zd) Yv))))⟩
def c37:CF:=⟨[(Xf,some (7,true))],(Zj (Zc (WK 77 eV) Xz<|Zd) (Zj (ZD Ys Vs<|ZD Y2 V3<|Zc (ZI 41 [WN]) VZ<|Zc (Vw eV [⟨0,1,X5⟩,⟨1,6,WB⟩]) Vt<|Zc (YY Xf Wc 7) d0<|Zd) Yv))⟩
def Fo:D:=(Zj (Zj (ZD Xf Vs<|Zc (Yx Y2 34) V3<|Zc (ZM WN) VZ<|Zc (X9 WB) Vt<|Zc (YE X5 Wc XC Yn) V2<|Zd) (Z3 Wv Zd (We 0))) (Zj (Yf 1 (Zj (Zj (ZD Xf XL<|Zc (UQ Xq (kI 0) Sn false) Wo<|Zd) (Z3 XH (ZD XK WA<|Zc (Yk Wk (k (.str [34,97,110,110,111,116,97,116,105,111,110,115,34,58,123]))) WZ<|ZD Wy Vk<|Zd) (ZD XK W0<|Zc (Yk Wu (k (.str [44]))) Vx<|ZD WJ Vk<|Zd))) (Xt [Z5 (Z0 XK) [(Vk,XK)] Vn 0 0,Z5 (Yx Y2 34) [(st1,Y2)] VJ 1 0,⟨ZM W5,none,[(VJ,W5)],V1,.read,2,2⟩,Z5 (Z0 Xf) [(Xz,Xf)] Us 3 0,Z5 (YM W1 WH 2) [(V1,W1),(Us,WH)] Uw 4 14,Z5 (Yx Vf 0) [(Uw,Vf)] UC 5 30,⟨ZM Vu,none,[(UC,Vu)],UO,.read,6,62⟩,Z5 (Yx Y2 34) [(st1,Y2)] U9 10 0,⟨ZM Uy,none,[(U9,Uy)],Tp,.read,11,1024⟩,Z5 (Z0 Xf) [(Xz,Xf)] Tw 12 0,Z5 (YM UL Ui 2) [(Tp,UL),(Tw,Ui)] TC 13 7168,Z5 (Yx VL 1) [(TC,VL)] TY 14 15360,⟨ZM Un,none,[(TY,Un)],TS,.read,15,31744⟩,⟨ZI 22 [UU],none,[(UO,UU)],U4,.eff,7,126⟩,Z5 (Yk Wx Uq) [(Vn,Wx),(U4,Uq)] TB 8 255,Z5 (Yk UK (k (.str [58]))) [(TB,UK)] To 9 511,⟨ZI 22 [UV],none,[(TS,UV)],Sg,.eff,16,64766⟩,Z5 (Yk Uh T9) [(To,Uh),(Sg,T9)] Si 17 131071,⟨Z0 U5,none,[(Si,U5)],Vk,.eff,18,262143⟩]))) (ZD Xf XJ<|Zc (Yk Xg (kI 1)) XE<|ZD Xc Xz<|Zd)))
def c38:CF:=⟨[(Xy,none)],(Zj (Zc (U3 Ys 42) st1<|Zc (Z0 (k (.str []))) st2<|Zd) (Zj (Zc (Z0 (k (.str [123]))) Vk<|Zd) (Zj (Zj (Zc (Z0 (kI 0)) Xz<|Zd) (Yf 0 (Wj Fo))) (Zj (Zj (Zc (Yx Y2 34) SM<|Zc (ZM SG) Ss<|Zc (X9 Ty) Su<|Zc (YE Sa (kI 0) Sq VS) SN<|Zd) (Z3 TW (ZD XK SO<|Zc (Yk Sb (k (.str [125,44]))) Rw<|ZD TX Vk<|Zd) Zd)) (Zj (Xt [Z5 (Z0 XK) [(Vk,XK)] SW 0 0,Z5 (Yk UM (k (.str [34,100,105,103,101,115,116,34,58]))) [(SW,UM)] SX 1 1,Z5 (Yx Y2 1) [(st1,Y2)] RN 2 0,⟨YX RT 32,none,[(RN,RT)],Qi,.read,3,4⟩,Z5 (Yx Y2 0) [(st1,Y2)] QS 8 0,⟨ZM SJ,none,[(QS,SJ)],QT,.read,9,256⟩,Z5 (Yx Y2 33) [(st1,Y2)] O7 13 0,⟨ZM Ol,none,[(O7,Ol)],O8,.read,14,8192⟩,⟨ZI 28 [UW],none,[(Qi,UW)],R0,.eff,4,12⟩,⟨ZI 22 [S6],none,[(R0,S6)],R1,.eff,5,28⟩,Z5 (Yk TA Sc) [(SX,TA),(R1,Sc)] Qj 6 63,Z5 (Yk SH (k (.str [44,34,109,101,100,105,97,84,121,112,101,34,58]))) [(Qj,SH)] Qk 7 127,⟨ZI 22 [S7],none,[(QT,S7)],QZ,.eff,10,828⟩,Z5 (Yk Qe RH) [(Qk,Qe),(QZ,RH)] Oq 11 2047,Z5 (Yk Pj (k (.str [44,34,115,105,122,101,34,58]))) [(Oq,Pj)] O6 12 4095,⟨ZI 51 [P4],none,[(O8,P4)],OW,.eff,15,26428⟩,Z5 (Yk O3 O4) [(O6,O3),(OW,O4)] OX 16 65535,Z5 (Yk QB (k (.str [125]))) [(OX,QB)] NQ 17 131071,⟨Z0 NC,none,[(NQ,NC)],st2,.eff,18,262143⟩]) Yv)))))⟩
def c39:CF:=⟨[(Xy,none),(XK,none)],(Zj (Zc (U3 Ys 87) st1<|Zc (Z0 (k .nils)) st2<|Zc (Z0 (kI 0)) Vk<|Zd) (Zj (Zc (YX Y2 6) Vs<|Zc (ZI 44 [X5]) V3<|ZD WN Xz<|Zd) (Zj (Zj (ZD Xf VZ<|Zc (UQ WB (kI 0) Sn true) Vt<|Zd) (Z3 Wc (Zj (ZD Xf V2<|Zc (Z0 (k .nils)) st2<|ZD Wv Vk<|Zd) Yv) Zd)) (Zj (Zc (YX Y2 6) XJ<|Zc (ZI 52 [Xg]) XE<|Zc (KC Xc 5) XL<|ZD Xq st2<|Zc (Z0 (kI 0)) Vk<|Zd) Yv))))⟩
def c40:CF:=⟨[(Xy,some (6,true))],(Zj (Zc (U3 Ys 23) st1<|Zc (WK 73 zV) st2<|Zd) (Zj (Zc (YX Y2 32) Vk<|Zc (ZI 42 [XK]) Xz<|Zc (UX Xf 9) Vs<|Zc (ZI 41 [X5]) V3<|Zc (YY Xy WN 6) d0<|Zd) Yv))⟩
def c41:CF:=⟨[(Xy,some (6,true))],(Zj (Zc (WK 73 zV) st2<|Zd) (Zj (Zj (ZD Ys XJ<|Zd) (Yf 0 (Zj (Zc (UQ Xg (k .nili) (oD true (eqC Tryz.prog (eu Tryz.prog 9))) false) XE<|Zd) (Z3 Xc (Zj (ZD Xg Vk<|Zd) (Zj (Zc (Vw zV [⟨0,1,(kI 1)⟩]) XL<|Zc (YY Xy Xq 6) d0<|Zd) Yv)) (Zj (Zc (PA Xg 4 (.bool false) true) Wo<|Zc (XR XH 1) WA<|Zc (XR XH 0) WZ<|Zd) (Z3 Wk (Zj (ZD Wy Xz<|Zd) (Zj (ZD Xf W0<|Zc (Vw zV [⟨0,1,(kI 2)⟩,⟨1,1,Wu⟩]) Vx<|Zc (YY Xy WJ 6) d0<|Zd) Yv)) (Zj (Zc (PA Xg 2 (nI .i64 0) true) Vn<|Zc (XR Wx 1) VJ<|Zc (XR Wx 0) V1<|Zd) (Z3 W5 (Zj (ZD W1 Vs<|Zd) (Zj (ZD X5 Us<|Zc (Vw zV [⟨0,1,(kI 3)⟩,⟨2,1,WH⟩]) Uw<|Zc (YY Xy Vf 6) d0<|Zd) Yv)) (Zj (Zc (PA Xg 3 (nI .i64 0) true) UC<|Zc (XR Vu 1) UO<|Zc (XR Vu 0) U4<|Zd) (Z3 UU (Zj (ZD Uq V3<|Zd) (Zj (ZD WN TB<|Zc (Vw zV [⟨0,1,(kI 3)⟩,⟨2,1,UK⟩]) To<|Zc (YY Xy Uh 6) d0<|Zd) Yv)) (Zj (Zc (PA Xg 9 (.str []) true) U9<|Zc (XR Uy 1) Tp<|Zc (XR Uy 0) Tw<|Zd) (Z3 UL (Zj (ZD Ui VZ<|Zd) (Zj (ZD WB TC<|Zc (Vw zV [⟨0,1,(kI 4)⟩,⟨3,1,VL⟩]) TY<|Zc (YY Xy Un 6) d0<|Zd) Yv)) (Zj (Zc (PA Xg 70 .nils true) TS<|Zc (XR UV 1) Sg<|Zc (XR UV 0) Si<|Zd) (Z3 T9 (Zj (ZD U5 Vt<|Zd) (Zj (ZD Wc SM<|Zc (Vw zV [⟨0,1,(kI 5)⟩,⟨4,1,SG⟩]) Ss<|Zc (YY Xy Ty 6) d0<|Zd) Yv)) (Zj (Zc (PA Xg 71 .nils true) Su<|Zc (XR Sa 1) SN<|Zc (XR Sa 0) SO<|Zd) (Z3 TW (Zj (ZD Sb V2<|Zd) (Zj (ZD Wv Rw<|Zc (Vw zV [⟨0,1,(kI 6)⟩,⟨5,1,TX⟩]) SW<|Zc (YY Xy UM 6) d0<|Zd) Yv)) Zd)))))))))))))))) (Zj (Zc (Vw zV []) SX<|Zc (YY Xy TA 6) d0<|Zd) Yv)))⟩
def DT:D:=(Zj (Zc (YE Wc (kI 32) XC Yn) V2<|Zd) (Zj (Z3 Wv Zd (We 0)) (Zj (Yf 1 (Zj (Zc (C8 WB Wc 32) XJ<|ZD Xg Vs<|Zd) (Zj (ZD X5 XE<|Zc (Ai Xc (k (nI .u64 4))) XL<|Zc (Y9 (k (.str SS)) Xq) Wo<|Zc (ZI 54 [XK,XH]) WA<|Zd) (ZD X5 WZ<|Zc (TN Wy (k (nI .u8 15)) OK) W0<|Zc (Y9 (k (.str SS)) Wu) Vx<|Zc (ZI 54 [XK,WJ]) Vn<|Zd)))) (Zc (Yk Wc (kI 1)) VJ<|ZD W5 Vt<|Zd))))
def c42:CF:=⟨[(Xy,none)],(Zj (Zc (U3 Ys 23) st1<|Zc (Z0 (k (.str []))) st2<|Zd) (Zj (Zc (WK 102 [.nilp,.nils]) Vk<|Zd) (Zj (Zc (ZI 53 [XK,(k (.str [115,104,97,50,53,54,58]))]) V3<|Zd) (Zj (Zj (Zc (YX Y2 32) VZ<|Zc (Z0 (kI 0)) Vt<|Zd) (Yf 0 (Wj DT))) (Zj (Zc (ZI 55 [XK]) V1<|ZD W1 st2<|Zd) Yv)))))⟩
def DU:D:=(Zj (Zc (YE Xc Xg XC Yn) XL<|Zd) (Zj (Z3 Xq Zd (We 0)) (Zj (Yf 1 (Zj (Zc (YM Wv Xc 32) Wo<|Zc (YX XH 32) WA<|Zc (Gt 23 32 (nI .u8 0)) VZ<|Zc (YY WB Wk 32) d0<|Zd) (ZD X5 WZ<|ZD Y2 W0<|Zc (YX WB 32) Vx<|Zc (Q4 Wu Tryz.prog [WJ]) Vn<|Zc (X7 73 6 1 zV [⟨0,6,Wx⟩]) VJ<|Zc (VF Wy W5 73 6 88) V1<|ZD W1 Vs<|Zd))) (Zc (Yk Xc (kI 1)) Us<|ZD WH XE<|Zd))))
def c43:CF:=⟨[(Xf,some (7,true))],(Zj (Zc (WK 77 eV) Xz<|Zd) (Zj (Zc (X7 73 6 0 (List.replicate 0 zV).flatten []) Vt<|ZD Wc Vs<|Zd) (Zj (Zj (ZD Ys V2<|Zc (X9 Wv) XJ<|Zc (Z0 (kI 0)) XE<|Zd) (Yf 0 (Wj DU))) (Zj (ZD X5 Uw<|Zc (UX Vf 70) UC<|Zc (ZI 41 [Vu]) UO<|Zc (Vw eV [⟨1,6,UU⟩]) U4<|Zc (YY Xf Uq 7) d0<|Zd) Yv))))⟩
def c44:CF:=⟨[(Xy,none)],(Zj (Zc (U3 Ys 87) st1<|Zc (Z0 (kI 0)) st2<|Zd) (Zj (Zj (Zc (YX Y2 6) Vk<|Zc (ZI 56 [XK,(kI 32)]) Xz<|Zd) (Z3 Xf (Zj (Zc (Z0 (kI 1)) st2<|Zd) Yv) Zd)) (Zj (Zj (Zc (YX Y2 6) Vs<|Zc (ZI 57 [X5,(kI 32)]) V3<|Zc (YE WN (kI 32) Sq VS) VZ<|Zd) (Z3 WB (Zj (Zc (Z0 (kI 23)) st2<|Zd) Yv) Zd)) (Zj (Zc (Z0 (kI 0)) st2<|Zd) Yv))))⟩
def Im:D:=(Zj (Zj (Xt [Z5 (Z0 Ys) [(st0,Ys)] SW 0 0,Z5 (TO UM) [(SW,UM)] SX 1 1,Z5 (YE TA (kI 32) Sq VS) [(SX,TA)] RN 2 3,Z5 (Z0 RT) [(RN,RT)] Qi 3 7,⟨Z0 Ys,(some (UW,true)),[(st0,Ys)],R0,.free,4,15⟩,⟨Z0 Ys,(some (UW,true)),[(st0,Ys)],Qj,.free,6,15⟩,⟨UA SH (some (kI 8)) none none,(some (UW,true)),[(Qj,SH)],Qk,.free,7,79⟩,⟨Z0 Ys,(some (UW,true)),[(st0,Ys)],QZ,.free,10,15⟩,⟨UA RH (some (kI 16)) none none,(some (UW,true)),[(QZ,RH)],Oq,.free,11,1039⟩,⟨Z0 Ys,(some (UW,true)),[(st0,Ys)],O7,.free,13,15⟩,⟨UA Ol (some (kI 24)) none none,(some (UW,true)),[(O7,Ol)],O8,.free,14,8207⟩,⟨ZI 58 [S6],(some (UW,true)),[(R0,S6)],R1,.eff,5,31⟩,⟨ZI 58 [Qe],(some (UW,true)),[(Qk,Qe)],QS,.eff,8,255⟩,⟨TN Sc SJ Mi,(some (UW,true)),[(R1,Sc),(QS,SJ)],QT,.free,9,511⟩,⟨ZI 58 [Pj],(some (UW,true)),[(Oq,Pj)],O6,.eff,12,3583⟩,⟨ZI 58 [P4],(some (UW,true)),[(O8,P4)],OW,.eff,15,32255⟩,⟨TN O3 O4 Mi,(some (UW,true)),[(O6,O3),(OW,O4)],OX,.free,16,65023⟩,⟨TN S7 QB Mi,(some (UW,true)),[(QT,S7),(OX,QB)],NQ,.free,17,131071⟩,⟨TN NC (k (nI .u64 9259542123273814144)) OK,(some (UW,true)),[(NQ,NC)],Li,.free,18,262143⟩,⟨UQ Pk (k (nI .u64 0)) Sn false,(some (UW,true)),[(Li,Pk)],Lj,.free,19,524287⟩,Z5 (YN UW ND (kB false)) [(Qi,UW),(Lj,ND)] KZ 20 1048575]) (Z3 Kf Zd (We 2))) (Yf 3 (ZD Ys IW<|Zc (UA O5 (some (kI 32)) none none) IX<|ZD MW st0<|Zd)))
def DX:D:=Zj (Zj (Xt [Z5 (Z0 Ys) [(st0,Ys)] MF 0 0,Z5 (TO Mc) [(MF,Mc)] MG 1 1,Z5 (YE Q3 (kI 4) XC Yn) [(MG,Q3)] LI 2 3,Z5 (Z0 Lz) [(LI,Lz)] KY 3 7,⟨Z0 Ys,(some (Od,false)),[(st0,Ys)],Ib,.free,4,15⟩,⟨Y9 HM (kI 1),(some (Od,false)),[(Ib,HM)],Ic,.free,5,31⟩,⟨Yx WN 0,(some (Od,false)),[(V3,WN)],GQ,.free,6,15⟩,⟨ZM HN,(some (Od,false)),[(GQ,HN)],GR,.read,7,79⟩,⟨YE JS HP XC Yn,(some (Od,false)),[(Ic,JS),(GR,HP)],GS,.free,8,255⟩,Z5 (YN Od (kB true) LA) [(KY,Od),(GS,LA)] GU 9 511,Z5 (Z0 HQ) [(GU,HQ)] GV 10 1023,⟨Yx WN 1,(some (Ni,false)),[(V3,WN)],Bz,.free,11,2047⟩,⟨ZM Cu,(some (Ni,false)),[(Bz,Cu)],BA,.read,12,4095⟩,⟨Z0 Ys,(some (Ni,false)),[(st0,Ys)],BB,.free,13,2047⟩,⟨Y9 Md (kI 1),(some (Ni,false)),[(BB,Md)],BC,.free,14,10239⟩,⟨YE Cv Cw XC Yn,(some (Ni,false)),[(BA,Cv),(BC,Cw)],EX,.free,15,32767⟩,Z5 (YN Ni (kB true) EE) [(GV,Ni),(EX,EE)] EY 16 65535,Z5 (Z0 Cx) [(EY,Cx)] EZ 17 131071,⟨Z0 Ys,(some (Ke,false)),[(st0,Ys)],BE,.free,18,262143⟩,⟨Y9 Cy (kI 2),(some (Ke,false)),[(BE,Cy)],BF,.free,19,524287⟩,⟨YE Cz (k (nI .u8 128)) XC Yn,(some (Ke,false)),[(BF,Cz)],BG,.free,20,1048575⟩,Z5 (YN Ke (kB true) CA) [(EZ,Ke),(BG,CA)] BH 21 2097151,Z5 (Z0 EF) [(BH,EF)] BI 22 4194303,⟨Z0 Ys,(some (JT,false)),[(st0,Ys)],BJ,.free,23,8388607⟩,⟨Y9 CB (kI 2),(some (JT,false)),[(BJ,CB)],uh,.free,24,16777215⟩,⟨YE (k (nI .u8 191)) wP XC Yn,(some (JT,false)),[(uh,wP)],ui,.free,25,33554431⟩,Z5 (YN JT (kB true) wQ) [(BI,JT),(ui,wQ)] uj 26 67108863,Z5 (Z0 wR) [(uj,wR)] uk 27 134217727,⟨Z0 Ys,(some (EG,false)),[(st0,Ys)],pJ,.free,28,268435455⟩,⟨Y9 qG (kI 3),(some (EG,false)),[(pJ,qG)],pK,.free,29,536870911⟩,⟨YE qH (k (nI .u8 128)) XC Yn,(some (EG,false)),[(pK,qH)],pL,.free,30,1073741823⟩,Z5 (YN EG (kB true) qI) [(uk,EG),(pL,qI)] pM 31 2147483647,Z5 (Z0 qJ) [(pM,qJ)] pN 32 4294967295,⟨Z0 Ys,(some (CC,false)),[(st0,Ys)],pO,.free,33,8589934591⟩,⟨Y9 qK (kI 3),(some (CC,false)),[(pO,qK)],pP,.free,34,17179869183⟩,⟨YE (k (nI .u8 191)) qL XC Yn,(some (CC,false)),[(pP,qL)],pQ,.free,35,34359738367⟩,Z5 (YN CC (kB true) qM) [(pN,CC),(pQ,qM)] fG 36 68719476735]) (Z3 jy (Zj (Zc (Z0 (kB false)) st2<|Zd) Yv) Zd)) (ZD Ys ZaH<|Zc (UA Zaa (some (kI 4)) none none) ZaI<|ZD Zab st0<|Zd)
def DW:D:=Zj (Zj (Xt [Z5 (Z0 Ys) [(st0,Ys)] Dc 0 0,Z5 (TO E7) [(Dc,E7)] LF 1 1,Z5 (YE Lw (kI 3) XC Yn) [(LF,Lw)] KU 2 3,Z5 (Z0 Kb) [(KU,Kb)] KV 3 7,⟨Z0 Ys,(some (P9,false)),[(st0,Ys)],JZ,.free,4,15⟩,⟨Y9 JO (kI 1),(some (P9,false)),[(JZ,JO)],J6,.free,5,31⟩,⟨Yx WN 0,(some (P9,false)),[(V3,WN)],J7,.free,6,15⟩,⟨ZM Qp,(some (P9,false)),[(J7,Qp)],J8,.read,7,79⟩,⟨YE JP JQ XC Yn,(some (P9,false)),[(J6,JP),(J8,JQ)],J9,.free,8,255⟩,Z5 (YN P9 (kB true) JR) [(KV,P9),(J9,JR)] GP 9 511,Z5 (Z0 HL) [(GP,HL)] Ia 10 1023,⟨Yx WN 1,(some (OH,false)),[(V3,WN)],KW,.free,11,2047⟩,⟨ZM Kc,(some (OH,false)),[(KW,Kc)],KX,.read,12,4095⟩,⟨Z0 Ys,(some (OH,false)),[(st0,Ys)],LG,.free,13,2047⟩,⟨Y9 Lx (kI 1),(some (OH,false)),[(LG,Lx)],Ms,.free,14,10239⟩,⟨YE Kd N2 XC Yn,(some (OH,false)),[(KX,Kd),(Ms,N2)],Mt,.free,15,32767⟩,Z5 (YN OH (kB true) Oa) [(Ia,OH),(Mt,Oa)] Mu 16 65535,Z5 (Z0 N3) [(Mu,N3)] Mv 17 131071,⟨Z0 Ys,(some (Ob,false)),[(st0,Ys)],Mw,.free,18,262143⟩,⟨Y9 N4 (kI 2),(some (Ob,false)),[(Mw,N4)],Mx,.free,19,524287⟩,⟨YE N5 (k (nI .u8 128)) XC Yn,(some (Ob,false)),[(Mx,N5)],My,.free,20,1048575⟩,Z5 (YN Ob (kB true) Q2) [(Mv,Ob),(My,Q2)] Mz 21 2097151,Z5 (Z0 N6) [(Mz,N6)] Nq 22 4194303,⟨Z0 Ys,(some (PL,false)),[(st0,Ys)],Nr,.free,23,8388607⟩,⟨Y9 Ng (kI 2),(some (PL,false)),[(Nr,Ng)],Ns,.free,24,16777215⟩,⟨YE (k (nI .u8 191)) Nh XC Yn,(some (PL,false)),[(Ns,Nh)],MA,.free,25,33554431⟩,Z5 (YN PL (kB true) N7) [(Nq,PL),(MA,N7)] MB 26 67108863]) (Z3 N9 (Zj (Zc (Z0 (kB false)) st2<|Zd) Yv) Zd)) (ZD Ys MC<|Zc (UA Oc (some (kI 3)) none none) MD<|ZD Ma st0<|Zd)
def DV:D:=Zj (Zj (Xt [Z5 (Z0 Ys) [(st0,Ys)] I3 0 0,Z5 (TO ID) [(I3,ID)] I4 1 1,Z5 (YE IE (kI 2) XC Yn) [(I4,IE)] I5 2 3,Z5 (Z0 Kh) [(I5,Kh)] JE 3 7,⟨Z0 Ys,(some (NE,false)),[(st0,Ys)],JF,.free,4,15⟩,⟨Y9 Jv (kI 1),(some (NE,false)),[(JF,Jv)],JG,.free,5,31⟩,⟨Yx WN 0,(some (NE,false)),[(V3,WN)],G1,.free,6,15⟩,⟨ZM LP,(some (NE,false)),[(G1,LP)],I6,.read,7,79⟩,⟨YE Qu IF XC Yn,(some (NE,false)),[(JG,Qu),(I6,IF)],I7,.free,8,255⟩,Z5 (YN NE (kB true) IG) [(JE,NE),(I7,IG)] I8 9 511,Z5 (Z0 Ki) [(I8,Ki)] G2 10 1023,⟨Yx WN 1,(some (MY,false)),[(V3,WN)],G3,.free,11,2047⟩,⟨ZM HV,(some (MY,false)),[(G3,HV)],G4,.read,12,4095⟩,⟨Z0 Ys,(some (MY,false)),[(st0,Ys)],G5,.free,13,2047⟩,⟨Y9 HX (kI 1),(some (MY,false)),[(G5,HX)],G6,.free,14,10239⟩,⟨YE HW HY XC Yn,(some (MY,false)),[(G4,HW),(G6,HY)],Ed,.free,15,32767⟩,Z5 (YN MY (kB true) FE) [(G2,MY),(Ed,FE)] BK 16 65535]) (Z3 CD (Zj (Zc (Z0 (kB false)) st2<|Zd) Yv) Zd)) (ZD Ys BL<|Zc (UA CG (some (kI 2)) none none) BM<|ZD CH st0<|Zd)
def Nz:D:=(Zj (Zj (ZD Ys VZ<|Zc (TO WB) Vt<|Zc (YE Wc (kI 0) Sq VS) V2<|Zd) (Z3 Wv Zd (We 0))) (Yf 1 (Zj (ZD Ys XJ<|Zc (Y9 Xg (kI 0)) XE<|ZD Xc Vk<|Zd) (Zj (Zj (ZD XK XL<|Zc (YE Xq (k (nI .u8 128)) XC Yn) Wo<|Zd) (Z3 XH (Zj (ZD Ys WA<|Zc (UA Wk (some (kI 1)) none none) WZ<|ZD Wy st0<|Zd) (Zj (Zj (ZD Ys W0<|Zc (TO Wu) Vx<|Zc (YE WJ (kI 8) Sq VS) Vn<|ZD Wx VJ<|Ya W5 true (Z0 Ys) V1<|Ya W5 true (ZI 58 [W1]) Us<|Ya W5 true (TN WH (k (nI .u64 9259542123273814144)) OK) Uw<|Ya W5 true (UQ Vf (k (nI .u64 0)) Sn false) UC<|Zc (YN W5 Vu (kB false)) UO<|Zd) (Z3 UU (Zj (ZD Ys U4<|Zc (UA Uq (some (kI 8)) none none) TB<|ZD UK st0<|Zd) (Zj (Xt [Z5 (Z0 Ys) [(st0,Ys)] To 0 0,Z5 (TO Uh) [(To,Uh)] U9 1 1,Z5 (YE Uy (kI 16) Sq VS) [(U9,Uy)] Tp 2 3,Z5 (Z0 UL) [(Tp,UL)] Tw 3 7,⟨Z0 Ys,(some (Ui,true)),[(st0,Ys)],TC,.free,4,15⟩,⟨Z0 Ys,(some (Ui,true)),[(st0,Ys)],TS,.free,6,15⟩,⟨UA UV (some (kI 8)) none none,(some (Ui,true)),[(TS,UV)],Sg,.free,7,79⟩,⟨ZI 58 [VL],(some (Ui,true)),[(TC,VL)],TY,.eff,5,31⟩,⟨ZI 58 [T9],(some (Ui,true)),[(Sg,T9)],Si,.eff,8,255⟩,⟨TN Un U5 Mi,(some (Ui,true)),[(TY,Un),(Si,U5)],SM,.free,9,511⟩,⟨TN SG (k (nI .u64 9259542123273814144)) OK,(some (Ui,true)),[(SM,SG)],Ss,.free,10,1023⟩,⟨UQ Ty (k (nI .u64 0)) Sn false,(some (Ui,true)),[(Ss,Ty)],Su,.free,11,2047⟩,Z5 (YN Ui Sa (kB false)) [(Tw,Ui),(Su,Sa)] SN 12 4095]) (Z3 TW (Zj (ZD Ys SO<|Zc (UA Sb (some (kI 16)) none none) Rw<|ZD TX st0<|Zd) (Yf 2 (Wj Im))) Zd))) Zd)) (We 1))) Zd)) (Zj (ZD XK JC<|Zc (KD (k (.ptr 0 0)) MX 256 1) IY<|Zc (ZM IA) GW<|ZD HR Xz<|Zd) (Zj (ZD Xf Ec<|Zc (TN FD (k (nI .u8 7)) OK) GX<|Zc (Qv Me .i64) IZ<|ZD HS Vs<|Zd) (Zj (ZD Xf I0<|Zc (Ai Pm (k (nI .u64 4))) JD<|Zc (KD (k (.ptr 1 0)) Qf 16 2) I1<|Zc (YX IB 2) I2<|Zc (WK 114 [(nI .u8 0),(nI .u8 0)]) V3<|Zc (YY WN IC 2) d0<|Zd) (Zj (ZD X5 GY<|Zd) (Yf 4 (Zj (Zc (UQ Kg (kI 2) Sn false) G0<|ZD HU GZ<|Zd) (Z3 HT (DV) (Zj (Zc (UQ Kg (kI 3) Sn false) BO<|ZD CJ BN<|Zd) (Z3 CI (DW) (Zj (Zc (UQ Kg (kI 4) Sn false) LH<|ZD Ly ME<|Zd) (Z3 Mb (DX) (Zj (Zc (Z0 (kB false)) st2<|Zd) Yv))))))))))))))))
def c45:CF:=⟨[(Xy,none)],(Zj (Zc (Z0 (kB false)) st2<|Zd) (Zj (Yf 0 (Wj Nz)) (Zj (Zc (Z0 (kB true)) st2<|Zd) Yv)))⟩
def Fp:D:=(Zj (Zc (YE Wc WB XC Yn) V2<|Zd) (Zj (Z3 Wv Zd (We 0)) (Zj (Yf 1 (Zj (ZD Wc XJ<|ZD Xg Vs<|Zd) (Zj (ZD Y2 XE<|ZD Ys XL<|ZD X5 Wo<|Zc (YM Xq XH 1) WA<|Zc (ZM Wk) WZ<|Zc (UQ Xc Wy Nc false) W0<|Zd) (Z3 Wu (Zj (ZD X5 Vx<|ZD WJ Xz<|Zd) Yv) Zd)))) (Zc (Yk Wc (kI 1)) Vn<|ZD Wx Vt<|Zd))))
def c46:CF:=⟨[(Xf,none)],(Zj (Zc (Z0 (kI 0)) Xz<|Zd) (Zj (Zj (ZD Ys V3<|Zc (X9 WN) VZ<|Zc (Z0 (kI 0)) Vt<|Zd) (Yf 0 (Wj Fp))) (Zj (Zc (Z0 (k (.int .i64 (.negSucc 0)))) Xz<|Zd) Yv)))⟩
def c47:CF:=⟨[(Xy,none)],(Zj (Zc (U3 Ys 73) st1<|Zc (Z0 (kI 0)) st2<|Zd) (Zj (Yf 0 (Zj (Zc (YX Y2 6) Xz<|Zc (ZI 59 [Xf,(kI 32)]) Vs<|ZD X5 Vk<|Zd) (Z3 XK (Zj (Zc (Z0 (kI 1)) st2<|Zd) Yv) (Zj (Zc (YX Y2 6) VZ<|Zc (ZI 60 [WB,(kI 32)]) Vt<|ZD Wc V3<|Zd) (Z3 WN (Zj (Zc (Z0 (kI 23)) st2<|Zd) Yv) Zd))))) (Zj (Zc (Z0 (kI 0)) st2<|Zd) Yv)))⟩
def DY:D:=(Zj (Zc (YE UV Un XC Yn) Sg<|Zd) (Zj (Z3 T9 Zd (We 1)) (Zj (Yf 2 (Zj (Zc (YM VL UV 6) Si<|Zc (YX U5 6) SM<|Zc (WK 73 zV) Vs<|Zc (YY X5 SG 6) d0<|Zd) (ZD XK Ss<|Zc (YX X5 6) Su<|Zc (ZI 48 [Sa]) SN<|Zc (X7 9 1 1 [(.str [])] [⟨0,1,TW⟩]) SO<|Zc (VF Ty Sb 9 1 16) Rw<|ZD TX Vk<|Zd))) (Zc (Yk UV (kI 1)) SW<|ZD UM TS<|Zd))))
def DZ:D:=(Zj (Zc (YE Pj RH XC Yn) O6<|Zd) (Zj (Z3 O3 Zd (We 3)) (Zj (Yf 4 (Zj (Zc (YM S7 Pj 7) O7<|Zc (YX Ol 7) O8<|Zc (WK 77 eV) Vt<|Zc (YY Wc P4 7) d0<|Zd) (Xt [Z5 (Z0 XK) [(Vk,XK)] OW 0 0,Z5 (Yx Wc 0) [(Vt,Wc)] OX 1 0,⟨ZM QB,none,[(OX,QB)],NQ,.read,2,2⟩,Z5 (Yx Wc 1) [(Vt,Wc)] KZ 5 0,⟨YX Kf 6,none,[(KZ,Kf)],IW,.read,6,32⟩,⟨ZI 63 [NC],none,[(NQ,NC)],Li,.eff,3,6⟩,Z5 (Yk Pk (k (.str [58]))) [(Li,Pk)] Lj 4 14,⟨ZI 48 [O5],none,[(IW,O5)],IX,.eff,7,110⟩,Z5 (Yk ND MW) [(Lj,ND),(IX,MW)] JC 8 254,⟨X7 9 1 1 [(.str [])] [⟨0,1,MX⟩],none,[(JC,MX)],IY,.free,9,510⟩,⟨VF O4 IA 9 1 16,none,[(OW,O4),(IY,IA)],GW,.eff,10,1023⟩,⟨Z0 HR,none,[(GW,HR)],Vk,.eff,11,2047⟩]))) (Zc (Yk Pj (kI 1)) Ec<|ZD FD Oq<|Zd))))
def aV:CF:=⟨[(Xy,none)],(Zj (Zc (U3 Ys 73) st1<|Zc (Z0 (k (.str []))) st2<|Zd) (Zj (Zc (Z0 (k .nils)) Vk<|Zd) (Zj (Zj (Zc (Yx Y2 0) V2<|Zc (ZM Wv) XJ<|Zd) (Yf 0 (Zj (Zc (UQ Xg (kI 1) Sn false) XL<|ZD Xq XE<|Zd) (Z3 Xc (Zj (Zc (Z0 (k (.str [110,117,108,108]))) st2<|Zd) Yv) (Zj (Zc (UQ Xg (kI 2) Sn false) WA<|ZD Wk Wo<|Zd) (Z3 XH (Zj (Zc (Yx Y2 1) WZ<|Zc (ZM Wy) W0<|Zc (ZI 61 [Wu]) Vx<|ZD WJ st2<|Zd) Yv) (Zj (Zc (UQ Xg (kI 3) Sn false) VJ<|ZD W5 Vn<|Zd) (Z3 Wx (Zj (Zc (Yx Y2 2) V1<|Zc (ZM W1) Us<|Zc (ZI 62 [WH,(kI 10)]) Uw<|ZD Vf st2<|Zd) Yv) (Zj (Zc (UQ Xg (kI 4) Sn false) UO<|ZD UU UC<|Zd) (Z3 Vu (Zj (Zc (Yx Y2 3) U4<|Zc (ZM Uq) TB<|Zc (ZI 63 [UK]) To<|ZD Uh st2<|Zd) Yv) (Zj (Zc (UQ Xg (kI 5) Sn false) Tp<|ZD UL U9<|Zd) (Z3 Uy (Zj (Zj (Zc (Yx Y2 4) Tw<|Zc (ZM Ui) TC<|Zc (X9 VL) TY<|Zc (Z0 (kI 0)) TS<|Zd) (Yf 1 (Wj DY))) (Zj (ZD XK SX<|Zc (ZI 64 [TA,(k (.str [44]))]) RN<|Zc (Yk (k (.str [91])) RT) Qi<|Zc (Yk UW (k (.str [93]))) R0<|ZD S6 st2<|Zd) Yv)) Zd)))))))))))) (Zj (Zc (Yx Y2 5) R1<|Zc (ZM Sc) Qj<|Zc (ZI 66 [SH]) Qk<|Zc (ZI 65 [Qe,(k (.func 67 [] []))]) QS<|ZD SJ V3<|Zd) (Zj (Zj (ZD WN QT<|Zc (X9 S7) QZ<|Zc (Z0 (kI 0)) Oq<|Zd) (Yf 3 (Wj DZ))) (Zj (ZD XK GX<|Zc (ZI 64 [Me,(k (.str [44]))]) IZ<|Zc (Yk (k (.str [123])) HS) I0<|Zc (Yk Pm (k (.str [125]))) JD<|ZD Qf st2<|Zd) Yv))))))⟩
def c49:CF:=⟨[(Xf,none)],(Zj (Zc (Z0 (kB false)) Xz<|Zd) (Zj (ZD Ys Vs<|ZD Y2 V3<|Zc (ZI 69 [X5,WN]) VZ<|Zc (YE WB (kI 0) SK Vd) Vt<|ZD Wc Xz<|Zd) Yv))⟩
def c50:CF:=⟨[(XK,none)],(Zj (Zc (U3 Ys 26) st2<|Zc (Z0 (kB false)) Vk<|Zd) (Zj (Zc (Yx Xy 0) Xz<|Zc (ZM Xf) Vs<|Zc (ZM Y2) V3<|Zc (UQ X5 WN Nc true) VZ<|ZD WB Vt<|Ya Wc false (YX Xy 35) V2<|Ya Wc false (ZI 15 [Wv]) XJ<|Ya Wc false (QY Xg) XE<|Zc (YN Wc (kB true) Xc) XL<|ZD Xq Vk<|Zd) Yv))⟩
def c51:CF:=⟨[(Xy,none)],(Zj (Zc (Z0 (k (.str []))) st2<|Zd) (Zj (ZD Ys V3<|Zc (Vw zV [⟨0,1,(kI 3)⟩,⟨2,1,WN⟩]) VZ<|Zc (ZI 39 [WB]) Vt<|ZD Wc Vs<|Zc (XR X5 0) V2<|Zc (XR X5 1) XJ<|ZD Wv Vk<|ZD Xg Xz<|Zd) (Zj (ZD XK XE<|Zc (KF Xc) XL<|ZD Xq st2<|Zd) Yv)))⟩
def Zbb:D:=(Zj (Zj (ZD Xf Tp<|Zc (Yx Y2 4) Tw<|Zc (ZM Ui) TC<|Zc (X9 VL) TY<|Zc (YE UL Un XC Yn) TS<|Zd) (Z3 UV Zd (We 1))) (Zj (Yf 2 (Zj (Zj (ZD Xf SM<|Zc (YE SG (kI 0) Sq VS) Ss<|Zd) (Z3 Ty (ZD XK Su<|Zc (Yk Sa (k (.str [44]))) SN<|ZD TW Vk<|Zd) Zd)) (ZD XK SO<|Zc (Yx Y2 4) Rw<|Zc (ZM TX) SW<|ZD Xf SX<|Zc (YM UM TA 6) RN<|Zc (YX RT 6) Qi<|Zc (ZI 52 [UW]) R0<|Zc (Yk Sb S6) R1<|ZD Sc Vk<|Zd))) (ZD Xf Sg<|Zc (Yk T9 (kI 1)) Si<|ZD U5 Xz<|Zd)))
def Zbc:D:=(Zj (Zj (Xt [Z5 (Z0 WB) [(VZ,WB)] GX 0 0,Z5 (YE Me (kI 0) Sq VS) [(GX,Me)] IZ 1 1,Z5 (Z0 HS) [(IZ,HS)] I0 2 3,⟨Z0 X5,(some (Pm,true)),[(Vs,X5)],JD,.free,3,7⟩,⟨Z0 WB,(some (Pm,true)),[(VZ,WB)],I1,.free,4,7⟩,⟨YM Qf IB 7,(some (Pm,true)),[(JD,Qf),(I1,IB)],I2,.free,5,31⟩,⟨Yx IC 0,(some (Pm,true)),[(I2,IC)],GY,.free,6,63⟩,⟨ZM Kg,(some (Pm,true)),[(GY,Kg)],GZ,.read,7,127⟩,⟨Z0 X5,(some (Pm,true)),[(Vs,X5)],G0,.free,8,7⟩,⟨Z0 WB,(some (Pm,true)),[(VZ,WB)],I3,.free,9,7⟩,⟨WX ID (kI 1),(some (Pm,true)),[(I3,ID)],I4,.free,10,519⟩,⟨YM HU IE 7,(some (Pm,true)),[(G0,HU),(I4,IE)],I5,.free,11,1799⟩,⟨Yx Kh 0,(some (Pm,true)),[(I5,Kh)],JE,.free,12,3847⟩,⟨ZM NE,(some (Pm,true)),[(JE,NE)],JF,.read,13,7943⟩,⟨YE HT Jv XC Yn,(some (Pm,true)),[(GZ,HT),(JF,Jv)],JG,.free,14,16383⟩,Z5 (YN Pm Qu (kB false)) [(I0,Pm),(JG,Qu)] G1 15 32767]) (Z3 LP Zd (We 5))) (Zj (Yf 6 (Xt [Z5 (Z0 X5) [(Vs,X5)] I8 0 0,Z5 (Z0 WB) [(VZ,WB)] G2 1 0,Z5 (Z0 X5) [(Vs,X5)] G3 2 0,Z5 (Z0 WB) [(VZ,WB)] G4 3 0,Z5 (WX HW (kI 1)) [(G4,HW)] G5 4 8,Z5 (Z0 X5) [(Vs,X5)] G6 5 0,Z5 (Z0 WB) [(VZ,WB)] Ed 6 0,Z5 (WX FE (kI 1)) [(Ed,FE)] BK 7 64,Z5 (YM HY CD 7) [(G6,HY),(BK,CD)] BL 8 224,⟨YX CG 7,none,[(BL,CG)],BM,.read,9,480⟩,Z5 (Z0 X5) [(Vs,X5)] BN 10 0,Z5 (Z0 WB) [(VZ,WB)] BO 11 0,Z5 (YM CI CJ 7) [(BN,CI),(BO,CJ)] Dc 12 3072,⟨YX E7 7,none,[(Dc,E7)],LF,.read,13,7168⟩,Z5 (YM Ki MY 7) [(I8,Ki),(G2,MY)] KU 14 16355,⟨YY Kb CH 7,none,[(KU,Kb),(BM,CH)],d0,.eff,15,32739⟩,Z5 (YM HV HX 7) [(G3,HV),(G5,HX)] KV 16 65535,⟨YY P9 Lw 7,none,[(KV,P9),(LF,Lw)],d0,.eff,17,131071⟩])) (ZD WB I6<|Zc (WX IF (kI 1)) I7<|ZD IG VZ<|Zd)))
def Zbd:D:=(Zj (Zj (ZD WN QT<|Zc (Yx Y2 5) QZ<|Zc (ZM RH) Oq<|Zc (X9 Pj) O6<|Zc (YE S7 O3 XC Yn) O7<|Zd) (Z3 Ol Zd (We 3))) (Zj (Yf 4 (Zj (ZD X5 OX<|Zc (Yx Y2 5) NQ<|Zc (ZM NC) Li<|ZD WN Lj<|Zc (YM Pk ND 7) KZ<|Zc (YX Kf 7) IW<|Zc (X7 128 7 1 eV [⟨0,7,O5⟩]) IX<|Zc (VF QB MW 128 7 104) JC<|ZD MX Vs<|Zd) (Zj (ZD X5 IY<|Zc (X9 IA) GW<|Zc (WX HR (kI 1)) Ec<|ZD FD VZ<|Zd) (Yf 5 (Wj Zbc))))) (ZD WN O8<|Zc (Yk P4 (kI 1)) OW<|ZD O4 V3<|Zd)))
def Zbe:D:=(Zj (Zj (ZD Wc JZ<|ZD X5 J6<|Zc (X9 JP) J7<|Zc (YE JO Qp XC Yn) J8<|Zd) (Z3 JQ Zd (We 7))) (Zj (Yf 8 (Zj (Zj (ZD Wc Ia<|Zc (YE OH (kI 0) Sq VS) KW<|Zd) (Z3 Kc (ZD XK KX<|Zc (Yk Kd (k (.str [44]))) LG<|ZD Lx Vk<|Zd) Zd)) (Xt [Z5 (Z0 XK) [(Vk,XK)] Ms 0 0,Z5 (Z0 X5) [(Vs,X5)] Mt 1 0,Z5 (Z0 Wc) [(Vt,Wc)] Mu 2 0,Z5 (YM Oa N3 7) [(Mt,Oa),(Mu,N3)] Mv 3 6,Z5 (Yx Ob 0) [(Mv,Ob)] Mw 4 14,⟨ZM N4,none,[(Mw,N4)],Mx,.read,5,30⟩,Z5 (Z0 X5) [(Vs,X5)] Nr 9 0,Z5 (Z0 Wc) [(Vt,Wc)] Ns 10 0,Z5 (YM Ng Nh 7) [(Nr,Ng),(Ns,Nh)] MA 11 1536,Z5 (Yx N7 1) [(MA,N7)] MB 12 3584,⟨YX N9 6,none,[(MB,N9)],MC,.read,13,7680⟩,⟨ZI 71 [N5],none,[(Mx,N5)],My,.eff,6,62⟩,Z5 (Yk N2 Q2) [(Ms,N2),(My,Q2)] Mz 7 127,Z5 (Yk N6 (k (.str [58]))) [(Mz,N6)] Nq 8 255,⟨ZI 52 [Oc],none,[(MC,Oc)],MD,.eff,14,15998⟩,Z5 (Yk PL Ma) [(Nq,PL),(MD,Ma)] ME 15 32767,⟨Z0 Mb,none,[(ME,Mb)],Vk,.eff,16,65535⟩]))) (ZD Wc J9<|Zc (Yk JR (kI 1)) GP<|ZD HL Vt<|Zd)))
def c52:CF:=⟨[(Xy,none)],(Zj (Zc (U3 Ys 87) st1<|Zc (Z0 (k (.str []))) st2<|Zd) (Zj (Zc (Z0 (k (.str []))) Vk<|Zd) (Zj (Zj (Zc (Yx Y2 0) V2<|Zc (ZM Wv) XJ<|Zd) (Yf 0 (Zj (Zc (UQ Xg (kI 1) Sn false) XL<|ZD Xq XE<|Zd) (Z3 Xc (Zj (Zc (Z0 (k (.str [110,117,108,108]))) st2<|Zd) Yv) (Zj (Zc (UQ Xg (kI 2) Sn false) WA<|ZD Wk Wo<|Zd) (Z3 XH (Zj (Zj (Zc (Yx Y2 1) WZ<|Zc (ZM Wy) W0<|Zd) (Z3 Wu (Zj (Zc (Z0 (k (.str [116,114,117,101]))) st2<|Zd) Yv) Zd)) (Zj (Zc (Z0 (k (.str [102,97,108,115,101]))) st2<|Zd) Yv)) (Zj (Zc (UQ Xg (kI 3) Sn false) Vn<|ZD Wx Vx<|Zd) (Z3 WJ (Zj (Zc (Yx Y2 2) VJ<|Zc (ZM W5) V1<|Zc (ZI 70 [W1]) Us<|ZD WH st2<|Zd) Yv) (Zj (Zc (UQ Xg (kI 4) Sn false) UC<|ZD Vu Uw<|Zd) (Z3 Vf (Zj (Zc (Yx Y2 3) UO<|Zc (ZM UU) U4<|Zc (ZI 71 [Uq]) TB<|ZD UK st2<|Zd) Yv) (Zj (Zc (UQ Xg (kI 5) Sn false) U9<|ZD Uy To<|Zd) (Z3 Uh (Zj (Zj (Zc (Z0 (kI 0)) Xz<|Zd) (Yf 1 (Wj Zbb))) (Zj (ZD XK Qj<|Zc (Yk (k (.str [91])) SH) Qk<|Zc (Yk Qe (k (.str [93]))) QS<|ZD SJ st2<|Zd) Yv)) Zd)))))))))))) (Zj (Zc (Z0 (k .nils)) Vs<|Zd) (Zj (Zj (Zc (Z0 (kI 0)) V3<|Zd) (Yf 3 (Wj Zbd))) (Zj (Zj (Zc (Z0 (kI 0)) Vt<|Zd) (Yf 7 (Wj Zbe))) (Zj (ZD XK LH<|Zc (Yk (k (.str [123])) Ly) MF<|Zc (Yk Mc (k (.str [125]))) MG<|ZD Q3 st2<|Zd) Yv)))))))⟩
def c53:CF:=⟨[(Xf,none),(X5,none)],(Zj (Zc (Z0 (kI 0)) Xz<|Zc (Z0 (k .nili)) Vs<|Zd) (Zj (ZD Ys V3<|Zc (ZI 72 [WN]) VZ<|Zd) (Zj (ZD Ys Vt<|ZD Ys V2<|Zc (Mk Wv) XJ<|Zc (Yx Xg 1) XE<|Zc (ZM Xc) XL<|ZD Y2 Wo<|Zc (VF Xq XH 5 1 1) WA<|Zc (Mk Wc) WZ<|Zc (Yx Wy 1) W0<|Zc (YY Wu Wk 1) d0<|Zd) (Zj (ZD Y2 Vx<|Zc (TO WJ) Vn<|ZD Wx Xz<|Zc (Z0 (k .nili)) Vs<|Zd) Yv))))⟩
def c54:CF:=⟨[(Xf,none)],(Zj (Zc (Z0 (k .nili)) Xz<|Zd) (Zj (ZD Ys Vs<|Zc (ZI 72 [X5]) V3<|Zd) (Zj (ZD Ys VZ<|ZD Ys Vt<|Zc (Mk Wc) V2<|Zc (Yx Wv 1) XJ<|Zc (ZM Xg) XE<|ZD Y2 XL<|Zc (X7 5 1 1 [(nI .u8 0)] [⟨0,1,Xq⟩]) Wo<|Zc (VF Xc XH 5 1 1) WA<|Zc (Mk WB) WZ<|Zc (Yx Wy 1) W0<|Zc (YY Wu Wk 1) d0<|Zd) (Zj (Zc (Z0 (k .nili)) Xz<|Zd) Yv))))⟩
def c55:CF:=⟨[(Xy,none)],(Zj (Zc (Z0 (k (.str []))) st2<|Zd) (Zj (Xt [Z5 (Z0 Ys) [(st0,Ys)] Vk 0 0,Z5 (Mk XK) [(Vk,XK)] Xz 1 1,Z5 (Yx Xf 1) [(Xz,Xf)] Vs 2 3,⟨ZM X5,none,[(Vs,X5)],V3,.read,3,7⟩,⟨Ds WN,none,[(V3,WN)],VZ,.read,4,15⟩,Z5 (Z0 Ys) [(st0,Ys)] Vt 5 0,Z5 (Mk Wc) [(Vt,Wc)] V2 6 32,Z5 (Yx Wv 1) [(V2,Wv)] XJ 7 96,⟨ZM Xg,none,[(XJ,Xg)],XE,.read,8,224⟩,Z5 (X9 Xc) [(XE,Xc)] XL 9 480,⟨pu WB Xq 5,none,[(VZ,WB),(XL,Xq)],Wo,.eff,10,1023⟩,⟨Z0 XH,none,[(Wo,XH)],st2,.eff,11,2047⟩]) Yv))⟩
def In:D:=(Zj (Zj (ZD X5 GY<|Zc (Yx Xy 4) GZ<|Zc (ZM HT) G0<|Zc (X9 HU) I3<|Zc (YE Kg ID XC Yn) I4<|Zd) (Z3 IE Zd (We 0))) (Zj (Yf 1 (Zj (Zc (Yx Xy 4) JF<|Zc (ZM Jv) JG<|ZD X5 G1<|Zc (YM Qu LP 6) I6<|Zc (YX IF 6) I7<|ZD Y2 I8<|Zc (WX Ki (kI 1)) G2<|Zc (ZI 56 [IG,MY]) G3<|Zd) (Z3 HV (Zj (Zc (Z0 (kB true)) Xz<|Zd) Yv) Zd))) (ZD X5 I5<|Zc (Yk Kh (kI 1)) JE<|ZD NE Vs<|Zd)))
def Zbf:D:=(Zj (Zj (ZD WB Mv<|ZD WN Mw<|Zc (YE Ob N4 XC Yn) Mx<|Zd) (Z3 N5 Zd (We 4))) (Zj (Yf 5 (Zj (Xt [Z5 (Yx Xy 5) [(st2,Xy)] Nq 0 0,⟨ZM PL,none,[(Nq,PL)],Nr,.read,1,1⟩,Z5 (Z0 WB) [(VZ,WB)] Ns 2 0,Z5 (YM Ng Nh 7) [(Nr,Ng),(Ns,Nh)] MA 3 7,Z5 (Yx N7 0) [(MA,N7)] MB 4 15,⟨ZM N9,none,[(MB,N9)],MC,.read,5,31⟩,Z5 (Yx Xy 5) [(st2,Xy)] MD 6 0,⟨ZM Ma,none,[(MD,Ma)],ME,.read,7,64⟩,Z5 (Z0 WN) [(V3,WN)] LH 8 0,Z5 (YM Mb Ly 7) [(ME,Mb),(LH,Ly)] MF 9 448,Z5 (Yx Mc 0) [(MF,Mc)] MG 10 960,⟨ZM Q3,none,[(MG,Q3)],LI,.read,11,1984⟩,Z5 (UQ Oc Lz Nc false) [(MC,Oc),(LI,Lz)] KY 12 4095]) (Z3 Od (Zj (Zc (Z0 (kB true)) Xz<|Zd) Yv) Zd))) (ZD WB My<|Zc (Yk Q2 (kI 1)) Mz<|ZD N6 VZ<|Zd)))
def Io:D:=(Zj (Zj (ZD WN G4<|Zc (Yx Xy 5) G5<|Zc (ZM HX) G6<|Zc (X9 HY) Ed<|Zc (YE HW FE XC Yn) BK<|Zd) (Z3 CD Zd (We 2))) (Zj (Yf 3 (Zj (Zj (Zc (Yx Xy 5) BN<|Zc (ZM CI) BO<|ZD WN Dc<|Zc (YM CJ E7 7) LF<|Zc (Yx Lw 0) KU<|Zc (ZM Kb) KV<|Zc (ZI 73 [P9]) JZ<|Zc (QY JO) J6<|ZD JP J7<|Ya Qp false (Yx Xy 5) J8<|Ya Qp false (ZM JQ) J9<|Ya Qp false (Z0 WN) GP<|Ya Qp false (YM JR HL 7) Ia<|Ya Qp false (Yx OH 1) KW<|Ya Qp false (YX Kc 6) KX<|Ya Qp false (Z0 Y2) LG<|Ya Qp false (WX Lx (kI 1)) Ms<|Ya Qp false (ZI 56 [Kd,N2]) Mt<|Zc (YN Qp (kB true) Oa) Mu<|Zd) (Z3 N3 (Zj (Zc (Z0 (kB true)) Xz<|Zd) Yv) Zd)) (Zj (Zc (Z0 (kI 0)) VZ<|Zd) (Yf 4 (Wj Zbf))))) (ZD WN BL<|Zc (Yk CG (kI 1)) BM<|ZD CH V3<|Zd)))
def aW:CF:=⟨[(Xf,none)],(Zj (Zc (U3 Ys 87) st2<|Zc (Z0 (kB false)) Xz<|Zd) (Zj (Zj (ZD Y2 Vt<|Zc (UQ Wc (kI 0) Sn false) V2<|Zd) (Z3 Wv (Zj (Zc (Z0 (kB false)) Xz<|Zd) Yv) Zd)) (Zj (Zj (Zc (Yx Xy 0) XJ<|Zc (ZM Xg) XE<|Zc (YE Xc (kI 1) XC Yn) XL<|ZD Xq Wo<|Ya XH false (Yx Xy 0) WA<|Ya XH false (ZM Wk) WZ<|Ya XH false (YE Wy (kI 6) Sq VS) W0<|Zc (YN XH (kB true) Wu) Vx<|ZD WJ Vn<|Ya Wx false (Yx Xy 1) VJ<|Ya Wx false (ZM W5) V1<|Ya Wx false (Z0 W1) Us<|Ya WH true (Yx Xy 0) Uw<|Ya WH true (ZM Vf) UC<|Ya WH true (UQ Vu (kI 2) Sn true) UO<|Ya Wx false (YN WH UU (kB false)) U4<|Zc (YN Wx (kB true) Uq) TB<|ZD UK To<|Ya Uh false (Yx Xy 2) U9<|Ya Uh false (ZM Uy) Tp<|Ya Uh false (UQ UL (kI 0) Sn true) Tw<|Ya Uh false (Z0 Ui) TC<|Ya VL true (Yx Xy 0) TY<|Ya VL true (ZM Un) TS<|Ya VL true (UQ UV (kI 3) Sn true) Sg<|Ya Uh false (YN VL T9 (kB false)) Si<|Zc (YN Uh (kB true) U5) SM<|ZD SG Ss<|Ya Ty false (Yx Xy 3) Su<|Ya Ty false (ZM Sa) SN<|Ya Ty false (UQ TW (k (.str [])) Nc true) SO<|Ya Ty false (Z0 Sb) Rw<|Ya TX true (Yx Xy 0) SW<|Ya TX true (ZM UM) SX<|Ya TX true (UQ TA (kI 4) Sn true) RN<|Ya Ty false (YN TX RT (kB false)) Qi<|Zc (YN Ty (kB true) UW) R0<|ZD S6 R1<|Ya Sc false (Yx Xy 4) Qj<|Ya Sc false (ZM SH) Qk<|Ya Sc false (X9 Qe) QS<|Ya Sc false (YE SJ (kI 0) Sq VS) QT<|Ya Sc false (Z0 S7) QZ<|Ya RH true (Yx Xy 0) Oq<|Ya RH true (ZM Pj) O6<|Ya RH true (UQ O3 (kI 5) Sn true) O7<|Ya Sc false (YN RH Ol (kB false)) O8<|Zc (YN Sc (kB true) P4) OW<|ZD O4 OX<|Ya QB false (Yx Xy 5) NQ<|Ya QB false (ZM NC) Li<|Ya QB false (X9 Pk) Lj<|Ya QB false (YE ND (kI 0) Sq VS) KZ<|Ya QB false (Z0 Kf) IW<|Ya O5 true (Yx Xy 0) IX<|Ya O5 true (ZM MW) JC<|Ya O5 true (UQ MX (kI 6) Sn true) IY<|Ya QB false (YN O5 IA (kB false)) GW<|Zc (YN QB (kB true) HR) Ec<|ZD FD GX<|Ya Me false (Yx Xy 3) IZ<|Ya Me false (ZM HS) I0<|Ya Me false (ZI 73 [Pm]) JD<|Ya Me false (QY Qf) I1<|Zc (YN Me (kB true) IB) I2<|Zd) (Z3 IC (Zj (Zc (Z0 (kB true)) Xz<|Zd) Yv) Zd)) (Zj (Zj (Zc (Z0 (kI 0)) Vs<|Zd) (Yf 0 (Wj In))) (Zj (Zj (Zc (Z0 (kI 0)) V3<|Zd) (Yf 2 (Wj Io))) (Zj (Zc (Z0 (kB false)) Xz<|Zd) Yv))))))⟩
def uV:D:=(Zj (Zj (ZD WN XL<|Zc (Yx Xy 4) Wo<|Zc (ZM XH) WA<|Zc (X9 Wk) WZ<|Zc (YE Xq Wy XC Yn) W0<|Zd) (Z3 Wu Zd (We 0))) (Zj (Yf 1 (Zj (Zc (Yx Xy 4) VJ<|Zc (ZM W5) V1<|ZD WN Us<|Zc (YM W1 WH 6) Uw<|Zc (YX Vf 6) UC<|ZD Y2 UO<|Zc (WX UU (kI 1)) U4<|Zc (ZI 57 [Vu,Uq]) TB<|ZD UK VZ<|Zd) (Zj (ZD WB To<|ZD X5 U9<|Zc (YE Uh Uy Sq VS) Tp<|Zd) (Z3 UL (ZD WB Tw<|ZD Ui Vs<|Zd) Zd)))) (ZD WN Vx<|Zc (Yk WJ (kI 1)) Vn<|ZD Wx V3<|Zd)))
def uW:D:=(Zj (Zj (ZD Wc TC<|Zc (Yx Xy 5) TY<|Zc (ZM Un) TS<|Zc (X9 UV) Sg<|Zc (YE VL T9 XC Yn) Si<|Zd) (Z3 U5 Zd (We 2))) (Zj (Yf 3 (Zj (Zc (Yx Xy 5) Su<|Zc (ZM Sa) SN<|ZD Wc SO<|Zc (YM TW Sb 7) Rw<|Zc (Yx TX 1) SW<|Zc (YX UM 6) SX<|ZD Y2 RN<|Zc (WX RT (kI 1)) Qi<|Zc (ZI 57 [TA,UW]) R0<|ZD S6 V2<|Zd) (Zj (ZD Wv R1<|ZD X5 Qj<|Zc (YE Sc SH Sq VS) Qk<|Zd) (Z3 Qe (ZD Wv QS<|ZD SJ Vs<|Zd) Zd)))) (ZD Wc SM<|Zc (Yk SG (kI 1)) Ss<|ZD Ty Vt<|Zd)))
def c57:CF:=⟨[(Xf,none)],(Zj (Zc (U3 Ys 87) st2<|Zc (Z0 (kI 0)) Xz<|Zd) (Zj (Zj (ZD Y2 XJ<|Zc (UQ Xg (kI 0) Sn false) XE<|Zd) (Z3 Xc (Zj (Zc (Z0 (kI 1)) Xz<|Zd) Yv) Zd)) (Zj (Zc (Z0 (kI 0)) Vs<|Zd) (Zj (Zj (Zc (Z0 (kI 0)) V3<|Zd) (Yf 0 (Wj uV))) (Zj (Zj (Zc (Z0 (kI 0)) Vt<|Zd) (Yf 2 (Wj uW))) (Zj (ZD X5 QT<|Zc (Yk S7 (kI 1)) QZ<|ZD RH Xz<|Zd) Yv))))))⟩
def c58:CF:=⟨[(Xy,none)],(Zj (Zc (Z0 (k (nI .u64 0))) st2<|Zd) (Zj (Z3 (kB false) (Zj (Xt [Z5 (Z0 Ys) [(st0,Ys)] Vk 0 0,Z5 (Y9 XK (kI 0)) [(Vk,XK)] Xz 1 1,Z5 (Qv Xf .u64) [(Xz,Xf)] Vs 2 3,Z5 (Z0 Ys) [(st0,Ys)] V3 3 0,Z5 (Y9 WN (kI 1)) [(V3,WN)] VZ 4 8,Z5 (Qv WB .u64) [(VZ,WB)] Vt 5 24,Z5 (FR Wc (k (nI .u64 8))) [(Vt,Wc)] V2 6 56,Z5 (TN X5 Wv Mi) [(Vs,X5),(V2,Wv)] XJ 7 127,Z5 (Z0 Ys) [(st0,Ys)] XE 8 0,Z5 (Y9 Xc (kI 2)) [(XE,Xc)] XL 9 256,Z5 (Qv Xq .u64) [(XL,Xq)] Wo 10 768,Z5 (FR XH (k (nI .u64 16))) [(Wo,XH)] WA 11 1792,Z5 (TN Xg Wk Mi) [(XJ,Xg),(WA,Wk)] WZ 12 4095,Z5 (Z0 Ys) [(st0,Ys)] W0 13 0,Z5 (Y9 Wu (kI 3)) [(W0,Wu)] Vx 14 8192,Z5 (Qv WJ .u64) [(Vx,WJ)] Vn 15 24576,Z5 (FR Wx (k (nI .u64 24))) [(Vn,Wx)] VJ 16 57344,Z5 (TN Wy W5 Mi) [(WZ,Wy),(VJ,W5)] V1 17 131071,⟨Z0 W1,none,[(V1,W1)],st2,.eff,18,262143⟩]) Yv) Zd) (Zj (Xt [Z5 (Z0 Ys) [(st0,Ys)] Us 0 0,Z5 (Y9 WH (kI 0)) [(Us,WH)] Uw 1 1,Z5 (Qv Vf .u64) [(Uw,Vf)] UC 2 3,Z5 (Z0 Ys) [(st0,Ys)] UO 3 0,Z5 (Y9 UU (kI 1)) [(UO,UU)] U4 4 8,Z5 (Qv Uq .u64) [(U4,Uq)] TB 5 24,Z5 (FR UK (k (nI .u64 8))) [(TB,UK)] To 6 56,Z5 (TN Vu Uh Mi) [(UC,Vu),(To,Uh)] U9 7 127,Z5 (Z0 Ys) [(st0,Ys)] Tp 8 0,Z5 (Y9 UL (kI 2)) [(Tp,UL)] Tw 9 256,Z5 (Qv Ui .u64) [(Tw,Ui)] TC 10 768,Z5 (FR VL (k (nI .u64 16))) [(TC,VL)] TY 11 1792,Z5 (TN Uy Un Mi) [(U9,Uy),(TY,Un)] TS 12 4095,Z5 (Z0 Ys) [(st0,Ys)] Sg 13 0,Z5 (Y9 T9 (kI 3)) [(Sg,T9)] Si 14 8192,Z5 (Qv U5 .u64) [(Si,U5)] SM 15 24576,Z5 (FR SG (k (nI .u64 24))) [(SM,SG)] Ss 16 57344,Z5 (TN UV Ty Mi) [(TS,UV),(Ss,Ty)] Su 17 131071,Z5 (Z0 Ys) [(st0,Ys)] SN 18 0,Z5 (Y9 TW (kI 4)) [(SN,TW)] SO 19 262144,Z5 (Qv Sb .u64) [(SO,Sb)] Rw 20 786432,Z5 (FR TX (k (nI .u64 32))) [(Rw,TX)] SW 21 1835008,Z5 (TN Sa UM Mi) [(Su,Sa),(SW,UM)] SX 22 4194303,Z5 (Z0 Ys) [(st0,Ys)] RN 23 0,Z5 (Y9 RT (kI 5)) [(RN,RT)] Qi 24 8388608,Z5 (Qv UW .u64) [(Qi,UW)] R0 25 25165824,Z5 (FR S6 (k (nI .u64 40))) [(R0,S6)] R1 26 58720256,Z5 (TN TA Sc Mi) [(SX,TA),(R1,Sc)] Qj 27 134217727,Z5 (Z0 Ys) [(st0,Ys)] Qk 28 0,Z5 (Y9 Qe (kI 6)) [(Qk,Qe)] QS 29 268435456,Z5 (Qv SJ .u64) [(QS,SJ)] QT 30 805306368,Z5 (FR S7 (k (nI .u64 48))) [(QT,S7)] QZ 31 1879048192,Z5 (TN SH RH Mi) [(Qj,SH),(QZ,RH)] Oq 32 4294967295,Z5 (Z0 Ys) [(st0,Ys)] O6 33 0,Z5 (Y9 O3 (kI 7)) [(O6,O3)] O7 34 8589934592,Z5 (Qv Ol .u64) [(O7,Ol)] O8 35 25769803776,Z5 (FR P4 (k (nI .u64 56))) [(O8,P4)] OW 36 60129542144,Z5 (TN Pj O4 Mi) [(Oq,Pj),(OW,O4)] OX 37 137438953471,⟨Z0 QB,none,[(OX,QB)],st2,.eff,38,274877906943⟩]) Yv)))⟩
def LX:D:=(Zj (Zc (YE UV Un XC Yn) Sg<|Zd) (Zj (Z3 T9 Zd (We 0)) (Zj (Yf 1 (Zj (Zc (YM VL UV 7) Si<|Zc (YX U5 7) SM<|Zc (WK 77 eV) VZ<|Zc (YY WB SG 7) d0<|Zd) (Zj (Zj (ZD X5 Ss<|Zc (Yx WB 0) Su<|Zc (ZM Sa) SN<|Zc (xh Nc (nI .i64 0) false Ty TW) SO<|Zc (YE Sb (kI 0) Sq VS) Rw<|ZD TX SW<|Ya UM false (Yx WB 0) SX<|Ya UM false (ZM TA) RN<|Ya UM false (ZI 45 [RT]) Qi<|Ya UM false (QY UW) R0<|Zc (YN UM (kB true) S6) R1<|ZD Sc Qj<|Ya SH false (Yx WB 1) Qk<|Ya SH false (YX Qe 6) QS<|Ya SH false (ZM XK) QT<|Ya SH false (WX S7 (kI 1)) QZ<|Ya SH false (ZI 59 [SJ,RH]) Oq<|Zc (YN SH (kB true) Pj) O6<|Zd) (Z3 O3 (Zj (Zc (Z0 (kB true)) Xz<|Zd) Yv) Zd)) (ZD X5 O7<|Zc (Yx WB 0) O8<|Zc (ZM P4) OW<|Zc (Jk Nc Ol O4 (kI 1)) d0<|Zd)))) (Zc (Yk UV (kI 1)) OX<|ZD QB TS<|Zd))))
def c59:CF:=⟨[(Xf,none)],(Zj (Zc (U3 Ys 73) st2<|Zc (U3 Y2 3) Vk<|Zc (Z0 (kB false)) Xz<|Zd) (Zj (Zj (Zc (ZM XK) Vt<|Zc (UQ Wc (kI 0) Sn false) V2<|Zd) (Z3 Wv (Zj (Zc (Z0 (kB false)) Xz<|Zd) Yv) Zd)) (Zj (Zj (Zc (Yx Xy 0) XJ<|Zc (ZM Xg) XE<|Zc (YE Xc (kI 1) XC Yn) XL<|ZD Xq Wo<|Ya XH false (Yx Xy 0) WA<|Ya XH false (ZM Wk) WZ<|Ya XH false (YE Wy (kI 6) Sq VS) W0<|Zc (YN XH (kB true) Wu) Vx<|ZD WJ Vn<|Ya Wx false (YX Xy 6) VJ<|Ya Wx false (ZI 74 [W5]) V1<|Ya Wx false (QY W1) Us<|Zc (YN Wx (kB true) WH) Uw<|ZD Vf UC<|Ya Vu false (Yx Xy 3) UO<|Ya Vu false (ZM UU) U4<|Ya Vu false (ZI 45 [Uq]) TB<|Ya Vu false (QY UK) To<|Zc (YN Vu (kB true) Uh) U9<|Zd) (Z3 Uy (Zj (Zc (Z0 (kB true)) Xz<|Zd) Yv) Zd)) (Zj (Zc (sN) Tp<|ZD UL Vs<|Zd) (Zj (Zj (Zc (Yx Xy 5) Tw<|Zc (ZM Ui) TC<|Zc (X9 VL) TY<|Zc (Z0 (kI 0)) TS<|Zd) (Yf 0 (Wj LX))) (Zj (Zc (Yx Xy 4) NQ<|Zc (ZM NC) Li<|Zc (LC 76 [] [XK]) Lj<|Zc (ZI 75 [Pk,ND]) KZ<|ZD Kf Xz<|Zd) Yv))))))⟩
def c60:CF:=⟨[(Xf,none)],(Zj (Zc (U3 Ys 73) st2<|Zc (U3 Y2 3) Vk<|Zc (Z0 (kB false)) Xz<|Zd) (Zj (Zj (Zc (ZM XK) Vs<|Zc (UQ X5 (kI 0) Sn false) V3<|Zd) (Z3 WN (Zj (Zc (Z0 (kB true)) Xz<|Zd) Yv) Zd)) (Zj (Zc (Yx Xy 4) VZ<|Zc (ZM WB) Vt<|Zc (LC 77 [] [XK]) V2<|Zc (ZI 75 [Wc,Wv]) XJ<|ZD Xg XE<|Ya Xc false (Yx Xy 5) XL<|Ya Xc false (ZM Xq) Wo<|Ya Xc false (LC 79 [] [XK]) WA<|Ya Xc false (ZI 78 [XH,Wk]) WZ<|Zc (YN Xc (kB true) Wy) W0<|ZD Wu Xz<|Zd) Yv)))⟩
def c61:CF:=⟨[(Xy,none)],(Zj (Zc (Z0 (k (.str []))) st2<|Zd) (Zj (ZD Ys Vk<|Zc (ZI 80 [XK]) Xz<|ZD Xf st2<|Zd) Yv))⟩
def c62:CF:=⟨[(Xf,none)],(Zj (Zc (Z0 (k (.str []))) Xz<|Zd) (Zj (ZD Ys Vs<|ZD Y2 V3<|Zc (ZI 81 [X5,WN]) VZ<|ZD WB Xz<|Zd) Yv))⟩
def LY:D:=(Zj (Zc (YE Wv Wc XC Yn) XJ<|Zd) (Zj (Z3 Xg Zd (We 0)) (Zj (Yf 1 (Zj (ZD Wv XE<|ZD Xc Xz<|Zd) (Zj (ZD Ys XL<|ZD Xf Wo<|Zc (Y9 Xq XH) WA<|ZD Wk Vs<|Zd) (Yf 2 (Zj (ZD X5 Vn<|Zc (UQ Wx (k (nI .u8 34)) Sn false) VJ<|ZD W5 V1<|Ya W1 false (Z0 X5) Us<|Ya W1 false (UQ WH (k (nI .u8 92)) Sn false) Uw<|Zc (YN W1 (kB true) Vf) UC<|ZD Vu Vx<|Zd) (Z3 WJ (ZD Ys UO<|ZD Xf U4<|ZD Xf TB<|Zc (Yk UK (kI 1)) To<|Zc (UA UU (some Uq) (some Uh) none) U9<|Zc (Yk (k (.str [92])) Uy) Tp<|Zc (ZI 53 [XK,UL]) Tw<|Zd) (Zj (ZD X5 TY<|Zc (YE Un (k (nI .u8 32)) XC Yn) TS<|ZD UV TC<|Zd) (Z3 VL (Xt [Z5 (Z0 X5) [(Vs,X5)] Sg 0 0,Z5 (Ai T9 (k (nI .u64 4))) [(Sg,T9)] Si 1 1,Z5 (Y9 (k (.str [48,49])) U5) [(Si,U5)] SM 2 3,Z5 (pr SG) [(SM,SG)] Ss 3 7,Z5 (Yk (k (.str [92,117,48,48])) Ty) [(Ss,Ty)] Su 4 15,Z5 (Z0 X5) [(Vs,X5)] SN 5 0,Z5 (TN TW (k (nI .u8 15)) OK) [(SN,TW)] SO 6 32,Z5 (Y9 (k (.str SS)) Sb) [(SO,Sb)] Rw 7 96,Z5 (pr TX) [(Rw,TX)] SW 8 224,Z5 (Yk Sa UM) [(Su,Sa),(SW,UM)] SX 9 511,⟨ZI 53 [XK,TA],none,[(Vk,XK),(SX,TA)],RN,.eff,10,1023⟩]) (ZD X5 WZ<|Zc (ZI 54 [XK,Wy]) W0<|Zd))))))))) (Zc (Yk Wv (kI 1)) Qi<|ZD UW V2<|Zd))))
def c63:CF:=⟨[(Xy,none)],(Zj (Zc (Z0 (k (.str []))) st2<|Zd) (Zj (Zc (WK 102 [.nilp,.nils]) Vk<|Zd) (Zj (Zc (ZI 54 [XK,(k (nI .u8 34))]) V3<|Zd) (Zj (Zj (ZD Ys VZ<|Zc (TO WB) Vt<|Zc (Z0 (kI 0)) V2<|Zd) (Yf 0 (Wj LY))) (Zj (Zc (ZI 54 [XK,(k (nI .u8 34))]) R0<|Zd) (Zj (Zc (ZI 55 [XK]) R1<|ZD Sc st2<|Zd) Yv))))))⟩
def Fq:D:=(Zj (Zc (YE TX Sb XC Yn) SW<|Zd) (Zj (Z3 UM Zd (We 1)) (Zj (Yf 2 (Zj (Zc (YM TW TX 1) SX<|Zc (ZM TA) RN<|ZD RT VZ<|Zd) (Zj (Zj (ZD WB Qi<|Zc (TO UW) R0<|ZD X5 R1<|Zc (WX (kI 9223372036854775807) Sc) Qj<|Zc (YE S6 SH Sq VS) Qk<|Zd) (Z3 Qe (Zc (UX (k (.str Zaw)) 9) QS<|Zc (IN SJ) d0<|Zd) Zd)) (ZD X5 QT<|ZD WB QZ<|Zc (TO RH) Oq<|Zc (Yk S7 Pj) O6<|ZD O3 Vs<|Zd)))) (Zc (Yk TX (kI 1)) O7<|ZD Ol Rw<|Zd))))
def D0:D:=(Zj (Zc (YE MX MW XC Yn) IY<|Zd) (Zj (Z3 IA Zd (We 3)) (Zj (Yf 4 (Zj (Zc (YM O5 MX 1) GW<|Zc (ZM HR) Ec<|ZD FD XJ<|Zd) (Zj (ZD Y2 GX<|Zc (ZI 53 [Wc,Me]) IZ<|Zd) (ZD Xg I0<|Zc (ZI 53 [Wc,Pm]) JD<|Zd)))) (Zc (Yk MX (kI 1)) I1<|ZD IB JC<|Zd))))
def c64:CF:=⟨[(Xf,none)],(Zj (Zc (Z0 (k (.str []))) Xz<|Zd) (Zj (Zj (ZD Ys XE<|Zc (X9 Xc) XL<|Zd) (Yf 0 (Zj (Zc (UQ Xq (kI 0) Sn false) WA<|ZD Wk Wo<|Zd) (Z3 XH (Zj (Zc (Z0 (k (.str []))) Xz<|Zd) Yv) (Zj (Zc (UQ Xq (kI 1) Sn false) W0<|ZD Wu WZ<|Zd) (Z3 Wy (Zj (ZD Ys Vx<|Zc (YM WJ (kI 0) 1) Vn<|Zc (ZM Wx) VJ<|ZD W5 Xz<|Zd) Yv) Zd)))))) (Zj (Zc (Z0 (kI 0)) Vs<|Zd) (Zj (Zj (ZD Y2 V1<|Zc (TO W1) Us<|Zc (YE WH (kI 0) Sq VS) Uw<|Zd) (Z3 Vf (Zj (Zj (ZD Y2 UC<|Zc (TO Vu) UO<|ZD Ys U4<|Zc (X9 Uq) TB<|Zc (WX UK (kI 1)) To<|Zc (M6 (kI 9223372036854775807) Uh) U9<|Zc (YE UU Uy SK Vd) Tp<|Zd) (Z3 UL (Zc (UX (k (.str Zaw)) 9) Tw<|Zc (IN Ui) d0<|Zd) Zd)) (ZD X5 TC<|ZD Y2 TY<|Zc (TO Un) TS<|ZD Ys Sg<|Zc (X9 T9) Si<|Zc (WX U5 (kI 1)) SM<|Zc (M5 UV SG) Ss<|Zc (Yk VL Ty) Su<|ZD Sa Vs<|Zd)) Zd)) (Zj (Zj (ZD Ys SN<|Zc (X9 TW) SO<|Zc (Z0 (kI 0)) Rw<|Zd) (Yf 1 (Wj Fq))) (Zj (Zc (WK 102 [.nilp,.nils]) Vt<|Zd) (Zj (ZD X5 O8<|Zc (ZI 82 [Wc,P4]) OW<|Zd) (Zj (ZD Ys OX<|Zc (YM QB (kI 0) 1) NQ<|Zc (ZM NC) Li<|Zc (ZI 53 [Wc,Pk]) Lj<|Zd) (Zj (Zj (ZD Ys KZ<|Zc (FT 1 Kf (some (kI 1)) none none) IW<|Zc (X9 O5) IX<|Zc (Z0 (kI 0)) JC<|Zd) (Yf 3 (Wj D0))) (Zj (Zc (ZI 55 [Wc]) I2<|ZD IC Xz<|Zd) Yv))))))))))⟩
def c65:CF:=⟨[(Xf,none)],(Zj (Zc (Z0 (k .nils)) Xz<|Zd) (Zj (ZD Ys V3<|Zc (ZI 83 [WN]) VZ<|ZD WB Vs<|Zd) (Zj (ZD X5 Vt<|ZD Y2 V2<|Zc (ZI 84 [Wc,Wv]) XJ<|Zd) (Zj (ZD X5 XE<|ZD Xc Xz<|Zd) Yv))))⟩
def c66:CF:=⟨[(Xy,none)],(Zj (Zc (U3 Ys 71) st1<|Zc (Z0 (k .nilf)) st2<|Zd) (Zj (Zc (LC 85 [] [Y2]) Vk<|ZD XK st2<|Zd) Yv))⟩
def c67:CF:=⟨[(Xf,none)],(Zj (Zc (U3 Ys 77) st2<|Zc (U3 Y2 77) Vk<|Zc (Z0 (kI 0)) Xz<|Zd) (Zj (Zc (Yx Xy 0) Vs<|Zc (ZM X5) V3<|Zc (Yx XK 0) VZ<|Zc (ZM WB) Vt<|Zc (ZI 68 [WN,Wc]) V2<|ZD Wv Xz<|Zd) Yv))⟩
def c68:CF:=⟨[(Xf,none)],(Zj (Zc (Z0 (kI 0)) Xz<|Zd) (Zj (ZD Ys VZ<|Zc (ZI 86 [WB]) Vt<|ZD Wc Vs<|Zd) (Zj (ZD Y2 V2<|Zc (ZI 86 [Wv]) XJ<|ZD Xg V3<|Zd) (Zj (Zj (ZD X5 XE<|Zd) (Z3 Xc (Zj (Zj (ZD WN XL<|Zd) (Z3 Xq (Zj (Zc (Z0 (kI 0)) Xz<|Zd) Yv) Zd)) (Zj (Zc (Z0 (k (.int .i64 (.negSucc 0)))) Xz<|Zd) Yv)) Zd)) (Zj (Zj (ZD WN Wo<|Zd) (Z3 XH (Zj (Zc (Z0 (kI 1)) Xz<|Zd) Yv) Zd)) (Zj (Zj (ZD Ys WA<|ZD Y2 WZ<|Zc (YE Wk Wy XC Yn) W0<|Zd) (Z3 Wu (Zj (Zc (Z0 (k (.int .i64 (.negSucc 0)))) Xz<|Zd) Yv) Zd)) (Zj (Zj (ZD Ys Vx<|ZD Y2 Vn<|Zc (YE WJ Wx Sq VS) VJ<|Zd) (Z3 W5 (Zj (Zc (Z0 (kI 1)) Xz<|Zd) Yv) Zd)) (Zj (Zc (Z0 (kI 0)) Xz<|Zd) Yv))))))))⟩
def Fr:D:=(Zj (Zc (YE Wc WB XC Yn) V2<|Zd) (Zj (Z3 Wv Zd (We 0)) (Zj (Yf 1 (Zj (ZD Wc XJ<|ZD Xg Vs<|Zd) (Zj (ZD Y2 XE<|ZD Ys XL<|ZD X5 Wo<|Zc (YM Xq XH 35) WA<|Zc (YX Wk 35) WZ<|Zc (Q4 Xc Tryz.prog [Wy]) W0<|Zd) (Z3 Wu (Zj (ZD X5 Vx<|ZD WJ Xz<|Zd) Yv) Zd)))) (Zc (Yk Wc (kI 1)) Vn<|ZD Wx Vt<|Zd))))
def c69:CF:=⟨[(Xf,none)],(Zj (Zc (Z0 (kI 0)) Xz<|Zd) (Zj (Zj (ZD Ys V3<|Zc (X9 WN) VZ<|Zc (Z0 (kI 0)) Vt<|Zd) (Yf 0 (Wj Fr))) (Zj (Zc (Z0 (k (.int .i64 (.negSucc 0)))) Xz<|Zd) Yv)))⟩
def c70:CF:=⟨[(Xy,none)],(Zj (Zc (Z0 (k (.str []))) st2<|Zd) (Zj (Zj (ZD Ys Xz<|Zc (YE Xf (kI 0) XC Yn) Vs<|Zd) (Z3 X5 (Zj (ZD Ys V3<|Zc (Yk WN (kI 1)) VZ<|Zc (iK WB) Vt<|Zc (Qv Wc .u64) V2<|Zc (Yk Wv (k (nI .u64 1))) XJ<|ZD Xg Vk<|Zd) (Zj (ZD XK XE<|Zc (ZI 87 [Xc]) XL<|Zc (Yk (k (.str [45])) Xq) Wo<|ZD XH st2<|Zd) Yv)) Zd)) (Zj (ZD Ys WA<|Zc (Qv Wk .u64) WZ<|Zc (ZI 87 [Wy]) W0<|ZD Wu st2<|Zd) Yv)))⟩
def LZ:D:=(Zj (Zj (ZD Xf VZ<|ZD Ys Vt<|Zc (TO Wc) V2<|Zc (YE WB Wv XC Yn) XJ<|Zd) (Z3 Xg Zd (We 0))) (Zj (Yf 1 (Zj (ZD Ys Wo<|ZD Xf WA<|Zc (Y9 XH Wk) WZ<|ZD Wy Vs<|Zd) (Zj (ZD X5 W0<|Zc (UQ Wu (k (nI .u8 34)) Sn false) Vx<|ZD WJ Vn<|Ya Wx false (Z0 X5) VJ<|Ya Wx false (UQ W5 (k (nI .u8 92)) Sn false) V1<|Zc (YN Wx (kB true) W1) Us<|Zd) (Z3 WH (ZD XK Uw<|ZD X5 UC<|Zc (X7 5 1 2 (List.replicate 2 [(nI .u8 0)]).flatten [⟨0,1,(k (nI .u8 92))⟩,⟨1,1,Vu⟩]) UO<|Zc (VF Vf UU 5 1 1) U4<|ZD Uq Vk<|Zd) (Zj (ZD X5 TB<|Zc (YE UK (k (nI .u8 32)) XC Yn) To<|Zd) (Z3 Uh (ZD XK U9<|ZD X5 Tp<|Zc (M6 UL (k (nI .u8 16))) Tw<|Zc (Yk (k (nI .u8 48)) Ui) TC<|ZD X5 TY<|Zc (Gu Un (k (nI .u8 16))) TS<|Zc (Y9 (k (.str SS)) UV) Sg<|Zc (X7 5 1 6 (List.replicate 6 [(nI .u8 0)]).flatten [⟨0,1,(k (nI .u8 92))⟩,⟨1,1,(k (nI .u8 117))⟩,⟨2,1,(k (nI .u8 48))⟩,⟨3,1,(k (nI .u8 48))⟩,⟨4,1,VL⟩,⟨5,1,T9⟩]) Si<|Zc (VF Uy U5 5 1 1) SM<|ZD SG Vk<|Zd) (ZD XK Ss<|ZD X5 Su<|Zc (X7 5 1 1 [(nI .u8 0)] [⟨0,1,Sa⟩]) SN<|Zc (VF Ty TW 5 1 1) SO<|ZD Sb Vk<|Zd))))))) (ZD Xf XE<|Zc (Yk Xc (kI 1)) XL<|ZD Xq Xz<|Zd)))
def c71:CF:=⟨[(Xy,none)],(Zj (Zc (Z0 (k (.str []))) st2<|Zd) (Zj (Zc (X7 5 1 1 [(nI .u8 0)] [⟨0,1,(k (nI .u8 34))⟩]) V3<|ZD WN Vk<|Zd) (Zj (Zj (Zc (Z0 (kI 0)) Xz<|Zd) (Yf 0 (Wj LZ))) (Zj (ZD XK Rw<|Zc (X7 5 1 1 [(nI .u8 0)] [⟨0,1,(k (nI .u8 34))⟩]) SW<|Zc (VF TX UM 5 1 1) SX<|Zc (KF TA) RN<|ZD RT st2<|Zd) Yv))))⟩
def c72:CF:=⟨[],(Zj (ZD Ys st2<|Zc (Mk Xy) Vk<|Zc (Yx XK 0) Xz<|Zc (ZM Xf) Vs<|Zc (UQ X5 (k .nilp) lX false) V3<|Zd) (Z3 WN (ZD Ys VZ<|ZD Ys Vt<|Zc (zo Wc) V2<|Zc (ZI 88 [Wv]) XJ<|Zc (zm Xg 102 2) XE<|Zc (Mk WB) XL<|Zc (Yx Xq 0) Wo<|Zc (YY XH Xc 1) d0<|Zd) (Zj (ZD Ys WA<|Zc (Mk Wk) WZ<|Zc (Yx Wy 0) W0<|Zc (ZM Wu) Vx<|ZD Ys Vn<|Zc (UQ WJ Wx lX true) VJ<|Zd) (Z3 W5 Q7 Zd))))⟩
def Fs:D:=(Zj (Zj (ZD XK Vs<|ZD Ys V3<|Zc (TO WN) VZ<|Zc (YE X5 WB XC Yn) Vt<|Zd) (Z3 Wc Zd (We 0))) (Yf 1 (Zj (ZD Ys V2<|ZD XK XJ<|Zc (ZI 89 [Wv,Xg]) XE<|ZD Xc Xz<|Zd) (Zj (Zj (ZD Xf XL<|Zc (UQ Xq (kI 0) Sn false) Wo<|Zd) (Z3 XH (Zj (Zc (Z0 (kB false)) st2<|Zd) Yv) Zd)) (ZD XK WA<|ZD Xf WZ<|Zc (Yk Wk Wy) W0<|ZD Wu Vk<|Zd)))))
def c73:CF:=⟨[(Xy,none)],(Zj (Zc (Z0 (kB false)) st2<|Zd) (Zj (Zc (Z0 (kI 0)) Vk<|Zd) (Zj (Yf 0 (Wj Fs)) (Zj (Zc (Z0 (kB true)) st2<|Zd) Yv))))⟩
def Ir:D:=Ya UM true (Yx Y2 0) SX<|Ya UM true (ZM TA) RN<|Ya UM true (UQ RT (kI 6) Sn false) Qi<|Ya UM true (Z0 UW) R0<|Ya S6 false (Yx Y2 5) R1<|Ya S6 false (ZM Sc) Qj<|Ya S6 false (X9 SH) Qk<|Ya S6 false (UQ Qe (kI 0) Sn false) QS<|Ya UM true (YN S6 (kB true) SJ) QT<|Zc (YN UM S7 (kB false)) QZ<|ZD RH st2<|Zd
def Iq:D:=Ya VL true (Yx Y2 0) TY<|Ya VL true (ZM Un) TS<|Ya VL true (UQ UV (kI 5) Sn false) Sg<|Ya VL true (Z0 T9) Si<|Ya U5 false (Yx Y2 4) SM<|Ya U5 false (ZM SG) Ss<|Ya U5 false (X9 Ty) Su<|Ya U5 false (UQ Sa (kI 0) Sn false) SN<|Ya VL true (YN U5 (kB true) TW) SO<|Zc (YN VL Sb (kB false)) Rw<|ZD TX SW<|Ir
def Ip:D:=Ya WH true (Yx Y2 0) Uw<|Ya WH true (ZM Vf) UC<|Ya WH true (UQ Vu (kI 4) Sn false) UO<|Ya WH true (Z0 UU) U4<|Ya Uq false (Yx Y2 3) TB<|Ya Uq false (ZM UK) To<|Ya Uq false (UQ Uh (k (.str [])) Nc false) U9<|Ya WH true (YN Uq (kB true) Uy) Tp<|Zc (YN WH UL (kB false)) Tw<|ZD Ui TC<|Iq
def NA:D:=Ya Xc true (Yx Y2 0) XL<|Ya Xc true (ZM Xq) Wo<|Ya Xc true (UQ XH (kI 3) Sn false) WA<|Ya Xc true (Z0 Wk) WZ<|Ya Wy false (Yx Y2 2) W0<|Ya Wy false (ZM Wu) Vx<|Ya Wy false (UQ WJ (kI 0) Sn false) Vn<|Ya Xc true (YN Wy (kB true) Wx) VJ<|Zc (YN Xc W5 (kB false)) V1<|ZD W1 Us<|Ip
def c74:CF:=⟨[(Xy,none)],(Zj (Zc (U3 Ys 73) st1<|Zc (Z0 (kB false)) st2<|Zd) (Zj (Zc (Yx Y2 0) Vk<|Zc (ZM XK) Xz<|Zc (UQ Xf (kI 2) Sn false) Vs<|ZD X5 V3<|Ya WN false (Yx Y2 1) VZ<|Ya WN false (ZM WB) Vt<|Ya WN false (QY Wc) V2<|Zc (YN WN (kB true) Wv) XJ<|ZD Xg XE<|NA) Yv))⟩
def c75:CF:=⟨[(Xf,none)],(Zj (Zc (Z0 (kB false)) Xz<|Zd) (Zj (ZD Ys Vs<|ZD Y2 V3<|Zc (ZI 90 [X5,WN]) VZ<|Zc (YE WB (kI 0) SK Vd) Vt<|ZD Wc Xz<|Zd) Yv))⟩
def c76:CF:=⟨[(XK,none)],(Zj (Zc (U3 Ys 73) st2<|Zc (Z0 (kB false)) Vk<|Zd) (Zj (Zc (YX Xy 6) Xz<|Zc (ZM Y2) Vs<|Zc (WX X5 (kI 1)) V3<|Zc (ZI 59 [Xf,WN]) VZ<|ZD WB Vk<|Zd) Yv))⟩
def c77:CF:=⟨[(XK,none)],(Zj (Zc (U3 Ys 73) st2<|Zc (Z0 (kB false)) Vk<|Zd) (Zj (Zc (YX Xy 6) Xz<|Zc (ZM Y2) Vs<|Zc (WX X5 (kI 1)) V3<|Zc (ZI 60 [Xf,WN]) VZ<|ZD WB Vk<|Zd) Yv))⟩
def c78:CF:=⟨[(Xf,none)],(Zj (Zc (Z0 (kB false)) Xz<|Zd) (Zj (ZD Ys Vs<|ZD Y2 V3<|Zc (ZI 91 [X5,WN]) VZ<|Zc (YE WB (kI 0) SK Vd) Vt<|ZD Wc Xz<|Zd) Yv))⟩
def c79:CF:=⟨[(XK,none)],(Zj (Zc (U3 Ys 77) st2<|Zc (Z0 (kB false)) Vk<|Zd) (Zj (Zc (Yx Xy 1) Xz<|Zc (YX Xf 6) Vs<|Zc (ZM Y2) V3<|Zc (WX WN (kI 1)) VZ<|Zc (ZI 60 [X5,WB]) Vt<|ZD Wc Vk<|Zd) Yv))⟩
def c80:CF:=⟨[(Xy,none)],(Zj (Zc (Z0 (k (.str []))) st2<|Zd) (Zj (Zj (ZD Ys Vk<|Zd) (Z3 XK (Zj (Zc (Z0 (k (.str [116,114,117,101]))) st2<|Zd) Yv) Zd)) (Zj (Zc (Z0 (k (.str [102,97,108,115,101]))) st2<|Zd) Yv)))⟩
def c81:CF:=⟨[(Xf,none)],(Zj (Zc (Z0 (k (.str []))) Xz<|Zd) (Zj (Zj (ZD Y2 XJ<|Zc (UQ Xg (kI 10) Sn false) XE<|Zd) (Z3 Xc (Zj (Zj (ZD Ys XL<|Zc (YE (kI 0) Xq Jz Og) Wo<|ZD XH WA<|Ya Wk true (Z0 Ys) WZ<|Ya Wk true (YE Wy (kI 100) XC Yn) W0<|Zc (YN Wk Wu (kB false)) Vx<|Zd) (Z3 WJ (Zj (ZD Ys Vn<|Zc (ZI 92 [Wx]) VJ<|ZD W5 Xz<|Zd) Yv) Zd)) (Zj (Zc (Gt 146 24 (nI .u8 0)) Vs<|Zd) (Zj (ZD Ys V1<|Zc (Qv W1 .u64) Us<|ZD WH V3<|Zd) (Zj (Zj (ZD Ys Uw<|Zc (YE Vf (kI 0) XC Yn) UC<|Zd) (Z3 Vu (ZD WN UO<|Zc (iK UU) U4<|ZD Uq V3<|Zd) Zd)) (Zj (ZD WN TB<|Zc (ZI 93 [UK]) To<|ZD Uh VZ<|Zd) (Zj (ZD WB U9<|Zc (Yk (kI 1) Uy) Tp<|Zc (FS 24 1 X5 (some (kI 1)) (some UL) none) Tw<|ZD WN TC<|Zc (ZI 94 [Ui,VL]) TY<|Zd) (Zj (Zj (ZD Ys TS<|Zc (YE UV (kI 0) XC Yn) Sg<|Zd) (Z3 T9 (Zj (Zc (KD X5 (kI 0) 24 1) Si<|Zc (YY U5 (k (nI .u8 45)) 1) d0<|Zd) (Zj (ZD WB SM<|Zc (Yk (kI 1) SG) Ss<|Zc (FS 24 1 X5 none (some Ty) none) Su<|Zc (KF Sa) SN<|ZD TW Xz<|Zd) Yv)) Zd)) (Zj (ZD WB SO<|Zc (Yk (kI 1) Sb) Rw<|Zc (FS 24 1 X5 (some (kI 1)) (some TX) none) SW<|Zc (KF UM) SX<|ZD TA Xz<|Zd) Yv)))))))) Zd)) (Zj (ZD Ys Qi<|Zc (Qv UW .u64) R0<|ZD Y2 R1<|ZD Ys Qj<|Zc (YE SH (kI 0) XC Yn) Qk<|Zc (ZI 95 [(k .nils),S6,Sc,Qe,(kB false)]) QS<|ZD SJ RN<|Zc (XR RT 0) QT<|Zc (XR RT 1) QZ<|ZD S7 Vt<|ZD RH V2<|Zd) (Zj (ZD Wv Oq<|ZD Pj Xz<|Zd) Yv))))⟩
def c82:CF:=⟨[],(Zj (ZD Ys Xz<|Zc (ZI 72 [Xf]) Vs<|Zd) (Zj (Zj (ZD Y2 V3<|Zc (YE WN (kI 0) XC Yn) VZ<|Zd) (Z3 WB (Zc (UX (k (.str ZfL)) 9) Vt<|Zc (IN Wc) d0<|Zd) Zd)) (Zj (Xt [Z5 (Z0 Ys) [(st0,Ys)] V2 0 0,Z5 (Mk Wv) [(V2,Wv)] XJ 1 1,Z5 (Yx Xg 1) [(XJ,Xg)] XE 2 3,⟨ZM Xc,none,[(XE,Xc)],XL,.read,3,7⟩,⟨bo Xq,none,[(XL,Xq)],Wo,.read,4,15⟩,Z5 (Z0 Ys) [(st0,Ys)] WA 5 0,Z5 (Mk Wk) [(WA,Wk)] WZ 6 32,Z5 (Yx Wy 1) [(WZ,Wy)] W0 7 96,⟨ZM Wu,none,[(W0,Wu)],Vx,.read,8,224⟩,Z5 (X9 WJ) [(Vx,WJ)] Vn 9 480,Z5 (WX XH Wx) [(Wo,XH),(Vn,Wx)] VJ 10 1023,Z5 (Z0 Y2) [(st1,Y2)] V1 11 0,Z5 (YE W5 W1 XC Yn) [(VJ,W5),(V1,W1)] Us 12 4095]) (Z3 WH (ZD Ys Uw<|ZD Y2 UC<|Zc (ZI 96 [Vf,Vu]) UO<|Zd) Zd))))⟩
def c83:CF:=⟨[(Xy,none)],(Zj (Zc (Z0 (k .nils)) st2<|Zd) (Zj (ZD Ys Vk<|Zc (ZI 97 [(k .nils),XK]) Xz<|ZD Xf st2<|Zd) Yv))⟩
def c84:CF:=⟨[],(Zj (ZD Ys Vs<|Zc (X9 X5) V3<|ZD WN Xz<|Zd) (ZD Ys VZ<|ZD Xf Vt<|ZD Xf V2<|Zc (Qv Wv .u64) XJ<|Zc (ZI 99 [Xg]) XE<|ZD Y2 XL<|Zc (ZI 98 [WB,(kI 0),Wc,Xc,Xq]) Wo<|Zd))⟩
def D1:D:=(Zj (Zc (YE WB WN XC Yn) Vt<|Zd) (Zj (Z3 Wc Zd (We 0)) (Zj (Yf 1 (Zj (Zc (YM X5 WB 7) V2<|Zc (YX Wv 7) XJ<|Zc (WK 77 eV) Xz<|Zc (YY Xf Xg 7) d0<|Zd) (Zj (ZD Ys XE<|Zc (YX Xf 7) XL<|Zc (Q4 Xc Tryz.prog [Xq]) Wo<|Zc (QY XH) WA<|Zd) (Z3 Wk Yv Zd)))) (Zc (Yk WB (kI 1)) WZ<|ZD Wy VZ<|Zd))))
def c85:CF:=⟨[],(Zj (Zc (ZM Y2) Vs<|Zc (X9 X5) V3<|Zc (Z0 (kI 0)) VZ<|Zd) (Yf 0 (Wj D1)))⟩
def c86:CF:=⟨[(Xy,none)],(Zj (Zc (Z0 (kB false)) st2<|Zd) (Zj (ZD Ys Vk<|ZD Ys Xz<|Zc (UQ XK Xf Nc true) Vs<|ZD X5 st2<|Zd) Yv))⟩
def D2:D:=(Yf 1 (Zj (ZD Ys Xz<|Zc (Gu Xf (k (nI .u64 10))) Vs<|Zc (Yk (k (nI .u64 48)) X5) V3<|Zc (Qv WN .u8) VZ<|Zc (X7 5 1 1 [(nI .u8 0)] [⟨0,1,WB⟩]) Vt<|Zc (KF Wc) V2<|ZD XK XJ<|Zc (Yk Wv Xg) XE<|ZD Xc Vk<|Zd) (Zj (ZD Ys XL<|Zc (M6 Xq (k (nI .u64 10))) Wo<|ZD XH st0<|Zd) (Zj (ZD Ys WA<|Zc (UQ Wk (k (nI .u64 0)) Sn false) WZ<|Zd) (Z3 Wy (Zj (ZD XK W0<|ZD Wu st2<|Zd) Yv) Zd)))))
def c87:CF:=⟨[(Xy,none)],(Zj (Zc (Z0 (k (.str []))) st2<|Zd) (Zj (Zc (Z0 (k (.str []))) Vk<|Zd) (Yf 0 (Wj D2))))⟩
def MQ:D:=(Zj (Zj (ZD Wc QT<|ZD WN QZ<|Zc (YE S7 RH XC Yn) Oq<|Zd) (Z3 Pj Zd (We 0))) (Zj (Yf 1 (Zj (ZD Ys O8<|ZD Y2 OW<|ZD Wc OX<|Zc (Yk O4 QB) NQ<|Zc (Y9 P4 NC) Li<|Zc (Qv Pk .i64) Lj<|ZD ND V2<|Zd) (Zj (Zj (ZD Wv KZ<|Zc (YE Kf (kI 128) XC Yn) IW<|ZD O5 IX<|Ya MW false (Z0 Wv) JC<|Ya MW false (YE MX (kI 192) SK Vd) IY<|Zc (YN MW (kB true) IA) GW<|Zd) (Z3 HR (Zj (Zc (Z0 (kI 0)) Xz<|Zd) Yv) Zd)) (ZD WB Ec<|Zc (M5 (kI 64) FD) GX<|ZD Wv IZ<|Zc (Yk Me HS) I0<|Zc (WX Pm (kI 128)) JD<|ZD Qf VZ<|Zd)))) (ZD Wc O6<|Zc (Yk O3 (kI 1)) O7<|ZD Ol Vt<|Zd)))
def kz:CF:=⟨[(Xf,none)],(Zj (Zc (Z0 (kI 0)) Xz<|Zd) (Zj (ZD Ys XE<|ZD Y2 XL<|Zc (Y9 Xc Xq) Wo<|Zc (Qv XH .i64) WA<|ZD Wk Vs<|Zd) (Zj (Zj (ZD X5 WZ<|Zc (YE Wy (kI 128) XC Yn) W0<|Zd) (Z3 Wu (Zj (Zc (Z0 (kI 1)) Xz<|Zd) Yv) Zd)) (Zj (Zc (Z0 (kI 0)) V3<|Zd) (Zj (Zc (Z0 (kI 0)) VZ<|Zd) (Zj (Zj (ZD X5 Vx<|Zc (YE WJ (kI 192) SK Vd) Vn<|ZD Wx VJ<|Ya W5 true (Z0 X5) V1<|Ya W5 true (YE W1 (kI 224) XC Yn) Us<|Zc (YN W5 WH (kB false)) Uw<|Zd) (Z3 Vf (Zj (Zc (Z0 (kI 2)) V3<|Zd) (ZD X5 UC<|Zc (WX Vu (kI 192)) UO<|ZD UU VZ<|Zd)) Zd)) (Zj (Zj (ZD X5 U4<|Zc (YE Uq (kI 224) SK Vd) TB<|ZD UK To<|Ya Uh true (Z0 X5) U9<|Ya Uh true (YE Uy (kI 240) XC Yn) Tp<|Zc (YN Uh UL (kB false)) Tw<|Zd) (Z3 Ui (Zj (Zc (Z0 (kI 3)) V3<|Zd) (ZD X5 TC<|Zc (WX VL (kI 224)) TY<|ZD Un VZ<|Zd)) Zd)) (Zj (Zj (ZD X5 TS<|Zc (YE UV (kI 240) SK Vd) Sg<|ZD T9 Si<|Ya U5 true (Z0 X5) SM<|Ya U5 true (YE SG (kI 248) XC Yn) Ss<|Zc (YN U5 Ty (kB false)) Su<|Zd) (Z3 Sa (Zj (Zc (Z0 (kI 4)) V3<|Zd) (ZD X5 SN<|Zc (WX TW (kI 240)) SO<|ZD Sb VZ<|Zd)) Zd)) (Zj (Zj (ZD WN Rw<|Zc (UQ TX (kI 0) Sn false) SW<|ZD UM SX<|Ya TA false (Z0 Y2) RN<|Ya TA false (Z0 WN) Qi<|Ya TA false (Yk RT UW) R0<|Ya TA false (Z0 Ys) R1<|Ya TA false (TO Sc) Qj<|Ya TA false (YE S6 SH Sq VS) Qk<|Zc (YN TA (kB true) Qe) QS<|Zd) (Z3 SJ (Zj (Zc (Z0 (kI 0)) Xz<|Zd) Yv) Zd)) (Zj (Zj (Zc (Z0 (kI 1)) Vt<|Zd) (Yf 0 (Wj MQ))) (Zj (Zc (X7 3 1 5 (List.replicate 5 [(nI .i64 0)]).flatten [⟨0,1,(kI 0)⟩,⟨1,1,(kI 0)⟩,⟨2,1,(kI 128)⟩,⟨3,1,(kI 2048)⟩,⟨4,1,(kI 65536)⟩]) I1<|ZD IB XJ<|Zd) (Zj (Zj (ZD WB I2<|ZD Xg GY<|ZD WN GZ<|Zc (YM Kg HT 1) G0<|Zc (ZM HU) I3<|Zc (YE IC ID XC Yn) I4<|ZD IE I5<|Ya Kh false (Z0 WB) JE<|Ya Kh false (YE NE (kI 1114111) Sq VS) JF<|Zc (YN Kh (kB true) Jv) JG<|ZD Qu G1<|Ya LP false (Z0 WB) I6<|Ya LP false (YE IF (kI 55296) SK Vd) I7<|Ya LP false (Z0 IG) I8<|Ya Ki true (Z0 WB) G2<|Ya Ki true (YE MY (kI 57343) Jz Og) G3<|Ya LP false (YN Ki HV (kB false)) G4<|Zc (YN LP (kB true) HW) G5<|Zd) (Z3 HX (Zj (Zc (Z0 (kI 0)) Xz<|Zd) Yv) Zd)) (Zj (ZD WN G6<|ZD HY Xz<|Zd) Yv)))))))))))))⟩
def Ft:D:=(Zj (Zc (YE Wc WB XC Yn) V2<|Zd) (Zj (Z3 Wv Zd (We 0)) (Zj (Yf 1 (Zj (ZD Wc XJ<|ZD Xg Vs<|Zd) (Zj (ZD Y2 XE<|ZD Ys XL<|ZD X5 Wo<|Zc (YM Xq XH 6) WA<|Zc (YX Wk 6) WZ<|Zc (Q4 Xc Tryz.prog [Wy]) W0<|Zd) (Z3 Wu (Zj (ZD X5 Vx<|ZD WJ Xz<|Zd) Yv) Zd)))) (Zc (Yk Wc (kI 1)) Vn<|ZD Wx Vt<|Zd))))
def c90:CF:=⟨[(Xf,none)],(Zj (Zc (Z0 (kI 0)) Xz<|Zd) (Zj (Zj (ZD Ys V3<|Zc (X9 WN) VZ<|Zc (Z0 (kI 0)) Vt<|Zd) (Yf 0 (Wj Ft))) (Zj (Zc (Z0 (k (.int .i64 (.negSucc 0)))) Xz<|Zd) Yv)))⟩
def Fu:D:=(Zj (Zc (YE Wc WB XC Yn) V2<|Zd) (Zj (Z3 Wv Zd (We 0)) (Zj (Yf 1 (Zj (ZD Wc XJ<|ZD Xg Vs<|Zd) (Zj (ZD Y2 XE<|ZD Ys XL<|ZD X5 Wo<|Zc (YM Xq XH 7) WA<|Zc (YX Wk 7) WZ<|Zc (Q4 Xc Tryz.prog [Wy]) W0<|Zd) (Z3 Wu (Zj (ZD X5 Vx<|ZD WJ Xz<|Zd) Yv) Zd)))) (Zc (Yk Wc (kI 1)) Vn<|ZD Wx Vt<|Zd))))
def c91:CF:=⟨[(Xf,none)],(Zj (Zc (Z0 (kI 0)) Xz<|Zd) (Zj (Zj (ZD Ys V3<|Zc (X9 WN) VZ<|Zc (Z0 (kI 0)) Vt<|Zd) (Yf 0 (Wj Fu))) (Zj (Zc (Z0 (k (.int .i64 (.negSucc 0)))) Xz<|Zd) Yv)))⟩
def c92:CF:=⟨[(Xy,none)],(Zj (Zc (Z0 (k (.str []))) st2<|Zd) (Zj (Zj (ZD Ys Vk<|Zc (YE XK (kI 10) XC Yn) Xz<|Zd) (Z3 Xf (Zj (ZD Ys Vs<|ZD Ys V3<|Zc (Yk WN (kI 1)) VZ<|Zc (UA (k (.str pe)) (some X5) (some WB) none) Vt<|ZD Wc st2<|Zd) Yv) Zd)) (Zj (ZD Ys V2<|Zc (M5 Wv (kI 2)) XJ<|ZD Ys XE<|Zc (M5 Xc (kI 2)) XL<|Zc (Yk Xq (kI 2)) Wo<|Zc (UA (k (.str Ra)) (some Xg) (some XH) none) WA<|ZD Wk st2<|Zd) Yv)))⟩
def c93:CF:=⟨[(Xy,none)],(Zj (Zc (Z0 (kI 0)) st2<|Zd) (Zj (ZD Ys Xz<|Zc (ZI 101 [Xf]) Vs<|Zc (ZI 100 [X5]) V3<|ZD WN Vk<|Zd) (Zj (ZD XK VZ<|ZD Ys Vt<|ZD XK V2<|Zc (KD (k (.ptr 2 0)) Wv 20 1) XJ<|Zc (ZM Xg) XE<|Zc (YE Wc Xc SK Vd) XL<|Zc (ZI 102 [Xq]) Wo<|Zc (Yk WB XH) WA<|ZD Wk st2<|Zd) Yv)))⟩
def Is:D:=(Zj (Zj (ZD Xf VJ<|Zc (YE W5 (kI 8) SK Vd) V1<|Zd) (Z3 W1 Zd (We 0))) (Yf 1 (Zj (ZD Y2 Us<|Zc (Gu WH (k (nI .u64 100000000))) Uw<|Zc (Qv Vf .u32) UC<|ZD Vu Vs<|Zd) (Zj (ZD Y2 UO<|Zc (M6 UU (k (nI .u64 100000000))) U4<|ZD Uq st1<|Zd) (Zj (ZD X5 TB<|Zc (M6 UK (k (nI .u32 10000))) To<|ZD X5 U9<|Zc (Gu Uy (k (nI .u32 10000))) Tp<|ZD Uh V3<|ZD UL VZ<|Zd) (Zj (ZD WB Tw<|Zc (M6 Ui (k (nI .u32 100))) TC<|Zc (M5 VL (k (nI .u32 2))) TY<|ZD WB TS<|Zc (Gu UV (k (nI .u32 100))) Sg<|Zc (M5 T9 (k (nI .u32 2))) Si<|ZD Un Vt<|ZD U5 V2<|Zd) (Zj (ZD WN SM<|Zc (M6 SG (k (nI .u32 100))) Ss<|Zc (M5 Ty (k (nI .u32 2))) Su<|ZD WN SN<|Zc (Gu TW (k (nI .u32 100))) SO<|Zc (M5 Sb (k (nI .u32 2))) Rw<|ZD Sa XJ<|ZD TX XE<|Zd) (Zj (Xt [Z5 (Z0 Ys) [(st0,Ys)] SW 0 0,Z5 (Z0 Xf) [(Xz,Xf)] SX 1 0,Z5 (WX TA (kI 1)) [(SX,TA)] RN 2 2,Z5 (Z0 Ys) [(st0,Ys)] Qi 3 0,Z5 (Z0 Xf) [(Xz,Xf)] R0 4 0,Z5 (WX S6 (kI 2)) [(R0,S6)] R1 5 16,Z5 (Z0 Wv) [(V2,Wv)] Qj 6 0,Z5 (Yk SH (k (nI .u32 1))) [(Qj,SH)] Qk 7 64,Z5 (Y9 (k (.str Ra)) Qe) [(Qk,Qe)] QS 8 192,Z5 (Z0 Wv) [(V2,Wv)] QT 9 0,Z5 (Y9 (k (.str Ra)) S7) [(QT,S7)] QZ 10 512,Z5 (YM UM RT 1) [(SW,UM),(RN,RT)] Oq 11 455,⟨YY Pj SJ 1,none,[(Oq,Pj),(QS,SJ)],d0,.eff,12,2503⟩,Z5 (YM UW Sc 1) [(Qi,UW),(R1,Sc)] O6 13 8191,⟨YY O3 RH 1,none,[(O6,O3),(QZ,RH)],d0,.eff,14,16383⟩]) (Zj (Xt [Z5 (Z0 Ys) [(st0,Ys)] O7 0 0,Z5 (Z0 Xf) [(Xz,Xf)] O8 1 0,Z5 (WX P4 (kI 3)) [(O8,P4)] OW 2 2,Z5 (Z0 Ys) [(st0,Ys)] OX 3 0,Z5 (Z0 Xf) [(Xz,Xf)] NQ 4 0,Z5 (WX NC (kI 4)) [(NQ,NC)] Li 5 16,Z5 (Z0 Wc) [(Vt,Wc)] Lj 6 0,Z5 (Yk ND (k (nI .u32 1))) [(Lj,ND)] KZ 7 64,Z5 (Y9 (k (.str Ra)) Kf) [(KZ,Kf)] IW 8 192,Z5 (Z0 Wc) [(Vt,Wc)] IX 9 0,Z5 (Y9 (k (.str Ra)) MW) [(IX,MW)] JC 10 512,Z5 (YM Ol O4 1) [(O7,Ol),(OW,O4)] IY 11 455,⟨YY IA O5 1,none,[(IY,IA),(IW,O5)],d0,.eff,12,2503⟩,Z5 (YM QB Pk 1) [(OX,QB),(Li,Pk)] GW 13 8191,⟨YY HR MX 1,none,[(GW,HR),(JC,MX)],d0,.eff,14,16383⟩]) (Zj (Xt [Z5 (Z0 Ys) [(st0,Ys)] Ec 0 0,Z5 (Z0 Xf) [(Xz,Xf)] GX 1 0,Z5 (WX Me (kI 5)) [(GX,Me)] IZ 2 2,Z5 (Z0 Ys) [(st0,Ys)] I0 3 0,Z5 (Z0 Xf) [(Xz,Xf)] JD 4 0,Z5 (WX Qf (kI 6)) [(JD,Qf)] I1 5 16,Z5 (Z0 Xc) [(XE,Xc)] I2 6 0,Z5 (Yk IC (k (nI .u32 1))) [(I2,IC)] GY 7 64,Z5 (Y9 (k (.str Ra)) Kg) [(GY,Kg)] GZ 8 192,Z5 (Z0 Xc) [(XE,Xc)] G0 9 0,Z5 (Y9 (k (.str Ra)) HU) [(G0,HU)] I3 10 512,Z5 (YM FD HS 1) [(Ec,FD),(IZ,HS)] I4 11 455,⟨YY IE HT 1,none,[(I4,IE),(GZ,HT)],d0,.eff,12,2503⟩,Z5 (YM Pm IB 1) [(I0,Pm),(I1,IB)] I5 13 8191,⟨YY Kh ID 1,none,[(I5,Kh),(I3,ID)],d0,.eff,14,16383⟩]) (Zj (Xt [Z5 (Z0 Ys) [(st0,Ys)] JE 0 0,Z5 (Z0 Xf) [(Xz,Xf)] JF 1 0,Z5 (WX Jv (kI 7)) [(JF,Jv)] JG 2 2,Z5 (Z0 Ys) [(st0,Ys)] G1 3 0,Z5 (Z0 Xf) [(Xz,Xf)] I6 4 0,Z5 (WX IF (kI 8)) [(I6,IF)] I7 5 16,Z5 (Z0 Xg) [(XJ,Xg)] I8 6 0,Z5 (Yk Ki (k (nI .u32 1))) [(I8,Ki)] G2 7 64,Z5 (Y9 (k (.str Ra)) MY) [(G2,MY)] G3 8 192,Z5 (Z0 Xg) [(XJ,Xg)] G4 9 0,Z5 (Y9 (k (.str Ra)) HW) [(G4,HW)] G5 10 512,Z5 (YM NE Qu 1) [(JE,NE),(JG,Qu)] G6 11 455,⟨YY HY HV 1,none,[(G6,HY),(G3,HV)],d0,.eff,12,2503⟩,Z5 (YM LP IG 1) [(G1,LP),(I7,IG)] Ed 13 8191,⟨YY FE HX 1,none,[(Ed,FE),(G5,HX)],d0,.eff,14,16383⟩]) (ZD Xf BK<|Zc (WX CD (kI 8)) BL<|ZD CG Xz<|Zd))))))))))))
def kD:CF:=⟨[],(Zj (ZD Ys Vx<|Zc (X9 WJ) Vn<|ZD Wx Xz<|Zd) (Zj (Yf 0 (Wj Is)) (Zj (ZD Y2 BM<|Zc (Qv CH .u32) BN<|ZD CI XL<|Zd) (Zj (Zj (ZD Xf BO<|Zc (YE CJ (kI 4) SK Vd) Dc<|Zd) (Z3 E7 (Zj (ZD Xq LF<|Zc (Gu Lw (k (nI .u32 10000))) KU<|ZD Kb Wo<|Zd) (Zj (ZD Xq KV<|Zc (M6 P9 (k (nI .u32 10000))) JZ<|ZD JO XL<|Zd) (Zj (ZD XH J6<|Zc (M6 JP (k (nI .u32 100))) J7<|Zc (M5 Qp (k (nI .u32 2))) J8<|ZD XH J9<|Zc (Gu JR (k (nI .u32 100))) GP<|Zc (M5 HL (k (nI .u32 2))) Ia<|ZD JQ WA<|ZD OH WZ<|Zd) (Zj (Xt [Z5 (Z0 Ys) [(st0,Ys)] KW 0 0,Z5 (Z0 Xf) [(Xz,Xf)] KX 1 0,Z5 (WX Kd (kI 1)) [(KX,Kd)] LG 2 2,Z5 (Z0 Ys) [(st0,Ys)] Ms 3 0,Z5 (Z0 Xf) [(Xz,Xf)] Mt 4 0,Z5 (WX Oa (kI 2)) [(Mt,Oa)] Mu 5 16,Z5 (Z0 Wy) [(WZ,Wy)] Mv 6 0,Z5 (Yk Ob (k (nI .u32 1))) [(Mv,Ob)] Mw 7 64,Z5 (Y9 (k (.str Ra)) N4) [(Mw,N4)] Mx 8 192,Z5 (Z0 Wy) [(WZ,Wy)] My 9 0,Z5 (Y9 (k (.str Ra)) Q2) [(My,Q2)] Mz 10 512,Z5 (YM Kc Lx 1) [(KW,Kc),(LG,Lx)] Nq 11 455,⟨YY PL N5 1,none,[(Nq,PL),(Mx,N5)],d0,.eff,12,2503⟩,Z5 (YM N2 N3 1) [(Ms,N2),(Mu,N3)] Nr 13 8191,⟨YY Ng N6 1,none,[(Nr,Ng),(Mz,N6)],d0,.eff,14,16383⟩]) (Zj (Xt [Z5 (Z0 Ys) [(st0,Ys)] Ns 0 0,Z5 (Z0 Xf) [(Xz,Xf)] MA 1 0,Z5 (WX N7 (kI 3)) [(MA,N7)] MB 2 2,Z5 (Z0 Ys) [(st0,Ys)] MC 3 0,Z5 (Z0 Xf) [(Xz,Xf)] MD 4 0,Z5 (WX Ma (kI 4)) [(MD,Ma)] ME 5 16,Z5 (Z0 Wk) [(WA,Wk)] LH 6 0,Z5 (Yk Ly (k (nI .u32 1))) [(LH,Ly)] MF 7 64,Z5 (Y9 (k (.str Ra)) Mc) [(MF,Mc)] MG 8 192,Z5 (Z0 Wk) [(WA,Wk)] LI 9 0,Z5 (Y9 (k (.str Ra)) Lz) [(LI,Lz)] KY 10 512,Z5 (YM Nh N9 1) [(Ns,Nh),(MB,N9)] Ib 11 455,⟨YY HM Q3 1,none,[(Ib,HM),(MG,Q3)],d0,.eff,12,2503⟩,Z5 (YM Oc Mb 1) [(MC,Oc),(ME,Mb)] Ic 13 8191,⟨YY JS Od 1,none,[(Ic,JS),(KY,Od)],d0,.eff,14,16383⟩]) (ZD Xf GQ<|Zc (WX HN (kI 4)) GR<|ZD HP Xz<|Zd)))))) Zd)) (Zj (Zj (ZD Xf GS<|Zc (YE LA (kI 2) SK Vd) GU<|Zd) (Z3 HQ (Zj (ZD Xq GV<|Zc (Gu Ni (k (nI .u32 100))) Bz<|Zc (M5 Cu (k (nI .u32 2))) BA<|ZD Cv W0<|Zd) (Zj (ZD Xq BB<|Zc (M6 Md (k (nI .u32 100))) BC<|ZD Cw XL<|Zd) (Zj (Xt [Z5 (Z0 Ys) [(st0,Ys)] EX 0 0,Z5 (Z0 Xf) [(Xz,Xf)] EY 1 0,Z5 (WX Cx (kI 1)) [(EY,Cx)] EZ 2 2,Z5 (Z0 Ys) [(st0,Ys)] BE 3 0,Z5 (Z0 Xf) [(Xz,Xf)] BF 4 0,Z5 (WX Cz (kI 2)) [(BF,Cz)] BG 5 16,Z5 (Z0 Wu) [(W0,Wu)] BH 6 0,Z5 (Yk EF (k (nI .u32 1))) [(BH,EF)] BI 7 64,Z5 (Y9 (k (.str Ra)) JT) [(BI,JT)] BJ 8 192,Z5 (Z0 Wu) [(W0,Wu)] uh 9 0,Z5 (Y9 (k (.str Ra)) wP) [(uh,wP)] ui 10 512,Z5 (YM EE Ke 1) [(EX,EE),(EZ,Ke)] uj 11 455,⟨YY wR CB 1,none,[(uj,wR),(BJ,CB)],d0,.eff,12,2503⟩,Z5 (YM Cy CA 1) [(BE,Cy),(BG,CA)] uk 13 8191,⟨YY EG wQ 1,none,[(uk,EG),(ui,wQ)],d0,.eff,14,16383⟩]) (ZD Xf pJ<|Zc (WX qG (kI 2)) pK<|ZD qH Xz<|Zd)))) Zd)) (Zj (ZD Xf pL<|Zc (YE qI (kI 0) Sq VS) pM<|Zd) (Z3 qJ (ZD Ys pN<|ZD Xq pO<|Zc (Yk (k (nI .u32 48)) qK) pP<|Zc (Qv qL .u8) pQ<|Zc (YM CC (kI 0) 1) fG<|Zc (YY jy qM 1) d0<|Zd) Zd)))))))⟩
def c96:CF:=⟨[],(Zj (Xt [Z5 (Z0 Ys) [(st0,Ys)] Vs 0 0,Z5 (Mk X5) [(Vs,X5)] V3 1 1,Z5 (Yx WN 1) [(V3,WN)] VZ 2 3,⟨ZM WB,none,[(VZ,WB)],Vt,.read,3,7⟩,⟨bo Wc,none,[(Vt,Wc)],V2,.read,4,15⟩,Z5 (M5 (kI 2) Wv) [(V2,Wv)] XJ 5 31,Z5 (Z0 Y2) [(st1,Y2)] XE 6 0,Z5 (Yk Xg Xc) [(XJ,Xg),(XE,Xc)] XL 7 127,Z5 (Z0 Ys) [(st0,Ys)] WA 9 0,Z5 (Mk Wk) [(WA,Wk)] WZ 10 512,Z5 (Yx Wy 1) [(WZ,Wy)] W0 11 1536,⟨ZM Wu,none,[(W0,Wu)],Vx,.read,12,3584⟩,Z5 (X9 WJ) [(Vx,WJ)] Vn 13 7680,⟨ZI 105 [Xq],none,[(XL,Xq)],Wo,.eff,8,255⟩,⟨FT 1 XH none (some Wx) none,none,[(Wo,XH),(Vn,Wx)],VJ,.read,14,16383⟩,⟨Z0 W5,none,[(VJ,W5)],Xz,.eff,15,32767⟩]) (Zj (ZD Xf V1<|ZD Ys Us<|Zc (Mk WH) Uw<|Zc (Yx Vf 1) UC<|Zc (ZM Vu) UO<|Zc (pq W1 UU 1) U4<|Zd) (ZD Ys TB<|ZD Xf To<|Zc (Mk UK) U9<|Zc (Yx Uy 1) Tp<|Zc (YY UL Uh 1) d0<|Zd)))⟩
def uX:D:=(Zj (Zc (WK 77 eV) Vs<|Zc (YY X5 WB 7) d0<|Zd) (Yf 1 (yC [⟨ZM Xy,none,[(st2,Xy)],Vt,.read,0,0⟩,⟨YX X5 7,none,[(Vs,X5)],V2,.read,1,0⟩,Z5 (X9 Wc) [(Vt,Wc)] XJ 2 1,⟨X7 77 7 1 eV [⟨0,7,(k (.agg eV))⟩],none,[],XE,.free,3,0⟩,⟨VF Wc Xc 77 7 104,none,[(Vt,Wc),(XE,Xc)],XL,.eff,4,15⟩,Z5 (YM Xq Xg 7) [(XL,Xq),(XJ,Xg)] Wo 5 31] ⟨YY XH Wv 7,none,[(Wo,XH),(V2,Wv)],d0,.eff,6,63⟩ ⟨YY Xy Xq 1,none,[(st2,Xy),(XL,Xq)],d0,.eff,7,31⟩ XH Xy)))
def c97:CF:=⟨[(Xf,none)],(Zj (Zc (U3 Ys 71) st2<|Zc (Z0 (k .nils)) Xz<|Zd) (Zj (Zj (ZD Y2 V3<|Zd) (Yf 0 (xB WN [VZ] uX))) (Zj (Zc (ZM Xy) WA<|ZD Wk Xz<|Zd) Yv)))⟩
def It:D:=(Yf 1 (Zj (ZD Xy Us<|ZD Y2 Uw<|Zc (WX WH Vf) UC<|ZD Vu XL<|Zd) (Zj (Zj (ZD Xq UO<|Zc (YE UU (kI 12) Jz Og) U4<|Zd) (Z3 Uq (Zj (ZD Ys TB<|ZD Y2 To<|ZD Xy U9<|ZD Xf Tp<|Zc (ZI 106 [UK,Uh,Uy,UL]) Tw<|Zd) Yv) Zd)) (Zj (Zj (ZD XK TC<|Zc (UQ VL (kI 0) Sn false) TY<|Zd) (Z3 Un (Zj (ZD Ys TS<|ZD Y2 Sg<|ZD Xy Si<|ZD Xf SM<|Zc (ZI 107 [UV,T9,U5,SG]) Ss<|Zd) Yv) Zd)) (Zj (Zj (ZD Xg Su<|Zc (QY Sa) SN<|Zd) (Z3 TW (Zj (ZD Ys SO<|ZD Y2 Rw<|ZD Xy SW<|ZD Xf SX<|Zc (ZI 108 [Sb,TX,UM,TA]) RN<|Zd) (ZD XK Qi<|Zc (WX UW (kI 1)) R0<|ZD S6 Vk<|Zd)) Zd)) (Zj (ZD Ys Qj<|ZD Y2 Qk<|ZD Xy QS<|ZD Xf QT<|Zc (ZI 109 [SH,Qe,SJ,S7]) QZ<|ZD RH R1<|Zc (XR Sc 0) Oq<|Zc (XR Sc 1) O6<|ZD Pj Wo<|ZD O3 WA<|Zd) (Zj (Zj (ZD Wk O7<|Zc (UQ Ol (kI 2) Sn false) O8<|Zd) (Z3 P4 (Zj (ZD Ys OW<|ZD Y2 OX<|ZD Xy NQ<|ZD Xf Li<|Zc (ZI 110 [O4,QB,NC,Pk]) Lj<|Zd) (Zj (ZD Xy KZ<|Zc (WX Kf (kI 1)) IW<|ZD XH IX<|ZD Y2 JC<|Zc (WX MW MX) IY<|Zc (WX O5 IA) GW<|ZD HR Wo<|Zd) (Zc (Z0 (kI 1)) WA<|Zd))) Zd)) (Zj (Zj (ZD Xg Ec<|ZD FD GX<|Ya Me true (Z0 Xc) IZ<|Zc (YN Me HS (kB false)) I0<|ZD Pm JD<|Ya Qf true (Z0 Wk) I1<|Ya Qf true (UQ IB (kI 1) Sn false) I2<|Zc (YN Qf IC (kB false)) GY<|Zd) (Z3 Kg (Zj (ZD Ys GZ<|ZD Y2 G0<|ZD Xy I3<|ZD Xf I4<|Zc (ZI 111 [HT,HU,ID,IE]) I5<|Zd) (Z3 Kh Yv Zd)) Zd)) (Zj (Zj (Xt [Z5 (Z0 Y2) [(st1,Y2)] JE 0 0,Z5 (YE NE (kI 0) Sq VS) [(JE,NE)] JF 1 1,Z5 (Z0 Jv) [(JF,Jv)] JG 2 3,⟨Z0 Xf,(some (Qu,true)),[(Xz,Xf)],G1,.free,3,7⟩,⟨Z0 Ys,(some (Qu,true)),[(st0,Ys)],I6,.free,4,7⟩,⟨Z0 Y2,(some (Qu,true)),[(st1,Y2)],I7,.free,5,7⟩,⟨WX IG (kI 1),(some (Qu,true)),[(I7,IG)],I8,.free,6,39⟩,⟨YM IF Ki 7,(some (Qu,true)),[(I6,IF),(I8,Ki)],G2,.free,7,119⟩,⟨YX MY 7,(some (Qu,true)),[(G2,MY)],G3,.read,8,247⟩,⟨Z0 Ys,(some (Qu,true)),[(st0,Ys)],G4,.free,9,7⟩,⟨Z0 XH,(some (Qu,true)),[(Wo,XH)],G5,.free,10,7⟩,⟨YM HW HX 7,(some (Qu,true)),[(G4,HW),(G5,HX)],G6,.free,11,1543⟩,⟨YX HY 7,(some (Qu,true)),[(G6,HY)],Ed,.read,12,3591⟩,⟨Q4 LP Tryz.prog [HV,FE],(some (Qu,true)),[(G1,LP),(G3,HV),(Ed,FE)],BK,.eff,13,8191⟩,⟨YE CD (kI 0) XC Yn,(some (Qu,true)),[(BK,CD)],BL,.free,14,16383⟩,⟨QY CG,(some (Qu,true)),[(BL,CG)],BM,.free,15,32767⟩,Z5 (YN Qu CH (kB false)) [(JG,Qu),(BM,CH)] BN 16 65535]) (Z3 CI (Zj (ZD Ys BO<|ZD Y2 Dc<|ZD Xy LF<|ZD XH KU<|ZD Xf KV<|Zc (ZI 112 [CJ,E7,Lw,Kb,P9]) JZ<|ZD JO WZ<|Zd) (Zj (ZD Wy J6<|ZD JP st1<|Zd) (We 1))) Zd)) (Zj (ZD Ys J8<|ZD Y2 J9<|ZD Xy GP<|ZD XH Ia<|ZD Xf KW<|Zc (ZI 113 [JQ,JR,HL,OH,Kc]) KX<|ZD Kd J7<|Zc (XR Qp 0) LG<|Zc (XR Qp 1) Ms<|ZD Lx W0<|ZD N2 Vx<|Zd) (Zj (ZD WJ Mt<|ZD Oa XE<|Zd) (Zj (ZD Wu Mu<|ZD Y2 Mv<|Zc (WX N3 Ob) Mw<|ZD Xy Mx<|ZD Wu My<|Zc (WX N5 Q2) Mz<|ZD N4 Vn<|ZD N6 VJ<|Zd) (Zj (ZD Xq Nq<|Zc (M6 PL (kI 8)) Nr<|ZD Ng V1<|Zd) (Zj (ZD Wx Ns<|ZD W5 MA<|Zc (YE Nh N7 XC Yn) MB<|Zd) (Z3 N9 (Zj (ZD Wx MC<|ZD W1 MD<|Zc (YE Oc Ma SK Vd) ME<|ZD Mb XJ<|Zd) (Zj (ZD Ys LH<|ZD Y2 MF<|ZD Wu MG<|ZD XK LI<|ZD Xf KY<|Zc (ZI 98 [Ly,Mc,Q3,Lz,Od]) Ib<|Zd) (ZD Wu Ic<|Zc (Yk JS (kI 1)) GQ<|ZD HN st1<|Zd))) (Zj (ZD W5 GR<|ZD W1 GS<|Zc (YE HP LA SK Vd) GU<|ZD HQ XJ<|Zd) (Zj (ZD Ys GV<|ZD Wu Bz<|Zc (Yk Cu (kI 1)) BA<|ZD Xy BB<|ZD XK BC<|ZD Xf EX<|Zc (ZI 98 [Ni,Cv,Md,Cw,EE]) EY<|Zd) (ZD Wu EZ<|ZD Ke st2<|Zd))))))))))))))))))
def aX:CF:=⟨[],(Zj (Zc (Z0 (kB true)) XJ<|Zd) (Zj (Zc (Z0 (kB true)) XE<|Zd) (Yf 0 (Wj It))))⟩
def c99:CF:=⟨[(Xy,none)],(Zj (Zc (Z0 (kI 0)) st2<|Zd) (Zj (Z3 (kB false) (Zj (ZD Ys Vk<|Zc (Qv XK .u32) Xz<|Zc (ZI 114 [Xf]) Vs<|ZD X5 st2<|Zd) Yv) Zd) (Zj (ZD Ys V3<|Zc (ZI 101 [WN]) VZ<|ZD WB st2<|Zd) Yv)))⟩
def Za6:CF:=⟨[(Xy,none)],(Zj (Zc (Z0 (kI 0)) st2<|Zd) (Zj (ZD Ys Vk<|Zc (M5 XK (kI 78913)) Xz<|Zc (Ai Xf (k (nI .u64 18))) Vs<|ZD X5 st2<|Zd) Yv))⟩
def B7:CF:=⟨[(Xy,none)],(Zj (Zc (Z0 (kI 0)) st2<|Zd) (Zj (Zj (ZD Ys Vk<|Zc (YE XK (k (nI .u64 4294967296)) SK Vd) Xz<|Zd) (Z3 Xf (Zj (ZD Ys Vs<|Zc (Ai X5 (k (nI .u64 32))) V3<|ZD WN st0<|Zd) (Zc (Z0 (kI 32)) st2<|Zd)) Zd)) (Zj (Zj (ZD Ys VZ<|Zc (YE WB (k (nI .u64 65536)) SK Vd) Vt<|Zd) (Z3 Wc (Zj (ZD Ys V2<|Zc (Ai Wv (k (nI .u64 16))) XJ<|ZD Xg st0<|Zd) (ZD Xy XE<|Zc (Yk Xc (kI 16)) XL<|ZD Xq st2<|Zd)) Zd)) (Zj (Zj (ZD Ys Wo<|Zc (YE XH (k (nI .u64 256)) SK Vd) WA<|Zd) (Z3 Wk (Zj (ZD Ys WZ<|Zc (Ai Wy (k (nI .u64 8))) W0<|ZD Wu st0<|Zd) (ZD Xy Vx<|Zc (Yk WJ (kI 8)) Vn<|ZD Wx st2<|Zd)) Zd)) (Zj (ZD Xy VJ<|ZD Ys V1<|Zc (Qv W1 .u8) Us<|Zc (Y9 (k (.str vi)) WH) Uw<|Zc (Qv Vf .i64) UC<|Zc (Yk W5 Vu) UO<|ZD UU st2<|Zd) Yv)))))⟩
def dF:CF:=⟨[(Xy,none)],(Zj (Zc (Z0 (kI 0)) st2<|Zd) (Zj (Zj (ZD Ys Vk<|Zd) (Z3 XK (Zj (Zc (Z0 (kI 1)) st2<|Zd) Yv) Zd)) (Zj (Zc (Z0 (kI 0)) st2<|Zd) Yv)))⟩
def K8:D:=(Zj (Zj (Xt [Z5 (Z0 Wv) [(V2,Wv)] Vn 0 0,Z5 (Z0 Y2) [(st1,Y2)] VJ 1 0,Z5 (YE Wx W5 Sq VS) [(Vn,Wx),(VJ,W5)] V1 2 3,Z5 (Z0 W1) [(V1,W1)] Us 3 7,⟨Z0 XK,(some (WH,true)),[(Vk,XK)],Uw,.free,4,15⟩,⟨Z0 Ys,(some (WH,true)),[(st0,Ys)],UC,.free,5,15⟩,⟨Z0 Wv,(some (WH,true)),[(V2,Wv)],UO,.free,6,15⟩,⟨YM Vu UU 7,(some (WH,true)),[(UC,Vu),(UO,UU)],U4,.free,7,111⟩,⟨YX Uq 7,(some (WH,true)),[(U4,Uq)],TB,.read,8,239⟩,⟨Z0 Ys,(some (WH,true)),[(st0,Ys)],To,.free,9,15⟩,⟨Z0 Wv,(some (WH,true)),[(V2,Wv)],U9,.free,10,15⟩,⟨WX Uy (kI 1),(some (WH,true)),[(U9,Uy)],Tp,.free,11,1039⟩,⟨YM Uh UL 7,(some (WH,true)),[(To,Uh),(Tp,UL)],Tw,.free,12,3599⟩,⟨YX Ui 7,(some (WH,true)),[(Tw,Ui)],TC,.read,13,7695⟩,⟨Q4 Vf Tryz.prog [UK,VL],(some (WH,true)),[(Uw,Vf),(TB,UK),(TC,VL)],TY,.eff,14,16383⟩,⟨YE Un (kI 0) XC Yn,(some (WH,true)),[(TY,Un)],TS,.free,15,32767⟩,Z5 (YN WH UV (kB false)) [(Us,WH),(TS,UV)] Sg 16 65535]) (Z3 T9 Zd (We 2))) (Zj (Yf 3 (Xt [Z5 (Z0 Ys) [(st0,Ys)] Ss 0 0,Z5 (Z0 Wv) [(V2,Wv)] Su 1 0,Z5 (Z0 Ys) [(st0,Ys)] SN 2 0,Z5 (Z0 Wv) [(V2,Wv)] SO 3 0,Z5 (WX Sb (kI 1)) [(SO,Sb)] Rw 4 8,Z5 (Z0 Ys) [(st0,Ys)] SW 5 0,Z5 (Z0 Wv) [(V2,Wv)] SX 6 0,Z5 (WX TA (kI 1)) [(SX,TA)] RN 7 64,Z5 (YM UM RT 7) [(SW,UM),(RN,RT)] Qi 8 224,⟨YX UW 7,none,[(Qi,UW)],R0,.read,9,480⟩,Z5 (Z0 Ys) [(st0,Ys)] R1 10 0,Z5 (Z0 Wv) [(V2,Wv)] Qj 11 0,Z5 (YM Sc SH 7) [(R1,Sc),(Qj,SH)] Qk 12 3072,⟨YX Qe 7,none,[(Qk,Qe)],QS,.read,13,7168⟩,Z5 (YM Ty Sa 7) [(Ss,Ty),(Su,Sa)] QT 14 16355,⟨YY S7 S6 7,none,[(QT,S7),(R0,S6)],d0,.eff,15,32739⟩,Z5 (YM TW TX 7) [(SN,TW),(Rw,TX)] QZ 16 65535,⟨YY RH SJ 7,none,[(QZ,RH),(QS,SJ)],d0,.eff,17,131071⟩])) (ZD Wv Si<|Zc (WX U5 (kI 1)) SM<|ZD SG V2<|Zd)))
def Oi:D:=(Zj (Zj (ZD Wc XL<|ZD Xy Wo<|Zc (YE Xq XH XC Yn) WA<|Zd) (Z3 Wk Zd (We 0))) (Zj (Yf 1 (Zj (ZD Wc Vx<|ZD WJ V2<|Zd) (Yf 2 (Wj K8)))) (ZD Wc WZ<|Zc (Yk Wy (kI 1)) W0<|ZD Wu Vt<|Zd)))
def oi:CF:=⟨[],(Zj (ZD Y2 XJ<|Zc (Yk Xg (kI 1)) XE<|ZD Xc Vt<|Zd) (Yf 0 (Wj Oi)))⟩
def Za7:CF:=⟨[(Wc,none),(Wv,none)],(Zj (Zc (Z0 (kI 0)) Vt<|Zc (Z0 (kI 0)) V2<|Zd) (Zj (ZD Xy WZ<|ZD Y2 W0<|Zc (WX Wy Wu) Vx<|ZD WJ XJ<|Zd) (Zj (Zc (WK 3 [(nI .i64 0)]) XE<|Zd) (Zj (ZD Y2 Vn<|ZD Xg VJ<|Zc (M6 W5 (kI 4)) V1<|Zc (M5 W1 (kI 1)) Us<|Zc (Yk Wx WH) Uw<|ZD Vf XL<|Zd) (Zj (ZD Y2 UC<|ZD Xg UO<|Zc (M6 UU (kI 4)) U4<|Zc (M5 Uq (kI 2)) TB<|Zc (Yk Vu UK) To<|ZD Uh Wo<|Zd) (Zj (ZD Y2 U9<|ZD Xg Tp<|Zc (M6 UL (kI 4)) Tw<|Zc (M5 Ui (kI 3)) TC<|Zc (Yk Uy VL) TY<|ZD Un WA<|Zd) (Zj (Zj (ZD Xg TS<|Zc (YE UV (kI 8) SK Vd) Sg<|Zd) (Z3 T9 (Zj (Zj (ZD Xg Si<|Zc (YE U5 (kI 50) SK Vd) SM<|Zd) (Z3 SG (Zj (ZD Ys Ss<|ZD Xq Su<|ZD XK SN<|Zc (ZI 120 [Ty,Sa,Xc,TW]) SO<|ZD Sb XL<|Zd) (Zj (ZD Ys Rw<|ZD XH SW<|ZD XK SX<|Zc (ZI 120 [TX,UM,Xc,TA]) RN<|ZD RT Wo<|Zd) (ZD Ys Qi<|ZD Wk R0<|ZD XK R1<|Zc (ZI 120 [UW,S6,Xc,Sc]) Qj<|ZD SH WA<|Zd))) Zd)) (ZD Ys Qk<|ZD Xq QS<|ZD XH QT<|ZD Wk QZ<|ZD XK Oq<|Zc (ZI 121 [Qe,SJ,S7,RH,Xc,Pj]) O6<|ZD O3 Wo<|Zd)) Zd)) (Zj (Zc (ZM Xc) O7<|Zd) (Yf 0 (Zj (Zc (UQ Ol (kI 0) Sn false) OX<|ZD QB OW<|Zd) (Z3 O4 (Zj (ZD XH NQ<|ZD NC Vt<|Zc (Z0 (kI 1)) V2<|Zd) Yv) (Zj (Zc (UQ Ol (kI 12) Sn false) Lj<|ZD ND Li<|Zd) (Z3 Pk (Zj (ZD XH KZ<|ZD Kf Vt<|Zc (Z0 (kI 2)) V2<|Zd) Yv) (Zj (ZD XH O8<|ZD P4 Vt<|Zc (Z0 (kI 0)) V2<|Zd) Yv))))))))))))))⟩
def Hl:D:=(Zj (Zj (Xt [Z5 (Z0 Wv) [(V2,Wv)] VJ 0 0,Z5 (Z0 Xy) [(st2,Xy)] V1 1 0,Z5 (YE W5 W1 XC Yn) [(VJ,W5),(V1,W1)] Us 2 3,Z5 (Z0 WH) [(Us,WH)] Uw 3 7,⟨Z0 XK,(some (Vf,true)),[(Vk,XK)],UC,.free,4,15⟩,⟨Z0 Ys,(some (Vf,true)),[(st0,Ys)],UO,.free,5,15⟩,⟨Z0 Wv,(some (Vf,true)),[(V2,Wv)],U4,.free,6,15⟩,⟨YM UU Uq 7,(some (Vf,true)),[(UO,UU),(U4,Uq)],TB,.free,7,111⟩,⟨YX UK 7,(some (Vf,true)),[(TB,UK)],To,.read,8,239⟩,⟨Z0 Ys,(some (Vf,true)),[(st0,Ys)],U9,.free,9,15⟩,⟨Z0 Wv,(some (Vf,true)),[(V2,Wv)],Tp,.free,10,15⟩,⟨WX UL (kI 1),(some (Vf,true)),[(Tp,UL)],Tw,.free,11,1039⟩,⟨YM Uy Ui 7,(some (Vf,true)),[(U9,Uy),(Tw,Ui)],TC,.free,12,3599⟩,⟨YX VL 7,(some (Vf,true)),[(TC,VL)],TY,.read,13,7695⟩,⟨Q4 Vu Tryz.prog [Uh,Un],(some (Vf,true)),[(UC,Vu),(To,Uh),(TY,Un)],TS,.eff,14,16383⟩,⟨YE UV (kI 0) XC Yn,(some (Vf,true)),[(TS,UV)],Sg,.free,15,32767⟩,⟨QY T9,(some (Vf,true)),[(Sg,T9)],Si,.free,16,65535⟩,Z5 (YN Vf U5 (kB false)) [(Uw,Vf),(Si,U5)] SM 17 131071]) (Z3 SG Zd (We 2))) (Yf 3 (ZD Wv Ss<|Zc (Yk Ty (kI 1)) Su<|ZD Sa V2<|Zd)))
def dH:D:=(Zj (Zj (ZD Xc Ec<|Zc (YE FD (kI 1) SK Vd) GX<|Zd) (Z3 Me Zd (We 4))) (Zj (Yf 5 (Zj (Zj (Xt [Z5 (Z0 XK) [(Vk,XK)] JD 0 0,Z5 (Z0 Ys) [(st0,Ys)] I1 1 0,Z5 (Z0 Xc) [(XE,Xc)] I2 2 0,Z5 (YM IB IC 7) [(I1,IB),(I2,IC)] GY 3 6,⟨YX Kg 7,none,[(GY,Kg)],GZ,.read,4,14⟩,Z5 (Z0 Ys) [(st0,Ys)] G0 5 0,Z5 (Z0 Xc) [(XE,Xc)] I3 6 0,Z5 (WX ID (kI 1)) [(I3,ID)] I4 7 64,Z5 (YM HU IE 7) [(G0,HU),(I4,IE)] I5 8 224,⟨YX Kh 7,none,[(I5,Kh)],JE,.read,9,480⟩,⟨Q4 Qf Tryz.prog [HT,NE],none,[(JD,Qf),(GZ,HT),(JE,NE)],JF,.eff,10,1023⟩,Z5 (YE Jv (kI 0) XC Yn) [(JF,Jv)] JG 11 2047,Z5 (QY Qu) [(JG,Qu)] G1 12 4095]) (Z3 LP (We 4) Zd)) (Xt [Z5 (Z0 Ys) [(st0,Ys)] I6 0 0,Z5 (Z0 Xc) [(XE,Xc)] I7 1 0,Z5 (Z0 Ys) [(st0,Ys)] I8 2 0,Z5 (Z0 Xc) [(XE,Xc)] G2 3 0,Z5 (WX MY (kI 1)) [(G2,MY)] G3 4 8,Z5 (Z0 Ys) [(st0,Ys)] G4 5 0,Z5 (Z0 Xc) [(XE,Xc)] G5 6 0,Z5 (WX HX (kI 1)) [(G5,HX)] G6 7 64,Z5 (YM HW HY 7) [(G4,HW),(G6,HY)] Ed 8 224,⟨YX FE 7,none,[(Ed,FE)],BK,.read,9,480⟩,Z5 (Z0 Ys) [(st0,Ys)] BL 10 0,Z5 (Z0 Xc) [(XE,Xc)] BM 11 0,Z5 (YM CG CH 7) [(BL,CG),(BM,CH)] BN 12 3072,⟨YX CI 7,none,[(BN,CI)],BO,.read,13,7168⟩,Z5 (YM IF IG 7) [(I6,IF),(I7,IG)] Dc 14 16355,⟨YY E7 CD 7,none,[(Dc,E7),(BK,CD)],d0,.eff,15,32739⟩,Z5 (YM Ki HV 7) [(I8,Ki),(G3,HV)] LF 16 65535,⟨YY Lw CJ 7,none,[(LF,Lw),(BO,CJ)],d0,.eff,17,131071⟩]))) (ZD Xc IZ<|Zc (WX HS (kI 1)) I0<|ZD Pm XE<|Zd)))
def dI:D:=(Zj (Zj (ZD Xq J9<|ZD Xy GP<|Zc (YE JR HL XC Yn) Ia<|Zd) (Z3 OH Zd (We 6))) (Zj (Yf 7 (Zj (Zj (Xt [Z5 (Z0 XK) [(Vk,XK)] LG 0 0,Z5 (Z0 Ys) [(st0,Ys)] Ms 1 0,Z5 (Z0 Xq) [(XL,Xq)] Mt 2 0,Z5 (YM N2 Oa 7) [(Ms,N2),(Mt,Oa)] Mu 3 6,⟨YX N3 7,none,[(Mu,N3)],Mv,.read,4,14⟩,Z5 (Z0 Ys) [(st0,Ys)] Mw 5 0,Z5 (Z0 Xq) [(XL,Xq)] Mx 6 0,Z5 (WX N5 (kI 1)) [(Mx,N5)] My 7 64,Z5 (YM N4 Q2 7) [(Mw,N4),(My,Q2)] Mz 8 224,⟨YX N6 7,none,[(Mz,N6)],Nq,.read,9,480⟩,⟨Q4 Lx Tryz.prog [Ob,PL],none,[(LG,Lx),(Mv,Ob),(Nq,PL)],Nr,.eff,10,1023⟩,Z5 (YE Ng (kI 0) XC Yn) [(Nr,Ng)] Ns 11 2047,Z5 (QY Nh) [(Ns,Nh)] MA 12 4095]) (Z3 N7 (We 6) Zd)) (Xt [Z5 (Z0 Ys) [(st0,Ys)] MB 0 0,Z5 (Z0 Xq) [(XL,Xq)] MC 1 0,Z5 (Z0 Ys) [(st0,Ys)] MD 2 0,Z5 (Z0 Xq) [(XL,Xq)] ME 3 0,Z5 (WX Mb (kI 1)) [(ME,Mb)] LH 4 8,Z5 (Z0 Ys) [(st0,Ys)] MF 5 0,Z5 (Z0 Xq) [(XL,Xq)] MG 6 0,Z5 (WX Q3 (kI 1)) [(MG,Q3)] LI 7 64,Z5 (YM Mc Lz 7) [(MF,Mc),(LI,Lz)] KY 8 224,⟨YX Od 7,none,[(KY,Od)],Ib,.read,9,480⟩,Z5 (Z0 Ys) [(st0,Ys)] Ic 10 0,Z5 (Z0 Xq) [(XL,Xq)] GQ 11 0,Z5 (YM JS HN 7) [(Ic,JS),(GQ,HN)] GR 12 3072,⟨YX HP 7,none,[(GR,HP)],GS,.read,13,7168⟩,Z5 (YM N9 Oc 7) [(MB,N9),(MC,Oc)] GU 14 16355,⟨YY HQ HM 7,none,[(GU,HQ),(Ib,HM)],d0,.eff,15,32739⟩,Z5 (YM Ma Ly 7) [(MD,Ma),(LH,Ly)] GV 16 65535,⟨YY Ni LA 7,none,[(GV,Ni),(GS,LA)],d0,.eff,17,131071⟩]))) (ZD Xq KW<|Zc (Yk Kc (kI 1)) KX<|ZD Kd XL<|Zd)))
def Dj:D:=(Zj (Zj (ZD Xg WZ<|Zc (YE Wy (kI 5) XC Yn) W0<|Zd) (Z3 Wu Zd (We 0))) (Zj (Yf 1 (Zj (Yf 2 (Wj Hl)) (Zj (Zj (ZD Wv SN<|ZD Xy SO<|Zc (UQ TW Sb Sn false) Rw<|Zd) (Z3 TX (Zj (Zc (Z0 (kB true)) Vt<|Zd) Yv) Zd)) (Zj (Zj (ZD Xy SW<|ZD Y2 SX<|Zc (WX UM TA) RN<|Zc (YE RT (kI 50) XC Yn) Qi<|Zd) (Z3 UW (Zj (Zc (Z0 (kB false)) Vt<|Zd) Yv) Zd)) (Zj (Xt [Z5 (Z0 Ys) [(st0,Ys)] R0 0 0,Z5 (Z0 Wv) [(V2,Wv)] R1 1 0,Z5 (Z0 Ys) [(st0,Ys)] Qj 2 0,Z5 (Z0 Wv) [(V2,Wv)] Qk 3 0,Z5 (WX Qe (kI 1)) [(Qk,Qe)] QS 4 8,Z5 (Z0 Ys) [(st0,Ys)] QT 5 0,Z5 (Z0 Wv) [(V2,Wv)] QZ 6 0,Z5 (WX RH (kI 1)) [(QZ,RH)] Oq 7 64,Z5 (YM S7 Pj 7) [(QT,S7),(Oq,Pj)] O6 8 224,⟨YX O3 7,none,[(O6,O3)],O7,.read,9,480⟩,Z5 (Z0 Ys) [(st0,Ys)] O8 10 0,Z5 (Z0 Wv) [(V2,Wv)] OW 11 0,Z5 (YM P4 O4 7) [(O8,P4),(OW,O4)] OX 12 3072,⟨YX QB 7,none,[(OX,QB)],NQ,.read,13,7168⟩,Z5 (YM S6 Sc 7) [(R0,S6),(R1,Sc)] Li 14 16355,⟨YY Pk Ol 7,none,[(Li,Pk),(O7,Ol)],d0,.eff,15,32739⟩,Z5 (YM SH SJ 7) [(Qj,SH),(QS,SJ)] Lj 16 65535,⟨YY ND NC 7,none,[(Lj,ND),(NQ,NC)],d0,.eff,17,131071⟩]) (Zj (Zj (ZD Wv KZ<|ZD Y2 IW<|Zc (WX Kf O5) IX<|Zc (YE MW (kI 2) SK Vd) JC<|Zd) (Z3 MX (Zj (ZD Wv IY<|Zc (WX IA (kI 1)) GW<|ZD HR XE<|Zd) (Yf 4 (Wj dH))) Zd)) (Zj (ZD Xy KU<|ZD Wv KV<|Zc (WX Kb P9) JZ<|Zc (YE JO (kI 2) SK Vd) J6<|Zd) (Z3 JP (Zj (ZD Wv J7<|Zc (Yk Qp (kI 1)) J8<|ZD JQ XL<|Zd) (Yf 6 (Wj dI))) Zd)))))))) (ZD Xg Vx<|Zc (Yk WJ (kI 1)) Vn<|ZD Wx XJ<|Zd)))
def dG:CF:=⟨[(Wc,none)],(Zj (Zc (Z0 (kB false)) Vt<|Zd) (Zj (ZD Y2 Wo<|Zc (Yk XH (kI 1)) WA<|ZD Wk V2<|Zd) (Zj (Zj (Zc (Z0 (kI 0)) XJ<|Zd) (Yf 0 (Wj Dj))) (Zj (Zc (Z0 (kB false)) Vt<|Zd) Yv))))⟩
def Za8:CF:=⟨[(Xq,none)],(Zj (Zc (Z0 (kI 0)) XL<|Zd) (Zj (ZD Ys WA<|ZD Y2 WZ<|ZD Xy W0<|ZD Xf Vx<|ZD X5 Vn<|Zc (ZI 122 [Wk,Wy,Wu,WJ,Wx]) VJ<|ZD W5 Wo<|Zc (XR XH 0) V1<|Zc (XR XH 1) Us<|ZD W1 st1<|ZD WH st2<|Zd) (Zj (ZD Ys UC<|ZD Xy UO<|ZD XK U4<|ZD Xf TB<|ZD X5 To<|Zc (ZI 122 [Vu,UU,Uq,UK,Uh]) U9<|ZD Uy Uw<|Zc (XR Vf 0) Tp<|Zc (XR Vf 1) Tw<|ZD UL st2<|ZD Ui Vk<|Zd) (Zj (ZD Ys TY<|ZD Y2 TS<|ZD Xy Sg<|ZD Xf Si<|ZD X5 SM<|Zc (ZI 122 [Un,UV,T9,U5,SG]) Ss<|ZD Ty TC<|Zc (XR VL 0) Su<|Zc (XR VL 1) SN<|ZD Sa st1<|ZD TW st2<|Zd) (Zj (ZD Xy SO<|ZD Sb XL<|Zd) Yv)))))⟩
def Za9:CF:=⟨[(Xg,none),(Xc,none)],(Zj (Zc (Z0 (kI 0)) XJ<|Zc (Z0 (kI 0)) XE<|Zd) (Zj (Zj (Xt [Z5 (Z0 Xf) [(Xz,Xf)] XL 0 0,Z5 (Z0 Ys) [(st0,Ys)] Wo 1 0,Z5 (Z0 Xy) [(st2,Xy)] WA 2 0,Z5 (YM XH Wk 7) [(Wo,XH),(WA,Wk)] WZ 3 6,⟨YX Wy 7,none,[(WZ,Wy)],W0,.read,4,14⟩,Z5 (Z0 Ys) [(st0,Ys)] Vx 5 0,Z5 (Z0 Y2) [(st1,Y2)] Vn 6 0,Z5 (YM WJ Wx 7) [(Vx,WJ),(Vn,Wx)] VJ 7 96,⟨YX W5 7,none,[(VJ,W5)],V1,.read,8,224⟩,⟨Q4 Xq Tryz.prog [Wu,W1],none,[(XL,Xq),(W0,Wu),(V1,W1)],Us,.eff,9,511⟩,Z5 (YE WH (kI 0) XC Yn) [(Us,WH)] Uw 10 1023]) (Z3 Vf (Zj (ZD XK UC<|Zc (Mk Vu) UO<|Zc (ZM UU) U4<|Zc (Yk Uq (kI 1)) TB<|Zc (Mk Vu) To<|Zc (YY Uh UK 1) d0<|Zd) (Zj (ZD Xy U9<|ZD Y2 Tp<|ZD Uy XJ<|ZD UL XE<|Zd) Yv)) Zd)) (Zj (ZD Y2 Tw<|ZD Xy TC<|ZD Ui XJ<|ZD VL XE<|Zd) Yv)))⟩
end
def TP:Nat->Nat
 |41=>1
 |45=>2
 |47=>4
 |48=>5
 |58=>1
 |59=>3
 |60=>3
 |61=>2
 |62=>4
 |63=>2
 |64=>2
 |67=>3
 |68=>2
 |74=>1
 |80=>1
 |81=>3
 |86=>1
 |92=>1
 |93=>2
 |100=>1
 |101=>1
 |102=>1
 |_=>0
def rd(s:List UInt8)(i:Nat):Obj:=rH 0 [.str s,nI .i64 i]
def ZcD(o:Option Obj):Option (List UInt8×Nat):=match o with
 |some (.row r)=>(match r.get 0,r.get 1 with|.str s,.int .i64 (.ofNat i)=>some (s,i)|_,_=>none)
 |_=>none
def Zd2(e i:Nat):AV:=.iface 0 (.agg [nI .i64 e,nI .i64 i])
def blk(c:UInt8):Bool:=c.toNat==32||c.toNat==9||c.toNat==10||c.toNat==13
def Zgl(s:List UInt8)(i:Nat):Nat:=i+((s.drop i).takeWhile blk).length
def dg(c:UInt8):Bool:=decide (48<=c.toNat)&&decide (c.toNat<=57)
def Zgu(s:List UInt8)(i:Nat):Nat:=i+((s.drop i).takeWhile dg).length
inductive NO where
 |ok (z:Int) (q:Nat)
 |bad (at_ q:Nat)
def bi(s:List UInt8)(i:Nat):Nat:=if (s.getD i 0).toNat=45 then i+1 else i
def ZfN(s:List UInt8)(p:Nat):Nat:=if (s.getD p 0).toNat=48 then p+1 else Zgu s p
def Zcg(s:List UInt8)(i:Nat):NO:=
 let p:=bi s i
 if dg (s.getD p 0)=false then .bad p p
 else
  let q:=ZfN s p
  let u:=Zg0 ((s.take q).drop p)
  if p=i then(if u<9223372036854775808 then .ok u q else .bad i q) else(if u<=9223372036854775808 then .ok (-(u:Int)) q else .bad i q)
def Zc2(z:Int):AV:=.agg [nI .i64 3,.bool false,.int .i64 z,.str [],.nils,.nils]
def RM:Lib:=λf args H=>match f,args with
 |100001,[.ptr b 0]=>(ZcD (H.t.get b)).map λx=>.ret (.tup []) (H.put b (rd x.1 (Zgl x.1 x.2)))
 |100002,[.ptr b 0]=>(ZcD (H.t.get b)).map λx=>.pan (Zd2 5 x.2) H
 |100003,[.ptr b 0]=>(ZcD (H.t.get b)).map λx=>match Zcg x.1 x.2 with
  |.ok z q=>.ret (Zc2 z) (H.put b (rd x.1 q))
  |.bad p q=>.pan (Zd2 5 p) (H.put b (rd x.1 q))
 |_,_=>none
abbrev LK(Zp:Lib)(fs:T CF)(fuel k:Nat):Lib:=Gf Zp fs fuel TP RM k
def pz:List UInt64:=[1,10,100,1000,10000,100000,1000000,10000000,100000000,1000000000,10000000000,100000000000,1000000000000,10000000000000,100000000000000,1000000000000000,10000000000000000,100000000000000000,1000000000000000000,10000000000000000000]
def PC(H:Heap):Prop:=100<=H.nx∧(∃r,H.t.get 2=some (.row r)∧Cells r (pz.map aG))
theorem PC.keep{H H':Heap}(g:PC H){S:List Nat}(k:Zq H H' S)(hS: ∀x∈S,100<=x):PC H':=by
 obtain⟨h,r,h1,h2⟩:=g
 exact⟨Zn h k.nx,r,by rw[k.get _ (by omega) (λh=>by have:=hS _ h;omega)];exact h1,h2⟩
theorem PC.put{H:Heap}(g:PC H){b:Nat}(hb:100<=b)(o:Obj):PC (H.put b o):=g.keep (S:=[b]) (Zq.put λ_=>by simp) (by simp;exact hb)
theorem PC.new{H:Heap}(g:PC H)(o:Obj):PC (H.new o):=g.keep (S:=[]) (Zq.new H o _) (by simp)
structure Env(Zp:Lib)(fs:T CF)(fuel:Nat):Prop where
 big:1000000<=fuel
 f3:fs.get 3=some c3
 n3: ∀l H,Zp 3 l H=none
 f4:fs.get 4=some c4
 n4: ∀l H,Zp 4 l H=none
 f5:fs.get 5=some c5
 n5: ∀l H,Zp 5 l H=none
 f6:fs.get 6=some c6
 n6: ∀l H,Zp 6 l H=none
 f7:fs.get 7=some c7
 n7: ∀l H,Zp 7 l H=none
 f8:fs.get 8=some c8
 n8: ∀l H,Zp 8 l H=none
 f9:fs.get 9=some c9
 n9: ∀l H,Zp 9 l H=none
 f10:fs.get 10=some c10
 n10: ∀l H,Zp 10 l H=none
 f11:fs.get 11=some c11
 n11: ∀l H,Zp 11 l H=none
 f12:fs.get 12=some c12
 n12: ∀l H,Zp 12 l H=none
 f13:fs.get 13=some c13
 n13: ∀l H,Zp 13 l H=none
 f14:fs.get 14=some c14
 n14: ∀l H,Zp 14 l H=none
 f15:fs.get 15=some c15
 n15: ∀l H,Zp 15 l H=none
 f16:fs.get 16=some c16
 n16: ∀l H,Zp 16 l H=none
 f18:fs.get 18=some c18
 n18: ∀l H,Zp 18 l H=none
 f19:fs.get 19=some c19
 n19: ∀l H,Zp 19 l H=none
 f20:fs.get 20=some c20
 n20: ∀l H,Zp 20 l H=none
 f21:fs.get 21=some c21
 n21: ∀l H,Zp 21 l H=none
 f22:fs.get 22=some c22
 n22: ∀l H,Zp 22 l H=none
 f23:fs.get 23=some c23
 n23: ∀l H,Zp 23 l H=none
 f24:fs.get 24=some c24
 n24: ∀l H,Zp 24 l H=none
 f25:fs.get 25=some c25
 n25: ∀l H,Zp 25 l H=none
 f26:fs.get 26=some c26
 n26: ∀l H,Zp 26 l H=none
 f27:fs.get 27=some c27
 n27: ∀l H,Zp 27 l H=none
 f28:fs.get 28=some c28
 n28: ∀l H,Zp 28 l H=none
 f29:fs.get 29=some c29
 n29: ∀l H,Zp 29 l H=none
 f30:fs.get 30=some c30
 n30: ∀l H,Zp 30 l H=none
 f31:fs.get 31=some c31
 n31: ∀l H,Zp 31 l H=none
 f32:fs.get 32=some c32
 n32: ∀l H,Zp 32 l H=none
 f33:fs.get 33=some c33
 n33: ∀l H,Zp 33 l H=none
 f34:fs.get 34=some c34
 n34: ∀l H,Zp 34 l H=none
 f35:fs.get 35=some c35
 n35: ∀l H,Zp 35 l H=none
 f36:fs.get 36=some c36
 n36: ∀l H,Zp 36 l H=none
 f37:fs.get 37=some c37
 n37: ∀l H,Zp 37 l H=none
 f38:fs.get 38=some c38
 n38: ∀l H,Zp 38 l H=none
 f39:fs.get 39=some c39
 n39: ∀l H,Zp 39 l H=none
 f40:fs.get 40=some c40
 n40: ∀l H,Zp 40 l H=none
 f41:fs.get 41=some c41
 n41: ∀l H,Zp 41 l H=none
 f42:fs.get 42=some c42
 n42: ∀l H,Zp 42 l H=none
 f43:fs.get 43=some c43
 n43: ∀l H,Zp 43 l H=none
 f44:fs.get 44=some c44
 n44: ∀l H,Zp 44 l H=none
 f45:fs.get 45=some c45
 n45: ∀l H,Zp 45 l H=none
 f46:fs.get 46=some c46
 n46: ∀l H,Zp 46 l H=none
 f47:fs.get 47=some c47
 n47: ∀l H,Zp 47 l H=none
 f48:fs.get 48=some aV
 n48: ∀l H,Zp 48 l H=none
 f49:fs.get 49=some c49
 n49: ∀l H,Zp 49 l H=none
 f50:fs.get 50=some c50
 n50: ∀l H,Zp 50 l H=none
 f51:fs.get 51=some c51
 n51: ∀l H,Zp 51 l H=none
 f52:fs.get 52=some c52
 n52: ∀l H,Zp 52 l H=none
 f53:fs.get 53=some c53
 n53: ∀l H,Zp 53 l H=none
 f54:fs.get 54=some c54
 n54: ∀l H,Zp 54 l H=none
 f55:fs.get 55=some c55
 n55: ∀l H,Zp 55 l H=none
 f56:fs.get 56=some aW
 n56: ∀l H,Zp 56 l H=none
 f57:fs.get 57=some c57
 n57: ∀l H,Zp 57 l H=none
 f58:fs.get 58=some c58
 n58: ∀l H,Zp 58 l H=none
 f59:fs.get 59=some c59
 n59: ∀l H,Zp 59 l H=none
 f60:fs.get 60=some c60
 n60: ∀l H,Zp 60 l H=none
 f61:fs.get 61=some c61
 n61: ∀l H,Zp 61 l H=none
 f62:fs.get 62=some c62
 n62: ∀l H,Zp 62 l H=none
 f63:fs.get 63=some c63
 n63: ∀l H,Zp 63 l H=none
 f64:fs.get 64=some c64
 n64: ∀l H,Zp 64 l H=none
 f65:fs.get 65=some c65
 n65: ∀l H,Zp 65 l H=none
 f66:fs.get 66=some c66
 n66: ∀l H,Zp 66 l H=none
 f67:fs.get 67=some c67
 n67: ∀l H,Zp 67 l H=none
 f68:fs.get 68=some c68
 n68: ∀l H,Zp 68 l H=none
 f69:fs.get 69=some c69
 n69: ∀l H,Zp 69 l H=none
 f70:fs.get 70=some c70
 n70: ∀l H,Zp 70 l H=none
 f71:fs.get 71=some c71
 n71: ∀l H,Zp 71 l H=none
 f72:fs.get 72=some c72
 n72: ∀l H,Zp 72 l H=none
 f73:fs.get 73=some c73
 n73: ∀l H,Zp 73 l H=none
 f74:fs.get 74=some c74
 n74: ∀l H,Zp 74 l H=none
 f75:fs.get 75=some c75
 n75: ∀l H,Zp 75 l H=none
 f76:fs.get 76=some c76
 n76: ∀l H,Zp 76 l H=none
 f77:fs.get 77=some c77
 n77: ∀l H,Zp 77 l H=none
 f78:fs.get 78=some c78
 n78: ∀l H,Zp 78 l H=none
 f79:fs.get 79=some c79
 n79: ∀l H,Zp 79 l H=none
 f80:fs.get 80=some c80
 n80: ∀l H,Zp 80 l H=none
 f81:fs.get 81=some c81
 n81: ∀l H,Zp 81 l H=none
 f82:fs.get 82=some c82
 n82: ∀l H,Zp 82 l H=none
 f83:fs.get 83=some c83
 n83: ∀l H,Zp 83 l H=none
 f84:fs.get 84=some c84
 n84: ∀l H,Zp 84 l H=none
 f85:fs.get 85=some c85
 n85: ∀l H,Zp 85 l H=none
 f86:fs.get 86=some c86
 n86: ∀l H,Zp 86 l H=none
 f87:fs.get 87=some c87
 n87: ∀l H,Zp 87 l H=none
 f89:fs.get 89=some kz
 n89: ∀l H,Zp 89 l H=none
 f90:fs.get 90=some c90
 n90: ∀l H,Zp 90 l H=none
 f91:fs.get 91=some c91
 n91: ∀l H,Zp 91 l H=none
 f92:fs.get 92=some c92
 n92: ∀l H,Zp 92 l H=none
 f93:fs.get 93=some c93
 n93: ∀l H,Zp 93 l H=none
 f94:fs.get 94=some kD
 n94: ∀l H,Zp 94 l H=none
 f96:fs.get 96=some c96
 n96: ∀l H,Zp 96 l H=none
 f97:fs.get 97=some c97
 n97: ∀l H,Zp 97 l H=none
 f98:fs.get 98=some aX
 n98: ∀l H,Zp 98 l H=none
 f99:fs.get 99=some c99
 n99: ∀l H,Zp 99 l H=none
 f100:fs.get 100=some Za6
 n100: ∀l H,Zp 100 l H=none
 f101:fs.get 101=some B7
 n101: ∀l H,Zp 101 l H=none
 f102:fs.get 102=some dF
 n102: ∀l H,Zp 102 l H=none
 f106:fs.get 106=some oi
 n106: ∀l H,Zp 106 l H=none
 f109:fs.get 109=some Za7
 n109: ∀l H,Zp 109 l H=none
 f111:fs.get 111=some dG
 n111: ∀l H,Zp 111 l H=none
 f121:fs.get 121=some Za8
 n121: ∀l H,Zp 121 l H=none
 f122:fs.get 122=some Za9
 n122: ∀l H,Zp 122 l H=none
 nesc: ∀(x:AV) (H:Heap),Zp 88 [x] H=some (.ret x H)
theorem So{sz:Nat}: ∀{ls:List (List AV)},(∀l∈ls,l.length=sz)->ls.flatten.length=ls.length*sz
 |[],_=>by simp
 |l::ls,h=>by
  rw[W8,Zf,So (λx hx=>h x (ZK _ hx)),h l (ZG ..),Zh,Xu]
  omega
theorem flat_at{sz:Nat}: ∀{ls:List (List AV)} {i:Nat},(∀l∈ls,l.length=sz)->i<ls.length->(ls.flatten.drop (i*sz)).take sz=ls.getD i []
 |l::ls,0,h,_=>by
  rw[W3,Z6,W8,WV (by rw[h l (ZG ..)];exact Zl _),ZB (by rw[h l (ZG ..)];exact Zl _)]
  rfl
 |l::ls,i+1,h,hi=>by
  have hl:=h l (ZG ..)
  have e:(i+1)*sz=l.length+i*sz:=by rw[hl,Xu];omega
  rw[W8,e,<-SZ,List.drop_left]
  have:=flat_at (i:=i) (λx hx=>h x (ZK _ hx)) (by simpa using hi)
  rw[this];rfl
structure LM(H:Heap)(b e sz:Nat)(ls:List (List AV))(r:Row):Prop where
 at_:H.t.get b=some (.row r)
 elem:r.elem=e
 szr:r.sz=sz
 own:r.own=true
 fz:r.fz=0
 sm:r.sm=false
 exact_:r.exact=false
 cells:Cells r ls.flatten
 each: ∀l∈ls,l.length=sz
 ro:H.ro<=b
 low:b<H.nx
theorem LM.size{H:Heap}{b e sz:Nat}{ls:List (List AV)}{r:Row}(h:LM H b e sz ls r):r.size=ls.length*sz:=by rw[h.cells.size,So h.each]
theorem LM.moved{H H':Heap}{b e sz:Nat}{ls:List (List AV)}{r:Row}(h:LM H b e sz ls r)(g:H'.t.get b=H.t.get b)(hro:H'.ro=H.ro)(hnx:H.nx<=H'.nx):LM H' b e sz ls r:=
 ⟨g.trans h.at_,h.elem,h.szr,h.own,h.fz,h.sm,h.exact_,h.cells,h.each,by rw[hro];exact h.ro,ZO h.low hnx⟩
theorem LM.load{H H':Heap}{b e sz:Nat}{ls:List (List AV)}{r:Row}(h:LM H b e sz ls r)(ht:H'.t=H.t){i:Nat}(hi:i<ls.length):zj sz (.ptr b (i*sz)) H'=.val (.agg (ls.getD i [])) H':=by
 have hf:=So h.each
 have hm:(i+1)*sz<=ls.length*sz:=Y5 _ hi
 rw[Xu,VM] at hm
 rw[nA (r:=r) (by rw[ht];exact h.at_) h.cells (by omega),flat_at h.each hi]
theorem LM.load1{H H':Heap}{b e sz:Nat}{ls:List (List AV)}{r:Row}(h:LM H b e sz ls r)(ht:H'.t=H.t){i j:Nat}(hi:i<ls.length)(hj:j<sz):OM (.ptr b (i*sz+j)) H'=.val ((ls.getD i []).getD j .unk) H':=by
 have hf:=So h.each
 have hm:(i+1)*sz<=ls.length*sz:=Y5 _ hi
 rw[Xu,VM] at hm
 rw[C2 (r:=r) (by rw[ht];exact h.at_) h.cells (by omega),<-flat_at h.each hi]
 congr 1
 rw[Za,Za,Xo hj,Xd]
theorem Ua{n i sz:Nat}(h:i<n)(b o:Nat)(c:Option Nat)(k:IntKind)(H:Heap):EJ sz (.slice b o n c) (nI k i) H=.val (.ptr b (o+i*sz)) H:=by
 show ZX (Nat.ble (Nat.succ i) n) (OR.val (.ptr b (Nat.add o (Nat.mul i sz))) H)=_
 rw[Zm (show Nat.succ i<=n from h)];rfl
def VT(H:Heap)(v:AV)(e sz:Nat)(ls:List (List AV))(lo:Nat):Prop:=(ls=[]∧v=.nils)∨(ls≠[]∧ ∃b r,v=.slice b 0 ls.length none∧LM H b e sz ls r∧lo<=b)
theorem Jl{H:Heap}{v:AV}{e sz bytes:Nat}{ls:List (List AV)}{lo:Nat}(h:VT H v e sz ls lo)(hsz:1<=sz)(hby:1<=bytes)(hl:(ls.length+1)*bytes<=140737488355328)(hro:H.ro<=H.nx)(hlo:lo<=H.nx){x:List AV}(hx:x.length=sz):
  ∃v' H',Vb e sz bytes v (.slice H.nx 0 1 none) (H.newRow e sz x true)=.val v' H'∧VT H' v' e sz (ls++[x]) lo∧Below lo H H':=by
 generalize hH1:H.newRow e sz x true=H1
 have U2:H1.nx=H.nx+1:=by rw[<-hH1];rfl
 have k1:Zq H H1 []:=by rw[<-hH1];exact Zq.new H _ []
 have b1:Below lo H H1:=by rw[<-hH1];exact Below.new lo H _
 have gx:H1.t.get H.nx=some (.row ⟨e,sz,YF x,T.ofList x,.unk,0,false,true,true⟩):=by rw[<-hH1,Mj,Pz,if_pos rfl]
 have cx:=Cells.new e sz x 0 false true true
 have src: ∀k:Nat->List AV->OR,(y3 (.slice H.nx 0 1 none) λn=>Vq H1 sz (.slice H.nx 0 1 none) n λnew=>k n new)=k 1 x:=by
  intro k
  show(Vq H1 sz (.slice H.nx 0 1 none) 1 λnew=>k 1 new)=_
  generalize(⟨e,sz,YF x,T.ofList x,.unk,0,false,true,true⟩:Row)=r0 at gx cx
  unfold Vq Xp
  simp only[gx]
  show ZX (Nat.ble (0+1*sz) r0.size) (k 1 (WO r0 0 (1*sz)))=_
  rw[VM,cx.size,hx,Zm (show 0+sz<=sz by omega)]
  have:=cx.load (o:=0) (n:=sz) (by omega)
  rw[this,Z6,ZB (by omega)]
  rfl
 have ap: ∀a,Vb e sz bytes a (.slice H.nx 0 1 none) H1=NW a e sz bytes H1 1 x:=by
  intro a
  show ZX (Nat.ble 1 sz) (ZX (Nat.ble 1 bytes) _)=_
  rw[Zm hsz,Zm hby]
  exact src λn new=>NW a e sz bytes H1 n new
 rw[ap]
 rcases h with⟨rfl,rfl⟩|⟨hne,b,r,rfl,g,hb⟩
 ·refine⟨.slice H1.nx 0 1 none,H1.newRow e sz x false,?_,.inr ⟨by simp,H1.nx,_,rfl,⟨by rw[Mj,Pz,if_pos rfl],rfl,rfl,rfl,rfl,rfl,rfl,by simpa using Cells.new e sz x 0 false true false,λl hm=>by simp at hm;rw[hm];exact hx,by show H1.ro<=H1.nx;rw[k1.ro];omega,Yo _⟩,by omega⟩,b1.trans (Below.new lo H1 _)⟩
  show ZX (Nat.ble (1*bytes) 140737488355328) (OR.val (.slice H1.nx 0 1 none) (H1.newRow e sz x false))=_
  rw[Zm (by simpa using hl)];rfl
 ·have g1:LM H1 b e sz ls r:=g.moved (k1.get b g.low (by simp)) k1.ro (by omega)
  have hs:=g1.size
  have hcap:UT r 0 none=ls.length:=by
   show cond (Nat.beq r.sz 1) (r.size - 0) ((r.size - 0)/r.sz)=_
   rw[g1.szr,hs,T7]
   by_cases h1:sz=1
   ·subst h1;show ls.length*1=_;omega
   ·rw[Yu,Zb h1]
    exact SQ _ (by omega)
  have RI:H1.may r b=true:=by unfold Heap.may;rw[g1.own,Zm g1.ro];rfl
  have hlen:(ls.length+1)*sz=ls.length*sz+sz:=by rw[Xu];omega
  refine⟨.slice H1.nx 0 (ls++[x]).length none,⟨Nat.succ H1.nx,(H1.t.del b).set H1.nx (.row ⟨r.elem,sz,(ls.length+1)*sz,Wg r.cells (ls.length*sz) x,r.dflt,r.fz,r.sm,true,false⟩),H1.ro⟩,?_,.inr ⟨by simp,H1.nx,⟨r.elem,sz,(ls.length+1)*sz,Wg r.cells (ls.length*sz) x,r.dflt,r.fz,r.sm,true,false⟩,rfl,⟨by rw[T.get_set,if_pos rfl],g1.elem,rfl,rfl,g1.fz,g1.sm,rfl,?_,?_,Zn g1.ro (Nb g1.low),Yo _⟩,by omega⟩,b1.trans ⟨XV _,rfl,λc hc hn=>?_⟩⟩
  ·show Xp H1 b _=_
   unfold Xp
   simp only[g1.at_]
   have h1:Ha r sz none=true:=by show Nat.beq r.sz sz=true;rw[g1.szr,Z9]
   have h2:Nat.ble (Nat.add ls.length 1) (UT r 0 none)=false:=by
    rw[hcap]
    cases h:Nat.ble (Nat.add ls.length 1) ls.length with
    |false=>rfl
    |true=>have:=Z1 h;have:ls.length+1<=ls.length:=this;omega
   rw[h1,h2]
   show ZX (Nat.ble ((ls.length+1)*bytes) 140737488355328) (ZX (Nat.ble (0+ls.length*sz) r.size) (cond r.exact _ (Ih H1 e b 0 ls.length 1 sz r x)))=_
   rw[Zm hl,hs,Zs,Zm (Zl _),g1.exact_]
   show ZX (Nat.beq r.elem e) (ZX (H1.may r b) (ZX (Nat.ble r.fz (ls.length*sz)) (ZX (Nat.beq (ls.length*sz) r.size) (ZX (Nat.beq 0 0) _))))=_
   rw[g1.elem,Z9,RI,g1.fz,Zm (Z8 _),hs,Z9]
   show OR.val (.slice H1.nx 0 (ls.length+1) none) _=_
   rw[Zf]
   rfl
  ·have hf:=So g1.each
   refine⟨by show(ls.length+1)*sz=_;rw[List.flatten_append,Zf,hf];simp[hx];omega,λi hi=>?_⟩
   rw[List.flatten_append,Zf,hf] at hi
   have e1:[x].flatten=x:=by simp
   rw[e1] at hi
   rw[Row.get_eq]
   show((Wg r.cells (ls.length*sz) x).get i).getD r.dflt=_
   rw[Sj,Za,List.flatten_append,e1]
   by_cases h1:ls.length*sz<=i
   ·rw[if_pos ⟨h1,by omega⟩,Zu (by omega),hf,Zg (show i - ls.length*sz<x.length by omega)];rfl
   ·rw[if_neg (by omega),Yc (by omega)]
    have:=g1.cells.get i (by omega)
    rw[Row.get_eq,Za] at this
    exact this
  ·intro l hm
   rcases Zy.1 hm with hm|hm
   ·exact g1.each l hm
   ·simp at hm;rw[hm];exact hx
  ·show((H1.t.del b).set H1.nx _).get c=_
   rw[T.get_set,if_neg (by omega),T.get_del,if_neg (by omega)]
theorem VT.below{H H':Heap}{v:AV}{e sz:Nat}{ls:List (List AV)}{lo:Nat}(h:VT H v e sz ls lo)(hp: ∀c,lo<=c->c<H.nx->H'.t.get c=H.t.get c)(hro:H'.ro=H.ro)(hnx:H.nx<=H'.nx):VT H' v e sz ls lo:=by
 rcases h with h|⟨hne,b,r,rfl,g,hb⟩
 ·exact .inl h
 ·exact .inr ⟨hne,b,r,rfl,g.moved (hp b hb g.low) hro hnx,hb⟩
theorem VT.len{H:Heap}{v:AV}{e sz:Nat}{ls:List (List AV)}{lo:Nat}(h:VT H v e sz ls lo)(G:Heap):RV v G=.val (nI .i64 ls.length) G:=by
 rcases h with⟨rfl,rfl⟩|⟨_,b,r,rfl,_⟩
 ·exact OL G
 ·exact XP ..
theorem VT.low{H:Heap}{v:AV}{e sz:Nat}{ls:List (List AV)}{lo:Nat}(h:VT H v e sz ls lo){n:Nat}(hn:H.nx<=n):Xm n v=true:=by
 rcases h with⟨_,rfl⟩|⟨_,b,r,rfl,g,_⟩
 ·rfl
 ·exact Xk (ZO g.low hn) _ _ _
theorem VT.same{H:Heap}{v:AV}{e sz:Nat}{ls:List (List AV)}{lo:Nat}(h:VT H v e sz ls lo)(n:Nat)(t:T Obj):Vv (.val v ⟨n,t,n⟩) v n=true:=by
 rcases h with⟨_,rfl⟩|⟨_,b,r,rfl,_⟩
 ·exact PP n t
 ·exact Sd _ _ _ _ _ _
theorem qy(a b:List UInt8):Nc (.str a) (.str b)=some (decide (a=b)):=by
 show some (LJ a b)=_
 rw[Sw]
 congr 1
 by_cases h:a=b<;>simp[h]
def Seen(es:List RE)(ks:List (List UInt8)):Prop:=es.map (λe=>(e.key,e.val))=ks.map λk=>(AV.str k,nI .i64 1)
theorem Seen.nil:Seen [] []:=rfl
theorem Seen.push{es:List RE}{ks:List (List UInt8)}(h:Seen es ks)(k:List UInt8)(c:Nat):Seen (es++[⟨.str k,nI .i64 1,c⟩]) (ks++[k]):=by
 unfold Seen at*
 rw[Xe,Xe,h];rfl
theorem zP{no:OR}{yes:AV->OR}(k:List UInt8): ∀{es:List RE} {ks:List (List UInt8)},Seen es ks->VW Nc (.str k) no yes es=if k∈ks then yes (nI .i64 1) else no
 |[],ks,h=>by
  have:ks=[]:=by
   unfold Seen at h;cases ks with
   |nil=>rfl
   |cons=>simp at h
  subst this
  simp[VW]
 |e::es,[],h=>by unfold Seen at h;simp at h
 |e::es,q::ks,h=>by
  unfold Seen at h
  rw[ZE,ZE,List.cons.injEq,Prod.mk.injEq] at h
  obtain⟨⟨h1,h2⟩,h3⟩:=h
  unfold VW
  rw[h1,h2,qy,zP k h3]
  show cond (decide (k=q)) _ _=_
  by_cases hk:k=q
  ·subst hk;simp
  ·simp[hk]
theorem vZ{done:List RE->Nat->OR}{k:List UInt8}{v:AV}{c:Nat}: ∀{es:List RE} {ks:List (List UInt8)} {pre:List RE},Seen es ks->k∉ks->OP Nc (.str k) v c (λl q=>done (pre++l) q) es=done (pre++(es++[⟨.str k,v,c⟩])) (c+1)
 |[],_,pre,_,_=>by simp[OP]
 |e::es,[],pre,h,_=>by unfold Seen at h;simp at h
 |e::es,q::ks,pre,h,hk=>by
  unfold Seen at h
  rw[ZE,ZE,List.cons.injEq,Prod.mk.injEq] at h
  obtain⟨⟨h1,h2⟩,h3⟩:=h
  unfold OP
  rw[h1,qy,Zb (λe=>hk (by rw[e];exact ZG ..))]
  show OP Nc (.str k) v c (λl' c=>done (pre++(e::l')) c) es=_
  have:=vZ (done:=done) (v:=v) (c:=c) (pre:=pre++[e]) h3 (λhm=>hk (ZK _ hm))
  simp only[Y6,UZ] at this
  rw[this];simp
def Zax(eq:AV->AV->Option Bool)(zv:AV)(ok:Bool)(m k:AV)(H:Heap):OR:=ES m (JM ok H zv false) λb=>KI H b λo=>uO o λes=>VW eq k (JM ok H zv false) (λv=>JM ok H v true) es
theorem M4(eq:AV->AV->Option Bool)(zv:AV)(ok:Bool)(m k:Ye)(tm:TM)(H:Heap):xh eq zv ok m k tm H=Zax eq zv ok (m tm) (k tm) H:=rfl
def Zg2(eq:AV->AV->Option Bool)(m k v:AV)(H:Heap):OR:=ES m .fail λb=>KI H b λo=>As o λes clock=>
 ZX (Nat.ble H.ro b) (OP eq k v clock (λes c=>.val Xl (H.put b (.map es c))) es)
theorem sM(eq:AV->AV->Option Bool)(m k v:Ye)(tm:TM)(H:Heap):Jk eq m k v tm H=Zg2 eq (m tm) (k tm) (v tm) H:=rfl
theorem nX(tm:TM)(H:Heap):sN tm H=.val (.map H.nx) (H.new (.map [] 0)):=rfl
def lkO(eq:AV->AV->Option Bool)(zv:AV)(ok:Bool)(x:Option Obj)(k:AV)(H:Heap):OR:=match x with|some o=>uO o λes=>VW eq k (JM ok H zv false) (λv=>JM ok H v true) es|none=>.fail
theorem Gg(eq:AV->AV->Option Bool)(zv:AV)(ok:Bool)(b:Nat)(k:AV)(H:Heap):Zax eq zv ok (.map b) k H=lkO eq zv ok (H.t.get b) k H:=rfl
def upO(eq:AV->AV->Option Bool)(x:Option Obj)(b:Nat)(k v:AV)(H:Heap):OR:=match x with|some o=>As o λes clock=>ZX (Nat.ble H.ro b) (OP eq k v clock (λes c=>.val Xl (H.put b (.map es c))) es)|none=>.fail
theorem aH(eq:AV->AV->Option Bool)(b:Nat)(k v:AV)(H:Heap):Zg2 eq (.map b) k v H=upO eq (H.t.get b) b k v H:=rfl
theorem ik{c:Nat}{es:List RE}{ks:List (List UInt8)}(hs:Seen es ks)(k:List UInt8)(H:Heap):lkO Nc (nI .i64 0) false (some (.map es c)) (.str k) H=.val (nI .i64 (if k∈ks then 1 else 0)) H:=by
 show VW Nc (.str k) _ _ es=_
 rw[zP k hs]
 split<;>rfl
theorem fP{c:Nat}{es:List RE}{ks:List (List UInt8)}(hs:Seen es ks){k:List UInt8}(hk:k∉ks){b:Nat}{H:Heap}(hro:H.ro<=b):upO Nc (some (.map es c)) b (.str k) (nI .i64 1) H=.val Xl (H.put b (.map (es++[⟨.str k,nI .i64 1,c⟩]) (c+1))):=by
 show ZX (Nat.ble H.ro b) (OP Nc (.str k) (nI .i64 1) c (λes c=>.val Xl (H.put b (.map es c))) es)=_
 rw[Zm hro]
 exact vZ (done:=λes c=>OR.val Xl (H.put b (.map es c))) (pre:=[]) hs hk
structure Sl(H:Heap)(sz:Nat)(v:AV)(ls:List (List AV)):Prop where
 each: ∀l∈ls,l.length=sz
 here:(ls=[]∧v=.nils)∨ ∃b o c,v=.slice b o ls.length c∧b<H.nx∧(ls≠[]-> ∃r,H.t.get b=some (.row r)∧o+ls.length*sz<=r.size∧ ∀i,i<ls.length*sz->r.get (o+i)=ls.flatten.getD i .unk)
theorem Sl.nil(H:Heap)(sz:Nat):Sl H sz .nils []:=⟨λ_ h=>(by cases h),.inl ⟨rfl,rfl⟩⟩
theorem Sl.keep{H H':Heap}{sz:Nat}{v:AV}{ls:List (List AV)}{S:List Nat}(h:Sl H sz v ls)(k:Zq H H' S)(hS: ∀b o n c,v=.slice b o n c->b∉S):Sl H' sz v ls:=by
 refine⟨h.each,?_⟩
 rcases h.here with h1|⟨b,o,c,rfl,hb,h2⟩
 ·exact .inl h1
 ·refine .inr ⟨b,o,c,rfl,ZO hb k.nx,λhne=>?_⟩
  obtain⟨r,h3,h4⟩:=h2 hne
  exact⟨r,by rw[k.get b hb (hS _ _ _ _ rfl)];exact h3,h4⟩
theorem Sl.keep0{H H':Heap}{sz:Nat}{v:AV}{ls:List (List AV)}(h:Sl H sz v ls)(k:Zq H H' []):Sl H' sz v ls:=h.keep k (by simp)
theorem Sl.len{H:Heap}{sz:Nat}{v:AV}{ls:List (List AV)}(h:Sl H sz v ls)(G:Heap):RV v G=.val (nI .i64 ls.length) G:=by
 rcases h.here with⟨rfl,rfl⟩|⟨b,o,c,rfl,_⟩
 ·rfl
 ·exact XP ..
theorem Sl.low{H:Heap}{sz:Nat}{v:AV}{ls:List (List AV)}(h:Sl H sz v ls){n:Nat}(hn:H.nx<=n):Xm n v=true:=by
 rcases h.here with⟨rfl,rfl⟩|⟨b,o,c,rfl,hb,_⟩
 ·rfl
 ·exact Xk (by omega) ..
theorem Sl.same{H:Heap}{sz:Nat}{v:AV}{ls:List (List AV)}(h:Sl H sz v ls)(n:Nat)(t:T Obj):Vv (.val v ⟨n,t,n⟩) v n=true:=by
 rcases h.here with⟨rfl,rfl⟩|⟨b,o,c,rfl,_⟩
 ·exact PP ..
 ·exact Sd ..
theorem Sl.cells{H:Heap}{sz:Nat}{v:AV}{ls:List (List AV)}(h:Sl H sz v ls):v.cells=[v]:=by
 rcases h.here with⟨rfl,rfl⟩|⟨b,o,c,rfl,_⟩<;>rfl
theorem Sl.at_{H:Heap}{sz:Nat}{v:AV}{ls:List (List AV)}(h:Sl H sz v ls){i:Nat}(hi:i<ls.length):
  ∃b o r,(∀(k:IntKind) (G:Heap),EJ sz v (nI k i) G=.val (.ptr b o) G)∧b<H.nx∧H.t.get b=some (.row r)∧(∀G:Heap,ldN sz (some (.row r)) o G=.val (.agg (ls.getD i [])) G)∧ ∀(j:Nat) (G:Heap),j<sz->ld1 (some (.row r)) (o+j) G=.val ((ls.getD i []).getD j .unk) G:=by
 have hne:ls≠[]:=by intro e;subst e;cases hi
 rcases h.here with⟨rfl,_⟩|⟨b,o,c,rfl,hb,h2⟩
 ·exact absurd rfl hne
 ·obtain⟨r,h3,h4,h5⟩:=h2 hne
  have hm:(i+1)*sz<=ls.length*sz:=Y5 _ hi
  rw[Xu,VM] at hm
  have hf:=So h.each
  have hg:=flat_at h.each hi
  refine⟨b,o+i*sz,r,λk G=>Ua hi b o c k G,hb,h3,λG=>?_,λj G hj=>?_⟩
  ·show ZX (Nat.ble (Nat.add (o+i*sz) sz) r.size) (OR.val (.agg (WO r (o+i*sz) sz)) G)=_
   rw[Zm (show Nat.add (o+i*sz) sz<=r.size by show o+i*sz+sz<=_;omega)]
   show OR.val (.agg (WO r (o+i*sz) sz)) G=_
   congr 2
   rw[<-hg]
   apply X4
   intro j
   by_cases hj:j<sz
   ·rw[SB _ _ _ _ hj,Xo hj,Xd]
    have:=h5 (i*sz+j) (by omega)
    rw[<-XF,Za,Zg (by omega)] at this
    rw[Zg (by omega),this];rfl
   ·rw[YB (by rw[Se];omega),YB (by rw[ZP];omega)]
  ·rw[M2 (by omega)]
   congr 1
   rw[<-hg,XF,h5 _ (by omega),Za,Za,Xo hj,Xd]
theorem WQ{n b:Nat}{l vs:List AV}{H:Heap}(hl:l.length=n)(hv:vs.length=n)(hn:1<=n)(hro:H.ro<=b)(e sz:Nat)(sm ex:Bool):rK n (some (rG e sz l 0 sm true ex)) b 0 (.agg vs) H=.val Xl (H.put b (rG e sz vs 0 sm true ex)):=by
 rw[rL hn (by exact hv) (by omega) hro (Z8 _)]
 congr 3
 rw[CX _ _ _ (by show 0+vs.length<=_;omega)]
 show []++(vs++l.drop (0+vs.length))=vs
 rw[Uu (by omega)];simp
theorem Fh{α:Type}[Inhabited α](l:List α)(f:α->Bool):(List.range l.length).any (λi=>f (l.getD i default))=l.any f:=by
 rw[Vh]
 simp only[List.any_eq_true,Ug]
 constructor
 ·rintro ⟨i,hi,h⟩
  rw[Za,Zg hi] at h
  exact⟨_,Y0 hi,h⟩
 ·rintro ⟨x,hx,h⟩
  obtain⟨i,hi,rfl⟩:=Qa hx
  exact⟨i,hi,by rw[Za,Zg hi];exact h⟩
def Mg(p:Nat->Bool)(n:Nat):AV:=match(List.range n).find? p with|some i=>nI .i64 i|none=>.int .i64 (.negSucc 0)
theorem AR{p:Nat->Bool}{n:Nat}(h: ∀j,j<n->p j=false):(List.range n).find? p=none:=by
 rw[List.find?_eq_none];intro x hx;rw[h x (Ug.1 hx)];simp
theorem AS{p:Nat->Bool}{n i:Nat}(hi:i<n)(h: ∀j,j<i->p j=false)(hp:p i=true):(List.range n).find? p=some i:=by
 rw[List.find?_range_eq_some]
 exact⟨hp,Ug.2 hi,λj hj=>by rw[h j hj];rfl⟩
theorem qV(p:Nat->Bool)(n:Nat)(H:Heap):Pb SK Vd (Mg p n) (nI .i64 0) H=.val (.bool ((List.range n).any p)) H:=by
 unfold Mg
 cases h:(List.range n).find? p with
 |none=>
  have:(List.range n).any p=false:=by
   rw[List.find?_eq_none] at h
   rw[V6];exact h
  rw[this]
  show ZX (P0 .i64 .i64) _=_
  rw[XI];rfl
 |some i=>
  have:(List.range n).any p=true:=List.any_eq_true.2 ⟨i,List.mem_of_find?_eq_some h,List.find?_some h⟩
  rw[this,Xb];rfl
end
end Go.AI
