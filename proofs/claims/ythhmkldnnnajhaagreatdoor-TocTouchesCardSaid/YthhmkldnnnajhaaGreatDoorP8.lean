/- Equations in bundles; plain words; the code of the functions that the law comes to. -/
import Derived.Test.YthhmkldnnnajhaaGreatDoorP7
import Derived.Test.YthhmkldnnnajhaaGreatDoorP5
import Derived.Test.YthhmkldnnnajhaaGreatDoorProg
set_option maxRecDepth 1000000
set_option maxHeartbeats 0
set_option linter.unusedVariables false
set_option linter.unusedSimpArgs false
namespace Go.AI
open Go
noncomputable section
section
open Go N8
theorem ZG(b:Bool)(yes no:VZ):T3 WK b yes no=no:=rfl
theorem wi{r r':VZ}(h:r=r')(k:TM->Heap->X->VZ):Oy r k=Oy r' k:=by rw[h]
theorem tP{r r':OR}(h:r=r')(n:TM->Heap->X->VZ)(d:Yu)(c:Ctx)(tm:TM)(H:Heap)(x:X):OV n d c tm H x r=OV n d c tm H x r':=by rw[h]
theorem tR{r r':CR}(h:r=r')(n:TM->Heap->X->VZ)(d:Yu)(tm:TM)(x:X):FN n d tm x r=FN n d tm x r':=by rw[h]
theorem tQ{v v':AV}(h:v=v')(k:Bool->VZ):Cu v k=Cu v' k:=by rw[h]
theorem zh{v v':AV}(h:v=v')(b:Bool)(yes no:VZ):T3 v b yes no=T3 v' b yes no:=by rw[h]
theorem we{v v':Bool}(h:v=v')(a b:TM->Heap->X->VZ)(tm:TM)(H:Heap)(x:X):J3 a b v tm H x=J3 a b v' tm H x:=by rw[h]
theorem zi{r r':VZ}(h:r=r')(i:Nat):PQ i r=PQ i r':=by rw[h]
theorem tS{r r':VZ}(h:r=r')(dc:Option AV->Nat->List AV->Heap->DR)(rs:List (YR×Option (Nat×Bool))):Ly dc rs r=Ly dc rs r':=by rw[h]
theorem wg{r r':OR}(h:r=r')(p:PI)(nx:PK)(rs:List RD)(tm:TM)(H:Heap)(x:X):LP p nx rs tm H x r=LP p nx rs tm H x r':=by rw[h]
theorem wh{r r':OR}(h:r=r')(p:PI)(nx:PK)(rs:List RD)(tm:TM)(H:Heap)(x:X):IE p nx rs tm H x r=IE p nx rs tm H x r':=by rw[h]
theorem tO{r r':OR}(h:r=r')(ds:List Yu)(p:PI)(nx:PK)(rs:List RD)(c:Ctx)(tm:TM)(x:X):J7 ds p nx rs c tm x r=J7 ds p nx rs c tm x r':=by rw[h]
theorem tT{r r':CR}(h:r=r')(ds:List Yu)(p:PI)(nx:PK)(rs:List RD)(tm:TM)(x:X):FU ds p nx rs tm x r=FU ds p nx rs tm x r':=by rw[h]
attribute [congr] wi tP tR tQ zh we zi tS wg wh tO tT
theorem WE:(∀tm:TM,Z0 tm=a0 (a0 (a0 tm))∧YQ tm=a1 (a0 (a0 tm))∧XC tm=a2 (a0 (a0 tm))∧Xm tm=a3 (a0 (a0 tm))∧Xh tm=a4 (a0 (a0 tm))∧Xy tm=a5 (a0 (a0 tm))∧X5 tm=a6 (a0 (a0 tm))∧Wl tm=a7 (a0 (a0 tm))∧XD tm=a0 (a1 (a0 tm))∧XP tm=a1 (a1 (a0 tm))∧YG tm=a2 (a1 (a0 tm))∧Yz tm=a3 (a1 (a0 tm))∧Yn tm=a4 (a1 (a0 tm))∧YD tm=a5 (a1 (a0 tm))∧Xi tm=a6 (a1 (a0 tm))∧Xr tm=a7 (a1 (a0 tm))∧Y7 tm=a0 (a2 (a0 tm))∧Xu tm=a1 (a2 (a0 tm))∧XT tm=a2 (a2 (a0 tm))∧XE tm=a3 (a2 (a0 tm))∧XZ tm=a4 (a2 (a0 tm))∧Xp tm=a5 (a2 (a0 tm))∧XA tm=a6 (a2 (a0 tm))∧Y8 tm=a7 (a2 (a0 tm))∧XI tm=a0 (a3 (a0 tm))∧Wa tm=a1 (a3 (a0 tm))∧Wf tm=a2 (a3 (a0 tm))∧Wm tm=a3 (a3 (a0 tm))∧Wv tm=a4 (a3 (a0 tm))∧Wg tm=a5 (a3 (a0 tm))∧Ws tm=a6 (a3 (a0 tm))∧Wd tm=a7 (a3 (a0 tm)))∧(∀(tm:TM) (v:AV),st0 tm v=u0 (u0 (u0 λ_=>v)) tm∧st1 tm v=u0 (u0 (u1 λ_=>v)) tm∧st2 tm v=u0 (u0 (u2 λ_=>v)) tm∧Wz tm v=u0 (u0 (u3 λ_=>v)) tm∧Xn tm v=u0 (u0 (u4 λ_=>v)) tm∧WN tm v=u0 (u0 (u5 λ_=>v)) tm∧WA tm v=u0 (u0 (u6 λ_=>v)) tm∧WT tm v=u0 (u0 (u7 λ_=>v)) tm∧Wx tm v=u0 (u1 (u0 λ_=>v)) tm∧WG tm v=u0 (u1 (u1 λ_=>v)) tm∧Y1 tm v=u0 (u1 (u2 λ_=>v)) tm∧YS tm v=u0 (u1 (u3 λ_=>v)) tm∧YL tm v=u0 (u1 (u4 λ_=>v)) tm∧YY tm v=u0 (u1 (u5 λ_=>v)) tm∧XF tm v=u0 (u1 (u6 λ_=>v)) tm∧XS tm v=u0 (u1 (u7 λ_=>v)) tm∧XJ tm v=u0 (u2 (u0 λ_=>v)) tm∧XU tm v=u0 (u2 (u1 λ_=>v)) tm∧XV tm v=u0 (u2 (u2 λ_=>v)) tm∧X4 tm v=u0 (u2 (u3 λ_=>v)) tm∧X7 tm v=u0 (u2 (u4 λ_=>v)) tm∧X9 tm v=u0 (u2 (u5 λ_=>v)) tm∧We tm v=u0 (u2 (u6 λ_=>v)) tm∧Wh tm v=u0 (u2 (u7 λ_=>v)) tm∧Wi tm v=u0 (u3 (u0 λ_=>v)) tm∧Wo tm v=u0 (u3 (u1 λ_=>v)) tm∧Wt tm v=u0 (u3 (u2 λ_=>v)) tm∧Ww tm v=u0 (u3 (u3 λ_=>v)) tm∧WL tm v=u0 (u3 (u4 λ_=>v)) tm∧WP tm v=u0 (u3 (u5 λ_=>v)) tm∧WV tm v=u0 (u3 (u6 λ_=>v)) tm∧WR tm v=u0 (u3 (u7 λ_=>v)) tm):=⟨λ_=>⟨rfl,rfl,rfl,rfl,rfl,rfl,rfl,rfl,rfl,rfl,rfl,rfl,rfl,rfl,rfl,rfl,rfl,rfl,rfl,rfl,rfl,rfl,rfl,rfl,rfl,rfl,rfl,rfl,rfl,rfl,rfl,rfl⟩,λ_ _=>⟨rfl,rfl,rfl,rfl,rfl,rfl,rfl,rfl,rfl,rfl,rfl,rfl,rfl,rfl,rfl,rfl,rfl,rfl,rfl,rfl,rfl,rfl,rfl,rfl,rfl,rfl,rfl,rfl,rfl,rfl,rfl,rfl⟩⟩
theorem UF:(∀tm:TM,WU tm=a0 (a4 (a0 tm))∧WI tm=a1 (a4 (a0 tm))∧X6 tm=a2 (a4 (a0 tm))∧Wb tm=a3 (a4 (a0 tm))∧W4 tm=a4 (a4 (a0 tm))∧W8 tm=a5 (a4 (a0 tm))∧Vg tm=a6 (a4 (a0 tm))∧W5 tm=a7 (a4 (a0 tm))∧WZ tm=a0 (a5 (a0 tm))∧Vz tm=a1 (a5 (a0 tm))∧Va tm=a2 (a5 (a0 tm))∧Vt tm=a3 (a5 (a0 tm))∧Vp tm=a4 (a5 (a0 tm))∧WX tm=a5 (a5 (a0 tm))∧Vm tm=a6 (a5 (a0 tm))∧Vu tm=a7 (a5 (a0 tm))∧Vq tm=a0 (a6 (a0 tm))∧Vv tm=a1 (a6 (a0 tm))∧VX tm=a2 (a6 (a0 tm))∧Vn tm=a3 (a6 (a0 tm))∧Vb tm=a4 (a6 (a0 tm))∧Wp tm=a5 (a6 (a0 tm))∧Ue tm=a6 (a6 (a0 tm))∧Uv tm=a7 (a6 (a0 tm))∧Uj tm=a0 (a7 (a0 tm))∧Ub tm=a1 (a7 (a0 tm))∧VD tm=a2 (a7 (a0 tm))∧Uy tm=a3 (a7 (a0 tm))∧UI tm=a4 (a7 (a0 tm))∧UZ tm=a5 (a7 (a0 tm))∧U4 tm=a6 (a7 (a0 tm))∧Tq tm=a7 (a7 (a0 tm)))∧(∀(tm:TM) (v:AV),W0 tm v=u0 (u4 (u0 λ_=>v)) tm∧W1 tm v=u0 (u4 (u1 λ_=>v)) tm∧W9 tm v=u0 (u4 (u2 λ_=>v)) tm∧Vh tm v=u0 (u4 (u3 λ_=>v)) tm∧Vi tm v=u0 (u4 (u4 λ_=>v)) tm∧Vk tm v=u0 (u4 (u5 λ_=>v)) tm∧Vr tm v=u0 (u4 (u6 λ_=>v)) tm∧Vw tm v=u0 (u4 (u7 λ_=>v)) tm∧VK tm v=u0 (u5 (u0 λ_=>v)) tm∧VL tm v=u0 (u5 (u1 λ_=>v)) tm∧VM tm v=u0 (u5 (u2 λ_=>v)) tm∧VF tm v=u0 (u5 (u3 λ_=>v)) tm∧VT tm v=u0 (u5 (u4 λ_=>v)) tm∧V2 tm v=u0 (u5 (u5 λ_=>v)) tm∧V3 tm v=u0 (u5 (u6 λ_=>v)) tm∧Uf tm v=u0 (u5 (u7 λ_=>v)) tm∧Uq tm v=u0 (u6 (u0 λ_=>v)) tm∧Ug tm v=u0 (u6 (u1 λ_=>v)) tm∧V8 tm v=u0 (u6 (u2 λ_=>v)) tm∧V4 tm v=u0 (u6 (u3 λ_=>v)) tm∧V9 tm v=u0 (u6 (u4 λ_=>v)) tm∧Us tm v=u0 (u6 (u5 λ_=>v)) tm∧Uw tm v=u0 (u6 (u6 λ_=>v)) tm∧Uz tm v=u0 (u6 (u7 λ_=>v)) tm∧UG tm v=u0 (u7 (u0 λ_=>v)) tm∧UC tm v=u0 (u7 (u1 λ_=>v)) tm∧UK tm v=u0 (u7 (u2 λ_=>v)) tm∧UL tm v=u0 (u7 (u3 λ_=>v)) tm∧U1 tm v=u0 (u7 (u4 λ_=>v)) tm∧U2 tm v=u0 (u7 (u5 λ_=>v)) tm∧Td tm v=u0 (u7 (u6 λ_=>v)) tm∧TB tm v=u0 (u7 (u7 λ_=>v)) tm):=⟨λ_=>⟨rfl,rfl,rfl,rfl,rfl,rfl,rfl,rfl,rfl,rfl,rfl,rfl,rfl,rfl,rfl,rfl,rfl,rfl,rfl,rfl,rfl,rfl,rfl,rfl,rfl,rfl,rfl,rfl,rfl,rfl,rfl,rfl⟩,λ_ _=>⟨rfl,rfl,rfl,rfl,rfl,rfl,rfl,rfl,rfl,rfl,rfl,rfl,rfl,rfl,rfl,rfl,rfl,rfl,rfl,rfl,rfl,rfl,rfl,rfl,rfl,rfl,rfl,rfl,rfl,rfl,rfl,rfl⟩⟩
theorem N6:(∀tm:TM,TR tm=a0 (a0 (a1 tm))∧Tx tm=a1 (a0 (a1 tm))∧Sk tm=a2 (a0 (a1 tm))∧Sb tm=a3 (a0 (a1 tm))∧Tj tm=a4 (a0 (a1 tm))∧Sm tm=a5 (a0 (a1 tm))∧SM tm=a6 (a0 (a1 tm))∧SY tm=a7 (a0 (a1 tm))∧TE tm=a0 (a1 (a1 tm))∧SD tm=a1 (a1 (a1 tm))∧SN tm=a2 (a1 (a1 tm))∧SS tm=a3 (a1 (a1 tm))∧Sn tm=a4 (a1 (a1 tm))∧SO tm=a5 (a1 (a1 tm))∧SE tm=a6 (a1 (a1 tm))∧S8 tm=a7 (a1 (a1 tm))∧SF tm=a0 (a2 (a1 tm))∧SG tm=a1 (a2 (a1 tm))∧Rn tm=a2 (a2 (a1 tm))∧UR tm=a3 (a2 (a1 tm))∧Sg tm=a4 (a2 (a1 tm))∧SZ tm=a5 (a2 (a1 tm))∧R3 tm=a6 (a2 (a1 tm))∧QB tm=a7 (a2 (a1 tm))∧Ro tm=a0 (a3 (a1 tm))∧Qp tm=a1 (a3 (a1 tm))∧Qq tm=a2 (a3 (a1 tm))∧RA tm=a3 (a3 (a1 tm))∧RR tm=a4 (a3 (a1 tm))∧QN tm=a5 (a3 (a1 tm))∧Pv tm=a6 (a3 (a1 tm))∧QO tm=a7 (a3 (a1 tm)))∧(∀(tm:TM) (v:AV),TU tm v=u1 (u0 (u0 λ_=>v)) tm∧T8 tm v=u1 (u0 (u1 λ_=>v)) tm∧Sp tm v=u1 (u0 (u2 λ_=>v)) tm∧S3 tm v=u1 (u0 (u3 λ_=>v)) tm∧Ra tm v=u1 (u0 (u4 λ_=>v)) tm∧Rq tm v=u1 (u0 (u5 λ_=>v)) tm∧Rb tm v=u1 (u0 (u6 λ_=>v)) tm∧S4 tm v=u1 (u0 (u7 λ_=>v)) tm∧SK tm v=u1 (u1 (u0 λ_=>v)) tm∧S5 tm v=u1 (u1 (u1 λ_=>v)) tm∧S6 tm v=u1 (u1 (u2 λ_=>v)) tm∧Rc tm v=u1 (u1 (u3 λ_=>v)) tm∧Rd tm v=u1 (u1 (u4 λ_=>v)) tm∧Rr tm v=u1 (u1 (u5 λ_=>v)) tm∧Rs tm v=u1 (u1 (u6 λ_=>v)) tm∧Re tm v=u1 (u1 (u7 λ_=>v)) tm∧Rf tm v=u1 (u2 (u0 λ_=>v)) tm∧Rt tm v=u1 (u2 (u1 λ_=>v)) tm∧RH tm v=u1 (u2 (u2 λ_=>v)) tm∧RI tm v=u1 (u2 (u3 λ_=>v)) tm∧Qg tm v=u1 (u2 (u4 λ_=>v)) tm∧Qh tm v=u1 (u2 (u5 λ_=>v)) tm∧QC tm v=u1 (u2 (u6 λ_=>v)) tm∧QD tm v=u1 (u2 (u7 λ_=>v)) tm∧Qu tm v=u1 (u3 (u0 λ_=>v)) tm∧Qv tm v=u1 (u3 (u1 λ_=>v)) tm∧QX tm v=u1 (u3 (u2 λ_=>v)) tm∧QY tm v=u1 (u3 (u3 λ_=>v)) tm∧QZ tm v=u1 (u3 (u4 λ_=>v)) tm∧Q0 tm v=u1 (u3 (u5 λ_=>v)) tm∧Px tm v=u1 (u3 (u6 λ_=>v)) tm∧Py tm v=u1 (u3 (u7 λ_=>v)) tm):=⟨λ_=>⟨rfl,rfl,rfl,rfl,rfl,rfl,rfl,rfl,rfl,rfl,rfl,rfl,rfl,rfl,rfl,rfl,rfl,rfl,rfl,rfl,rfl,rfl,rfl,rfl,rfl,rfl,rfl,rfl,rfl,rfl,rfl,rfl⟩,λ_ _=>⟨rfl,rfl,rfl,rfl,rfl,rfl,rfl,rfl,rfl,rfl,rfl,rfl,rfl,rfl,rfl,rfl,rfl,rfl,rfl,rfl,rfl,rfl,rfl,rfl,rfl,rfl,rfl,rfl,rfl,rfl,rfl,rfl⟩⟩
theorem DZ:(∀tm:TM,PN tm=a0 (a4 (a1 tm))∧O5 tm=a1 (a4 (a1 tm))∧O6 tm=a2 (a4 (a1 tm))∧OF tm=a3 (a4 (a1 tm))∧RL tm=a4 (a4 (a1 tm))∧QJ tm=a5 (a4 (a1 tm))∧SR tm=a6 (a4 (a1 tm))∧PH tm=a7 (a4 (a1 tm))∧PJ tm=a0 (a5 (a1 tm))∧Qx tm=a1 (a5 (a1 tm))∧SC tm=a2 (a5 (a1 tm))∧PL tm=a3 (a5 (a1 tm))∧UX tm=a4 (a5 (a1 tm))∧Rw tm=a5 (a5 (a1 tm))∧QK tm=a6 (a5 (a1 tm))∧QL tm=a7 (a5 (a1 tm))∧R0 tm=a0 (a6 (a1 tm))∧R1 tm=a1 (a6 (a1 tm))∧Rx tm=a2 (a6 (a1 tm))∧Ry tm=a3 (a6 (a1 tm))∧Rg tm=a4 (a6 (a1 tm))∧Pg tm=a5 (a6 (a1 tm))∧Ph tm=a6 (a6 (a1 tm))∧Od tm=a7 (a6 (a1 tm))∧Oe tm=a0 (a7 (a1 tm))∧Rz tm=a1 (a7 (a1 tm))∧OY tm=a2 (a7 (a1 tm))∧PM tm=a3 (a7 (a1 tm))∧OZ tm=a4 (a7 (a1 tm))∧QM tm=a5 (a7 (a1 tm))∧UM tm=a6 (a7 (a1 tm))∧Of tm=a7 (a7 (a1 tm)))∧(∀(tm:TM) (v:AV),Oa tm v=u1 (u4 (u0 λ_=>v)) tm∧Nl tm v=u1 (u4 (u1 λ_=>v)) tm∧Nm tm v=u1 (u4 (u2 λ_=>v)) tm∧Nn tm v=u1 (u4 (u3 λ_=>v)) tm∧RN tm v=u1 (u4 (u4 λ_=>v)) tm∧QT tm v=u1 (u4 (u5 λ_=>v)) tm∧PZ tm v=u1 (u4 (u6 λ_=>v)) tm∧P0 tm v=u1 (u4 (u7 λ_=>v)) tm∧Ol tm v=u1 (u5 (u0 λ_=>v)) tm∧Pp tm v=u1 (u5 (u1 λ_=>v)) tm∧QU tm v=u1 (u5 (u2 λ_=>v)) tm∧P1 tm v=u1 (u5 (u3 λ_=>v)) tm∧P2 tm v=u1 (u5 (u4 λ_=>v)) tm∧P3 tm v=u1 (u5 (u5 λ_=>v)) tm∧QV tm v=u1 (u5 (u6 λ_=>v)) tm∧QW tm v=u1 (u5 (u7 λ_=>v)) tm∧Qb tm v=u1 (u6 (u0 λ_=>v)) tm∧Qc tm v=u1 (u6 (u1 λ_=>v)) tm∧Qd tm v=u1 (u6 (u2 λ_=>v)) tm∧Qe tm v=u1 (u6 (u3 λ_=>v)) tm∧Qf tm v=u1 (u6 (u4 λ_=>v)) tm∧Pq tm v=u1 (u6 (u5 λ_=>v)) tm∧Pr tm v=u1 (u6 (u6 λ_=>v)) tm∧P4 tm v=u1 (u6 (u7 λ_=>v)) tm∧Nb tm v=u1 (u7 (u0 λ_=>v)) tm∧Nc tm v=u1 (u7 (u1 λ_=>v)) tm∧Nd tm v=u1 (u7 (u2 λ_=>v)) tm∧P5 tm v=u1 (u7 (u3 λ_=>v)) tm∧Nf tm v=u1 (u7 (u4 λ_=>v)) tm∧Om tm v=u1 (u7 (u5 λ_=>v)) tm∧On tm v=u1 (u7 (u6 λ_=>v)) tm∧Oo tm v=u1 (u7 (u7 λ_=>v)) tm):=⟨λ_=>⟨rfl,rfl,rfl,rfl,rfl,rfl,rfl,rfl,rfl,rfl,rfl,rfl,rfl,rfl,rfl,rfl,rfl,rfl,rfl,rfl,rfl,rfl,rfl,rfl,rfl,rfl,rfl,rfl,rfl,rfl,rfl,rfl⟩,λ_ _=>⟨rfl,rfl,rfl,rfl,rfl,rfl,rfl,rfl,rfl,rfl,rfl,rfl,rfl,rfl,rfl,rfl,rfl,rfl,rfl,rfl,rfl,rfl,rfl,rfl,rfl,rfl,rfl,rfl,rfl,rfl,rfl,rfl⟩⟩
theorem mz:(∀tm:TM,HV tm=a0 (a4 (a2 tm))∧HW tm=a1 (a4 (a2 tm))∧L3 tm=a2 (a4 (a2 tm))∧Lq tm=a3 (a4 (a2 tm))∧K8 tm=a4 (a4 (a2 tm))∧MH tm=a5 (a4 (a2 tm))∧Ij tm=a6 (a4 (a2 tm))∧HX tm=a7 (a4 (a2 tm))∧HY tm=a0 (a5 (a2 tm))∧Fl tm=a1 (a5 (a2 tm))∧Fm tm=a2 (a5 (a2 tm))∧Fo tm=a3 (a5 (a2 tm))∧Dc tm=a4 (a5 (a2 tm))∧Dd tm=a5 (a5 (a2 tm))∧De tm=a6 (a5 (a2 tm))∧HZ tm=a7 (a5 (a2 tm))∧H7 tm=a0 (a6 (a2 tm))∧y8 tm=a1 (a6 (a2 tm))∧mL tm=a2 (a6 (a2 tm))∧mM tm=a3 (a6 (a2 tm))∧mN tm=a4 (a6 (a2 tm))∧mO tm=a5 (a6 (a2 tm))∧mP tm=a6 (a6 (a2 tm))∧mQ tm=a7 (a6 (a2 tm))∧mR tm=a0 (a7 (a2 tm))∧mS tm=a1 (a7 (a2 tm))∧mT tm=a2 (a7 (a2 tm))∧dM tm=a3 (a7 (a2 tm))∧dN tm=a4 (a7 (a2 tm))∧dO tm=a5 (a7 (a2 tm))∧dP tm=a6 (a7 (a2 tm))∧dQ tm=a7 (a7 (a2 tm)))∧(∀(tm:TM) (v:AV),Gk tm v=u2 (u4 (u0 λ_=>v)) tm∧Gl tm v=u2 (u4 (u1 λ_=>v)) tm∧Gm tm v=u2 (u4 (u2 λ_=>v)) tm∧Jg tm v=u2 (u4 (u3 λ_=>v)) tm∧Jh tm v=u2 (u4 (u4 λ_=>v)) tm∧Ji tm v=u2 (u4 (u5 λ_=>v)) tm∧IT tm v=u2 (u4 (u6 λ_=>v)) tm∧Gn tm v=u2 (u4 (u7 λ_=>v)) tm∧Gp tm v=u2 (u5 (u0 λ_=>v)) tm∧F6 tm v=u2 (u5 (u1 λ_=>v)) tm∧F7 tm v=u2 (u5 (u2 λ_=>v)) tm∧F8 tm v=u2 (u5 (u3 λ_=>v)) tm∧DM tm v=u2 (u5 (u4 λ_=>v)) tm∧DN tm v=u2 (u5 (u5 λ_=>v)) tm∧DO tm v=u2 (u5 (u6 λ_=>v)) tm∧DP tm v=u2 (u5 (u7 λ_=>v)) tm∧DQ tm v=u2 (u6 (u0 λ_=>v)) tm∧xR tm v=u2 (u6 (u1 λ_=>v)) tm∧lH tm v=u2 (u6 (u2 λ_=>v)) tm∧lI tm v=u2 (u6 (u3 λ_=>v)) tm∧lJ tm v=u2 (u6 (u4 λ_=>v)) tm∧lK tm v=u2 (u6 (u5 λ_=>v)) tm∧lL tm v=u2 (u6 (u6 λ_=>v)) tm∧lM tm v=u2 (u6 (u7 λ_=>v)) tm∧lN tm v=u2 (u7 (u0 λ_=>v)) tm∧lO tm v=u2 (u7 (u1 λ_=>v)) tm∧lP tm v=u2 (u7 (u2 λ_=>v)) tm∧bT tm v=u2 (u7 (u3 λ_=>v)) tm∧bU tm v=u2 (u7 (u4 λ_=>v)) tm∧bV tm v=u2 (u7 (u5 λ_=>v)) tm∧bW tm v=u2 (u7 (u6 λ_=>v)) tm∧bX tm v=u2 (u7 (u7 λ_=>v)) tm):=⟨λ_=>⟨rfl,rfl,rfl,rfl,rfl,rfl,rfl,rfl,rfl,rfl,rfl,rfl,rfl,rfl,rfl,rfl,rfl,rfl,rfl,rfl,rfl,rfl,rfl,rfl,rfl,rfl,rfl,rfl,rfl,rfl,rfl,rfl⟩,λ_ _=>⟨rfl,rfl,rfl,rfl,rfl,rfl,rfl,rfl,rfl,rfl,rfl,rfl,rfl,rfl,rfl,rfl,rfl,rfl,rfl,rfl,rfl,rfl,rfl,rfl,rfl,rfl,rfl,rfl,rfl,rfl,rfl,rfl⟩⟩
end
def NE(x:Nat):List UInt8->Nat
 |[]=>0
 |c::s=>if NE x s=0 then(if c.toNat=x then 1 else 0) else NE x s+1
def S7(x:Nat):List UInt8->Nat
 |[]=>0
 |c::s=>if c.toNat=x then 1 else if S7 x s=0 then 0 else S7 x s+1
def Tu:List UInt8->List (List UInt8)
 |[]=>[[]]
 |c::s=>if c.toNat=47 then []::Tu s else match Tu s with|[]=>[[c]]|h::t=>(c::h)::t
theorem G5(x:Nat): ∀(l:List UInt8) (c:UInt8),NE x (l++[c])=if c.toNat=x then l.length+1 else NE x l
 |[],c=>by simp[NE]
 |a::l,c=>by
  rw[ZQ,NE,G5 x l c,NE]
  by_cases h:c.toNat=x
  ·simp[h]
  ·simp[h]
theorem Hz{s:List UInt8}{m:Nat}(h:m<s.length):s.take (m+1)=s.take m++[s.getD m 0]:=by
 rw[List.take_add_one,ZN,ZW h];rfl
theorem od{x:Nat}{s:List UInt8}{m:Nat}(h:m<s.length)(e:(s.getD m 0).toNat=x):NE x (s.take (m+1))=m+1:=by
 rw[Hz h,G5,if_pos e,Xo,VV (LD h)]
theorem tV{x:Nat}{s:List UInt8}{m:Nat}(h:m<s.length)(e:(s.getD m 0).toNat≠x):NE x (s.take (m+1))=NE x (s.take m):=by
 rw[Hz h,G5,if_neg e]
theorem Cf(x:Nat): ∀s:List UInt8,NE x s<=s.length
 |[]=>Z2 _
 |c::s=>by
  have:=Cf x s
  rw[NE,Zm]
  split
  ·split<;>omega
  ·omega
theorem xi(x:Nat): ∀(s:List UInt8) (n:Nat),PO x s n=if S7 x s=0 then Int.negSucc 0 else((n+S7 x s - 1:Nat):Int)
 |[],n=>rfl
 |c::s,n=>by
  show cond (Nat.beq c.toNat x) (Int.ofNat n) (PO x s (Nat.succ n))=_
  rw[xi x s,S7]
  by_cases h:c.toNat=x
  ·rw[if_pos h,h,show Nat.beq x x=true from Xt x];simp
  ·have:Nat.beq c.toNat x=false:=by
    cases e:Nat.beq c.toNat x with
    |false=>rfl
    |true=>exact absurd (Yt e) h
   rw[this,if_neg h,cond_false]
   by_cases h0:S7 x s=0
   ·rw[if_pos h0,if_pos h0,if_pos rfl]
   ·rw[if_neg h0,if_neg h0,if_neg (by omega)]
    congr 1
    omega
theorem NS{x:Nat}: ∀{s:List UInt8},S7 x s=0↔ ∀c∈s,c.toNat≠x
 |[]=>by simp[S7]
 |c::s=>by
  rw[S7]
  have ih:=NS (x:=x) (s:=s)
  by_cases h:c.toNat=x
  ·simp[h]
  ·rw[if_neg h]
   by_cases h0:S7 x s=0
   ·simp only[h0,if_true,true_iff]
    intro b hb
    rcases Yv.1 hb with rfl|hb
    ·exact h
    ·exact ih.1 h0 b hb
   ·rw[if_neg h0]
    refine⟨λe=>by omega,λe=>absurd (ih.2 λb hb=>e b (Yd _ hb)) h0⟩
theorem y7{x:Nat}: ∀{s:List UInt8} {j:Nat},S7 x s=j+1->j<s.length∧(s.getD j 0).toNat=x
 |[],j,h=>by simp[S7] at h
 |c::s,j,h=>by
  rw[S7] at h
  by_cases hc:c.toNat=x
  ·rw[if_pos hc] at h
   have:j=0:=by omega
   subst this
   exact⟨by simp,hc⟩
  ·rw[if_neg hc] at h
   split at h
   ·omega
   ·rename_i h0
    obtain⟨i,rfl⟩: ∃i,j=i+1:=⟨j - 1,by omega⟩
    obtain⟨h1,h2⟩:=y7 (x:=x) (s:=s) (j:=i) (by omega)
    exact⟨by simp;omega,by simpa using h2⟩
theorem IN: ∀s:List UInt8,Tu s≠[]
 |[]=>by simp[Tu]
 |c::s=>by
  rw[Tu]
  split
  ·simp
  ·split<;>simp
theorem JN: ∀{s:List UInt8},S7 47 s=0->Tu s=[s]
 |[],_=>rfl
 |c::s,h=>by
  have h1:=NS.1 h
  rw[Tu,if_neg (h1 c (Z5 ..)),JN (NS.2 λb hb=>h1 b (Yd _ hb))]
theorem Hx: ∀{s:List UInt8} {j:Nat},S7 47 s=j+1->Tu s=s.take j::Tu (s.drop (j+1))
 |[],j,h=>by simp[S7] at h
 |c::s,j,h=>by
  rw[S7] at h
  by_cases hc:c.toNat=47
  ·rw[if_pos hc] at h
   have:j=0:=by omega
   subst this
   rw[Tu,if_pos hc];rfl
  ·rw[if_neg hc] at h
   split at h
   ·omega
   ·obtain⟨i,rfl⟩: ∃i,j=i+1:=⟨j - 1,by omega⟩
    rw[Tu,if_neg hc,Hx (s:=s) (j:=i) (by omega)]
    rfl
theorem J2(x:Nat): ∀(l:List UInt8) (n:Nat),Wu x l n=n+Wu x l 0
 |[],n=>rfl
 |b::l,n=>by
  show cond (Nat.beq b.toNat x) (Wu x l (Nat.succ n)) (Wu x l n)=n+cond (Nat.beq b.toNat x) (Wu x l (Nat.succ 0)) (Wu x l 0)
  rw[J2 x l (Nat.succ n),J2 x l n,J2 x l (Nat.succ 0)]
  cases Nat.beq b.toNat x<;>simp;omega
theorem OL: ∀s:List UInt8,(Tu s).length=Wu 47 s 0+1
 |[]=>rfl
 |c::s=>by
  have ih:=OL s
  show _=cond (Nat.beq c.toNat 47) (Wu 47 s (Nat.succ 0)) (Wu 47 s 0)+1
  rw[Tu,J2 47 s (Nat.succ 0)]
  by_cases hc:c.toNat=47
  ·rw[if_pos hc,hc,show Nat.beq 47 47=true from rfl,Zm,ih,cond_true];omega
  ·have:Nat.beq c.toNat 47=false:=by
    cases e:Nat.beq c.toNat 47 with
    |false=>rfl
    |true=>exact absurd (Yt e) hc
   rw[if_neg hc,this,cond_false,<-ih]
   split
   ·rename_i h;exact absurd h (IN s)
   ·rename_i a b h;rw[h];rfl
theorem Ce: ∀(x:Nat) (s:List UInt8),Wu x s 0<=s.length
 |x,[]=>Z2 _
 |x,c::s=>by
  have:=Ce x s
  show cond (Nat.beq c.toNat x) (Wu x s (Nat.succ 0)) (Wu x s 0)<=s.length+1
  rw[J2 x s (Nat.succ 0)]
  cases Nat.beq c.toNat x<;>simp<;>omega
def ww:List UInt8:=[46]
def EU:List UInt8:=[46,46]
def pp:List UInt8:=[46,119,104,46]
def bF:List UInt8:=[46,119,104,46,46,119,104,46,46,111,112,113]
def j7:List UInt8:=[46,119,104,46,46,119,104,46,116,111,99]
def Ez(p s:List UInt8):Bool:=decide (p.length<=s.length)&&decide (s.take p.length=p)
def D1(l s:List UInt8):Bool:=s.any λc=>decide (c∈l)
def Vo(s:List UInt8):Bool:=!decide (s=[])&&decide (s.length<=251)&&!decide (s=ww)&&!decide (s=EU)&&!D1 [47,0] s&&!Ez pp s
def Pc(p:List UInt8):List (List UInt8):=if p=[] then [] else Tu p
def K1(p:List UInt8):Bool:=decide (p.length<=4080)&&decide ((Pc p).length<255)&&(Pc p).all Vo
def UV(p:List UInt8):List UInt8:=p.drop (NE 47 p)
def RQ(p:List UInt8):List UInt8:=p.take (NE 47 p)
def Ny(b:List UInt8):Nat:=if b=bF then 3 else if Ez pp b then 2 else 1
def CO(d:List UInt8):List UInt8:=if (1<=d.length∧d.drop (d.length - 1)=[47]) then d.take (d.length - 1) else d
def Qw(p:List UInt8):List UInt8:=if Ny (UV p)=1 then RQ p++UV p else if Ny (UV p)=2 then RQ p++(UV p).drop 4 else CO (RQ p)
def I3(p:List UInt8):Bool:=!K1 (Qw p)||(!decide (Ny (UV p)=3)&&decide (Qw p=[]))||(decide (Ny (UV p)=2)&&!Vo ((UV p).drop 4))||decide (RQ p=[47])
def W2(p:List UInt8):Nat×List UInt8:=if p=j7 then(4,[]) else if I3 p then(0,[]) else(Ny (UV p),Qw p)
theorem oU(b:List UInt8):1<=Ny b∧Ny b<=3:=by
 unfold Ny
 split
 ·exact⟨by decide,by decide⟩
 ·split<;>exact⟨by decide,by decide⟩
def JV(l:List UInt8):List UInt8->Nat
 |[]=>0
 |c::s=>if c∈l then 1 else if JV l s=0 then 0 else JV l s+1
theorem GQ{l:List UInt8}: ∀{s:List UInt8},(∀j,j<s.length->s.getD j 0∉l)->JV l s=0
 |[],_=>rfl
 |c::s,h=>by
  have h0:c∉l:=h 0 (by simp)
  rw[JV,if_neg h0,GQ λj hj=>by simpa using h (j+1) (by simp;omega),if_pos rfl]
theorem D2{l:List UInt8}: ∀{s:List UInt8} {p:Nat},p<s.length->s.getD p 0∈l->(∀j,j<p->s.getD j 0∉l)->JV l s=p+1
 |[],p,h,_,_=>by simp at h
 |c::s,0,h,e,_=>by
  have:c∈l:=e
  rw[JV,if_pos this]
 |c::s,p+1,h,e,hn=>by
  have h0:c∉l:=hn 0 (by omega)
  rw[JV,if_neg h0,D2 (s:=s) (p:=p) (by simpa using h) (by simpa using e) λj hj=>by simpa using hn (j+1) (by omega),if_neg (by omega)]
theorem yT(l:List UInt8): ∀s:List UInt8,decide (0<JV l s)=D1 l s
 |[]=>rfl
 |c::s=>by
  have ih:=yT l s
  unfold D1 at ih ⊢
  rw[List.any_cons,<-ih,JV]
  by_cases h:c∈l
  ·simp[h]
  ·rw[if_neg h,Zj h]
   by_cases h0:JV l s=0
   ·simp[h0]
   ·rw[if_neg h0];simp;omega
theorem GT(s:List UInt8)(i:Nat):((⟨s.toArray⟩:ByteArray).get! i).toNat=(s.getD i 0).toNat:=by
 show(s.toArray[i]!).toNat=_
 rw[List.getElem!_toArray,ZN,List.getElem!_eq_getElem?_getD]
 rfl
theorem y2{s:List UInt8}{i:Nat}(hc:(s.getD i 0).toNat<128):Utf8.decode ⟨s.toArray⟩ i=((s.getD i 0).toNat,1):=by
 have e:=GT s (i+0)
 rw[Zf] at e
 unfold Utf8.decode
 simp only[Zf,e]
 rw[if_pos hc]
theorem kn{s:List UInt8}{i:Nat}(h:i<s.length)(hc:128<=(s.getD i 0).toNat):
  ∃r w,Utf8.decode ⟨s.toArray⟩ i=(r,w)∧128<=r∧r<=1114111∧1<=w∧ ∀j,j<w->i+j<s.length∧128<=(s.getD (i+j) 0).toNat:=by
 have e0:=GT s i
 have e1:=GT s (i+1)
 have e2:=GT s (i+2)
 have e3:=GT s (i+3)
 have hsz:(⟨s.toArray⟩:ByteArray).size=s.length:=by show s.toArray.size=_;simp
 unfold Utf8.decode
 simp only[Zf,e0,e1,e2,e3,hsz]
 have l0:=(s.getD i 0).toNat_lt
 have l1:=(s.getD (i+1) 0).toNat_lt
 have l2:=(s.getD (i+2) 0).toNat_lt
 have l3:=(s.getD (i+3) 0).toNat_lt
 generalize g0:(s.getD i 0).toNat=b0 at*
 generalize g1:(s.getD (i+1) 0).toNat=b1 at*
 generalize g2:(s.getD (i+2) 0).toNat=b2 at*
 generalize g3:(s.getD (i+3) 0).toNat=b3 at*
 have one: ∀j,j<1->i+j<s.length∧128<=(s.getD (i+j) 0).toNat:=λj hj=>by
  obtain rfl:j=0:=by omega
  exact⟨h,by rw[Zf,g0];exact hc⟩
 have err: ∃r w,((Utf8.runeError,1):Nat×Nat)=(r,w)∧128<=r∧r<=1114111∧1<=w∧ ∀j,j<w->i+j<s.length∧128<=(s.getD (i+j) 0).toNat:=⟨_,_,rfl,by decide,by decide,by decide,one⟩
 rw[if_neg (by omega)]
 split
 ·rename_i c2
  simp only[Xv,beq_iff_eq,decide_eq_true_eq] at c2
  split
  ·exact⟨_,_,rfl,by omega,by omega,by decide,λj hj=>by
    rcases(show j=0∨j=1 by omega) with rfl|rfl
    ·exact one 0 (by decide)
    ·exact⟨by omega,by rw[g1];omega⟩⟩
  ·exact err
 ·split
  ·rename_i c3
   simp only[Xv,beq_iff_eq,decide_eq_true_eq] at c3
   split
   ·rename_i c4
    simp only[Xv,decide_eq_true_eq] at c4
    refine⟨_,_,rfl,by omega,by omega,by decide,λj hj=>?_⟩
    rcases(show j=0∨j=1∨j=2 by omega) with rfl|rfl|rfl
    ·exact one 0 (by decide)
    ·exact⟨by omega,by rw[g1];omega⟩
    ·exact⟨by omega,by rw[g2];omega⟩
   ·exact err
  ·split
   ·rename_i c3
    simp only[Xv,beq_iff_eq,decide_eq_true_eq] at c3
    split
    ·rename_i c4
     simp only[Xv,decide_eq_true_eq,Utf8.valid,Sc] at c4
     refine⟨_,_,rfl,by omega,by omega,by decide,λj hj=>?_⟩
     rcases(show j=0∨j=1∨j=2∨j=3 by omega) with rfl|rfl|rfl|rfl
     ·exact one 0 (by decide)
     ·exact⟨by omega,by rw[g1];omega⟩
     ·exact⟨by omega,by rw[g2];omega⟩
     ·exact⟨by omega,by rw[g3];omega⟩
    ·exact err
   ·exact err
theorem tZ{r:Nat}(h:128<=r): ∃rs:List UInt8,(Utf8.encode (r:Int)).data.toList=rs∧2<=rs.length∧rs.length<=4∧128<=(rs.getD (rs.length - 1) 0).toNat:=by
 have key: ∀c:Nat,128<=(UInt8.ofNat (128+c % 64)).toNat:=λc=>by
  rw[UInt8.toNat_ofNat',Sf (by omega)];omega
 unfold Utf8.encode
 have hc:128<=(if Utf8.valid (r:Int)=true then(r:Int).toNat else Utf8.runeError):=by
  split
  ·simpa using h
  ·decide
 generalize(if Utf8.valid (r:Int)=true then(r:Int).toNat else Utf8.runeError)=c at hc
 simp only
 rw[if_neg (by omega)]
 split
 ·exact⟨_,rfl,Z2 2,by show 2<=4;decide,key _⟩
 ·split
  ·exact⟨_,rfl,by show 2<=3;decide,by show 3<=4;decide,key _⟩
  ·exact⟨_,rfl,by show 2<=4;decide,Z2 4,key _⟩
def Ll:List AV:=List.replicate 256 (.bool false)
def P9(cs:List UInt8):List AV:=cs.foldl (λL c=>L.set c.toNat (.bool true)) Ll
theorem uC(cs:List UInt8)(c:UInt8):P9 (cs++[c])=(P9 cs).set c.toNat (.bool true):=by
 unfold P9;rw[List.foldl_append];rfl
theorem IJ(cs:List UInt8):(P9 cs).length=256:=by
 unfold P9
 have: ∀(cs:List UInt8) (L:List AV),L.length=256->(cs.foldl (λL c=>L.set c.toNat (.bool true)) L).length=256:=by
  intro cs
  induction cs with
  |nil=>intro L h;exact h
  |cons c cs ih=>intro L h;exact ih _ (by rw[TO];exact h)
 exact this cs Ll (by unfold Ll;rw[Th])
theorem qQ(cs:List UInt8){x:UInt8}:(P9 cs).getD x.toNat .unk=.bool (decide (x∈cs)):=by
 unfold P9
 have hx:=x.toNat_lt
 have: ∀(cs:List UInt8) (L:List AV) (b:Bool),L.length=256->L.getD x.toNat .unk=.bool b->(cs.foldl (λL c=>L.set c.toNat (.bool true)) L).getD x.toNat .unk=.bool (b||decide (x∈cs)):=by
  intro cs
  induction cs with
  |nil=>intro L b h h2;simpa using h2
  |cons c cs ih=>
   intro L b h h2
   have:=ih (L.set c.toNat (.bool true)) (b||decide (x=c)) (by rw[TO];exact h) (by
    rw[ZN,List.getElem?_set]
    by_cases e:c.toNat=x.toNat
    ·have:c=x:=Q4.1 e
     subst this
     have hx':c.toNat<256:=hx
     simp[h,hx']
    ·have:x≠c:=λq=>e (by rw[q])
     rw[if_neg e,Zj this,Bool.or_false,<-ZN];exact h2)
   rw[Q2,this]
   congr 1
   cases b<;>simp[Yv]
 rw[this cs Ll false (by unfold Ll;rw[Th]) (by unfold Ll;rw[ZN,Uu,if_pos hx];rfl),Bool.false_or]
section
open Go.Proofs N8
def z35:List AV:=nI .i64 0::nI .i64 0::nI .i64 0::List.replicate 32 (nI .u8 0)
def c87:CF:=⟨[(XC,none),(Xm,none)],(Zc (Za (Ze (k (nI .i64 0))) st2<|Za (Ze (k (.str []))) Wz<|Zb) (Zc (Zc (Za (Ze Z0) WA<|Za (WM X5 (k (.str [46,119,104,46,46,119,104,46,116,111,99])) Nw false) WT<|Zb) (ZL Wl (Zc (Za (Ze (k (nI .i64 4))) st2<|Za (Ze (k (.str []))) Wz<|Zb) Ym) Zb)) (Zc (Za (Ze Z0) Wx<|Za (Zy 152 [XD]) WG<|Za (Ze XP) Xn<|Zb) (Zc (Za (Ze Xh) Y1<|Za (Zy 153 [YG]) YS<|Za (Ze Yz) st2<|Zb) (Zc (Za (Ze Z0) YL<|Za (Ze Xh) YY<|Za (Zy 154 [Yn,YD]) XF<|Za (Ze Xi) WN<|Zb) (Zc (Za (ZI (k (.ptr 2 0))) XS<|Za (Ze XC) XJ<|Za (KO Vj .nilf false Xr Y7) XU<|Za (Ze Xy) XV<|Za (Ze Xh) X4<|Za (Uo Xu Tryz.prog [XT,XE]) X7<|Za (Ze XZ) Wz<|Zb) (Zc (Zc (Za (Ze Xm) X9<|Za (Zy 155 [Xp]) We<|Za (Ts XA) Wh<|Za (Ze Y8) Wi<|ZR XI false (Ze XC) Wo<|ZR XI false (WM Wa (k (nI .i64 3)) Vj true) Wt<|ZR XI false (Ze Wf) Ww<|ZR Wm true (Ze Xm) WL<|ZR Wm true (WM Wv (k (.str [])) Nw false) WP<|ZR XI false (Yx Wm Wg (k (.bool false))) WV<|Za (Yx XI (k (.bool true)) Ws) WR<|Za (Ze Wd) W0<|ZR WU false (Ze XC) W1<|ZR WU false (WM WI (k (nI .i64 2)) Vj false) W9<|ZR WU false (Ze X6) Vh<|ZR Wb true (Ze Xh) Vi<|ZR Wb true (WF W4 (some (k (nI .i64 4))) none none) Vk<|ZR Wb true (Zy 156 [W8]) Vr<|ZR Wb true (Ts Vg) Vw<|ZR WU false (Yx Wb W5 (k (.bool false))) VK<|Za (Yx WU (k (.bool true)) WZ) VL<|Za (Ze Vz) VM<|ZR Va false (Ze Xy) VF<|ZR Va false (WM Vt (k (.str [47])) Nw false) VT<|Za (Yx Va (k (.bool true)) Vp) V2<|Zb) (ZL WX (Zc (Za (Ze (k (nI .i64 0))) st2<|Za (Ze (k (.str []))) Wz<|Zb) Ym) Zb)) (Zc (Za (Ze XC) V3<|Za (Ze Xm) Uf<|Za (Ze Vm) st2<|Za (Ze Vu) Wz<|Zb) Ym))))))))⟩
def pK:CF:=⟨[(XC,none)],(Zc (Za (Ze (k (.str []))) st2<|Zb) (Zc (Za (Ze Z0) Wz<|Za (Ze Z0) Xn<|Za (Zy 186 [Xh,(k (nI .u8 47))]) WN<|Za (Yh Xy (k (nI .i64 1))) WA<|Za (WF Xm (some X5) none none) WT<|Za (Ze Wl) st2<|Zb) Ym))⟩
def pO:CF:=⟨[(Xh,none)],(Zc (Za (Ze (k (nI .i64 0))) Xn<|Zb) (Zc (Za (Ze Z0) WN<|Za (Ze YQ) WA<|Za (Zy 244 [Xy,X5]) WT<|Za (Ze Wl) Xn<|Zb) Ym))⟩
def KJ:D:=(Zc (Zc (Za (Ze Xy) WG<|Za (Yl XP (k (nI .i64 0)) VE XW) Y1<|Zb) (ZL YG Zb (Y6 0))) (Zc (Z3 1 (Zc (Za (Ze Z0) YY<|Za (Ze Xy) XF<|Za (YA YD Xi) XS<|Za (Ze YQ) XJ<|Za (WM Xr Y7 Vj false) XU<|Zb) (ZL Xu (Zc (Za (Ze Xy) XV<|Za (Ze XT) Xn<|Zb) Ym) Zb))) (Za (Ze Xy) YS<|Za (Xq Yz (k (nI .i64 1))) YL<|Za (Ze Yn) WN<|Zb)))
def x9:CF:=⟨[(Xh,none)],(Zc (Za (Ze (k (nI .i64 0))) Xn<|Zb) (Zc (Zc (Za (Ze Z0) WA<|Za (Wc X5) WT<|Za (Xq Wl (k (nI .i64 1))) Wx<|Za (Ze XD) WN<|Zb) (Z3 0 (Xj KJ))) (Zc (Za (Ze (k (.int .i64 (.negSucc 0)))) Xn<|Zb) Ym)))⟩
def x8:CF:=⟨[(XC,none)],(Zc (Za (Ze (k (nI .i64 0))) st2<|Zb) (Zc (Z3 0 (Zc (Za (Ze Z0) Xn<|Za (WM Xh (k (.str [46,119,104,46,46,119,104,46,46,111,112,113])) Nw false) WN<|Za (Ze Xy) Wz<|Zb) (ZL Xm (Zc (Za (Ze (k (nI .i64 3))) st2<|Zb) Ym) (Zc (Za (Ze Z0) WT<|Za (Zy 209 [Wl,(k (.str [46,119,104,46]))]) Wx<|Za (Ze XD) WA<|Zb) (ZL X5 (Zc (Za (Ze (k (nI .i64 2))) st2<|Zb) Ym) Zb))))) (Zc (Za (Ze (k (nI .i64 1))) st2<|Zb) Ym)))⟩
def pP:CF:=⟨[(Xh,none)],(Zc (Za (Ze (k (.bool false))) Xn<|Zb) (Zc (Za (Ze Z0) WN<|Za (Ze YQ) WA<|Za (Zy 264 [Xy,X5]) WT<|Za (Ze Wl) Xn<|Zb) Ym))⟩
def tG:CF:=⟨[(Xh,none)],(Zc (Za (Ze (k (.bool false))) Xn<|Zb) (Zc (Za (Ze Z0) WN<|Za (Wc Xy) WA<|Za (Ze YQ) WT<|Za (Wc Wl) Wx<|Za (Yl X5 XD VE XW) WG<|Za (Ze XP) Y1<|ZR YG true (Ze Z0) YS<|ZR YG true (Ze YQ) YL<|ZR YG true (Wc Yn) YY<|ZR YG true (WF Yz none (some YD) none) XF<|ZR YG true (Ze YQ) XS<|ZR YG true (WM Xi Xr Nw false) XJ<|Za (Yx YG Y7 (k (.bool false))) XU<|Za (Ze Xu) Xn<|Zb) Ym))⟩
def pL:CF:=⟨[(Xh,none)],(Zc (Za (Ze (k (.str []))) Xn<|Zb) (Zc (Za (Ze Z0) WN<|Za (Ze YQ) WA<|Za (Zy 210 [Xy,X5]) WT<|Za (Ze Wl) Xn<|Zb) Ym))⟩
def tD:CF:=⟨[(Xh,none)],(Zc (Za (Ze (k (.str []))) Xn<|Zb) (Zc (Zc (Za (Ze Z0) WN<|Za (Ze YQ) WA<|Za (Zy 265 [Xy,X5]) WT<|Zb) (ZL Wl (Zc (Za (Ze Z0) Wx<|Za (Ze Z0) WG<|Za (Wc XP) Y1<|Za (Ze YQ) YS<|Za (Wc Yz) YL<|Za (Xq YG Yn) YY<|Za (WF XD none (some YD) none) XF<|Za (Ze Xi) Xn<|Zb) Ym) Zb)) (Zc (Za (Ze Z0) XS<|Za (Ze Xr) Xn<|Zb) Ym)))⟩
def tH:CF:=⟨[(Xh,none)],(Zc (Za (Ze (k (.bool false))) Xn<|Zb) (Zc (Za (Ze Z0) WN<|Za (Wc Xy) WA<|Za (Ze YQ) WT<|Za (Wc Wl) Wx<|Za (Yl X5 XD VE XW) WG<|Za (Ze XP) Y1<|ZR YG true (Ze Z0) YS<|ZR YG true (Ze Z0) YL<|ZR YG true (Wc Yn) YY<|ZR YG true (Ze YQ) XF<|ZR YG true (Wc Xi) XS<|ZR YG true (Xq YD Xr) XJ<|ZR YG true (WF Yz (some Y7) none none) XU<|ZR YG true (Ze YQ) XV<|ZR YG true (WM Xu XT Nw false) X4<|Za (Yx YG XE (k (.bool false))) X7<|Za (Ze XZ) Xn<|Zb) Ym))⟩
def p6:CF:=⟨[(Xh,none)],(Zc (Za (Ze (k (.str []))) Xn<|Zb) (Zc (Za (Ze Z0) WN<|Za (Ze YQ) WA<|Za (Yh Xy X5) WT<|Za (Ze Wl) Xn<|Zb) Ym))⟩
def p7:CF:=⟨[(Xh,none)],(Zc (Za (Ze (k (.str []))) Xn<|Zb) (Zc (Za (Ze Z0) WN<|Za (Ze YQ) WA<|Za (WF X5 (some (k (nI .i64 4))) none none) WT<|Za (Yh Xy Wl) Wx<|Za (Ze XD) Xn<|Zb) Ym))⟩
def p8:CF:=⟨[(Xh,none)],(Zc (Za (Ze (k (.str []))) Xn<|Zb) (Zc (Za (Ze Z0) WN<|Za (Zy 154 [Xy,(k (.str [47]))]) WA<|Za (Ze X5) Xn<|Zb) Ym))⟩
def zf:CF:=⟨[(XC,none)],(Zc (Za (Ze (k (.bool false))) st2<|Zb) (Zc (Za (Ze Z0) Xn<|Za (Zy 211 [Xh]) WN<|Za (Ze Xy) Wz<|Zb) (Zc (Za (Ze Z0) WA<|Za (Wc X5) WT<|Za (Yl Wl (k (nI .i64 4080)) TG VN) Wx<|Za (Ze XD) WG<|ZR XP true (Ze Xm) Y1<|ZR XP true (WJ YG) YS<|ZR XP true (Yl Yz (k (nI .i64 255)) Y9 YB) YL<|Za (Yx XP Yn (k (.bool false))) YY<|Za (Ze YD) XF<|ZR Xi true (Ze Xm) XS<|ZR Xi true (Zy 212 [Xr,(k (.func 213 [] []))]) XJ<|ZR Xi true (Ts Y7) XU<|Za (Yx Xi Xu (k (.bool false))) XV<|Za (Ze XT) st2<|Zb) Ym)))⟩
def tE:CF:=⟨[(XC,none)],(Zc (Za (Ze (k .nils)) st2<|Zb) (Zc (Zc (Za (Ze Z0) Wz<|Za (WM Xm (k (.str [])) Nw false) Xn<|Zb) (ZL Xh (Zc (Za (Ze (k .nils)) st2<|Zb) Ym) Zb)) (Zc (Za (Ze Z0) WN<|Za (Zy 266 [Xy,(k (.str [47]))]) WA<|Za (Ze X5) st2<|Zb) Ym)))⟩
def pT:CF:=⟨[(Xh,none)],(Zc (Za (Ze (k .nils)) Xn<|Zb) (Zc (Za (Ze Z0) WN<|Za (Ze YQ) WA<|Za (Zy 328 [Xy,X5,(k (nI .i64 0)),(k (.int .i64 (.negSucc 0)))]) WT<|Za (Ze Wl) Xn<|Zb) Ym))⟩
def JZ:D:=(Zc (Zc (Za (Ze YG) W9<|Za (Ze Xm) Vh<|Za (Yl X6 Wb Y9 YB) Vi<|Zb) (ZL W4 Zb (Y6 0))) (Z3 1 (Zc (Za (Ze Z0) Vk<|Za (Ze YQ) Vr<|Za (Zy 248 [W8,Vg]) Vw<|Za (Ze W5) YS<|Zb) (Zc (Zc (Za (Ze Yz) VK<|Za (Yl WZ (k (nI .i64 0)) Y9 YB) VL<|Zb) (ZL Vz (Y6 0) Zb)) (Zc (Za (Ze XP) VM<|Za (Ze YG) VF<|Za (Ze Z0) VT<|Za (Ze Yz) V2<|Za (Ze XC) V3<|Za (Yh WX Vm) Uf<|Za (WF Vp none (some Vu) none) Uq<|Za (Yi Va Vt 1) Ug<|Za (Z4 Vv Vq 1) d0<|Zb) (Zc (Za (Ze Z0) V8<|Za (Ze Yz) V4<|Za (Ze YQ) V9<|Za (Wc Vb) Us<|Za (Yh Vn Wp) Uw<|Za (WF VX (some Ue) none none) Uz<|Za (Ze Uv) st0<|Zb) (Za (Ze YG) UG<|Za (Yh Uj (k (nI .i64 1))) UC<|Za (Ze Ub) Y1<|Zb)))))))
def tK:CF:=⟨[(XD,none)],(Zc (Za (Ze (k .nils)) Wx<|Zb) (Zc (Zc (Za (Ze Xm) YL<|Za (WM Yn (k (nI .i64 0)) Vj false) YY<|Zb) (ZL YD (Zc (Za (Ze (k .nils)) Wx<|Zb) Ym) Zb)) (Zc (Zc (Za (Ze YQ) XF<|Za (WM Xi (k (.str [])) Nw false) XS<|Zb) (ZL Xr (Zc (Za (Ze Z0) XJ<|Za (Ze Xm) XU<|Za (Zy 360 [Y7,Xu]) XV<|Za (Ze XT) Wx<|Zb) Ym) Zb)) (Zc (Zc (Za (Ze Xm) X4<|Za (Yl XE (k (nI .i64 0)) Y9 YB) X7<|Zb) (ZL XZ (Za (Ze Z0) X9<|Za (Ze YQ) We<|Za (Zy 361 [Xp,XA]) Wh<|Za (Yh Y8 (k (nI .i64 1))) Wi<|Za (Ze XI) Wz<|Zb) Zb)) (Zc (Za (Ze Xm) Wo<|Za (Ze Z0) Wt<|Za (Wc Wf) Ww<|Za (Yh Wm (k (nI .i64 1))) WL<|Za (T6 false [Wa,Wv]) WP<|Za (Ze Wg) Wz<|Zb) (Zc (Za (Ze Xm) WV<|Za (Kf 9 1 16 [(.str [])] Ws Ws) WR<|Za (Ze Wd) WG<|Zb) (Zc (Za (Ze Xm) W0<|Za (Xq WU (k (nI .i64 1))) W1<|Za (Ze WI) Wz<|Zb) (Zc (Za (Ze (k (nI .i64 0))) Y1<|Zb) (Zc (Z3 0 (Xj JZ)) (Zc (Za (Ze XP) UK<|Za (Ze YG) UL<|Za (Ze Z0) U1<|Za (Yi VD Uy 1) U2<|Za (Z4 UZ UI 1) d0<|Zb) (Zc (Za (Ze XP) Td<|Za (Ze YG) TB<|Za (Yh Tq (k (nI .i64 1))) TU<|Za (Kh 1 U4 none (some TR) none) T8<|Za (Ze Tx) Wx<|Zb) Ym)))))))))))⟩
def p5:D:=(Z3 1 (Zc (Za (Ze Z0) X7<|Za (Ze YQ) X9<|Za (Zy 248 [XZ,Xp]) We<|Za (Ze XA) WA<|Zb) (Zc (Zc (Za (Ze X5) Wh<|Za (WM Y8 (k (.int .i64 (.negSucc 0))) Vj false) Wi<|Zb) (ZL XI (Zc (Za (Ze Xy) Wo<|Za (Ze Wa) Xn<|Zb) Ym) Zb)) (Zc (Za (Ze Xy) Wt<|Za (Yh Wf (k (nI .i64 1))) Ww<|Za (Ze Wm) WN<|Zb) (Za (Ze Z0) WL<|Za (Ze X5) WP<|Za (Ze YQ) WV<|Za (Wc Ws) WR<|Za (Yh Wg Wd) W0<|Za (WF Wv (some WU) none none) W1<|Za (Ze WI) st0<|Zb)))))
def p4:CF:=⟨[(Xh,none)],(Zc (Za (Ze (k (nI .i64 0))) Xn<|Zb) (Zc (Zc (Za (Ze YQ) WT<|Za (Wc Wl) Wx<|Za (WM XD (k (nI .i64 0)) Vj false) WG<|Zb) (ZL XP (Zc (Za (Ze Z0) Y1<|Za (Zy 391 [YG]) YS<|Za (Yh Yz (k (nI .i64 1))) YL<|Za (Ze Yn) Xn<|Zb) Ym) Zb)) (Zc (Zc (Za (Ze YQ) YY<|Za (Wc YD) XF<|Za (WM Xi (k (nI .i64 1)) Vj false) XS<|Zb) (ZL Xr (Zc (Za (Ze Z0) XJ<|Za (Ze YQ) XU<|Za (YA Xu (k (nI .i64 0))) XV<|Za (Zy 392 [Y7,XT]) X4<|Za (Ze XE) Xn<|Zb) Ym) Zb)) (Zc (Za (Ze (k (nI .i64 0))) WN<|Zb) (Z3 0 (Xj p5))))))⟩
def pS:CF:=⟨[(Xh,none)],(Zc (Za (Ze (k (nI .i64 0))) Xn<|Zb) (Zc (Za (Ze Z0) WN<|Za (Ze YQ) WA<|Za (Zy 310 [Xy,X5]) WT<|Za (Ze Wl) Xn<|Zb) Ym))⟩
def pZ:D:=(Zc (Zc (Za (Ze XD) UC<|Za (Ze XP) UK<|Za (Yl Ub VD Y9 YB) UL<|Zb) (ZL Uy Zb (Y6 1))) (Z3 2 (Zc (Zc (Za (Ze Z0) U1<|Za (Ze XD) U2<|Za (YA UI UZ) Td<|Za (Ze X5) TB<|Za (WM U4 Tq Vj true) TU<|Zb) (ZL TR (Zc (Za (Ze Z0) T8<|Za (Ze XD) Sp<|Za (Yh Sk (k (nI .i64 1))) S3<|Za (Ze XP) Ra<|Za (WF Tx (some Sb) (some Tj) none) Rq<|Za (Ze X5) Rb<|Za (Zy 215 [Sm,SM]) S4<|Za (Ze SY) YS<|Zb) (Zc (Zc (Za (Ze Yz) SK<|Za (Yl TE (k (nI .i64 0)) Y9 YB) S5<|Zb) (ZL SD (Zc (Za (Ze (k (.int .i64 (.negSucc 0)))) Xn<|Zb) Ym) Zb)) (Za (Ze XD) S6<|Za (Ze Yz) Rc<|Za (Yh SS (k (nI .i64 1))) Rd<|Za (Yh SN Sn) Rr<|Za (Ze SO) Wx<|Zb))) Zb)) (Zc (Zc (Za (Ze Z0) Rs<|Za (Ze XD) Re<|Za (Yh S8 (k (nI .i64 1))) Rf<|Za (YA SE SF) Rt<|Za (Ze Wl) RH<|Za (WM SG Rn Vj false) RI<|Za (Ze UR) Qg<|ZR Sg true (Ze Z0) Qh<|ZR Sg true (Ze XD) QC<|ZR Sg true (Ze XD) QD<|ZR Sg true (Ze Xy) Qu<|ZR Sg true (Yh QB Ro) Qv<|ZR Sg true (WF SZ (some R3) (some Qp) none) QX<|ZR Sg true (Ze YQ) QY<|ZR Sg true (WM Qq RA Nw false) QZ<|Za (Yx Sg RR (k (.bool false))) Q0<|Zb) (ZL QN (Zc (Za (Ze XD) Px<|Za (Ze Pv) Xn<|Zb) Ym) Zb)) (Zc (Za (Ze XD) Py<|Za (Yh QO (k (nI .i64 1))) Oa<|Za (Ze PN) Wx<|Zb) (Zc (Za (Ze YG) Nl<|Za (Yh O5 (k (nI .i64 1))) Nm<|Za (Ze O6) Y1<|Zb) (Zc (Za (Ze Xy) Nn<|Za (ZI (k (.ptr 7 0))) RN<|Za (Yl OF RL TG VN) QT<|Za (Ze QJ) PZ<|ZR SR true (Ze YG) P0<|ZR SR true (Ze XD) Ol<|ZR SR true (Zy 330 [PJ]) Pp<|ZR SR true (Yl PH Qx Tb Vl) QU<|Za (Yx SR SC (k (.bool false))) P1<|Zb) (ZL PL (Zc (Za (Ze Z0) P2<|Za (Ze XD) P3<|Za (WF UX (some Rw) none none) QV<|Za (Ze YQ) QW<|Za (Zy 331 [QK,QL]) Qb<|Za (Ze R0) YL<|Zb) (Zc (Zc (Za (Ze Yn) Qc<|Za (Yl R1 (k (nI .i64 0)) VE XW) Qd<|Zb) (ZL Rx (Zc (Za (Ze Yn) Qe<|Za (Ze XD) Qf<|Za (Yh Ry Rg) Pq<|Za (Ze Pg) Xn<|Zb) Ym) Zb)) (Zc (Za (Ze (k (.int .i64 (.negSucc 0)))) Xn<|Zb) Ym))) (Zc (Za (Ze Xy) Pr<|Za (ZI (k (.ptr 7 0))) P4<|Za (Yl Ph Od Tb Vl) Nb<|Za (Ze Oe) Nc<|ZR Rz true (Ze YG) Nd<|ZR Rz true (Ze XD) P5<|ZR Rz true (N7 PM (k (nI .u64 4))) Nf<|ZR Rz true (Yh (k (nI .i64 4)) OZ) Om<|ZR Rz true (Yl OY QM VE XW) On<|Za (Yx Rz UM (k (.bool false))) Oo<|Za (Ze Of) Ng<|ZR Pi true (Ze XD) Nh<|ZR Pi true (Ze XP) Oq<|ZR Pi true (Yl O0 Og Y9 YB) Ot<|Za (Yx Pi Oh (k (.bool false))) Ou<|Zb) (ZL RM (Zc (Za (Ze Z0) Ov<|Za (Ze XD) Ow<|Za (WF R2 (some O1) none none) Ox<|Za (Ze YQ) Ni<|Za (Zy 351 [Oi,O2]) Nj<|Za (Ze O3) YY<|Zb) (Zc (Zc (Za (Ze YD) Nk<|Za (Yl O4 (k (nI .i64 0)) Y9 YB) N1<|Zb) (ZL NV (Zc (Za (Ze (k (.int .i64 (.negSucc 0)))) Xn<|Zb) Ym) Zb)) (Zc (Za (Ze XD) N2<|Za (Ze YD) Kr<|Za (Yh Pj LT) Ks<|Za (Ze LU) Xn<|Zb) Ym))) Zb))))))))))
def tJ:CF:=⟨[(Xh,none)],(Zc (Za (Ze (k (nI .i64 0))) Xn<|Zb) (Zc (Za (Ze YQ) XF<|Za (Wc Xi) XS<|Za (Ze Xr) WN<|Zb) (Zc (Z3 0 (Zc (Za (Ze Xy) XU<|Za (WM Xu (k (nI .i64 0)) Vj false) XV<|Za (Ze XT) X4<|ZR XE false (Ze YQ) X7<|ZR XE false (Ze Z0) X9<|ZR XE false (WM XZ Xp Nw false) We<|Za (Yx XE (k (.bool true)) XA) Wh<|Za (Ze Y8) XJ<|Zb) (ZL Y7 (Zc (Za (Ze (k (nI .i64 0))) Xn<|Zb) Ym) (Zc (Za (Ze Xy) Wo<|Za (WM Wa (k (nI .i64 1)) Vj false) Wt<|Za (Ze Wf) Wi<|Zb) (ZL XI (Zc (Za (Ze Z0) Ww<|Za (Ze YQ) WL<|Za (YA Wv (k (nI .i64 0))) WP<|Za (Zy 215 [Wm,Wg]) WV<|Za (Ze Ws) Xn<|Zb) Ym) (Zc (Za (Ze Xy) W0<|Za (Ze Z0) W1<|Za (Wc WI) W9<|Za (Yl WU X6 VE XW) Vh<|Za (Ze Wb) WR<|Zb) (ZL Wd (Zc (Za (Ze (k (.int .i64 (.negSucc 0)))) Xn<|Zb) Ym) (Zc (Za (Ze Xy) Vk<|Za (ZI (k (.ptr 7 0))) Vr<|Za (Yl W8 Vg TG VN) Vw<|Za (Ze W5) VK<|ZR WZ true (Ze Z0) VL<|ZR WZ true (Wc Vz) VM<|ZR WZ true (Yl Va (k (nI .i64 64)) TG VN) VF<|Za (Yx WZ Vt (k (.bool false))) VT<|Za (Ze Vp) Vi<|Zb) (ZL W4 (Zc (Za (Ze Z0) V2<|Za (Ze YQ) V3<|Za (Zy 331 [WX,Vm]) Uf<|Za (Ze Vu) Xn<|Zb) Ym) Zb))))))))) (Zc (Za (Ze YQ) Uq<|Za (YA Vq (k (nI .i64 0))) Ug<|Za (Ze Vv) WA<|Zb) (Zc (Za (Ze YQ) V8<|Za (YA VX (k (nI .i64 1))) V4<|Za (Ze Vn) WT<|Zb) (Zc (Za (Ze (k (nI .i64 0))) Wx<|Zb) (Zc (Za (Ze Z0) V9<|Za (Wc Vb) Us<|Za (Ze Xy) Uw<|Za (Xq Wp Ue) Uz<|Za (Yh Uv (k (nI .i64 1))) UG<|Za (Ze Uj) WG<|Zb) (Zc (Za (Ze (k (nI .i64 0))) Y1<|Zb) (Zc (Z3 1 (Xj pZ)) (Zc (Za (Ze (k (.int .i64 (.negSucc 0)))) Xn<|Zb) Ym))))))))))⟩
def tF:CF:=⟨[(Xh,none)],(Zc (Za (Ze (k (.bool false))) Xn<|Zb) (Zc (Za (Ze Z0) WN<|Za (Ze YQ) WA<|Za (Zy 267 [Xy,X5]) WT<|Za (Yl Wl (k (nI .i64 0)) VE XW) Wx<|Za (Ze XD) Xn<|Zb) Ym))⟩
def KK:D:=(Zc (Za (Yl XD Wl Y9 YB) WG<|Zb) (Zc (ZL XP Zb (Y6 0)) (Zc (Z3 1 (Zc (Za (Ze XD) Y1<|Za (Ze YG) WN<|Zb) (Zc (Za (Ze YQ) YS<|Za (Ze Z0) YL<|Za (Ze Xy) YY<|Za (Yi Yn YD 1) XF<|Za (ZI Xi) XS<|Za (Uo Yz Tryz.prog [Xr]) XJ<|Zb) (ZL Y7 (Zc (Za (Ze Xy) XU<|Za (Ze Xu) Xn<|Zb) Ym) Zb)))) (Za (Yh XD (k (nI .i64 1))) XV<|Za (Ze XT) Wx<|Zb))))
def wa:CF:=⟨[(Xh,none)],(Zc (Za (Ze (k (nI .i64 0))) Xn<|Zb) (Zc (Zc (Za (Ze Z0) WA<|Za (WJ X5) WT<|Za (Ze (k (nI .i64 0))) Wx<|Zb) (Z3 0 (Xj KK))) (Zc (Za (Ze (k (.int .i64 (.negSucc 0)))) Xn<|Zb) Ym)))⟩
def pQ:CF:=⟨[(XC,none)],(Zc (Za (Ze (k (.bool false))) st2<|Zb) (Zc (Za (Ze Z0) Wz<|Za (Zy 156 [Xm]) Xn<|Za (Ts Xh) WN<|Za (Ze Xy) st2<|Zb) Ym))⟩
def En:CF:=⟨[(XC,none)],(Zc (Za (Ze (k (.bool false))) st2<|Zb) (Zc (Za (Ze Z0) Wz<|Za (WM Xm (k (.str [])) Nw true) Xn<|Za (Ze Xh) WN<|ZR Xy true (Ze Z0) WA<|ZR Xy true (Wc X5) WT<|ZR Xy true (Yl Wl (k (nI .i64 251)) TG VN) Wx<|Za (Yx Xy XD (k (.bool false))) WG<|Za (Ze XP) Y1<|ZR YG true (Ze Z0) YS<|ZR YG true (WM Yz (k (.str [46])) Nw true) YL<|Za (Yx YG Yn (k (.bool false))) YY<|Za (Ze YD) XF<|ZR Xi true (Ze Z0) XS<|ZR Xi true (WM Xr (k (.str [46,46])) Nw true) XJ<|Za (Yx Xi Y7 (k (.bool false))) XU<|Za (Ze Xu) XV<|ZR XT true (Ze Z0) X4<|ZR XT true (Zy 157 [XE,(k (.str [47,0]))]) X7<|ZR XT true (Ts XZ) X9<|Za (Yx XT Xp (k (.bool false))) We<|Za (Ze XA) Wh<|ZR Y8 true (Ze Z0) Wi<|ZR Y8 true (Zy 209 [XI,(k (.str [46,119,104,46]))]) Wo<|ZR Y8 true (Ts Wa) Wt<|Za (Yx Y8 Wf (k (.bool false))) Ww<|Za (Ze Wm) st2<|Zb) Ym))⟩
def pM:CF:=⟨[(Xh,none)],(Zc (Za (Ze (k (.bool false))) Xn<|Zb) (Zc (Za (Ze Z0) WN<|Za (Ze YQ) WA<|Za (Zy 214 [Xy,X5]) WT<|Za (Yl Wl (k (nI .i64 0)) VE XW) Wx<|Za (Ze XD) Xn<|Zb) Ym))⟩
def KI:D:=(Zc (Zc (Za (Ze XD) W1<|Za (Ze Z0) W9<|Za (Wc X6) Vh<|Za (Yl WI Wb Y9 YB) Vi<|Zb) (ZL W4 Zb (Y6 0))) (Zc (Z3 1 (Zc (Za (Ze Z0) Vw<|Za (Ze XD) VK<|Za (YA W5 WZ) VL<|Za (Zy 271 [X5,Vz]) VM<|Zb) (ZL Va (Zc (Za (Ze XD) VF<|Za (Ze Vt) Xn<|Zb) Ym) Zb))) (Za (Ze XD) Vk<|Za (Yh W8 (k (nI .i64 1))) Vr<|Za (Ze Vg) Wx<|Zb)))
def MY:D:=(Zc (Za (Dp WX) V3<|Za (XH Vm 0) Uf<|Zb) (Zc (ZL Vu Zb (Y6 2)) (Z3 3 (Zc (Za (XH Vm 1) Uq<|Za (XH Vm 2) Ug<|Za (Ze Vq) WG<|Za (Ze Vv) Y1<|Zb) (Zc (Za (Ze YQ) V8<|Za (Ze YG) V4<|Za (Zy 268 [VX,Vn]) V9<|Za (Yl Vb (k (nI .i64 0)) VE XW) Us<|Zb) (ZL Wp (Zc (Za (Ze XP) Uw<|Za (Ze Ue) Xn<|Zb) Ym) Zb))))))
def Cb:CF:=⟨[(Xh,none)],(Zc (Za (Ze (k (nI .i64 0))) Xn<|Zb) (Zc (Zc (Za (Ze YQ) YS<|Za (WM Yz (k (.str [])) Nw false) YL<|Zb) (ZL Yn (Zc (Za (Ze (k (.int .i64 (.negSucc 0)))) Xn<|Zb) Ym) Zb)) (Zc (Zc (Za (Ze YQ) YY<|Za (Wc YD) XF<|Za (WM Xi (k (nI .i64 1)) Vj false) XS<|Zb) (ZL Xr (Zc (Za (Ze YQ) XJ<|Za (YA Y7 (k (nI .i64 0))) XU<|Za (VS Xu .i32) XV<|Za (Ze XT) WN<|Zb) (Zc (Zc (Za (Ze Xy) X4<|Za (Yl XE (k (nI .i32 128)) VE XW) X7<|Zb) (ZL XZ (Za (Ze (k (nI .i32 65533))) WN<|Zb) Zb)) (Zc (Za (Ze Z0) X9<|Za (Ze Xy) We<|Za (Zy 268 [Xp,XA]) Wh<|Za (Ze Y8) Xn<|Zb) Ym))) Zb)) (Zc (Zc (Za (Ze Z0) Wi<|Za (Wc XI) Wo<|Za (Zy 269 [Wa]) Wt<|Zb) (ZL Wf (Zc (Za (Ze YQ) WL<|Za (Zy 270 [Wv]) WP<|Za (Ze Wg) Ww<|Za (XH Wm 0) WV<|Za (XH Wm 1) WR<|Za (Xa 347 Ll) WA<|Za (Z4 X5 Ws 256) d0<|Za (Ze Wd) WT<|Zb) (Zc (Za (Ze Wl) W0<|Zb) (ZL WU (Zc (Zc (Za (Ze (k (nI .i64 0))) Wx<|Zb) (Z3 0 (Xj KI))) (Zc (Za (Ze (k (.int .i64 (.negSucc 0)))) Xn<|Zb) Ym)) Zb))) Zb)) (Zc (Zc (Za (Ze Z0) VT<|Za (KR Vp) V2<|Zb) (Z3 2 (Xj MY))) (Zc (Za (Ze (k (.int .i64 (.negSucc 0)))) Xn<|Zb) Ym))))))⟩
def pX:CF:=⟨[(XC,none)],(Zc (Za (Ze (k (.bool false))) st2<|Zb) (Zc (Za (Ze Z0) Wz<|Za (Yl Xm (k (nI .i64 8)) Tb Vl) Xn<|Za (Ze Xh) st2<|Zb) Ym))⟩
def JY:D:=(Zc (Zc (Za (Ze Xh) WA<|Za (Ze Z0) WT<|Za (Wc Wl) Wx<|Za (Yl X5 XD Y9 YB) WG<|Zb) (ZL XP Zb (Y6 0))) (Zc (Z3 1 (Zc (Za (Ze Z0) YL<|Za (Ze Xh) YY<|Za (YA Yn YD) XF<|Za (Ze Xi) WN<|Zb) (Zc (Zc (Za (Ze Xy) XS<|Za (Yl Xr (k (nI .u8 128)) VE XW) XJ<|Zb) (ZL Y7 (Zc (Za (Yk XC 256) XU<|Za (Z4 XC Xu 256) d0<|Za (Ze (k (.bool false))) Wz<|Zb) Ym) Zb)) (Za (Ze Xy) XV<|Za (QR XC XT 256 1) X4<|Za (Z4 XE (k (.bool true)) 1) d0<|Zb)))) (Za (Ze Xh) Y1<|Za (Yh YG (k (nI .i64 1))) YS<|Za (Ze Yz) Xn<|Zb)))
def tI:CF:=⟨[(XC,some (256,true)),(Xm,none)],(Zc (Za (Xa 347 Ll) st2<|Za (Ze (k (.bool false))) Wz<|Zb) (Zc (Zc (Za (Ze (k (nI .i64 0))) Xn<|Zb) (Z3 0 (Xj JY))) (Zc (Za (Yk XC 256) X7<|Za (Z4 XC XZ 256) d0<|Za (Ze (k (.bool true))) Wz<|Zb) Ym)))⟩
def pY:CF:=⟨[(Xh,none)],(Zc (Za (Ze (k (.bool false))) Xn<|Zb) (Zc (Za (Ze Z0) WN<|Za (Ze YQ) WA<|Za (Wq Xy) WT<|Za (QR Wl X5 256 1) Wx<|Za (ZI XD) WG<|Za (Ze XP) Xn<|Zb) Ym))⟩
def JX:D:=(Zc (Za (Dp HZ) DQ<|Za (XH H7 0) xR<|Zb) (Zc (ZL y8 Zb (Y6 9)) (Z3 10 (Zc (Za (XH H7 1) lH<|Za (XH H7 2) lI<|Za (Ze mL) WN<|Za (Ze mM) WA<|Zb) (Zc (Za (Ze X5) lJ<|Za (WM mN (k (nI .i32 65533)) Vj false) lK<|Zb) (ZL mO (Zc (Za (Ze Xy) lL<|Za (Ze mP) Xn<|Zb) Ym) Zb))))))
def pU:D:=(Zc (Zc (Za (Ze Yn) Uq<|Za (Ze Wl) Ug<|Za (Wc Vv) V8<|Za (Yl Vq VX Y9 YB) V4<|Zb) (ZL Vn Zb (Y6 3))) (Zc (Z3 4 (Zc (YK [⟨Ze Z0,none,[(st0,Z0)],Uw,.free,0,0⟩,⟨Ze XP,none,[(WG,XP)],Uz,.free,1,0⟩,⟨Ze Yn,none,[(YL,Yn)],UG,.free,2,0⟩,⟨Xq Uv Uj,none,[(Uz,Uv),(UG,Uj)],UC,.free,3,6⟩,⟨YA Ue Ub,none,[(Uw,Ue),(UC,Ub)],UK,.free,4,15⟩,⟨Ze Wl,none,[(WT,Wl)],UL,.free,5,0⟩,⟨Ze XD,none,[(Wx,XD)],U1,.free,6,0⟩,⟨Ze Yn,none,[(YL,Yn)],U2,.free,7,0⟩,⟨Xq UI UZ,none,[(U1,UI),(U2,UZ)],Td,.free,8,192⟩,⟨YA Uy U4,none,[(UL,Uy),(Td,U4)],TB,.free,9,480⟩,⟨WM VD Tq Vj true,none,[(UK,VD),(TB,Tq)],TU,.free,10,1023⟩]) (ZL TR PE Zb))) (Za (Ze Yn) V9<|Za (Yh Vb (k (nI .i64 1))) Us<|Za (Ze Wp) YL<|Zb)))
def Cd:D:=(Zc (Zc (Za (Ze XP) Wh<|Za (Ze Z0) Wi<|Za (Wc XI) Wo<|Za (Yl Y8 Wa Y9 YB) Wt<|Zb) (ZL Wf Zb (Y6 1))) (Z3 2 (Zc (Zc (YK [⟨Ze Z0,none,[(st0,Z0)],Ww,.free,0,0⟩,⟨Ze XP,none,[(WG,XP)],WL,.free,1,0⟩,⟨YA Wm Wv,none,[(Ww,Wm),(WL,Wv)],WP,.free,2,3⟩,⟨Ze Wl,none,[(WT,Wl)],WV,.free,3,0⟩,⟨Ze XD,none,[(Wx,XD)],WR,.free,4,0⟩,⟨YA Ws Wd,none,[(WV,Ws),(WR,Wd)],W0,.free,5,24⟩,⟨WM Wg WU Vj true,none,[(WP,Wg),(W0,WU)],W1,.free,6,63⟩]) (ZL WI (Zc (YK [⟨Ze Z0,none,[(st0,Z0)],W9,.free,0,0⟩,⟨Ze XP,none,[(WG,XP)],Vh,.free,1,0⟩,⟨Yh Wb (k (nI .i64 1)),none,[(Vh,Wb)],Vi,.free,2,2⟩,⟨WF X6 (some W4) none none,none,[(W9,X6),(Vi,W4)],Vk,.free,3,7⟩,⟨Ze Wl,none,[(WT,Wl)],Vr,.free,4,0⟩,⟨Ze XD,none,[(Wx,XD)],Vw,.free,5,0⟩,⟨YA Vg W5,none,[(Vr,Vg),(Vw,W5)],VK,.free,6,48⟩,⟨Zy 158 [W8,WZ],none,[(Vk,W8),(VK,WZ)],VL,.eff,7,127⟩,⟨Ze Vz,none,[(VL,Vz)],YS,.eff,8,255⟩]) (Zc (Zc (Za (Ze Yz) VM<|Za (Yl Va (k (nI .i64 0)) Y9 YB) VF<|Zb) (ZL Vt (Zc (Za (Ze (k (.int .i64 (.negSucc 0)))) Xn<|Zb) Ym) Zb)) (Za (Ze XP) VT<|Za (Ze Yz) V2<|Za (Yh WX (k (nI .i64 1))) V3<|Za (Yh Vp Vm) Uf<|Za (Ze Vu) WG<|Zb))) Zb)) (Zc (Zc (Za (Ze (k (nI .i64 1))) YL<|Zb) (Z3 3 (Xj pU))) (Zc (Zc (Za (Ze XP) T8<|Za (Ze XD) Sp<|Za (Xq Tx Sk) S3<|Za (Ze Sb) Xn<|Zb) Ym) (Zc Zb (Zc (Za (Ze YG) Ra<|Za (Yh Tj (k (nI .i64 1))) Rq<|Za (Ze Sm) Y1<|Zb) (Zc (Za (Ze XP) Rb<|Za (Yh SM (k (nI .i64 1))) S4<|Za (Ze SY) WG<|Zb) (Zc (Za (Ze (k (.bool true))) SK<|ZR TE true (Ze YG) S5<|ZR TE true (Ze XP) S6<|ZR TE true (Zy 330 [SN]) Rc<|ZR TE true (Yl SD SS Tb Vl) Rd<|Za (Yx TE Sn (k (.bool false))) Rr<|Za (Ze SO) Rs<|ZR SE true (Ze XP) Re<|ZR SE true (Ze Z0) Rf<|ZR SE true (Wc SF) Rt<|ZR SE true (Yl S8 SG Y9 YB) RH<|Za (Yx SE Rn (k (.bool false))) RI<|Za (Ze UR) Qg<|ZR Sg false (Ze (k (.bool false))) Qh<|ZR SZ true (Ze YG) QC<|ZR SZ true (Ze XP) QD<|ZR SZ true (N7 QB (k (nI .u64 4))) Qu<|ZR SZ true (Yh (k (nI .i64 4)) Ro) Qv<|ZR SZ true (Yl R3 Qp VE XW) QX<|ZR Sg false (Yx SZ Qq (k (.bool false))) QY<|ZR Sg false (Ze RA) QZ<|ZR RR true (Ze XP) Q0<|ZR RR true (Ze Z0) Px<|ZR RR true (Wc Pv) Py<|ZR RR true (Yl QN QO Y9 YB) Oa<|ZR Sg false (Yx RR PN (k (.bool false))) Nl<|Za (Yx Sg (k (.bool true)) O5) Nm<|Zb) (ZL O6 PE Zb))))))))))
def pV:D:=(Zc (Zc (Za (Ze Y7) N2<|Za (Ze Wl) Kr<|Za (Wc LT) Ks<|Za (Yl Pj LU Y9 YB) IP<|Zb) (ZL Ig Zb (Y6 7))) (Zc (Z3 8 (Zc (YK [⟨Ze Z0,none,[(st0,Z0)],MO,.free,0,0⟩,⟨Ze XP,none,[(WG,XP)],MP,.free,1,0⟩,⟨Ze Y7,none,[(XJ,Y7)],Kt,.free,2,0⟩,⟨Xq Nx LW,none,[(MP,Nx),(Kt,LW)],Ku,.free,3,6⟩,⟨YA LV LX,none,[(MO,LV),(Ku,LX)],Kv,.free,4,15⟩,⟨Ze Wl,none,[(WT,Wl)],Kw,.free,5,0⟩,⟨Ze XD,none,[(Wx,XD)],Kx,.free,6,0⟩,⟨Ze Y7,none,[(XJ,Y7)],Ky,.free,7,0⟩,⟨Xq Mc L0,none,[(Kx,Mc),(Ky,L0)],Kz,.free,8,192⟩,⟨YA LZ L1,none,[(Kw,LZ),(Kz,L1)],KA,.free,9,480⟩,⟨WM LY Md Vj true,none,[(Kv,LY),(KA,Md)],Je,.free,10,1023⟩]) (ZL K7 (Y6 6) Zb))) (Za (Ze Y7) IR<|Za (Yh Ih (k (nI .i64 1))) Lv<|Za (Ze Lo) XJ<|Zb)))
def pW:D:=(Zc (Zc (Za (Ze XP) Nc<|Za (Ze Z0) Nd<|Za (Wc OY) P5<|Za (Yl Rz PM Y9 YB) Nf<|Zb) (ZL OZ Zb (Y6 5))) (Zc (Z3 6 (Zc (Za (Ze Z0) Oo<|Za (Ze XP) Ng<|Za (YA Of Pi) Nh<|Za (Ze Xi) Oq<|Za (WM O0 Og Vj false) Ot<|Za (Ze Oh) Ou<|ZR RM true (Ze Z0) Ov<|ZR RM true (Ze XP) Ow<|ZR RM true (Xq O1 (k (nI .i64 1))) Ox<|ZR RM true (YA R2 Oi) Ni<|ZR RM true (Ze Xr) Nj<|ZR RM true (WM O2 O3 Vj false) Nk<|Za (Yx RM O4 (k (.bool false))) N1<|Zb) (ZL NV (Zc (Zc (Za (Ze (k (nI .i64 2))) XJ<|Zb) (Z3 7 (Xj pV))) (Zc (Za (Ze XP) Jf<|Za (Ze XD) IS<|Za (Xq MG Ii) F5<|Za (Ze Fk) Xn<|Zb) Ym)) Zb))) (Za (Ze XP) Om<|Za (Yh QM (k (nI .i64 1))) On<|Za (Ze UM) WG<|Zb)))
def Cc:CF:=⟨[(Xh,none)],(Zc (Za (Ze (k (nI .i64 0))) Xn<|Zb) (Z3 0 (Zc (Za (Ze YQ) Gl<|Za (Yl (k (nI .i32 0)) HW TG VN) Gm<|Za (Ze L3) Jg<|ZR Lq true (Ze YQ) Jh<|ZR Lq true (Yl K8 (k (nI .i32 128)) Y9 YB) Ji<|Za (Yx Lq MH (k (.bool false))) IT<|Za (Ze Ij) Gk<|Zb) (ZL HV (Zc (Za (Ze Z0) Gn<|Za (Ze YQ) Gp<|Za (VS HY .u8) F6<|Za (Zy 158 [HX,Fl]) F7<|Za (Ze Fm) Xn<|Zb) Ym) (Zc (Za (Ze YQ) DM<|Za (WM Dc (k (nI .i32 65533)) Vj false) DN<|Za (Ze Dd) F8<|Zb) (ZL Fo (Zc (Zc (Za (Ze Z0) DO<|Za (KR De) DP<|Zb) (Z3 9 (Xj JX))) (Zc (Za (Ze (k (.int .i64 (.negSucc 0)))) Xn<|Zb) Ym)) (Zc (Za (Ze YQ) lN<|Za (Zy 329 [mR]) lO<|Za (Ts mS) lP<|Za (Ze mT) lM<|Zb) (ZL mQ (Zc (Za (Ze (k (.int .i64 (.negSucc 0)))) Xn<|Zb) Ym) (Zc (Za (Ze YQ) XU<|Za (FI Xu) XV<|Za (Ze XT) WT<|Zb) (Zc (Za (Ze Wl) X4<|Za (Wc XE) X7<|Za (Xq XZ (k (nI .i64 1))) X9<|Za (Ze Xp) Wx<|Zb) (Zc (Za (Ze XD) We<|Za (Ze XA) WG<|Zb) (Zc (Za (Ze (k (nI .i64 0))) Y1<|Zb) (Zc (Z3 1 (Xj Cd)) (Zc (Zc (Za (Ze (k (.int .i64 (.negSucc 0)))) Xn<|Zb) Ym) (Zc Zb (Zc (ZL (k (.bool true)) (Zc (Za (Ze Z0) Nn<|Za (Ze XP) RN<|Za (Ze XD) QT<|Za (Xq RL QJ) PZ<|Za (WF OF (some SR) none none) P0<|Za (Ze YQ) Ol<|Za (FI PJ) Pp<|Za (Zy 331 [PH,Qx]) QU<|Za (Ze SC) YY<|Zb) (Zc (Za (Ze YD) P1<|Za (Yl PL (k (nI .i64 0)) VE XW) P2<|Zb) (ZL UX (Zc (Za (Ze XP) P3<|Za (Ze YD) QV<|Za (Yh Rw QK) QW<|Za (Ze XD) Qb<|Za (Xq QL R0) Qc<|Za (Ze R1) Xn<|Zb) Ym) Zb))) (Zc (Za (Ze Wl) Qd<|Za (Ze XD) Qe<|Za (YA Rx Ry) Qf<|Za (Ze Rg) XF<|Zb) (Zc (Za (Ze Wl) Pq<|Za (Ze XD) Pr<|Za (Xq Ph (k (nI .i64 1))) P4<|Za (YA Pg Od) Nb<|Za (Ze Oe) XS<|Zb) (Zc Zb (Z3 5 (Xj pW)))))) (Zc (Za (Ze (k (.int .i64 (.negSucc 0)))) Xn<|Zb) Ym)))))))))))))))))⟩
def wb:CF:=⟨[(XC,none)],(Zc (Za (Ze (k (.bool false))) st2<|Zb) (Zc (Z3 0 (Zc (Za (Ze Z0) Xn<|Za (Yl (k (nI .i32 0)) Xh TG VN) WN<|Za (Ze Xy) WA<|ZR X5 true (Ze Z0) WT<|ZR X5 true (Yl Wl (k (nI .i32 55296)) Y9 YB) Wx<|Za (Yx X5 XD (k (.bool false))) WG<|Za (Ze XP) Wz<|Zb) (ZL Xm (Zc (Za (Ze (k (.bool true))) st2<|Zb) Ym) (Zc (Za (Ze Z0) YS<|Za (Yl (k (nI .i32 57343)) Yz Y9 YB) YL<|Za (Ze Yn) YY<|ZR YD true (Ze Z0) XF<|ZR YD true (Yl Xi (k (nI .i32 1114111)) TG VN) XS<|Za (Yx YD Xr (k (.bool false))) XJ<|Za (Ze Y7) Y1<|Zb) (ZL YG (Zc (Za (Ze (k (.bool true))) st2<|Zb) Ym) Zb))))) (Zc (Za (Ze (k (.bool false))) st2<|Zb) Ym)))⟩
def pN:CF:=⟨[(Xh,none)],(Zc (Za (Ze (k (nI .i64 0))) Xn<|Zb) (Zc (Za (Ze Z0) WN<|Za (Ze YQ) WA<|Za (Zy 215 [Xy,X5]) WT<|Za (Ze Wl) Xn<|Zb) Ym))⟩
def pR:CF:=⟨[(Xh,none)],(Zc (Za (Ze (k (nI .i64 0))) Xn<|Zb) (Zc (Za (Ze Z0) WN<|Za (Ze YQ) WA<|Za (Zy 272 [Xy,X5]) WT<|Za (Ze Wl) Xn<|Zb) Ym))⟩
def ta:CF:=⟨[(XC,none)],(Zc (Za (U0 Z0 28) st1<|Za (Ze (k (.bool false))) st2<|Zb) (Zc (Za (Yo YQ 0) WT<|Za (ZI Wl) Wx<|Za (Zy 87 [XD]) WG<|Za (Ze XP) WA<|Za (XH X5 0) Y1<|Za (XH X5 1) YS<|Za (Ze YG) Wz<|Za (Ze Yz) Xn<|Zb) (Zc (Za (Yo YQ 1) YL<|Za (Yk Yn 8) YY<|Za (Xa 26 [(nI .i64 0),(nI .u32 0),(nI .u32 0),(nI .u32 0),(nI .i64 0),.nils,.nils,(.str [])]) WN<|Za (Z4 Xy YD 8) d0<|Zb) (Zc (Zc (Za (Ze Xm) XF<|Za (WM Xi (k (nI .i64 0)) Vj false) XS<|Za (Ze Xr) XJ<|ZR Y7 false (ZI (k (.ptr 0 0))) XU<|ZR Y7 false (Yo Xy 0) XV<|ZR Y7 false (ZI XT) X4<|ZR Y7 false (KO Vj (nI .u8 0) false Xu XE) X7<|ZR Y7 false (WM XZ (k (nI .u8 0)) Vj false) X9<|Za (Yx Y7 (k (.bool true)) Xp) We<|Za (Ze XA) Wh<|ZR Y8 false (Yo Xy 1) Wi<|ZR Y8 false (ZI XI) Wo<|ZR Y8 false (Yl Wa (k (nI .u32 4095)) Tb Vl) Wt<|Za (Yx Y8 (k (.bool true)) Wf) Ww<|Za (Ze Wm) WL<|ZR Wv false (Yo Xy 5) WP<|ZR Wv false (ZI Wg) WV<|ZR Wv false (Zy 88 [Ws]) WR<|ZR Wv false (Ts Wd) W0<|Za (Yx Wv (k (.bool true)) WU) W1<|Za (Ze WI) W9<|ZR X6 false (Yo Xy 7) Vh<|ZR X6 false (ZI Wb) Vi<|ZR X6 false (Yo Xy 0) Vk<|ZR X6 false (ZI W8) Vr<|ZR X6 false (WM Vg (k (nI .i64 3)) Vj false) Vw<|ZR X6 false (Zy 89 [W4,W5]) VK<|ZR X6 false (Ts WZ) VL<|Za (Yx X6 (k (.bool true)) Vz) VM<|Zb) (ZL Va (Zc (Za (Ze (k (.bool false))) st2<|Zb) Ym) Zb)) (Zc (Za (Yo Xy 6) VF<|Za (ZI Vt) VT<|Za (WJ Vp) V2<|Za (Yl WX (k (nI .i64 16777216)) TG VN) V3<|Za (Ze Vm) Uf<|ZR Vu true (Yo Xy 0) Uq<|ZR Vu true (ZI Vq) Ug<|ZR Vu true (WM Vv (k (nI .i64 2)) Vj false) V8<|ZR Vu true (Ze VX) V4<|ZR Vn false (Yo Xy 6) V9<|ZR Vn false (ZI Vb) Us<|ZR Vn false (WJ Wp) Uw<|ZR Vn false (WM Ue (k (nI .i64 0)) Vj false) Uz<|ZR Vu true (Yx Vn (k (.bool true)) Uv) UG<|Za (Yx Vu Uj (k (.bool false))) UC<|Za (Ze Ub) st2<|Zb) Ym)))))⟩
def Mt:D:=(Zc (Za (Yl Wl X5 Y9 YB) Wx<|Zb) (Zc (ZL XD Zb (Y6 0)) (Zc (Z3 1 (Zc (Za (Ze Wl) WG<|Za (Yi Xy Wl 2) Y1<|Za (Yk YG 2) YS<|Za (Xa 107 [(.str []),(.str [])]) Xn<|Za (Ze XP) Wz<|Za (Z4 Xh Yz 2) d0<|Zb) (Zc (YK [⟨Yo Xh 0,none,[(Xn,Xh)],YL,.free,0,0⟩,⟨ZI Yn,none,[(YL,Yn)],YY,.read,1,1⟩,⟨WM YD (k (.str [])) Nw false,none,[(YY,YD)],XF,.free,2,3⟩,⟨Ze Xi,none,[(XF,Xi)],XS,.free,3,7⟩,⟨Yo Xh 0,(some (Xr,false)),[(Xn,Xh)],XJ,.free,4,15⟩,⟨ZI Y7,(some (Xr,false)),[(XJ,Y7)],XU,.read,5,31⟩,⟨Wc Xu,(some (Xr,false)),[(XU,Xu)],XV,.free,6,63⟩,⟨Yl XT (k (nI .i64 242)) Tb Vl,(some (Xr,false)),[(XV,XT)],X4,.free,7,127⟩,⟨Yx Xr (k (.bool true)) XE,none,[(XS,Xr),(X4,XE)],X7,.free,8,255⟩,⟨Ze XZ,none,[(X7,XZ)],X9,.free,9,511⟩,⟨Yo Xh 0,(some (Xp,false)),[(Xn,Xh)],We,.free,10,1023⟩,⟨ZI XA,(some (Xp,false)),[(We,XA)],Wh,.read,11,2047⟩,⟨Zy 157 [Y8,(k (.str [0,61,10]))],(some (Xp,false)),[(Wh,Y8)],Wi,.eff,12,4095⟩,⟨Yx Xp (k (.bool true)) XI,none,[(X9,Xp),(Wi,XI)],Wo,.free,13,8191⟩,⟨Ze Wa,none,[(Wo,Wa)],Wt,.free,14,16383⟩,⟨Ze Xm,(some (Wf,false)),[(Wz,Xm)],Ww,.free,15,32767⟩,⟨Yl Wm (k (nI .i64 0)) Tb Vl,(some (Wf,false)),[(Ww,Wm)],WL,.free,16,65535⟩,⟨Ze Wv,(some (Wf,false)),[(WL,Wv)],WP,.free,17,131071⟩,⟨Ze Z0,(some (Wg,true)),[(st0,Z0)],WV,.free,18,262143⟩,⟨Ze Xm,(some (Wg,true)),[(Wz,Xm)],WR,.free,19,262143⟩,⟨Xq Wd (k (nI .i64 1)),(some (Wg,true)),[(WR,Wd)],W0,.free,20,786431⟩,⟨Yi Ws WU 2,(some (Wg,true)),[(WV,Ws),(W0,WU)],W1,.free,21,2097151⟩,⟨Yo WI 0,(some (Wg,true)),[(W1,WI)],W9,.free,22,4194303⟩,⟨ZI X6,(some (Wg,true)),[(W9,X6)],Vh,.read,23,8388607⟩,⟨Yo Xh 0,(some (Wg,true)),[(Xn,Xh)],Vi,.free,24,262143⟩,⟨ZI W4,(some (Wg,true)),[(Vi,W4)],Vk,.read,25,17039359⟩,⟨Yl Wb W8 VE XW,(some (Wg,true)),[(Vh,Wb),(Vk,W8)],Vr,.free,26,67108863⟩,⟨Yx Wg Vg (k (.bool false)),(some (Wf,false)),[(WP,Wg),(Vr,Vg)],Vw,.free,27,134217727⟩,⟨Yx Wf (k (.bool true)) W5,none,[(Wt,Wf),(Vw,W5)],VK,.free,28,268435455⟩]) (ZL WZ (Zc (Za (Ze (k (.bool false))) st2<|Zb) Ym) Zb)))) (Za (Yh Wl (k (nI .i64 1))) VL<|Za (Ze Vz) WT<|Zb))))
def ij:CF:=⟨[(XC,none)],(Zc (Za (Ze (k (.bool false))) st2<|Zb) (Zc (Zc (Za (Ze Z0) WN<|Za (WJ Xy) WA<|Za (Ze (k (nI .i64 0))) WT<|Zb) (Z3 0 (Xj Mt))) (Zc (Za (Ze Z0) VM<|Za (WJ Va) VF<|Za (Yl Vt (k (nI .i64 16)) TG VN) VT<|Za (Ze Vp) st2<|Zb) Ym)))⟩
def kf:CF:=⟨[(Xh,none)],(Zc (Za (Ze (k (.bool false))) Xn<|Zb) (Zc (Zc (Za (Ze YQ) WN<|Za (Ts Xy) WA<|Zb) (ZL X5 (Zc (Za (Ze Z0) WT<|Za (WM Wl (k (.str [])) Nw false) Wx<|Za (Ze XD) Xn<|Zb) Ym) Zb)) (Zc (Za (Ze Z0) WG<|Za (WM XP (k (.str [])) Nw true) Y1<|Za (Ze YG) YS<|ZR Yz true (Ze Z0) YL<|ZR Yz true (Wc Yn) YY<|ZR Yz true (Yl YD (k (nI .i64 4096)) TG VN) XF<|Za (Yx Yz Xi (k (.bool false))) XS<|Za (Ze Xr) XJ<|ZR Y7 true (Ze Z0) XU<|ZR Y7 true (Zy 158 [Xu,(k (nI .u8 0))]) XV<|ZR Y7 true (Yl XT (k (nI .i64 0)) Y9 YB) X4<|Za (Yx Y7 XE (k (.bool false))) X7<|Za (Ze XZ) Xn<|Zb) Ym)))⟩
def Js:D:=(Zc (Za (Yl Vv Vq Y9 YB) V8<|Zb) (Zc (ZL VX Zb (Y6 2)) (Zc (Z3 3 (Zc (Za (Yi Vu Vv 35) V4<|Za (Yk Vn 35) V9<|Za (Xa 108 z35) Wx<|Za (Z4 XD Vb 35) d0<|Zb) (Zc (Za (Ze Xh) Us<|Za (Yo XD 2) Uw<|Za (ZI Ue) Uz<|Za (Uo Wp Tryz.prog [Uv]) UG<|Za (Ts Uj) UC<|Zb) (ZL Ub (Zc (Za (Ze (k (.bool false))) st2<|Zb) Ym) Zb)))) (Za (Yh Vv (k (nI .i64 1))) UK<|Za (Ze VD) Ug<|Zb))))
def OA:D:=(Zc (Za (Yl YD Yn Y9 YB) XF<|Zb) (Zc (ZL Xi Zb (Y6 0)) (Zc (Z3 1 (Zc (Za (Ze YD) XS<|Za (Yi Yz YD 12) XJ<|Za (Yk Y7 12) XU<|Za (Xa 31 [(.str []),(nI .i64 0),(nI .u32 0),(nI .u32 0),(nI .u32 0),(nI .i64 0),.nils,.nils,(.str []),(nI .i64 0),(nI .i64 0),.nils]) WA<|Za (Ze Xr) WN<|Za (Z4 X5 Xu 12) d0<|Zb) (Zc (Zc (YK [⟨Yk X5 12,none,[(WA,X5)],XV,.read,0,0⟩,⟨Zy 64 [XT],none,[(XV,XT)],X4,.eff,1,1⟩,⟨Ts XE,none,[(X4,XE)],X7,.free,2,3⟩,⟨Ze XZ,none,[(X7,XZ)],X9,.free,3,7⟩,⟨Ze Xy,(some (Xp,false)),[(WN,Xy)],We,.free,4,15⟩,⟨Yl XA (k (nI .i64 0)) Tb Vl,(some (Xp,false)),[(We,XA)],Wh,.free,5,31⟩,⟨Ze Y8,(some (Xp,false)),[(Wh,Y8)],Wi,.free,6,63⟩,⟨Yo YQ 0,(some (XI,true)),[(st1,YQ)],Wo,.free,7,127⟩,⟨ZI Wa,(some (XI,true)),[(Wo,Wa)],Wt,.read,8,255⟩,⟨Ze Xy,(some (XI,true)),[(WN,Xy)],Ww,.free,9,127⟩,⟨Xq Wm (k (nI .i64 1)),(some (XI,true)),[(Ww,Wm)],WL,.free,10,639⟩,⟨Yi Wf Wv 12,(some (XI,true)),[(Wt,Wf),(WL,Wv)],WP,.free,11,2047⟩,⟨Yo Wg 0,(some (XI,true)),[(WP,Wg)],WV,.free,12,4095⟩,⟨Yo Ws 0,(some (XI,true)),[(WV,Ws)],WR,.free,13,8191⟩,⟨ZI Wd,(some (XI,true)),[(WR,Wd)],W0,.read,14,16383⟩,⟨Yo X5 0,(some (XI,true)),[(WA,X5)],W1,.free,15,127⟩,⟨Yo WI 0,(some (XI,true)),[(W1,WI)],W9,.free,16,32895⟩,⟨ZI X6,(some (XI,true)),[(W9,X6)],Vh,.read,17,98431⟩,⟨Yl WU Wb VE XW,(some (XI,true)),[(W0,WU),(Vh,Wb)],Vi,.free,18,262143⟩,⟨Yx XI W4 (k (.bool false)),(some (Xp,false)),[(Wi,XI),(Vi,W4)],Vk,.free,19,524287⟩,⟨Yx Xp (k (.bool true)) W8,none,[(X9,Xp),(Vk,W8)],Vr,.free,20,1048575⟩,⟨Ze Vg,none,[(Vr,Vg)],Vw,.free,21,2097151⟩,⟨Ze Xh,(some (W5,false)),[(Xn,Xh)],VK,.free,22,4194303⟩,⟨Yo X5 10,(some (W5,false)),[(WA,X5)],VL,.free,23,4194303⟩,⟨ZI Vz,(some (W5,false)),[(VL,Vz)],VM,.read,24,12582911⟩,⟨Uo WZ Tryz.prog [Va],(some (W5,false)),[(VK,WZ),(VM,Va)],VF,.eff,25,33554431⟩,⟨Ts Vt,(some (W5,false)),[(VF,Vt)],VT,.free,26,67108863⟩,⟨Yx W5 (k (.bool true)) Vp,none,[(Vw,W5),(VT,Vp)],V2,.free,27,134217727⟩]) (ZL WX (Zc (Za (Ze (k (.bool false))) st2<|Zb) Ym) Zb)) (Zc (Za (Yo X5 11) V3<|Za (ZI Vm) Uf<|Za (WJ Vu) Uq<|Za (Ze (k (nI .i64 0))) Ug<|Zb) (Z3 2 (Xj Js)))))) (Za (Yh YD (k (nI .i64 1))) UL<|Za (Ze Uy) YY<|Zb))))
def c19:CF:=⟨[(XC,none)],(Zc (Za (U0 Z0 47) st1<|Za (Ze (k (.bool false))) st2<|Zb) (Zc (Za (Xa 2 [(nI .i64 0)]) Wz<|Za (Z4 Xm (k (.int .i64 (.negSucc 0))) 1) d0<|Zb) (Zc (Za (Oj 63 [] [Xm]) WG<|Za (Ze XP) Xn<|Zb) (Zc (Zc (Za (Yo YQ 0) Y1<|Za (ZI YG) YS<|Za (WJ Yz) YL<|Za (Ze (k (nI .i64 0))) YY<|Zb) (Z3 0 (Xj OA))) (Zc (Za (Yo YQ 0) U1<|Za (ZI UI) U2<|Za (WJ UZ) Td<|Za (Yl U4 (k (nI .i64 4096)) TG VN) TB<|Za (Ze Tq) st2<|Zb) Ym)))))⟩
def dy:CF:=⟨[(Xm,none)],(Zc (Za (Ze (k (.bool false))) Wz<|Zb) (Zc (Za (Ze Z0) WN<|Za (ZI YQ) WA<|Za (Yl Xy X5 Tb Vl) WT<|Za (Ze Wl) Wx<|ZR XD true (Ze Z0) WG<|ZR XD true (Yl XP (k (nI .i64 1099511627776)) TG VN) Y1<|Za (Yx XD YG (k (.bool false))) YS<|Za (Ze Yz) Xn<|Zb) (Zc (Za (Ze Z0) YL<|Za (Z4 YQ Yn 1) d0<|Zb) (Zc (Za (Ze Xh) YY<|Za (Ze YD) Wz<|Zb) Ym))))⟩
def MZ:D:=(Zc (Za (Yl UI Uy Y9 YB) U2<|Zb) (Zc (ZL UZ Zb (Y6 0)) (Zc (Z3 1 (Zc (Za (Yi VD UI 35) Td<|Za (Yk U4 35) TB<|Za (Xa 108 z35) WT<|Za (Z4 Wl Tq 35) d0<|Zb) (Zc (Zc (Za (Yo Wl 0) TU<|Za (ZI TR) T8<|Za (Ze Xy) Sp<|Za (WM Tx Sk Vj true) S3<|Za (Ze Sb) Ra<|ZR Tj false (Yo Wl 1) Rq<|ZR Tj false (ZI Sm) Rb<|ZR Tj false (Yl SM (k (nI .i64 1)) Y9 YB) S4<|Za (Yx Tj (k (.bool true)) SY) SK<|Za (Ze TE) S5<|ZR SD false (Yo Wl 1) S6<|ZR SD false (ZI SN) Rc<|ZR SD false (Yl SS (k (nI .i64 65536)) Tb Vl) Rd<|Za (Yx SD (k (.bool true)) Sn) Rr<|Zb) (ZL SO (Zc (Za (Ze (k (.bool false))) st2<|Zb) Ym) Zb)) (Za (Ze Xy) Rs<|Za (Yo Wl 1) Re<|Za (ZI S8) Rf<|Za (Yh SE SF) Rt<|Za (Ze SG) WN<|Zb)))) (Za (Yh UI (k (nI .i64 1))) RH<|Za (Ze Rn) U1<|Zb))))
def c64:CF:=⟨[(XC,none)],(Zc (Za (U0 Z0 31) st1<|Za (Ze (k (.bool false))) st2<|Zb) (Zc (Za (Yo YQ 0) WG<|Za (Yo XP 0) Y1<|Za (ZI YG) YS<|Za (Zy 87 [Yz]) YL<|Za (Ze Yn) Wx<|Za (XH XD 0) YY<|Za (XH XD 1) XF<|Za (Ze YD) Wz<|Za (Ze Xi) Xn<|Zb) (Zc (Zc (Za (Yo YQ 0) XS<|Za (Yk Xr 9) XJ<|Za (Zy 33 [Y7]) XU<|Za (Ts Xu) XV<|Za (Ze XT) X4<|ZR XE false (Yo YQ 0) X7<|ZR XE false (Yo XZ 1) X9<|ZR XE false (Yo Xp 6) We<|ZR XE false (ZI XA) Wh<|ZR XE false (WJ Y8) Wi<|ZR XE false (Yl XI (k (nI .i64 0)) Tb Vl) Wo<|Za (Yx XE (k (.bool true)) Wa) Wt<|Za (Ze Wf) Ww<|ZR Wm false (Ze Xm) WL<|ZR Wm false (Yl Wv (k (nI .i64 1)) Y9 YB) WP<|Za (Yx Wm (k (.bool true)) Wg) WV<|Za (Ze Ws) WR<|ZR Wd false (Ze Xm) W0<|ZR Wd false (Yl WU (k (nI .i64 3)) Tb Vl) W1<|Za (Yx Wd (k (.bool true)) WI) W9<|Za (Ze X6) Vh<|ZR Wb false (Yo YQ 9) Vi<|ZR Wb false (ZI W4) Vk<|ZR Wb false (Yl W8 (k (nI .i64 0)) Y9 YB) Vr<|Za (Yx Wb (k (.bool true)) Vg) Vw<|Za (Ze W5) VK<|ZR WZ false (Yo YQ 9) VL<|ZR WZ false (ZI Vz) VM<|ZR WZ false (Yl Va (k (nI .i64 16777216)) Tb Vl) VF<|Za (Yx WZ (k (.bool true)) Vt) VT<|Za (Ze Vp) V2<|ZR WX false (Yo YQ 9) V3<|ZR WX false (ZI Vm) Uf<|ZR WX false (Yl Vu (k (nI .i64 0)) Tb Vl) Uq<|ZR WX false (Ze Vq) Ug<|ZR Vv true (Yo YQ 0) V8<|ZR Vv true (Yo VX 1) V4<|ZR Vv true (Yo Vn 0) V9<|ZR Vv true (ZI Vb) Us<|ZR Vv true (WM Wp (k (nI .i64 2)) Vj true) Uw<|ZR WX false (Yx Vv Ue (k (.bool false))) Uz<|Za (Yx WX (k (.bool true)) Uv) UG<|Zb) (ZL Uj (Zc (Za (Ze (k (.bool false))) st2<|Zb) Ym) Zb)) (Zc (Za (Ze (k (nI .i64 0))) WN<|Zb) (Zc (Zc (Za (Yo YQ 11) UC<|Za (ZI Ub) UK<|Za (WJ VD) UL<|Za (Ze (k (nI .i64 0))) U1<|Zb) (Z3 0 (Xj MZ))) (Zc (Za (Ze Xy) RI<|Za (Yo YQ 9) Qg<|Za (ZI Sg) Qh<|Za (WM UR SZ Vj false) QC<|Za (Ze R3) st2<|Zb) Ym))))))⟩
def J0:D:=(Zc (Za (Yl Wd Ws Y9 YB) W0<|Zb) (Zc (ZL WU Zb (Y6 2)) (Zc (Z3 3 (Zc (Za (Yi Wg Wd 35) W1<|Za (Yk WI 35) W9<|Za (Xa 55 z35) Y1<|Za (Z4 YG X6 35) d0<|Zb) (Zc (Za (Yo YG 1) Vh<|Za (ZI Wb) Vi<|Za (Yl W4 (k (nI .i64 300)) Tb Vl) Vk<|Za (Ze W8) Vr<|ZR Vg false (Yo YG 1) Vw<|ZR Vg false (ZI W5) VK<|ZR Vg false (Yl WZ (k (nI .i64 0)) Y9 YB) VL<|Za (Yx Vg (k (.bool true)) Vz) VM<|Za (Ze Va) VF<|ZR Vt false (Yo YG 0) VT<|ZR Vt false (ZI Vp) V2<|ZR Vt false (Yl WX (k (nI .i64 1073741824)) Tb Vl) V3<|Za (Yx Vt (k (.bool true)) Vm) Uf<|Za (Ze Vu) Uq<|ZR Vq false (Yo YG 0) Ug<|ZR Vq false (ZI Vv) V8<|ZR Vq false (Yl VX (k (nI .i64 0)) Y9 YB) V4<|Za (Yx Vq (k (.bool true)) Vn) V9<|Zb) (ZL Vb (Zc (Za (Zy 18 []) Us<|Za (Ze Wp) WA<|Zb) Ym) Zb)))) (Za (Yh Wd (k (nI .i64 1))) Uw<|Za (Ze Ue) WR<|Zb))))
def EK:D:=(Zc (Za (Yl XI Y8 Y9 YB) Wo<|Zb) (Zc (ZL Wa Zb (Y6 0)) (Zc (Z3 1 (Zc (Za (Yi XA XI 12) Wt<|Za (Yk Wf 12) Ww<|Za (Xa 42 [(.str []),(nI .i64 0),(nI .u32 0),(nI .u32 0),(nI .u32 0),(nI .i64 0),.nils,.nils,(.str []),(nI .i64 0),(nI .i64 0),.nils]) Wx<|Za (Z4 XD Wm 12) d0<|Zb) (Zc (Za (Yo XD 11) WL<|Za (ZI Wv) WP<|Za (WJ Wg) WV<|Za (Ze (k (nI .i64 0))) WR<|Zb) (Z3 2 (Xj J0))))) (Za (Yh XI (k (nI .i64 1))) Uz<|Za (Ze Uv) Wi<|Zb))))
def EL:D:=(Zc (Za (Yl Uy VD Y9 YB) U1<|Zb) (Zc (ZL UI Zb (Y6 4)) (Zc (Z3 5 (Zc (Za (Ze Uy) U2<|Za (Yi Ub Uy 12) Td<|Za (Yk U4 12) TB<|Za (Xa 31 [(.str []),(nI .i64 0),(nI .u32 0),(nI .u32 0),(nI .u32 0),(nI .i64 0),.nils,.nils,(.str []),(nI .i64 0),(nI .i64 0),.nils]) YL<|Za (Ze UZ) YS<|Za (Z4 Yn Tq 12) d0<|Zb) (Zc (Zc (Za (Yk Yn 12) TU<|Za (VR 31 12 1 [(.str []),(nI .i64 0),(nI .u32 0),(nI .u32 0),(nI .u32 0),(nI .i64 0),.nils,.nils,(.str []),(nI .i64 0),(nI .i64 0),.nils] [⟨0,12,TR⟩]) T8<|Za (W7 [.nils] [⟨0,1,Tx⟩]) Sp<|Za (Zy 19 [Sk]) S3<|Za (Ts Sb) Ra<|Zb) (ZL Tj (Y6 5) Zb)) (Zc (Za (Yk Yn 12) Rb<|Za (Ze YQ) S4<|Za (Ze XC) SK<|Za (Zy 20 [SM,SY,TE]) S5<|Za (Ze SD) Rq<|Za (XH Sm 0) S6<|Za (XH Sm 1) Rc<|Za (Ze SN) YY<|Za (Ze SS) XF<|Zb) (Zc (Za (Yk Xm 1) Rr<|Za (Zy 17 [SO]) Rs<|Za (Ze Yz) Re<|Za (Yi SE S8 12) Rf<|Za (Yk SF 12) Rt<|Za (Ze YQ) RH<|Za (T6 true [Rn,(k (nI .i64 0))]) RI<|Za (Ze XC) Qg<|Za (Zy 21 [SG,UR,Sg]) Qh<|Za (Ze SZ) Rd<|Za (XH Sn 0) QC<|Za (XH Sn 1) QD<|Za (Ze R3) XS<|Za (Ze QB) XJ<|Zb) (Zc (Zc (Za (Ze YD) Qu<|Za (Ze Xr) Qv<|Za (WM Ro Qp Vj true) QX<|Za (Ze Qq) QY<|ZR RA false (Ze Xi) QZ<|ZR RA false (Ze Y7) Q0<|ZR RA false (WM RR QN Vj true) Px<|Za (Yx RA (k (.bool true)) Pv) Py<|Zb) (ZL QO (Zc (Za (Ze (k (.bool false))) WA<|Zb) Ym) Zb)) (Zc (Za (Yk Xm 1) Nl<|Za (Yo Yn 0) Nm<|Za (Yo O6 0) Nn<|Za (ZI OF) RN<|Za (Zy 22 [O5,RL]) QT<|Za (Ze QJ) Oa<|Za (XH PN 0) PZ<|Za (XH PN 1) P0<|Za (Xa 31 [(.str []),(nI .i64 0),(nI .u32 0),(nI .u32 0),(nI .u32 0),(nI .i64 0),.nils,.nils,(.str []),(nI .i64 0),(nI .i64 0),.nils]) XU<|Za (Z4 Xu SR 12) d0<|Za (Ze PH) XV<|Zb) (Zc (Za (Ze XT) Ol<|Za (Ts PJ) Pp<|Za (Ze Qx) QU<|ZR SC false (Yo Xu 0) P1<|ZR SC false (Yo PL 0) P2<|ZR SC false (ZI UX) P3<|ZR SC false (Yo Yn 0) QV<|ZR SC false (Yo QK 0) QW<|ZR SC false (ZI QL) Qb<|ZR SC false (WM Rw R0 Nw true) Qc<|Za (Yx SC (k (.bool true)) R1) Qd<|Zb) (ZL Rx (Zc (Za (Ze (k (.bool false))) WA<|Zb) Ym) Zb))))))))) (Za (Yh Uy (k (nI .i64 1))) Qe<|Za (Ze Ry) UL<|Zb))))
def c4:CF:=⟨[(X5,none)],(Zc (Za (U0 Z0 47) Wz<|Za (Ze (k (.bool false))) WA<|Zb) (Zc (Za (Yk Xm 1) X4<|Za (Zy 16 [XE]) X7<|Za (Z4 Xm XZ 1) d0<|Zb) (Zc (Zc (Za (Yk Xm 1) X9<|Za (Zy 17 [Xp]) We<|Za (WJ XA) Wh<|Za (Ze (k (nI .i64 0))) Wi<|Zb) (Z3 0 (Xj EK))) (Zc (Zc (Za (Yo Xm 0) UG<|Za (ZI Uj) UC<|Za (WJ Ub) UK<|Za (Ze (k (nI .i64 0))) UL<|Zb) (Z3 4 (Xj EL))) (Zc (Za (Zy 18 []) Qf<|Za (Ze Rg) WA<|Zb) Ym)))))⟩
def I6:D:=(Zc (Za (Yl VD Ub Y9 YB) UL<|Zb) (Zc (ZL Uy Zb (Y6 2)) (Zc (Z3 3 (Zc (Za (Ze VD) U1<|Za (Yi Uj VD 2) U2<|Za (Yk UZ 2) Td<|Za (Xa 107 [(.str []),(.str [])]) Wx<|Za (Ze UI) WT<|Za (Z4 XD U4 2) d0<|Zb) (Zc (Za (Ze Wl) TB<|Za (Yl Tq (k (nI .i64 18)) Y9 YB) TU<|Zb) (ZL TR (YK [⟨Yo X5 1,none,[(WA,X5)],T8,.free,0,0⟩,⟨Yo Tx 5,none,[(T8,Tx)],Sp,.free,1,1⟩,⟨ZI Sk,none,[(Sp,Sk)],S3,.read,2,3⟩,⟨Yo XD 0,none,[(Wx,XD)],Ra,.free,3,0⟩,⟨ZI Tj,none,[(Ra,Tj)],Rq,.read,4,8⟩,⟨Yo XD 0,none,[(Wx,XD)],Rb,.free,5,0⟩,⟨ZI SM,none,[(Rb,SM)],S4,.read,6,32⟩,⟨Wc SY,none,[(S4,SY)],SK,.free,7,96⟩,⟨T6 false [TE,(k (nI .i64 300))],none,[(SK,TE)],S5,.free,8,224⟩,⟨WF Sm none (some SD) none,none,[(Rq,Sm),(S5,SD)],S6,.free,9,504⟩,⟨Yo XD 1,none,[(Wx,XD)],Rc,.free,10,0⟩,⟨ZI SS,none,[(Rc,SS)],Rd,.read,11,1024⟩,⟨Yo XD 1,none,[(Wx,XD)],Rr,.free,12,0⟩,⟨ZI SO,none,[(Rr,SO)],Rs,.read,13,4096⟩,⟨Wc SE,none,[(Rs,SE)],Re,.free,14,12288⟩,⟨T6 false [S8,(k (nI .i64 300))],none,[(Re,S8)],Rf,.free,15,28672⟩,⟨WF Sn none (some SF) none,none,[(Rd,Sn),(Rf,SF)],Rt,.free,16,64512⟩,⟨W7 [(.str []),(.str [])] [⟨0,1,SN⟩,⟨1,1,SG⟩],none,[(S6,SN),(Rt,SG)],RH,.free,17,131064⟩,⟨VR 107 2 1 [(.str []),(.str [])] [⟨0,2,Rn⟩],none,[(RH,Rn)],RI,.free,18,262136⟩,⟨UJ Sb UR 107 2 32,none,[(S3,Sb),(RI,UR)],Qg,.eff,19,524287⟩,⟨Yo X5 1,none,[(WA,X5)],Qh,.free,20,1048575⟩,⟨Yo SZ 5,none,[(Qh,SZ)],QC,.free,21,2097151⟩,⟨Z4 R3 Sg 1,none,[(QC,R3),(Qg,Sg)],d0,.eff,22,4194303⟩]) Zb)))) (Za (Yh VD (k (nI .i64 1))) QD<|Za (Ze QB) UK<|Zb))))
def Jr:D:=(Zc (Za (Yl Yn Yz Y9 YB) YY<|Zb) (Zc (ZL YD Zb (Y6 0)) (Zc (Z3 1 (Zc (Za (Ze Yn) XF<|Za (Yi YG Yn 12) XS<|Za (Yk Xr 12) XJ<|Za (Xa 31 [(.str []),(nI .i64 0),(nI .u32 0),(nI .u32 0),(nI .u32 0),(nI .i64 0),.nils,.nils,(.str []),(nI .i64 0),(nI .i64 0),.nils]) WN<|Za (Ze Xi) Xn<|Za (Z4 Xy Y7 12) d0<|Zb) (Zc (Zc (Za (Ze Xh) XU<|Za (WM Xu (k (nI .i64 12)) Vj false) XV<|Zb) (ZL XT (Y6 0) Zb)) (Zc (Za (Yo Xy 0) X4<|Za (Yk XE 9) X7<|Za (Xa 28 [(.str []),(nI .i64 0),(nI .u32 0),(nI .u32 0),(nI .u32 0),(nI .i64 0),.nils,.nils,(.str [])]) WA<|Za (Z4 X5 XZ 9) d0<|Zb) (Zc (YK [⟨Yo X5 0,none,[(WA,X5)],X9,.free,0,0⟩,⟨ZI Xp,none,[(X9,Xp)],We,.read,1,1⟩,⟨Yo X5 0,none,[(WA,X5)],Wh,.free,2,0⟩,⟨ZI Y8,none,[(Wh,Y8)],Wi,.read,3,4⟩,⟨Wc XI,none,[(Wi,XI)],Wo,.free,4,12⟩,⟨T6 false [Wa,(k (nI .i64 300))],none,[(Wo,Wa)],Wt,.free,5,28⟩,⟨WF XA none (some Wf) none,none,[(We,XA),(Wt,Wf)],Ww,.free,6,63⟩,⟨Yo X5 1,none,[(WA,X5)],WL,.free,7,0⟩,⟨Yo Wv 7,none,[(WL,Wv)],WP,.free,8,128⟩,⟨ZI Wg,none,[(WP,Wg)],WV,.read,9,384⟩,⟨Yo X5 1,none,[(WA,X5)],WR,.free,10,0⟩,⟨Yo Wd 7,none,[(WR,Wd)],W0,.free,11,1024⟩,⟨ZI WU,none,[(W0,WU)],W1,.read,12,3072⟩,⟨Wc WI,none,[(W1,WI)],W9,.free,13,7168⟩,⟨T6 false [X6,(k (nI .i64 300))],none,[(W9,X6)],Vh,.free,14,15360⟩,⟨WF Ws none (some Wb) none,none,[(WV,Ws),(Vh,Wb)],Vi,.free,15,32640⟩,⟨Yo X5 1,none,[(WA,X5)],Vk,.free,16,0⟩,⟨Yo W8 6,none,[(Vk,W8)],Vr,.free,17,65536⟩,⟨ZI Vg,none,[(Vr,Vg)],Vw,.read,18,196608⟩,⟨Yo X5 1,none,[(WA,X5)],VK,.free,19,0⟩,⟨Yo WZ 6,none,[(VK,WZ)],VL,.free,20,524288⟩,⟨ZI Vz,none,[(VL,Vz)],VM,.read,21,1572864⟩,⟨WJ Va,none,[(VM,Va)],VF,.free,22,3670016⟩,⟨T6 false [Vt,(k (nI .i64 20))],none,[(VF,Vt)],VT,.free,23,7864320⟩,⟨Kh 1 W5 none (some Vp) none,none,[(Vw,W5),(VT,Vp)],V2,.read,24,16711680⟩,⟨Yo X5 0,none,[(WA,X5)],V3,.free,25,4136959⟩,⟨Z4 Vm Wm 1,none,[(V3,Vm),(Ww,Wm)],d0,.eff,26,37691391⟩,⟨Yo X5 1,none,[(WA,X5)],Uf,.free,27,104857599⟩,⟨Yo Vu 7,none,[(Uf,Vu)],Uq,.free,28,239075327⟩,⟨Z4 Vq W4 1,none,[(Uq,Vq),(Vi,W4)],d0,.eff,29,507510783⟩,⟨Yo X5 1,none,[(WA,X5)],Ug,.free,30,1073741823⟩,⟨Yo Vv 6,none,[(Ug,Vv)],V8,.free,31,2147483647⟩,⟨Z4 VX WX 1,none,[(V8,VX),(V2,WX)],d0,.eff,32,4294967295⟩]) (Zc (Za (Yo X5 1) V4<|Za (Yo Vn 5) V9<|Za (Z4 Vb (k .nils) 1) d0<|Zb) (Zc (Zc (Za (Yo Xy 0) Us<|Za (Yo Wp 1) Uw<|Za (Yo Ue 5) Uz<|Za (ZI Uv) UG<|Za (WJ Uj) UC<|Za (Ze (k (nI .i64 0))) UK<|Zb) (Z3 2 (Xj I6))) (Zc (YK [⟨Yk X5 9,none,[(WA,X5)],Qu,.read,0,0⟩,⟨Yo Xy 11,none,[(WN,Xy)],Qv,.free,1,0⟩,⟨ZI Qp,none,[(Qv,Qp)],QX,.read,2,2⟩,⟨Yo Xy 11,none,[(WN,Xy)],QY,.free,3,0⟩,⟨ZI RA,none,[(QY,RA)],QZ,.read,4,8⟩,⟨WJ RR,none,[(QZ,RR)],Q0,.free,5,24⟩,⟨T6 false [QN,(k (nI .i64 20))],none,[(Q0,QN)],Px,.free,6,56⟩,⟨Kh 35 Qq none (some Pv) none,none,[(QX,Qq),(Px,Pv)],Py,.read,7,126⟩,⟨Yo Xy 0,none,[(WN,Xy)],Nl,.free,9,31⟩,⟨Zy 57 [QO],none,[(Py,QO)],Oa,.eff,8,254⟩,⟨Z4 O5 Ro 9,none,[(Nl,O5),(Qu,Ro)],d0,.eff,10,1023⟩,⟨Yo Xy 11,none,[(WN,Xy)],Nm,.free,11,2047⟩,⟨Z4 O6 PN 1,none,[(Nm,O6),(Oa,PN)],d0,.eff,12,4095⟩]) (Za (Yo Xm 0) Nn<|Za (ZI OF) RN<|Za (Yk Xy 12) QT<|Za (VR 31 12 1 [(.str []),(nI .i64 0),(nI .u32 0),(nI .u32 0),(nI .u32 0),(nI .i64 0),.nils,.nils,(.str []),(nI .i64 0),(nI .i64 0),.nils] [⟨0,12,QJ⟩]) PZ<|Za (UJ RL SR 31 12 152) P0<|Za (Yo Xm 0) Ol<|Za (Z4 PJ PH 1) d0<|Zb))))))))) (Za (Yh Yn (k (nI .i64 1))) Pp<|Za (Ze Qx) YL<|Zb))))
def c16:CF:=⟨[(XC,some (1,true))],(Zc (Za (U0 Z0 47) st1<|Za (Xa 47 [.nils]) st2<|Zb) (Zc (Za (Xa 47 [.nils]) Wz<|Zb) (Zc (Zc (Za (Yo YQ 0) WG<|Za (ZI XP) Y1<|Za (WJ YG) YS<|Za (Ze (k (nI .i64 0))) YL<|Zb) (Z3 0 (Xj Jr))) (Zc (Za (Yk Xm 1) QU<|Za (Z4 XC SC 1) d0<|Zb) Ym))))⟩
def GV:D:=(Zc (Za (Yl Wf Wa Y9 YB) Ww<|Zb) (Zc (ZL Wm Zb (Y6 2)) (Zc (Z3 3 (Zc (Za (Yi XI Wf 35) WL<|Za (Yk Wv 35) WP<|Za (Xa 108 z35) Wx<|Za (Z4 XD Wg 35) d0<|Zb) (Za (Yo X5 11) WV<|Za (ZI Ws) WR<|Za (Yk XD 35) W0<|Za (VR 55 35 1 z35 [⟨0,35,WU⟩]) W1<|Za (UJ Wd WI 55 35 56) W9<|Za (Yo X5 11) Vh<|Za (Z4 Wb X6 1) d0<|Zb))) (Za (Yh Wf (k (nI .i64 1))) Vi<|Za (Ze W4) Wt<|Zb))))
def I7:D:=(Zc (Za (Yl Yn Yz Y9 YB) YY<|Zb) (Zc (ZL YD Zb (Y6 0)) (Zc (Z3 1 (Zc (Za (Yi YG Yn 12) XF<|Za (Yk Xi 12) XS<|Za (Xa 31 [(.str []),(nI .i64 0),(nI .u32 0),(nI .u32 0),(nI .u32 0),(nI .i64 0),.nils,.nils,(.str []),(nI .i64 0),(nI .i64 0),.nils]) WN<|Za (Z4 Xy Xr 12) d0<|Zb) (Zc (Za (Yo Xy 0) XJ<|Za (Yk Y7 9) XU<|Za (Yo Xy 9) XV<|Za (ZI XT) X4<|Za (Yo Xy 10) X7<|Za (ZI XZ) X9<|Za (W7 [(.str []),(nI .i64 0),(nI .u32 0),(nI .u32 0),(nI .u32 0),(nI .i64 0),.nils,.nils,(.str []),(nI .i64 0),(nI .i64 0),.nils] [⟨0,9,Xu⟩,⟨9,1,XE⟩,⟨10,1,Xp⟩]) We<|Za (Xa 42 [(.str []),(nI .i64 0),(nI .u32 0),(nI .u32 0),(nI .u32 0),(nI .i64 0),.nils,.nils,(.str []),(nI .i64 0),(nI .i64 0),.nils]) WA<|Za (Z4 X5 XA 12) d0<|Zb) (Zc (Zc (Za (Yo Xy 11) Wh<|Za (ZI Y8) Wi<|Za (WJ XI) Wo<|Za (Ze (k (nI .i64 0))) Wt<|Zb) (Z3 2 (Xj GV))) (Za (Ze Xm) Vk<|Za (Yk X5 12) Vr<|Za (VR 42 12 1 [(.str []),(nI .i64 0),(nI .u32 0),(nI .u32 0),(nI .u32 0),(nI .i64 0),.nils,.nils,(.str []),(nI .i64 0),(nI .i64 0),.nils] [⟨0,12,Vg⟩]) Vw<|Za (UJ W8 W5 42 12 152) VK<|Za (Ze WZ) Wz<|Zb))))) (Za (Yh Yn (k (nI .i64 1))) VL<|Za (Ze Vz) YL<|Zb))))
def c17:CF:=⟨[(XC,none)],(Zc (Za (U0 Z0 47) st1<|Za (Ze (k .nils)) st2<|Zb) (Zc (Za (Ze (k .nils)) Wz<|Zb) (Zc (Zc (Za (Yo YQ 0) WG<|Za (ZI XP) Y1<|Za (WJ YG) YS<|Za (Ze (k (nI .i64 0))) YL<|Zb) (Z3 0 (Xj I7))) (Zc (Za (Ze Xm) VM<|Za (Ze Va) st2<|Zb) Ym))))⟩
def dw:CF:=⟨[(XC,none)],(Zc (Za (Ze (k .nils)) st2<|Zb) (Zc (Zc (Za (Ze Z0) Wz<|Za (WM Xm (k .nils) og false) Xn<|Zb) (ZL Xh (Zc (Za (Ze (k .nils)) st2<|Zb) Ym) Zb)) (Zc (Za (VR 108 35 0 (List.replicate 0 z35).flatten []) WN<|Za (Ze Z0) WA<|Za (UJ Xy X5 108 35 56) WT<|Za (Ze Wl) st2<|Zb) Ym)))⟩
def MX:D:=(Zc (Za (Yl XI Y8 Y9 YB) Wo<|Zb) (Zc (ZL Wa Zb (Y6 0)) (Zc (Z3 1 (Zc (Za (Ze XI) Wt<|Za (Yi XA XI 35) Ww<|Za (Yk Wm 35) WL<|Za (Xa 108 z35) WG<|Za (Ze Wf) Wx<|Za (Z4 XP Wv 35) d0<|Zb) (Zc (Za (Ze XC) WP<|Za (Yl Wg (k (nI .i64 0)) Tb Vl) WV<|Za (Ze Ws) WR<|ZR Wd true (Yo XP 0) W0<|ZR Wd true (ZI WU) W1<|ZR Wd true (Ze YQ) W9<|ZR Wd true (Ze XC) Vh<|ZR Wd true (Yh X6 Wb) Vi<|ZR Wd true (Yl WI W4 Y9 YB) Vk<|Za (Yx Wd W8 (k (.bool false))) Vr<|Za (Ze Vg) Vw<|ZR W5 true (Yo XP 0) VK<|ZR W5 true (ZI WZ) VL<|ZR W5 true (Yo XP 1) VM<|ZR W5 true (ZI Va) VF<|ZR W5 true (Yh Vz Vt) VT<|ZR W5 true (Ze YQ) V2<|ZR W5 true (Yl Vp WX Tb Vl) V3<|Za (Yx W5 Vm (k (.bool false))) Uf<|Zb) (ZL Vu (Zc (Zc (Za (Ze Wl) Uq<|Za (WM Vq (k (nI .i64 0)) Vj false) Ug<|Zb) (ZL Vv (Za (Ze XD) V8<|Za (Ze VX) WA<|Zb) Zb)) (Za (Ze XD) V4<|Za (Yh Vn (k (nI .i64 1))) V9<|Za (Ze Vb) WT<|Zb)) Zb)))) (Za (Yh XI (k (nI .i64 1))) Us<|Za (Ze Wp) Wi<|Zb))))
def c20:CF:=⟨[(X5,none),(Wl,none)],(Zc (Za (U0 Z0 31) Wz<|Za (Ze (k (nI .i64 0))) WA<|Za (Ze (k (nI .i64 0))) WT<|Zb) (Zc (Za (Ze YQ) Y1<|Za (T6 true [YG,(k (nI .i64 0))]) YS<|Za (Ze XC) YL<|Za (T6 true [Yn,(k (nI .i64 0))]) YY<|Za (Ze Yz) st1<|Za (Ze YD) st2<|Zb) (Zc (Za (Ze XC) XF<|Za (Yo Xm 9) XS<|Za (ZI Xr) XJ<|Za (Ze YQ) XU<|Za (Xq Y7 Xu) XV<|Za (T6 true [XT,(k (nI .i64 0))]) X4<|Za (T6 false [Xi,XE]) X7<|Za (Ze XZ) st2<|Zb) (Zc (Zc (Za (Yo Xm 11) X9<|Za (ZI Xp) We<|Za (WJ XA) Wh<|Za (Ze (k (nI .i64 0))) Wi<|Zb) (Z3 0 (Xj MX))) (Zc (Za (Ze X5) Uw<|Za (Ze Wl) Uz<|Za (Ze Ue) WA<|Za (Ze Uv) WT<|Zb) Ym)))))⟩
def LJ:D:=(Zc (Zc (Za (Ze YD) Ww<|Za (Yo Yz 1) WL<|Za (ZI Wv) WP<|Za (Yl Wm Wg Y9 YB) WV<|Zb) (ZL Ws Zb (Y6 2))) (Zc (Z3 3 (Zc (Za (Yo Yz 0) W1<|Za (ZI WI) W9<|Za (Ze YD) Vh<|Za (Yh X6 Wb) Vi<|Za (Ze W4) XF<|Zb) (Zc (Za (Ze Xi) Vk<|Za (Ze YQ) Vr<|Za (Yl W8 Vg VE XW) Vw<|Za (Ze W5) VK<|ZR WZ true (Ze Xi) VL<|ZR WZ true (Yo Xm 9) VM<|ZR WZ true (ZI Va) VF<|ZR WZ true (Yl Vz Vt Y9 YB) VT<|Za (Yx WZ Vp (k (.bool false))) V2<|Za (Ze WX) V3<|ZR Vm true (Ze YQ) Uf<|ZR Vm true (Yl Vu (k (nI .i64 0)) Y9 YB) Uq<|ZR Vm true (Ze Vq) Ug<|ZR Vv true (Ze Xi) V8<|ZR Vv true (Ze XC) V4<|ZR Vv true (Yl VX Vn Y9 YB) V9<|ZR Vm true (Yx Vv Vb (k (.bool false))) Us<|ZR Vm true (Ze Wp) Uw<|ZR Ue false (Ze YQ) Uz<|ZR Ue false (Yl Uv (k (nI .i64 0)) VE XW) UG<|ZR Ue false (Ze Uj) UC<|ZR Ub true (Ze Xi) UK<|ZR Ub true (Ze YQ) UL<|ZR Ub true (Xq VD Uy) U1<|ZR Ub true (Ze XC) U2<|ZR Ub true (Yl UI UZ Y9 YB) Td<|ZR Ue false (Yx Ub U4 (k (.bool false))) TB<|ZR Vm true (Yx Ue (k (.bool true)) Tq) TU<|Za (Yx Vm TR (k (.bool false))) T8<|Zb) (ZL Tx (Za (Ze (k (.bool true))) YL<|Zb) Zb)))) (Za (Ze YD) WR<|Za (Yh Wd (k (nI .i64 1))) W0<|Za (Ze WU) YY<|Zb)))
def LL:D:=(Zc (Zc (Za (Ze YG) XS<|Za (Yo Xm 11) XJ<|Za (ZI Y7) XU<|Za (WJ Xu) XV<|Za (Yl Xr XT Y9 YB) X4<|Zb) (ZL XE Zb (Y6 0))) (Zc (Z3 1 (Zc (Za (Yo Xm 11) We<|Za (ZI XA) Wh<|Za (Ze YG) Wi<|Za (Yi Y8 XI 35) Wo<|Za (Yk Wa 35) Wt<|Za (Xa 55 z35) YS<|Za (Z4 Yz Wf 35) d0<|Zb) (Zc (Za (Ze (k (.bool false))) YL<|Zb) (Zc (Zc (Za (Ze (k (nI .i64 0))) YY<|Zb) (Z3 2 (Xj LJ))) (Zc (Zc (Za (Ze Yn) Sp<|Za (Ze Sk) S3<|ZR Sb true (Ze XP) Ra<|ZR Sb true (WM Tj (k (nI .i64 0)) Vj false) Rq<|Za (Yx Sb Sm (k (.bool false))) Rb<|Zb) (ZL SM (Za (Ze YG) S4<|Za (Ze SY) Wx<|Zb) Zb)) (Zc (Za (Ze Yn) SK<|Zb) (ZL TE (Za (Ze YG) S5<|Za (Yh SD (k (nI .i64 1))) S6<|Za (Ze SN) WG<|Zb) Zb))))))) (Za (Ze YG) X7<|Za (Yh XZ (k (nI .i64 1))) X9<|Za (Ze Xp) Y1<|Zb)))
def c21:CF:=⟨[(X5,none),(Wl,none)],(Zc (Za (U0 Z0 42) Wz<|Za (Ze (k (nI .i64 0))) WA<|Za (Ze (k (nI .i64 0))) WT<|Zb) (Zc (Za (Ze (k (nI .i64 0))) Wx<|Zb) (Zc (Za (Ze (k (nI .i64 0))) WG<|Zb) (Zc (Zc (Za (Ze (k (nI .i64 0))) Y1<|Zb) (Z3 0 (Xj LL))) (Zc (Za (Ze XD) Rc<|Za (Ze XP) Rd<|Za (Ze SS) WA<|Za (Ze Sn) WT<|Zb) Ym)))))⟩
def aB:CF:=⟨[(Xh,some (12,true)),(Xy,none)],(Zc (Za (U0 Z0 47) st2<|Za (U0 YQ 9) Wz<|Za (Xa 31 [(.str []),(nI .i64 0),(nI .u32 0),(nI .u32 0),(nI .u32 0),(nI .i64 0),.nils,.nils,(.str []),(nI .i64 0),(nI .i64 0),.nils]) Xn<|Za (Ze (k (.bool false))) WN<|Zb) (Zc (Za (Yo XC 0) WT<|Za (ZI Wl) Wx<|Za (Oj 66 [] [Xm]) WG<|Za (Zy 65 [XD,XP]) Y1<|Za (Ze YG) WA<|Zb) (Zc (Zc (Za (Ze X5) YS<|Za (Yl Yz (k (nI .i64 0)) Y9 YB) YL<|Zb) (ZL Yn (Zc (Za (W7 [(.str []),(nI .i64 0),(nI .u32 0),(nI .u32 0),(nI .u32 0),(nI .i64 0),.nils,.nils,(.str []),(nI .i64 0),(nI .i64 0),.nils] []) YY<|Za (Z4 Xh YD 12) d0<|Za (Ze (k (.bool false))) WN<|Zb) Ym) Zb)) (Zc (Za (Yo XC 0) XF<|Za (ZI Xi) XS<|Za (Ze X5) XJ<|Za (Yi Xr Y7 12) XU<|Za (Yk Xu 12) XV<|Za (Z4 Xh XT 12) d0<|Za (Ze (k (.bool true))) WN<|Zb) Ym))))⟩
def aC:CF:=⟨[(Xm,none)],(Zc (Za (U0 Z0 31) st2<|Za (Ze (k (.bool false))) Wz<|Zb) (Zc (Za (Yo XC 0) Xn<|Za (Yo Xh 0) WN<|Za (ZI Xy) WA<|Za (ZI YQ) WT<|Za (WM X5 Wl Nw false) Wx<|Za (Ze XD) Wz<|Zb) Ym))⟩
def GW:D:=(Zc (Za (Yl XD Wl Y9 YB) WG<|Zb) (Zc (ZL XP Zb (Y6 0)) (Zc (Z3 1 (Zc (Za (Ze XD) Y1<|Za (Ze YG) WN<|Zb) (Zc (Za (Ze YQ) YS<|Za (Ze Z0) YL<|Za (Ze Xy) YY<|Za (Yi Yn YD 12) XF<|Za (Yk Xi 12) XS<|Za (Uo Yz Tryz.prog [Xr]) XJ<|Zb) (ZL Y7 (Zc (Za (Ze Xy) XU<|Za (Ze Xu) Xn<|Zb) Ym) Zb)))) (Za (Yh XD (k (nI .i64 1))) XV<|Za (Ze XT) Wx<|Zb))))
def dA:CF:=⟨[(Xh,none)],(Zc (Za (Ze (k (nI .i64 0))) Xn<|Zb) (Zc (Zc (Za (Ze Z0) WA<|Za (WJ X5) WT<|Za (Ze (k (nI .i64 0))) Wx<|Zb) (Z3 0 (Xj GW))) (Zc (Za (Ze (k (.int .i64 (.negSucc 0)))) Xn<|Zb) Ym)))⟩
end
end
end Go.AI
