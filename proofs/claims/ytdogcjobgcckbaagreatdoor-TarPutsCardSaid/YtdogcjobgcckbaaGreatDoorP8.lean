/- Equations in bundles; plain words; the code of the functions that the law comes to. -/
import Derived.Test.YtdogcjobgcckbaaGreatDoorP7
import Derived.Test.YtdogcjobgcckbaaGreatDoorP5
import Derived.Test.YtdogcjobgcckbaaGreatDoorProg
set_option maxRecDepth 1000000
set_option maxHeartbeats 0
set_option linter.unusedVariables false
set_option linter.unusedSimpArgs false
namespace Go.AI
open Go
noncomputable section
section
open Go N8
theorem Uk(b:Bool)(yes no:WM):UX Xz b yes no=no:=rfl
theorem nE{r r':WM}(h:r=r')(k:TM->Heap->X->WM):PF r k=PF r' k:=by rw[h]
theorem ii{r r':OR}(h:r=r')(n:TM->Heap->X->WM)(d:ZL)(c:Ctx)(tm:TM)(H:Heap)(x:X):Oc n d c tm H x r=Oc n d c tm H x r':=by rw[h]
theorem ik{r r':CR}(h:r=r')(n:TM->Heap->X->WM)(d:ZL)(tm:TM)(x:X):Bi n d tm x r=Bi n d tm x r':=by rw[h]
theorem ij{v v':AV}(h:v=v')(k:Bool->WM):y9 v k=y9 v' k:=by rw[h]
theorem so{v v':AV}(h:v=v')(b:Bool)(yes no:WM):UX v b yes no=UX v' b yes no:=by rw[h]
theorem nB{v v':Bool}(h:v=v')(a b:TM->Heap->X->WM)(tm:TM)(H:Heap)(x:X):HB a b v tm H x=HB a b v' tm H x:=by rw[h]
theorem ss{r r':WM}(h:r=r')(i:Nat):Pa i r=Pa i r':=by rw[h]
theorem il{r r':WM}(h:r=r')(dc:Option AV->Nat->List AV->Heap->DR)(rs:List (Z1×Option (Nat×Bool))):LY dc rs r=LY dc rs r':=by rw[h]
theorem nC{r r':OR}(h:r=r')(p:PI)(nx:PK)(rs:List RD)(tm:TM)(H:Heap)(x:X):Kc p nx rs tm H x r=Kc p nx rs tm H x r':=by rw[h]
theorem nD{r r':OR}(h:r=r')(p:PI)(nx:PK)(rs:List RD)(tm:TM)(H:Heap)(x:X):GF p nx rs tm H x r=GF p nx rs tm H x r':=by rw[h]
theorem ie{r r':OR}(h:r=r')(ds:List ZL)(p:PI)(nx:PK)(rs:List RD)(c:Ctx)(tm:TM)(x:X):HF ds p nx rs c tm x r=HF ds p nx rs c tm x r':=by rw[h]
theorem ip{r r':CR}(h:r=r')(ds:List ZL)(p:PI)(nx:PK)(rs:List RD)(tm:TM)(x:X):Bt ds p nx rs tm x r=Bt ds p nx rs tm x r':=by rw[h]
attribute [congr] nE ii ik ij so nB ss il nC nD ie ip
theorem Z6:(∀tm:TM,Yb tm=a0 (a0 (a0 tm))∧Wc tm=a1 (a0 (a0 tm))∧VX tm=a2 (a0 (a0 tm))∧W8 tm=a3 (a0 (a0 tm))∧Y4 tm=a4 (a0 (a0 tm))∧YW tm=a5 (a0 (a0 tm))∧XI tm=a6 (a0 (a0 tm))∧XQ tm=a7 (a0 (a0 tm))∧Wi tm=a0 (a1 (a0 tm))∧WG tm=a1 (a1 (a0 tm))∧YY tm=a2 (a1 (a0 tm))∧Xt tm=a3 (a1 (a0 tm))∧Xr tm=a4 (a1 (a0 tm))∧Xf tm=a5 (a1 (a0 tm))∧Xo tm=a6 (a1 (a0 tm))∧Wb tm=a7 (a1 (a0 tm))∧XF tm=a0 (a2 (a0 tm))∧Wh tm=a1 (a2 (a0 tm))∧Wo tm=a2 (a2 (a0 tm))∧Wz tm=a3 (a2 (a0 tm))∧W6 tm=a4 (a2 (a0 tm))∧Vq tm=a5 (a2 (a0 tm))∧VH tm=a6 (a2 (a0 tm))∧WU tm=a7 (a2 (a0 tm))∧Ve tm=a0 (a3 (a0 tm))∧Vx tm=a1 (a3 (a0 tm))∧VY tm=a2 (a3 (a0 tm))∧V7 tm=a3 (a3 (a0 tm))∧VO tm=a4 (a3 (a0 tm))∧VQ tm=a5 (a3 (a0 tm))∧UF tm=a6 (a3 (a0 tm))∧UR tm=a7 (a3 (a0 tm)))∧(∀(tm:TM) (v:AV),st0 tm v=u0 (u0 (u0 λ_=>v)) tm∧st1 tm v=u0 (u0 (u1 λ_=>v)) tm∧st2 tm v=u0 (u0 (u2 λ_=>v)) tm∧Vl tm v=u0 (u0 (u3 λ_=>v)) tm∧Y9 tm v=u0 (u0 (u4 λ_=>v)) tm∧WX tm v=u0 (u0 (u5 λ_=>v)) tm∧W9 tm v=u0 (u0 (u6 λ_=>v)) tm∧Vw tm v=u0 (u0 (u7 λ_=>v)) tm∧Vz tm v=u0 (u1 (u0 λ_=>v)) tm∧Um tm v=u0 (u1 (u1 λ_=>v)) tm∧XH tm v=u0 (u1 (u2 λ_=>v)) tm∧XM tm v=u0 (u1 (u3 λ_=>v)) tm∧XW tm v=u0 (u1 (u4 λ_=>v)) tm∧XU tm v=u0 (u1 (u5 λ_=>v)) tm∧Wp tm v=u0 (u1 (u6 λ_=>v)) tm∧Wy tm v=u0 (u1 (u7 λ_=>v)) tm∧Ws tm v=u0 (u2 (u0 λ_=>v)) tm∧WL tm v=u0 (u2 (u1 λ_=>v)) tm∧WW tm v=u0 (u2 (u2 λ_=>v)) tm∧Vj tm v=u0 (u2 (u3 λ_=>v)) tm∧Vt tm v=u0 (u2 (u4 λ_=>v)) tm∧VS tm v=u0 (u2 (u5 λ_=>v)) tm∧VT tm v=u0 (u2 (u6 λ_=>v)) tm∧V4 tm v=u0 (u2 (u7 λ_=>v)) tm∧V9 tm v=u0 (u3 (u0 λ_=>v)) tm∧Uf tm v=u0 (u3 (u1 λ_=>v)) tm∧Uw tm v=u0 (u3 (u2 λ_=>v)) tm∧Ux tm v=u0 (u3 (u3 λ_=>v)) tm∧UH tm v=u0 (u3 (u4 λ_=>v)) tm∧Ta tm v=u0 (u3 (u5 λ_=>v)) tm∧Tj tm v=u0 (u3 (u6 λ_=>v)) tm∧TO tm v=u0 (u3 (u7 λ_=>v)) tm):=⟨λ_=>⟨rfl,rfl,rfl,rfl,rfl,rfl,rfl,rfl,rfl,rfl,rfl,rfl,rfl,rfl,rfl,rfl,rfl,rfl,rfl,rfl,rfl,rfl,rfl,rfl,rfl,rfl,rfl,rfl,rfl,rfl,rfl,rfl⟩,λ_ _=>⟨rfl,rfl,rfl,rfl,rfl,rfl,rfl,rfl,rfl,rfl,rfl,rfl,rfl,rfl,rfl,rfl,rfl,rfl,rfl,rfl,rfl,rfl,rfl,rfl,rfl,rfl,rfl,rfl,rfl,rfl,rfl,rfl⟩⟩
theorem Vk:(∀tm:TM,UO tm=a0 (a4 (a0 tm))∧UW tm=a1 (a4 (a0 tm))∧Tt tm=a2 (a4 (a0 tm))∧TR tm=a3 (a4 (a0 tm))∧RP tm=a4 (a4 (a0 tm))∧TS tm=a5 (a4 (a0 tm))∧T7 tm=a6 (a4 (a0 tm))∧RQ tm=a7 (a4 (a0 tm))∧Ru tm=a0 (a5 (a0 tm))∧Qq tm=a1 (a5 (a0 tm))∧Rv tm=a2 (a5 (a0 tm))∧RX tm=a3 (a5 (a0 tm))∧Rw tm=a4 (a5 (a0 tm))∧Rx tm=a5 (a5 (a0 tm))∧Q5 tm=a6 (a5 (a0 tm))∧RY tm=a7 (a5 (a0 tm))∧OF tm=a0 (a6 (a0 tm))∧OG tm=a1 (a6 (a0 tm))∧Og tm=a2 (a6 (a0 tm))∧RR tm=a3 (a6 (a0 tm))∧Pw tm=a4 (a6 (a0 tm))∧NR tm=a5 (a6 (a0 tm))∧Oh tm=a6 (a6 (a0 tm))∧Mm tm=a7 (a6 (a0 tm))∧NS tm=a0 (a7 (a0 tm))∧NT tm=a1 (a7 (a0 tm))∧Oi tm=a2 (a7 (a0 tm))∧Np tm=a3 (a7 (a0 tm))∧OH tm=a4 (a7 (a0 tm))∧Nq tm=a5 (a7 (a0 tm))∧O0 tm=a6 (a7 (a0 tm))∧Nr tm=a7 (a7 (a0 tm)))∧(∀(tm:TM) (v:AV),TP tm v=u0 (u4 (u0 λ_=>v)) tm∧TU tm v=u0 (u4 (u1 λ_=>v)) tm∧SB tm v=u0 (u4 (u2 λ_=>v)) tm∧SJ tm v=u0 (u4 (u3 λ_=>v)) tm∧Ri tm v=u0 (u4 (u4 λ_=>v)) tm∧Rj tm v=u0 (u4 (u5 λ_=>v)) tm∧Rk tm v=u0 (u4 (u6 λ_=>v)) tm∧RG tm v=u0 (u4 (u7 λ_=>v)) tm∧Qw tm v=u0 (u5 (u0 λ_=>v)) tm∧Qx tm v=u0 (u5 (u1 λ_=>v)) tm∧Pr tm v=u0 (u5 (u2 λ_=>v)) tm∧Qf tm v=u0 (u5 (u3 λ_=>v)) tm∧PA tm v=u0 (u5 (u4 λ_=>v)) tm∧PZ tm v=u0 (u5 (u5 λ_=>v)) tm∧P0 tm v=u0 (u5 (u6 λ_=>v)) tm∧P1 tm v=u0 (u5 (u7 λ_=>v)) tm∧Ov tm v=u0 (u6 (u0 λ_=>v)) tm∧OP tm v=u0 (u6 (u1 λ_=>v)) tm∧O8 tm v=u0 (u6 (u2 λ_=>v)) tm∧NG tm v=u0 (u6 (u3 λ_=>v)) tm∧NH tm v=u0 (u6 (u4 λ_=>v)) tm∧NI tm v=u0 (u6 (u5 λ_=>v)) tm∧NJ tm v=u0 (u6 (u6 λ_=>v)) tm∧NW tm v=u0 (u6 (u7 λ_=>v)) tm∧NX tm v=u0 (u7 (u0 λ_=>v)) tm∧NY tm v=u0 (u7 (u1 λ_=>v)) tm∧Mt tm v=u0 (u7 (u2 λ_=>v)) tm∧Mu tm v=u0 (u7 (u3 λ_=>v)) tm∧N0 tm v=u0 (u7 (u4 λ_=>v)) tm∧Mv tm v=u0 (u7 (u5 λ_=>v)) tm∧Mw tm v=u0 (u7 (u6 λ_=>v)) tm∧Mx tm v=u0 (u7 (u7 λ_=>v)) tm):=⟨λ_=>⟨rfl,rfl,rfl,rfl,rfl,rfl,rfl,rfl,rfl,rfl,rfl,rfl,rfl,rfl,rfl,rfl,rfl,rfl,rfl,rfl,rfl,rfl,rfl,rfl,rfl,rfl,rfl,rfl,rfl,rfl,rfl,rfl⟩,λ_ _=>⟨rfl,rfl,rfl,rfl,rfl,rfl,rfl,rfl,rfl,rfl,rfl,rfl,rfl,rfl,rfl,rfl,rfl,rfl,rfl,rfl,rfl,rfl,rfl,rfl,rfl,rfl,rfl,rfl,rfl,rfl,rfl,rfl⟩⟩
theorem QS:(∀tm:TM,Ns tm=a0 (a0 (a1 tm))∧Q6 tm=a1 (a0 (a1 tm))∧RZ tm=a2 (a0 (a1 tm))∧NU tm=a3 (a0 (a1 tm))∧LS tm=a4 (a0 (a1 tm))∧PQ tm=a5 (a0 (a1 tm))∧Li tm=a6 (a0 (a1 tm))∧Kk tm=a7 (a0 (a1 tm))∧Oj tm=a0 (a1 (a1 tm))∧Ok tm=a1 (a1 (a1 tm))∧Js tm=a2 (a1 (a1 tm))∧Kl tm=a3 (a1 (a1 tm))∧II tm=a4 (a1 (a1 tm))∧IJ tm=a5 (a1 (a1 tm))∧LU tm=a6 (a1 (a1 tm))∧LV tm=a7 (a1 (a1 tm))∧Jt tm=a0 (a2 (a1 tm))∧Ju tm=a1 (a2 (a1 tm))∧Ry tm=a2 (a2 (a1 tm))∧Jv tm=a3 (a2 (a1 tm))∧Q7 tm=a4 (a2 (a1 tm))∧Lj tm=a5 (a2 (a1 tm))∧Jw tm=a6 (a2 (a1 tm))∧Nt tm=a7 (a2 (a1 tm))∧LW tm=a0 (a3 (a1 tm))∧Jx tm=a1 (a3 (a1 tm))∧IK tm=a2 (a3 (a1 tm))∧Lk tm=a3 (a3 (a1 tm))∧Km tm=a4 (a3 (a1 tm))∧Fw tm=a5 (a3 (a1 tm))∧ER tm=a6 (a3 (a1 tm))∧ES tm=a7 (a3 (a1 tm)))∧(∀(tm:TM) (v:AV),M1 tm v=u1 (u0 (u0 λ_=>v)) tm∧M2 tm v=u1 (u0 (u1 λ_=>v)) tm∧M3 tm v=u1 (u0 (u2 λ_=>v)) tm∧M4 tm v=u1 (u0 (u3 λ_=>v)) tm∧LZ tm v=u1 (u0 (u4 λ_=>v)) tm∧KL tm v=u1 (u0 (u5 λ_=>v)) tm∧KM tm v=u1 (u0 (u6 λ_=>v)) tm∧KN tm v=u1 (u0 (u7 λ_=>v)) tm∧KO tm v=u1 (u1 (u0 λ_=>v)) tm∧KQ tm v=u1 (u1 (u1 λ_=>v)) tm∧KR tm v=u1 (u1 (u2 λ_=>v)) tm∧KS tm v=u1 (u1 (u3 λ_=>v)) tm∧JA tm v=u1 (u1 (u4 λ_=>v)) tm∧I9 tm v=u1 (u1 (u5 λ_=>v)) tm∧Hf tm v=u1 (u1 (u6 λ_=>v)) tm∧JB tm v=u1 (u1 (u7 λ_=>v)) tm∧JC tm v=u1 (u2 (u0 λ_=>v)) tm∧JD tm v=u1 (u2 (u1 λ_=>v)) tm∧KT tm v=u1 (u2 (u2 λ_=>v)) tm∧KU tm v=u1 (u2 (u3 λ_=>v)) tm∧KV tm v=u1 (u2 (u4 λ_=>v)) tm∧JE tm v=u1 (u2 (u5 λ_=>v)) tm∧JF tm v=u1 (u2 (u6 λ_=>v)) tm∧JG tm v=u1 (u2 (u7 λ_=>v)) tm∧JH tm v=u1 (u3 (u0 λ_=>v)) tm∧JI tm v=u1 (u3 (u1 λ_=>v)) tm∧Hg tm v=u1 (u3 (u2 λ_=>v)) tm∧Hh tm v=u1 (u3 (u3 λ_=>v)) tm∧GV tm v=u1 (u3 (u4 λ_=>v)) tm∧F6 tm v=u1 (u3 (u5 λ_=>v)) tm∧EZ tm v=u1 (u3 (u6 λ_=>v)) tm∧E0 tm v=u1 (u3 (u7 λ_=>v)) tm):=⟨λ_=>⟨rfl,rfl,rfl,rfl,rfl,rfl,rfl,rfl,rfl,rfl,rfl,rfl,rfl,rfl,rfl,rfl,rfl,rfl,rfl,rfl,rfl,rfl,rfl,rfl,rfl,rfl,rfl,rfl,rfl,rfl,rfl,rfl⟩,λ_ _=>⟨rfl,rfl,rfl,rfl,rfl,rfl,rfl,rfl,rfl,rfl,rfl,rfl,rfl,rfl,rfl,rfl,rfl,rfl,rfl,rfl,rfl,rfl,rfl,rfl,rfl,rfl,rfl,rfl,rfl,rfl,rfl,rfl⟩⟩
theorem Lb:(∀tm:TM,ET tm=a0 (a4 (a1 tm))∧IL tm=a1 (a4 (a1 tm))∧Aj tm=a2 (a4 (a1 tm))∧CH tm=a3 (a4 (a1 tm))∧JR tm=a4 (a4 (a1 tm))∧HT tm=a5 (a4 (a1 tm))∧MG tm=a6 (a4 (a1 tm))∧MH tm=a7 (a4 (a1 tm))∧HU tm=a0 (a5 (a1 tm))∧Of tm=a1 (a5 (a1 tm))∧Kh tm=a2 (a5 (a1 tm))∧OV tm=a3 (a5 (a1 tm))∧Ev tm=a4 (a5 (a1 tm))∧HV tm=a5 (a5 (a1 tm))∧HW tm=a6 (a5 (a1 tm))∧JS tm=a7 (a5 (a1 tm))∧JT tm=a0 (a6 (a1 tm))∧JU tm=a1 (a6 (a1 tm))∧JV tm=a2 (a6 (a1 tm))∧JW tm=a3 (a6 (a1 tm))∧JX tm=a4 (a6 (a1 tm))∧MI tm=a5 (a6 (a1 tm))∧MJ tm=a6 (a6 (a1 tm))∧JY tm=a7 (a6 (a1 tm))∧JZ tm=a0 (a7 (a1 tm))∧RH tm=a1 (a7 (a1 tm))∧HY tm=a2 (a7 (a1 tm))∧Ki tm=a3 (a7 (a1 tm))∧Kj tm=a4 (a7 (a1 tm))∧Ew tm=a5 (a7 (a1 tm))∧Ct tm=a6 (a7 (a1 tm))∧Cu tm=a7 (a7 (a1 tm)))∧(∀(tm:TM) (v:AV),E1 tm v=u1 (u4 (u0 λ_=>v)) tm∧E2 tm v=u1 (u4 (u1 λ_=>v)) tm∧BO tm v=u1 (u4 (u2 λ_=>v)) tm∧BP tm v=u1 (u4 (u3 λ_=>v)) tm∧J8 tm v=u1 (u4 (u4 λ_=>v)) tm∧J9 tm v=u1 (u4 (u5 λ_=>v)) tm∧GN tm v=u1 (u4 (u6 λ_=>v)) tm∧GO tm v=u1 (u4 (u7 λ_=>v)) tm∧GP tm v=u1 (u5 (u0 λ_=>v)) tm∧GQ tm v=u1 (u5 (u1 λ_=>v)) tm∧GR tm v=u1 (u5 (u2 λ_=>v)) tm∧Ia tm v=u1 (u5 (u3 λ_=>v)) tm∧GS tm v=u1 (u5 (u4 λ_=>v)) tm∧GU tm v=u1 (u5 (u5 λ_=>v)) tm∧Ib tm v=u1 (u5 (u6 λ_=>v)) tm∧Ic tm v=u1 (u5 (u7 λ_=>v)) tm∧Ie tm v=u1 (u6 (u0 λ_=>v)) tm∧If tm v=u1 (u6 (u1 λ_=>v)) tm∧Ig tm v=u1 (u6 (u2 λ_=>v)) tm∧Ih tm v=u1 (u6 (u3 λ_=>v)) tm∧Ii tm v=u1 (u6 (u4 λ_=>v)) tm∧Ij tm v=u1 (u6 (u5 λ_=>v)) tm∧Ik tm v=u1 (u6 (u6 λ_=>v)) tm∧Il tm v=u1 (u6 (u7 λ_=>v)) tm∧Im tm v=u1 (u7 (u0 λ_=>v)) tm∧In tm v=u1 (u7 (u1 λ_=>v)) tm∧Io tm v=u1 (u7 (u2 λ_=>v)) tm∧KJ tm v=u1 (u7 (u3 λ_=>v)) tm∧KK tm v=u1 (u7 (u4 λ_=>v)) tm∧EO tm v=u1 (u7 (u5 λ_=>v)) tm∧BC tm v=u1 (u7 (u6 λ_=>v)) tm∧BD tm v=u1 (u7 (u7 λ_=>v)) tm):=⟨λ_=>⟨rfl,rfl,rfl,rfl,rfl,rfl,rfl,rfl,rfl,rfl,rfl,rfl,rfl,rfl,rfl,rfl,rfl,rfl,rfl,rfl,rfl,rfl,rfl,rfl,rfl,rfl,rfl,rfl,rfl,rfl,rfl,rfl⟩,λ_ _=>⟨rfl,rfl,rfl,rfl,rfl,rfl,rfl,rfl,rfl,rfl,rfl,rfl,rfl,rfl,rfl,rfl,rfl,rfl,rfl,rfl,rfl,rfl,rfl,rfl,rfl,rfl,rfl,rfl,rfl,rfl,rfl,rfl⟩⟩
theorem qU:(∀tm:TM,HZ tm=a0 (a0 (a2 tm))∧ze tm=a1 (a0 (a2 tm))∧zf tm=a2 (a0 (a2 tm))∧zg tm=a3 (a0 (a2 tm))∧LM tm=a4 (a0 (a2 tm))∧zh tm=a5 (a0 (a2 tm))∧zi tm=a6 (a0 (a2 tm))∧zj tm=a7 (a0 (a2 tm))∧pF tm=a0 (a1 (a2 tm))∧vh tm=a1 (a1 (a2 tm))∧vi tm=a2 (a1 (a2 tm))∧vj tm=a3 (a1 (a2 tm))∧vk tm=a4 (a1 (a2 tm))∧vl tm=a5 (a1 (a2 tm))∧vm tm=a6 (a1 (a2 tm))∧pG tm=a7 (a1 (a2 tm))∧vp tm=a0 (a2 (a2 tm))∧zk tm=a1 (a2 (a2 tm))∧Cv tm=a2 (a2 (a2 tm))∧Cw tm=a3 (a2 (a2 tm))∧Cx tm=a4 (a2 (a2 tm))∧Cy tm=a5 (a2 (a2 tm))∧Cz tm=a6 (a2 (a2 tm))∧CA tm=a7 (a2 (a2 tm))∧CB tm=a0 (a3 (a2 tm))∧CC tm=a1 (a3 (a2 tm))∧CD tm=a2 (a3 (a2 tm))∧CG tm=a3 (a3 (a2 tm))∧zl tm=a4 (a3 (a2 tm))∧zm tm=a5 (a3 (a2 tm))∧vq tm=a6 (a3 (a2 tm))∧vr tm=a7 (a3 (a2 tm)))∧(∀(tm:TM) (v:AV),ye tm v=u2 (u0 (u0 λ_=>v)) tm∧yf tm v=u2 (u0 (u1 λ_=>v)) tm∧yg tm v=u2 (u0 (u2 λ_=>v)) tm∧yh tm v=u2 (u0 (u3 λ_=>v)) tm∧yi tm v=u2 (u0 (u4 λ_=>v)) tm∧yj tm v=u2 (u0 (u5 λ_=>v)) tm∧yk tm v=u2 (u0 (u6 λ_=>v)) tm∧yl tm v=u2 (u0 (u7 λ_=>v)) tm∧uX tm v=u2 (u1 (u0 λ_=>v)) tm∧uY tm v=u2 (u1 (u1 λ_=>v)) tm∧uZ tm v=u2 (u1 (u2 λ_=>v)) tm∧ta tm v=u2 (u1 (u3 λ_=>v)) tm∧tc tm v=u2 (u1 (u4 λ_=>v)) tm∧tf tm v=u2 (u1 (u5 λ_=>v)) tm∧tg tm v=u2 (u1 (u6 λ_=>v)) tm∧oR tm v=u2 (u1 (u7 λ_=>v)) tm∧th tm v=u2 (u2 (u0 λ_=>v)) tm∧ym tm v=u2 (u2 (u1 λ_=>v)) tm∧BE tm v=u2 (u2 (u2 λ_=>v)) tm∧BF tm v=u2 (u2 (u3 λ_=>v)) tm∧BG tm v=u2 (u2 (u4 λ_=>v)) tm∧BH tm v=u2 (u2 (u5 λ_=>v)) tm∧BI tm v=u2 (u2 (u6 λ_=>v)) tm∧BJ tm v=u2 (u2 (u7 λ_=>v)) tm∧BK tm v=u2 (u3 (u0 λ_=>v)) tm∧BL tm v=u2 (u3 (u1 λ_=>v)) tm∧BM tm v=u2 (u3 (u2 λ_=>v)) tm∧BN tm v=u2 (u3 (u3 λ_=>v)) tm∧yn tm v=u2 (u3 (u4 λ_=>v)) tm∧yo tm v=u2 (u3 (u5 λ_=>v)) tm∧tj tm v=u2 (u3 (u6 λ_=>v)) tm∧tk tm v=u2 (u3 (u7 λ_=>v)) tm):=⟨λ_=>⟨rfl,rfl,rfl,rfl,rfl,rfl,rfl,rfl,rfl,rfl,rfl,rfl,rfl,rfl,rfl,rfl,rfl,rfl,rfl,rfl,rfl,rfl,rfl,rfl,rfl,rfl,rfl,rfl,rfl,rfl,rfl,rfl⟩,λ_ _=>⟨rfl,rfl,rfl,rfl,rfl,rfl,rfl,rfl,rfl,rfl,rfl,rfl,rfl,rfl,rfl,rfl,rfl,rfl,rfl,rfl,rfl,rfl,rfl,rfl,rfl,rfl,rfl,rfl,rfl,rfl,rfl,rfl⟩⟩
theorem Ad:(∀tm:TM,vt tm=a0 (a4 (a2 tm))∧pH tm=a1 (a4 (a2 tm))∧pI tm=a2 (a4 (a2 tm))∧zn tm=a3 (a4 (a2 tm))∧pJ tm=a4 (a4 (a2 tm))∧pK tm=a5 (a4 (a2 tm))∧pL tm=a6 (a4 (a2 tm))∧pM tm=a7 (a4 (a2 tm))∧gK tm=a0 (a5 (a2 tm))∧gM tm=a1 (a5 (a2 tm))∧gN tm=a2 (a5 (a2 tm))∧gO tm=a3 (a5 (a2 tm))∧gQ tm=a4 (a5 (a2 tm))∧gS tm=a5 (a5 (a2 tm))∧gU tm=a6 (a5 (a2 tm))∧vu tm=a7 (a5 (a2 tm))∧vw tm=a0 (a6 (a2 tm))∧Zc7 tm=a1 (a6 (a2 tm))∧gV tm=a2 (a6 (a2 tm))∧Zc8 tm=a3 (a6 (a2 tm))∧gW tm=a4 (a6 (a2 tm))∧gX tm=a5 (a6 (a2 tm))∧gY tm=a6 (a6 (a2 tm))∧Zc9 tm=a7 (a6 (a2 tm))∧gZ tm=a0 (a7 (a2 tm))∧Zda tm=a1 (a7 (a2 tm))∧fa tm=a2 (a7 (a2 tm))∧Zhg tm=a3 (a7 (a2 tm))∧Zdb tm=a4 (a7 (a2 tm))∧Zhh tm=a5 (a7 (a2 tm))∧Zdc tm=a6 (a7 (a2 tm))∧Zdd tm=a7 (a7 (a2 tm)))∧(∀(tm:TM) (v:AV),tn tm v=u2 (u4 (u0 λ_=>v)) tm∧oS tm v=u2 (u4 (u1 λ_=>v)) tm∧oT tm v=u2 (u4 (u2 λ_=>v)) tm∧oU tm v=u2 (u4 (u3 λ_=>v)) tm∧oV tm v=u2 (u4 (u4 λ_=>v)) tm∧oW tm v=u2 (u4 (u5 λ_=>v)) tm∧oX tm v=u2 (u4 (u6 λ_=>v)) tm∧bq tm v=u2 (u4 (u7 λ_=>v)) tm∧br tm v=u2 (u5 (u0 λ_=>v)) tm∧bz tm v=u2 (u5 (u1 λ_=>v)) tm∧bA tm v=u2 (u5 (u2 λ_=>v)) tm∧bB tm v=u2 (u5 (u3 λ_=>v)) tm∧bC tm v=u2 (u5 (u4 λ_=>v)) tm∧bD tm v=u2 (u5 (u5 λ_=>v)) tm∧bE tm v=u2 (u5 (u6 λ_=>v)) tm∧bF tm v=u2 (u5 (u7 λ_=>v)) tm∧bG tm v=u2 (u6 (u0 λ_=>v)) tm∧bH tm v=u2 (u6 (u1 λ_=>v)) tm∧bI tm v=u2 (u6 (u2 λ_=>v)) tm∧bJ tm v=u2 (u6 (u3 λ_=>v)) tm∧bK tm v=u2 (u6 (u4 λ_=>v)) tm∧bL tm v=u2 (u6 (u5 λ_=>v)) tm∧bM tm v=u2 (u6 (u6 λ_=>v)) tm∧bN tm v=u2 (u6 (u7 λ_=>v)) tm∧bO tm v=u2 (u7 (u0 λ_=>v)) tm∧bP tm v=u2 (u7 (u1 λ_=>v)) tm∧bQ tm v=u2 (u7 (u2 λ_=>v)) tm∧ZdS tm v=u2 (u7 (u3 λ_=>v)) tm∧ZdT tm v=u2 (u7 (u4 λ_=>v)) tm∧ZdU tm v=u2 (u7 (u5 λ_=>v)) tm∧ZdV tm v=u2 (u7 (u6 λ_=>v)) tm∧ZdW tm v=u2 (u7 (u7 λ_=>v)) tm):=⟨λ_=>⟨rfl,rfl,rfl,rfl,rfl,rfl,rfl,rfl,rfl,rfl,rfl,rfl,rfl,rfl,rfl,rfl,rfl,rfl,rfl,rfl,rfl,rfl,rfl,rfl,rfl,rfl,rfl,rfl,rfl,rfl,rfl,rfl⟩,λ_ _=>⟨rfl,rfl,rfl,rfl,rfl,rfl,rfl,rfl,rfl,rfl,rfl,rfl,rfl,rfl,rfl,rfl,rfl,rfl,rfl,rfl,rfl,rfl,rfl,rfl,rfl,rfl,rfl,rfl,rfl,rfl,rfl,rfl⟩⟩
theorem TB6:(∀tm:TM,Zde tm=a0 (a0 (a3 tm))∧Zhi tm=a1 (a0 (a3 tm))∧Zdf tm=a2 (a0 (a3 tm))∧Zhj tm=a3 (a0 (a3 tm))∧Zdg tm=a4 (a0 (a3 tm))∧Zdh tm=a5 (a0 (a3 tm))∧Zdi tm=a6 (a0 (a3 tm))∧Zdj tm=a7 (a0 (a3 tm))∧Zdk tm=a0 (a1 (a3 tm))∧Zdl tm=a1 (a1 (a3 tm))∧Zdm tm=a2 (a1 (a3 tm))∧Zdn tm=a3 (a1 (a3 tm))∧Zhk tm=a4 (a1 (a3 tm))∧Zhl tm=a5 (a1 (a3 tm))∧Zhm tm=a6 (a1 (a3 tm))∧Zhn tm=a7 (a1 (a3 tm))∧Zho tm=a0 (a2 (a3 tm))∧Zhp tm=a1 (a2 (a3 tm))∧Zhq tm=a2 (a2 (a3 tm))∧Zhr tm=a3 (a2 (a3 tm))∧Zhs tm=a4 (a2 (a3 tm))∧Zht tm=a5 (a2 (a3 tm))∧Zhu tm=a6 (a2 (a3 tm))∧Zhv tm=a7 (a2 (a3 tm))∧Zhw tm=a0 (a3 (a3 tm))∧Zhx tm=a1 (a3 (a3 tm))∧Zhy tm=a2 (a3 (a3 tm))∧Zhz tm=a3 (a3 (a3 tm))∧ZhA tm=a4 (a3 (a3 tm))∧ZhB tm=a5 (a3 (a3 tm))∧ZhC tm=a6 (a3 (a3 tm))∧ZhD tm=a7 (a3 (a3 tm)))∧(∀(tm:TM) (v:AV),ZdX tm v=u3 (u0 (u0 λ_=>v)) tm∧ZdY tm v=u3 (u0 (u1 λ_=>v)) tm∧ZdZ tm v=u3 (u0 (u2 λ_=>v)) tm∧Zd0 tm v=u3 (u0 (u3 λ_=>v)) tm∧Zd1 tm v=u3 (u0 (u4 λ_=>v)) tm∧Zd2 tm v=u3 (u0 (u5 λ_=>v)) tm∧Zd3 tm v=u3 (u0 (u6 λ_=>v)) tm∧Zd4 tm v=u3 (u0 (u7 λ_=>v)) tm∧Zd5 tm v=u3 (u1 (u0 λ_=>v)) tm∧Zd6 tm v=u3 (u1 (u1 λ_=>v)) tm∧Zd7 tm v=u3 (u1 (u2 λ_=>v)) tm∧Zd8 tm v=u3 (u1 (u3 λ_=>v)) tm∧Zi2 tm v=u3 (u1 (u4 λ_=>v)) tm∧Zi3 tm v=u3 (u1 (u5 λ_=>v)) tm∧Zi4 tm v=u3 (u1 (u6 λ_=>v)) tm∧Zi5 tm v=u3 (u1 (u7 λ_=>v)) tm∧Zi6 tm v=u3 (u2 (u0 λ_=>v)) tm∧Zi7 tm v=u3 (u2 (u1 λ_=>v)) tm∧Zi8 tm v=u3 (u2 (u2 λ_=>v)) tm∧Zi9 tm v=u3 (u2 (u3 λ_=>v)) tm∧Zja tm v=u3 (u2 (u4 λ_=>v)) tm∧Zjb tm v=u3 (u2 (u5 λ_=>v)) tm∧Zjc tm v=u3 (u2 (u6 λ_=>v)) tm∧Zjd tm v=u3 (u2 (u7 λ_=>v)) tm∧Zje tm v=u3 (u3 (u0 λ_=>v)) tm∧Zjf tm v=u3 (u3 (u1 λ_=>v)) tm∧Zjg tm v=u3 (u3 (u2 λ_=>v)) tm∧Zjh tm v=u3 (u3 (u3 λ_=>v)) tm∧Zji tm v=u3 (u3 (u4 λ_=>v)) tm∧Zjj tm v=u3 (u3 (u5 λ_=>v)) tm∧Zjk tm v=u3 (u3 (u6 λ_=>v)) tm∧Zjl tm v=u3 (u3 (u7 λ_=>v)) tm):=⟨λ_=>⟨rfl,rfl,rfl,rfl,rfl,rfl,rfl,rfl,rfl,rfl,rfl,rfl,rfl,rfl,rfl,rfl,rfl,rfl,rfl,rfl,rfl,rfl,rfl,rfl,rfl,rfl,rfl,rfl,rfl,rfl,rfl,rfl⟩,λ_ _=>⟨rfl,rfl,rfl,rfl,rfl,rfl,rfl,rfl,rfl,rfl,rfl,rfl,rfl,rfl,rfl,rfl,rfl,rfl,rfl,rfl,rfl,rfl,rfl,rfl,rfl,rfl,rfl,rfl,rfl,rfl,rfl,rfl⟩⟩
end
def VF(x:Nat):List UInt8->Nat
 |[]=>0
 |c::s=>if VF x s=0 then(if c.toNat=x then 1 else 0) else VF x s+1
def V6(x:Nat):List UInt8->Nat
 |[]=>0
 |c::s=>if c.toNat=x then 1 else if V6 x s=0 then 0 else V6 x s+1
def YU:List UInt8->List (List UInt8)
 |[]=>[[]]
 |c::s=>if c.toNat=47 then []::YU s else match YU s with|[]=>[[c]]|h::t=>(c::h)::t
theorem Cb(x:Nat): ∀(l:List UInt8) (c:UInt8),VF x (l++[c])=if c.toNat=x then l.length+1 else VF x l
 |[],c=>by simp[VF]
 |a::l,c=>by
  rw[Vg,VF,Cb x l c,VF]
  by_cases h:c.toNat=x
  ·simp[h]
  ·simp[h]
theorem F8{s:List UInt8}{m:Nat}(h:m<s.length):s.take (m+1)=s.take m++[s.getD m 0]:=by
 rw[WR,Zf,Zl h];rfl
theorem pp{x:Nat}{s:List UInt8}{m:Nat}(h:m<s.length)(e:(s.getD m 0).toNat=x):VF x (s.take (m+1))=m+1:=by
 rw[F8 h,Cb,if_pos e,ZC,Wl (N1 h)]
theorem wQ{x:Nat}{s:List UInt8}{m:Nat}(h:m<s.length)(e:(s.getD m 0).toNat≠x):VF x (s.take (m+1))=VF x (s.take m):=by
 rw[F8 h,Cb,if_neg e]
theorem IC(x:Nat): ∀s:List UInt8,VF x s<=s.length
 |[]=>Zp _
 |c::s=>by
  have:=IC x s
  rw[VF,ZS]
  split
  ·split<;>omega
  ·omega
theorem pV(x:Nat): ∀(s:List UInt8) (n:Nat),Q8 x s n=if V6 x s=0 then Int.negSucc 0 else((n+V6 x s - 1:Nat):Int)
 |[],n=>rfl
 |c::s,n=>by
  show cond (Nat.beq c.toNat x) (Int.ofNat n) (Q8 x s (Nat.succ n))=_
  rw[pV x s,V6]
  by_cases h:c.toNat=x
  ·rw[if_pos h,h,show Nat.beq x x=true from Y0 x];simp
  ·have:Nat.beq c.toNat x=false:=by
    cases e:Nat.beq c.toNat x with
    |false=>rfl
    |true=>exact absurd (ZN e) h
   rw[this,if_neg h,cond_false]
   by_cases h0:V6 x s=0
   ·rw[if_pos h0,if_pos h0,if_pos rfl]
   ·rw[if_neg h0,if_neg h0,if_neg (by omega)]
    congr 1
    omega
theorem T5{x:Nat}: ∀{s:List UInt8},V6 x s=0↔ ∀c∈s,c.toNat≠x
 |[]=>by simp[V6]
 |c::s=>by
  rw[V6]
  have ih:=T5 (x:=x) (s:=s)
  by_cases h:c.toNat=x
  ·simp[h]
  ·rw[if_neg h]
   by_cases h0:V6 x s=0
   ·simp only[h0,if_true,true_iff]
    intro b hb
    rcases ZO.1 hb with rfl|hb
    ·exact h
    ·exact ih.1 h0 b hb
   ·rw[if_neg h0]
    refine⟨λe=>by omega,λe=>absurd (ih.2 λb hb=>e b (Zz _ hb)) h0⟩
theorem yV{x:Nat}: ∀{s:List UInt8} {j:Nat},V6 x s=j+1->j<s.length∧(s.getD j 0).toNat=x
 |[],j,h=>by simp[V6] at h
 |c::s,j,h=>by
  rw[V6] at h
  by_cases hc:c.toNat=x
  ·rw[if_pos hc] at h
   have:j=0:=by omega
   subst this
   exact⟨by simp,hc⟩
  ·rw[if_neg hc] at h
   split at h
   ·omega
   ·rename_i h0
    obtain⟨i,rfl⟩: ∃i,j=i+1:=⟨j - 1,by omega⟩
    obtain⟨h1,h2⟩:=yV (x:=x) (s:=s) (j:=i) (by omega)
    exact⟨by simp;omega,by simpa using h2⟩
theorem SH: ∀s:List UInt8,YU s≠[]
 |[]=>by simp[YU]
 |c::s=>by
  rw[YU]
  split
  ·simp
  ·split<;>simp
theorem Qv: ∀{s:List UInt8},V6 47 s=0->YU s=[s]
 |[],_=>rfl
 |c::s,h=>by
  have h1:=T5.1 h
  rw[YU,if_neg (h1 c (Zt ..)),Qv (T5.2 λb hb=>h1 b (Zz _ hb))]
theorem M0: ∀{s:List UInt8} {j:Nat},V6 47 s=j+1->YU s=s.take j::YU (s.drop (j+1))
 |[],j,h=>by simp[V6] at h
 |c::s,j,h=>by
  rw[V6] at h
  by_cases hc:c.toNat=47
  ·rw[if_pos hc] at h
   have:j=0:=by omega
   subst this
   rw[YU,if_pos hc];rfl
  ·rw[if_neg hc] at h
   split at h
   ·omega
   ·obtain⟨i,rfl⟩: ∃i,j=i+1:=⟨j - 1,by omega⟩
    rw[YU,if_neg hc,M0 (s:=s) (j:=i) (by omega)]
    rfl
theorem HA(x:Nat): ∀(l:List UInt8) (n:Nat),Xy x l n=n+Xy x l 0
 |[],n=>rfl
 |b::l,n=>by
  show cond (Nat.beq b.toNat x) (Xy x l (Nat.succ n)) (Xy x l n)=n+cond (Nat.beq b.toNat x) (Xy x l (Nat.succ 0)) (Xy x l 0)
  rw[HA x l (Nat.succ n),HA x l n,HA x l (Nat.succ 0)]
  cases Nat.beq b.toNat x<;>simp;omega
theorem PY: ∀s:List UInt8,(YU s).length=Xy 47 s 0+1
 |[]=>rfl
 |c::s=>by
  have ih:=PY s
  show _=cond (Nat.beq c.toNat 47) (Xy 47 s (Nat.succ 0)) (Xy 47 s 0)+1
  rw[YU,HA 47 s (Nat.succ 0)]
  by_cases hc:c.toNat=47
  ·rw[if_pos hc,hc,show Nat.beq 47 47=true from rfl,ZS,ih,cond_true];omega
  ·have:Nat.beq c.toNat 47=false:=by
    cases e:Nat.beq c.toNat 47 with
    |false=>rfl
    |true=>exact absurd (ZN e) hc
   rw[if_neg hc,this,cond_false,<-ih]
   split
   ·rename_i h;exact absurd h (SH s)
   ·rename_i a b h;rw[h];rfl
theorem yL: ∀(x:Nat) (s:List UInt8),Xy x s 0<=s.length
 |x,[]=>Zp _
 |x,c::s=>by
  have:=yL x s
  show cond (Nat.beq c.toNat x) (Xy x s (Nat.succ 0)) (Xy x s 0)<=s.length+1
  rw[HA x s (Nat.succ 0)]
  cases Nat.beq c.toNat x<;>simp<;>omega
def Ai:List UInt8:=[46]
def JM:List UInt8:=[46,46]
def B5:List UInt8:=[46,119,104,46]
def xJ:List UInt8:=[46,119,104,46,46,119,104,46,46,111,112,113]
def wg:List UInt8:=[46,119,104,46,46,119,104,46,116,111,99]
def Pm(p s:List UInt8):Bool:=decide (p.length<=s.length)&&decide (s.take p.length=p)
def Ts(l s:List UInt8):Bool:=s.any λc=>decide (c∈l)
def YG(s:List UInt8):Bool:=!decide (s=[])&&decide (s.length<=251)&&!decide (s=Ai)&&!decide (s=JM)&&!Ts [47,0] s&&!Pm B5 s
def Z4(p:List UInt8):List (List UInt8):=if p=[] then [] else YU p
def Tg(p:List UInt8):Bool:=decide (p.length<=4080)&&decide ((Z4 p).length<255)&&(Z4 p).all YG
def Xk(p:List UInt8):List UInt8:=p.drop (VF 47 p)
def VP(p:List UInt8):List UInt8:=p.take (VF 47 p)
def TE(b:List UInt8):Nat:=if b=xJ then 3 else if Pm B5 b then 2 else 1
def Gm(d:List UInt8):List UInt8:=if (1<=d.length∧d.drop (d.length - 1)=[47]) then d.take (d.length - 1) else d
def UK(p:List UInt8):List UInt8:=if TE (Xk p)=1 then VP p++Xk p else if TE (Xk p)=2 then VP p++(Xk p).drop 4 else Gm (VP p)
def Ob(p:List UInt8):Bool:=!Tg (UK p)||(!decide (TE (Xk p)=3)&&decide (UK p=[]))||(decide (TE (Xk p)=2)&&!YG ((Xk p).drop 4))||decide (VP p=[47])
def We(p:List UInt8):Nat×List UInt8:=if p=wg then(4,[]) else if Ob p then(0,[]) else(TE (Xk p),UK p)
theorem p9(b:List UInt8):1<=TE b∧TE b<=3:=by
 unfold TE
 split
 ·exact⟨by decide,by decide⟩
 ·split<;>exact⟨by decide,by decide⟩
def Hp(l:List UInt8):List UInt8->Nat
 |[]=>0
 |c::s=>if c∈l then 1 else if Hp l s=0 then 0 else Hp l s+1
theorem DB{l:List UInt8}: ∀{s:List UInt8},(∀j,j<s.length->s.getD j 0∉l)->Hp l s=0
 |[],_=>rfl
 |c::s,h=>by
  have h0:c∉l:=h 0 (by simp)
  rw[Hp,if_neg h0,DB λj hj=>by simpa using h (j+1) (by simp;omega),if_pos rfl]
theorem yz{l:List UInt8}: ∀{s:List UInt8} {p:Nat},p<s.length->s.getD p 0∈l->(∀j,j<p->s.getD j 0∉l)->Hp l s=p+1
 |[],p,h,_,_=>by simp at h
 |c::s,0,h,e,_=>by
  have:c∈l:=e
  rw[Hp,if_pos this]
 |c::s,p+1,h,e,hn=>by
  have h0:c∉l:=hn 0 (by omega)
  rw[Hp,if_neg h0,yz (s:=s) (p:=p) (by simpa using h) (by simpa using e) λj hj=>by simpa using hn (j+1) (by omega),if_neg (by omega)]
theorem qY(l:List UInt8): ∀s:List UInt8,decide (0<Hp l s)=Ts l s
 |[]=>rfl
 |c::s=>by
  have ih:=qY l s
  unfold Ts at ih ⊢
  rw[List.any_cons,<-ih,Hp]
  by_cases h:c∈l
  ·simp[h]
  ·rw[if_neg h,Zb h]
   by_cases h0:Hp l s=0
   ·simp[h0]
   ·rw[if_neg h0];simp;omega
theorem DF(s:List UInt8)(i:Nat):((⟨s.toArray⟩:ByteArray).get! i).toNat=(s.getD i 0).toNat:=by
 show(s.toArray[i]!).toNat=_
 rw[List.getElem!_toArray,Zf,List.getElem!_eq_getElem?_getD]
 rfl
theorem pq{s:List UInt8}{i:Nat}(hc:(s.getD i 0).toNat<128):Utf8.decode ⟨s.toArray⟩ i=((s.getD i 0).toNat,1):=by
 have e:=DF s (i+0)
 rw[Zg] at e
 unfold Utf8.decode
 simp only[Zg,e]
 rw[if_pos hc]
theorem ZeP{s:List UInt8}{i:Nat}(h:i<s.length)(hc:128<=(s.getD i 0).toNat):
  ∃r w,Utf8.decode ⟨s.toArray⟩ i=(r,w)∧128<=r∧r<=1114111∧1<=w∧ ∀j,j<w->i+j<s.length∧128<=(s.getD (i+j) 0).toNat:=by
 have e0:=DF s i
 have e1:=DF s (i+1)
 have e2:=DF s (i+2)
 have e3:=DF s (i+3)
 have hsz:(⟨s.toArray⟩:ByteArray).size=s.length:=by show s.toArray.size=_;simp
 unfold Utf8.decode
 simp only[Zg,e0,e1,e2,e3,hsz]
 have l0:=(s.getD i 0).toNat_lt
 have l1:=(s.getD (i+1) 0).toNat_lt
 have l2:=(s.getD (i+2) 0).toNat_lt
 have l3:=(s.getD (i+3) 0).toNat_lt
 generalize g0:(s.getD i 0).toNat=b0 at*
 generalize g1:(s.getD (i+1) 0).toNat=b1 at*
 generalize g2:(s.getD (i+2) 0).toNat=b2 at*
 generalize g3:(s.getD (i+3) 0).toNat=b3 at*
 have one: ∀j,j<1->i+j<s.length∧128<=(s.getD (i+j) 0).toNat:=λj hj=>by
  obtain rfl:j=0:=by omega
  exact⟨h,by rw[Zg,g0];exact hc⟩
 have err: ∃r w,((Utf8.runeError,1):Nat×Nat)=(r,w)∧128<=r∧r<=1114111∧1<=w∧ ∀j,j<w->i+j<s.length∧128<=(s.getD (i+j) 0).toNat:=⟨_,_,rfl,by decide,by decide,by decide,one⟩
 rw[if_neg (by omega)]
 split
 ·rename_i c2
  simp only[Yw,beq_iff_eq,decide_eq_true_eq] at c2
  split
  ·exact⟨_,_,rfl,by omega,by omega,by decide,λj hj=>by
    rcases(show j=0∨j=1 by omega) with rfl|rfl
    ·exact one 0 (by decide)
    ·exact⟨by omega,by rw[g1];omega⟩⟩
  ·exact err
 ·split
  ·rename_i c3
   simp only[Yw,beq_iff_eq,decide_eq_true_eq] at c3
   split
   ·rename_i c4
    simp only[Yw,decide_eq_true_eq] at c4
    refine⟨_,_,rfl,by omega,by omega,by decide,λj hj=>?_⟩
    rcases(show j=0∨j=1∨j=2 by omega) with rfl|rfl|rfl
    ·exact one 0 (by decide)
    ·exact⟨by omega,by rw[g1];omega⟩
    ·exact⟨by omega,by rw[g2];omega⟩
   ·exact err
  ·split
   ·rename_i c3
    simp only[Yw,beq_iff_eq,decide_eq_true_eq] at c3
    split
    ·rename_i c4
     simp only[Yw,decide_eq_true_eq,Utf8.valid,Uz] at c4
     refine⟨_,_,rfl,by omega,by omega,by decide,λj hj=>?_⟩
     rcases(show j=0∨j=1∨j=2∨j=3 by omega) with rfl|rfl|rfl|rfl
     ·exact one 0 (by decide)
     ·exact⟨by omega,by rw[g1];omega⟩
     ·exact⟨by omega,by rw[g2];omega⟩
     ·exact⟨by omega,by rw[g3];omega⟩
    ·exact err
   ·exact err
theorem iO{r:Nat}(h:128<=r): ∃rs:List UInt8,(Utf8.encode (r:Int)).data.toList=rs∧2<=rs.length∧rs.length<=4∧128<=(rs.getD (rs.length - 1) 0).toNat:=by
 have key: ∀c:Nat,128<=(UInt8.ofNat (128+c % 64)).toNat:=λc=>by
  rw[UInt8.toNat_ofNat',YB (by omega)];omega
 unfold Utf8.encode
 have hc:128<=(if Utf8.valid (r:Int)=true then(r:Int).toNat else Utf8.runeError):=by
  split
  ·simpa using h
  ·decide
 generalize(if Utf8.valid (r:Int)=true then(r:Int).toNat else Utf8.runeError)=c at hc
 simp only
 rw[if_neg (by omega)]
 split
 ·exact⟨_,rfl,Zp 2,by show 2<=4;decide,key _⟩
 ·split
  ·exact⟨_,rfl,by show 2<=3;decide,by show 3<=4;decide,key _⟩
  ·exact⟨_,rfl,by show 2<=4;decide,Zp 4,key _⟩
def L0:List AV:=List.replicate 256 (.bool false)
def Pz(cs:List UInt8):List AV:=cs.foldl (λL c=>L.set c.toNat (.bool true)) L0
theorem kV(cs:List UInt8)(c:UInt8):Pz (cs++[c])=(Pz cs).set c.toNat (.bool true):=by
 unfold Pz;rw[List.foldl_append];rfl
theorem GJ(cs:List UInt8):(Pz cs).length=256:=by
 unfold Pz
 have: ∀(cs:List UInt8) (L:List AV),L.length=256->(cs.foldl (λL c=>L.set c.toNat (.bool true)) L).length=256:=by
  intro cs
  induction cs with
  |nil=>intro L h;exact h
  |cons c cs ih=>intro L h;exact ih _ (by rw[Wg];exact h)
 exact this cs L0 (by unfold L0;rw[ZH])
theorem bc(cs:List UInt8){x:UInt8}:(Pz cs).getD x.toNat .unk=.bool (decide (x∈cs)):=by
 unfold Pz
 have hx:=x.toNat_lt
 have: ∀(cs:List UInt8) (L:List AV) (b:Bool),L.length=256->L.getD x.toNat .unk=.bool b->(cs.foldl (λL c=>L.set c.toNat (.bool true)) L).getD x.toNat .unk=.bool (b||decide (x∈cs)):=by
  intro cs
  induction cs with
  |nil=>intro L b h h2;simpa using h2
  |cons c cs ih=>
   intro L b h h2
   have:=ih (L.set c.toNat (.bool true)) (b||decide (x=c)) (by rw[Wg];exact h) (by
    rw[Zf,Rp]
    by_cases e:c.toNat=x.toNat
    ·have:c=x:=UN.1 e
     subst this
     have hx':c.toNat<256:=hx
     simp[h,hx']
    ·have:x≠c:=λq=>e (by rw[q])
     rw[if_neg e,Zb this,Bool.or_false,<-Zf];exact h2)
   rw[Wf,this]
   congr 1
   cases b<;>simp[ZO]
 rw[this cs L0 false (by unfold L0;rw[ZH]) (by unfold L0;rw[Zf,XO,if_pos hx];rfl),Bool.false_or]
def OE(d:Nat):UInt8:=UInt8.ofNat (48+d)
theorem HC{d:Nat}(h:d<10):(OE d).toNat=48+d:=by
 unfold OE
 rw[UInt8.toNat_ofNat_of_lt' (show 48+d<UInt8.size by unfold UInt8.size;omega)]
def yN:Nat->Nat->List UInt8
 |0,_=>[]
 |k+1,n=>yN k (n/10)++[OE (n % 10)]
theorem Ka: ∀k n,(yN k n).length=k
 |0,_=>rfl
 |k+1,n=>by show(yN k (n/10)++[OE (n % 10)]).length=_;rw[Zj,Ka k];rfl
def VI(n:Nat):Nat:=if n<10 then 1 else VI (n/10)+1
theorem Jc{n:Nat}(h:n<10):VI n=1:=by rw[VI,if_pos h]
theorem Jb{n:Nat}(h:10<=n):VI n=VI (n/10)+1:=by rw[VI,if_neg (by omega)]
theorem Pc(n:Nat):1<=VI n:=by
 by_cases h:n<10
 ·rw[Jc h];exact Zp _
 ·rw[Jb (by omega)];omega
theorem xr: ∀k n,10^k<=n->n<10^(k+1)->VI n=k+1
 |0,n,_,h=>Jc (by simpa using h)
 |k+1,n,h1,h2=>by
  have h3:10^(k+1)=10^k*10:=Sn ..
  have h4:10^(k+1+1)=10^(k+1)*10:=Sn ..
  have h5:1<=10^k:=Nat.one_le_pow _ _ (by decide)
  rw[Jb (by omega),xr k (n/10) (by omega) (by omega)]
theorem Dd(n:Nat):n<10^VI n:=by
 induction n using Nat.strongRecOn with
 |ind n ih=>
  by_cases h:n<10
  ·rw[Jc h];simpa using h
  ·rw[Jb (by omega),Sn]
   have:=ih (n/10) (by omega)
   omega
theorem TX{n k:Nat}(hk:1<=k)(h:n<10^k):VI n<=k:=by
 by_cases h0:n<10
 ·rw[Jc h0];exact hk
 ·obtain⟨j,hj⟩: ∃j,VI n=j+1:=⟨VI n - 1,by have:=Pc n;omega⟩
  rw[hj]
  by_cases hlt:k<j+1
  ·have h1:10^j<=n:=by
    have: ∀n j,VI n=j+1->10<=n->10^j<=n:=by
     intro n
     induction n using Nat.strongRecOn with
     |ind n ih=>
      intro j hj hn
      rw[Jb hn] at hj
      by_cases h2:n/10<10
      ·rw[Jc h2] at hj
       obtain rfl:j=1:=by omega
       simpa using hn
      ·obtain⟨i,rfl⟩: ∃i,j=i+1:=⟨j - 1,by have:=Pc (n/10);omega⟩
       have:=ih (n/10) (by omega) i (by omega) (by omega)
       rw[Sn];omega
    exact this n j hj (by omega)
   have h2:10^k<=10^j:=Nat.pow_le_pow_right (by decide) (by omega)
   omega
  ·omega
def dec(n:Nat):List UInt8:=yN (VI n) n
theorem Rr(n:Nat):(dec n).length=VI n:=Ka ..
theorem sF{n:Nat}(h:n<10):dec n=[OE n]:=by
 unfold dec;rw[Jc h];show []++[OE (n % 10)]=_;rw[YB h];rfl
theorem iD{n:Nat}(h:10<=n):dec n=dec (n/10)++[OE (n % 10)]:=by
 unfold dec;rw[Jb h];rfl
def SQ(z:Int):List UInt8:=if z<0 then 45::dec z.natAbs else dec z.natAbs
section
open Go.Proofs N8
abbrev Zo(x:Z1)(d:ZL)(n:D):D:=Za (ZF x) d n
abbrev Xc(f:Vv)(os:List (ZL×Z1))(d:ZL)(i b:Nat):PI:=⟨f,none,os,d,.free,i,b⟩
abbrev kI(n:Nat):Z1:=k (nI .i64 n)
abbrev kB(b:Bool):Z1:=k (.bool b)
abbrev rH(e:Nat)(l:List AV):Obj:=rG e 1 l 0 false true true
theorem Sa{α:Type}(a:α): ∃b,a=b:=⟨a,rfl⟩
def B9:List AV:=List.replicate 512 (nI .u8 0)
def Znc:List UInt8:=[108,101,110,32,111,117,116,32,111,102,32,114,97,110,103,101]
def Znd:List UInt8:=[99,97,110,110,111,116,32,98,101,32,110,101,103,97,116,105,118,101]
def Zne:List UInt8:=[98,121,116,101,115,58,32,110,101,103,97,116,105,118,101,32,82,101,112,101,97,116,32,99,111,117,110,116]
def Zit:List UInt8:=[98,121,116,101,115,58,32,82,101,112,101,97,116,32,111,117,116,112,117,116,32,108,101,110,103,116,104,32,111,118,101,114,102,108,111,119]
def J0:List UInt8:=[48,49,50,51,52,53,54,55,56,57,97,98,99,100,101,102,103,104,105,106,107,108,109,110,111,112,113,114,115,116,117,118,119,120,121,122]
def S4:List UInt8:=[48,48,48,49,48,50,48,51,48,52,48,53,48,54,48,55,48,56,48,57,49,48,49,49,49,50,49,51,49,52,49,53,49,54,49,55,49,56,49,57,50,48,50,49,50,50,50,51,50,52,50,53,50,54,50,55,50,56,50,57,51,48,51,49,51,50,51,51,51,52,51,53,51,54,51,55,51,56,51,57,52,48,52,49,52,50,52,51,52,52,52,53,52,54,52,55,52,56,52,57,53,48,53,49,53,50,53,51,53,52,53,53,53,54,53,55,53,56,53,57,54,48,54,49,54,50,54,51,54,52,54,53,54,54,54,55,54,56,54,57,55,48,55,49,55,50,55,51,55,52,55,53,55,54,55,55,55,56,55,57,56,48,56,49,56,50,56,51,56,52,56,53,56,54,56,55,56,56,56,57,57,48,57,49,57,50,57,51,57,52,57,53,57,54,57,55,57,56,57,57]
def Ziu:List UInt8:=[115,116,114,99,111,110,118,58,32,105,108,108,101,103,97,108,32,65,112,112,101,110,100,73,110,116,47,70,111,114,109,97,116,73,110,116,32,98,97,115,101]
def vO:List UInt8:=[0,1,2,2,3,3,3,3,4,4,4,4,4,4,4,4,5,5,5,5,5,5,5,5,5,5,5,5,5,5,5,5,6,6,6,6,6,6,6,6,6,6,6,6,6,6,6,6,6,6,6,6,6,6,6,6,6,6,6,6,6,6,6,6,7,7,7,7,7,7,7,7,7,7,7,7,7,7,7,7,7,7,7,7,7,7,7,7,7,7,7,7,7,7,7,7,7,7,7,7,7,7,7,7,7,7,7,7,7,7,7,7,7,7,7,7,7,7,7,7,7,7,7,7,7,7,7,7,8,8,8,8,8,8,8,8,8,8,8,8,8,8,8,8,8,8,8,8,8,8,8,8,8,8,8,8,8,8,8,8,8,8,8,8,8,8,8,8,8,8,8,8,8,8,8,8,8,8,8,8,8,8,8,8,8,8,8,8,8,8,8,8,8,8,8,8,8,8,8,8,8,8,8,8,8,8,8,8,8,8,8,8,8,8,8,8,8,8,8,8,8,8,8,8,8,8,8,8,8,8,8,8,8,8,8,8,8,8,8,8,8,8,8,8,8,8,8,8,8,8,8,8,8,8,8,8]
def c32:CF:=⟨[(VX,none),(W8,none)],(Zh (Za (ZF (kI 0)) st2<|Za (ZF (k (.str []))) Vl<|Zc) (Zh (Zh (Zo Yb W9<|Za (WN XI (k (.str [46,119,104,46,46,119,104,46,116,111,99])) PM false) Vw<|Zc) (ZK XQ (Zh (Za (ZF (kI 4)) st2<|Za (ZF (k (.str []))) Vl<|Zc) Z2) Zc)) (Zh (Zo Yb Vz<|Za (Zv 58 [Wi]) Um<|Zo WG Y9<|Zc) (Zh (Zo Y4 XH<|Za (Zv 59 [YY]) XM<|Zo Xt st2<|Zc) (Zh (Zo Yb XW<|Zo Y4 XU<|Za (Zv 60 [Xr,Xf]) Wp<|Zo Xo WX<|Zc) (Zh (Za (ZJ (k (.ptr 1 0))) Wy<|Zo VX Ws<|Za (Jg Vp .nilf false Wb XF) WL<|Zo YW WW<|Zo Y4 Vj<|Za (MO Wh Tryz.prog [Wo,Wz]) Vt<|Zo W6 Vl<|Zc) (Zh (Zh (Zo W8 VS<|Za (Zv 61 [Vq]) VT<|Za (Pf VH) V4<|Zo WU V9<|ZB Ve false (ZF VX) Uf<|ZB Ve false (WN Vx (kI 3) Vp true) Uw<|ZB Ve false (ZF VY) Ux<|ZB V7 true (ZF W8) UH<|ZB V7 true (WN VO (k (.str [])) PM false) Ta<|ZB Ve false (Yx V7 VQ (kB false)) Tj<|Za (Yx Ve (kB true) UF) TO<|Zo UR TP<|ZB UO false (ZF VX) TU<|ZB UO false (WN UW (kI 2) Vp false) SB<|ZB UO false (ZF Tt) SJ<|ZB TR true (ZF Y4) Ri<|ZB TR true (WI RP (some (kI 4)) none none) Rj<|ZB TR true (Zv 62 [TS]) Rk<|ZB TR true (Pf T7) RG<|ZB UO false (Yx TR RQ (kB false)) Qw<|Za (Yx UO (kB true) Ru) Qx<|Zo Qq Pr<|ZB Rv false (ZF YW) Qf<|ZB Rv false (WN RX (k (.str [47])) PM false) PA<|Za (Yx Rv (kB true) Rw) PZ<|Zc) (ZK Rx (Zh (Za (ZF (kI 0)) st2<|Za (ZF (k (.str []))) Vl<|Zc) Z2) Zc)) (Zh (Zo VX P0<|Zo W8 P1<|Zo Q5 st2<|Zo RY Vl<|Zc) Z2))))))))⟩
def c58:CF:=⟨[(VX,none)],(Zh (Za (ZF (k (.str []))) st2<|Zc) (Zh (Zo Yb Vl<|Zo Yb Y9<|Za (Zv 70 [Y4,(k (nI .u8 47))]) WX<|Za (Yg YW (kI 1)) W9<|Za (WI W8 (some XI) none none) Vw<|Zo XQ st2<|Zc) Z2))⟩
def c70:CF:=⟨[(Y4,none)],(Zh (Za (ZF (kI 0)) Y9<|Zc) (Zh (Zo Yb WX<|Zo Wc W9<|Za (Zv 90 [YW,XI]) Vw<|Zo XQ Y9<|Zc) Z2))⟩
def Fo:D:=(Zh (Zh (Zo YW Um<|Za (Yu WG (kI 0) Sc W5) XH<|Zc) (ZK YY Zc (X6 0))) (Zh (Z0 1 (Zh (Zo Yb XU<|Zo YW Wp<|Za (Y7 Xf Xo) Wy<|Zo Wc Ws<|Za (WN Wb XF Vp false) WL<|Zc) (ZK Wh (Zh (Zo YW WW<|Zo Wo Y9<|Zc) Z2) Zc))) (Zo YW XM<|Za (Vs Xt (kI 1)) XW<|Zo Xr WX<|Zc)))
def c90:CF:=⟨[(Y4,none)],(Zh (Za (ZF (kI 0)) Y9<|Zc) (Zh (Zh (Zo Yb W9<|Za (Xm XI) Vw<|Za (Vs XQ (kI 1)) Vz<|Zo Wi WX<|Zc) (Z0 0 (X8 Fo))) (Zh (Za (ZF (k (.int .i64 (.negSucc 0)))) Y9<|Zc) Z2)))⟩
def c59:CF:=⟨[(VX,none)],(Zh (Za (ZF (kI 0)) st2<|Zc) (Zh (Z0 0 (Zh (Zo Yb Y9<|Za (WN Y4 (k (.str [46,119,104,46,46,119,104,46,46,111,112,113])) PM false) WX<|Zo YW Vl<|Zc) (ZK W8 (Zh (Za (ZF (kI 3)) st2<|Zc) Z2) (Zh (Zo Yb Vw<|Za (Zv 82 [XQ,(k (.str [46,119,104,46]))]) Vz<|Zo Wi W9<|Zc) (ZK XI (Zh (Za (ZF (kI 2)) st2<|Zc) Z2) Zc))))) (Zh (Za (ZF (kI 1)) st2<|Zc) Z2)))⟩
def c82:CF:=⟨[(Y4,none)],(Zh (Za (ZF (kB false)) Y9<|Zc) (Zh (Zo Yb WX<|Zo Wc W9<|Za (Zv 101 [YW,XI]) Vw<|Zo XQ Y9<|Zc) Z2))⟩
def aT:CF:=⟨[(Y4,none)],(Zh (Za (ZF (kB false)) Y9<|Zc) (Zh (Zo Yb WX<|Za (Xm YW) W9<|Zo Wc Vw<|Za (Xm XQ) Vz<|Za (Yu XI Wi Sc W5) Um<|Zo WG XH<|ZB YY true (ZF Yb) XM<|ZB YY true (ZF Wc) XW<|ZB YY true (Xm Xr) XU<|ZB YY true (WI Xt none (some Xf) none) Wp<|ZB YY true (ZF Wc) Wy<|ZB YY true (WN Xo Wb PM false) Ws<|Za (Yx YY XF (kB false)) WL<|Zo Wh Y9<|Zc) Z2))⟩
def c60:CF:=⟨[(Y4,none)],(Zh (Za (ZF (k (.str []))) Y9<|Zc) (Zh (Zo Yb WX<|Zo Wc W9<|Za (Zv 83 [YW,XI]) Vw<|Zo XQ Y9<|Zc) Z2))⟩
def c83:CF:=⟨[(Y4,none)],(Zh (Za (ZF (k (.str []))) Y9<|Zc) (Zh (Zh (Zo Yb WX<|Zo Wc W9<|Za (Zv 102 [YW,XI]) Vw<|Zc) (ZK XQ (Zh (Zo Yb Vz<|Zo Yb Um<|Za (Xm WG) XH<|Zo Wc XM<|Za (Xm Xt) XW<|Za (Vs YY Xr) XU<|Za (WI Wi none (some Xf) none) Wp<|Zo Xo Y9<|Zc) Z2) Zc)) (Zh (Zo Yb Wy<|Zo Wb Y9<|Zc) Z2)))⟩
def aU:CF:=⟨[(Y4,none)],(Zh (Za (ZF (kB false)) Y9<|Zc) (Zh (Zo Yb WX<|Za (Xm YW) W9<|Zo Wc Vw<|Za (Xm XQ) Vz<|Za (Yu XI Wi Sc W5) Um<|Zo WG XH<|ZB YY true (ZF Yb) XM<|ZB YY true (ZF Yb) XW<|ZB YY true (Xm Xr) XU<|ZB YY true (ZF Wc) Wp<|ZB YY true (Xm Xo) Wy<|ZB YY true (Vs Xf Wb) Ws<|ZB YY true (WI Xt (some XF) none none) WL<|ZB YY true (ZF Wc) WW<|ZB YY true (WN Wh Wo PM false) Vj<|Za (Yx YY Wz (kB false)) Vt<|Zo W6 Y9<|Zc) Z2))⟩
def ZeB:CF:=⟨[(Y4,none)],(Zh (Za (ZF (k (.str []))) Y9<|Zc) (Zh (Zo Yb WX<|Zo Wc W9<|Za (Yg YW XI) Vw<|Zo XQ Y9<|Zc) Z2))⟩
def ZeC:CF:=⟨[(Y4,none)],(Zh (Za (ZF (k (.str []))) Y9<|Zc) (Zh (Zo Yb WX<|Zo Wc W9<|Za (WI XI (some (kI 4)) none none) Vw<|Za (Yg YW XQ) Vz<|Zo Wi Y9<|Zc) Z2))⟩
def ZeD:CF:=⟨[(Y4,none)],(Zh (Za (ZF (k (.str []))) Y9<|Zc) (Zh (Zo Yb WX<|Za (Zv 60 [YW,(k (.str [47]))]) W9<|Zo XI Y9<|Zc) Z2))⟩
def c61:CF:=⟨[(VX,none)],(Zh (Za (ZF (kB false)) st2<|Zc) (Zh (Zo Yb Y9<|Za (Zv 84 [Y4]) WX<|Zo YW Vl<|Zc) (Zh (Zo Yb W9<|Za (Xm XI) Vw<|Za (Yu XQ (kI 4080) S2 UE) Vz<|Zo Wi Um<|ZB WG true (ZF W8) XH<|ZB WG true (Xs YY) XM<|ZB WG true (Yu Xt (kI 255) XE YH) XW<|Za (Yx WG Xr (kB false)) XU<|Zo Xf Wp<|ZB Xo true (ZF W8) Wy<|ZB Xo true (Zv 85 [Wb,(k (.func 86 [] []))]) Ws<|ZB Xo true (Pf XF) WL<|Za (Yx Xo Wh (kB false)) WW<|Zo Wo st2<|Zc) Z2)))⟩
def c84:CF:=⟨[(VX,none)],(Zh (Za (ZF (k .nils)) st2<|Zc) (Zh (Zh (Zo Yb Vl<|Za (WN W8 (k (.str [])) PM false) Y9<|Zc) (ZK Y4 (Zh (Za (ZF (k .nils)) st2<|Zc) Z2) Zc)) (Zh (Zo Yb WX<|Za (Zv 103 [YW,(k (.str [47]))]) W9<|Zo XI st2<|Zc) Z2)))⟩
def Zep:CF:=⟨[(Y4,none)],(Zh (Za (ZF (k .nils)) Y9<|Zc) (Zh (Zo Yb WX<|Zo Wc W9<|Za (Zv 119 [YW,XI,(kI 0),(k (.int .i64 (.negSucc 0)))]) Vw<|Zo XQ Y9<|Zc) Z2))⟩
def Hw:D:=(Zh (Zh (Zo YY SB<|Zo W8 SJ<|Za (Yu Tt TR XE YH) Ri<|Zc) (ZK RP Zc (X6 0))) (Z0 1 (Zh (Zo Yb Rj<|Zo Wc Rk<|Za (Zv 94 [TS,T7]) RG<|Zo RQ XM<|Zc) (Zh (Zh (Zo Xt Qw<|Za (Yu Ru (kI 0) XE YH) Qx<|Zc) (ZK Qq (X6 0) Zc)) (Zh (Zo WG Pr<|Zo YY Qf<|Zo Yb PA<|Zo Xt PZ<|Zo VX P0<|Za (Yg Rx Q5) P1<|Za (WI Rw none (some RY) none) Ov<|Za (XN Rv RX 1) OP<|Za (Xn OG OF 1) d0<|Zc) (Zh (Zo Yb O8<|Zo Xt NG<|Zo Wc NH<|Za (Xm Pw) NI<|Za (Yg RR NR) NJ<|Za (WI Og (some Oh) none none) NW<|Zo Mm st0<|Zc) (Zo YY NX<|Za (Yg NS (kI 1)) NY<|Zo NT XH<|Zc)))))))
def Zev:CF:=⟨[(Wi,none)],(Zh (Za (ZF (k .nils)) Vz<|Zc) (Zh (Zh (Zo W8 XW<|Za (WN Xr (kI 0) Vp false) XU<|Zc) (ZK Xf (Zh (Za (ZF (k .nils)) Vz<|Zc) Z2) Zc)) (Zh (Zh (Zo Wc Wp<|Za (WN Xo (k (.str [])) PM false) Wy<|Zc) (ZK Wb (Zh (Zo Yb Ws<|Zo W8 WL<|Za (Zv 130 [XF,Wh]) WW<|Zo Wo Vz<|Zc) Z2) Zc)) (Zh (Zh (Zo W8 Vj<|Za (Yu Wz (kI 0) XE YH) Vt<|Zc) (ZK W6 (Zo Yb VS<|Zo Wc VT<|Za (Zv 131 [Vq,VH]) V4<|Za (Yg WU (kI 1)) V9<|Zo Ve Vl<|Zc) Zc)) (Zh (Zo W8 Uf<|Zo Yb Uw<|Za (Xm VY) Ux<|Za (Yg V7 (kI 1)) UH<|Za (Su false [Vx,VO]) Ta<|Zo VQ Vl<|Zc) (Zh (Zo W8 Tj<|Za (NA 9 1 16 [(.str [])] UF UF) TO<|Zo UR Um<|Zc) (Zh (Zo W8 TP<|Za (Vs UO (kI 1)) TU<|Zo UW Vl<|Zc) (Zh (Za (ZF (kI 0)) XH<|Zc) (Zh (Z0 0 (X8 Hw)) (Zh (Zo WG Mt<|Zo YY Mu<|Zo Yb N0<|Za (XN Oi Np 1) Mv<|Za (Xn Nq OH 1) d0<|Zc) (Zh (Zo WG Mw<|Zo YY Mx<|Za (Yg Nr (kI 1)) M1<|Za (Ph 1 O0 none (some Ns) none) M2<|Zo Q6 Vz<|Zc) Z2)))))))))))⟩
def Zab:D:=(Z0 1 (Zh (Zo Yb Vt<|Zo Wc VS<|Za (Zv 94 [W6,Vq]) VT<|Zo VH W9<|Zc) (Zh (Zh (Zo XI V4<|Za (WN WU (k (.int .i64 (.negSucc 0))) Vp false) V9<|Zc) (ZK Ve (Zh (Zo YW Uf<|Zo Vx Y9<|Zc) Z2) Zc)) (Zh (Zo YW Uw<|Za (Yg VY (kI 1)) Ux<|Zo V7 WX<|Zc) (Zo Yb UH<|Zo XI Ta<|Zo Wc Tj<|Za (Xm UF) TO<|Za (Yg VQ UR) TP<|Za (WI VO (some UO) none none) TU<|Zo UW st0<|Zc)))))
def Zez:CF:=⟨[(Y4,none)],(Zh (Za (ZF (kI 0)) Y9<|Zc) (Zh (Zh (Zo Wc Vw<|Za (Xm XQ) Vz<|Za (WN Wi (kI 0) Vp false) Um<|Zc) (ZK WG (Zh (Zo Yb XH<|Za (Zv 135 [YY]) XM<|Za (Yg Xt (kI 1)) XW<|Zo Xr Y9<|Zc) Z2) Zc)) (Zh (Zh (Zo Wc XU<|Za (Xm Xf) Wp<|Za (WN Xo (kI 1) Vp false) Wy<|Zc) (ZK Wb (Zh (Zo Yb Ws<|Zo Wc WL<|Za (Y7 Wh (kI 0)) WW<|Za (Zv 137 [XF,Wo]) Vj<|Zo Wz Y9<|Zc) Z2) Zc)) (Zh (Za (ZF (kI 0)) WX<|Zc) (Z0 0 (X8 Zab))))))⟩
def c94:CF:=⟨[(Y4,none)],(Zh (Za (ZF (kI 0)) Y9<|Zc) (Zh (Zo Yb WX<|Zo Wc W9<|Za (Zv 114 [YW,XI]) Vw<|Zo XQ Y9<|Zc) Z2))⟩
def a9:D:=(Zh (Zh (Zo Wi NY<|Zo WG Mt<|Za (Yu NT Oi XE YH) Mu<|Zc) (ZK Np Zc (X6 1))) (Z0 2 (Zh (Zh (Zo Yb N0<|Zo Wi Mv<|Za (Y7 OH Nq) Mw<|Zo XI Mx<|Za (WN O0 Nr Vp true) M1<|Zc) (ZK Ns (Zh (Zo Yb M2<|Zo Wi M3<|Za (Yg RZ (kI 1)) M4<|Zo WG LZ<|Za (WI Q6 (some NU) (some LS) none) KL<|Zo XI KM<|Za (Zv 88 [PQ,Li]) KN<|Zo Kk XM<|Zc) (Zh (Zh (Zo Xt KO<|Za (Yu Oj (kI 0) XE YH) KQ<|Zc) (ZK Ok (Zh (Za (ZF (k (.int .i64 (.negSucc 0)))) Y9<|Zc) Z2) Zc)) (Zo Wi KR<|Zo Xt KS<|Za (Yg Kl (kI 1)) JA<|Za (Yg Js II) I9<|Zo IJ Vz<|Zc))) Zc)) (Zh (Zh (Zo Yb Hf<|Zo Wi JB<|Za (Yg LV (kI 1)) JC<|Za (Y7 LU Jt) JD<|Zo XQ KT<|Za (WN Ju Ry Vp false) KU<|Zo Jv KV<|ZB Q7 true (ZF Yb) JE<|ZB Q7 true (ZF Wi) JF<|ZB Q7 true (ZF Wi) JG<|ZB Q7 true (ZF YW) JH<|ZB Q7 true (Yg Nt LW) JI<|ZB Q7 true (WI Lj (some Jw) (some Jx) none) Hg<|ZB Q7 true (ZF Wc) Hh<|ZB Q7 true (WN IK Lk PM false) GV<|Za (Yx Q7 Km (kB false)) F6<|Zc) (ZK Fw (Zh (Zo Wi EZ<|Zo ER Y9<|Zc) Z2) Zc)) (Zh (Zo Wi E0<|Za (Yg ES (kI 1)) E1<|Zo ET Vz<|Zc) (Zh (Zo YY E2<|Za (Yg IL (kI 1)) BO<|Zo Aj XH<|Zc) (Zh (Zo YW BP<|Za (ZJ (k (.ptr 3 0))) J8<|Za (Yu CH JR S2 UE) J9<|Zo HT GN<|ZB MG true (ZF YY) GO<|ZB MG true (ZF Wi) GP<|ZB MG true (Zv 121 [HU]) GQ<|ZB MG true (Yu MH Of UG WJ) GR<|Za (Yx MG Kh (kB false)) Ia<|Zc) (ZK OV (Zh (Zo Yb GS<|Zo Wi GU<|Za (WI Ev (some HV) none none) Ib<|Zo Wc Ic<|Za (Zv 122 [HW,JS]) Ie<|Zo JT XW<|Zc) (Zh (Zh (Zo Xr If<|Za (Yu JU (kI 0) Sc W5) Ig<|Zc) (ZK JV (Zh (Zo Xr Ih<|Zo Wi Ii<|Za (Yg JW JX) Ij<|Zo MI Y9<|Zc) Z2) Zc)) (Zh (Za (ZF (k (.int .i64 (.negSucc 0)))) Y9<|Zc) Z2))) (Zh (Zo YW Ik<|Za (ZJ (k (.ptr 3 0))) Il<|Za (Yu MJ JY UG WJ) Im<|Zo JZ In<|ZB RH true (ZF YY) Io<|ZB RH true (ZF Wi) KJ<|ZB RH true (Kz Ki (k (nI .u64 4))) KK<|ZB RH true (Yg (kI 4) Kj) EO<|ZB RH true (Yu HY Ew Sc W5) BC<|Za (Yx RH Ct (kB false)) BD<|Zo Cu ye<|ZB HZ true (ZF Wi) yf<|ZB HZ true (ZF WG) yg<|ZB HZ true (Yu ze zf XE YH) yh<|Za (Yx HZ zg (kB false)) yi<|Zc) (ZK LM (Zh (Zo Yb yj<|Zo Wi yk<|Za (WI zh (some zi) none none) yl<|Zo Wc uX<|Za (Zv 128 [zj,pF]) uY<|Zo vh XU<|Zc) (Zh (Zh (Zo Xf uZ<|Za (Yu vi (kI 0) XE YH) ta<|Zc) (ZK vj (Zh (Za (ZF (k (.int .i64 (.negSucc 0)))) Y9<|Zc) Z2) Zc)) (Zh (Zo Wi tc<|Zo Xf tf<|Za (Yg vk vl) tg<|Zo vm Y9<|Zc) Z2))) Zc))))))))))
def nz:CF:=⟨[(Y4,none)],(Zh (Za (ZF (kI 0)) Y9<|Zc) (Zh (Zo Wc Wp<|Za (Xm Xo) Wy<|Zo Wb WX<|Zc) (Zh (Z0 0 (Zh (Zo YW WL<|Za (WN Wh (kI 0) Vp false) WW<|Zo Wo Vj<|ZB Wz false (ZF Wc) Vt<|ZB Wz false (ZF Yb) VS<|ZB Wz false (WN W6 Vq PM false) VT<|Za (Yx Wz (kB true) VH) V4<|Zo WU Ws<|Zc) (ZK XF (Zh (Za (ZF (kI 0)) Y9<|Zc) Z2) (Zh (Zo YW Uf<|Za (WN Vx (kI 1) Vp false) Uw<|Zo VY V9<|Zc) (ZK Ve (Zh (Zo Yb Ux<|Zo Wc UH<|Za (Y7 VO (kI 0)) Ta<|Za (Zv 88 [V7,VQ]) Tj<|Zo UF Y9<|Zc) Z2) (Zh (Zo YW TP<|Zo Yb TU<|Za (Xm UW) SB<|Za (Yu UO Tt Sc W5) SJ<|Zo TR TO<|Zc) (ZK UR (Zh (Za (ZF (k (.int .i64 (.negSucc 0)))) Y9<|Zc) Z2) (Zh (Zo YW Rj<|Za (ZJ (k (.ptr 3 0))) Rk<|Za (Yu TS T7 S2 UE) RG<|Zo RQ Qw<|ZB Ru true (ZF Yb) Qx<|ZB Ru true (Xm Qq) Pr<|ZB Ru true (Yu Rv (kI 64) S2 UE) Qf<|Za (Yx Ru RX (kB false)) PA<|Zo Rw Ri<|Zc) (ZK RP (Zh (Zo Yb PZ<|Zo Wc P0<|Za (Zv 122 [Rx,Q5]) P1<|Zo RY Y9<|Zc) Z2) Zc))))))))) (Zh (Zo Wc Ov<|Za (Y7 OF (kI 0)) OP<|Zo OG W9<|Zc) (Zh (Zo Wc O8<|Za (Y7 Og (kI 1)) NG<|Zo RR Vw<|Zc) (Zh (Za (ZF (kI 0)) Vz<|Zc) (Zh (Zo Yb NH<|Za (Xm Pw) NI<|Zo YW NJ<|Za (Vs NR Oh) NW<|Za (Yg Mm (kI 1)) NX<|Zo NS Um<|Zc) (Zh (Za (ZF (kI 0)) XH<|Zc) (Zh (Z0 1 (X8 a9)) (Zh (Za (ZF (k (.int .i64 (.negSucc 0)))) Y9<|Zc) Z2))))))))))⟩
def c85:CF:=⟨[(Y4,none)],(Zh (Za (ZF (kB false)) Y9<|Zc) (Zh (Zo Yb WX<|Zo Wc W9<|Za (Zv 104 [YW,XI]) Vw<|Za (Yu XQ (kI 0) Sc W5) Vz<|Zo Wi Y9<|Zc) Z2))⟩
def K3:D:=(Zh (Za (Yu Wi XQ XE YH) Um<|Zc) (Zh (ZK WG Zc (X6 0)) (Zh (Z0 1 (Zh (Zo Wi XH<|Zo YY WX<|Zc) (Zh (Zo Wc XM<|Zo Yb XW<|Zo YW XU<|Za (XN Xr Xf 1) Wp<|Za (ZJ Xo) Wy<|Za (MO Xt Tryz.prog [Wb]) Ws<|Zc) (ZK XF (Zh (Zo YW WL<|Zo Wh Y9<|Zc) Z2) Zc)))) (Za (Yg Wi (kI 1)) WW<|Zo Wo Vz<|Zc))))
def Zeq:CF:=⟨[(Y4,none)],(Zh (Za (ZF (kI 0)) Y9<|Zc) (Zh (Zh (Zo Yb W9<|Za (Xs XI) Vw<|Za (ZF (kI 0)) Vz<|Zc) (Z0 0 (X8 K3))) (Zh (Za (ZF (k (.int .i64 (.negSucc 0)))) Y9<|Zc) Z2)))⟩
def c86:CF:=⟨[(VX,none)],(Zh (Za (ZF (kB false)) st2<|Zc) (Zh (Zo Yb Vl<|Za (Zv 62 [W8]) Y9<|Za (Pf Y4) WX<|Zo YW st2<|Zc) Z2))⟩
def c62:CF:=⟨[(VX,none)],(Zh (Za (ZF (kB false)) st2<|Zc) (Zh (Zo Yb Vl<|Za (WN W8 (k (.str [])) PM true) Y9<|Zo Y4 WX<|ZB YW true (ZF Yb) W9<|ZB YW true (Xm XI) Vw<|ZB YW true (Yu XQ (kI 251) S2 UE) Vz<|Za (Yx YW Wi (kB false)) Um<|Zo WG XH<|ZB YY true (ZF Yb) XM<|ZB YY true (WN Xt (k (.str [46])) PM true) XW<|Za (Yx YY Xr (kB false)) XU<|Zo Xf Wp<|ZB Xo true (ZF Yb) Wy<|ZB Xo true (WN Wb (k (.str [46,46])) PM true) Ws<|Za (Yx Xo XF (kB false)) WL<|Zo Wh WW<|ZB Wo true (ZF Yb) Vj<|ZB Wo true (Zv 63 [Wz,(k (.str [47,0]))]) Vt<|ZB Wo true (Pf W6) VS<|Za (Yx Wo Vq (kB false)) VT<|Zo VH V4<|ZB WU true (ZF Yb) V9<|ZB WU true (Zv 82 [Ve,(k (.str [46,119,104,46]))]) Uf<|ZB WU true (Pf Vx) Uw<|Za (Yx WU VY (kB false)) Ux<|Zo V7 st2<|Zc) Z2))⟩
def c63:CF:=⟨[(Y4,none)],(Zh (Za (ZF (kB false)) Y9<|Zc) (Zh (Zo Yb WX<|Zo Wc W9<|Za (Zv 87 [YW,XI]) Vw<|Za (Yu XQ (kI 0) Sc W5) Vz<|Zo Wi Y9<|Zc) Z2))⟩
def Fm:D:=(Zh (Zh (Zo Wi TU<|Zo Yb SB<|Za (Xm Tt) SJ<|Za (Yu UW TR XE YH) Ri<|Zc) (ZK RP Zc (X6 0))) (Zh (Z0 1 (Zh (Zo Yb RG<|Zo Wi Qw<|Za (Y7 RQ Ru) Qx<|Za (Zv 108 [XI,Qq]) Pr<|Zc) (ZK Rv (Zh (Zo Wi Qf<|Zo RX Y9<|Zc) Z2) Zc))) (Zo Wi Rj<|Za (Yg TS (kI 1)) Rk<|Zo T7 Vz<|Zc)))
def Iy:D:=(Zh (Za (ov Rx) P0<|Za (XJ Q5 0) P1<|Zc) (Zh (ZK RY Zc (X6 2)) (Z0 3 (Zh (Za (XJ Q5 1) Ov<|Za (XJ Q5 2) OP<|Zo OF Um<|Zo OG XH<|Zc) (Zh (Zo Wc O8<|Zo YY NG<|Za (Zv 105 [Og,RR]) NH<|Za (Yu Pw (kI 0) Sc W5) NI<|Zc) (ZK NR (Zh (Zo WG NJ<|Zo Oh Y9<|Zc) Z2) Zc))))))
def c87:CF:=⟨[(Y4,none)],(Zh (Za (ZF (kI 0)) Y9<|Zc) (Zh (Zh (Zo Wc XM<|Za (WN Xt (k (.str [])) PM false) XW<|Zc) (ZK Xr (Zh (Za (ZF (k (.int .i64 (.negSucc 0)))) Y9<|Zc) Z2) Zc)) (Zh (Zh (Zo Wc XU<|Za (Xm Xf) Wp<|Za (WN Xo (kI 1) Vp false) Wy<|Zc) (ZK Wb (Zh (Zo Wc Ws<|Za (Y7 XF (kI 0)) WL<|Za (U0 Wh .i32) WW<|Zo Wo WX<|Zc) (Zh (Zh (Zo YW Vj<|Za (Yu Wz (k (nI .i32 128)) Sc W5) Vt<|Zc) (ZK W6 (Za (ZF (k (nI .i32 65533))) WX<|Zc) Zc)) (Zh (Zo Yb VS<|Zo YW VT<|Za (Zv 105 [Vq,VH]) V4<|Zo WU Y9<|Zc) Z2))) Zc)) (Zh (Zh (Zo Yb V9<|Za (Xm Ve) Uf<|Za (Zv 106 [Vx]) Uw<|Zc) (ZK VY (Zh (Zo Wc UH<|Za (Zv 107 [VO]) Ta<|Zo VQ Ux<|Za (XJ V7 0) Tj<|Za (XJ V7 1) TO<|Za (Ue 140 L0) W9<|Za (Xn XI UF 256) d0<|Zo UR Vw<|Zc) (Zh (Zo XQ TP<|Zc) (ZK UO (Zh (Zh (Za (ZF (kI 0)) Vz<|Zc) (Z0 0 (X8 Fm))) (Zh (Za (ZF (k (.int .i64 (.negSucc 0)))) Y9<|Zc) Z2)) Zc))) Zc)) (Zh (Zh (Zo Yb PA<|Za (Dh Rw) PZ<|Zc) (Z0 2 (X8 Iy))) (Zh (Za (ZF (k (.int .i64 (.negSucc 0)))) Y9<|Zc) Z2))))))⟩
def Zer:CF:=⟨[(VX,none)],(Zh (Za (ZF (kB false)) st2<|Zc) (Zh (Zo Yb Vl<|Za (Yu W8 (kI 8) UG WJ) Y9<|Zo Y4 st2<|Zc) Z2))⟩
def Hu:D:=(Zh (Zh (Zo Y4 W9<|Zo Yb Vw<|Za (Xm XQ) Vz<|Za (Yu XI Wi XE YH) Um<|Zc) (ZK WG Zc (X6 0))) (Zh (Z0 1 (Zh (Zo Yb XW<|Zo Y4 XU<|Za (Y7 Xr Xf) Wp<|Zo Xo WX<|Zc) (Zh (Zh (Zo YW Wy<|Za (Yu Wb (k (nI .u8 128)) Sc W5) Ws<|Zc) (ZK XF (Zh (Za (WS VX 256) WL<|Za (Xn VX Wh 256) d0<|Za (ZF (kB false)) Vl<|Zc) Z2) Zc)) (Zo YW WW<|Za (On VX Wo 256 1) Vj<|Za (Xn Wz (kB true) 1) d0<|Zc)))) (Zo Y4 XH<|Za (Yg YY (kI 1)) XM<|Zo Xt Y9<|Zc)))
def Zes:CF:=⟨[(VX,some (256,true)),(W8,none)],(Zh (Za (Ue 140 L0) st2<|Za (ZF (kB false)) Vl<|Zc) (Zh (Zh (Za (ZF (kI 0)) Y9<|Zc) (Z0 0 (X8 Hu))) (Zh (Za (WS VX 256) Vt<|Za (Xn VX W6 256) d0<|Za (ZF (kB true)) Vl<|Zc) Z2)))⟩
def Zet:CF:=⟨[(Y4,none)],(Zh (Za (ZF (kB false)) Y9<|Zc) (Zh (Zo Yb WX<|Zo Wc W9<|Za (Qs YW) Vw<|Za (On XQ XI 256 1) Vz<|Za (ZJ Wi) Um<|Zo WG Y9<|Zc) Z2))⟩
def Ht:D:=(Zh (Za (ov vu) bG<|Za (XJ vw 0) bH<|Zc) (Zh (ZK Zc7 Zc (X6 9)) (Z0 10 (Zh (Za (XJ vw 1) bI<|Za (XJ vw 2) bJ<|Zo gV WX<|Zo Zc8 W9<|Zc) (Zh (Zo XI bK<|Za (WN gW (k (nI .i32 65533)) Vp false) bL<|Zc) (ZK gX (Zh (Zo YW bM<|Zo gY Y9<|Zc) Z2) Zc))))))
def aV:D:=(Zh (Zh (Zo Xr Ov<|Zo XQ OP<|Za (Xm OG) O8<|Za (Yu OF Og XE YH) NG<|Zc) (ZK RR Zc (X6 3))) (Zh (Z0 4 (Zh (W2 [Xc (ZF Yb) [(st0,Yb)] NJ 0 0,Xc (ZF WG) [(Um,WG)] NW 1 0,Xc (ZF Xr) [(XW,Xr)] NX 2 0,Xc (Vs Mm NS) [(NW,Mm),(NX,NS)] NY 3 6,Xc (Y7 Oh NT) [(NJ,Oh),(NY,NT)] Mt 4 15,Xc (ZF XQ) [(Vw,XQ)] Mu 5 0,Xc (ZF Wi) [(Vz,Wi)] N0 6 0,Xc (ZF Xr) [(XW,Xr)] Mv 7 0,Xc (Vs OH Nq) [(N0,OH),(Mv,Nq)] Mw 8 192,Xc (Y7 Np O0) [(Mu,Np),(Mw,O0)] Mx 9 480,Xc (WN Oi Nr Vp true) [(Mt,Oi),(Mx,Nr)] M1 10 1023]) (ZK Ns Q0 Zc))) (Zo Xr NH<|Za (Yg Pw (kI 1)) NI<|Zo NR XW<|Zc)))
def yK:D:=(Zh (Zh (Zo WG V4<|Zo Yb V9<|Za (Xm Ve) Uf<|Za (Yu WU Vx XE YH) Uw<|Zc) (ZK VY Zc (X6 1))) (Z0 2 (Zh (Zh (W2 [Xc (ZF Yb) [(st0,Yb)] Ux 0 0,Xc (ZF WG) [(Um,WG)] UH 1 0,Xc (Y7 V7 VO) [(Ux,V7),(UH,VO)] Ta 2 3,Xc (ZF XQ) [(Vw,XQ)] Tj 3 0,Xc (ZF Wi) [(Vz,Wi)] TO 4 0,Xc (Y7 UF UR) [(Tj,UF),(TO,UR)] TP 5 24,Xc (WN VQ UO Vp true) [(Ta,VQ),(TP,UO)] TU 6 63]) (ZK UW (Zh (W2 [Xc (ZF Yb) [(st0,Yb)] SB 0 0,Xc (ZF WG) [(Um,WG)] SJ 1 0,Xc (Yg TR (kI 1)) [(SJ,TR)] Ri 2 2,Xc (WI Tt (some RP) none none) [(SB,Tt),(Ri,RP)] Rj 3 7,Xc (ZF XQ) [(Vw,XQ)] Rk 4 0,Xc (ZF Wi) [(Vz,Wi)] RG 5 0,Xc (Y7 T7 RQ) [(Rk,T7),(RG,RQ)] Qw 6 48,⟨Zv 64 [TS,Ru],none,[(Rj,TS),(Qw,Ru)],Qx,.eff,7,127⟩,⟨ZF Qq,none,[(Qx,Qq)],XM,.eff,8,255⟩]) (Zh (Zh (Zo Xt Pr<|Za (Yu Rv (kI 0) XE YH) Qf<|Zc) (ZK RX (Zh (Za (ZF (k (.int .i64 (.negSucc 0)))) Y9<|Zc) Z2) Zc)) (Zo WG PA<|Zo Xt PZ<|Za (Yg Rx (kI 1)) P0<|Za (Yg Rw Q5) P1<|Zo RY Um<|Zc))) Zc)) (Zh (Zh (Za (ZF (kI 1)) XW<|Zc) (Z0 3 (X8 aV))) (Zh (Zh (Zo WG M2<|Zo Wi M3<|Za (Vs Q6 RZ) M4<|Zo NU Y9<|Zc) Z2) (Zh Zc (Zh (Zo YY LZ<|Za (Yg LS (kI 1)) KL<|Zo PQ XH<|Zc) (Zh (Zo WG KM<|Za (Yg Li (kI 1)) KN<|Zo Kk Um<|Zc) (Zh (Za (ZF (kB true)) KO<|ZB Oj true (ZF YY) KQ<|ZB Oj true (ZF WG) KR<|ZB Oj true (Zv 121 [Js]) KS<|ZB Oj true (Yu Ok Kl UG WJ) JA<|Za (Yx Oj II (kB false)) I9<|Zo IJ Hf<|ZB LU true (ZF WG) JB<|ZB LU true (ZF Yb) JC<|ZB LU true (Xm Jt) JD<|ZB LU true (Yu LV Ju XE YH) KT<|Za (Yx LU Ry (kB false)) KU<|Zo Jv KV<|ZB Q7 false (ZF (kB false)) JE<|ZB Lj true (ZF YY) JF<|ZB Lj true (ZF WG) JG<|ZB Lj true (Kz Nt (k (nI .u64 4))) JH<|ZB Lj true (Yg (kI 4) LW) JI<|ZB Lj true (Yu Jw Jx Sc W5) Hg<|ZB Q7 false (Yx Lj IK (kB false)) Hh<|ZB Q7 false (ZF Lk) GV<|ZB Km true (ZF WG) F6<|ZB Km true (ZF Yb) EZ<|ZB Km true (Xm ER) E0<|ZB Km true (Yu Fw ES XE YH) E1<|ZB Q7 false (Yx Km ET (kB false)) E2<|Za (Yx Q7 (kB true) IL) BO<|Zc) (ZK Aj Q0 Zc))))))))))
def aW:D:=(Zh (Zh (Zo XF tc<|Zo XQ tf<|Za (Xm vl) tg<|Za (Yu vk vm XE YH) oR<|Zc) (ZK pG Zc (X6 7))) (Zh (Z0 8 (Zh (W2 [Xc (ZF Yb) [(st0,Yb)] BE 0 0,Xc (ZF WG) [(Um,WG)] BF 1 0,Xc (ZF XF) [(Ws,XF)] BG 2 0,Xc (Vs Cw Cx) [(BF,Cw),(BG,Cx)] BH 3 6,Xc (Y7 Cv Cy) [(BE,Cv),(BH,Cy)] BI 4 15,Xc (ZF XQ) [(Vw,XQ)] BJ 5 0,Xc (ZF Wi) [(Vz,Wi)] BK 6 0,Xc (ZF XF) [(Ws,XF)] BL 7 0,Xc (Vs CB CC) [(BK,CB),(BL,CC)] BM 8 192,Xc (Y7 CA CD) [(BJ,CA),(BM,CD)] BN 9 480,Xc (WN Cz CG Vp true) [(BI,Cz),(BN,CG)] yn 10 1023]) (ZK zl (X6 6) Zc))) (Zo XF th<|Za (Yg vp (kI 1)) ym<|Zo zk Ws<|Zc)))
def aX:D:=(Zh (Zh (Zo WG In<|Zo Yb Io<|Za (Xm HY) KJ<|Za (Yu RH Ki XE YH) KK<|Zc) (ZK Kj Zc (X6 5))) (Zh (Z0 6 (Zh (Zo Yb BD<|Zo WG ye<|Za (Y7 Cu HZ) yf<|Zo Xo yg<|Za (WN ze zf Vp false) yh<|Zo zg yi<|ZB LM true (ZF Yb) yj<|ZB LM true (ZF WG) yk<|ZB LM true (Vs zi (kI 1)) yl<|ZB LM true (Y7 zh zj) uX<|ZB LM true (ZF Wb) uY<|ZB LM true (WN pF vh Vp false) uZ<|Za (Yx LM vi (kB false)) ta<|Zc) (ZK vj (Zh (Zh (Za (ZF (kI 2)) Ws<|Zc) (Z0 7 (X8 aW))) (Zh (Zo WG yo<|Zo Wi tj<|Za (Vs zm vq) tk<|Zo vr Y9<|Zc) Z2)) Zc))) (Zo WG EO<|Za (Yg Ew (kI 1)) BC<|Zo Ct Um<|Zc)))
def tY:CF:=⟨[(Y4,none)],(Zh (Za (ZF (kI 0)) Y9<|Zc) (Z0 0 (Zh (Zo Wc oS<|Za (Yu (k (nI .i32 0)) pH S2 UE) oT<|Zo pI oU<|ZB zn true (ZF Wc) oV<|ZB zn true (Yu pJ (k (nI .i32 128)) XE YH) oW<|Za (Yx zn pK (kB false)) oX<|Zo pL tn<|Zc) (ZK vt (Zh (Zo Yb bq<|Zo Wc br<|Za (U0 gK .u8) bz<|Za (Zv 64 [pM,gM]) bA<|Zo gN Y9<|Zc) Z2) (Zh (Zo Wc bC<|Za (WN gQ (k (nI .i32 65533)) Vp false) bD<|Zo gS bB<|Zc) (ZK gO (Zh (Zh (Zo Yb bE<|Za (Dh gU) bF<|Zc) (Z0 9 (X8 Ht))) (Zh (Za (ZF (k (.int .i64 (.negSucc 0)))) Y9<|Zc) Z2)) (Zh (Zo Wc bO<|Za (Zv 120 [gZ]) bP<|Za (Pf Zda) bQ<|Zo fa bN<|Zc) (ZK Zc9 (Zh (Za (ZF (k (.int .i64 (.negSucc 0)))) Y9<|Zc) Z2) (Zh (Zo Wc WL<|Za (ow Wh) WW<|Zo Wo Vw<|Zc) (Zh (Zo XQ Vj<|Za (Xm Wz) Vt<|Za (Vs W6 (kI 1)) VS<|Zo Vq Vz<|Zc) (Zh (Zo Wi VT<|Zo VH Um<|Zc) (Zh (Za (ZF (kI 0)) XH<|Zc) (Zh (Z0 1 (X8 yK)) (Zh (Zh (Za (ZF (k (.int .i64 (.negSucc 0)))) Y9<|Zc) Z2) (Zh Zc (Zh (ZK (kB true) (Zh (Zo Yb BP<|Zo WG J8<|Zo Wi J9<|Za (Vs JR HT) GN<|Za (WI CH (some MG) none none) GO<|Zo Wc GP<|Za (ow HU) GQ<|Za (Zv 122 [MH,Of]) GR<|Zo Kh XU<|Zc) (Zh (Zo Xf Ia<|Za (Yu OV (kI 0) Sc W5) GS<|Zc) (ZK Ev (Zh (Zo WG GU<|Zo Xf Ib<|Za (Yg HV HW) Ic<|Zo Wi Ie<|Za (Vs JS JT) If<|Zo JU Y9<|Zc) Z2) Zc))) (Zh (Zo XQ Ig<|Zo Wi Ih<|Za (Y7 JV JW) Ii<|Zo JX Wp<|Zc) (Zh (Zo XQ Ij<|Zo Wi Ik<|Za (Vs MJ (kI 1)) Il<|Za (Y7 MI JY) Im<|Zo JZ Wy<|Zc) (Zh Zc (Z0 5 (X8 aX)))))) (Zh (Za (ZF (k (.int .i64 (.negSucc 0)))) Y9<|Zc) Z2)))))))))))))))))⟩
def jU:CF:=⟨[(VX,none)],(Zh (Za (ZF (kB false)) st2<|Zc) (Zh (Z0 0 (Zh (Zo Yb Y9<|Za (Yu (k (nI .i32 0)) Y4 S2 UE) WX<|Zo YW W9<|ZB XI true (ZF Yb) Vw<|ZB XI true (Yu XQ (k (nI .i32 55296)) XE YH) Vz<|Za (Yx XI Wi (kB false)) Um<|Zo WG Vl<|Zc) (ZK W8 (Zh (Za (ZF (kB true)) st2<|Zc) Z2) (Zh (Zo Yb XM<|Za (Yu (k (nI .i32 57343)) Xt XE YH) XW<|Zo Xr XU<|ZB Xf true (ZF Yb) Wp<|ZB Xf true (Yu Xo (k (nI .i32 1114111)) S2 UE) Wy<|Za (Yx Xf Wb (kB false)) Ws<|Zo XF XH<|Zc) (ZK YY (Zh (Za (ZF (kB true)) st2<|Zc) Z2) Zc))))) (Zh (Za (ZF (kB false)) st2<|Zc) Z2)))⟩
def c64:CF:=⟨[(Y4,none)],(Zh (Za (ZF (kI 0)) Y9<|Zc) (Zh (Zo Yb WX<|Zo Wc W9<|Za (Zv 88 [YW,XI]) Vw<|Zo XQ Y9<|Zc) Z2))⟩
def c88:CF:=⟨[(Y4,none)],(Zh (Za (ZF (kI 0)) Y9<|Zc) (Zh (Zo Yb WX<|Zo Wc W9<|Za (Zv 109 [YW,XI]) Vw<|Zo XQ Y9<|Zc) Z2))⟩
def c9:CF:=⟨[(VX,none)],(Zh (Za (Lt Yb 36) st1<|Za (ZF (kB false)) st2<|Zc) (Zh (Za (Yr Wc 0) Vw<|Za (ZJ XQ) Vz<|Za (Zv 32 [Wi]) Um<|Zo WG W9<|Za (XJ XI 0) XH<|Za (XJ XI 1) XM<|Zo YY Vl<|Zo Xt Y9<|Zc) (Zh (Za (Yr Wc 1) XW<|Za (WS Xr 8) XU<|Za (Ue 34 [(nI .i64 0),(nI .u32 0),(nI .u32 0),(nI .u32 0),(nI .i64 0),.nils,.nils,(.str [])]) WX<|Za (Xn YW Xf 8) d0<|Zc) (Zh (Zh (Zo W8 Wp<|Za (WN Xo (kI 0) Vp false) Wy<|Zo Wb Ws<|ZB XF false (ZJ (k (.ptr 0 0))) WL<|ZB XF false (Yr YW 0) WW<|ZB XF false (ZJ Wo) Vj<|ZB XF false (Jg Vp (nI .u8 0) false Wh Wz) Vt<|ZB XF false (WN W6 (k (nI .u8 0)) Vp false) VS<|Za (Yx XF (kB true) Vq) VT<|Zo VH V4<|ZB WU false (Yr YW 1) V9<|ZB WU false (ZJ Ve) Uf<|ZB WU false (Yu Vx (k (nI .u32 4095)) UG WJ) Uw<|Za (Yx WU (kB true) VY) Ux<|Zo V7 UH<|ZB VO false (Yr YW 5) Ta<|ZB VO false (ZJ VQ) Tj<|ZB VO false (Zv 33 [UF]) TO<|ZB VO false (Pf UR) TP<|Za (Yx VO (kB true) UO) TU<|Zo UW SB<|ZB Tt false (Yr YW 7) SJ<|ZB Tt false (ZJ TR) Ri<|ZB Tt false (Yr YW 0) Rj<|ZB Tt false (ZJ TS) Rk<|ZB Tt false (WN T7 (kI 3) Vp false) RG<|ZB Tt false (Zv 34 [RP,RQ]) Qw<|ZB Tt false (Pf Ru) Qx<|Za (Yx Tt (kB true) Qq) Pr<|Zc) (ZK Rv (Zh (Za (ZF (kB false)) st2<|Zc) Z2) Zc)) (Zh (Za (Yr YW 6) Qf<|Za (ZJ RX) PA<|Za (Xs Rw) PZ<|Za (Yu Rx (kI 16777216) S2 UE) P0<|Zo Q5 P1<|ZB RY true (Yr YW 0) Ov<|ZB RY true (ZJ OF) OP<|ZB RY true (WN OG (kI 2) Vp false) O8<|ZB RY true (ZF Og) NG<|ZB RR false (Yr YW 6) NH<|ZB RR false (ZJ Pw) NI<|ZB RR false (Xs NR) NJ<|ZB RR false (WN Oh (kI 0) Vp false) NW<|ZB RY true (Yx RR (kB true) Mm) NX<|Za (Yx RY NS (kB false)) NY<|Zo NT st2<|Zc) Z2)))))⟩
def Ml:D:=(Zh (Za (Yu XQ XI XE YH) Vz<|Zc) (Zh (ZK Wi Zc (X6 0)) (Zh (Z0 1 (Zh (Zo XQ Um<|Za (XN YW XQ 2) XH<|Za (WS YY 2) XM<|Za (Ue 45 [(.str []),(.str [])]) Y9<|Zo WG Vl<|Za (Xn Y4 Xt 2) d0<|Zc) (Zh (W2 [Xc (Yr Y4 0) [(Y9,Y4)] XW 0 0,⟨ZJ Xr,none,[(XW,Xr)],XU,.read,1,1⟩,Xc (WN Xf (k (.str [])) PM false) [(XU,Xf)] Wp 2 3,Xc (ZF Xo) [(Wp,Xo)] Wy 3 7,⟨Yr Y4 0,(some (Wb,false)),[(Y9,Y4)],Ws,.free,4,15⟩,⟨ZJ XF,(some (Wb,false)),[(Ws,XF)],WL,.read,5,31⟩,⟨Xm Wh,(some (Wb,false)),[(WL,Wh)],WW,.free,6,63⟩,⟨Yu Wo (kI 242) UG WJ,(some (Wb,false)),[(WW,Wo)],Vj,.free,7,127⟩,Xc (Yx Wb (kB true) Wz) [(Wy,Wb),(Vj,Wz)] Vt 8 255,Xc (ZF W6) [(Vt,W6)] VS 9 511,⟨Yr Y4 0,(some (Vq,false)),[(Y9,Y4)],VT,.free,10,1023⟩,⟨ZJ VH,(some (Vq,false)),[(VT,VH)],V4,.read,11,2047⟩,⟨Zv 63 [WU,(k (.str [0,61,10]))],(some (Vq,false)),[(V4,WU)],V9,.eff,12,4095⟩,Xc (Yx Vq (kB true) Ve) [(VS,Vq),(V9,Ve)] Uf 13 8191,Xc (ZF Vx) [(Uf,Vx)] Uw 14 16383,⟨ZF W8,(some (VY,false)),[(Vl,W8)],Ux,.free,15,32767⟩,⟨Yu V7 (kI 0) UG WJ,(some (VY,false)),[(Ux,V7)],UH,.free,16,65535⟩,⟨ZF VO,(some (VY,false)),[(UH,VO)],Ta,.free,17,131071⟩,⟨ZF Yb,(some (VQ,true)),[(st0,Yb)],Tj,.free,18,262143⟩,⟨ZF W8,(some (VQ,true)),[(Vl,W8)],TO,.free,19,262143⟩,⟨Vs UR (kI 1),(some (VQ,true)),[(TO,UR)],TP,.free,20,786431⟩,⟨XN UF UO 2,(some (VQ,true)),[(Tj,UF),(TP,UO)],TU,.free,21,2097151⟩,⟨Yr UW 0,(some (VQ,true)),[(TU,UW)],SB,.free,22,4194303⟩,⟨ZJ Tt,(some (VQ,true)),[(SB,Tt)],SJ,.read,23,8388607⟩,⟨Yr Y4 0,(some (VQ,true)),[(Y9,Y4)],Ri,.free,24,262143⟩,⟨ZJ RP,(some (VQ,true)),[(Ri,RP)],Rj,.read,25,17039359⟩,⟨Yu TR TS Sc W5,(some (VQ,true)),[(SJ,TR),(Rj,TS)],Rk,.free,26,67108863⟩,⟨Yx VQ T7 (kB false),(some (VY,false)),[(Ta,VQ),(Rk,T7)],RG,.free,27,134217727⟩,Xc (Yx VY (kB true) RQ) [(Uw,VY),(RG,RQ)] Qw 28 268435455]) (ZK Ru (Zh (Za (ZF (kB false)) st2<|Zc) Z2) Zc)))) (Za (Yg XQ (kI 1)) Qx<|Zo Qq Vw<|Zc))))
def c33:CF:=⟨[(VX,none)],(Zh (Za (ZF (kB false)) st2<|Zc) (Zh (Zh (Zo Yb WX<|Za (Xs YW) W9<|Za (ZF (kI 0)) Vw<|Zc) (Z0 0 (X8 Ml))) (Zh (Zo Yb Pr<|Za (Xs Rv) Qf<|Za (Yu RX (kI 16) S2 UE) PA<|Zo Rw st2<|Zc) Z2)))⟩
def c34:CF:=⟨[(Y4,none)],(Zh (Za (ZF (kB false)) Y9<|Zc) (Zh (Zh (Zo Wc WX<|Za (Pf YW) W9<|Zc) (ZK XI (Zh (Zo Yb Vw<|Za (WN XQ (k (.str [])) PM false) Vz<|Zo Wi Y9<|Zc) Z2) Zc)) (Zh (Zo Yb Um<|Za (WN WG (k (.str [])) PM true) XH<|Zo YY XM<|ZB Xt true (ZF Yb) XW<|ZB Xt true (Xm Xr) XU<|ZB Xt true (Yu Xf (kI 4096) S2 UE) Wp<|Za (Yx Xt Xo (kB false)) Wy<|Zo Wb Ws<|ZB XF true (ZF Yb) WL<|ZB XF true (Zv 64 [Wh,(k (nI .u8 0))]) WW<|ZB XF true (Yu Wo (kI 0) XE YH) Vj<|Za (Yx XF Wz (kB false)) Vt<|Zo W6 Y9<|Zc) Z2)))⟩
def ZcU:D:=(Zh (Za (Yu T7 (kI 4) XE YH) RG<|Zc) (Zh (ZK RQ Zc (X6 0)) (Zh (Z0 1 (Zh (Za (Gp TS T7 4) Qw<|Zo Ru XH<|Zc) (Zo Wi Qx<|Zo YY Pr<|Za (Zv 23 [Qq,Rv,(kI 0)]) Qf<|Zc))) (Za (Yg T7 (kI 1)) PA<|Zo Rw Rk<|Zc))))
def c7:CF:=⟨[(VX,none),(W8,none)],(Zh (Za (Lt Yb 36) st1<|Za (ZF (k .nils)) st2<|Za (ZF (kI 0)) Vl<|Zc) (Zh (Zh (Za (WS Wc 9) XM<|Za (Zv 9 [Xt]) XW<|Za (Pf Xr) XU<|Zc) (ZK Xf (Zh (Za (ZF (k .nils)) st2<|Za (ZF (kI 1)) Vl<|Zc) Z2) Zc)) (Zh (Za (WS Wc 9) Wy<|Za (Zv 19 [Wb]) Ws<|Zo XF Wp<|Za (XJ Xo 0) WL<|Za (XJ Xo 1) WW<|Zo Wh Y9<|Zo Wo WX<|Zc) (Zh (Zh (Zo YW Vj<|Za (Xs Wz) Vt<|Za (WN W6 (kI 0) Vp false) VS<|Zc) (ZK Vq (Zh (Zo Y4 VT<|Za (Qs VH) V4<|Za (Yr WU 0) V9<|Za (Pg 512 1 Ve none none none) Uf<|Zo Vx st2<|Za (ZF (kI 0)) Vl<|Zc) Z2) Zc)) (Zh (Zo YW Ux<|Za (Zv 20 [V7]) UH<|Zo VO Uw<|Za (XJ VY 0) Ta<|Za (XJ VY 1) Tj<|Zo VQ W9<|Zo UF Vw<|Zc) (Zh (Zh (Zo XQ TO<|Za (WN UR (kI 0) Vp true) TP<|Zc) (ZK UO (Zh (Zo XQ TU<|Za (ZF (k .nils)) st2<|Zo UW Vl<|Zc) Z2) Zc)) (Zh (Za (Zv 21 [(k (nI .u8 120))]) SB<|Zo Tt Vz<|Zc) (Zh (Zo Wi SJ<|Za (Zv 22 [TR,(k (.str [110,97,109,101])),(k (.str [112,97,120]))]) Ri<|Zc) (Zh (Zh (Za (UZ [(.str []),(.str []),(.str []),(.str [])] [⟨0,1,(k (.str [109,111,100,101]))⟩,⟨1,1,(k (.str [117,105,100]))⟩,⟨2,1,(k (.str [103,105,100]))⟩,⟨3,1,(k (.str [109,116,105,109,101]))⟩]) Rj<|Za (ZF (kI 0)) Rk<|Zc) (Z0 0 (X8 ZcU))) (Zh (Zo Wi PZ<|Zo XI P0<|Za (Xs Q5) P1<|Za (Zv 23 [Rx,(k (.str [115,105,122,101])),RY]) Ov<|Zc) (Zh (Zo Wi OP<|Za (Qs OG) O8<|Za (Yr Og 0) NG<|Za (Zv 24 [RR]) NH<|Zc) (Zh (W2 [Xc (ZF Wi) [(Vz,Wi)] NI 0 0,Xc (Qs NR) [(NI,NR)] NJ 1 1,Xc (Yr Oh 0) [(NJ,Oh)] NW 2 3,Xc (Pg 512 1 Mm none none none) [(NW,Mm)] NX 3 7,Xc (ZF XI) [(W9,XI)] NY 4 0,Xc (ZF XI) [(W9,XI)] Mt 5 0,Xc (Xs Oi) [(Mt,Oi)] Mu 6 32,Xc (ZF Y4) [(Y9,Y4)] Mw 9 0,Xc (Qs O0) [(Mw,O0)] Mx 10 512,Xc (Yr Nr 0) [(Mx,Nr)] M1 11 1536,Xc (Pg 512 1 Ns none none none) [(M1,Ns)] M2 12 3584,⟨Zv 13 [Np],none,[(Mu,Np)],N0,.eff,7,96⟩,Xc (NA 5 1 1 [(nI .u8 0)] OH OH) [(N0,OH),(N0,OH)] Mv 8 224,⟨Wt 24 1 4 (List.replicate 4 [.nils]).flatten [⟨0,1,NS⟩,⟨1,1,NT⟩,⟨2,1,Nq⟩,⟨3,1,Q6⟩],none,[(NX,NS),(NY,NT),(Mv,Nq),(M2,Q6)],M3,.free,13,8191⟩,⟨Zv 25 [RZ],none,[(M3,RZ)],M4,.eff,14,16383⟩,⟨ZF NU,none,[(M4,NU)],st2,.eff,15,32767⟩,⟨ZF (kI 0),none,[],Vl,.eff,16,65535⟩]) Z2))))))))))))⟩
def L6:D:=(Zh (Za (Yu RZ (kI 3) XE YH) M4<|Zc) (Zh (ZK NU Zc (X6 0)) (Zh (Z0 1 (Zh (Za (xD Q6 RZ 3 3) LZ<|Za (Ue 83 [(.str []),(nI .i64 0),(nI .i64 0)]) XU<|Za (Xn Xf LS 3) d0<|Zc) (Zh (Zh (Za (Yr Xf 1) KL<|Za (ZJ PQ) KM<|Za (Yu Li (kI 0) XE YH) KN<|Zo Kk KO<|ZB Oj false (Yr Xf 1) KQ<|ZB Oj false (ZJ Ok) KR<|ZB Oj false (Yr Xf 2) KS<|ZB Oj false (ZJ Kl) JA<|ZB Oj false (Yu Js II UG WJ) I9<|Za (Yx Oj (kB true) IJ) Hf<|Zc) (ZK LU (Zh (W2 [Xc (ZF XQ) [(Vw,XQ)] JB 0 0,Xc (Yr Xf 0) [(XU,Xf)] JC 1 0,⟨ZJ Jt,none,[(JC,Jt)],JD,.read,2,2⟩,Xc (Yr Xf 1) [(XU,Xf)] KT 3 0,⟨ZJ Ry,none,[(KT,Ry)],KU,.read,4,8⟩,⟨Zv 44 [Jv],none,[(KU,Jv)],KV,.eff,5,24⟩,⟨MO LV Tryz.prog [Ju,Q7],none,[(JB,LV),(JD,Ju),(KV,Q7)],JE,.eff,6,63⟩]) (Za (Yr Xf 1) JF<|Za (Xn Jw (kI 0) 1) d0<|Zc)) Zc)) (Zo YW JG<|Za (Yr Xf 0) JH<|Za (ZJ LW) JI<|Za (Yr Xf 1) Hg<|Za (ZJ IK) Hh<|Za (Zv 23 [Nt,Jx,Lk]) GV<|Zc)))) (Za (Yg RZ (kI 1)) F6<|Zo Fw M3<|Zc))))
def DO:D:=(Zh (Za (Yu OV Kh XE YH) GS<|Zc) (Zh (ZK Ev Zc (X6 2)) (Zh (Z0 3 (Zh (Za (XN Of OV 2) GU<|Za (WS HV 2) Ib<|Za (Ue 45 [(.str []),(.str [])]) Wy<|Za (Xn Wb HW 2) d0<|Zc) (Zo XQ Ic<|Za (Yr Wb 0) Ie<|Za (ZJ JT) If<|Za (Yg (k (.str [83,67,72,73,76,89,46,120,97,116,116,114,46])) JU) Ig<|Za (Yr Wb 1) Ih<|Za (ZJ JW) Ii<|Za (MO JS Tryz.prog [JV,JX]) Ij<|Zc))) (Za (Yg OV (kI 1)) Ik<|Zo MJ Ia<|Zc))))
def sj:D:=(Zh (Zo YW Il<|Za (Qs JY) Im<|Za (Yr JZ 0) In<|Za (Zv 24 [RH]) Io<|Zc) (Zh (W2 [Xc (ZF YW) [(WX,YW)] KJ 0 0,⟨ZJ XI,none,[(W9,XI)],KK,.read,1,0⟩,⟨ZF Ki,none,[(KJ,Ki)],st2,.eff,2,1⟩,⟨ZF Kj,none,[(KK,Kj)],Vl,.eff,3,7⟩]) Z2))
def si:D:=(Zh (Zo YW EZ<|Za (Yr Y4 1) E0<|Za (ZJ ES) E1<|Za (U0 ET .i64) E2<|Za (Zv 23 [ER,(k (.str [109,111,100,101])),IL]) BO<|Zc) (Zh (Zo YW BP<|Za (Yr Y4 6) J8<|Za (ZJ JR) J9<|Za (Xs HT) GN<|Za (Zv 23 [CH,(k (.str [115,105,122,101])),MG]) GO<|Zc) (Zh (Zh (Za (Yr Y4 5) GP<|Za (ZJ HU) GQ<|Za (Xs Of) GR<|Za (ZF (kI 0)) Ia<|Zc) (Z0 2 (X8 DO))) sj)))
def tZ:D:=(Zh (Zo YW NG<|Zo Xt NH<|Za (Zv 22 [RR,(k (.str [108,105,110,107,110,97,109,101])),Pw]) NI<|Zc) (Zh (Zh (Za (Yr Y4 2) NJ<|Za (ZJ Oh) NW<|Za (U0 Mm .i64) NX<|Za (UZ [(.str []),(nI .i64 0),(nI .i64 0)] [⟨0,1,(k (.str [117,105,100]))⟩,⟨1,1,NS⟩,⟨2,1,(kI 2097151)⟩]) NY<|Za (Yr Y4 3) Mt<|Za (ZJ Oi) Mu<|Za (U0 Np .i64) N0<|Za (UZ [(.str []),(nI .i64 0),(nI .i64 0)] [⟨0,1,(k (.str [103,105,100]))⟩,⟨1,1,OH⟩,⟨2,1,(kI 2097151)⟩]) Mv<|Za (Yr Y4 4) Mw<|Za (ZJ O0) Mx<|Za (UZ [(.str []),(nI .i64 0),(nI .i64 0)] [⟨0,1,(k (.str [109,116,105,109,101]))⟩,⟨1,1,Nr⟩,⟨2,1,(kI 8589934591)⟩]) M1<|Za (UZ [(.str []),(nI .i64 0),(nI .i64 0),(.str []),(nI .i64 0),(nI .i64 0),(.str []),(nI .i64 0),(nI .i64 0)] [⟨0,3,NT⟩,⟨3,3,Nq⟩,⟨6,3,Ns⟩]) M2<|Za (ZF (kI 0)) M3<|Zc) (Z0 0 (X8 L6))) si))
def Fg:D:=(Zh (Zo YW Rj<|Zo Wi Rk<|Za (Zv 22 [TS,(k (.str [112,114,101,102,105,120])),T7]) RG<|Zc) (Zh (Zo YW Qw<|Zo WG Qx<|Za (Zv 22 [Ru,(k (.str [110,97,109,101])),Qq]) Pr<|Zc) (Zh (Za (Yr Y4 7) Qf<|Za (ZJ RX) PA<|Zo Rw XM<|Zc) (Zh (Zh (Zo Xt PZ<|Za (Xm Rx) P0<|Za (Yu Q5 (kI 100) UG WJ) P1<|Zc) (ZK RY (Zh (Zo XQ Ov<|Zo Xt OP<|Za (MO OF Tryz.prog [(k (.str [108,105,110,107,112,97,116,104])),OG]) O8<|Zc) (Za (ZF (k (.str []))) XM<|Zc)) Zc)) tZ))))
def c19:CF:=⟨[(VX,none),(W8,none)],(Zh (Za (Lt Yb 36) st1<|Za (ZF (k .nilp)) st2<|Za (ZF (k .nils)) Vl<|Zc) (Zh (Za (Yr Wc 1) Ws<|Za (WS XF 8) WL<|Za (Ue 34 [(nI .i64 0),(nI .u32 0),(nI .u32 0),(nI .u32 0),(nI .i64 0),.nils,.nils,(.str [])]) Y9<|Za (Xn Y4 Wh 8) d0<|Zc) (Zh (Za (ZJ (k (.ptr 0 0))) WW<|Za (Yr Y4 0) Vj<|Za (ZJ Wz) Vt<|Za (Jg Vp (nI .u8 0) false Wo W6) VS<|Za (Zv 21 [Vq]) VT<|Zo VH WX<|Zc) (Zh (Za (Ue 49 [.nils]) W9<|Zc) (Zh (Za (v9 41 [] [XI]) V4<|Zo WU Vw<|Zc) (Zh (Za (WS Wc 9) Uf<|Za (Zv 43 [Vx]) Uw<|Za (Zv 42 [VY]) Ux<|Zo V7 V9<|Za (XJ Ve 0) UH<|Za (XJ Ve 1) Ta<|Za (XJ Ve 2) Tj<|Zo VO Vz<|Zo VQ Um<|Zo UF XH<|Zc) (Zh (Zh (Zo YY TO<|Za (Pf UR) TP<|Zc) (ZK UO (Zo XQ TU<|Za (WS Wc 9) SB<|Za (Zv 43 [Tt]) SJ<|Za (MO UW Tryz.prog [(k (.str [112,97,116,104])),TR]) Ri<|Zc) Zc)) Fg)))))))⟩
def c41:CF:=⟨[],(Za (ZJ VX) WX<|Zo Yb W9<|Zo Wc Vw<|Za (UZ [(.str []),(.str [])] [⟨0,1,XI⟩,⟨1,1,XQ⟩]) Vz<|Za (Wt 81 2 1 [(.str []),(.str [])] [⟨0,2,Wi⟩]) Um<|Za (X1 YW WG 81 2 32) XH<|Za (Xn VX YY 1) d0<|Zc)⟩
def c21:CF:=⟨[(VX,none)],(Zh (Za (ZF (k .nilp)) st2<|Zc) (Zh (Za (UZ B9 []) Y9<|Za (Lt Y4 55) WX<|Zo YW Vl<|Zc) (Zh (Zo W8 W9<|Za (Zv 22 [XI,(k (.str [109,97,103,105,99])),(k (.str [117,115,116,97,114]))]) Vw<|Zc) (Zh (Zo W8 Vz<|Za (Qs Wi) Um<|Za (Yr WG 0) XH<|Za (Wt 5 1 2 (List.replicate 2 [(nI .u8 0)]).flatten [⟨0,1,(k (nI .u8 48))⟩,⟨1,1,(k (nI .u8 48))⟩]) XM<|Za (zB Xt) XW<|Za (Zv 50 [YY,(k (.str [118,101,114,115,105,111,110])),Xr]) XU<|Zc) (Zh (Zo W8 Wp<|Za (Qs Xo) Wy<|Za (Yr Wb 0) Ws<|Zo Yb WL<|Za (Wt 5 1 1 [(nI .u8 0)] [⟨0,1,Wh⟩]) WW<|Za (Zv 50 [XF,(k (.str [116,121,112,101])),Wo]) Vj<|Zc) (Zh (Zo W8 Vt<|Zo W6 st2<|Zc) Z2))))))⟩
def c22:CF:=⟨[],(Zh (Zo Yb XM<|Za (Qs Xt) XW<|Za (Yr Xr 0) XU<|Zo Wc Wp<|Za (Zv 51 [Xf,Xo]) Wy<|Zo Wb XH<|Za (XJ YY 0) Ws<|Za (XJ YY 1) WL<|Zo XF W9<|Zo Wh Vw<|Zc) (Zh (Zo VX Vj<|Zo XI Vt<|Za (Xs W6) VS<|Za (Zv 52 [Wz,Vq]) VT<|Zo VH WW<|Za (XJ Wo 0) V4<|Za (XJ Wo 1) V9<|Zo WU Vz<|Zo Ve Um<|Zc) (Zo Yb Uf<|Za (Qs Vx) Uw<|Za (Yr VY 0) Ux<|Zo Wc UH<|Zo Wi Ta<|Za (Zv 50 [V7,VO,VQ]) Tj<|Zc)))⟩
def c23:CF:=⟨[],(Zh (Zo Yb XM<|Za (Qs Xt) XW<|Za (Yr Xr 0) XU<|Zo Wc Wp<|Za (Zv 51 [Xf,Xo]) Wy<|Zo Wb XH<|Za (XJ YY 0) Ws<|Za (XJ YY 1) WL<|Zo XF W9<|Zo Wh Vw<|Zc) (Zh (Zo VX Vj<|Zo XI Vt<|Za (Xs W6) VS<|Za (Zv 53 [Wz,Vq]) VT<|Zo VH WW<|Za (XJ Wo 0) V4<|Za (XJ Wo 1) V9<|Zo WU Vz<|Zo Ve Um<|Zc) (Zo Yb Uf<|Za (Qs Vx) Uw<|Za (Yr VY 0) Ux<|Zo Wc UH<|Zo Wi Ta<|Za (Zv 50 [V7,VO,VQ]) Tj<|Zc)))⟩
def c24:CF:=⟨[],(Zh (Zo Yb WX<|Za (Zv 54 [YW]) W9<|Za (Zv 53 [XI,(kI 7)]) Vw<|Zo XQ Y9<|Za (XJ Y4 0) Vz<|Za (XJ Y4 1) Um<|Zo Wi st2<|Zo WG Vl<|Zc) (Zh (Zo W8 XH<|Za (WN YY (kI 0) Vp false) XM<|Zc) (ZK Xt (Zo Yb XW<|Zo VX XU<|Za (Wt 5 1 1 [(nI .u8 0)] [⟨0,1,(k (nI .u8 32))⟩]) Wp<|Za (X1 Xf Xo 5 1 1) Wy<|Za (Zv 50 [Xr,(k (.str [99,104,107,115,117,109])),Wb]) Ws<|Zc) Zc)))⟩
def DY:D:=(Zh (Za (Yu Wh (kI 512) XE YH) WW<|Zc) (Zh (ZK Wo Zc (X6 0)) (Zh (Z0 1 (Zh (Za (Gp XF Wh 512) Vj<|Zo Wz W9<|Zc) (Zo Y4 Vt<|Zo XI VS<|Za (U0 Vq .i64) VT<|Za (Yg W6 VH) V4<|Zo WU Y9<|Zc))) (Za (Yg Wh (kI 1)) V9<|Zo Ve WL<|Zc))))
def c54:CF:=⟨[(VX,none)],(Zh (Za (ZF (kI 0)) st2<|Zc) (Zh (Zh (Zo Yb Vw<|Za (WN XQ (k .nilp) nV false) Vz<|Zc) (ZK Wi (Zh (Za (ZF (kI 0)) st2<|Zc) Z2) Zc)) (Zh (Zo Yb Um<|Za (Qs WG) XH<|Za (WS YY 512) XM<|Za (Lr 53 512 (nI .u8 0)) Vl<|Za (Xn W8 Xt 512) d0<|Zc) (Zh (Za (Wt 5 1 1 [(nI .u8 0)] [⟨0,1,(k (nI .u8 32))⟩]) XW<|Za (zB Xr) XU<|Za (Zv 80 [Xf,(kI 8)]) Wp<|Za (Zv 50 [W8,(k (.str [99,104,107,115,117,109])),Xo]) Wy<|Zc) (Zh (Za (ZF (kI 0)) Y9<|Zc) (Zh (Zh (Za (WS W8 512) Ws<|Za (ZF (kI 0)) WL<|Zc) (Z0 0 (X8 DY))) (Zh (Zo Y4 Uf<|Zo Vx st2<|Zc) Z2)))))))⟩
def c50:CF:=⟨[(XI,none)],(Zh (Za (ZF (kI 0)) W9<|Zc) (Zh (Zo Yb Vz<|Zo Wc Um<|Za (Zv 75 [Wi,WG]) XH<|Zo YY Vw<|Zc) (Zh (Zh (Zo XQ XM<|Za (WN Xt (k .nils) nU false) XW<|Zo Xr XU<|ZB Xf false (ZF VX) Wp<|ZB Xf false (Xs Xo) Wy<|ZB Xf false (ZF XQ) Ws<|ZB Xf false (Xs XF) WL<|ZB Xf false (WN Wb Wh Vp true) WW<|Za (Yx Xf (kB true) Wo) Vj<|Zc) (ZK Wz (Zh (Za (ZF (kI 1)) W9<|Zc) Z2) Zc)) (Zh (Zo XQ Vt<|Zo VX VS<|Za (C9 W6 Vq 1) VT<|Zc) (Zh (Za (ZF (kI 0)) W9<|Zc) Z2)))))⟩
def c51:CF:=⟨[(Y4,none),(YW,none)],(Zh (Za (ZF (k .nils)) Y9<|Za (ZF (kB false)) WX<|Zc) (Zh (Zo Yb Vw<|Zo Wc Vz<|Za (Zv 75 [XQ,Wi]) Um<|Zo WG W9<|Zc) (Zh (Zo XI XH<|Za (Zv 76 [YY]) XM<|Zo XI XW<|Za (WN Xr (k .nils) nU true) XU<|Zo Xt Y9<|Zo Xf WX<|Zc) Z2)))⟩
def c75:CF:=⟨[(Y4,none)],(Zh (Za (ZF (k .nils)) Y9<|Zc) (Zh (Za (ZJ (k (.ptr 2 0))) Vz<|Zo Wc Um<|Za (Jg PM (.agg [(nI .i64 0),(nI .i64 0)]) true Wi WG) XH<|Zo YY Vw<|Za (XJ XQ 0) XM<|Za (XJ XQ 1) XW<|Za (Ue 119 [(nI .i64 0),(nI .i64 0)]) WX<|Za (Xn YW Xt 2) d0<|Zo Xr W9<|Zc) (Zh (Zh (Zo Yb XU<|Za (WN Xf (k .nilp) nV false) Wp<|Zo Xo Wy<|ZB Wb false (ZF XI) Ws<|ZB Wb false (Pf XF) WL<|Za (Yx Wb (kB true) Wh) WW<|Zc) (ZK Wo (Zh (Za (ZF (k .nils)) Y9<|Zc) Z2) Zc)) (Zh (W2 [Xc (ZF Yb) [(st0,Yb)] Vj 0 0,Xc (Qs Wz) [(Vj,Wz)] Vt 1 1,Xc (On YW (kI 0) 2 1) [(WX,YW)] VS 2 0,⟨ZJ Vq,none,[(VS,Vq)],VT,.read,3,4⟩,Xc (On YW (kI 0) 2 1) [(WX,YW)] V4 4 0,⟨ZJ WU,none,[(V4,WU)],V9,.read,5,16⟩,Xc (On YW (kI 1) 2 1) [(WX,YW)] Uf 6 0,⟨ZJ Vx,none,[(Uf,Vx)],Uw,.read,7,64⟩,Xc (Yg Ve VY) [(V9,Ve),(Uw,VY)] Ux 8 240,Xc (Pg 512 1 W6 (some VH) (some V7) none) [(Vt,W6),(VT,VH),(Ux,V7)] UH 9 511,⟨ZF VO,none,[(UH,VO)],Y9,.eff,10,1023⟩]) Z2))))⟩
def c52:CF:=⟨[(Y4,none),(YW,none)],(Zh (Za (ZF (k .nils)) Y9<|Za (ZF (kI 0)) WX<|Zc) (Zh (Z0 0 (Zh (Zo Wc Vw<|Za (Yu XQ (kI 1) XE YH) Vz<|Zo Wi Um<|ZB WG false (ZF Wc) XH<|ZB WG false (Yu YY (kI 512) UG WJ) XM<|Za (Yx WG (kB true) Xt) XW<|Zo Xr XU<|ZB Xf false (ZF Yb) Wp<|ZB Xf false (Zv 77 [Xo,(k (.str [0]))]) Wy<|Za (Yx Xf (kB true) Wb) Ws<|Zo XF W9<|Zc) (ZK XI (Zh (Za (ZF (k .nils)) Y9<|Za (ZF (kI 1)) WX<|Zc) Z2) (Zh (Zo Yb WW<|Za (Xm Wo) Vj<|Zo Wc Vt<|Za (Yu Wz W6 UG WJ) VS<|Zo Vq WL<|Zc) (ZK Wh (Zh (Za (ZF (k .nils)) Y9<|Za (ZF (kI 3)) WX<|Zc) Z2) Zc))))) (Zh (Zo Yb VT<|Za (C8 VH 5) V4<|Zo Wc V9<|Zo Yb Uf<|Za (Xm Vx) Uw<|Za (Vs Ve VY) Ux<|Za (Ny WU V7 5 1 1 [(nI .u8 0)]) UH<|Zo VO Y9<|Za (ZF (kI 0)) WX<|Zc) Z2)))⟩
def c53:CF:=⟨[(Y4,none),(YW,none)],(Zh (Za (ZF (k .nils)) Y9<|Za (ZF (kI 0)) WX<|Zc) (Zh (Zh (Zo Wc Vw<|Za (Zv 78 [XQ]) Vz<|Za (Pf Wi) Um<|Zc) (ZK WG (Zh (Za (ZF (k .nils)) Y9<|Za (ZF (kI 1)) WX<|Zc) Z2) Zc)) (Zh (Zo Yb XH<|Za (Zv 71 [YY,(kI 8)]) XM<|Zo Xt W9<|Zc) (Zh (Zh (Zo Yb XW<|Za (Yu Xr (kI 0) XE YH) XU<|Zo Xf Wp<|ZB Xo false (ZF XI) Wy<|ZB Xo false (Xm Wb) Ws<|ZB Xo false (ZF Wc) WL<|ZB Xo false (Vs Wh (kI 1)) WW<|ZB Xo false (Yu XF Wo UG WJ) Vj<|Za (Yx Xo (kB true) Wz) Vt<|Zc) (ZK W6 (Zh (Za (ZF (k .nils)) Y9<|Za (ZF (kI 3)) WX<|Zc) Z2) Zc)) (Zh (Zo Wc VS<|Za (Vs Vq (kI 1)) VT<|Zo XI V4<|Za (Xm WU) V9<|Za (Vs VH Ve) Uf<|Za (Zv 79 [(k (.str [48])),Vx]) Uw<|Zo XI Ux<|Za (Yg VY V7) UH<|Za (Yg VO (k (.str [0]))) Ta<|Za (C8 VQ 5) Tj<|Zo UF Y9<|Za (ZF (kI 0)) WX<|Zc) Z2)))))⟩
def c78:CF:=⟨[(VX,none)],(Zh (Za (ZF (kB false)) st2<|Zc) (Zh (Zo Yb Vl<|Za (Yu W8 (kI 2) Sc W5) Y9<|Zo Y4 WX<|ZB YW true (ZF Yb) W9<|ZB YW true (Yu XI (kI 20) S2 UE) Vw<|Za (Yx YW XQ (kB false)) Vz<|Zo Wi st2<|Zc) Z2))⟩
def c77:CF:=⟨[(Y4,none)],(Zh (Za (ZF (kB false)) Y9<|Zc) (Zh (Zo Yb WX<|Zo Wc W9<|Za (Zv 94 [YW,XI]) Vw<|Za (Yu XQ (kI 0) Sc W5) Vz<|Zo Wi Y9<|Zc) Z2))⟩
def jX:D:=(Zh (Zh (Zo YY Mv<|Zo XQ Mw<|Za (Yu Nq O0 XE YH) Mx<|Zc) (ZK Nr Zc (X6 0))) (Z0 1 (Zh (Zo YY M1<|Zo Wi M2<|Za (Su false [Ns,Q6]) M3<|Zo RZ XM<|Zc) (W2 [Xc (ZF YY) [(XH,YY)] M4 0 0,Xc (ZF WG) [(Um,WG)] LZ 1 0,Xc (ZF YY) [(XH,YY)] KL 2 0,⟨Ph 1 LS (some PQ) none none,none,[(LZ,LS),(KL,PQ)],KM,.read,3,6⟩,Xc (ZF WG) [(Um,WG)] KN 4 0,Xc (ZF Xt) [(XM,Xt)] KO 5 0,⟨Ph 1 Kk none (some Oj) none,none,[(KN,Kk),(KO,Oj)],KQ,.read,6,48⟩,⟨C9 Li Ok 1,none,[(KM,Li),(KQ,Ok)],KR,.eff,7,126⟩,Xc (Yg NU Js) [(M4,NU),(KR,Js)] KS 8 255,⟨ZF Kl,none,[(KS,Kl)],XH,.eff,9,511⟩]))))
def c80:CF:=⟨[(Y4,none)],(Zh (Za (ZF (k .nils)) Y9<|Zc) (Zh (Zh (Zo Wc XW<|Za (WN Xr (kI 0) Vp false) XU<|Zc) (ZK Xf (Zh (Za (Wt 5 1 0 (List.replicate 0 [(nI .u8 0)]).flatten []) Wp<|Zo Xo Y9<|Zc) Z2) Zc)) (Zh (Zh (Zo Wc Wy<|Za (Yu Wb (kI 0) XE YH) Ws<|Zc) (ZK XF (Za (OK (k (.str Zne)) 9) WL<|Za (OM Wh) d0<|Zc) Zc)) (Zh (Zo Yb Vj<|Za (Xs Wz) Vt<|Za (U0 W6 .u64) VS<|Zo Wc VT<|Za (U0 VH .u64) V4<|Za (Zv 95 [Vq,WU]) V9<|Zo Ve WW<|Za (XJ Wo 0) Uf<|Za (XJ Wo 1) Uw<|Zo Vx WX<|Zo VY W9<|Zc) (Zh (Zh (Zo YW Ux<|Za (Yu V7 (k (nI .u64 0)) UG WJ) UH<|Zo VO Ta<|ZB VQ false (ZF XI) Tj<|ZB VQ false (Yu UF (k (nI .u64 9223372036854775807)) UG WJ) TO<|Za (Yx VQ (kB true) UR) TP<|Zc) (ZK UO (Za (OK (k (.str Zit)) 9) TU<|Za (OM UW) d0<|Zc) Zc)) (Zh (Zo XI SB<|Za (U0 Tt .i64) SJ<|Zo TR Vw<|Zc) (Zh (Zh (Zo Yb Ri<|Za (Xs RP) Rj<|Za (WN TS (kI 0) Vp false) Rk<|Zc) (ZK T7 (Zh (Za (Wt 5 1 0 (List.replicate 0 [(nI .u8 0)]).flatten []) RG<|Zo RQ Y9<|Zc) Z2) Zc)) (Zh (Zo XQ Qw<|Zo Ru Vz<|Zc) (Zh (Zh (Zo Wi Qx<|Za (Yu Qq (kI 8192) UG WJ) Pr<|Zc) (ZK Rv (Zh (Zo Yb Qf<|Za (Xs RX) PA<|Za (Jy (kI 8192) Rw) PZ<|Zo Yb P0<|Za (Xs Q5) P1<|Za (O3 Rx RY) Ov<|Zo OF Vz<|Zc) (Zh (Zo Wi OP<|Za (WN OG (kI 0) Vp false) O8<|Zc) (ZK Og (Zo Yb NG<|Za (Xs RR) NH<|Zo Pw Vz<|Zc) Zc))) Zc)) (Zh (Zo XQ NI<|Za (Zv 100 [NR]) NJ<|Zo XQ NW<|Zo XQ NX<|Za (Ph 1 Oh none (some Mm) (some NS)) NY<|Zo NT Um<|Zc) (Zh (Zo WG Mt<|Zo Yb Mu<|Za (C9 Oi Np 1) N0<|Zo OH XH<|Zc) (Zh (Z0 0 (X8 jX)) (Zh (Zo WG JA<|Zo II Y9<|Zc) Z2)))))))))))))⟩
def c71:CF:=⟨[(Y4,none)],(Zh (Za (ZF (k (.str []))) Y9<|Zc) (Zh (Zo Yb WX<|Zo Wc W9<|Za (Zv 91 [YW,XI]) Vw<|Zo XQ Y9<|Zc) Z2))⟩
def c91:CF:=⟨[(Y4,none)],(Zh (Za (ZF (k (.str []))) Y9<|Zc) (Zh (Zh (Zo Wc XH<|Za (WN YY (kI 10) Vp false) XM<|Zc) (ZK Xt (Zh (Zh (Zo Yb XW<|Za (Yu (kI 0) Xr S2 UE) XU<|Zo Xf Wp<|ZB Xo true (ZF Yb) Wy<|ZB Xo true (Yu Wb (kI 100) XE YH) Ws<|Za (Yx Xo XF (kB false)) WL<|Zc) (ZK Wh (Zh (Zo Yb WW<|Za (Zv 110 [Wo]) Vj<|Zo Wz Y9<|Zc) Z2) Zc)) (Zh (Za (Lr 144 24 (nI .u8 0)) WX<|Zc) (Zh (Zo Yb Vt<|Za (U0 W6 .u64) VS<|Zo Vq W9<|Zc) (Zh (Zh (Zo Yb VT<|Za (Yu VH (kI 0) XE YH) V4<|Zc) (ZK WU (Zo XI V9<|Za (Ao Ve) Uf<|Zo Vx W9<|Zc) Zc)) (Zh (Zo XI Uw<|Za (Zv 111 [VY]) Ux<|Zo V7 Vw<|Zc) (Zh (Zo XQ UH<|Za (Yg (kI 1) VO) Ta<|Za (Pg 24 1 YW (some (kI 1)) (some VQ) none) Tj<|Zo XI TO<|Za (Zv 112 [UF,UR]) TP<|Zc) (Zh (Zh (Zo Yb TU<|Za (Yu UW (kI 0) XE YH) SB<|Zc) (ZK Tt (Zh (Za (On YW (kI 0) 24 1) SJ<|Za (Xn TR (k (nI .u8 45)) 1) d0<|Zc) (Zh (Zo XQ Ri<|Za (Yg (kI 1) RP) Rj<|Za (Pg 24 1 YW none (some TS) none) Rk<|Za (Jz T7) RG<|Zo RQ Y9<|Zc) Z2)) Zc)) (Zh (Zo XQ Qw<|Za (Yg (kI 1) Ru) Qx<|Za (Pg 24 1 YW (some (kI 1)) (some Qq) none) Pr<|Za (Jz Rv) Qf<|Zo RX Y9<|Zc) Z2)))))))) Zc)) (Zh (Zo Yb PZ<|Za (U0 Rx .u64) P0<|Zo Wc P1<|Zo Yb Ov<|Za (Yu OF (kI 0) XE YH) OP<|Za (Zv 113 [(k .nils),Q5,RY,OG,(kB false)]) O8<|Zo Og PA<|Za (XJ Rw 0) NG<|Za (XJ Rw 1) NH<|Zo RR Vz<|Zo Pw Um<|Zc) (Zh (Zo WG NI<|Zo NR Y9<|Zc) Z2))))⟩
def Hv:D:=(Zh (Zh (Zo Wc PA<|Zo Wb PZ<|Za (Yu Rw Rx Sc W5) P0<|Zc) (ZK Q5 Zc (X6 0))) (Z0 1 (Zh (Zo Xf P1<|Za (Vs RY (kI 1)) Ov<|Zo OF XU<|Zc) (Zh (Zo Xf OP<|Zo Wc O8<|Zo XF NG<|Za (Nz Og RR RI) NH<|Za (Y7 (k (.str J0)) Pw) NI<|Za (On Xr OG 65 1) NJ<|Za (Xn Oh NR 1) d0<|Zc) (Zo Wc NW<|Zo Xo NX<|Za (Kz Mm NS) NY<|Zo NT st1<|Zc)))))
def aZ:D:=(Zh (Zh (Zo Wc M3<|Zo Wh M4<|Za (Yu RZ NU Sc W5) LZ<|Zc) (ZK LS Zc (X6 2))) (Z0 3 (Zh (Zo Xf KL<|Za (Vs PQ (kI 1)) KM<|Zo Li XU<|Zc) (Zh (Zo Wc KN<|Zo Wh KO<|Za (Jy Kk Oj) KQ<|Zo Ok WW<|Zc) (Zh (Zo Xf KR<|Zo Wc KS<|Zo Wo JA<|Zo Wh I9<|Za (O3 II IJ) Hf<|Za (Vs Kl LU) JB<|Za (Y7 (k (.str J0)) LV) JC<|Za (On Xr Js 65 1) JD<|Za (Xn Ju Jt 1) d0<|Zc) (Zo Wo KT<|Zo Ry st1<|Zc))))))
def Zeu:CF:=⟨[(YY,none),(Xt,none)],(Zh (Za (ZF (k .nils)) XH<|Za (ZF (k (.str []))) XM<|Zc) (Zh (Zh (Zo VX Vj<|Za (Yu Wz (kI 2) XE YH) Vt<|Zo W6 VS<|ZB Vq false (ZF VX) VT<|ZB Vq false (WN VH (kI 10) Vp false) V4<|Za (Yx Vq (kB true) WU) V9<|Zo Ve Uf<|ZB Vx false (ZF VX) Uw<|ZB Vx false (Yu VY (kI 36) UG WJ) Ux<|Za (Yx Vx (kB true) V7) UH<|Zc) (ZK VO (Za (OK (k (.str Ziu)) 9) Ta<|Za (OM VQ) d0<|Zc) Zc)) (Zh (Za (Lr 159 65 (nI .u8 0)) XW<|Zc) (Zh (Za (ZF (kI 65)) XU<|Zc) (Zh (Zh (Zo W8 Tj<|Zc) (ZK UF (Zo Wc TO<|Za (Ao UR) TP<|Zo UO st1<|Zc) Zc)) (Zh (Zh (Zo VX TU<|Za (Zv 126 [UW]) SB<|Zc) (ZK Tt (Zh (Zo VX SJ<|Za (U0 TR .u64) Ri<|Za (Zv 127 [RP]) Rj<|Za (U0 TS .u64) Rk<|Zo T7 Wp<|Zc) (Zh (Zo VX RG<|Za (U0 RQ .u64) Qw<|Zo Ru Wy<|Zc) (Zh (Zo VX Qx<|Za (U0 Qq .u64) Pr<|Za (Vs Rv (k (nI .u64 1))) Qf<|Zo RX Ws<|Zc) (Zh (Z0 0 (X8 Hv)) (Zh (Zo Xf Mt<|Za (Vs Oi (kI 1)) Mu<|Zo Np XU<|Zc) (Zo Xf N0<|Zo Wc Mv<|Za (Y7 (k (.str J0)) Nq) Mw<|Za (On Xr OH 65 1) Mx<|Za (Xn Nr O0 1) d0<|Zc)))))) (Zh (Zo VX M1<|Za (U0 Ns .u64) M2<|Zo Q6 WL<|Zc) (Zh (Z0 2 (X8 aZ)) (Zh (Zo Xf KU<|Za (Vs Jv (kI 1)) KV<|Zo Q7 XU<|Zc) (Zo Xf JE<|Zo Wc JF<|Za (Y7 (k (.str J0)) Jw) JG<|Za (On Xr Lj 65 1) JH<|Za (Xn LW Nt 1) d0<|Zc)))))) (Zh (Zh (Zo W8 JI<|Zc) (ZK Jx (Zh (Zo Xf Hg<|Za (Vs IK (kI 1)) Hh<|Zo Lk XU<|Zc) (Zo Xf GV<|Za (On Xr Km 65 1) F6<|Za (Xn Fw (k (nI .u8 45)) 1) d0<|Zc)) Zc)) (Zh (Zh (Zo Y4 EZ<|Zc) (ZK ER (Zh (Zo Yb E0<|Zo Xf E1<|Za (Pg 65 1 Xr (some ET) none none) E2<|Za (X1 ES IL 5 1 1) BO<|Zo Aj XH<|Zc) Z2) Zc)) (Zh (Zo Xf BP<|Za (Pg 65 1 Xr (some CH) none none) J8<|Za (Jz JR) J9<|Zo HT XM<|Zc) Z2)))))))))⟩
def Zex:CF:=⟨[(VX,none)],(Zh (Za (ZF (kB false)) st2<|Zc) (Zh (Zo Yb Vl<|Zo Yb Y9<|Za (Vs Y4 (kI 1)) WX<|Za (Nz W8 YW RI) W9<|Za (WN XI (kI 0) Vp false) Vw<|Zo XQ st2<|Zc) Z2))⟩
def Zey:CF:=⟨[(VX,none)],(Zh (Za (ZF (kI 0)) st2<|Zc) (Zh (ZK (kB false) (Zh (Zo Yb Vl<|Za (U0 W8 .u32) Y9<|Za (Zv 132 [Y4]) WX<|Zo YW st2<|Zc) Z2) Zc) (Zh (Zo Yb W9<|Za (Zv 133 [XI]) Vw<|Zo XQ st2<|Zc) Z2)))⟩
def ZeA:CF:=⟨[(VX,none)],(Zh (Za (ZF (kI 0)) st2<|Zc) (Zh (Zh (Zo Yb Vl<|Za (WN W8 (k (nI .u64 0)) Vp false) Y9<|Zc) (ZK Y4 (Zh (Za (ZF (kI 64)) st2<|Zc) Z2) Zc)) (Zh (Zo Yb WX<|Zo Yb W9<|Za (Ao XI) Vw<|Za (Nz YW XQ RI) Vz<|Za (O3 Wi (k (nI .u64 285870213051353865))) Um<|Za (Kz WG (k (nI .u64 58))) XH<|Za (On (k (.ptr 6 0)) YY 64 1) XM<|Za (ZJ Xt) XW<|Za (U0 Xr .i64) XU<|Zo Xf st2<|Zc) Z2)))⟩
def aY:CF:=⟨[(VX,none)],(Zh (Za (ZF (k (.str []))) st2<|Zc) (Zh (Zh (Zo Yb Vl<|Za (Yu W8 (kI 10) XE YH) Y9<|Zc) (ZK Y4 (Zh (Zo Yb WX<|Zo Yb W9<|Za (Yg XI (kI 1)) Vw<|Za (WI (k (.str J0)) (some YW) (some XQ) none) Vz<|Zo Wi st2<|Zc) Z2) Zc)) (Zh (Zo Yb Um<|Za (O3 WG (kI 2)) XH<|Zo Yb XM<|Za (O3 Xt (kI 2)) XW<|Za (Yg Xr (kI 2)) XU<|Za (WI (k (.str S4)) (some YY) (some Xf) none) Wp<|Zo Xo st2<|Zc) Z2)))⟩
def ny:CF:=⟨[(VX,none)],(Zh (Za (ZF (kI 0)) st2<|Zc) (Zh (Zo Yb Y9<|Za (Zv 124 [Y4]) WX<|Za (Zv 123 [YW]) W9<|Zo XI Vl<|Zc) (Zh (Zo W8 Vw<|Zo Yb Vz<|Zo W8 Um<|Za (On (k (.ptr 4 0)) WG 20 1) XH<|Za (ZJ YY) XM<|Za (Yu Wi Xt Sc W5) XW<|Za (Zv 125 [Xr]) XU<|Za (Yg XQ Xf) Wp<|Zo Xo st2<|Zc) Z2)))⟩
def Ld:D:=(Zh (Zh (Zo Y4 Vj<|Za (Yu Wz (kI 8) Sc W5) Vt<|Zc) (ZK W6 Zc (X6 0))) (Z0 1 (Zh (Zo Wc VS<|Za (I0 Vq (k (nI .u64 100000000))) VT<|Za (U0 VH .u32) V4<|Zo WU WX<|Zc) (Zh (Zo Wc V9<|Za (Jy Ve (k (nI .u64 100000000))) Uf<|Zo Vx st1<|Zc) (Zh (Zo YW Uw<|Za (Jy VY (k (nI .u32 10000))) Ux<|Zo YW UH<|Za (I0 VO (k (nI .u32 10000))) Ta<|Zo V7 W9<|Zo VQ Vw<|Zc) (Zh (Zo XQ Tj<|Za (Jy UF (k (nI .u32 100))) TO<|Za (O3 UR (k (nI .u32 2))) TP<|Zo XQ TU<|Za (I0 UW (k (nI .u32 100))) SB<|Za (O3 Tt (k (nI .u32 2))) SJ<|Zo UO Vz<|Zo TR Um<|Zc) (Zh (Zo XI Ri<|Za (Jy RP (k (nI .u32 100))) Rj<|Za (O3 TS (k (nI .u32 2))) Rk<|Zo XI RG<|Za (I0 RQ (k (nI .u32 100))) Qw<|Za (O3 Ru (k (nI .u32 2))) Qx<|Zo T7 XH<|Zo Qq XM<|Zc) (Zh (W2 [Xc (ZF Yb) [(st0,Yb)] Pr 0 0,Xc (ZF Y4) [(Y9,Y4)] Qf 1 0,Xc (Vs RX (kI 1)) [(Qf,RX)] PA 2 2,Xc (ZF Yb) [(st0,Yb)] PZ 3 0,Xc (ZF Y4) [(Y9,Y4)] P0 4 0,Xc (Vs Q5 (kI 2)) [(P0,Q5)] P1 5 16,Xc (ZF WG) [(Um,WG)] Ov 6 0,Xc (Yg OF (k (nI .u32 1))) [(Ov,OF)] OP 7 64,Xc (Y7 (k (.str S4)) OG) [(OP,OG)] O8 8 192,Xc (ZF WG) [(Um,WG)] NG 9 0,Xc (Y7 (k (.str S4)) RR) [(NG,RR)] NH 10 512,Xc (XN Rv Rw 1) [(Pr,Rv),(PA,Rw)] NI 11 455,⟨Xn NR Og 1,none,[(NI,NR),(O8,Og)],d0,.eff,12,2503⟩,Xc (XN Rx RY 1) [(PZ,Rx),(P1,RY)] NJ 13 8191,⟨Xn Oh Pw 1,none,[(NJ,Oh),(NH,Pw)],d0,.eff,14,16383⟩]) (Zh (W2 [Xc (ZF Yb) [(st0,Yb)] NW 0 0,Xc (ZF Y4) [(Y9,Y4)] NX 1 0,Xc (Vs NS (kI 3)) [(NX,NS)] NY 2 2,Xc (ZF Yb) [(st0,Yb)] Mt 3 0,Xc (ZF Y4) [(Y9,Y4)] Mu 4 0,Xc (Vs Np (kI 4)) [(Mu,Np)] N0 5 16,Xc (ZF Wi) [(Vz,Wi)] Mv 6 0,Xc (Yg Nq (k (nI .u32 1))) [(Mv,Nq)] Mw 7 64,Xc (Y7 (k (.str S4)) O0) [(Mw,O0)] Mx 8 192,Xc (ZF Wi) [(Vz,Wi)] M1 9 0,Xc (Y7 (k (.str S4)) Ns) [(M1,Ns)] M2 10 512,Xc (XN Mm NT 1) [(NW,Mm),(NY,NT)] M3 11 455,⟨Xn RZ Nr 1,none,[(M3,RZ),(Mx,Nr)],d0,.eff,12,2503⟩,Xc (XN Oi OH 1) [(Mt,Oi),(N0,OH)] M4 13 8191,⟨Xn NU Q6 1,none,[(M4,NU),(M2,Q6)],d0,.eff,14,16383⟩]) (Zh (W2 [Xc (ZF Yb) [(st0,Yb)] LZ 0 0,Xc (ZF Y4) [(Y9,Y4)] KL 1 0,Xc (Vs PQ (kI 5)) [(KL,PQ)] KM 2 2,Xc (ZF Yb) [(st0,Yb)] KN 3 0,Xc (ZF Y4) [(Y9,Y4)] KO 4 0,Xc (Vs Oj (kI 6)) [(KO,Oj)] KQ 5 16,Xc (ZF Xt) [(XM,Xt)] KR 6 0,Xc (Yg Js (k (nI .u32 1))) [(KR,Js)] KS 7 64,Xc (Y7 (k (.str S4)) Kl) [(KS,Kl)] JA 8 192,Xc (ZF Xt) [(XM,Xt)] I9 9 0,Xc (Y7 (k (.str S4)) IJ) [(I9,IJ)] Hf 10 512,Xc (XN LS Li 1) [(LZ,LS),(KM,Li)] JB 11 455,⟨Xn LV II 1,none,[(JB,LV),(JA,II)],d0,.eff,12,2503⟩,Xc (XN Kk Ok 1) [(KN,Kk),(KQ,Ok)] JC 13 8191,⟨Xn Jt LU 1,none,[(JC,Jt),(Hf,LU)],d0,.eff,14,16383⟩]) (Zh (W2 [Xc (ZF Yb) [(st0,Yb)] JD 0 0,Xc (ZF Y4) [(Y9,Y4)] KT 1 0,Xc (Vs Ry (kI 7)) [(KT,Ry)] KU 2 2,Xc (ZF Yb) [(st0,Yb)] KV 3 0,Xc (ZF Y4) [(Y9,Y4)] JE 4 0,Xc (Vs Lj (kI 8)) [(JE,Lj)] JF 5 16,Xc (ZF YY) [(XH,YY)] JG 6 0,Xc (Yg Nt (k (nI .u32 1))) [(JG,Nt)] JH 7 64,Xc (Y7 (k (.str S4)) LW) [(JH,LW)] JI 8 192,Xc (ZF YY) [(XH,YY)] Hg 9 0,Xc (Y7 (k (.str S4)) IK) [(Hg,IK)] Hh 10 512,Xc (XN Ju Jv 1) [(JD,Ju),(KU,Jv)] GV 11 455,⟨Xn Km Jx 1,none,[(GV,Km),(JI,Jx)],d0,.eff,12,2503⟩,Xc (XN Q7 Jw 1) [(KV,Q7),(JF,Jw)] F6 13 8191,⟨Xn Fw Lk 1,none,[(F6,Fw),(Hh,Lk)],d0,.eff,14,16383⟩]) (Zo Y4 EZ<|Za (Vs ER (kI 8)) E0<|Zo ES Y9<|Zc))))))))))))
def DM:CF:=⟨[],(Zh (Zo Yb WL<|Za (Xs Wh) WW<|Zo Wo Y9<|Zc) (Zh (Z0 0 (X8 Ld)) (Zh (Zo Wc E1<|Za (U0 ET .u32) E2<|Zo IL XW<|Zc) (Zh (Zh (Zo Y4 BO<|Za (Yu Aj (kI 4) Sc W5) BP<|Zc) (ZK CH (Zh (Zo Xr J8<|Za (I0 JR (k (nI .u32 10000))) J9<|Zo HT XU<|Zc) (Zh (Zo Xr GN<|Za (Jy MG (k (nI .u32 10000))) GO<|Zo MH XW<|Zc) (Zh (Zo Xf GP<|Za (Jy HU (k (nI .u32 100))) GQ<|Za (O3 Of (k (nI .u32 2))) GR<|Zo Xf Ia<|Za (I0 OV (k (nI .u32 100))) GS<|Za (O3 Ev (k (nI .u32 2))) GU<|Zo Kh Wp<|Zo HV Wy<|Zc) (Zh (W2 [Xc (ZF Yb) [(st0,Yb)] Ib 0 0,Xc (ZF Y4) [(Y9,Y4)] Ic 1 0,Xc (Vs JS (kI 1)) [(Ic,JS)] Ie 2 2,Xc (ZF Yb) [(st0,Yb)] If 3 0,Xc (ZF Y4) [(Y9,Y4)] Ig 4 0,Xc (Vs JV (kI 2)) [(Ig,JV)] Ih 5 16,Xc (ZF Wb) [(Wy,Wb)] Ii 6 0,Xc (Yg JX (k (nI .u32 1))) [(Ii,JX)] Ij 7 64,Xc (Y7 (k (.str S4)) MI) [(Ij,MI)] Ik 8 192,Xc (ZF Wb) [(Wy,Wb)] Il 9 0,Xc (Y7 (k (.str S4)) JY) [(Il,JY)] Im 10 512,Xc (XN HW JT 1) [(Ib,HW),(Ie,JT)] In 11 455,⟨Xn RH MJ 1,none,[(In,RH),(Ik,MJ)],d0,.eff,12,2503⟩,Xc (XN JU JW 1) [(If,JU),(Ih,JW)] Io 13 8191,⟨Xn HY JZ 1,none,[(Io,HY),(Im,JZ)],d0,.eff,14,16383⟩]) (Zh (W2 [Xc (ZF Yb) [(st0,Yb)] KJ 0 0,Xc (ZF Y4) [(Y9,Y4)] KK 1 0,Xc (Vs Kj (kI 3)) [(KK,Kj)] EO 2 2,Xc (ZF Yb) [(st0,Yb)] BC 3 0,Xc (ZF Y4) [(Y9,Y4)] BD 4 0,Xc (Vs Cu (kI 4)) [(BD,Cu)] ye 5 16,Xc (ZF Xo) [(Wp,Xo)] yf 6 0,Xc (Yg ze (k (nI .u32 1))) [(yf,ze)] yg 7 64,Xc (Y7 (k (.str S4)) zf) [(yg,zf)] yh 8 192,Xc (ZF Xo) [(Wp,Xo)] yi 9 0,Xc (Y7 (k (.str S4)) LM) [(yi,LM)] yj 10 512,Xc (XN Ki Ew 1) [(KJ,Ki),(EO,Ew)] yk 11 455,⟨Xn zi zg 1,none,[(yk,zi),(yh,zg)],d0,.eff,12,2503⟩,Xc (XN Ct HZ 1) [(BC,Ct),(ye,HZ)] yl 13 8191,⟨Xn zj zh 1,none,[(yl,zj),(yj,zh)],d0,.eff,14,16383⟩]) (Zo Y4 uX<|Za (Vs pF (kI 4)) uY<|Zo vh Y9<|Zc)))))) Zc)) (Zh (Zh (Zo Y4 uZ<|Za (Yu vi (kI 2) Sc W5) ta<|Zc) (ZK vj (Zh (Zo Xr tc<|Za (I0 vk (k (nI .u32 100))) tf<|Za (O3 vl (k (nI .u32 2))) tg<|Zo vm Ws<|Zc) (Zh (Zo Xr oR<|Za (Jy pG (k (nI .u32 100))) th<|Zo vp XW<|Zc) (Zh (W2 [Xc (ZF Yb) [(st0,Yb)] ym 0 0,Xc (ZF Y4) [(Y9,Y4)] BE 1 0,Xc (Vs Cv (kI 1)) [(BE,Cv)] BF 2 2,Xc (ZF Yb) [(st0,Yb)] BG 3 0,Xc (ZF Y4) [(Y9,Y4)] BH 4 0,Xc (Vs Cy (kI 2)) [(BH,Cy)] BI 5 16,Xc (ZF XF) [(Ws,XF)] BJ 6 0,Xc (Yg CA (k (nI .u32 1))) [(BJ,CA)] BK 7 64,Xc (Y7 (k (.str S4)) CB) [(BK,CB)] BL 8 192,Xc (ZF XF) [(Ws,XF)] BM 9 0,Xc (Y7 (k (.str S4)) CD) [(BM,CD)] BN 10 512,Xc (XN zk Cw 1) [(ym,zk),(BF,Cw)] yn 11 455,⟨Xn zl CC 1,none,[(yn,zl),(BL,CC)],d0,.eff,12,2503⟩,Xc (XN Cx Cz 1) [(BG,Cx),(BI,Cz)] yo 13 8191,⟨Xn zm CG 1,none,[(yo,zm),(BN,CG)],d0,.eff,14,16383⟩]) (Zo Y4 tj<|Za (Vs vq (kI 2)) tk<|Zo vr Y9<|Zc)))) Zc)) (Zh (Zo Y4 tn<|Za (Yu vt (kI 0) UG WJ) oS<|Zc) (ZK pH (Zo Yb oT<|Zo Xr oU<|Za (Yg (k (nI .u32 48)) zn) oV<|Za (U0 pJ .u8) oW<|Za (XN pI (kI 0) 1) oX<|Za (Xn pL pK 1) d0<|Zc) Zc)))))))⟩
def Af:CF:=⟨[(VX,none)],(Zh (Za (ZF (kI 0)) st2<|Zc) (Zh (Zh (Zo Yb Vl<|Za (Yu W8 (k (nI .u64 4294967296)) Sc W5) Y9<|Zc) (ZK Y4 (Zh (Zo Yb WX<|Za (Kz YW (k (nI .u64 32))) W9<|Zo XI st0<|Zc) (Za (ZF (kI 32)) st2<|Zc)) Zc)) (Zh (Zh (Zo Yb Vw<|Za (Yu XQ (k (nI .u64 65536)) Sc W5) Vz<|Zc) (ZK Wi (Zh (Zo Yb Um<|Za (Kz WG (k (nI .u64 16))) XH<|Zo YY st0<|Zc) (Zo VX XM<|Za (Yg Xt (kI 16)) XW<|Zo Xr st2<|Zc)) Zc)) (Zh (Zh (Zo Yb XU<|Za (Yu Xf (k (nI .u64 256)) Sc W5) Wp<|Zc) (ZK Xo (Zh (Zo Yb Wy<|Za (Kz Wb (k (nI .u64 8))) Ws<|Zo XF st0<|Zc) (Zo VX WL<|Za (Yg Wh (kI 8)) WW<|Zo Wo st2<|Zc)) Zc)) (Zh (Zo VX Vj<|Zo Yb Vt<|Za (U0 W6 .u8) VS<|Za (Y7 (k (.str vO)) Vq) VT<|Za (U0 VH .i64) V4<|Za (Yg Wz WU) V9<|Zo Ve st2<|Zc) Z2)))))⟩
def Zew:CF:=⟨[(VX,none)],(Zh (Za (ZF (kI 0)) st2<|Zc) (Zh (Zo Yb Vl<|Za (O3 W8 (kI 78913)) Y9<|Za (Kz Y4 (k (nI .u64 18))) WX<|Zo YW st2<|Zc) Z2))⟩
def Zaa:CF:=⟨[(VX,none)],(Zh (Za (ZF (kI 0)) st2<|Zc) (Zh (Zh (Zo Yb Vl<|Zc) (ZK W8 (Zh (Za (ZF (kI 1)) st2<|Zc) Z2) Zc)) (Zh (Za (ZF (kI 0)) st2<|Zc) Z2)))⟩
def c42:CF:=⟨[(VX,none),(W8,none),(Y4,none)],(Zh (Za (ZF (k (.str []))) st2<|Za (ZF (k (.str []))) Vl<|Za (ZF (kB false)) Y9<|Zc) (Zh (Zh (Zo Yb W9<|Za (Xm XI) Vw<|Za (Yu XQ (kI 100) S2 UE) Vz<|Zc) (ZK Wi (Zh (Zo Yb Um<|Za (ZF (k (.str []))) st2<|Zo WG Vl<|Za (ZF (kB true)) Y9<|Zc) Z2) Zc)) (Zh (Zo Yb XH<|Zo Yb XM<|Za (Xm Xt) XW<|Za (Vs Xr (kI 1)) XU<|Za (Su false [Xf,(kI 156)]) Wp<|Za (WI YY none (some Xo) none) Wy<|Za (Zv 70 [Wb,(k (nI .u8 47))]) Ws<|Zo XF WX<|Zc) (Zh (Zh (Zo YW WL<|Za (Yu Wh (kI 0) XE YH) WW<|Zo Wo Vj<|ZB Wz false (ZF Yb) Vt<|ZB Wz false (Xm W6) VS<|ZB Wz false (ZF YW) VT<|ZB Wz false (Vs Vq VH) V4<|ZB Wz false (Vs WU (kI 1)) V9<|ZB Wz false (Yu Ve (kI 100) UG WJ) Uf<|Za (Yx Wz (kB true) Vx) Uw<|Zc) (ZK VY (Zh (Za (ZF (k (.str []))) st2<|Za (ZF (k (.str [112,97,120]))) Vl<|Za (ZF (kB false)) Y9<|Zc) Z2) Zc)) (Zh (W2 [Xc (ZF Yb) [(st0,Yb)] Ux 0 0,Xc (ZF YW) [(WX,YW)] UH 1 0,Xc (WI V7 none (some VO) none) [(Ux,V7),(UH,VO)] Ta 2 3,Xc (ZF Yb) [(st0,Yb)] Tj 3 0,Xc (ZF YW) [(WX,YW)] TO 4 0,Xc (Yg UR (kI 1)) [(TO,UR)] TP 5 16,Xc (WI UF (some UO) none none) [(Tj,UF),(TP,UO)] TU 6 56,⟨ZF VQ,none,[(Ta,VQ)],st2,.eff,7,7⟩,⟨ZF UW,none,[(TU,UW)],Vl,.eff,8,255⟩,⟨ZF (kB true),none,[],Y9,.eff,9,511⟩]) Z2)))))⟩
def c43:CF:=⟨[(VX,none)],(Zh (Za (Lt Yb 36) st1<|Za (ZF (k (.str []))) st2<|Zc) (Zh (Zh (Za (Yr Wc 1) Vl<|Za (Yr W8 0) Y9<|Za (ZJ Y4) WX<|Za (WN YW (kI 1) Vp false) W9<|Zc) (ZK XI (Zh (Za (Yr Wc 0) Vw<|Za (ZJ XQ) Vz<|Za (Yg Wi (k (.str [47]))) Um<|Zo WG st2<|Zc) Z2) Zc)) (Zh (Za (Yr Wc 0) XH<|Za (ZJ YY) XM<|Zo Xt st2<|Zc) Z2)))⟩
def c44:CF:=⟨[(VX,none)],(Zh (Za (ZF (k (.str []))) st2<|Zc) (Zh (Zo Yb Vl<|Za (Zv 71 [W8,(kI 10)]) Y9<|Zo Y4 st2<|Zc) Z2))⟩
def DP:D:=(Zh (Za (Yu Xr Xt XE YH) XU<|Zc) (Zh (ZK Xf Zc (X6 0)) (Zh (Z0 1 (Zh (Za (XN YY Xr 2) Wp<|Za (WS Xo 2) Wy<|Za (Ue 81 [(.str []),(.str [])]) W9<|Za (Xn XI Wb 2) d0<|Zc) (Zh (Za (WS XI 2) Ws<|Za (Zv 48 [XF]) WL<|Zo Wh Vw<|Zc) (Zh (Zh (Zo Y4 WW<|Za (Xs Wo) Vj<|Zo XQ Vt<|Za (Yg Wz W6) VS<|Za (Yu Vq (kI 16777216) UG WJ) VT<|Zc) (ZK VH (Zh (Za (ZF (k .nils)) st2<|Za (ZF (kI 3)) Vl<|Zc) Z2) Zc)) (Zh (Zo Y4 V4<|Zo XQ V9<|Za (Zv 49 [WU,Ve,(kI 10)]) Uf<|Zo Vx Y9<|Zc) (Zh (W2 [Xc (ZF Y4) [(Y9,Y4)] Uw 0 0,⟨Wt 5 1 1 [(nI .u8 0)] [⟨0,1,(k (nI .u8 32))⟩],none,[],Ux,.free,1,0⟩,Xc (Yr XI 0) [(W9,XI)] Ta 3 0,⟨ZJ VQ,none,[(Ta,VQ)],Tj,.read,4,8⟩,⟨Wt 5 1 1 [(nI .u8 0)] [⟨0,1,(k (nI .u8 61))⟩],none,[],TP,.free,6,0⟩,⟨X1 VY V7 5 1 1,none,[(Uw,VY),(Ux,V7)],UH,.eff,2,3⟩,⟨X1 VO UF 5 1 1,none,[(UH,VO),(Tj,UF)],TO,.eff,5,31⟩,⟨X1 UR UO 5 1 1,none,[(TO,UR),(TP,UO)],TU,.eff,7,127⟩,⟨ZF UW,none,[(TU,UW)],Y9,.eff,8,255⟩]) (Zo Y4 SB<|Za (Yr XI 1) SJ<|Za (ZJ TR) Ri<|Za (X1 Tt RP 5 1 1) Rj<|Za (Wt 5 1 1 [(nI .u8 0)] [⟨0,1,(k (nI .u8 10))⟩]) Rk<|Za (X1 TS T7 5 1 1) RG<|Zo RQ Y9<|Zc))))))) (Za (Yg Xr (kI 1)) Qw<|Zo Ru XW<|Zc))))
def c20:CF:=⟨[(VX,none),(W8,none)],(Zh (Za (ZF (k .nils)) st2<|Za (ZF (kI 0)) Vl<|Zc) (Zh (Zh (Zo Yb Vz<|Za (Zv 45 [Wi,(k (.func 46 [] []))]) Um<|Zc) (ZK WG (Zh (Za (ZF (k .nils)) st2<|Za (ZF (kI 1)) Vl<|Zc) Z2) Zc)) (Zh (Za (ZF (k .nils)) Y9<|Zc) (Zh (Zh (Zo Yb XH<|Za (Xs YY) XM<|Za (ZF (kI 0)) XW<|Zc) (Z0 0 (X8 DP))) (Zh (Zo Y4 Qx<|Zo Qq st2<|Za (ZF (kI 0)) Vl<|Zc) Z2)))))⟩
def c45:CF:=⟨[(Y4,none)],(Zh (Za (ZF (kB false)) Y9<|Zc) (Zh (Zo Yb WX<|Zo Wc W9<|Za (Zv 72 [YW,XI]) Vw<|Za (Yu XQ (kI 0) Sc W5) Vz<|Zo Wi Y9<|Zc) Z2))⟩
def D1:D:=(Zh (Za (Yu Wi XQ XE YH) Um<|Zc) (Zh (ZK WG Zc (X6 0)) (Zh (Z0 1 (Zh (Zo Wi XH<|Zo YY WX<|Zc) (Zh (Zo Wc XM<|Zo Yb XW<|Zo YW XU<|Za (XN Xr Xf 2) Wp<|Za (WS Xo 2) Wy<|Za (MO Xt Tryz.prog [Wb]) Ws<|Zc) (ZK XF (Zh (Zo YW WL<|Zo Wh Y9<|Zc) Z2) Zc)))) (Za (Yg Wi (kI 1)) WW<|Zo Wo Vz<|Zc))))
def c72:CF:=⟨[(Y4,none)],(Zh (Za (ZF (kI 0)) Y9<|Zc) (Zh (Zh (Zo Yb W9<|Za (Xs XI) Vw<|Za (ZF (kI 0)) Vz<|Zc) (Z0 0 (X8 D1))) (Zh (Za (ZF (k (.int .i64 (.negSucc 0)))) Y9<|Zc) Z2)))⟩
def c46:CF:=⟨[(VX,none)],(Zh (Za (Lt Yb 81) st1<|Za (ZF (kB false)) st2<|Zc) (Zh (Za (WS Wc 2) Vl<|Za (Zv 47 [W8]) Y9<|Za (Pf Y4) WX<|Zo YW st2<|Zc) Z2))⟩
def c47:CF:=⟨[(VX,none)],(Zh (Za (Lt Yb 81) st1<|Za (ZF (kB false)) st2<|Zc) (Zh (Za (Yr Wc 0) Vl<|Za (ZJ W8) Y9<|Za (WN Y4 (k (.str [])) PM true) WX<|Zo YW W9<|ZB XI true (Yr Wc 0) Vw<|ZB XI true (ZJ XQ) Vz<|ZB XI true (Xm Wi) Um<|ZB XI true (Yu WG (kI 255) S2 UE) XH<|Za (Yx XI YY (kB false)) XM<|Zo Xt XW<|ZB Xr true (Yr Wc 0) XU<|ZB Xr true (ZJ Xf) Wp<|ZB Xr true (Zv 63 [Xo,(k (.str [0,61,10]))]) Wy<|ZB Xr true (Pf Wb) Ws<|Za (Yx Xr XF (kB false)) WL<|Zo Wh st2<|Zc) Z2))⟩
def DX:D:=(Zh (Zh (Zo Y4 WW<|Zo W8 Vj<|Zo Y4 Vt<|Za (Zv 73 [W6]) VS<|Za (Xm Vq) VT<|Za (Yg Wz VH) V4<|Za (WN Wo WU Vp true) V9<|Zc) (ZK Ve Zc (X6 0))) (Z0 1 (Zo W8 Uf<|Zo Y4 Uw<|Za (Zv 73 [VY]) Ux<|Za (Xm V7) UH<|Za (Yg Vx VO) Ta<|Zo VQ Y9<|Zc)))
def c48:CF:=⟨[(VX,none)],(Zh (Za (Lt Yb 81) st1<|Za (ZF (kI 0)) st2<|Zc) (Zh (Zh (Za (WS Wc 2) WX<|Za (Zv 47 [YW]) W9<|Za (Pf XI) Vw<|Zc) (ZK XQ (Zh (Za (ZF (kI 0)) st2<|Zc) Z2) Zc)) (Zh (Za (Yr Wc 0) Vz<|Za (ZJ Wi) Um<|Za (Xm WG) XH<|Za (Yr Wc 1) XM<|Za (ZJ Xt) XW<|Za (Xm Xr) XU<|Za (Yg YY Xf) Wp<|Za (Yg Xo (kI 3)) Wy<|Zo Wb Vl<|Zc) (Zh (Zo W8 Ws<|Za (Yg XF (kI 1)) WL<|Zo Wh Y9<|Zc) (Zh (Z0 0 (X8 DX)) (Zh (Zo Y4 Tj<|Zo UF st2<|Zc) Z2))))))⟩
def c73:CF:=⟨[(VX,none)],(Zh (Za (ZF (k (.str []))) st2<|Zc) (Zh (Zo Yb Vl<|Za (Zv 92 [W8]) Y9<|Zo Y4 st2<|Zc) Z2))⟩
def c92:CF:=⟨[(VX,none)],(Zh (Za (ZF (k (.str []))) st2<|Zc) (Zh (Zo Yb Vl<|Za (Zv 91 [W8,(kI 10)]) Y9<|Zo Y4 st2<|Zc) Z2))⟩
def c49:CF:=⟨[(XI,none)],(Zh (Za (ZF (k .nils)) W9<|Zc) (Zh (Zo Yb Vw<|Zo Wc Vz<|Zo VX Um<|Za (Zv 74 [XQ,Wi,WG]) XH<|Zo YY W9<|Zc) Z2))⟩
def c74:CF:=⟨[(XI,none)],(Zh (Za (ZF (k .nils)) W9<|Zc) (Zh (Zo Wc Vz<|Za (U0 Wi .u64) Um<|Zo WG Vw<|Zc) (Zh (Zh (Zo Wc XH<|Za (Yu YY (kI 0) XE YH) XM<|Zc) (ZK Xt (Zh (Zo Yb XW<|Za (Wt 5 1 1 [(nI .u8 0)] [⟨0,1,(k (nI .u8 45))⟩]) XU<|Za (X1 Xr Xf 5 1 1) Wp<|Zo Xo st0<|Zc) (Zo XQ Wy<|Za (Ao Wb) Ws<|Zo XF Vw<|Zc)) Zc)) (Zh (Zo Yb WL<|Zo XQ WW<|Zo VX Vj<|Za (Zv 93 [Wh,Wo,Wz]) Vt<|Zo W6 W9<|Zc) Z2))))⟩
def c93:CF:=⟨[(XI,none)],(Zh (Za (ZF (k .nils)) W9<|Zc) (Zh (Zh (Zo VX Um<|Za (WN WG (kI 10) Vp false) XH<|Zc) (ZK YY (Zh (Zh (Zo Wc XM<|Za (Yu Xt (k (nI .u64 100)) XE YH) XW<|Zc) (ZK Xr (Zh (Zo Yb XU<|Zo Wc Wp<|Za (U0 Xo .i64) Wy<|Za (Zv 110 [Wb]) Ws<|Za (X1 Xf XF 5 1 1) WL<|Zo Wh W9<|Zc) Z2) Zc)) (Zh (Za (Lr 144 24 (nI .u8 0)) Vw<|Zc) (Zh (Zo Wc WW<|Za (Zv 111 [Wo]) Vj<|Zo Wz Vz<|Zc) (Zh (Zo Wi Vt<|Za (Pg 24 1 XQ none (some W6) none) VS<|Zo Wc VT<|Za (Zv 112 [Vq,VH]) V4<|Zc) (Zh (Zo Yb V9<|Zo Wi Uf<|Za (Pg 24 1 XQ none (some Vx) none) Uw<|Za (X1 Ve VY 5 1 1) Ux<|Zo V7 W9<|Zc) Z2))))) Zc)) (Zh (Zo Yb Ta<|Zo Wc Tj<|Zo VX TO<|Za (Zv 113 [VQ,UF,UR,(kB false),(kB true)]) TP<|Zo UO UH<|Za (XJ VO 0) TU<|Za (XJ VO 1) SB<|Zo UW st0<|Zc) (Zh (Zo Yb SJ<|Zo TR W9<|Zc) Z2))))⟩
def jV:D:=(Zh (Za (Yu Xt YY XE YH) XW<|Zc) (Zh (ZK Xr Zc (X6 0)) (Zh (Z0 1 (Zh (Za (XN WG Xt 1) XU<|Za (ZJ Xf) Wp<|Zo Xo WX<|Zc) (Zh (Zo W8 Wy<|Zo YW Ws<|Za (Xs XF) WL<|Za (Yg Wb Wh) WW<|Zo Wo Vl<|Zc) (Zh (Zo W8 Vj<|Za (Yu Wz (kI 0) XE YH) Vt<|Zc) (ZK W6 (Za (OK (k (.str Znc)) 9) VS<|Za (OM Vq) d0<|Zc) Zc))))) (Za (Yg Xt (kI 1)) VT<|Zo VH XM<|Zc))))
def jW:D:=(Zh (Za (Yu V7 VY XE YH) UH<|Zc) (Zh (ZK VO Zc (X6 2)) (Zh (Z0 3 (Zh (Za (XN Vx V7 1) Ta<|Za (ZJ VQ) Tj<|Zo UF Vz<|Zc) (Zo XI TO<|Zo Wi TP<|Za (X1 UR UO 5 1 1) TU<|Zo UW W9<|Zc))) (Za (Yg V7 (kI 1)) SB<|Zo Tt Ux<|Zc))))
def c25:CF:=⟨[(VX,none)],(Zh (Za (ZF (k .nils)) st2<|Zc) (Zh (Za (ZF (kI 0)) Vl<|Zc) (Zh (Zh (Zo Yb Um<|Za (Xs WG) XH<|Za (ZF (kI 0)) XM<|Zc) (Z0 0 (X8 jV))) (Zh (Zo W8 V4<|Za (Zv 55 [(k .nils),WU]) V9<|Zo Ve W9<|Zc) (Zh (Zh (Zo Yb Uf<|Za (Xs Vx) Uw<|Za (ZF (kI 0)) Ux<|Zc) (Z0 2 (X8 jW))) (Zh (Zo XI SJ<|Zo TR st2<|Zc) Z2))))))⟩
def c55:CF:=⟨[(Y4,none)],(Zh (Za (ZF (k .nils)) Y9<|Zc) (Zh (Zh (Zo Wc WX<|Za (Yu YW (kI 0) XE YH) W9<|Zc) (ZK XI (Za (OK (k (.str Znd)) 9) Vw<|Za (OM XQ) d0<|Zc) Zc)) (Zh (Zh (Zo Wc Vz<|Zo Yb Um<|Za (rU WG) XH<|Zo Yb XM<|Za (Xs Xt) XW<|Za (Vs YY Xr) XU<|Za (Vs Wi Xf) Wp<|Zo Xo st1<|Zc) (Zh (Zo Wc Wy<|Za (Yu Wb (kI 0) UG WJ) Ws<|Zc) (ZK XF (Zo Yb WL<|Zo Yb WW<|Za (rU Wo) Vj<|Za (Ph 1 Wh none (some Wz) none) Vt<|Zo Wc VS<|Za (Ny W6 Vq 5 1 1 [(nI .u8 0)]) VT<|Zo Yb V4<|Za (Xs WU) V9<|Za (Ph 1 VH none (some Ve) none) Uf<|Zo Vx st0<|Zc) Zc))) (Zh (Zo Yb Uw<|Zo VY Y9<|Zc) Z2))))⟩
def c76:CF:=⟨[(VX,none)],(Zh (Za (ZF (k .nils)) st2<|Zc) (Zh (Zh (Zo Yb Vl<|Za (WN W8 (k .nils) nU false) Y9<|Zc) (ZK Y4 (Zh (Za (ZF (k .nils)) st2<|Zc) Z2) Zc)) (Zh (Za (Wt 5 1 0 (List.replicate 0 [(nI .u8 0)]).flatten []) WX<|Zo Yb W9<|Za (X1 YW XI 5 1 1) Vw<|Zo XQ st2<|Zc) Z2)))⟩
def c13:CF:=⟨[(VX,none)],(Zh (Za (ZF (kI 0)) st2<|Zc) (Zh (Zh (Zo Yb Vl<|Za (Yu W8 (kI 0) XE YH) Y9<|Zc) (ZK Y4 (Zh (Za (ZF (kI 0)) st2<|Zc) Z2) Zc)) (Zh (Zo Yb WX<|Za (Ao YW) W9<|Za (Nz XI (kI 511) RI) Vw<|Zo XQ st2<|Zc) Z2)))⟩
def wD:D:=(Zh (Zh (Zo WG Rj<|Zo Yb Rk<|Za (Xs T7) RG<|Za (Yu TS RQ XE YH) Qw<|Zc) (ZK Ru Zc (X6 0))) (Zh (Z0 1 (Zh (Zo Yb PA<|Zo WG PZ<|Za (XN Rw Rx 9) P0<|Za (WS Q5 9) P1<|Za (Zv 7 [RY]) Ov<|Zo OF Qf<|Za (XJ RX 0) OP<|Za (XJ RX 1) O8<|Zo OG XH<|Zo Og XM<|Zc) (Zh (Zo Yb NH<|Zo WG NI<|Za (XN Pw NR 9) NJ<|Za (WS Oh 9) NW<|Za (Zv 8 [Mm]) NX<|Zo NS NG<|Za (XJ RR 0) NY<|Za (XJ RR 1) Mt<|Zo NT XW<|Zo Oi XU<|Zc) (Zh (W2 [Xc (ZF YY) [(XH,YY)] Mu 0 0,⟨Jz Np,none,[(Mu,Np)],N0,.read,1,1⟩,Xc (ZF Xr) [(XW,Xr)] Mv 2 0,⟨Jz Nq,none,[(Mv,Nq)],Mw,.read,3,4⟩,Xc (WN OH O0 PM true) [(N0,OH),(Mw,O0)] Mx 4 15,Xc (ZF Nr) [(Mx,Nr)] M1 5 31,⟨ZF Xt,(some (Ns,false)),[(XM,Xt)],M2,.free,6,63⟩,⟨ZF Xf,(some (Ns,false)),[(XU,Xf)],M3,.free,7,63⟩,⟨WN Q6 RZ Vp true,(some (Ns,false)),[(M2,Q6),(M3,RZ)],M4,.free,8,255⟩,Xc (Yx Ns (kB true) NU) [(M1,Ns),(M4,NU)] LZ 9 511,Xc (ZF LS) [(LZ,LS)] KL 10 1023,⟨ZF Yb,(some (PQ,false)),[(st0,Yb)],KM,.free,11,2047⟩,⟨ZF WG,(some (PQ,false)),[(Um,WG)],KN,.free,12,2047⟩,⟨XN Li Kk 9,(some (PQ,false)),[(KM,Li),(KN,Kk)],KO,.free,13,8191⟩,⟨WS Oj 9,(some (PQ,false)),[(KO,Oj)],KQ,.read,14,16383⟩,⟨ZF Yb,(some (PQ,false)),[(st0,Yb)],KS,.free,16,2047⟩,⟨ZF WG,(some (PQ,false)),[(Um,WG)],JA,.free,17,2047⟩,⟨XN Kl II 9,(some (PQ,false)),[(KS,Kl),(JA,II)],I9,.free,18,198655⟩,⟨WS IJ 9,(some (PQ,false)),[(I9,IJ)],Hf,.read,19,460799⟩,⟨Zv 9 [Ok],(some (PQ,false)),[(KQ,Ok)],KR,.eff,15,32767⟩,⟨Zv 10 [LU],(some (PQ,false)),[(Hf,LU)],JB,.eff,20,1048575⟩,⟨WN Js LV sK true,(some (PQ,false)),[(KR,Js),(JB,LV)],JC,.free,21,2097151⟩,Xc (Yx PQ (kB true) Jt) [(KL,PQ),(JC,Jt)] JD 22 4194303,Xc (ZF Ju) [(JD,Ju)] KT 23 8388607,⟨ZF Yb,(some (Ry,false)),[(st0,Yb)],KU,.free,24,16777215⟩,⟨ZF WG,(some (Ry,false)),[(Um,WG)],KV,.free,25,16777215⟩,⟨XN Jv Q7 9,(some (Ry,false)),[(KU,Jv),(KV,Q7)],JE,.free,26,67108863⟩,⟨WS Lj 9,(some (Ry,false)),[(JE,Lj)],JF,.read,27,134217727⟩,⟨ZF Yb,(some (Ry,false)),[(st0,Yb)],JG,.free,28,16777215⟩,⟨XN Nt (kI 0) 9,(some (Ry,false)),[(JG,Nt)],JH,.free,29,285212671⟩,⟨WS LW 9,(some (Ry,false)),[(JH,LW)],JI,.read,30,822083583⟩,⟨ZF Yb,(some (Ry,false)),[(st0,Yb)],Hh,.free,32,16777215⟩,⟨ZF WG,(some (Ry,false)),[(Um,WG)],GV,.free,33,16777215⟩,⟨XN Lk Km 9,(some (Ry,false)),[(Hh,Lk),(GV,Km)],F6,.free,34,12901679103⟩,⟨WS Fw 9,(some (Ry,false)),[(F6,Fw)],EZ,.read,35,30081548287⟩,⟨ZF Yb,(some (Ry,false)),[(st0,Yb)],E0,.free,36,16777215⟩,⟨XN ES (kI 0) 9,(some (Ry,false)),[(E0,ES)],E1,.free,37,68736253951⟩,⟨WS ET 9,(some (Ry,false)),[(E1,ET)],E2,.read,38,206175207423⟩,⟨Zv 11 [Jw,Jx],(some (Ry,false)),[(JF,Jw),(JI,Jx)],Hg,.eff,31,2147483647⟩,⟨Zv 12 [ER,IL],(some (Ry,false)),[(EZ,ER),(E2,IL)],BO,.eff,39,549755813887⟩,⟨WN IK Aj sK true,(some (Ry,false)),[(Hg,IK),(BO,Aj)],BP,.free,40,1099511627775⟩,Xc (Yx Ry (kB true) CH) [(KT,Ry),(BP,CH)] J8 41 2199023255551]) (ZK JR (Zh (Za (ZF (kB false)) Y9<|Zc) Z2) Zc))))) (Zo WG Qx<|Za (Yg Qq (kI 1)) Pr<|Zo Rv Um<|Zc)))
def AC:D:=(Zh (Zh (Zo Wc GO<|Za (Yu MH (kI 0) UG WJ) GP<|Zo HU GQ<|ZB Of true (ZF Wc) GR<|ZB Of true (ZF Xo) Ia<|ZB Of true (Yg Kh OV) GS<|ZB Of true (I0 Ev (kI 512)) GU<|ZB Of true (WN HV (kI 0) Vp true) Ib<|Za (Yx Of HW (kB false)) Ic<|Zc) (ZK JS Zc (X6 2))) (Z0 3 (Zo Xo Ie<|Za (Yg JT (kI 1)) If<|Zo JU Wp<|Zc)))
def c3:CF:=⟨[(Y4,none)],(Zh (Za (ZF (kB false)) Y9<|Zc) (Zh (Zo Yb Wy<|Za (Zv 4 [Wb]) Ws<|Zo XF st0<|Zc) (Zh (Zo Yb WW<|Za (Zv 5 [Wo]) Vj<|Zo Wz WL<|Za (XJ Wh 0) Vt<|Za (XJ Wh 1) VS<|Zo W6 WX<|Zo Vq W9<|Zc) (Zh (Zo Yb V4<|Za (Zv 6 [WU]) V9<|Zo Ve VT<|Za (XJ VH 0) Uf<|Za (XJ VH 1) Uw<|Zo Vx Vw<|Zo VY Vz<|Zc) (Zh (Zh (Zo YW Ux<|Za (Jz V7) UH<|Zo XQ Ta<|Za (Jz VQ) Tj<|Za (WN VO UF PM true) TO<|Zo UR TP<|ZB UO false (ZF XI) TU<|ZB UO false (ZF Wi) SB<|ZB UO false (WN UW Tt Vp true) SJ<|Za (Yx UO (kB true) TR) Ri<|Zc) (ZK RP (Zh (Za (ZF (kB false)) Y9<|Zc) Z2) Zc)) (Zh (Zh (Za (ZF (kI 0)) Um<|Zc) (Z0 0 (X8 wD))) (Zh (Zo Wc J9<|Za (I0 HT (kI 5000)) GN<|Zo MG st1<|Zc) (Zh (Za (ZF (kI 0)) Wp<|Zc) (Zh (Z0 2 (X8 AC)) (Zh (Zo Wc Ig<|Za (Zv 13 [JV]) Ih<|Zo Xo Ii<|Za (WN JW JX Vp false) Ij<|Zo MI Ik<|ZB MJ true (Zv 14 []) Il<|ZB MJ true (Xs JY) Im<|ZB MJ true (WN JZ (kI 1024) Vp false) In<|Za (Yx MJ RH (kB false)) Io<|Zo HY KJ<|ZB Ki true (Zv 15 []) KK<|Za (Yx Ki Kj (kB false)) EO<|Zo Ew Y9<|Zc) Z2))))))))))⟩
def AD:D:=(Zh (Zh (Zo XQ NJ<|Za (Yr YW 1) NW<|Za (Yr Mm 5) NX<|Za (ZJ NS) NY<|Za (Xs NT) Mt<|Za (Yu Oh Oi XE YH) Mu<|Zo Np N0<|ZB OH true (ZF XQ) Mv<|ZB OH true (Yu Nq (kI 20) XE YH) Mw<|Za (Yx OH O0 (kB false)) Mx<|Zc) (ZK Nr Zc (X6 2))) (Zh (Z0 3 (Zh (Za (Yr YW 1) M3<|Za (Yr RZ 5) M4<|Za (ZJ NU) LZ<|Zo XQ KL<|Za (XN LS PQ 2) KM<|Za (WS Li 2) KN<|Za (Ue 45 [(.str []),(.str [])]) Vz<|Za (Xn Wi Kk 2) d0<|Zc) (W2 [Xc (ZF XI) [(W9,XI)] KO 0 0,Xc (Yr Wi 0) [(Vz,Wi)] KQ 1 0,⟨ZJ Ok,none,[(KQ,Ok)],KR,.read,2,2⟩,Xc (Yr Wi 0) [(Vz,Wi)] KS 3 0,⟨ZJ Kl,none,[(KS,Kl)],JA,.read,4,8⟩,Xc (Xm II) [(JA,II)] I9 5 24,Xc (Su false [IJ,(kI 250)]) [(I9,IJ)] Hf 6 56,Xc (WI Js none (some LU) none) [(KR,Js),(Hf,LU)] JB 7 126,Xc (Yr Wi 1) [(Vz,Wi)] JC 8 0,⟨ZJ Jt,none,[(JC,Jt)],JD,.read,9,256⟩,Xc (Yr Wi 1) [(Vz,Wi)] KT 10 0,⟨ZJ Ry,none,[(KT,Ry)],KU,.read,11,1024⟩,Xc (Xm Jv) [(KU,Jv)] KV 12 3072,Xc (Su false [Q7,(kI 700)]) [(KV,Q7)] JE 13 7168,Xc (WI Ju none (some Lj) none) [(JD,Ju),(JE,Lj)] JF 14 16128,⟨UZ [(.str []),(.str [])] [⟨0,1,LV⟩,⟨1,1,Jw⟩],none,[(JB,LV),(JF,Jw)],JG,.free,15,32766⟩,⟨Wt 45 2 1 [(.str []),(.str [])] [⟨0,2,Nt⟩],none,[(JG,Nt)],JH,.free,16,65534⟩,⟨X1 Oj LW 45 2 32,none,[(KO,Oj),(JH,LW)],JI,.eff,17,131071⟩,⟨ZF Jx,none,[(JI,Jx)],W9,.eff,18,262143⟩]))) (Zo XQ M1<|Za (Yg Ns (kI 1)) M2<|Zo Q6 Vw<|Zc)))
def AE:D:=(Zh (Zh (Zo Y4 Um<|Zo Yb XH<|Za (Xs YY) XM<|Za (Yu WG Xt XE YH) XW<|Zo Xr XU<|ZB Xf true (ZF Y4) Wp<|ZB Xf true (Yu Xo (kI 12) XE YH) Wy<|Za (Yx Xf Wb (kB false)) Ws<|Zc) (ZK XF Zc (X6 0))) (Zh (Z0 1 (Zh (Zo Yb Vj<|Zo Y4 Vt<|Za (XN Wz W6 9) VS<|Za (WS Vq 9) VT<|Za (Ue 36 [(.str []),(nI .i64 0),(nI .u32 0),(nI .u32 0),(nI .u32 0),(nI .i64 0),.nils,.nils,(.str [])]) WX<|Za (Xn YW VH 9) d0<|Zc) (Zh (W2 [Xc (Yr YW 0) [(WX,YW)] V4 0 0,⟨ZJ WU,none,[(V4,WU)],V9,.read,1,1⟩,Xc (Yr YW 0) [(WX,YW)] Uf 2 0,⟨ZJ Vx,none,[(Uf,Vx)],Uw,.read,3,4⟩,Xc (Xm VY) [(Uw,VY)] Ux 4 12,Xc (Su false [V7,(kI 4100)]) [(Ux,V7)] UH 5 28,Xc (WI Ve none (some VO) none) [(V9,Ve),(UH,VO)] Ta 6 63,Xc (Yr YW 1) [(WX,YW)] Tj 7 0,Xc (Yr UF 7) [(Tj,UF)] TO 8 128,⟨ZJ UR,none,[(TO,UR)],TP,.read,9,384⟩,Xc (Yr YW 1) [(WX,YW)] TU 10 0,Xc (Yr UW 7) [(TU,UW)] SB 11 1024,⟨ZJ Tt,none,[(SB,Tt)],SJ,.read,12,3072⟩,Xc (Xm TR) [(SJ,TR)] Ri 13 7168,Xc (Su false [RP,(kI 4100)]) [(Ri,RP)] Rj 14 15360,Xc (WI UO none (some TS) none) [(TP,UO),(Rj,TS)] Rk 15 32640,Xc (Yr YW 0) [(WX,YW)] RG 16 8191,⟨Xn RQ VQ 1,none,[(RG,RQ),(Ta,VQ)],d0,.eff,17,73727⟩,Xc (Yr YW 1) [(WX,YW)] Qw 18 262143,Xc (Yr Ru 7) [(Qw,Ru)] Qx 19 524287,⟨Xn Qq T7 1,none,[(Qx,Qq),(Rk,T7)],d0,.eff,20,1048575⟩]) (Zh (Za (Yr YW 1) Pr<|Za (Yr Rv 6) Qf<|Za (ZJ RX) PA<|Za (Yr YW 1) PZ<|Za (Yr Rx 6) P0<|Za (ZJ Q5) P1<|Za (Xs RY) Ov<|Za (Su false [OF,(kI 1500)]) OP<|Za (Ph 1 Rw none (some OG) none) O8<|Za (X1 (k .nils) Og 5 1 1) NG<|Za (Yr YW 1) NH<|Za (Yr Pw 6) NI<|Za (Xn NR RR 1) d0<|Zc) (Zh (Za (ZF (k .nils)) W9<|Zc) (Zh (Zh (Za (ZF (kI 0)) Vw<|Zc) (Z0 2 (X8 AD))) (Zh (Zo XI Hg<|Za (Yr YW 1) Hh<|Za (Yr Lk 5) GV<|Za (Xn Km IK 1) d0<|Zc) (Zo W8 F6<|Za (WS YW 9) EZ<|Za (Wt 36 9 1 [(.str []),(nI .i64 0),(nI .u32 0),(nI .u32 0),(nI .u32 0),(nI .i64 0),.nils,.nils,(.str [])] [⟨0,9,ER⟩]) E0<|Za (X1 Fw ES 36 9 112) E1<|Zo ET Vl<|Zc)))))))) (Zo Y4 WL<|Za (Yg Wh (kI 1)) WW<|Zo Wo Y9<|Zc)))
def c4:CF:=⟨[(VX,none)],(Zh (Za (ZF (k .nils)) st2<|Zc) (Zh (Za (ZF (k .nils)) Vl<|Zc) (Zh (Zh (Za (ZF (kI 0)) Y9<|Zc) (Z0 0 (X8 AE))) (Zh (Zo W8 E2<|Zo IL st2<|Zc) Z2))))⟩
def wE:D:=(Zh (Za (Yu Wo Wh XE YH) Vj<|Zc) (Zh (ZK Wz Zc (X6 1)) (Zh (Z0 2 (Zh (Za (XN XF Wo 9) Vt<|Za (WS W6 9) VS<|Za (Ue 36 [(.str []),(nI .i64 0),(nI .u32 0),(nI .u32 0),(nI .u32 0),(nI .i64 0),.nils,.nils,(.str [])]) W9<|Za (Xn XI Vq 9) d0<|Zc) (Zh (Za (WS XI 9) V4<|Za (Zv 7 [WU]) V9<|Zo Ve VT<|Za (XJ VH 0) Uf<|Za (XJ VH 1) Uw<|Zo Vx Vw<|Zo VY Vz<|Zc) (Zh (Zh (Zo Wi Ux<|Za (WN V7 (kI 0) Vp true) UH<|Zc) (ZK VO (Zh (Zo Wi Ta<|Za (ZF (k .nils)) st2<|Zo VQ Vl<|Zc) Z2) Zc)) (Zh (W2 [Xc (ZF Y4) [(Y9,Y4)] Tj 0 0,Xc (ZF XQ) [(Vw,XQ)] TO 1 0,Xc (Yr XI 1) [(W9,XI)] TU 3 0,Xc (Yr UW 6) [(TU,UW)] SB 4 8,⟨ZJ Tt,none,[(SB,Tt)],SJ,.read,5,24⟩,Xc (Yr XI 1) [(W9,XI)] Rj 7 0,Xc (Yr TS 6) [(Rj,TS)] Rk 8 128,⟨ZJ T7,none,[(Rk,T7)],RG,.read,9,384⟩,Xc (Xs RQ) [(RG,RQ)] Qw 10 896,⟨X1 UF UR 5 1 1,none,[(Tj,UF),(TO,UR)],TP,.eff,2,3⟩,⟨X1 UO TR 5 1 1,none,[(TP,UO),(SJ,TR)],Ri,.eff,6,63⟩,⟨Zv 13 [Ru],none,[(Qw,Ru)],Qx,.eff,11,2047⟩,⟨Ny RP Qq 5 1 1 [(nI .u8 0)],none,[(Ri,RP),(Qx,Qq)],Pr,.eff,12,4095⟩,⟨ZF Rv,none,[(Pr,Rv)],Y9,.eff,13,8191⟩]) (Zh (Zo Y4 Qf<|Za (Xs RX) PA<|Za (Yu Rw (kI 67107840) UG WJ) PZ<|Zc) (ZK Rx (Zh (Za (ZF (k .nils)) st2<|Za (ZF (kI 3)) Vl<|Zc) Z2) Zc))))))) (Za (Yg Wo (kI 1)) P0<|Zo Q5 WW<|Zc))))
def c5:CF:=⟨[(VX,none),(W8,none)],(Zh (Za (ZF (k .nils)) st2<|Za (ZF (kI 0)) Vl<|Zc) (Zh (Z0 0 (Zh (Zo Yb XH<|Za (Zv 16 [YY,(k (.func 17 [] []))]) XM<|Zo Xt Um<|Zc) (ZK WG (Zh (Za (ZF (k .nils)) st2<|Za (ZF (kI 1)) Vl<|Zc) Z2) (Zh (Zo Yb XU<|Za (Xs Xf) Wp<|Za (Yu Xo (kI 8192) UG WJ) Wy<|Zo Wb XW<|Zc) (ZK Xr (Zh (Za (ZF (k .nils)) st2<|Za (ZF (kI 42)) Vl<|Zc) Z2) Zc))))) (Zh (Za (ZF (k .nils)) Y9<|Zc) (Zh (Zh (Zo Yb Ws<|Za (Xs XF) WL<|Za (ZF (kI 0)) WW<|Zc) (Z0 1 (X8 wE))) (Zh (Zo Y4 P1<|Za (Zv 14 []) Ov<|Za (X1 RY OF 5 1 1) OP<|Zo OG st2<|Za (ZF (kI 0)) Vl<|Zc) Z2)))))⟩
def c17:CF:=⟨[(VX,none)],(Zh (Za (Lt Yb 36) st1<|Za (ZF (kB false)) st2<|Zc) (Zh (Za (WS Wc 9) Vl<|Za (Zv 9 [W8]) Y9<|Za (Pf Y4) WX<|Zo YW st2<|Zc) Z2))⟩
def c16:CF:=⟨[(Y4,none)],(Zh (Za (ZF (kB false)) Y9<|Zc) (Zh (Zo Yb WX<|Zo Wc W9<|Za (Zv 40 [YW,XI]) Vw<|Za (Yu XQ (kI 0) Sc W5) Vz<|Zo Wi Y9<|Zc) Z2))⟩
def Fk:D:=(Zh (Za (Yu Wi XQ XE YH) Um<|Zc) (Zh (ZK WG Zc (X6 0)) (Zh (Z0 1 (Zh (Zo Wi XH<|Zo YY WX<|Zc) (Zh (Zo Wc XM<|Zo Yb XW<|Zo YW XU<|Za (XN Xr Xf 9) Wp<|Za (WS Xo 9) Wy<|Za (MO Xt Tryz.prog [Wb]) Ws<|Zc) (ZK XF (Zh (Zo YW WL<|Zo Wh Y9<|Zc) Z2) Zc)))) (Za (Yg Wi (kI 1)) WW<|Zo Wo Vz<|Zc))))
def c40:CF:=⟨[(Y4,none)],(Zh (Za (ZF (kI 0)) Y9<|Zc) (Zh (Zh (Zo Yb W9<|Za (Xs XI) Vw<|Za (ZF (kI 0)) Vz<|Zc) (Z0 0 (X8 Fk))) (Zh (Za (ZF (k (.int .i64 (.negSucc 0)))) Y9<|Zc) Z2)))⟩
def c11:CF:=⟨[(Y4,none)],(Zh (Za (Lt Yb 36) st2<|Za (Lt Wc 36) Vl<|Za (ZF (kB false)) Y9<|Zc) (Zh (W2 [Xc (Yr VX 1) [(st2,VX)] Vw 0 0,⟨WS XQ 8,none,[(Vw,XQ)],Vz,.read,1,1⟩,Xc (Yr W8 1) [(Vl,W8)] Um 2 0,⟨WS WG 8,none,[(Um,WG)],XH,.read,3,4⟩,Xc (Ue 34 [(nI .i64 0),(nI .u32 0),(nI .u32 0),(nI .u32 0),(nI .i64 0),.nils,.nils,(.str [])]) [] WX 4 0,Xc (Ue 34 [(nI .i64 0),(nI .u32 0),(nI .u32 0),(nI .u32 0),(nI .i64 0),.nils,.nils,(.str [])]) [] W9 5 0,⟨Xn YW Wi 8,none,[(WX,YW),(Vz,Wi)],d0,.eff,6,51⟩,⟨Xn XI YY 8,none,[(W9,XI),(XH,YY)],d0,.eff,7,127⟩]) (Zh (Za (Yr VX 0) XM<|Za (ZJ Xt) XW<|Za (Yr W8 0) XU<|Za (ZJ Xf) Wp<|Za (WN Xr Xo PM false) Wy<|Zo Wb Ws<|ZB XF true (Yr YW 0) WL<|ZB XF true (ZJ Wh) WW<|ZB XF true (Yr XI 0) Vj<|ZB XF true (ZJ Wz) Vt<|ZB XF true (WN Wo W6 Vp false) VS<|Za (Yx XF Vq (kB false)) VT<|Zo VH V4<|ZB WU true (Yr YW 1) V9<|ZB WU true (ZJ Ve) Uf<|ZB WU true (Yr XI 1) Uw<|ZB WU true (ZJ VY) Ux<|ZB WU true (WN Vx V7 Vp false) UH<|Za (Yx WU VO (kB false)) Ta<|Zo VQ Tj<|ZB UF true (Yr YW 2) TO<|ZB UF true (ZJ UR) TP<|ZB UF true (Yr XI 2) TU<|ZB UF true (ZJ UW) SB<|ZB UF true (WN UO Tt Vp false) SJ<|Za (Yx UF TR (kB false)) Ri<|Zo RP Rj<|ZB TS true (Yr YW 3) Rk<|ZB TS true (ZJ T7) RG<|ZB TS true (Yr XI 3) Qw<|ZB TS true (ZJ Ru) Qx<|ZB TS true (WN RQ Qq Vp false) Pr<|Za (Yx TS Rv (kB false)) Qf<|Zo RX PA<|ZB Rw true (Yr YW 4) PZ<|ZB Rw true (ZJ Rx) P0<|ZB Rw true (Yr XI 4) P1<|ZB Rw true (ZJ RY) Ov<|ZB Rw true (WN Q5 OF Vp false) OP<|Za (Yx Rw OG (kB false)) O8<|Zo Og NG<|ZB RR true (Yr YW 7) NH<|ZB RR true (ZJ Pw) NI<|ZB RR true (Yr XI 7) NJ<|ZB RR true (ZJ Oh) NW<|ZB RR true (WN NR Mm PM false) NX<|Za (Yx RR NS (kB false)) NY<|Zo NT Mt<|ZB Oi true (Yr YW 6) Mu<|ZB Oi true (ZJ Np) N0<|ZB Oi true (Yr XI 6) Mv<|ZB Oi true (ZJ Nq) Mw<|ZB Oi true (Zv 37 [OH,O0]) Mx<|Za (Yx Oi Nr (kB false)) M1<|Zo Ns M2<|ZB Q6 true (Yr YW 5) M3<|ZB Q6 true (ZJ RZ) M4<|ZB Q6 true (Yr XI 5) LZ<|ZB Q6 true (ZJ LS) KL<|ZB Q6 true (Zv 38 [NU,PQ]) KM<|Za (Yx Q6 Li (kB false)) KN<|Zo Kk Y9<|Zc) Z2)))⟩
def Fj:D:=(Zh (Za (Yu Xf Xr XE YH) Wp<|Zc) (Zh (ZK Xo Zc (X6 0)) (Zh (Z0 1 (Zh (Zo Xf Wy<|Zo Wb WX<|Zc) (Zh (W2 [Xc (ZF Yb) [(st0,Yb)] Ws 0 0,Xc (ZF YW) [(WX,YW)] WL 1 0,Xc (XN XF Wh 2) [(Ws,XF),(WL,Wh)] WW 2 3,⟨WS Wo 2,none,[(WW,Wo)],Vj,.read,3,7⟩,Xc (ZF Wc) [(st1,Wc)] Vt 4 0,Xc (ZF YW) [(WX,YW)] VS 5 0,Xc (XN W6 Vq 2) [(Vt,W6),(VS,Vq)] VT 6 48,⟨WS VH 2,none,[(VT,VH)],V4,.read,7,112⟩,Xc (WN Wz WU (px Tryz.prog 10 45) true) [(Vj,Wz),(V4,WU)] V9 8 255]) (ZK Ve (Zh (Za (ZF (kB false)) Y9<|Zc) Z2) Zc)))) (Za (Yg Xf (kI 1)) Uf<|Zo Vx XU<|Zc))))
def c38:CF:=⟨[(Y4,none)],(Zh (Za (ZF (kB false)) Y9<|Zc) (Zh (Zh (Zo Yb W9<|Za (Xs XI) Vw<|Zo Wc Vz<|Za (Xs Wi) Um<|Za (WN XQ WG Vp true) XH<|Zc) (ZK YY (Zh (Za (ZF (kB false)) Y9<|Zc) Z2) Zc)) (Zh (Zh (Zo Yb XM<|Za (Xs Xt) XW<|Za (ZF (kI 0)) XU<|Zc) (Z0 0 (X8 Fj))) (Zh (Za (ZF (kB true)) Y9<|Zc) Z2))))⟩
def c14:CF:=⟨[(Yb,none)],(Zh (Za (ZF (k .nils)) st0<|Zc) (Zh (Za (NA 5 1 1 [(nI .u8 0)] (kI 1024) (kI 1024)) st1<|Zo Wc st0<|Zc) Z2))⟩
def c37:CF:=⟨[(Y4,none)],(Zh (Za (ZF (kB false)) Y9<|Zc) (Zh (Zo Yb WX<|Za (Jz YW) W9<|Zo Wc Vw<|Za (Jz XQ) Vz<|Za (WN XI Wi PM false) Um<|Zo WG Y9<|Zc) Z2))⟩
def AF:D:=(Zh (Zh (Zo Y4 Um<|Zo Yb XH<|Za (Xs YY) XM<|Za (Yu WG Xt XE YH) XW<|Zc) (ZK Xr Zc (X6 0))) (Zh (Z0 1 (Zh (Zo Yb Wy<|Zo Y4 Ws<|Za (XN Wb XF 9) WL<|Za (WS Wh 9) WW<|Za (Zv 10 [Wo]) Vj<|Za (Pf Wz) Vt<|Zc) (ZK W6 (Zh (Za (ZF (k .nils)) st2<|Za (ZF (kI 1)) Vl<|Zc) Z2) Zc))) (Zo Y4 XU<|Za (Yg Xf (kI 1)) Wp<|Zo Xo Y9<|Zc)))
def wF:D:=(Zh (Zh (Zo XI V9<|Zo Yb Uf<|Za (Xs Vx) Uw<|Za (Yu Ve VY XE YH) Ux<|Zc) (ZK V7 Zc (X6 2))) (Zh (Z0 3 (Zh (Zo Yb TO<|Zo XI TP<|Za (XN UR UO 9) TU<|Za (WS UW 9) SB<|Za (Zv 8 [Tt]) SJ<|Zo TR Tj<|Za (XJ UF 0) Ri<|Za (XJ UF 1) Rj<|Zo RP Vw<|Zo TS Vz<|Zc) (Zh (Zh (Zo Wi Rk<|Za (WN T7 (kI 0) Vp true) RG<|Zc) (ZK RQ (Zh (Zo Wi Qw<|Za (ZF (k .nils)) st2<|Zo Ru Vl<|Zc) Z2) Zc)) (Zh (Zo YW Qx<|Zo XQ Pr<|Za (X1 Qq Rv 5 1 1) Qf<|Zo RX WX<|Zc) (Zo YW PA<|Zo Yb PZ<|Zo XI P0<|Za (XN Rx Q5 9) P1<|Za (Yr RY 1) Ov<|Za (Yr OF 6) OP<|Za (ZJ OG) O8<|Za (X1 Rw Og 5 1 1) NG<|Za (Zv 18 [RR]) NH<|Zo Pw WX<|Zc))))) (Zo XI UH<|Za (Yg VO (kI 1)) Ta<|Zo VQ W9<|Zc)))
def c6:CF:=⟨[(VX,none),(W8,none)],(Zh (Za (ZF (k .nils)) st2<|Za (ZF (kI 0)) Vl<|Zc) (Zh (Zh (Za (ZF (kI 0)) Y9<|Zc) (Z0 0 (X8 AF))) (Zh (Zh (Zo Yb VS<|Za (Xs Vq) VT<|Za (Yu VH (kI 8192) UG WJ) V4<|Zc) (ZK WU (Zh (Za (ZF (k .nils)) st2<|Za (ZF (kI 42)) Vl<|Zc) Z2) Zc)) (Zh (Za (ZF (k .nils)) WX<|Zc) (Zh (Zh (Za (ZF (kI 0)) W9<|Zc) (Z0 2 (X8 wF))) (Zh (Zo YW NI<|Za (Ny NR (kI 1024) 5 1 1 [(nI .u8 0)]) NJ<|Zo Oh WX<|Zc) (Zh (Zh (Zo YW NW<|Za (Xs Mm) NX<|Za (Yu NS (kI 67108864) UG WJ) NY<|Zc) (ZK NT (Zh (Za (ZF (k .nils)) st2<|Za (ZF (kI 3)) Vl<|Zc) Z2) Zc)) (Zh (Zo YW Mt<|Zo Oi st2<|Za (ZF (kI 0)) Vl<|Zc) Z2))))))))⟩
def wG:D:=(Zh (Zh (Zo Xt uY<|Za (Yr Y4 5) uZ<|Za (ZJ vi) ta<|Za (Xs vj) tc<|Za (Yu vh vk XE YH) tf<|Zc) (ZK vl Zc (X6 0))) (Zh (Z0 1 (W2 [Xc (ZF XQ) [(Vw,XQ)] th 0 0,Xc (Yr Y4 5) [(Y9,Y4)] ym 1 0,⟨ZJ zk,none,[(ym,zk)],BE,.read,2,2⟩,Xc (ZF Xt) [(XM,Xt)] BF 3 0,Xc (XN Cv Cw 2) [(BE,Cv),(BF,Cw)] BG 4 14,Xc (Yr Cx 0) [(BG,Cx)] BH 5 30,⟨ZJ Cy,none,[(BH,Cy)],BI,.read,6,62⟩,Xc (Yg (k (.str [83,67,72,73,76,89,46,120,97,116,116,114,46])) Cz) [(BI,Cz)] BJ 7 126,Xc (Yr Y4 5) [(Y9,Y4)] BK 8 0,⟨ZJ CB,none,[(BK,CB)],BL,.read,9,256⟩,Xc (ZF Xt) [(XM,Xt)] BM 10 0,Xc (XN CC CD 2) [(BL,CC),(BM,CD)] BN 11 1792,Xc (Yr CG 1) [(BN,CG)] yn 12 3840,⟨ZJ zl,none,[(yn,zl)],yo,.read,13,7936⟩,⟨UZ [(.str []),(.str [])] [⟨0,1,CA⟩,⟨1,1,zm⟩],none,[(BJ,CA),(yo,zm)],tj,.free,14,16382⟩,⟨Wt 67 2 1 [(.str []),(.str [])] [⟨0,2,vq⟩],none,[(tj,vq)],tk,.free,15,32766⟩,⟨X1 vp vr 67 2 32,none,[(th,vp),(tk,vr)],tn,.eff,16,65535⟩,⟨ZF vt,none,[(tn,vt)],Vw,.eff,17,131071⟩])) (Zo Xt tg<|Za (Yg vm (kI 1)) oR<|Zo pG XM<|Zc)))
def j6:D:=(Zh (Za (NA 5 1 1 [(nI .u8 0)] (kI 512) (kI 512)) bF<|Zo vu Wp<|Zc) (Zh (Zo Xo bG<|Za (Zv 26 [vw,(kI 257),(k (.str [117,115,116,97,114]))]) bH<|Zc) (Zh (Zo Xo bI<|Za (Zv 26 [gV,(kI 263),(k (.str [48,48]))]) bJ<|Zc) (Zh (Zo Xo bK<|Za (XN gW (kI 156) 1) bL<|Za (Xn gX (k (nI .u8 120)) 1) d0<|Zc) (Zh (Zo Xo bM<|Za (Zv 26 [gY,(kI 0),(k (.str [112,97,120]))]) bN<|Zc) (Zh (Zo Xo bO<|Za (Zv 28 [gZ,(kI 100),(kI 7),(kI 0)]) bP<|Zc) (Zh (Zo Xo bQ<|Za (Zv 28 [fa,(kI 108),(kI 7),(kI 0)]) ZdS<|Zc) (Zh (Zo Xo ZdT<|Za (Zv 28 [Zdb,(kI 116),(kI 7),(kI 0)]) ZdU<|Zc) (Zh (Zo Xo ZdV<|Zo Xr ZdW<|Za (Xs Zdd) ZdX<|Za (Zv 28 [Zdc,(kI 124),(kI 11),Zde]) ZdY<|Zc) (Zh (Zo Xo ZdZ<|Za (Zv 28 [Zdf,(kI 136),(kI 11),(kI 0)]) Zd0<|Zc) (Zh (Zo Xo Zd1<|Za (Zv 30 [Zdg]) Zd2<|Zo Xr Zd3<|Za (X1 Zdh Zdi 5 1 1) Zd4<|Zo Zdj Wp<|Zc) (Zh (Zo Xo Zd5<|Za (Zv 18 [Zdk]) Zd6<|Zo YW Zd7<|Za (X1 Zdl Zdm 5 1 1) Zd8<|Zo Zdn st2<|Za (ZF (kI 0)) Vl<|Zc) Z2))))))))))))
def j0:D:=(Zh (Zo XQ br<|Za (Zv 31 [gK]) bz<|Zo gM bq<|Za (XJ pM 0) bA<|Za (XJ pM 1) bB<|Zo gN XW<|Zo gO XU<|Zc) (Zh (Zh (Zo Xf bC<|Za (WN gQ (kI 0) Vp true) bD<|Zc) (ZK gS (Zh (Zo Xf bE<|Za (ZF (k .nils)) st2<|Zo gU Vl<|Zc) Z2) Zc)) j6))
def pj:D:=(Zh (Zo YW oS<|Za (Zv 30 [pH]) oT<|Zo pI WX<|Zc) (Zh (Zh (Zo XQ oU<|Za (Xs zn) oV<|Za (WN pJ (kI 0) Vp false) oW<|Zc) (ZK pK (Zh (Zo YW oX<|Zo pL st2<|Za (ZF (kI 0)) Vl<|Zc) Z2) Zc)) j0))
def jZ:D:=(Zh (Zh (Za (ZF (kI 0)) XM<|Zc) (Z0 0 (X8 wG))) pj)
def wH:D:=(Zh (Zh (Za (Yr Y4 4) Ik<|Za (ZJ MJ) Il<|Za (Yu JY (kI 0) XE YH) Im<|Zo JZ In<|ZB RH false (Yr Y4 4) Io<|ZB RH false (ZJ HY) KJ<|ZB RH false (Yu Ki (kI 8589934591) UG WJ) KK<|Za (Yx RH (kB true) Kj) EO<|Zc) (ZK Ew (Zo XQ BC<|Za (Yr Y4 4) BD<|Za (ZJ Cu) ye<|Za (Zv 29 [HZ]) yf<|Za (UZ [(.str []),(.str [])] [⟨0,1,(k (.str [109,116,105,109,101]))⟩,⟨1,1,ze⟩]) yg<|Za (Wt 67 2 1 [(.str []),(.str [])] [⟨0,2,zf⟩]) yh<|Za (X1 Ct zg 67 2 32) yi<|Zo LM Vw<|Zc) (Zo YW yj<|Za (Yr Y4 4) yk<|Za (ZJ zi) yl<|Za (Zv 28 [zh,(kI 136),(kI 11),zj]) uX<|Zc))) jZ)
def pi:D:=(Zh (Zh (Za (Yr Y4 3) GN<|Za (ZJ MG) GO<|Za (Yu MH (k (nI .u32 2097151)) UG WJ) GP<|Zc) (ZK HU (Zo XQ GQ<|Za (Yr Y4 3) GR<|Za (ZJ Kh) Ia<|Za (U0 OV .i64) GS<|Za (Zv 29 [Ev]) GU<|Za (UZ [(.str []),(.str [])] [⟨0,1,(k (.str [103,105,100]))⟩,⟨1,1,HV⟩]) Ib<|Za (Wt 67 2 1 [(.str []),(.str [])] [⟨0,2,HW⟩]) Ic<|Za (X1 Of JS 67 2 32) Ie<|Zo JT Vw<|Zc) (Zo YW If<|Za (Yr Y4 3) Ig<|Za (ZJ JV) Ih<|Za (U0 JW .i64) Ii<|Za (Zv 28 [JU,(kI 116),(kI 7),JX]) Ij<|Zc))) wH)
def ph:D:=(Zh (Zh (Za (Yr Y4 2) JF<|Za (ZJ Jw) JG<|Za (Yu Nt (k (nI .u32 2097151)) UG WJ) JH<|Zc) (ZK LW (Zo XQ JI<|Za (Yr Y4 2) Hg<|Za (ZJ IK) Hh<|Za (U0 Lk .i64) GV<|Za (Zv 29 [Km]) F6<|Za (UZ [(.str []),(.str [])] [⟨0,1,(k (.str [117,105,100]))⟩,⟨1,1,Fw⟩]) EZ<|Za (Wt 67 2 1 [(.str []),(.str [])] [⟨0,2,ER⟩]) E0<|Za (X1 Jx ES 67 2 32) E1<|Zo ET Vw<|Zc) (Zo YW E2<|Za (Yr Y4 2) BO<|Za (ZJ Aj) BP<|Za (U0 CH .i64) J8<|Za (Zv 28 [IL,(kI 108),(kI 7),JR]) J9<|Zc))) pi)
def jY:D:=(Zh (Zo YW KM<|Za (Yr Y4 1) KN<|Za (ZJ Kk) KO<|Za (U0 Oj .i64) KQ<|Za (Zv 28 [Li,(kI 100),(kI 7),Ok]) KR<|Zc) (Zh (Zo YW KS<|Za (Zv 28 [Kl,(kI 108),(kI 7),(kI 0)]) JA<|Zc) (Zh (Zo YW I9<|Za (Zv 28 [IJ,(kI 116),(kI 7),(kI 0)]) Hf<|Zc) (Zh (Zo YW JB<|Za (Yr Y4 6) JC<|Za (ZJ Jt) JD<|Za (Xs Ju) KT<|Za (Zv 28 [LV,(kI 124),(kI 11),Ry]) KU<|Zc) (Zh (Zo YW KV<|Za (Zv 28 [Q7,(kI 136),(kI 11),(kI 0)]) JE<|Zc) ph)))))
def pg:D:=(Zh (Zo YW O8<|Zo Wi NG<|Za (Zv 26 [Og,(kI 345),RR]) NH<|Zc) (Zh (Zo YW NI<|Zo WG NJ<|Za (Zv 26 [NR,(kI 0),Oh]) NW<|Zc) (Zh (Zh (Za (Yr Y4 7) NX<|Za (ZJ NS) NY<|Za (Xm NT) Mt<|Za (Yu Oi (kI 100) UG WJ) Mu<|Zc) (ZK Np (Zo XQ N0<|Za (Yr Y4 7) Mv<|Za (ZJ Nq) Mw<|Za (UZ [(.str []),(.str [])] [⟨0,1,(k (.str [108,105,110,107,112,97,116,104]))⟩,⟨1,1,O0⟩]) Mx<|Za (Wt 67 2 1 [(.str []),(.str [])] [⟨0,2,Nr⟩]) M1<|Za (X1 OH Ns 67 2 32) M2<|Zo Q6 Vw<|Zc) (Zo YW M3<|Za (Yr Y4 7) M4<|Za (ZJ NU) LZ<|Za (Zv 26 [RZ,(kI 157),LS]) KL<|Zc))) jY)))
def D3:D:=(Zh (Za (ZF (k .nils)) Vw<|Zc) (Zh (Zo XI Rk<|Za (Zv 27 [T7]) RG<|Zo RQ Rj<|Za (XJ TS 0) Qw<|Za (XJ TS 1) Qx<|Za (XJ TS 2) Pr<|Zo Ru Vz<|Zo Qq Um<|Zo Rv XH<|Zc) (Zh (Zh (Zo YY Qf<|Za (Pf RX) PA<|Zc) (ZK Rw (Zo XQ PZ<|Zo XI P0<|Za (UZ [(.str []),(.str [])] [⟨0,1,(k (.str [112,97,116,104]))⟩,⟨1,1,Q5⟩]) P1<|Za (Wt 67 2 1 [(.str []),(.str [])] [⟨0,2,RY⟩]) Ov<|Za (X1 Rx OF 67 2 32) OP<|Zo OG Vw<|Zc) Zc)) pg)))
def c8:CF:=⟨[(VX,none),(W8,none)],(Zh (Za (Lt Yb 36) st1<|Za (ZF (k .nils)) st2<|Za (ZF (kI 0)) Vl<|Zc) (Zh (Zh (Za (WS Wc 9) Wy<|Za (Zv 10 [Wb]) Ws<|Za (Pf XF) WL<|Zc) (ZK Wh (Zh (Za (ZF (k .nils)) st2<|Za (ZF (kI 1)) Vl<|Zc) Z2) Zc)) (Zh (Za (Yr Wc 1) WW<|Za (WS Wo 8) Vj<|Za (Ue 34 [(nI .i64 0),(nI .u32 0),(nI .u32 0),(nI .u32 0),(nI .i64 0),.nils,.nils,(.str [])]) Y9<|Za (Xn Y4 Wz 8) d0<|Zc) (Zh (Za (NA 5 1 1 [(nI .u8 0)] (kI 512) (kI 512)) Vt<|Zo W6 WX<|Zc) (Zh (Zo YW VS<|Za (Zv 26 [Vq,(kI 257),(k (.str [117,115,116,97,114]))]) VT<|Zc) (Zh (Zo YW V4<|Za (Zv 26 [WU,(kI 263),(k (.str [48,48]))]) V9<|Zc) (Zh (Zo YW Uf<|Za (Yr Y4 0) Uw<|Za (ZJ VY) Ux<|Za (Y7 (k (.str [120,53,48,50,54])) V7) UH<|Za (XN Vx (kI 156) 1) Ta<|Za (Xn VQ VO 1) d0<|Zc) (Zh (Za (Yr Wc 0) Tj<|Za (ZJ UF) TO<|Zo UR W9<|Zc) (Zh (Zh (Za (Yr Y4 0) TP<|Za (ZJ UO) TU<|Za (WN UW (kI 1) Vp false) SB<|Zc) (ZK Tt (Zo XI SJ<|Za (Yg TR (k (.str [47]))) Ri<|Zo RP W9<|Zc) Zc)) D3)))))))))⟩
def OD:D:=(Zh (Zh (Zo XI RG<|Za (Yr YW 5) Qw<|Za (ZJ Ru) Qx<|Za (Xs Qq) Pr<|Za (Yu RQ Rv XE YH) Qf<|Zc) (ZK RX Zc (X6 0))) (Zh (Z0 1 (Zh (Za (Yr YW 5) P0<|Za (ZJ Q5) P1<|Zo XI Ov<|Za (XN RY OF 2) OP<|Za (Yr OG 0) O8<|Za (ZJ Og) NG<|Zo RR Vw<|Zc) (Zh (Zh (Zo XQ NH<|Za (WN Pw (k (.str [])) PM false) NI<|Zo NR NJ<|ZB Oh false (ZF XQ) NW<|ZB Oh false (Xm Mm) NX<|ZB Oh false (Yu NS (kI 242) UG WJ) NY<|Za (Yx Oh (kB true) NT) Mt<|Zo Oi Mu<|ZB Np false (ZF XQ) N0<|ZB Np false (Zv 36 [OH,(k (nI .u8 0))]) Mv<|Za (Yx Np (kB true) Nq) Mw<|Zo O0 Mx<|ZB Nr false (ZF XQ) M1<|ZB Nr false (Zv 36 [Ns,(k (nI .u8 61))]) M2<|Za (Yx Nr (kB true) Q6) M3<|Zo RZ M4<|ZB NU false (ZF XQ) LZ<|ZB NU false (Zv 36 [LS,(k (nI .u8 10))]) KL<|Za (Yx NU (kB true) PQ) KM<|Zc) (ZK Li (Zh (Za (ZF (kB false)) st2<|Zc) Z2) Zc)) (Zh (Zo XI KN<|Za (Yu Kk (kI 0) UG WJ) KO<|Zo Oj KQ<|ZB Ok true (Yr YW 5) KR<|ZB Ok true (ZJ Js) KS<|ZB Ok true (ZF XI) JA<|ZB Ok true (Vs II (kI 1)) I9<|ZB Ok true (XN Kl IJ 2) Hf<|ZB Ok true (Yr LU 0) JB<|ZB Ok true (ZJ LV) JC<|ZB Ok true (ZF XQ) JD<|ZB Ok true (Yu Jt Ju Sc W5) KT<|Za (Yx Ok Ry (kB false)) KU<|Zc) (ZK Jv (Zh (Za (ZF (kB false)) st2<|Zc) Z2) Zc))))) (Zo XI PA<|Za (Yg Rw (kI 1)) PZ<|Zo Rx W9<|Zc)))
def c10:CF:=⟨[(VX,none)],(Zh (Za (Lt Yb 36) st1<|Za (ZF (kB false)) st2<|Zc) (Zh (Za (Yr Wc 0) Um<|Za (ZJ WG) XH<|Za (Zv 35 [YY]) XM<|Zo Xt Vz<|Za (XJ Wi 0) XW<|Za (XJ Wi 1) XU<|Zo Xr Vl<|Zo Xf Y9<|Zc) (Zh (Za (Yr Wc 1) Wp<|Za (WS Xo 8) Wy<|Za (Ue 34 [(nI .i64 0),(nI .u32 0),(nI .u32 0),(nI .u32 0),(nI .i64 0),.nils,.nils,(.str [])]) WX<|Za (Xn YW Wb 8) d0<|Zc) (Zh (Zh (Zo W8 Ws<|Za (WN XF (kI 0) Vp false) WL<|Zo Wh WW<|ZB Wo false (Yr YW 0) Vj<|ZB Wo false (ZJ Wz) Vt<|ZB Wo false (Yu W6 (kI 1) XE YH) VS<|Za (Yx Wo (kB true) Vq) VT<|Zo VH V4<|ZB WU false (Yr YW 0) V9<|ZB WU false (ZJ Ve) Uf<|ZB WU false (Yu Vx (kI 4) UG WJ) Uw<|Za (Yx WU (kB true) VY) Ux<|Zo V7 UH<|ZB VO false (Yr YW 1) Ta<|ZB VO false (ZJ VQ) Tj<|ZB VO false (Yu UF (k (nI .u32 4095)) UG WJ) TO<|Za (Yx VO (kB true) UR) TP<|Zo UO TU<|ZB UW false (Yr YW 5) SB<|ZB UW false (ZJ Tt) SJ<|ZB UW false (Xs TR) Ri<|ZB UW false (Yu RP (kI 16) UG WJ) Rj<|Za (Yx UW (kB true) TS) Rk<|Zc) (ZK T7 (Zh (Za (ZF (kB false)) st2<|Zc) Z2) Zc)) (Zh (Zh (Za (ZF (kI 0)) W9<|Zc) (Z0 0 (X8 OD))) (Zh (Zh (Za (Yr YW 0) KV<|Za (ZJ Q7) JE<|Za (WN Lj (kI 3) Vp false) JF<|Zo Jw JG<|ZB Nt true (Yr YW 7) JH<|ZB Nt true (ZJ LW) JI<|ZB Nt true (WN Jx (k (.str [])) PM false) Hg<|ZB Nt true (ZF IK) Hh<|ZB Lk false (Yr YW 7) GV<|ZB Lk false (ZJ Km) F6<|ZB Lk false (Xm Fw) EZ<|ZB Lk false (Yu ER (kI 4096) UG WJ) E0<|ZB Nt true (Yx Lk (kB true) ES) E1<|ZB Nt true (ZF ET) E2<|ZB IL false (Yr YW 7) BO<|ZB IL false (ZJ Aj) BP<|ZB IL false (Zv 36 [CH,(k (nI .u8 0))]) J8<|ZB Nt true (Yx IL (kB true) JR) J9<|Za (Yx Nt HT (kB false)) GN<|Zo MG GO<|ZB MH false (Yr YW 0) GP<|ZB MH false (ZJ HU) GQ<|ZB MH false (WN Of (kI 3) Vp true) GR<|ZB MH false (ZF Kh) Ia<|ZB OV true (Yr YW 7) GS<|ZB OV true (ZJ Ev) GU<|ZB OV true (WN HV (k (.str [])) PM true) Ib<|ZB MH false (Yx OV HW (kB false)) Ic<|Za (Yx MH (kB true) JS) Ie<|Zc) (ZK JT (Zh (Za (ZF (kB false)) st2<|Zc) Z2) Zc)) (Zh (Za (Yr YW 6) If<|Za (ZJ JU) Ig<|Za (Xs JV) Ih<|Za (Yu JW (kI 16777216) S2 UE) Ii<|Zo JX Ij<|ZB MI true (Yr YW 0) Ik<|ZB MI true (ZJ MJ) Il<|ZB MI true (WN JY (kI 2) Vp false) Im<|ZB MI true (ZF JZ) In<|ZB RH false (Yr YW 6) Io<|ZB RH false (ZJ HY) KJ<|ZB RH false (Xs Ki) KK<|ZB RH false (WN Kj (kI 0) Vp false) EO<|ZB MI true (Yx RH (kB true) Ew) BC<|Za (Yx MI Ct (kB false)) BD<|Zo Cu st2<|Zc) Z2)))))))⟩
def Ff:D:=(Zh (Zh (Zo XQ KS<|Za (Yr YW 5) JA<|Za (ZJ II) I9<|Za (Xs IJ) Hf<|Za (Yu Kl LU XE YH) JB<|Zc) (ZK LV Zc (X6 0))) (Zh (Z0 1 (Zh (W2 [Xc (Yr YW 5) [(WX,YW)] KT 0 0,⟨ZJ Ry,none,[(KT,Ry)],KU,.read,1,1⟩,Xc (ZF XQ) [(Vw,XQ)] KV 2 0,Xc (XN Jv Q7 2) [(KU,Jv),(KV,Q7)] JE 3 7,⟨WS Lj 2,none,[(JE,Lj)],JF,.read,4,15⟩,Xc (Yr XI 5) [(W9,XI)] JG 5 0,⟨ZJ Nt,none,[(JG,Nt)],JH,.read,6,32⟩,Xc (ZF XQ) [(Vw,XQ)] JI 7 0,Xc (XN LW Jx 2) [(JH,LW),(JI,Jx)] Hg 8 224,⟨WS IK 2,none,[(Hg,IK)],Hh,.read,9,480⟩,Xc (WN Jw Lk (px Tryz.prog 10 45) true) [(JF,Jw),(Hh,Lk)] GV 10 1023]) (ZK Km (Zh (Za (ZF (kB false)) Y9<|Zc) Z2) Zc))) (Zo XQ JC<|Za (Yg Jt (kI 1)) JD<|Zo Ju Vw<|Zc)))
def c12:CF:=⟨[(Y4,none)],(Zh (Za (Lt Yb 36) st2<|Za (Lt Wc 36) Vl<|Za (ZF (kB false)) Y9<|Zc) (Zh (Za (Yr VX 1) Vz<|Za (WS Wi 8) Um<|Za (Ue 34 [(nI .i64 0),(nI .u32 0),(nI .u32 0),(nI .u32 0),(nI .i64 0),.nils,.nils,(.str [])]) WX<|Za (Xn YW WG 8) d0<|Zc) (Zh (Za (Yr W8 1) XH<|Za (WS YY 8) XM<|Za (Ue 34 [(nI .i64 0),(nI .u32 0),(nI .u32 0),(nI .u32 0),(nI .i64 0),.nils,.nils,(.str [])]) W9<|Za (Xn XI Xt 8) d0<|Zc) (Zh (Zh (Za (Yr VX 0) XW<|Za (ZJ Xr) XU<|Za (Yr W8 0) Wp<|Za (ZJ Xo) Wy<|Za (WN Xf Wb PM true) Ws<|Zo XF WL<|ZB Wh false (Yr YW 0) WW<|ZB Wh false (ZJ Wo) Vj<|ZB Wh false (Yr XI 0) Vt<|ZB Wh false (ZJ W6) VS<|ZB Wh false (WN Wz Vq Vp true) VT<|Za (Yx Wh (kB true) VH) V4<|Zo WU V9<|ZB Ve false (Yr YW 1) Uf<|ZB Ve false (ZJ Vx) Uw<|ZB Ve false (Yr XI 1) Ux<|ZB Ve false (ZJ V7) UH<|ZB Ve false (WN VY VO Vp true) Ta<|Za (Yx Ve (kB true) VQ) Tj<|Zo UF TO<|ZB UR false (Yr YW 2) TP<|ZB UR false (ZJ UO) TU<|ZB UR false (Yr XI 2) SB<|ZB UR false (ZJ Tt) SJ<|ZB UR false (WN UW TR Vp true) Ri<|Za (Yx UR (kB true) RP) Rj<|Zo TS Rk<|ZB T7 false (Yr YW 3) RG<|ZB T7 false (ZJ RQ) Qw<|ZB T7 false (Yr XI 3) Qx<|ZB T7 false (ZJ Qq) Pr<|ZB T7 false (WN Ru Rv Vp true) Qf<|Za (Yx T7 (kB true) RX) PA<|Zo Rw PZ<|ZB Rx false (Yr YW 4) P0<|ZB Rx false (ZJ Q5) P1<|ZB Rx false (Yr XI 4) Ov<|ZB Rx false (ZJ OF) OP<|ZB Rx false (WN RY OG Vp true) O8<|Za (Yx Rx (kB true) Og) NG<|Zo RR NH<|ZB Pw false (Yr YW 7) NI<|ZB Pw false (ZJ NR) NJ<|ZB Pw false (Yr XI 7) NW<|ZB Pw false (ZJ Mm) NX<|ZB Pw false (WN Oh NS PM true) NY<|Za (Yx Pw (kB true) NT) Mt<|Zc) (ZK Oi (Zh (Za (ZF (kB false)) Y9<|Zc) Z2) Zc)) (Zh (Zh (Za (Yr YW 6) Mu<|Za (ZJ Np) N0<|Za (Jz OH) Mv<|Za (Yr XI 6) Mw<|Za (ZJ O0) Mx<|Za (Jz Nr) M1<|Za (WN Nq Ns PM true) M2<|Zo Q6 M3<|ZB RZ false (Yr YW 5) M4<|ZB RZ false (ZJ NU) LZ<|ZB RZ false (Xs LS) KL<|ZB RZ false (Yr XI 5) KM<|ZB RZ false (ZJ Li) KN<|ZB RZ false (Xs Kk) KO<|ZB RZ false (WN PQ Oj Vp true) KQ<|Za (Yx RZ (kB true) Ok) KR<|Zc) (ZK Js (Zh (Za (ZF (kB false)) Y9<|Zc) Z2) Zc)) (Zh (Zh (Za (ZF (kI 0)) Vw<|Zc) (Z0 0 (X8 Ff))) (Zh (Za (ZF (kB true)) Y9<|Zc) Z2)))))))⟩
def Fi:D:=(Zh (Zh (Zo YW W9<|Zo Yb Vw<|Za (Xm XQ) Vz<|Za (Yu XI Wi XE YH) Um<|Zc) (ZK WG Zc (X6 0))) (Zh (Z0 1 (Zh (Zo Yb XW<|Zo YW XU<|Za (Y7 Xr Xf) Wp<|Zo Wc Wy<|Za (WN Xo Wb Vp false) Ws<|Zc) (ZK XF (Zh (Za (ZF (kB true)) Y9<|Zc) Z2) Zc))) (Zo YW XH<|Za (Yg YY (kI 1)) XM<|Zo Xt WX<|Zc)))
def c36:CF:=⟨[(Y4,none)],(Zh (Za (ZF (kB false)) Y9<|Zc) (Zh (Zh (Za (ZF (kI 0)) WX<|Zc) (Z0 0 (X8 Fi))) (Zh (Za (ZF (kB false)) Y9<|Zc) Z2)))⟩
def DQ:D:=(Zh (Zh (Zo XI Vw<|Zo VX Vz<|Za (Xm Wi) Um<|Za (Yu XQ WG XE YH) XH<|Zc) (ZK YY Zc (X6 0))) (Zh (Z0 1 (Zo Yb XU<|Zo Wc Wp<|Zo XI Wy<|Za (Yg Xo Wb) Ws<|Zo VX WL<|Zo XI WW<|Za (Y7 Wh Wo) Vj<|Za (XN Xf XF 1) Vt<|Za (Xn W6 Wz 1) d0<|Zc)) (Zo XI XM<|Za (Yg Xt (kI 1)) XW<|Zo Xr W9<|Zc)))
def c26:CF:=⟨[],(Zh (Za (ZF (kI 0)) W9<|Zc) (Z0 0 (X8 DQ)))⟩
def L7:D:=(Zh (Zh (Zo YW XU<|Za (Yu Xf (kI 0) UG WJ) Wp<|Zc) (ZK Xo Zc (X6 0))) (Zh (Z0 1 (Zh (Zo Yb WL<|Zo YW WW<|Za (Y7 Wh Wo) Vj<|Za (WN Wz (k (nI .u8 47)) Vp false) Vt<|Zo W6 VS<|ZB Vq true (ZF YW) VT<|ZB Vq true (Yu VH (kI 155) S2 UE) V4<|Za (Yx Vq WU (kB false)) V9<|Zo Ve Uf<|ZB Vx true (ZF Yb) Uw<|ZB Vx true (Xm VY) Ux<|ZB Vx true (ZF YW) UH<|ZB Vx true (Vs V7 VO) Ta<|ZB Vx true (Vs VQ (kI 1)) Tj<|ZB Vx true (Yu UF (kI 100) S2 UE) TO<|Za (Yx Vx UR (kB false)) TP<|Zc) (ZK UO (Zh (W2 [Xc (ZF Yb) [(st0,Yb)] TU 0 0,Xc (ZF YW) [(WX,YW)] SB 1 0,Xc (WI UW none (some Tt) none) [(TU,UW),(SB,Tt)] SJ 2 3,Xc (ZF Yb) [(st0,Yb)] Ri 3 0,Xc (ZF YW) [(WX,YW)] Rj 4 0,Xc (Yg TS (kI 1)) [(Rj,TS)] Rk 5 16,Xc (WI RP (some T7) none none) [(Ri,RP),(Rk,T7)] RG 6 56,⟨ZF TR,none,[(SJ,TR)],st2,.eff,7,7⟩,⟨ZF RQ,none,[(RG,RQ)],Vl,.eff,8,255⟩,⟨ZF (kB true),none,[],Y9,.eff,9,511⟩]) Z2) Zc))) (Zo YW Wy<|Za (Vs Wb (kI 1)) Ws<|Zo XF WX<|Zc)))
def c27:CF:=⟨[(VX,none),(W8,none),(Y4,none)],(Zh (Za (ZF (k (.str []))) st2<|Za (ZF (k (.str []))) Vl<|Za (ZF (kB false)) Y9<|Zc) (Zh (Zh (Zo Yb W9<|Za (Xm XI) Vw<|Za (Yu XQ (kI 100) S2 UE) Vz<|Zc) (ZK Wi (Zh (Zo Yb Um<|Za (ZF (k (.str []))) st2<|Zo WG Vl<|Za (ZF (kB true)) Y9<|Zc) Z2) Zc)) (Zh (Zh (Zo Yb XH<|Za (Xm YY) XM<|Za (Vs Xt (kI 2)) XW<|Zo Xr WX<|Zc) (Z0 0 (X8 L7))) (Zh (Za (ZF (k (.str []))) st2<|Za (ZF (k (.str [112,97,120]))) Vl<|Za (ZF (kB false)) Y9<|Zc) Z2))))⟩
def DT:D:=(Zh (Zh (Zo Wi XM<|Za (Yu Xt (kI 0) Sc W5) XW<|Zc) (ZK Xr Zc (X6 0))) (Zh (Z0 1 (Zh (Zo Yb Wy<|Zo Wc Ws<|Zo Wi WL<|Za (Yg XF Wh) WW<|Zo W8 Vj<|Za (I0 Wz (kI 8)) Vt<|Za (Yg (kI 48) W6) VS<|Za (U0 Vq .u8) VT<|Za (XN Wb Wo 1) V4<|Za (Xn WU VH 1) d0<|Zc) (Zo W8 V9<|Za (Jy Ve (kI 8)) Uf<|Zo Vx Vl<|Zc))) (Zo Wi XU<|Za (Vs Xf (kI 1)) Wp<|Zo Xo Vz<|Zc)))
def c28:CF:=⟨[],(Zh (Zo VX Um<|Za (Vs WG (kI 1)) XH<|Zo YY Vz<|Zc) (Z0 0 (X8 DT)))⟩
def DU:D:=(Zh (Zh (Zo Y4 Vw<|Zo Yb Vz<|Za (Xs Wi) Um<|Za (Yu XQ WG XE YH) XH<|Zc) (ZK YY Zc (X6 0))) (Zh (Z0 1 (Zo W8 XU<|Zo Yb Wp<|Zo Y4 Wy<|Za (XN Xo Wb 1) Ws<|Za (ZJ XF) WL<|Za (U0 Wh .i64) WW<|Za (Yg Xf Wo) Vj<|Zo Wz Vl<|Zc)) (Zo Y4 XM<|Za (Yg Xt (kI 1)) XW<|Zo Xr Y9<|Zc)))
def c30:CF:=⟨[(VX,none)],(Zh (Za (ZF (k .nils)) st2<|Zc) (Zh (Zo Yb WX<|Za (Zv 26 [YW,(kI 148),(k (.str [32,32,32,32,32,32,32,32]))]) W9<|Zc) (Zh (Za (ZF (kI 0)) Vl<|Zc) (Zh (Zh (Za (ZF (kI 0)) Y9<|Zc) (Z0 0 (X8 DU))) (Zh (Zo Yb Vt<|Zo W8 VS<|Za (Zv 28 [W6,(kI 148),(kI 6),Vq]) VT<|Zc) (Zh (Zo Yb V4<|Za (XN WU (kI 154) 1) V9<|Za (Xn Ve (k (nI .u8 0)) 1) d0<|Zc) (Zh (Zo Yb Uf<|Zo Vx st2<|Zc) Z2)))))))⟩
def DN:D:=(Zh (Zh (Zo Yb Vl<|Za (Xs W8) Y9<|Za (I0 Y4 (kI 512)) WX<|Za (WN YW (kI 0) Vp true) W9<|Zc) (ZK XI Zc (X6 0))) (Z0 1 (Zo Yb Vw<|Za (Wt 5 1 1 [(nI .u8 0)] [⟨0,1,(k (nI .u8 0))⟩]) Vz<|Za (X1 XQ Wi 5 1 1) Um<|Zo WG st0<|Zc)))
def c18:CF:=⟨[(VX,none)],(Zh (Za (ZF (k .nils)) st2<|Zc) (Zh (Z0 0 (X8 DN)) (Zh (Zo Yb XH<|Zo YY st2<|Zc) Z2)))⟩
def c29:CF:=⟨[(VX,none)],(Zh (Za (ZF (k (.str []))) st2<|Zc) (Zh (Zh (Zo Yb Vl<|Za (Yu W8 (kI 0) XE YH) Y9<|Zc) (ZK Y4 (Zh (Zo Yb WX<|Za (Yg YW (kI 1)) W9<|Za (Ao XI) Vw<|Za (U0 XQ .u64) Vz<|Za (Yg Wi (k (nI .u64 1))) Um<|Za (Zv 56 [WG]) XH<|Za (Yg (k (.str [45])) YY) XM<|Zo Xt st2<|Zc) Z2) Zc)) (Zh (Zo Yb XW<|Za (U0 Xr .u64) XU<|Za (Zv 56 [Xf]) Wp<|Zo Xo st2<|Zc) Z2)))⟩
def DV:D:=(Zh (Zh (Zo YW Vw<|Zo Yb Vz<|Za (Xs Wi) Um<|Za (Yu XQ WG XE YH) XH<|Zc) (ZK YY Zc (X6 0))) (Zh (Z0 1 (Zh (Zo Yb XU<|Zo YW Wp<|Za (XN Xf Xo 2) Wy<|Za (WS Wb 2) Ws<|Za (Zv 57 [XF]) WL<|Za (WN Wh (kI 0) Vp false) WW<|Zc) (ZK Wo (Zh (Za (ZF (k .nils)) st2<|Za (ZF (kI 1)) Vl<|Zc) Z2) Zc))) (Zo YW XM<|Za (Yg Xt (kI 1)) XW<|Zo Xr WX<|Zc)))
def DW:D:=(Zh (Zh (Zo XI Vj<|Zo Yb Vt<|Za (Xs W6) VS<|Za (Yu Wz Vq XE YH) VT<|Zc) (ZK VH Zc (X6 2))) (Zh (Z0 3 (Zh (W2 [Xc (ZF Y4) [(Y9,Y4)] Uf 0 0,Xc (ZF Yb) [(st0,Yb)] Uw 1 0,Xc (ZF XI) [(W9,XI)] Ux 2 0,Xc (XN VY V7 2) [(Uw,VY),(Ux,V7)] UH 3 6,⟨WS VO 2,none,[(UH,VO)],Ta,.read,4,14⟩,Xc (ZF Yb) [(st0,Yb)] SB 9 0,Xc (ZF XI) [(W9,XI)] SJ 10 0,Xc (XN Tt TR 2) [(SB,Tt),(SJ,TR)] Ri 11 1536,Xc (Yr RP 0) [(Ri,RP)] Rj 12 3584,⟨ZJ TS,none,[(Rj,TS)],Rk,.read,13,7680⟩,Xc (ZF Yb) [(st0,Yb)] Qx 16 0,Xc (ZF XI) [(W9,XI)] Pr 17 0,Xc (XN Qq Rv 2) [(Qx,Qq),(Pr,Rv)] Qf 18 196608,Xc (Yr RX 1) [(Qf,RX)] PA 19 458752,⟨ZJ Rw,none,[(PA,Rw)],PZ,.read,20,983040⟩,⟨Zv 57 [VQ],none,[(Ta,VQ)],Tj,.eff,5,30⟩,Xc (U0 UF .u64) [(Tj,UF)] TO 6 62,⟨Zv 56 [UR],none,[(TO,UR)],TP,.eff,7,126⟩,Xc (Yg UO (k (.str [32]))) [(TP,UO)] TU 8 254,Xc (Yg UW T7) [(TU,UW),(Rk,T7)] RG 14 16382,Xc (Yg RQ (k (.str [61]))) [(RG,RQ)] Qw 15 32766,Xc (Yg Ru Rx) [(Qw,Ru),(PZ,Rx)] P0 21 2097150,Xc (Yg Q5 (k (.str [10]))) [(P0,Q5)] P1 22 4194302,⟨X1 Vx RY 5 1 1,none,[(Uf,Vx),(P1,RY)],Ov,.eff,23,8388607⟩,⟨ZF OF,none,[(Ov,OF)],Y9,.eff,24,16777215⟩]) (Zh (Zo Y4 OP<|Za (Xs OG) O8<|Za (Yu Og (kI 16777216) UG WJ) NG<|Zc) (ZK RR (Zh (Za (ZF (k .nils)) st2<|Za (ZF (kI 3)) Vl<|Zc) Z2) Zc)))) (Zo XI V4<|Za (Yg WU (kI 1)) V9<|Zo Ve W9<|Zc)))
def c31:CF:=⟨[(VX,none),(W8,none)],(Zh (Za (ZF (k .nils)) st2<|Za (ZF (kI 0)) Vl<|Zc) (Zh (Za (ZF (k .nils)) Y9<|Zc) (Zh (Zh (Za (ZF (kI 0)) WX<|Zc) (Z0 0 (X8 DV))) (Zh (Zh (Za (ZF (kI 0)) W9<|Zc) (Z0 2 (X8 DW))) (Zh (Zo Y4 NH<|Zo Pw st2<|Za (ZF (kI 0)) Vl<|Zc) Z2)))))⟩
def DZ:D:=(Zh (Zh (Zo Yb Y9<|Za (Yu Y4 (k (nI .u64 9)) UG WJ) WX<|Zc) (ZK YW Zc (X6 0))) (Z0 1 (Zh (Zo Yb W9<|Za (I0 XI (k (nI .u64 10))) Vw<|Za (Yg (k (nI .u64 48)) XQ) Vz<|Za (U0 Wi .u8) Um<|Za (Wt 5 1 1 [(nI .u8 0)] [⟨0,1,WG⟩]) XH<|Za (Jz YY) XM<|Zo W8 XW<|Za (Yg Xt Xr) XU<|Zo Xf Vl<|Zc) (Zo Yb Wp<|Za (Jy Xo (k (nI .u64 10))) Wy<|Zo Wb st0<|Zc))))
def c56:CF:=⟨[(VX,none)],(Zh (Za (ZF (k (.str []))) st2<|Zc) (Zh (Za (ZF (k (.str []))) Vl<|Zc) (Zh (Z0 0 (X8 DZ)) (Zh (Zo Yb Ws<|Za (Yg (k (nI .u64 48)) XF) WL<|Za (U0 Wh .u8) WW<|Za (Wt 5 1 1 [(nI .u8 0)] [⟨0,1,Wo⟩]) Vj<|Za (Jz Wz) Vt<|Zo W8 VS<|Za (Yg W6 Vq) VT<|Zo VH st2<|Zc) Z2))))⟩
def D0:D:=(Zh (Zh (Zo Y4 VT<|Zo W8 V4<|Zo Y4 V9<|Za (U0 Ve .u64) Uf<|Za (Zv 56 [Vx]) Uw<|Za (Xm VY) Ux<|Za (Yg WU V7) UH<|Za (WN VH VO Vp true) Ta<|Zc) (ZK VQ Zc (X6 0))) (Z0 1 (Zo Y4 Tj<|Za (Yg UF (kI 1)) TO<|Zo UR Y9<|Zc)))
def c57:CF:=⟨[(VX,none)],(Zh (Za (Lt Yb 67) st1<|Za (ZF (kI 0)) st2<|Zc) (Zh (Zh (Za (Yr Wc 0) WX<|Za (ZJ YW) W9<|Za (WN XI (k (.str [])) PM false) Vw<|Zo XQ Vz<|ZB Wi false (Yr Wc 0) Um<|ZB Wi false (ZJ WG) XH<|ZB Wi false (Zv 81 [YY]) XM<|ZB Wi false (Pf Xt) XW<|Za (Yx Wi (kB true) Xr) XU<|Zc) (ZK Xf (Zh (Za (ZF (kI 0)) st2<|Zc) Z2) Zc)) (Zh (Za (Yr Wc 0) Wp<|Za (ZJ Xo) Wy<|Za (Xm Wb) Ws<|Za (Yr Wc 1) WL<|Za (ZJ Wh) WW<|Za (Xm Wo) Vj<|Za (Yg XF Wz) Vt<|Za (Yg W6 (kI 3)) VS<|Zo Vq Vl<|Zc) (Zh (Za (ZF (kI 0)) Y9<|Zc) (Zh (Z0 0 (X8 D0)) (Zh (Zo Y4 TP<|Zo UO st2<|Zc) Z2))))))⟩
def D2:D:=(Zh (Zh (Zo W8 Y9<|Zo Yb WX<|Za (Xm YW) W9<|Za (Yu Y4 XI XE YH) Vw<|Zc) (ZK XQ Zc (X6 0))) (Zh (Z0 1 (Zh (Zo Yb XH<|Zo W8 XM<|Za (Y7 YY Xt) XW<|Za (WN Xr (k (nI .u8 0)) Vp false) XU<|Zo Xf Wp<|ZB Xo false (ZF Yb) Wy<|ZB Xo false (ZF W8) Ws<|ZB Xo false (Y7 Wb XF) WL<|ZB Xo false (WN Wh (k (nI .u8 61)) Vp false) WW<|Za (Yx Xo (kB true) Wo) Vj<|Zo Wz Vt<|ZB W6 false (ZF Yb) VS<|ZB W6 false (ZF W8) VT<|ZB W6 false (Y7 Vq VH) V4<|ZB W6 false (WN WU (k (nI .u8 10)) Vp false) V9<|Za (Yx W6 (kB true) Ve) Uf<|Zc) (ZK Vx (Zh (Za (ZF (kB false)) st2<|Zc) Z2) Zc))) (Zo W8 Vz<|Za (Yg Wi (kI 1)) Um<|Zo WG Vl<|Zc)))
def c81:CF:=⟨[(VX,none)],(Zh (Za (ZF (kB false)) st2<|Zc) (Zh (Zh (Za (ZF (kI 0)) Vl<|Zc) (Z0 0 (X8 D2))) (Zh (Zo Yb Uw<|Za (Xm VY) Ux<|Za (Yu V7 (kI 255) S2 UE) UH<|Zo VO st2<|Zc) Z2)))⟩
def Fh:D:=(Zh (Zh (Zo XI V4<|Zo Y4 V9<|Za (Xs Ve) Uf<|Za (Vs Vx (kI 1)) Uw<|Za (Yu WU VY XE YH) Ux<|Zc) (ZK V7 Zc (X6 0))) (Zh (Z0 1 (Zh (Zo Y4 Tj<|Zo XI TO<|Za (XN UF UR 1) TP<|Za (ZJ UO) TU<|Za (Zv 66 [UW]) SB<|Za (Pf Tt) SJ<|Zc) (ZK TR (Zh (Za (ZF (kI 0)) st2<|Za (ZF (k (.str []))) Vl<|Zc) Z2) Zc))) (Zo XI UH<|Za (Yg VO (kI 1)) Ta<|Zo VQ W9<|Zc)))
def c35:CF:=⟨[(VX,none),(W8,none)],(Zh (Za (ZF (kI 0)) st2<|Za (ZF (k (.str []))) Vl<|Zc) (Zh (Zh (Zo Yb XH<|Za (WN YY (k (.str [46,119,104,46,46,119,104,46,116,111,99])) PM false) XM<|Zc) (ZK Xt (Zh (Za (ZF (kI 4)) st2<|Za (ZF (k (.str []))) Vl<|Zc) Z2) Zc)) (Zh (Zo Yb XW<|Za (Zv 65 [Xr]) XU<|Zo Xf Y9<|Zc) (Zh (Zh (Zo Y4 Wp<|Za (Xs Xo) Wy<|Za (WN Wb (kI 0) Vp false) Ws<|Zc) (ZK XF (Zh (Za (ZF (kI 0)) st2<|Za (ZF (k (.str []))) Vl<|Zc) Z2) Zc)) (Zh (Zo Y4 WL<|Zo Y4 WW<|Za (Xs Wo) Vj<|Za (Vs Wz (kI 1)) Vt<|Za (XN Wh W6 1) VS<|Za (ZJ Vq) VT<|Zo VH WX<|Zc) (Zh (Zh (Za (ZF (kI 0)) W9<|Zc) (Z0 0 (X8 Fh))) (Zh (Zo Y4 Ri<|Zo Y4 Rj<|Za (Xs TS) Rk<|Za (Vs T7 (kI 1)) RG<|Za (Ph 1 RP none (some RQ) none) Qw<|Za (Zv 67 [Ru]) Qx<|Zo Qq Vw<|Zc) (Zh (Za (ZF (kI 0)) Vz<|Zc) (Zh (Za (ZF (k (.str []))) Um<|Zc) (Zh (Zh (Zo YW Pr<|Za (Zv 66 [Rv]) Qf<|Zc) (ZK RX (Zh (Za (ZF (kI 1)) Vz<|Zc) (Zo Yb PA<|Zo Rw Um<|Zc)) (Zh (Zo YW PZ<|Za (WN Rx (k (.str [46,119,104,46,46,119,104,46,46,111,112,113])) PM false) P0<|Zc) (ZK Q5 (Zh (Za (ZF (kI 3)) Vz<|Zc) (Zo XQ P1<|Zo RY Um<|Zc)) (Zh (Zo YW Ov<|Za (Zv 68 [OF,(k (.str [46,119,104,46]))]) OP<|Zo OG O8<|ZB Og true (ZF YW) NG<|ZB Og true (WI RR (some (kI 4)) none none) NH<|ZB Og true (Zv 66 [Pw]) NI<|Za (Yx Og NR (kB false)) NJ<|Zc) (ZK Oh (Zh (Za (ZF (kI 2)) Vz<|Zc) (Zo XQ NW<|Zo YW NX<|Za (WI NS (some (kI 4)) none none) NY<|Za (Wt 9 1 2 (List.replicate 2 [(.str [])]).flatten [⟨0,1,Mm⟩,⟨1,1,NT⟩]) Mt<|Za (Zv 67 [Oi]) Mu<|Zo Np Um<|Zc)) Zc)))))) (Zh (Zh (Zo Wi N0<|Za (WN OH (kI 0) Vp false) Mv<|Zo Nq Mw<|ZB O0 false (ZF WG) Mx<|ZB O0 false (Zv 69 [Nr]) M1<|ZB O0 false (Pf Ns) M2<|Za (Yx O0 (kB true) Q6) M3<|Zc) (ZK RZ (Zh (Za (ZF (kI 0)) st2<|Za (ZF (k (.str []))) Vl<|Zc) Z2) Zc)) (Zh (Zo Wi M4<|Zo WG LZ<|Zo NU st2<|Zo LS Vl<|Zc) Z2))))))))))))⟩
def Iw:D:=(Zh (Zh (Zo YW Um<|Zo Yb XH<|Za (Xm YY) XM<|Za (Yu WG Xt S2 UE) XW<|Zc) (ZK Xr Zc (X6 0))) (Zh (Z0 1 (Zh (Zo YW Wy<|Zo Yb Ws<|Za (Xm XF) WL<|Za (WN Wb Wh Vp false) WW<|Zo Wo Vj<|ZB Wz false (ZF Yb) Vt<|ZB Wz false (ZF YW) VS<|ZB Wz false (Y7 W6 Vq) VT<|ZB Wz false (WN VH (k (nI .u8 47)) Vp false) V4<|Za (Yx Wz (kB true) WU) V9<|Zc) (ZK Ve (Zh (Zo W8 Uf<|Zo Yb Uw<|Zo Y4 Ux<|Zo YW UH<|Za (WI VY (some V7) (some VO) none) Ta<|Za (Wt 9 1 1 [(.str [])] [⟨0,1,VQ⟩]) Tj<|Za (X1 Vx UF 9 1 16) TO<|Zo UR Vl<|Zc) (Zo YW TP<|Za (Yg UO (kI 1)) TU<|Zo UW Y9<|Zc)) Zc))) (Zo YW XU<|Za (Yg Xf (kI 1)) Wp<|Zo Xo WX<|Zc)))
def c65:CF:=⟨[(VX,none)],(Zh (Za (ZF (k .nils)) st2<|Zc) (Zh (Za (ZF (k .nils)) Vl<|Zc) (Zh (Zh (Zo Yb W9<|Za (WN XI (k (.str [])) PM false) Vw<|Zc) (ZK XQ (Zh (Zo W8 Vz<|Zo Wi st2<|Zc) Z2) Zc)) (Zh (Za (ZF (kI 0)) Y9<|Zc) (Zh (Zh (Za (ZF (kI 0)) WX<|Zc) (Z0 0 (X8 Iw))) (Zh (Zo W8 SB<|Zo Tt st2<|Zc) Z2))))))⟩
def c66:CF:=⟨[(VX,none)],(Zh (Za (ZF (kB false)) st2<|Zc) (Zh (Zo Yb Vl<|Za (Zv 89 [W8]) Y9<|Zo Y4 WX<|ZB YW true (ZF Yb) W9<|ZB YW true (Xm XI) Vw<|ZB YW true (Yu XQ (kI 251) S2 UE) Vz<|Za (Yx YW Wi (kB false)) Um<|Zo WG XH<|ZB YY true (ZF Yb) XM<|ZB YY true (Zv 68 [Xt,(k (.str [46,119,104,46]))]) XW<|ZB YY true (Pf Xr) XU<|Za (Yx YY Xf (kB false)) Wp<|Zo Xo st2<|Zc) Z2))⟩
def Iz:D:=(Zh (Zh (Zo W8 Y9<|Zo Yb WX<|Za (Xm YW) W9<|Za (Yu Y4 XI XE YH) Vw<|Zc) (ZK XQ Zc (X6 0))) (Zh (Z0 1 (Zh (Zo Yb XH<|Zo W8 XM<|Za (Y7 YY Xt) XW<|Za (WN Xr (k (nI .u8 0)) Vp false) XU<|Zo Xf Wp<|ZB Xo false (ZF Yb) Wy<|ZB Xo false (ZF W8) Ws<|ZB Xo false (Y7 Wb XF) WL<|ZB Xo false (WN Wh (k (nI .u8 47)) Vp false) WW<|Za (Yx Xo (kB true) Wo) Vj<|Zc) (ZK Wz (Zh (Za (ZF (kB false)) st2<|Zc) Z2) Zc))) (Zo W8 Vz<|Za (Yg Wi (kI 1)) Um<|Zo WG Vl<|Zc)))
def c89:CF:=⟨[(VX,none)],(Zh (Za (ZF (kB false)) st2<|Zc) (Zh (Zh (Za (ZF (kI 0)) Vl<|Zc) (Z0 0 (X8 Iz))) (Zh (Zo Yb Vt<|Za (Xm W6) VS<|Za (Yu Vq (kI 1) Sc W5) VT<|Zo VH V4<|ZB WU true (ZF Yb) V9<|ZB WU true (Xm Ve) Uf<|ZB WU true (Yu Vx (kI 255) S2 UE) Uw<|Za (Yx WU VY (kB false)) Ux<|Zo V7 UH<|ZB VO true (ZF Yb) Ta<|ZB VO true (WN VQ (k (.str [46])) PM true) Tj<|Za (Yx VO UF (kB false)) TO<|Zo UR TP<|ZB UO true (ZF Yb) TU<|ZB UO true (WN UW (k (.str [46,46])) PM true) SB<|Za (Yx UO Tt (kB false)) SJ<|Zo TR st2<|Zc) Z2)))⟩
def Ix:D:=(Zh (Zh (Zo Y4 WX<|Zo Yb W9<|Za (Xs XI) Vw<|Za (Yu YW XQ XE YH) Vz<|Zc) (ZK Wi Zc (X6 0))) (Zh (Z0 1 (Zh (Zh (Zo Yb XM<|Zo Y4 XW<|Za (XN Xt Xr 1) XU<|Za (ZJ Xf) Wp<|Za (WN Xo (k (.str [])) PM false) Wy<|Zc) (ZK Wb (X6 1) Zc)) (Zh (Zh (Zo W8 Ws<|Za (WN XF (k (.str [])) PM true) WL<|Zc) (ZK Wh (Zo W8 WW<|Za (Yg Wo (k (.str [47]))) Vj<|Zo Wz Vl<|Zc) Zc)) (Zo W8 Vt<|Zo Yb VS<|Zo Y4 VT<|Za (XN Vq VH 1) V4<|Za (ZJ WU) V9<|Za (Yg W6 Ve) Uf<|Zo Vx Vl<|Zc)))) (Zo Y4 Um<|Za (Yg WG (kI 1)) XH<|Zo YY Y9<|Zc)))
def c67:CF:=⟨[(VX,none)],(Zh (Za (ZF (k (.str []))) st2<|Zc) (Zh (Za (ZF (k (.str []))) Vl<|Zc) (Zh (Zh (Za (ZF (kI 0)) Y9<|Zc) (Z0 0 (X8 Ix))) (Zh (Zo W8 Uw<|Zo VY st2<|Zc) Z2))))⟩
def c68:CF:=⟨[(Y4,none)],(Zh (Za (ZF (kB false)) Y9<|Zc) (Zh (Zo Yb WX<|Za (Xm YW) W9<|Zo Wc Vw<|Za (Xm XQ) Vz<|Za (Yu XI Wi Sc W5) Um<|Zo WG XH<|ZB YY true (ZF Yb) XM<|ZB YY true (ZF Wc) XW<|ZB YY true (Xm Xr) XU<|ZB YY true (WI Xt none (some Xf) none) Wp<|ZB YY true (ZF Wc) Wy<|ZB YY true (WN Xo Wb PM false) Ws<|Za (Yx YY XF (kB false)) WL<|Zo Wh Y9<|Zc) Z2))⟩
def Fl:D:=(Zh (Zh (Zo Y4 Vw<|Zo W8 Vz<|Za (Xs Wi) Um<|Za (Yu XQ WG XE YH) XH<|Zc) (ZK YY Zc (X6 0))) (Zh (Z0 1 (Zh (Zo W8 XU<|Zo Y4 Wp<|Za (XN Xf Xo 1) Wy<|Za (ZJ Wb) Ws<|Za (Zv 66 [XF]) WL<|Za (Pf Wh) WW<|Zc) (ZK Wo (Zh (Za (ZF (kB false)) st2<|Zc) Z2) Zc))) (Zo Y4 XM<|Za (Yg Xt (kI 1)) XW<|Zo Xr Y9<|Zc)))
def c69:CF:=⟨[(VX,none)],(Zh (Za (ZF (kB false)) st2<|Zc) (Zh (Zo Yb WX<|Za (Zv 65 [YW]) W9<|Zo XI Vl<|Zc) (Zh (Zh (Za (ZF (kI 0)) Y9<|Zc) (Z0 0 (X8 Fl))) (Zh (Zo W8 Vj<|Za (Xs Wz) Vt<|Za (Yu W6 (kI 254) S2 UE) VS<|Zo Vq VT<|ZB VH true (ZF Yb) V4<|ZB VH true (Xm WU) V9<|ZB VH true (Yu Ve (kI 4080) S2 UE) Uf<|Za (Yx VH Vx (kB false)) Uw<|Zo VY st2<|Zc) Z2))))⟩
end
def Sw:Nat->Nat
 |9=>12
 |10=>6
 |11=>2
 |12=>1
 |13=>1
 |17=>13
 |27=>1
 |29=>2
 |32=>11
 |33=>6
 |34=>3
 |35=>5
 |36=>1
 |37=>1
 |38=>1
 |42=>4
 |46=>7
 |47=>6
 |56=>1
 |57=>2
 |58=>3
 |59=>3
 |60=>3
 |61=>10
 |62=>6
 |63=>5
 |64=>2
 |66=>2
 |67=>3
 |68=>1
 |69=>4
 |70=>2
 |71=>4
 |77=>4
 |81=>1
 |82=>2
 |83=>2
 |86=>7
 |87=>4
 |88=>1
 |89=>1
 |90=>1
 |91=>3
 |94=>3
 |101=>1
 |102=>1
 |105=>3
 |106=>1
 |107=>1
 |108=>1
 |110=>1
 |111=>2
 |114=>2
 |120=>1
 |123=>1
 |124=>1
 |125=>1
 |131=>1
 |156=>1
 |157=>1
 |158=>4
 |_=>0
def Qe:Lib:=λ_ _ _=>none
abbrev LK(Zn:Lib)(fs:T CF)(fuel k:Nat):Lib:=FC Zn fs fuel Sw Qe k
structure Env(Zn:Lib)(fs:T CF)(fuel:Nat):Prop where
 big:100000<=fuel
 f3:fs.get 3=some c3
 n3: ∀l H,Zn 3 l H=none
 f4:fs.get 4=some c4
 n4: ∀l H,Zn 4 l H=none
 f5:fs.get 5=some c5
 n5: ∀l H,Zn 5 l H=none
 f6:fs.get 6=some c6
 n6: ∀l H,Zn 6 l H=none
 f7:fs.get 7=some c7
 n7: ∀l H,Zn 7 l H=none
 f8:fs.get 8=some c8
 n8: ∀l H,Zn 8 l H=none
 f9:fs.get 9=some c9
 n9: ∀l H,Zn 9 l H=none
 f10:fs.get 10=some c10
 n10: ∀l H,Zn 10 l H=none
 f11:fs.get 11=some c11
 n11: ∀l H,Zn 11 l H=none
 f12:fs.get 12=some c12
 n12: ∀l H,Zn 12 l H=none
 f13:fs.get 13=some c13
 n13: ∀l H,Zn 13 l H=none
 f14:fs.get 14=some c14
 n14: ∀l H,Zn 14 l H=none
 f16:fs.get 16=some c16
 n16: ∀l H,Zn 16 l H=none
 f17:fs.get 17=some c17
 n17: ∀l H,Zn 17 l H=none
 f18:fs.get 18=some c18
 n18: ∀l H,Zn 18 l H=none
 f19:fs.get 19=some c19
 n19: ∀l H,Zn 19 l H=none
 f20:fs.get 20=some c20
 n20: ∀l H,Zn 20 l H=none
 f21:fs.get 21=some c21
 n21: ∀l H,Zn 21 l H=none
 f22:fs.get 22=some c22
 n22: ∀l H,Zn 22 l H=none
 f23:fs.get 23=some c23
 n23: ∀l H,Zn 23 l H=none
 f24:fs.get 24=some c24
 n24: ∀l H,Zn 24 l H=none
 f25:fs.get 25=some c25
 n25: ∀l H,Zn 25 l H=none
 f26:fs.get 26=some c26
 n26: ∀l H,Zn 26 l H=none
 f27:fs.get 27=some c27
 n27: ∀l H,Zn 27 l H=none
 f28:fs.get 28=some c28
 n28: ∀l H,Zn 28 l H=none
 f29:fs.get 29=some c29
 n29: ∀l H,Zn 29 l H=none
 f30:fs.get 30=some c30
 n30: ∀l H,Zn 30 l H=none
 f31:fs.get 31=some c31
 n31: ∀l H,Zn 31 l H=none
 f32:fs.get 32=some c32
 n32: ∀l H,Zn 32 l H=none
 f33:fs.get 33=some c33
 n33: ∀l H,Zn 33 l H=none
 f34:fs.get 34=some c34
 n34: ∀l H,Zn 34 l H=none
 f35:fs.get 35=some c35
 n35: ∀l H,Zn 35 l H=none
 f36:fs.get 36=some c36
 n36: ∀l H,Zn 36 l H=none
 f37:fs.get 37=some c37
 n37: ∀l H,Zn 37 l H=none
 f38:fs.get 38=some c38
 n38: ∀l H,Zn 38 l H=none
 f40:fs.get 40=some c40
 n40: ∀l H,Zn 40 l H=none
 f41:fs.get 41=some c41
 n41: ∀l H,Zn 41 l H=none
 f42:fs.get 42=some c42
 n42: ∀l H,Zn 42 l H=none
 f43:fs.get 43=some c43
 n43: ∀l H,Zn 43 l H=none
 f44:fs.get 44=some c44
 n44: ∀l H,Zn 44 l H=none
 f45:fs.get 45=some c45
 n45: ∀l H,Zn 45 l H=none
 f46:fs.get 46=some c46
 n46: ∀l H,Zn 46 l H=none
 f47:fs.get 47=some c47
 n47: ∀l H,Zn 47 l H=none
 f48:fs.get 48=some c48
 n48: ∀l H,Zn 48 l H=none
 f49:fs.get 49=some c49
 n49: ∀l H,Zn 49 l H=none
 f50:fs.get 50=some c50
 n50: ∀l H,Zn 50 l H=none
 f51:fs.get 51=some c51
 n51: ∀l H,Zn 51 l H=none
 f52:fs.get 52=some c52
 n52: ∀l H,Zn 52 l H=none
 f53:fs.get 53=some c53
 n53: ∀l H,Zn 53 l H=none
 f54:fs.get 54=some c54
 n54: ∀l H,Zn 54 l H=none
 f55:fs.get 55=some c55
 n55: ∀l H,Zn 55 l H=none
 f56:fs.get 56=some c56
 n56: ∀l H,Zn 56 l H=none
 f57:fs.get 57=some c57
 n57: ∀l H,Zn 57 l H=none
 f58:fs.get 58=some c58
 n58: ∀l H,Zn 58 l H=none
 f59:fs.get 59=some c59
 n59: ∀l H,Zn 59 l H=none
 f60:fs.get 60=some c60
 n60: ∀l H,Zn 60 l H=none
 f61:fs.get 61=some c61
 n61: ∀l H,Zn 61 l H=none
 f62:fs.get 62=some c62
 n62: ∀l H,Zn 62 l H=none
 f63:fs.get 63=some c63
 n63: ∀l H,Zn 63 l H=none
 f64:fs.get 64=some c64
 n64: ∀l H,Zn 64 l H=none
 f65:fs.get 65=some c65
 n65: ∀l H,Zn 65 l H=none
 f66:fs.get 66=some c66
 n66: ∀l H,Zn 66 l H=none
 f67:fs.get 67=some c67
 n67: ∀l H,Zn 67 l H=none
 f68:fs.get 68=some c68
 n68: ∀l H,Zn 68 l H=none
 f69:fs.get 69=some c69
 n69: ∀l H,Zn 69 l H=none
 f70:fs.get 70=some c70
 n70: ∀l H,Zn 70 l H=none
 f71:fs.get 71=some c71
 n71: ∀l H,Zn 71 l H=none
 f72:fs.get 72=some c72
 n72: ∀l H,Zn 72 l H=none
 f73:fs.get 73=some c73
 n73: ∀l H,Zn 73 l H=none
 f74:fs.get 74=some c74
 n74: ∀l H,Zn 74 l H=none
 f75:fs.get 75=some c75
 n75: ∀l H,Zn 75 l H=none
 f76:fs.get 76=some c76
 n76: ∀l H,Zn 76 l H=none
 f77:fs.get 77=some c77
 n77: ∀l H,Zn 77 l H=none
 f78:fs.get 78=some c78
 n78: ∀l H,Zn 78 l H=none
 f80:fs.get 80=some c80
 n80: ∀l H,Zn 80 l H=none
 f81:fs.get 81=some c81
 n81: ∀l H,Zn 81 l H=none
 f82:fs.get 82=some c82
 n82: ∀l H,Zn 82 l H=none
 f83:fs.get 83=some c83
 n83: ∀l H,Zn 83 l H=none
 f84:fs.get 84=some c84
 n84: ∀l H,Zn 84 l H=none
 f85:fs.get 85=some c85
 n85: ∀l H,Zn 85 l H=none
 f86:fs.get 86=some c86
 n86: ∀l H,Zn 86 l H=none
 f87:fs.get 87=some c87
 n87: ∀l H,Zn 87 l H=none
 f88:fs.get 88=some c88
 n88: ∀l H,Zn 88 l H=none
 f89:fs.get 89=some c89
 n89: ∀l H,Zn 89 l H=none
 f90:fs.get 90=some c90
 n90: ∀l H,Zn 90 l H=none
 f91:fs.get 91=some c91
 n91: ∀l H,Zn 91 l H=none
 f92:fs.get 92=some c92
 n92: ∀l H,Zn 92 l H=none
 f93:fs.get 93=some c93
 n93: ∀l H,Zn 93 l H=none
 f94:fs.get 94=some c94
 n94: ∀l H,Zn 94 l H=none
 f101:fs.get 101=some aT
 n101: ∀l H,Zn 101 l H=none
 f102:fs.get 102=some aU
 n102: ∀l H,Zn 102 l H=none
 f103:fs.get 103=some Zep
 n103: ∀l H,Zn 103 l H=none
 f104:fs.get 104=some Zeq
 n104: ∀l H,Zn 104 l H=none
 f105:fs.get 105=some tY
 n105: ∀l H,Zn 105 l H=none
 f106:fs.get 106=some Zer
 n106: ∀l H,Zn 106 l H=none
 f107:fs.get 107=some Zes
 n107: ∀l H,Zn 107 l H=none
 f108:fs.get 108=some Zet
 n108: ∀l H,Zn 108 l H=none
 f110:fs.get 110=some aY
 n110: ∀l H,Zn 110 l H=none
 f111:fs.get 111=some ny
 n111: ∀l H,Zn 111 l H=none
 f112:fs.get 112=some DM
 n112: ∀l H,Zn 112 l H=none
 f113:fs.get 113=some Zeu
 n113: ∀l H,Zn 113 l H=none
 f114:fs.get 114=some nz
 n114: ∀l H,Zn 114 l H=none
 f119:fs.get 119=some Zev
 n119: ∀l H,Zn 119 l H=none
 f120:fs.get 120=some jU
 n120: ∀l H,Zn 120 l H=none
 f123:fs.get 123=some Zew
 n123: ∀l H,Zn 123 l H=none
 f124:fs.get 124=some Af
 n124: ∀l H,Zn 124 l H=none
 f125:fs.get 125=some Zaa
 n125: ∀l H,Zn 125 l H=none
 f126:fs.get 126=some Zex
 n126: ∀l H,Zn 126 l H=none
 f127:fs.get 127=some Zey
 n127: ∀l H,Zn 127 l H=none
 f131:fs.get 131=some Zez
 n131: ∀l H,Zn 131 l H=none
 f133:fs.get 133=some ZeA
 n133: ∀l H,Zn 133 l H=none
 f156:fs.get 156=some ZeB
 n156: ∀l H,Zn 156 l H=none
 f157:fs.get 157=some ZeC
 n157: ∀l H,Zn 157 l H=none
 f158:fs.get 158=some ZeD
 n158: ∀l H,Zn 158 l H=none
 ix: ∀(s:List UInt8) (x:Nat) (H:Heap),x<256->Zn 109 [.str s,nI .u8 x] H=some (.ret (.int .i64 (Q8 x s 0)) H)
 cn: ∀(s:List UInt8) (x:Nat) (H:Heap),x<256->Zn 137 [.str s,nI .u8 x] H=some (.ret (nI .i64 (Xy x s 0)) H)
 rz: ∀(x:Nat) (H:Heap),100<=H.nx->x<=20->Zn 79 [.str [48],nI .i64 x] H=some (.ret (.str (List.replicate x 48)) H)
 mz: ∀(x:Nat) (H:Heap),x<=281474976710656->Zn 100 [nI .i64 x] H=some (.ret (.slice H.nx 0 x none) (H.new (.row ⟨5,1,x,.leaf,.unk,0,false,true,false⟩)))
 ml: ∀(H:Heap),100<=H.nx->Zn 95 [nI .u64 1,nI .u64 8] H=some (.ret (.tup [nI .u64 0,nI .u64 8]) H)
def oE:List UInt64:=[1,10,100,1000,10000,100000,1000000,10000000,100000000,1000000000,10000000000,100000000000,1000000000000,10000000000000,100000000000000,1000000000000000,10000000000000000,100000000000000000,1000000000000000000,10000000000000000000]
def Pv(H:Heap):Prop:=100<=H.nx∧(∃r,H.t.get 4=some (.row r)∧Cells r (oE.map ZcI))∧ ∃r,H.t.get 6=some (.row r)∧7<r.size∧r.get 7=nI .u8 3
theorem Pv.keep{H H':Heap}(g:Pv H){S:List Nat}(k:Zs H H' S)(hS: ∀x∈S,100<=x):Pv H':=by
 obtain⟨h,⟨r,h1,h2⟩,e,h3,h4,h5⟩:=g
 exact⟨Z5 h k.nx,⟨r,by rw[k.get _ (by omega) (λh=>by have:=hS _ h;omega)];exact h1,h2⟩,e,by rw[k.get _ (by omega) (λh=>by have:=hS _ h;omega)];exact h3,h4,h5⟩
theorem Pv.put{H:Heap}(g:Pv H){b:Nat}(hb:100<=b)(o:Obj):Pv (H.put b o):=g.keep (S:=[b]) (Zs.put λ_=>by simp) (by simp;exact hb)
theorem Pv.new{H:Heap}(g:Pv H)(o:Obj):Pv (H.new o):=g.keep (S:=[]) (Zs.new H o _) (by simp)
theorem flat_len{sz:Nat}: ∀{ls:List (List AV)},(∀l∈ls,l.length=sz)->ls.flatten.length=ls.length*sz
 |[],_=>by simp
 |l::ls,h=>by
  rw[XY,Zj,flat_len (λx hx=>h x (Zz _ hx)),h l (Zt ..),ZS,WC]
  omega
theorem flat_at{sz:Nat}: ∀{ls:List (List AV)} {i:Nat},(∀l∈ls,l.length=sz)->i<ls.length->(ls.flatten.drop (i*sz)).take sz=ls.getD i []
 |l::ls,0,h,_=>by
  rw[Vh,Yk,XY,List.take_append_of_le_length (by rw[h l (Zt ..)];exact Zp _),Z9 (by rw[h l (Zt ..)];exact Zp _)]
  rfl
 |l::ls,i+1,h,hi=>by
  have hl:=h l (Zt ..)
  have e:(i+1)*sz=l.length+i*sz:=by rw[hl,WC];omega
  rw[XY,e,<-SW,List.drop_left]
  have:=flat_at (i:=i) (λx hx=>h x (Zz _ hx)) (by simpa using hi)
  rw[this];rfl
structure Ac(H:Heap)(b e sz:Nat)(ls:List (List AV))(r:Row):Prop where
 at_:H.t.get b=some (.row r)
 elem:r.elem=e
 szr:r.sz=sz
 own:r.own=true
 fz:r.fz=0
 sm:r.sm=false
 exact_:r.exact=false
 cells:Cells r ls.flatten
 each: ∀l∈ls,l.length=sz
 ro:H.ro<=b
 low:b<H.nx
theorem Ac.size{H:Heap}{b e sz:Nat}{ls:List (List AV)}{r:Row}(h:Ac H b e sz ls r):r.size=ls.length*sz:=by rw[h.cells.size,flat_len h.each]
theorem Ac.moved{H H':Heap}{b e sz:Nat}{ls:List (List AV)}{r:Row}(h:Ac H b e sz ls r)(g:H'.t.get b=H.t.get b)(hro:H'.ro=H.ro)(hnx:H.nx<=H'.nx):Ac H' b e sz ls r:=
 ⟨g.trans h.at_,h.elem,h.szr,h.own,h.fz,h.sm,h.exact_,h.cells,h.each,by rw[hro];exact h.ro,ZT h.low hnx⟩
theorem Ac.load{H H':Heap}{b e sz:Nat}{ls:List (List AV)}{r:Row}(h:Ac H b e sz ls r)(ht:H'.t=H.t){i:Nat}(hi:i<ls.length):zx sz (.ptr b (i*sz)) H'=.val (.agg (ls.getD i [])) H':=by
 have hf:=flat_len h.each
 have hm:(i+1)*sz<=ls.length*sz:=VD _ hi
 rw[WC,Qz] at hm
 rw[lj (r:=r) (by rw[ht];exact h.at_) h.cells (by omega),flat_at h.each hi]
theorem mL{n i sz:Nat}(h:i<n)(b o:Nat)(c:Option Nat)(k:IntKind)(H:Heap):Gd sz (.slice b o n c) (nI k i) H=.val (.ptr b (o+i*sz)) H:=by
 show ZP (Nat.ble (Nat.succ i) n) (OR.val (.ptr b (Nat.add o (Nat.mul i sz))) H)=_
 rw[Zk (show Nat.succ i<=n from h)];rfl
def RM(H:Heap)(v:AV)(e sz:Nat)(ls:List (List AV))(lo:Nat):Prop:=(ls=[]∧v=.nils)∨(ls≠[]∧ ∃b r,v=.slice b 0 ls.length none∧Ac H b e sz ls r∧lo<=b)
theorem kO{H:Heap}{v:AV}{e sz bytes:Nat}{ls:List (List AV)}{lo:Nat}(h:RM H v e sz ls lo)(hsz:1<=sz)(hby:1<=bytes)(hl:(ls.length+1)*bytes<=140737488355328)(hro:H.ro<=H.nx)(hlo:lo<=H.nx){x:List AV}(hx:x.length=sz):
  ∃v' H',UT e sz bytes v (.slice H.nx 0 1 none) (H.newRow e sz x true)=.val v' H'∧RM H' v' e sz (ls++[x]) lo∧Below lo H H':=by
 generalize hH1:H.newRow e sz x true=H1
 have IY:H1.nx=H.nx+1:=by rw[<-hH1];rfl
 have k1:Zs H H1 []:=by rw[<-hH1];exact Zs.new H _ []
 have b1:Below lo H H1:=by rw[<-hH1];exact Below.new lo H _
 have gx:H1.t.get H.nx=some (.row ⟨e,sz,YK x,T.ofList x,.unk,0,false,true,true⟩):=by rw[<-hH1,FN,Md,if_pos rfl]
 have cx:=Cells.new e sz x 0 false true true
 have src: ∀k:Nat->List AV->OR,(xh (.slice H.nx 0 1 none) λn=>Vm H1 sz (.slice H.nx 0 1 none) n λnew=>k n new)=k 1 x:=by
  intro k
  show(Vm H1 sz (.slice H.nx 0 1 none) 1 λnew=>k 1 new)=_
  generalize(⟨e,sz,YK x,T.ofList x,.unk,0,false,true,true⟩:Row)=r0 at gx cx
  unfold Vm Xg
  simp only[gx]
  show ZP (Nat.ble (0+1*sz) r0.size) (k 1 (Vf r0 0 (1*sz)))=_
  rw[Qz,cx.size,hx,Zk (show 0+sz<=sz by omega)]
  have:=cx.load (o:=0) (n:=sz) (by omega)
  rw[this,Yk,Z9 (by omega)]
  rfl
 have ap: ∀a,UT e sz bytes a (.slice H.nx 0 1 none) H1=Oz a e sz bytes H1 1 x:=by
  intro a
  show ZP (Nat.ble 1 sz) (ZP (Nat.ble 1 bytes) _)=_
  rw[Zk hsz,Zk hby]
  exact src λn new=>Oz a e sz bytes H1 n new
 rw[ap]
 rcases h with⟨rfl,rfl⟩|⟨hne,b,r,rfl,g,hb⟩
 ·refine⟨.slice H1.nx 0 1 none,H1.newRow e sz x false,?_,.inr ⟨by simp,H1.nx,_,rfl,⟨by rw[FN,Md,if_pos rfl],rfl,rfl,rfl,rfl,rfl,rfl,by simpa using Cells.new e sz x 0 false true false,λl hm=>by simp at hm;rw[hm];exact hx,by show H1.ro<=H1.nx;rw[k1.ro];omega,YM _⟩,by omega⟩,b1.trans (Below.new lo H1 _)⟩
  show ZP (Nat.ble (1*bytes) 140737488355328) (OR.val (.slice H1.nx 0 1 none) (H1.newRow e sz x false))=_
  rw[Zk (by simpa using hl)];rfl
 ·have g1:Ac H1 b e sz ls r:=g.moved (k1.get b g.low (by simp)) k1.ro (by omega)
  have hs:=g1.size
  have hcap:Te r 0 none=ls.length:=by
   show cond (Nat.beq r.sz 1) (r.size - 0) ((r.size - 0)/r.sz)=_
   rw[g1.szr,hs,Nat.sub_zero]
   by_cases h1:sz=1
   ·subst h1;show ls.length*1=_;omega
   ·rw[Yy,Zb h1]
    exact Nat.mul_div_cancel _ (by omega)
  have OI:H1.may r b=true:=by unfold Heap.may;rw[g1.own,Zk g1.ro];rfl
  have hlen:(ls.length+1)*sz=ls.length*sz+sz:=by rw[WC];omega
  refine⟨.slice H1.nx 0 (ls++[x]).length none,⟨Nat.succ H1.nx,(H1.t.del b).set H1.nx (.row ⟨r.elem,sz,(ls.length+1)*sz,WY r.cells (ls.length*sz) x,r.dflt,r.fz,r.sm,true,false⟩),H1.ro⟩,?_,.inr ⟨by simp,H1.nx,⟨r.elem,sz,(ls.length+1)*sz,WY r.cells (ls.length*sz) x,r.dflt,r.fz,r.sm,true,false⟩,rfl,⟨by rw[T.get_set,if_pos rfl],g1.elem,rfl,rfl,g1.fz,g1.sm,rfl,?_,?_,Z5 g1.ro (N1 g1.low),YM _⟩,by omega⟩,b1.trans ⟨VL _,rfl,λc hc hn=>?_⟩⟩
  ·show Xg H1 b _=_
   unfold Xg
   simp only[g1.at_]
   have h1:GX r sz none=true:=by show Nat.beq r.sz sz=true;rw[g1.szr,Y0]
   have h2:Nat.ble (Nat.add ls.length 1) (Te r 0 none)=false:=by
    rw[hcap]
    cases h:Nat.ble (Nat.add ls.length 1) ls.length with
    |false=>rfl
    |true=>have:=ZR h;have:ls.length+1<=ls.length:=this;omega
   rw[h1,h2]
   show ZP (Nat.ble ((ls.length+1)*bytes) 140737488355328) (ZP (Nat.ble (0+ls.length*sz) r.size) (cond r.exact _ (G9 H1 e b 0 ls.length 1 sz r x)))=_
   rw[Zk hl,hs,Zd,Zk (Zp _),g1.exact_]
   show ZP (Nat.beq r.elem e) (ZP (H1.may r b) (ZP (Nat.ble r.fz (ls.length*sz)) (ZP (Nat.beq (ls.length*sz) r.size) (ZP (Nat.beq 0 0) _))))=_
   rw[g1.elem,Y0,OI,g1.fz,Zk (ZZ _),hs,Y0]
   show OR.val (.slice H1.nx 0 (ls.length+1) none) _=_
   rw[Zj]
   rfl
  ·have hf:=flat_len g1.each
   refine⟨by show(ls.length+1)*sz=_;rw[UP,Zj,hf];simp[hx];omega,λi hi=>?_⟩
   rw[UP,Zj,hf] at hi
   have e1:[x].flatten=x:=by simp
   rw[e1] at hi
   rw[Row.get_eq]
   show((WY r.cells (ls.length*sz) x).get i).getD r.dflt=_
   rw[Qy,Zf,UP,e1]
   by_cases h1:ls.length*sz<=i
   ·rw[if_pos ⟨h1,by omega⟩,Yi (by omega),hf,Zl (show i - ls.length*sz<x.length by omega)];rfl
   ·rw[if_neg (by omega),Yh (by omega)]
    have:=g1.cells.get i (by omega)
    rw[Row.get_eq,Zf] at this
    exact this
  ·intro l hm
   rcases Zr.1 hm with hm|hm
   ·exact g1.each l hm
   ·simp at hm;rw[hm];exact hx
  ·show((H1.t.del b).set H1.nx _).get c=_
   rw[T.get_set,if_neg (by omega),T.get_del,if_neg (by omega)]
theorem RM.below{H H':Heap}{v:AV}{e sz:Nat}{ls:List (List AV)}{lo:Nat}(h:RM H v e sz ls lo)(hp: ∀c,lo<=c->c<H.nx->H'.t.get c=H.t.get c)(hro:H'.ro=H.ro)(hnx:H.nx<=H'.nx):RM H' v e sz ls lo:=by
 rcases h with h|⟨hne,b,r,rfl,g,hb⟩
 ·exact .inl h
 ·exact .inr ⟨hne,b,r,rfl,g.moved (hp b hb g.low) hro hnx,hb⟩
theorem RM.len{H:Heap}{v:AV}{e sz:Nat}{ls:List (List AV)}{lo:Nat}(h:RM H v e sz ls lo)(G:Heap):NV v G=.val (nI .i64 ls.length) G:=by
 rcases h with⟨rfl,rfl⟩|⟨_,b,r,rfl,_⟩
 ·exact CO G
 ·exact Sr ..
theorem RM.low{H:Heap}{v:AV}{e sz:Nat}{ls:List (List AV)}{lo:Nat}(h:RM H v e sz ls lo){n:Nat}(hn:H.nx<=n):Wx n v=true:=by
 rcases h with⟨_,rfl⟩|⟨_,b,r,rfl,g,_⟩
 ·rfl
 ·exact WV (ZT g.low hn) _ _ _
theorem RM.same{H:Heap}{v:AV}{e sz:Nat}{ls:List (List AV)}{lo:Nat}(h:RM H v e sz ls lo)(n:Nat)(t:T Obj):Ud (.val v ⟨n,t,n⟩) v n=true:=by
 rcases h with⟨_,rfl⟩|⟨_,b,r,rfl,_⟩
 ·exact QE n t
 ·exact TD _ _ _ _ _ _
theorem Zan(a b:List UInt8):PM (.str a) (.str b)=some (decide (a=b)):=by
 show some (NK a b)=_
 rw[SL]
 congr 1
 by_cases h:a=b<;>simp[h]
def Seen(es:List SR)(ks:List (List UInt8)):Prop:=es.map (λe=>(e.key,e.val))=ks.map λk=>(AV.str k,nI .i64 1)
theorem Seen.nil:Seen [] []:=rfl
theorem Seen.push{es:List SR}{ks:List (List UInt8)}(h:Seen es ks)(k:List UInt8)(c:Nat):Seen (es++[⟨.str k,nI .i64 1,c⟩]) (ks++[k]):=by
 unfold Seen at*
 rw[Xv,Xv,h];rfl
def ZdH(eq:AV->AV->Option Bool)(zv:AV)(ok:Bool)(m k:AV)(H:Heap):OR:=Bj m (JP ok H zv false) λb=>J3 H b λo=>tN o λes=>Ug eq k (JP ok H zv false) (λv=>JP ok H v true) es
theorem Xx(eq:AV->AV->Option Bool)(zv:AV)(ok:Bool)(m k:Z1)(tm:TM)(H:Heap):Jg eq zv ok m k tm H=ZdH eq zv ok (m tm) (k tm) H:=rfl
def lkO(eq:AV->AV->Option Bool)(zv:AV)(ok:Bool)(x:Option Obj)(k:AV)(H:Heap):OR:=match x with|some o=>tN o λes=>Ug eq k (JP ok H zv false) (λv=>JP ok H v true) es|none=>.fail
theorem Wq(eq:AV->AV->Option Bool)(zv:AV)(ok:Bool)(b:Nat)(k:AV)(H:Heap):ZdH eq zv ok (.map b) k H=lkO eq zv ok (H.t.get b) k H:=rfl
structure Sl(H:Heap)(sz:Nat)(v:AV)(ls:List (List AV)):Prop where
 each: ∀l∈ls,l.length=sz
 here:(ls=[]∧v=.nils)∨ ∃b o c,v=.slice b o ls.length c∧b<H.nx∧(ls≠[]-> ∃r,H.t.get b=some (.row r)∧o+ls.length*sz<=r.size∧ ∀i,i<ls.length*sz->r.get (o+i)=ls.flatten.getD i .unk)
theorem Sl.nil(H:Heap)(sz:Nat):Sl H sz .nils []:=⟨λ_ h=>(by cases h),.inl ⟨rfl,rfl⟩⟩
theorem Sl.keep{H H':Heap}{sz:Nat}{v:AV}{ls:List (List AV)}{S:List Nat}(h:Sl H sz v ls)(k:Zs H H' S)(hS: ∀b o n c,v=.slice b o n c->b∉S):Sl H' sz v ls:=by
 refine⟨h.each,?_⟩
 rcases h.here with h1|⟨b,o,c,rfl,hb,h2⟩
 ·exact .inl h1
 ·refine .inr ⟨b,o,c,rfl,ZT hb k.nx,λhne=>?_⟩
  obtain⟨r,h3,h4⟩:=h2 hne
  exact⟨r,by rw[k.get b hb (hS _ _ _ _ rfl)];exact h3,h4⟩
theorem Sl.keep0{H H':Heap}{sz:Nat}{v:AV}{ls:List (List AV)}(h:Sl H sz v ls)(k:Zs H H' []):Sl H' sz v ls:=h.keep k (by simp)
theorem Sl.len{H:Heap}{sz:Nat}{v:AV}{ls:List (List AV)}(h:Sl H sz v ls)(G:Heap):NV v G=.val (nI .i64 ls.length) G:=by
 rcases h.here with⟨rfl,rfl⟩|⟨b,o,c,rfl,_⟩
 ·rfl
 ·exact Sr ..
theorem Sl.low{H:Heap}{sz:Nat}{v:AV}{ls:List (List AV)}(h:Sl H sz v ls){n:Nat}(hn:H.nx<=n):Wx n v=true:=by
 rcases h.here with⟨rfl,rfl⟩|⟨b,o,c,rfl,hb,_⟩
 ·rfl
 ·exact WV (by omega) ..
theorem Sl.same{H:Heap}{sz:Nat}{v:AV}{ls:List (List AV)}(h:Sl H sz v ls)(n:Nat)(t:T Obj):Ud (.val v ⟨n,t,n⟩) v n=true:=by
 rcases h.here with⟨rfl,rfl⟩|⟨b,o,c,rfl,_⟩
 ·exact QE ..
 ·exact TD ..
theorem Sl.cells{H:Heap}{sz:Nat}{v:AV}{ls:List (List AV)}(h:Sl H sz v ls):v.cells=[v]:=by
 rcases h.here with⟨rfl,rfl⟩|⟨b,o,c,rfl,_⟩<;>rfl
theorem Sl.at_{H:Heap}{sz:Nat}{v:AV}{ls:List (List AV)}(h:Sl H sz v ls){i:Nat}(hi:i<ls.length):
  ∃b o r,(∀(k:IntKind) (G:Heap),Gd sz v (nI k i) G=.val (.ptr b o) G)∧b<H.nx∧H.t.get b=some (.row r)∧(∀G:Heap,EW sz (some (.row r)) o G=.val (.agg (ls.getD i [])) G)∧ ∀(j:Nat) (G:Heap),j<sz->ld1 (some (.row r)) (o+j) G=.val ((ls.getD i []).getD j .unk) G:=by
 have hne:ls≠[]:=by intro e;subst e;cases hi
 rcases h.here with⟨rfl,_⟩|⟨b,o,c,rfl,hb,h2⟩
 ·exact absurd rfl hne
 ·obtain⟨r,h3,h4,h5⟩:=h2 hne
  have hm:(i+1)*sz<=ls.length*sz:=VD _ hi
  rw[WC,Qz] at hm
  have hf:=flat_len h.each
  have hg:=flat_at h.each hi
  refine⟨b,o+i*sz,r,λk G=>mL hi b o c k G,hb,h3,λG=>?_,λj G hj=>?_⟩
  ·show ZP (Nat.ble (Nat.add (o+i*sz) sz) r.size) (OR.val (.agg (Vf r (o+i*sz) sz)) G)=_
   rw[Zk (show Nat.add (o+i*sz) sz<=r.size by show o+i*sz+sz<=_;omega)]
   show OR.val (.agg (Vf r (o+i*sz) sz)) G=_
   congr 2
   rw[<-hg]
   apply WQ
   intro j
   by_cases hj:j<sz
   ·rw[SO _ _ _ _ hj,Xe hj,Xa]
    have:=h5 (i*sz+j) (by omega)
    rw[<-XR,Zf,Zl (by omega)] at this
    rw[Zl (by omega),this];rfl
   ·rw[Y1 (by rw[Ss];omega),Y1 (by rw[ZC];omega)]
  ·rw[O1 (by omega)]
   congr 1
   rw[<-hg,XR,h5 _ (by omega),Zf,Zf,Xe hj,Xa]
theorem Sl.of_rG{H:Heap}{b e sz:Nat}{ls:List (List AV)}{fz:Nat}{sm own ex:Bool}{c:Option Nat}(hb:H.t.get b=some (rG e sz ls.flatten fz sm own ex))(hn:b<H.nx)(he: ∀l∈ls,l.length=sz):Sl H sz (.slice b 0 ls.length c) ls:=
 ⟨he,.inr ⟨b,0,c,rfl,hn,λ_=>⟨_,hb,by show 0+_<=YK ls.flatten;rw[YF,flat_len he];omega,λi _=>by rw[Zd,xQ]⟩⟩⟩
theorem Sl.of_recs{H:Heap}{b e sz:Nat}{ls:List (List AV)}{r:Row}(h:Ac H b e sz ls r)(c:Option Nat):Sl H sz (.slice b 0 ls.length c) ls:=
 ⟨h.each,.inr ⟨b,0,c,rfl,h.low,λ_=>⟨r,h.at_,by rw[h.size];omega,λi hi=>by rw[Zd];exact h.cells.get i (by rw[flat_len h.each];exact hi)⟩⟩⟩
theorem Sl.of_buf{H:Heap}{v:AV}{e sz:Nat}{ls:List (List AV)}{lo:Nat}(h:RM H v e sz ls lo):Sl H sz v ls:=by
 rcases h with⟨rfl,rfl⟩|⟨_,b,r,rfl,h,_⟩
 ·exact Sl.nil ..
 ·exact Sl.of_recs h _
theorem Tn{n b:Nat}{l vs:List AV}{H:Heap}(hl:l.length=n)(hv:vs.length=n)(hn:1<=n)(hro:H.ro<=b)(e sz:Nat)(sm ex:Bool):tp n (some (rG e sz l 0 sm true ex)) b 0 (.agg vs) H=.val Xz (H.put b (rG e sz vs 0 sm true ex)):=by
 rw[bR hn (by exact hv) (by omega) hro (ZZ _)]
 congr 3
 rw[xc _ _ _ (by show 0+vs.length<=_;omega)]
 show []++(vs++l.drop (0+vs.length))=vs
 rw[TV (by omega)];simp
end
end Go.AI
