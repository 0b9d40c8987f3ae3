/- Equations in bundles; plain words; the code of the functions that the law comes to. -/
import Derived.Test.YtbdmnfoadmfjpaaGreatDoorP7
import Derived.Test.YtbdmnfoadmfjpaaGreatDoorP5
import Derived.Test.YtbdmnfoadmfjpaaGreatDoorProg
import Derived.Test.YtbdmnfoadmfjpaaGreatDoorP6
set_option maxRecDepth 1000000
set_option maxHeartbeats 0
set_option linter.unusedVariables false
set_option linter.unusedSimpArgs false
namespace Go.AI
open Go
noncomputable section
section
open Go N8
theorem Yx(b:Bool)(yes no:WL):Tn XE b yes no=no:=rfl
theorem jc{r r':WL}(h:r=r')(k:TM->Heap->X->WL):QY r k=QY r' k:=by rw[h]
theorem eC{r r':OR}(h:r=r')(n:TM->Heap->X->WL)(d:Yd)(c:Ctx)(tm:TM)(H:Heap)(x:X):OY n d c tm H x r=OY n d c tm H x r':=by rw[h]
theorem eG{r r':CR}(h:r=r')(n:TM->Heap->X->WL)(d:Yd)(tm:TM)(x:X):Au n d tm x r=Au n d tm x r':=by rw[h]
theorem eD{v v':AV}(h:v=v')(k:Bool->WL):wV v k=wV v' k:=by rw[h]
theorem qE{v v':AV}(h:v=v')(b:Bool)(yes no:WL):Tn v b yes no=Tn v' b yes no:=by rw[h]
theorem kY{v v':Bool}(h:v=v')(a b:TM->Heap->X->WL)(tm:TM)(H:Heap)(x:X):Gz a b v tm H x=Gz a b v' tm H x:=by rw[h]
theorem qF{r r':WL}(h:r=r')(i:Nat):PU i r=PU i r':=by rw[h]
theorem eH{r r':WL}(h:r=r')(dc:Option AV->Nat->List AV->Heap->DR)(rs:List (YG×Option (Nat×Bool))):K8 dc rs r=K8 dc rs r':=by rw[h]
theorem kZ{r r':OR}(h:r=r')(p:PI)(nx:PK)(rs:List RD)(tm:TM)(H:Heap)(x:X):Jt p nx rs tm H x r=Jt p nx rs tm H x r':=by rw[h]
theorem ja{r r':OR}(h:r=r')(p:PI)(nx:PK)(rs:List RD)(tm:TM)(H:Heap)(x:X):I2 p nx rs tm H x r=I2 p nx rs tm H x r':=by rw[h]
theorem eB{r r':OR}(h:r=r')(ds:List Yd)(p:PI)(nx:PK)(rs:List RD)(c:Ctx)(tm:TM)(x:X):GD ds p nx rs c tm x r=GD ds p nx rs c tm x r':=by rw[h]
theorem eJ{r r':CR}(h:r=r')(ds:List Yd)(p:PI)(nx:PK)(rs:List RD)(tm:TM)(x:X):AG ds p nx rs tm x r=AG ds p nx rs tm x r':=by rw[h]
attribute [congr] jc eC eG eD qE kY qF eH kZ ja eB eJ
theorem Xq:(∀tm:TM,Y3 tm=a0 (a0 (a0 tm))∧Wv tm=a1 (a0 (a0 tm))∧Uv tm=a2 (a0 (a0 tm))∧VL tm=a3 (a0 (a0 tm))∧XQ tm=a4 (a0 (a0 tm))∧Wa tm=a5 (a0 (a0 tm))∧Ve tm=a6 (a0 (a0 tm))∧WH tm=a7 (a0 (a0 tm))∧WD tm=a0 (a1 (a0 tm))∧Vc tm=a1 (a1 (a0 tm))∧XF tm=a2 (a1 (a0 tm))∧XO tm=a3 (a1 (a0 tm))∧X6 tm=a4 (a1 (a0 tm))∧XR tm=a5 (a1 (a0 tm))∧Wi tm=a6 (a1 (a0 tm))∧Wk tm=a7 (a1 (a0 tm))∧Ww tm=a0 (a2 (a0 tm))∧WW tm=a1 (a2 (a0 tm))∧WX tm=a2 (a2 (a0 tm))∧WC tm=a3 (a2 (a0 tm))∧VU tm=a4 (a2 (a0 tm))∧VJ tm=a5 (a2 (a0 tm))∧VK tm=a6 (a2 (a0 tm))∧Ui tm=a7 (a2 (a0 tm))∧V1 tm=a0 (a3 (a0 tm))∧UY tm=a1 (a3 (a0 tm))∧UD tm=a2 (a3 (a0 tm))∧Uq tm=a3 (a3 (a0 tm))∧UE tm=a4 (a3 (a0 tm))∧VP tm=a5 (a3 (a0 tm))∧Sa tm=a6 (a3 (a0 tm))∧Sn tm=a7 (a3 (a0 tm)))∧(∀(tm:TM) (v:AV),st0 tm v=u0 (u0 (u0 λ_=>v)) tm∧st1 tm v=u0 (u0 (u1 λ_=>v)) tm∧st2 tm v=u0 (u0 (u2 λ_=>v)) tm∧Tc tm v=u0 (u0 (u3 λ_=>v)) tm∧XL tm v=u0 (u0 (u4 λ_=>v)) tm∧Vq tm v=u0 (u0 (u5 λ_=>v)) tm∧VV tm v=u0 (u0 (u6 λ_=>v)) tm∧Uu tm v=u0 (u0 (u7 λ_=>v)) tm∧V2 tm v=u0 (u1 (u0 λ_=>v)) tm∧Ts tm v=u0 (u1 (u1 λ_=>v)) tm∧Wj tm v=u0 (u1 (u2 λ_=>v)) tm∧Wm tm v=u0 (u1 (u3 λ_=>v)) tm∧WE tm v=u0 (u1 (u4 λ_=>v)) tm∧WA tm v=u0 (u1 (u5 λ_=>v)) tm∧W2 tm v=u0 (u1 (u6 λ_=>v)) tm∧W9 tm v=u0 (u1 (u7 λ_=>v)) tm∧W3 tm v=u0 (u2 (u0 λ_=>v)) tm∧Vm tm v=u0 (u2 (u1 λ_=>v)) tm∧Vw tm v=u0 (u2 (u2 λ_=>v)) tm∧V0 tm v=u0 (u2 (u3 λ_=>v)) tm∧Ue tm v=u0 (u2 (u4 λ_=>v)) tm∧UU tm v=u0 (u2 (u5 λ_=>v)) tm∧UV tm v=u0 (u2 (u6 λ_=>v)) tm∧UZ tm v=u0 (u2 (u7 λ_=>v)) tm∧UW tm v=u0 (u3 (u0 λ_=>v)) tm∧Ti tm v=u0 (u3 (u1 λ_=>v)) tm∧Tj tm v=u0 (u3 (u2 λ_=>v)) tm∧U0 tm v=u0 (u3 (u3 λ_=>v)) tm∧Tk tm v=u0 (u3 (u4 λ_=>v)) tm∧TP tm v=u0 (u3 (u5 λ_=>v)) tm∧TW tm v=u0 (u3 (u6 λ_=>v)) tm∧SU tm v=u0 (u3 (u7 λ_=>v)) tm):=⟨λ_=>⟨rfl,rfl,rfl,rfl,rfl,rfl,rfl,rfl,rfl,rfl,rfl,rfl,rfl,rfl,rfl,rfl,rfl,rfl,rfl,rfl,rfl,rfl,rfl,rfl,rfl,rfl,rfl,rfl,rfl,rfl,rfl,rfl⟩,λ_ _=>⟨rfl,rfl,rfl,rfl,rfl,rfl,rfl,rfl,rfl,rfl,rfl,rfl,rfl,rfl,rfl,rfl,rfl,rfl,rfl,rfl,rfl,rfl,rfl,rfl,rfl,rfl,rfl,rfl,rfl,rfl,rfl,rfl⟩⟩
theorem TB:(∀tm:TM,SP tm=a0 (a4 (a0 tm))∧RA tm=a1 (a4 (a0 tm))∧Rc tm=a2 (a4 (a0 tm))∧RB tm=a3 (a4 (a0 tm))∧RT tm=a4 (a4 (a0 tm))∧Q8 tm=a5 (a4 (a0 tm))∧QM tm=a6 (a4 (a0 tm))∧Pu tm=a7 (a4 (a0 tm))∧QN tm=a0 (a5 (a0 tm))∧PO tm=a1 (a5 (a0 tm))∧QC tm=a2 (a5 (a0 tm))∧Pv tm=a3 (a5 (a0 tm))∧Qr tm=a4 (a5 (a0 tm))∧PP tm=a5 (a5 (a0 tm))∧P9 tm=a6 (a5 (a0 tm))∧Q9 tm=a7 (a5 (a0 tm))∧NF tm=a0 (a6 (a0 tm))∧NG tm=a1 (a6 (a0 tm))∧MB tm=a2 (a6 (a0 tm))∧RU tm=a3 (a6 (a0 tm))∧Md tm=a4 (a6 (a0 tm))∧Nm tm=a5 (a6 (a0 tm))∧Nn tm=a6 (a6 (a0 tm))∧Me tm=a7 (a6 (a0 tm))∧O1 tm=a0 (a7 (a0 tm))∧MC tm=a1 (a7 (a0 tm))∧Ov tm=a2 (a7 (a0 tm))∧Lc tm=a3 (a7 (a0 tm))∧Mf tm=a4 (a7 (a0 tm))∧No tm=a5 (a7 (a0 tm))∧Mg tm=a6 (a7 (a0 tm))∧O2 tm=a7 (a7 (a0 tm)))∧(∀(tm:TM) (v:AV),Rp tm v=u0 (u4 (u0 λ_=>v)) tm∧RM tm v=u0 (u4 (u1 λ_=>v)) tm∧QH tm v=u0 (u4 (u2 λ_=>v)) tm∧QI tm v=u0 (u4 (u3 λ_=>v)) tm∧Pe tm v=u0 (u4 (u4 λ_=>v)) tm∧Pf tm v=u0 (u4 (u5 λ_=>v)) tm∧QW tm v=u0 (u4 (u6 λ_=>v)) tm∧Pw tm v=u0 (u4 (u7 λ_=>v)) tm∧P3 tm v=u0 (u5 (u0 λ_=>v)) tm∧P4 tm v=u0 (u5 (u1 λ_=>v)) tm∧Oe tm v=u0 (u5 (u2 λ_=>v)) tm∧QX tm v=u0 (u5 (u3 λ_=>v)) tm∧Of tm v=u0 (u5 (u4 λ_=>v)) tm∧OK tm v=u0 (u5 (u5 λ_=>v)) tm∧Nd tm v=u0 (u5 (u6 λ_=>v)) tm∧Nf tm v=u0 (u5 (u7 λ_=>v)) tm∧Nx tm v=u0 (u6 (u0 λ_=>v)) tm∧NN tm v=u0 (u6 (u1 λ_=>v)) tm∧NO tm v=u0 (u6 (u2 λ_=>v)) tm∧NQ tm v=u0 (u6 (u3 λ_=>v)) tm∧MH tm v=u0 (u6 (u4 λ_=>v)) tm∧Mu tm v=u0 (u6 (u5 λ_=>v)) tm∧Mv tm v=u0 (u6 (u6 λ_=>v)) tm∧MI tm v=u0 (u6 (u7 λ_=>v)) tm∧Mw tm v=u0 (u7 (u0 λ_=>v)) tm∧MJ tm v=u0 (u7 (u1 λ_=>v)) tm∧Ln tm v=u0 (u7 (u2 λ_=>v)) tm∧Lo tm v=u0 (u7 (u3 λ_=>v)) tm∧MK tm v=u0 (u7 (u4 λ_=>v)) tm∧Lq tm v=u0 (u7 (u5 λ_=>v)) tm∧ML tm v=u0 (u7 (u6 λ_=>v)) tm∧NR tm v=u0 (u7 (u7 λ_=>v)) tm):=⟨λ_=>⟨rfl,rfl,rfl,rfl,rfl,rfl,rfl,rfl,rfl,rfl,rfl,rfl,rfl,rfl,rfl,rfl,rfl,rfl,rfl,rfl,rfl,rfl,rfl,rfl,rfl,rfl,rfl,rfl,rfl,rfl,rfl,rfl⟩,λ_ _=>⟨rfl,rfl,rfl,rfl,rfl,rfl,rfl,rfl,rfl,rfl,rfl,rfl,rfl,rfl,rfl,rfl,rfl,rfl,rfl,rfl,rfl,rfl,rfl,rfl,rfl,rfl,rfl,rfl,rfl,rfl,rfl,rfl⟩⟩
theorem K1:(∀tm:TM,MD tm=a0 (a0 (a1 tm))∧Np tm=a1 (a0 (a1 tm))∧Nq tm=a2 (a0 (a1 tm))∧Ld tm=a3 (a0 (a1 tm))∧Ko tm=a4 (a0 (a1 tm))∧Kp tm=a5 (a0 (a1 tm))∧Le tm=a6 (a0 (a1 tm))∧K4 tm=a7 (a0 (a1 tm))∧Ow tm=a0 (a1 (a1 tm))∧K5 tm=a1 (a1 (a1 tm))∧K6 tm=a2 (a1 (a1 tm))∧ME tm=a3 (a1 (a1 tm))∧LC tm=a4 (a1 (a1 tm))∧Lf tm=a5 (a1 (a1 tm))∧Kq tm=a6 (a1 (a1 tm))∧Jz tm=a7 (a1 (a1 tm))∧HG tm=a0 (a2 (a1 tm))∧Cb tm=a1 (a2 (a1 tm))∧GS tm=a2 (a2 (a1 tm))∧GU tm=a3 (a2 (a1 tm))∧O3 tm=a4 (a2 (a1 tm))∧IJ tm=a5 (a2 (a1 tm))∧Cc tm=a6 (a2 (a1 tm))∧K7 tm=a7 (a2 (a1 tm))∧GV tm=a0 (a3 (a1 tm))∧Cd tm=a1 (a3 (a1 tm))∧Ce tm=a2 (a3 (a1 tm))∧Cf tm=a3 (a3 (a1 tm))∧JA tm=a4 (a3 (a1 tm))∧BY tm=a5 (a3 (a1 tm))∧zm tm=a6 (a3 (a1 tm))∧En tm=a7 (a3 (a1 tm)))∧(∀(tm:TM) (v:AV),MM tm v=u1 (u0 (u0 λ_=>v)) tm∧MN tm v=u1 (u0 (u1 λ_=>v)) tm∧Lr tm v=u1 (u0 (u2 λ_=>v)) tm∧Lt tm v=u1 (u0 (u3 λ_=>v)) tm∧KH tm v=u1 (u0 (u4 λ_=>v)) tm∧KI tm v=u1 (u0 (u5 λ_=>v)) tm∧KJ tm v=u1 (u0 (u6 λ_=>v)) tm∧Jb tm v=u1 (u0 (u7 λ_=>v)) tm∧Jc tm v=u1 (u1 (u0 λ_=>v)) tm∧Jd tm v=u1 (u1 (u1 λ_=>v)) tm∧Je tm v=u1 (u1 (u2 λ_=>v)) tm∧Jf tm v=u1 (u1 (u3 λ_=>v)) tm∧J5 tm v=u1 (u1 (u4 λ_=>v)) tm∧IN tm v=u1 (u1 (u5 λ_=>v)) tm∧Gg tm v=u1 (u1 (u6 λ_=>v)) tm∧Gh tm v=u1 (u1 (u7 λ_=>v)) tm∧Gi tm v=u1 (u2 (u0 λ_=>v)) tm∧FJ tm v=u1 (u2 (u1 λ_=>v)) tm∧FK tm v=u1 (u2 (u2 λ_=>v)) tm∧FM tm v=u1 (u2 (u3 λ_=>v)) tm∧FN tm v=u1 (u2 (u4 λ_=>v)) tm∧Ch tm v=u1 (u2 (u5 λ_=>v)) tm∧Ci tm v=u1 (u2 (u6 λ_=>v)) tm∧Cj tm v=u1 (u2 (u7 λ_=>v)) tm∧Ck tm v=u1 (u3 (u0 λ_=>v)) tm∧Cl tm v=u1 (u3 (u1 λ_=>v)) tm∧Cm tm v=u1 (u3 (u2 λ_=>v)) tm∧Cn tm v=u1 (u3 (u3 λ_=>v)) tm∧Co tm v=u1 (u3 (u4 λ_=>v)) tm∧AQ tm v=u1 (u3 (u5 λ_=>v)) tm∧zH tm v=u1 (u3 (u6 λ_=>v)) tm∧Cp tm v=u1 (u3 (u7 λ_=>v)) tm):=⟨λ_=>⟨rfl,rfl,rfl,rfl,rfl,rfl,rfl,rfl,rfl,rfl,rfl,rfl,rfl,rfl,rfl,rfl,rfl,rfl,rfl,rfl,rfl,rfl,rfl,rfl,rfl,rfl,rfl,rfl,rfl,rfl,rfl,rfl⟩,λ_ _=>⟨rfl,rfl,rfl,rfl,rfl,rfl,rfl,rfl,rfl,rfl,rfl,rfl,rfl,rfl,rfl,rfl,rfl,rfl,rfl,rfl,rfl,rfl,rfl,rfl,rfl,rfl,rfl,rfl,rfl,rfl,rfl,rfl⟩⟩
theorem IH:(∀tm:TM,Eo tm=a0 (a4 (a1 tm))∧Lg tm=a1 (a4 (a1 tm))∧zn tm=a2 (a4 (a1 tm))∧BZ tm=a3 (a4 (a1 tm))∧Jx tm=a4 (a4 (a1 tm))∧MX tm=a5 (a4 (a1 tm))∧MY tm=a6 (a4 (a1 tm))∧GO tm=a7 (a4 (a1 tm))∧IW tm=a0 (a5 (a1 tm))∧KT tm=a1 (a5 (a1 tm))∧NA tm=a2 (a5 (a1 tm))∧Ly tm=a3 (a5 (a1 tm))∧Dj tm=a4 (a5 (a1 tm))∧BR tm=a5 (a5 (a1 tm))∧BT tm=a6 (a5 (a1 tm))∧Dk tm=a7 (a5 (a1 tm))∧Dl tm=a0 (a6 (a1 tm))∧KU tm=a1 (a6 (a1 tm))∧Dm tm=a2 (a6 (a1 tm))∧Dn tm=a3 (a6 (a1 tm))∧Do tm=a4 (a6 (a1 tm))∧BU tm=a5 (a6 (a1 tm))∧Dp tm=a6 (a6 (a1 tm))∧Dq tm=a7 (a6 (a1 tm))∧Lz tm=a0 (a7 (a1 tm))∧LA tm=a1 (a7 (a1 tm))∧BW tm=a2 (a7 (a1 tm))∧Dr tm=a3 (a7 (a1 tm))∧PN tm=a4 (a7 (a1 tm))∧yu tm=a5 (a7 (a1 tm))∧yv tm=a6 (a7 (a1 tm))∧yx tm=a7 (a7 (a1 tm)))∧(∀(tm:TM) (v:AV),Cq tm v=u1 (u4 (u0 λ_=>v)) tm∧AR tm v=u1 (u4 (u1 λ_=>v)) tm∧AS tm v=u1 (u4 (u2 λ_=>v)) tm∧AT tm v=u1 (u4 (u3 λ_=>v)) tm∧J2 tm v=u1 (u4 (u4 λ_=>v)) tm∧J3 tm v=u1 (u4 (u5 λ_=>v)) tm∧I5 tm v=u1 (u4 (u6 λ_=>v)) tm∧I6 tm v=u1 (u4 (u7 λ_=>v)) tm∧I7 tm v=u1 (u5 (u0 λ_=>v)) tm∧I8 tm v=u1 (u5 (u1 λ_=>v)) tm∧I9 tm v=u1 (u5 (u2 λ_=>v)) tm∧J4 tm v=u1 (u5 (u3 λ_=>v)) tm∧FG tm v=u1 (u5 (u4 λ_=>v)) tm∧AP tm v=u1 (u5 (u5 λ_=>v)) tm∧DS tm v=u1 (u5 (u6 λ_=>v)) tm∧DT tm v=u1 (u5 (u7 λ_=>v)) tm∧DU tm v=u1 (u6 (u0 λ_=>v)) tm∧DV tm v=u1 (u6 (u1 λ_=>v)) tm∧DW tm v=u1 (u6 (u2 λ_=>v)) tm∧DX tm v=u1 (u6 (u3 λ_=>v)) tm∧DY tm v=u1 (u6 (u4 λ_=>v)) tm∧DZ tm v=u1 (u6 (u5 λ_=>v)) tm∧D0 tm v=u1 (u6 (u6 λ_=>v)) tm∧D1 tm v=u1 (u6 (u7 λ_=>v)) tm∧D2 tm v=u1 (u7 (u0 λ_=>v)) tm∧D3 tm v=u1 (u7 (u1 λ_=>v)) tm∧D4 tm v=u1 (u7 (u2 λ_=>v)) tm∧FH tm v=u1 (u7 (u3 λ_=>v)) tm∧FI tm v=u1 (u7 (u4 λ_=>v)) tm∧xD tm v=u1 (u7 (u5 λ_=>v)) tm∧xE tm v=u1 (u7 (u6 λ_=>v)) tm∧xF tm v=u1 (u7 (u7 λ_=>v)) tm):=⟨λ_=>⟨rfl,rfl,rfl,rfl,rfl,rfl,rfl,rfl,rfl,rfl,rfl,rfl,rfl,rfl,rfl,rfl,rfl,rfl,rfl,rfl,rfl,rfl,rfl,rfl,rfl,rfl,rfl,rfl,rfl,rfl,rfl,rfl⟩,λ_ _=>⟨rfl,rfl,rfl,rfl,rfl,rfl,rfl,rfl,rfl,rfl,rfl,rfl,rfl,rfl,rfl,rfl,rfl,rfl,rfl,rfl,rfl,rfl,rfl,rfl,rfl,rfl,rfl,rfl,rfl,rfl,rfl,rfl⟩⟩
theorem F0:(∀tm:TM,GP tm=a0 (a0 (a2 tm))∧GQ tm=a1 (a0 (a2 tm))∧yy tm=a2 (a0 (a2 tm))∧yz tm=a3 (a0 (a2 tm))∧KV tm=a4 (a0 (a2 tm))∧yA tm=a5 (a0 (a2 tm))∧IX tm=a6 (a0 (a2 tm))∧yB tm=a7 (a0 (a2 tm))∧uM tm=a0 (a1 (a2 tm))∧GR tm=a1 (a1 (a2 tm))∧uN tm=a2 (a1 (a2 tm))∧uO tm=a3 (a1 (a2 tm))∧uP tm=a4 (a1 (a2 tm))∧uQ tm=a5 (a1 (a2 tm))∧uR tm=a6 (a1 (a2 tm))∧nH tm=a7 (a1 (a2 tm))∧Ds tm=a0 (a2 (a2 tm))∧uS tm=a1 (a2 (a2 tm))∧yC tm=a2 (a2 (a2 tm))∧Jy tm=a3 (a2 (a2 tm))∧yD tm=a4 (a2 (a2 tm))∧yE tm=a5 (a2 (a2 tm))∧yF tm=a6 (a2 (a2 tm))∧yG tm=a7 (a2 (a2 tm))∧yH tm=a0 (a3 (a2 tm))∧yI tm=a1 (a3 (a2 tm))∧yJ tm=a2 (a3 (a2 tm))∧yK tm=a3 (a3 (a2 tm))∧BX tm=a4 (a3 (a2 tm))∧uT tm=a5 (a3 (a2 tm))∧nJ tm=a6 (a3 (a2 tm))∧nL tm=a7 (a3 (a2 tm)))∧(∀(tm:TM) (v:AV),xG tm v=u2 (u0 (u0 λ_=>v)) tm∧xH tm v=u2 (u0 (u1 λ_=>v)) tm∧xI tm v=u2 (u0 (u2 λ_=>v)) tm∧xJ tm v=u2 (u0 (u3 λ_=>v)) tm∧xK tm v=u2 (u0 (u4 λ_=>v)) tm∧xL tm v=u2 (u0 (u5 λ_=>v)) tm∧xM tm v=u2 (u0 (u6 λ_=>v)) tm∧xN tm v=u2 (u0 (u7 λ_=>v)) tm∧rC tm v=u2 (u1 (u0 λ_=>v)) tm∧rD tm v=u2 (u1 (u1 λ_=>v)) tm∧rE tm v=u2 (u1 (u2 λ_=>v)) tm∧rF tm v=u2 (u1 (u3 λ_=>v)) tm∧rH tm v=u2 (u1 (u4 λ_=>v)) tm∧rI tm v=u2 (u1 (u5 λ_=>v)) tm∧rJ tm v=u2 (u1 (u6 λ_=>v)) tm∧lQ tm v=u2 (u1 (u7 λ_=>v)) tm∧lR tm v=u2 (u2 (u0 λ_=>v)) tm∧rL tm v=u2 (u2 (u1 λ_=>v)) tm∧xP tm v=u2 (u2 (u2 λ_=>v)) tm∧xQ tm v=u2 (u2 (u3 λ_=>v)) tm∧xR tm v=u2 (u2 (u4 λ_=>v)) tm∧xS tm v=u2 (u2 (u5 λ_=>v)) tm∧xT tm v=u2 (u2 (u6 λ_=>v)) tm∧xU tm v=u2 (u2 (u7 λ_=>v)) tm∧xV tm v=u2 (u3 (u0 λ_=>v)) tm∧xW tm v=u2 (u3 (u1 λ_=>v)) tm∧xX tm v=u2 (u3 (u2 λ_=>v)) tm∧xY tm v=u2 (u3 (u3 λ_=>v)) tm∧rM tm v=u2 (u3 (u4 λ_=>v)) tm∧rN tm v=u2 (u3 (u5 λ_=>v)) tm∧lS tm v=u2 (u3 (u6 λ_=>v)) tm∧lU tm v=u2 (u3 (u7 λ_=>v)) tm):=⟨λ_=>⟨rfl,rfl,rfl,rfl,rfl,rfl,rfl,rfl,rfl,rfl,rfl,rfl,rfl,rfl,rfl,rfl,rfl,rfl,rfl,rfl,rfl,rfl,rfl,rfl,rfl,rfl,rfl,rfl,rfl,rfl,rfl,rfl⟩,λ_ _=>⟨rfl,rfl,rfl,rfl,rfl,rfl,rfl,rfl,rfl,rfl,rfl,rfl,rfl,rfl,rfl,rfl,rfl,rfl,rfl,rfl,rfl,rfl,rfl,rfl,rfl,rfl,rfl,rfl,rfl,rfl,rfl,rfl⟩⟩
theorem zN:(∀tm:TM,nM tm=a0 (a4 (a2 tm))∧nN tm=a1 (a4 (a2 tm))∧nO tm=a2 (a4 (a2 tm))∧LB tm=a3 (a4 (a2 tm))∧nP tm=a4 (a4 (a2 tm))∧nQ tm=a5 (a4 (a2 tm))∧nR tm=a6 (a4 (a2 tm))∧dP tm=a7 (a4 (a2 tm))∧dQ tm=a0 (a5 (a2 tm))∧dR tm=a1 (a5 (a2 tm))∧dS tm=a2 (a5 (a2 tm))∧dT tm=a3 (a5 (a2 tm))∧Dt tm=a4 (a5 (a2 tm))∧dU tm=a5 (a5 (a2 tm))∧dV tm=a6 (a5 (a2 tm))∧uU tm=a7 (a5 (a2 tm))∧uV tm=a0 (a6 (a2 tm))∧dW tm=a1 (a6 (a2 tm))∧dX tm=a2 (a6 (a2 tm))∧Du tm=a3 (a6 (a2 tm))∧dY tm=a4 (a6 (a2 tm))∧dZ tm=a5 (a6 (a2 tm))∧d9 tm=a6 (a6 (a2 tm))∧ce tm=a7 (a6 (a2 tm))∧ci tm=a0 (a7 (a2 tm))∧cj tm=a1 (a7 (a2 tm))∧nS tm=a2 (a7 (a2 tm))∧Zfa tm=a3 (a7 (a2 tm))∧Zfb tm=a4 (a7 (a2 tm))∧Zjt tm=a5 (a7 (a2 tm))∧Zju tm=a6 (a7 (a2 tm))∧Zjv tm=a7 (a7 (a2 tm)))∧(∀(tm:TM) (v:AV),lV tm v=u2 (u4 (u0 λ_=>v)) tm∧lW tm v=u2 (u4 (u1 λ_=>v)) tm∧lX tm v=u2 (u4 (u2 λ_=>v)) tm∧lY tm v=u2 (u4 (u3 λ_=>v)) tm∧lZ tm v=u2 (u4 (u4 λ_=>v)) tm∧kg tm v=u2 (u4 (u5 λ_=>v)) tm∧kh tm v=u2 (u4 (u6 λ_=>v)) tm∧ZaO tm v=u2 (u4 (u7 λ_=>v)) tm∧ZaP tm v=u2 (u5 (u0 λ_=>v)) tm∧ZaQ tm v=u2 (u5 (u1 λ_=>v)) tm∧ZaR tm v=u2 (u5 (u2 λ_=>v)) tm∧ZaS tm v=u2 (u5 (u3 λ_=>v)) tm∧ZaT tm v=u2 (u5 (u4 λ_=>v)) tm∧ZaU tm v=u2 (u5 (u5 λ_=>v)) tm∧ZaV tm v=u2 (u5 (u6 λ_=>v)) tm∧ZaW tm v=u2 (u5 (u7 λ_=>v)) tm∧ZaX tm v=u2 (u6 (u0 λ_=>v)) tm∧ZaY tm v=u2 (u6 (u1 λ_=>v)) tm∧ZaZ tm v=u2 (u6 (u2 λ_=>v)) tm∧Za0 tm v=u2 (u6 (u3 λ_=>v)) tm∧Za1 tm v=u2 (u6 (u4 λ_=>v)) tm∧Za2 tm v=u2 (u6 (u5 λ_=>v)) tm∧Za3 tm v=u2 (u6 (u6 λ_=>v)) tm∧Za4 tm v=u2 (u6 (u7 λ_=>v)) tm∧Za5 tm v=u2 (u7 (u0 λ_=>v)) tm∧Za6 tm v=u2 (u7 (u1 λ_=>v)) tm∧Za7 tm v=u2 (u7 (u2 λ_=>v)) tm∧ZfG tm v=u2 (u7 (u3 λ_=>v)) tm∧ZfH tm v=u2 (u7 (u4 λ_=>v)) tm∧Zlb tm v=u2 (u7 (u5 λ_=>v)) tm∧Zlc tm v=u2 (u7 (u6 λ_=>v)) tm∧Zld tm v=u2 (u7 (u7 λ_=>v)) tm):=⟨λ_=>⟨rfl,rfl,rfl,rfl,rfl,rfl,rfl,rfl,rfl,rfl,rfl,rfl,rfl,rfl,rfl,rfl,rfl,rfl,rfl,rfl,rfl,rfl,rfl,rfl,rfl,rfl,rfl,rfl,rfl,rfl,rfl,rfl⟩,λ_ _=>⟨rfl,rfl,rfl,rfl,rfl,rfl,rfl,rfl,rfl,rfl,rfl,rfl,rfl,rfl,rfl,rfl,rfl,rfl,rfl,rfl,rfl,rfl,rfl,rfl,rfl,rfl,rfl,rfl,rfl,rfl,rfl,rfl⟩⟩
end
def PH(x:Nat):List UInt8->Nat
 |[]=>0
 |c::s=>if PH x s=0 then(if c.toNat=x then 1 else 0) else PH x s+1
def Tg(x:Nat):List UInt8->Nat
 |[]=>0
 |c::s=>if c.toNat=x then 1 else if Tg x s=0 then 0 else Tg x s+1
def UI:List UInt8->List (List UInt8)
 |[]=>[[]]
 |c::s=>if c.toNat=47 then []::UI s else match UI s with|[]=>[[c]]|h::t=>(c::h)::t
theorem BB(x:Nat): ∀(l:List UInt8) (c:UInt8),PH x (l++[c])=if c.toNat=x then l.length+1 else PH x l
 |[],c=>by simp[PH]
 |a::l,c=>by
  rw[XP,PH,BB x l c,PH]
  by_cases h:c.toNat=x
  ·simp[h]
  ·simp[h]
theorem EY{s:List UInt8}{m:Nat}(h:m<s.length):s.take (m+1)=s.take m++[s.getD m 0]:=by
 rw[UA,Zf,Zn h];rfl
theorem ZcF{x:Nat}{s:List UInt8}{m:Nat}(h:m<s.length)(e:(s.getD m 0).toNat=x):PH x (s.take (m+1))=m+1:=by
 rw[EY h,BB,if_pos e,Z4,Wh (Pg h)]
theorem eR{x:Nat}{s:List UInt8}{m:Nat}(h:m<s.length)(e:(s.getD m 0).toNat≠x):PH x (s.take (m+1))=PH x (s.take m):=by
 rw[EY h,BB,if_neg e]
theorem wC(x:Nat): ∀s:List UInt8,PH x s<=s.length
 |[]=>Zq _
 |c::s=>by
  have:=wC x s
  rw[PH,Zl]
  split
  ·split<;>omega
  ·omega
theorem mE(x:Nat): ∀(s:List UInt8) (n:Nat),PQ x s n=if Tg x s=0 then Int.negSucc 0 else((n+Tg x s - 1:Nat):Int)
 |[],n=>rfl
 |c::s,n=>by
  show cond (Nat.beq c.toNat x) (Int.ofNat n) (PQ x s (Nat.succ n))=_
  rw[mE x s,Tg]
  by_cases h:c.toNat=x
  ·rw[if_pos h,h,show Nat.beq x x=true from Xd x];simp
  ·have:Nat.beq c.toNat x=false:=by
    cases e:Nat.beq c.toNat x with
    |false=>rfl
    |true=>exact absurd (Z9 e) h
   rw[this,if_neg h,cond_false]
   by_cases h0:Tg x s=0
   ·rw[if_pos h0,if_pos h0,if_pos rfl]
   ·rw[if_neg h0,if_neg h0,if_neg (by omega)]
    congr 1
    omega
theorem N9{x:Nat}: ∀{s:List UInt8},Tg x s=0↔ ∀c∈s,c.toNat≠x
 |[]=>by simp[Tg]
 |c::s=>by
  rw[Tg]
  have ih:=N9 (x:=x) (s:=s)
  by_cases h:c.toNat=x
  ·simp[h]
  ·rw[if_neg h]
   by_cases h0:Tg x s=0
   ·simp only[h0,if_true,true_iff]
    intro b hb
    rcases Yi.1 hb with rfl|hb
    ·exact h
    ·exact ih.1 h0 b hb
   ·rw[if_neg h0]
    refine⟨λe=>by omega,λe=>absurd (ih.2 λb hb=>e b (ZQ _ hb)) h0⟩
theorem nE{x:Nat}: ∀{s:List UInt8} {j:Nat},Tg x s=j+1->j<s.length∧(s.getD j 0).toNat=x
 |[],j,h=>by simp[Tg] at h
 |c::s,j,h=>by
  rw[Tg] at h
  by_cases hc:c.toNat=x
  ·rw[if_pos hc] at h
   have:j=0:=by omega
   subst this
   exact⟨by simp,hc⟩
  ·rw[if_neg hc] at h
   split at h
   ·omega
   ·rename_i h0
    obtain⟨i,rfl⟩: ∃i,j=i+1:=⟨j - 1,by omega⟩
    obtain⟨h1,h2⟩:=nE (x:=x) (s:=s) (j:=i) (by omega)
    exact⟨by simp;omega,by simpa using h2⟩
theorem FF: ∀s:List UInt8,UI s≠[]
 |[]=>by simp[UI]
 |c::s=>by
  rw[UI]
  split
  ·simp
  ·split<;>simp
theorem Gf: ∀{s:List UInt8},Tg 47 s=0->UI s=[s]
 |[],_=>rfl
 |c::s,h=>by
  have h1:=N9.1 h
  rw[UI,if_neg (h1 c (ZF ..)),Gf (N9.2 λb hb=>h1 b (ZQ _ hb))]
theorem EQ: ∀{s:List UInt8} {j:Nat},Tg 47 s=j+1->UI s=s.take j::UI (s.drop (j+1))
 |[],j,h=>by simp[Tg] at h
 |c::s,j,h=>by
  rw[Tg] at h
  by_cases hc:c.toNat=47
  ·rw[if_pos hc] at h
   have:j=0:=by omega
   subst this
   rw[UI,if_pos hc];rfl
  ·rw[if_neg hc] at h
   split at h
   ·omega
   ·obtain⟨i,rfl⟩: ∃i,j=i+1:=⟨j - 1,by omega⟩
    rw[UI,if_neg hc,EQ (s:=s) (j:=i) (by omega)]
    rfl
theorem Gy(x:Nat): ∀(l:List UInt8) (n:Nat),XS x l n=n+XS x l 0
 |[],n=>rfl
 |b::l,n=>by
  show cond (Nat.beq b.toNat x) (XS x l (Nat.succ n)) (XS x l n)=n+cond (Nat.beq b.toNat x) (XS x l (Nat.succ 0)) (XS x l 0)
  rw[Gy x l (Nat.succ n),Gy x l n,Gy x l (Nat.succ 0)]
  cases Nat.beq b.toNat x<;>simp;omega
theorem OJ: ∀s:List UInt8,(UI s).length=XS 47 s 0+1
 |[]=>rfl
 |c::s=>by
  have ih:=OJ s
  show _=cond (Nat.beq c.toNat 47) (XS 47 s (Nat.succ 0)) (XS 47 s 0)+1
  rw[UI,Gy 47 s (Nat.succ 0)]
  by_cases hc:c.toNat=47
  ·rw[if_pos hc,hc,show Nat.beq 47 47=true from rfl,Zl,ih,cond_true];omega
  ·have:Nat.beq c.toNat 47=false:=by
    cases e:Nat.beq c.toNat 47 with
    |false=>rfl
    |true=>exact absurd (Z9 e) hc
   rw[if_neg hc,this,cond_false,<-ih]
   split
   ·rename_i h;exact absurd h (FF s)
   ·rename_i a b h;rw[h];rfl
theorem wB: ∀(x:Nat) (s:List UInt8),XS x s 0<=s.length
 |x,[]=>Zq _
 |x,c::s=>by
  have:=wB x s
  show cond (Nat.beq c.toNat x) (XS x s (Nat.succ 0)) (XS x s 0)<=s.length+1
  rw[Gy x s (Nat.succ 0)]
  cases Nat.beq c.toNat x<;>simp<;>omega
def jm:List UInt8:=[46]
def ya:List UInt8:=[46,46]
def whS:List UInt8:=[46,119,104,46]
def ZkR:List UInt8:=[46,119,104,46,46,119,104,46,46,111,112,113]
def Zig:List UInt8:=[46,119,104,46,46,119,104,46,116,111,99]
def zB(p s:List UInt8):Bool:=decide (p.length<=s.length)&&decide (s.take p.length=p)
def Jj(l s:List UInt8):Bool:=s.any λc=>decide (c∈l)
def Wy(s:List UInt8):Bool:=!decide (s=[])&&decide (s.length<=251)&&!decide (s=jm)&&!decide (s=ya)&&!Jj [47,0] s&&!zB whS s
def Pa(p:List UInt8):List (List UInt8):=if p=[] then [] else UI p
def HN(p:List UInt8):Bool:=decide (p.length<=4080)&&decide ((Pa p).length<255)&&(Pa p).all Wy
def VR(p:List UInt8):List UInt8:=p.drop (PH 47 p)
def RJ(p:List UInt8):List UInt8:=p.take (PH 47 p)
def NB(b:List UInt8):Nat:=if b=ZkR then 3 else if zB whS b then 2 else 1
def vw(d:List UInt8):List UInt8:=if (1<=d.length∧d.drop (d.length - 1)=[47]) then d.take (d.length - 1) else d
def Q2(p:List UInt8):List UInt8:=if NB (VR p)=1 then RJ p++VR p else if NB (VR p)=2 then RJ p++(VR p).drop 4 else vw (RJ p)
def F2(p:List UInt8):Bool:=!HN (Q2 p)||(!decide (NB (VR p)=3)&&decide (Q2 p=[]))||(decide (NB (VR p)=2)&&!Wy ((VR p).drop 4))||decide (RJ p=[47])
def WB(p:List UInt8):Nat×List UInt8:=if p=Zig then(4,[]) else if F2 p then(0,[]) else(NB (VR p),Q2 p)
theorem Zdz(b:List UInt8):1<=NB b∧NB b<=3:=by
 unfold NB
 split
 ·exact⟨by decide,by decide⟩
 ·split<;>exact⟨by decide,by decide⟩
def Gr(l:List UInt8):List UInt8->Nat
 |[]=>0
 |c::s=>if c∈l then 1 else if Gr l s=0 then 0 else Gr l s+1
theorem C6{l:List UInt8}: ∀{s:List UInt8},(∀j,j<s.length->s.getD j 0∉l)->Gr l s=0
 |[],_=>rfl
 |c::s,h=>by
  have h0:c∉l:=h 0 (by simp)
  rw[Gr,if_neg h0,C6 λj hj=>by simpa using h (j+1) (by simp;omega),if_pos rfl]
theorem wj{l:List UInt8}: ∀{s:List UInt8} {p:Nat},p<s.length->s.getD p 0∈l->(∀j,j<p->s.getD j 0∉l)->Gr l s=p+1
 |[],p,h,_,_=>by simp at h
 |c::s,0,h,e,_=>by
  have:c∈l:=e
  rw[Gr,if_pos this]
 |c::s,p+1,h,e,hn=>by
  have h0:c∉l:=hn 0 (by omega)
  rw[Gr,if_neg h0,wj (s:=s) (p:=p) (by simpa using h) (by simpa using e) λj hj=>by simpa using hn (j+1) (by omega),if_neg (by omega)]
theorem oV(l:List UInt8): ∀s:List UInt8,decide (0<Gr l s)=Jj l s
 |[]=>rfl
 |c::s=>by
  have ih:=oV l s
  unfold Jj at ih ⊢
  rw[List.any_cons,<-ih,Gr]
  by_cases h:c∈l
  ·simp[h]
  ·rw[if_neg h,Ze h]
   by_cases h0:Gr l s=0
   ·simp[h0]
   ·rw[if_neg h0];simp;omega
theorem C9(s:List UInt8)(i:Nat):((⟨s.toArray⟩:ByteArray).get! i).toNat=(s.getD i 0).toNat:=by
 show(s.toArray[i]!).toNat=_
 rw[List.getElem!_toArray,Zf,List.getElem!_eq_getElem?_getD]
 rfl
theorem nv{s:List UInt8}{i:Nat}(hc:(s.getD i 0).toNat<128):Utf8.decode ⟨s.toArray⟩ i=((s.getD i 0).toNat,1):=by
 have e:=C9 s (i+0)
 rw[Zd] at e
 unfold Utf8.decode
 simp only[Zd,e]
 rw[if_pos hc]
theorem Zgo{s:List UInt8}{i:Nat}(h:i<s.length)(hc:128<=(s.getD i 0).toNat):
  ∃r w,Utf8.decode ⟨s.toArray⟩ i=(r,w)∧128<=r∧r<=1114111∧1<=w∧ ∀j,j<w->i+j<s.length∧128<=(s.getD (i+j) 0).toNat:=by
 have e0:=C9 s i
 have e1:=C9 s (i+1)
 have e2:=C9 s (i+2)
 have e3:=C9 s (i+3)
 have hsz:(⟨s.toArray⟩:ByteArray).size=s.length:=by show s.toArray.size=_;simp
 unfold Utf8.decode
 simp only[Zd,e0,e1,e2,e3,hsz]
 have l0:=(s.getD i 0).toNat_lt
 have l1:=(s.getD (i+1) 0).toNat_lt
 have l2:=(s.getD (i+2) 0).toNat_lt
 have l3:=(s.getD (i+3) 0).toNat_lt
 generalize g0:(s.getD i 0).toNat=b0 at*
 generalize g1:(s.getD (i+1) 0).toNat=b1 at*
 generalize g2:(s.getD (i+2) 0).toNat=b2 at*
 generalize g3:(s.getD (i+3) 0).toNat=b3 at*
 have one: ∀j,j<1->i+j<s.length∧128<=(s.getD (i+j) 0).toNat:=λj hj=>by
  obtain rfl:j=0:=by omega
  exact⟨h,by rw[Zd,g0];exact hc⟩
 have err: ∃r w,((Utf8.runeError,1):Nat×Nat)=(r,w)∧128<=r∧r<=1114111∧1<=w∧ ∀j,j<w->i+j<s.length∧128<=(s.getD (i+j) 0).toNat:=⟨_,_,rfl,by decide,by decide,by decide,one⟩
 rw[if_neg (by omega)]
 split
 ·rename_i c2
  simp only[Xn,beq_iff_eq,decide_eq_true_eq] at c2
  split
  ·exact⟨_,_,rfl,by omega,by omega,by decide,λj hj=>by
    rcases(show j=0∨j=1 by omega) with rfl|rfl
    ·exact one 0 (by decide)
    ·exact⟨by omega,by rw[g1];omega⟩⟩
  ·exact err
 ·split
  ·rename_i c3
   simp only[Xn,beq_iff_eq,decide_eq_true_eq] at c3
   split
   ·rename_i c4
    simp only[Xn,decide_eq_true_eq] at c4
    refine⟨_,_,rfl,by omega,by omega,by decide,λj hj=>?_⟩
    rcases(show j=0∨j=1∨j=2 by omega) with rfl|rfl|rfl
    ·exact one 0 (by decide)
    ·exact⟨by omega,by rw[g1];omega⟩
    ·exact⟨by omega,by rw[g2];omega⟩
   ·exact err
  ·split
   ·rename_i c3
    simp only[Xn,beq_iff_eq,decide_eq_true_eq] at c3
    split
    ·rename_i c4
     simp only[Xn,decide_eq_true_eq,Utf8.valid,TC] at c4
     refine⟨_,_,rfl,by omega,by omega,by decide,λj hj=>?_⟩
     rcases(show j=0∨j=1∨j=2∨j=3 by omega) with rfl|rfl|rfl|rfl
     ·exact one 0 (by decide)
     ·exact⟨by omega,by rw[g1];omega⟩
     ·exact⟨by omega,by rw[g2];omega⟩
     ·exact⟨by omega,by rw[g3];omega⟩
    ·exact err
   ·exact err
theorem eZ{r:Nat}(h:128<=r): ∃rs:List UInt8,(Utf8.encode (r:Int)).data.toList=rs∧2<=rs.length∧rs.length<=4∧128<=(rs.getD (rs.length - 1) 0).toNat:=by
 have key: ∀c:Nat,128<=(UInt8.ofNat (128+c % 64)).toNat:=λc=>by
  rw[S7,YD (by omega)];omega
 unfold Utf8.encode
 have hc:128<=(if Utf8.valid (r:Int)=true then(r:Int).toNat else Utf8.runeError):=by
  split
  ·simpa using h
  ·decide
 generalize(if Utf8.valid (r:Int)=true then(r:Int).toNat else Utf8.runeError)=c at hc
 simp only
 rw[if_neg (by omega)]
 split
 ·exact⟨_,rfl,Zq 2,by show 2<=4;decide,key _⟩
 ·split
  ·exact⟨_,rfl,by show 2<=3;decide,by show 3<=4;decide,key _⟩
  ·exact⟨_,rfl,by show 2<=4;decide,Zq 4,key _⟩
def Jg:List AV:=List.replicate 256 (.bool false)
def Od(cs:List UInt8):List AV:=cs.foldl (λL c=>L.set c.toNat (.bool true)) Jg
theorem gD(cs:List UInt8)(c:UInt8):Od (cs++[c])=(Od cs).set c.toNat (.bool true):=by
 unfold Od;rw[List.foldl_append];rfl
theorem FA(cs:List UInt8):(Od cs).length=256:=by
 unfold Od
 have: ∀(cs:List UInt8) (L:List AV),L.length=256->(cs.foldl (λL c=>L.set c.toNat (.bool true)) L).length=256:=by
  intro cs
  induction cs with
  |nil=>intro L h;exact h
  |cons c cs ih=>intro L h;exact ih _ (by rw[Uj];exact h)
 exact this cs Jg (by unfold Jg;rw[Yu])
theorem ZaF(cs:List UInt8){x:UInt8}:(Od cs).getD x.toNat .unk=.bool (decide (x∈cs)):=by
 unfold Od
 have hx:=x.toNat_lt
 have: ∀(cs:List UInt8) (L:List AV) (b:Bool),L.length=256->L.getD x.toNat .unk=.bool b->(cs.foldl (λL c=>L.set c.toNat (.bool true)) L).getD x.toNat .unk=.bool (b||decide (x∈cs)):=by
  intro cs
  induction cs with
  |nil=>intro L b h h2;simpa using h2
  |cons c cs ih=>
   intro L b h h2
   have:=ih (L.set c.toNat (.bool true)) (b||decide (x=c)) (by rw[Uj];exact h) (by
    rw[Zf,Ql]
    by_cases e:c.toNat=x.toNat
    ·have:c=x:=Rj.1 e
     subst this
     have hx':c.toNat<256:=hx
     simp[h,hx']
    ·have:x≠c:=λq=>e (by rw[q])
     rw[if_neg e,Ze this,Bool.or_false,<-Zf];exact h2)
   rw[U8,this]
   congr 1
   cases b<;>simp[Yi]
 rw[this cs Jg false (by unfold Jg;rw[Yu]) (by unfold Jg;rw[Zf,Wp,if_pos hx];rfl),Bool.false_or]
def K3(d:Nat):UInt8:=UInt8.ofNat (48+d)
theorem Cz{d:Nat}(h:d<10):(K3 d).toNat=48+d:=by
 unfold K3
 rw[UInt8.toNat_ofNat_of_lt' (show 48+d<UInt8.size by unfold UInt8.size;omega)]
def wE:Nat->Nat->List UInt8
 |0,_=>[]
 |k+1,n=>wE k (n/10)++[K3 (n % 10)]
theorem Jr: ∀k n,(wE k n).length=k
 |0,_=>rfl
 |k+1,n=>by show(wE k (n/10)++[K3 (n % 10)]).length=_;rw[Zm,Jr k];rfl
def TU(n:Nat):Nat:=if n<10 then 1 else TU (n/10)+1
theorem Io{n:Nat}(h:n<10):TU n=1:=by rw[TU,if_pos h]
theorem G9{n:Nat}(h:10<=n):TU n=TU (n/10)+1:=by rw[TU,if_neg (by omega)]
theorem Mn(n:Nat):1<=TU n:=by
 by_cases h:n<10
 ·rw[Io h];exact Zq _
 ·rw[G9 (by omega)];omega
theorem vq: ∀k n,10^k<=n->n<10^(k+1)->TU n=k+1
 |0,n,_,h=>Io (by simpa using h)
 |k+1,n,h1,h2=>by
  have h3:10^(k+1)=10^k*10:=S4 ..
  have h4:10^(k+1+1)=10^(k+1)*10:=S4 ..
  have h5:1<=10^k:=Nat.one_le_pow _ _ (by decide)
  rw[G9 (by omega),vq k (n/10) (by omega) (by omega)]
theorem CC(n:Nat):n<10^TU n:=by
 induction n using Nat.strongRecOn with
 |ind n ih=>
  by_cases h:n<10
  ·rw[Io h];simpa using h
  ·rw[G9 (by omega),S4]
   have:=ih (n/10) (by omega)
   omega
theorem NJ{n k:Nat}(hk:1<=k)(h:n<10^k):TU n<=k:=by
 by_cases h0:n<10
 ·rw[Io h0];exact hk
 ·obtain⟨j,hj⟩: ∃j,TU n=j+1:=⟨TU n - 1,by have:=Mn n;omega⟩
  rw[hj]
  by_cases hlt:k<j+1
  ·have h1:10^j<=n:=by
    have: ∀n j,TU n=j+1->10<=n->10^j<=n:=by
     intro n
     induction n using Nat.strongRecOn with
     |ind n ih=>
      intro j hj hn
      rw[G9 hn] at hj
      by_cases h2:n/10<10
      ·rw[Io h2] at hj
       obtain rfl:j=1:=by omega
       simpa using hn
      ·obtain⟨i,rfl⟩: ∃i,j=i+1:=⟨j - 1,by have:=Mn (n/10);omega⟩
       have:=ih (n/10) (by omega) i (by omega) (by omega)
       rw[S4];omega
    exact this n j hj (by omega)
   have h2:10^k<=10^j:=Nat.pow_le_pow_right (by decide) (by omega)
   omega
  ·omega
def dec(n:Nat):List UInt8:=wE (TU n) n
theorem MR(n:Nat):(dec n).length=TU n:=Jr ..
theorem eV{n:Nat}(h:n<10):dec n=[K3 n]:=by
 unfold dec;rw[Io h];show []++[K3 (n % 10)]=_;rw[YD h];rfl
theorem Zgn{n:Nat}(h:10<=n):dec n=dec (n/10)++[K3 (n % 10)]:=by
 unfold dec;rw[G9 h];rfl
def Km(z:Int):List UInt8:=if z<0 then 45::dec z.natAbs else dec z.natAbs
section
open Go.Proofs N8
def zf:List AV:=List.replicate 512 (nI .u8 0)
def z37:List AV:=[nI .i64 0,.bool false,nI .i64 0,nI .i64 0,.nils]++List.replicate 32 (nI .u8 0)
def ZoU:List UInt8:=[108,101,110,32,111,117,116,32,111,102,32,114,97,110,103,101]
def ZoV:List UInt8:=[99,97,110,110,111,116,32,98,101,32,110,101,103,97,116,105,118,101]
def ZoW:List UInt8:=[98,121,116,101,115,58,32,110,101,103,97,116,105,118,101,32,82,101,112,101,97,116,32,99,111,117,110,116]
def ZkD:List UInt8:=[98,121,116,101,115,58,32,82,101,112,101,97,116,32,111,117,116,112,117,116,32,108,101,110,103,116,104,32,111,118,101,114,102,108,111,119]
def JG:List UInt8:=[48,49,50,51,52,53,54,55,56,57,97,98,99,100,101,102,103,104,105,106,107,108,109,110,111,112,113,114,115,116,117,118,119,120,121,122]
def RW:List UInt8:=[48,48,48,49,48,50,48,51,48,52,48,53,48,54,48,55,48,56,48,57,49,48,49,49,49,50,49,51,49,52,49,53,49,54,49,55,49,56,49,57,50,48,50,49,50,50,50,51,50,52,50,53,50,54,50,55,50,56,50,57,51,48,51,49,51,50,51,51,51,52,51,53,51,54,51,55,51,56,51,57,52,48,52,49,52,50,52,51,52,52,52,53,52,54,52,55,52,56,52,57,53,48,53,49,53,50,53,51,53,52,53,53,53,54,53,55,53,56,53,57,54,48,54,49,54,50,54,51,54,52,54,53,54,54,54,55,54,56,54,57,55,48,55,49,55,50,55,51,55,52,55,53,55,54,55,55,55,56,55,57,56,48,56,49,56,50,56,51,56,52,56,53,56,54,56,55,56,56,56,57,57,48,57,49,57,50,57,51,57,52,57,53,57,54,57,55,57,56,57,57]
def ZkE:List UInt8:=[115,116,114,99,111,110,118,58,32,105,108,108,101,103,97,108,32,65,112,112,101,110,100,73,110,116,47,70,111,114,109,97,116,73,110,116,32,98,97,115,101]
def tB:List UInt8:=[0,1,2,2,3,3,3,3,4,4,4,4,4,4,4,4,5,5,5,5,5,5,5,5,5,5,5,5,5,5,5,5,6,6,6,6,6,6,6,6,6,6,6,6,6,6,6,6,6,6,6,6,6,6,6,6,6,6,6,6,6,6,6,6,7,7,7,7,7,7,7,7,7,7,7,7,7,7,7,7,7,7,7,7,7,7,7,7,7,7,7,7,7,7,7,7,7,7,7,7,7,7,7,7,7,7,7,7,7,7,7,7,7,7,7,7,7,7,7,7,7,7,7,7,7,7,7,7,8,8,8,8,8,8,8,8,8,8,8,8,8,8,8,8,8,8,8,8,8,8,8,8,8,8,8,8,8,8,8,8,8,8,8,8,8,8,8,8,8,8,8,8,8,8,8,8,8,8,8,8,8,8,8,8,8,8,8,8,8,8,8,8,8,8,8,8,8,8,8,8,8,8,8,8,8,8,8,8,8,8,8,8,8,8,8,8,8,8,8,8,8,8,8,8,8,8,8,8,8,8,8,8,8,8,8,8,8,8,8,8,8,8,8,8,8,8,8,8,8,8,8,8,8,8,8,8]
def c18:CF:=⟨[(Uv,none),(VL,none)],(Zi (Za (Zk (k (nI .i64 0))) st2<|Za (Zk (k (.str []))) Tc<|Zc) (Zi (Zi (Za (Zk Y3) VV<|Za (UG Ve (k (.str [46,119,104,46,46,119,104,46,116,111,99])) Js false) Uu<|Zc) (Yo WH (Zi (Za (Zk (k (nI .i64 4))) st2<|Za (Zk (k (.str []))) Tc<|Zc) YX) Zc)) (Zi (Za (Zk Y3) V2<|Za (ZT 29 [WD]) Ts<|Za (Zk Vc) XL<|Zc) (Zi (Za (Zk XQ) Wj<|Za (ZT 30 [XF]) Wm<|Za (Zk XO) st2<|Zc) (Zi (Za (Zk Y3) WE<|Za (Zk XQ) WA<|Za (ZT 31 [X6,XR]) W2<|Za (Zk Wi) Vq<|Zc) (Zi (Za (Yr (k (.ptr 0 0))) W9<|Za (Zk Uv) W3<|Za (Iu UB .nilf false Wk Ww) Vm<|Za (Zk Wa) Vw<|Za (Zk XQ) V0<|Za (Mo WW Tryz.prog [WX,WC]) Ue<|Za (Zk VU) Tc<|Zc) (Zi (Zi (Za (Zk VL) UU<|Za (ZT 32 [VJ]) UV<|Za (Ns VK) UZ<|Za (Zk Ui) UW<|Z5 V1 false (Zk Uv) Ti<|Z5 V1 false (UG UY (k (nI .i64 3)) UB true) Tj<|Z5 V1 false (Zk UD) U0<|Z5 Uq true (Zk VL) Tk<|Z5 Uq true (UG UE (k (.str [])) Js false) TP<|Z5 V1 false (XA Uq VP (k (.bool false))) TW<|Za (XA V1 (k (.bool true)) Sa) SU<|Za (Zk Sn) Rp<|Z5 SP false (Zk Uv) RM<|Z5 SP false (UG RA (k (nI .i64 2)) UB false) QH<|Z5 SP false (Zk Rc) QI<|Z5 RB true (Zk XQ) Pe<|Z5 RB true (Vv RT (some (k (nI .i64 4))) none none) Pf<|Z5 RB true (ZT 33 [Q8]) QW<|Z5 RB true (Ns QM) Pw<|Z5 SP false (XA RB Pu (k (.bool false))) P3<|Za (XA SP (k (.bool true)) QN) P4<|Za (Zk PO) Oe<|Z5 QC false (Zk Wa) QX<|Z5 QC false (UG Pv (k (.str [47])) Js false) Of<|Za (XA QC (k (.bool true)) Qr) OK<|Zc) (Yo PP (Zi (Za (Zk (k (nI .i64 0))) st2<|Za (Zk (k (.str []))) Tc<|Zc) YX) Zc)) (Zi (Za (Zk Uv) Nd<|Za (Zk VL) Nf<|Za (Zk P9) st2<|Za (Zk Q9) Tc<|Zc) YX))))))))⟩
def c29:CF:=⟨[(Uv,none)],(Zi (Za (Zk (k (.str []))) st2<|Zc) (Zi (Za (Zk Y3) Tc<|Za (Zk Y3) XL<|Za (ZT 52 [XQ,(k (nI .u8 47))]) Vq<|Za (Y4 Wa (k (nI .i64 1))) VV<|Za (Vv VL (some Ve) none none) Uu<|Za (Zk WH) st2<|Zc) YX))⟩
def c52:CF:=⟨[(XQ,none)],(Zi (Za (Zk (k (nI .i64 0))) XL<|Zc) (Zi (Za (Zk Y3) Vq<|Za (Zk Wv) VV<|Za (ZT 72 [Wa,Ve]) Uu<|Za (Zk WH) XL<|Zc) YX))⟩
def Ec:D:=(Zi (Zi (Za (Zk Wa) Ts<|Za (Xi Vc (k (nI .i64 0)) Re Vi) Wj<|Zc) (Yo XF Zc (WV 0))) (Zi (YT 1 (Zi (Za (Zk Y3) WA<|Za (Zk Wa) W2<|Za (XW XR Wi) W9<|Za (Zk Wv) W3<|Za (UG Wk Ww UB false) Vm<|Zc) (Yo WW (Zi (Za (Zk Wa) Vw<|Za (Zk WX) XL<|Zc) YX) Zc))) (Za (Zk Wa) Wm<|Za (VF XO (k (nI .i64 1))) WE<|Za (Zk X6) Vq<|Zc)))
def c72:CF:=⟨[(XQ,none)],(Zi (Za (Zk (k (nI .i64 0))) XL<|Zc) (Zi (Zi (Za (Zk Y3) VV<|Za (Wn Ve) Uu<|Za (VF WH (k (nI .i64 1))) V2<|Za (Zk WD) Vq<|Zc) (YT 0 (W5 Ec))) (Zi (Za (Zk (k (.int .i64 (.negSucc 0)))) XL<|Zc) YX)))⟩
def c30:CF:=⟨[(Uv,none)],(Zi (Za (Zk (k (nI .i64 0))) st2<|Zc) (Zi (YT 0 (Zi (Za (Zk Y3) XL<|Za (UG XQ (k (.str [46,119,104,46,46,119,104,46,46,111,112,113])) Js false) Vq<|Za (Zk Wa) Tc<|Zc) (Yo VL (Zi (Za (Zk (k (nI .i64 3))) st2<|Zc) YX) (Zi (Za (Zk Y3) Uu<|Za (ZT 53 [WH,(k (.str [46,119,104,46]))]) V2<|Za (Zk WD) VV<|Zc) (Yo Ve (Zi (Za (Zk (k (nI .i64 2))) st2<|Zc) YX) Zc))))) (Zi (Za (Zk (k (nI .i64 1))) st2<|Zc) YX)))⟩
def c53:CF:=⟨[(XQ,none)],(Zi (Za (Zk (k (.bool false))) XL<|Zc) (Zi (Za (Zk Y3) Vq<|Za (Zk Wv) VV<|Za (ZT 73 [Wa,Ve]) Uu<|Za (Zk WH) XL<|Zc) YX))⟩
def c73:CF:=⟨[(XQ,none)],(Zi (Za (Zk (k (.bool false))) XL<|Zc) (Zi (Za (Zk Y3) Vq<|Za (Wn Wa) VV<|Za (Zk Wv) Uu<|Za (Wn WH) V2<|Za (Xi Ve WD Re Vi) Ts<|Za (Zk Vc) Wj<|Z5 XF true (Zk Y3) Wm<|Z5 XF true (Zk Wv) WE<|Z5 XF true (Wn X6) WA<|Z5 XF true (Vv XO none (some XR) none) W2<|Z5 XF true (Zk Wv) W9<|Z5 XF true (UG Wi Wk Js false) W3<|Za (XA XF Ww (k (.bool false))) Vm<|Za (Zk WW) XL<|Zc) YX))⟩
def c31:CF:=⟨[(XQ,none)],(Zi (Za (Zk (k (.str []))) XL<|Zc) (Zi (Za (Zk Y3) Vq<|Za (Zk Wv) VV<|Za (ZT 54 [Wa,Ve]) Uu<|Za (Zk WH) XL<|Zc) YX))⟩
def c54:CF:=⟨[(XQ,none)],(Zi (Za (Zk (k (.str []))) XL<|Zc) (Zi (Zi (Za (Zk Y3) Vq<|Za (Zk Wv) VV<|Za (ZT 74 [Wa,Ve]) Uu<|Zc) (Yo WH (Zi (Za (Zk Y3) V2<|Za (Zk Y3) Ts<|Za (Wn Vc) Wj<|Za (Zk Wv) Wm<|Za (Wn XO) WE<|Za (VF XF X6) WA<|Za (Vv WD none (some XR) none) W2<|Za (Zk Wi) XL<|Zc) YX) Zc)) (Zi (Za (Zk Y3) W9<|Za (Zk Wk) XL<|Zc) YX)))⟩
def c74:CF:=⟨[(XQ,none)],(Zi (Za (Zk (k (.bool false))) XL<|Zc) (Zi (Za (Zk Y3) Vq<|Za (Wn Wa) VV<|Za (Zk Wv) Uu<|Za (Wn WH) V2<|Za (Xi Ve WD Re Vi) Ts<|Za (Zk Vc) Wj<|Z5 XF true (Zk Y3) Wm<|Z5 XF true (Zk Y3) WE<|Z5 XF true (Wn X6) WA<|Z5 XF true (Zk Wv) W2<|Z5 XF true (Wn Wi) W9<|Z5 XF true (VF XR Wk) W3<|Z5 XF true (Vv XO (some Ww) none none) Vm<|Z5 XF true (Zk Wv) Vw<|Z5 XF true (UG WW WX Js false) V0<|Za (XA XF WC (k (.bool false))) Ue<|Za (Zk VU) XL<|Zc) YX))⟩
def Zcz:CF:=⟨[(XQ,none)],(Zi (Za (Zk (k (.str []))) XL<|Zc) (Zi (Za (Zk Y3) Vq<|Za (Zk Wv) VV<|Za (Y4 Wa Ve) Uu<|Za (Zk WH) XL<|Zc) YX))⟩
def ZcA:CF:=⟨[(XQ,none)],(Zi (Za (Zk (k (.str []))) XL<|Zc) (Zi (Za (Zk Y3) Vq<|Za (Zk Wv) VV<|Za (Vv Ve (some (k (nI .i64 4))) none none) Uu<|Za (Y4 Wa WH) V2<|Za (Zk WD) XL<|Zc) YX))⟩
def ZcB:CF:=⟨[(XQ,none)],(Zi (Za (Zk (k (.str []))) XL<|Zc) (Zi (Za (Zk Y3) Vq<|Za (ZT 31 [Wa,(k (.str [47]))]) VV<|Za (Zk Ve) XL<|Zc) YX))⟩
def c32:CF:=⟨[(Uv,none)],(Zi (Za (Zk (k (.bool false))) st2<|Zc) (Zi (Za (Zk Y3) XL<|Za (ZT 55 [XQ]) Vq<|Za (Zk Wa) Tc<|Zc) (Zi (Za (Zk Y3) VV<|Za (Wn Ve) Uu<|Za (Xi WH (k (nI .i64 4080)) PR Sk) V2<|Za (Zk WD) Ts<|Z5 Vc true (Zk VL) Wj<|Z5 Vc true (X9 XF) Wm<|Z5 Vc true (Xi XO (k (nI .i64 255)) Wf Xo) WE<|Za (XA Vc X6 (k (.bool false))) WA<|Za (Zk XR) W2<|Z5 Wi true (Zk VL) W9<|Z5 Wi true (ZT 56 [Wk,(k (.func 57 [] []))]) W3<|Z5 Wi true (Ns Ww) Vm<|Za (XA Wi WW (k (.bool false))) Vw<|Za (Zk WX) st2<|Zc) YX)))⟩
def c55:CF:=⟨[(Uv,none)],(Zi (Za (Zk (k .nils)) st2<|Zc) (Zi (Zi (Za (Zk Y3) Tc<|Za (UG VL (k (.str [])) Js false) XL<|Zc) (Yo XQ (Zi (Za (Zk (k .nils)) st2<|Zc) YX) Zc)) (Zi (Za (Zk Y3) Vq<|Za (ZT 75 [Wa,(k (.str [47]))]) VV<|Za (Zk Ve) st2<|Zc) YX)))⟩
def c75:CF:=⟨[(XQ,none)],(Zi (Za (Zk (k .nils)) XL<|Zc) (Zi (Za (Zk Y3) Vq<|Za (Zk Wv) VV<|Za (ZT 92 [Wa,Ve,(k (nI .i64 0)),(k (.int .i64 (.negSucc 0)))]) Uu<|Za (Zk WH) XL<|Zc) YX))⟩
def Bq:D:=(Zi (Zi (Za (Zk XF) QH<|Za (Zk VL) QI<|Za (Xi Rc RB Wf Xo) Pe<|Zc) (Yo RT Zc (WV 0))) (YT 1 (Zi (Za (Zk Y3) Pf<|Za (Zk Wv) QW<|Za (ZT 82 [Q8,QM]) Pw<|Za (Zk Pu) Wm<|Zc) (Zi (Zi (Za (Zk XO) P3<|Za (Xi QN (k (nI .i64 0)) Wf Xo) P4<|Zc) (Yo PO (WV 0) Zc)) (Zi (Za (Zk Vc) Oe<|Za (Zk XF) QX<|Za (Zk Y3) Of<|Za (Zk XO) OK<|Za (Zk Uv) Nd<|Za (Y4 PP P9) Nf<|Za (Vv Qr none (some Q9) none) Nx<|Za (Vn QC Pv 1) NN<|Za (Xy NG NF 1) d0<|Zc) (Zi (Za (Zk Y3) NO<|Za (Zk XO) NQ<|Za (Zk Wv) MH<|Za (Wn Md) Mu<|Za (Y4 RU Nm) Mv<|Za (Vv MB (some Nn) none none) MI<|Za (Zk Me) st0<|Zc) (Za (Zk XF) Mw<|Za (Y4 O1 (k (nI .i64 1))) MJ<|Za (Zk MC) Wj<|Zc)))))))
def c92:CF:=⟨[(WD,none)],(Zi (Za (Zk (k .nils)) V2<|Zc) (Zi (Zi (Za (Zk VL) WE<|Za (UG X6 (k (nI .i64 0)) UB false) WA<|Zc) (Yo XR (Zi (Za (Zk (k .nils)) V2<|Zc) YX) Zc)) (Zi (Zi (Za (Zk Wv) W2<|Za (UG Wi (k (.str [])) Js false) W9<|Zc) (Yo Wk (Zi (Za (Zk Y3) W3<|Za (Zk VL) Vm<|Za (ZT 109 [Ww,WW]) Vw<|Za (Zk WX) V2<|Zc) YX) Zc)) (Zi (Zi (Za (Zk VL) V0<|Za (Xi WC (k (nI .i64 0)) Wf Xo) Ue<|Zc) (Yo VU (Za (Zk Y3) UU<|Za (Zk Wv) UV<|Za (ZT 110 [VJ,VK]) UZ<|Za (Y4 Ui (k (nI .i64 1))) UW<|Za (Zk V1) Tc<|Zc) Zc)) (Zi (Za (Zk VL) Ti<|Za (Zk Y3) Tj<|Za (Wn UD) U0<|Za (Y4 Uq (k (nI .i64 1))) Tk<|Za (TS false [UY,UE]) TP<|Za (Zk VP) Tc<|Zc) (Zi (Za (Zk VL) TW<|Za (Fe 9 1 16 [(.str [])] Sa Sa) SU<|Za (Zk Sn) Ts<|Zc) (Zi (Za (Zk VL) Rp<|Za (VF SP (k (nI .i64 1))) RM<|Za (Zk RA) Tc<|Zc) (Zi (Za (Zk (k (nI .i64 0))) Wj<|Zc) (Zi (YT 0 (W5 Bq)) (Zi (Za (Zk Vc) Ln<|Za (Zk XF) Lo<|Za (Zk Y3) MK<|Za (Vn Ov Lc 1) Lq<|Za (Xy No Mf 1) d0<|Zc) (Zi (Za (Zk Vc) ML<|Za (Zk XF) NR<|Za (Y4 O2 (k (nI .i64 1))) MM<|Za (RC 1 Mg none (some MD) none) MN<|Za (Zk Np) V2<|Zc) YX)))))))))))⟩
def Zcu:D:=(YT 1 (Zi (Za (Zk Y3) Ue<|Za (Zk Wv) UU<|Za (ZT 82 [VU,VJ]) UV<|Za (Zk VK) VV<|Zc) (Zi (Zi (Za (Zk Ve) UZ<|Za (UG Ui (k (.int .i64 (.negSucc 0))) UB false) UW<|Zc) (Yo V1 (Zi (Za (Zk Wa) Ti<|Za (Zk UY) XL<|Zc) YX) Zc)) (Zi (Za (Zk Wa) Tj<|Za (Y4 UD (k (nI .i64 1))) U0<|Za (Zk Uq) Vq<|Zc) (Za (Zk Y3) Tk<|Za (Zk Ve) TP<|Za (Zk Wv) TW<|Za (Wn Sa) SU<|Za (Y4 VP Sn) Rp<|Za (Vv UE (some SP) none none) RM<|Za (Zk RA) st0<|Zc)))))
def Zct:CF:=⟨[(XQ,none)],(Zi (Za (Zk (k (nI .i64 0))) XL<|Zc) (Zi (Zi (Za (Zk Wv) Uu<|Za (Wn WH) V2<|Za (UG WD (k (nI .i64 0)) UB false) Ts<|Zc) (Yo Vc (Zi (Za (Zk Y3) Wj<|Za (ZT 122 [XF]) Wm<|Za (Y4 XO (k (nI .i64 1))) WE<|Za (Zk X6) XL<|Zc) YX) Zc)) (Zi (Zi (Za (Zk Wv) WA<|Za (Wn XR) W2<|Za (UG Wi (k (nI .i64 1)) UB false) W9<|Zc) (Yo Wk (Zi (Za (Zk Y3) W3<|Za (Zk Wv) Vm<|Za (XW WW (k (nI .i64 0))) Vw<|Za (ZT 124 [Ww,WX]) V0<|Za (Zk WC) XL<|Zc) YX) Zc)) (Zi (Za (Zk (k (nI .i64 0))) Vq<|Zc) (YT 0 (W5 Zcu))))))⟩
def c82:CF:=⟨[(XQ,none)],(Zi (Za (Zk (k (nI .i64 0))) XL<|Zc) (Zi (Za (Zk Y3) Vq<|Za (Zk Wv) VV<|Za (ZT 102 [Wa,Ve]) Uu<|Za (Zk WH) XL<|Zc) YX))⟩
def Zcs:D:=(Zi (Zi (Za (Zk WD) MJ<|Za (Zk Vc) Ln<|Za (Xi MC Ov Wf Xo) Lo<|Zc) (Yo Lc Zc (WV 1))) (YT 2 (Zi (Zi (Za (Zk Y3) MK<|Za (Zk WD) Lq<|Za (XW Mf No) ML<|Za (Zk Ve) NR<|Za (UG Mg O2 UB true) MM<|Zc) (Yo MD (Zi (Za (Zk Y3) MN<|Za (Zk WD) Lr<|Za (Y4 Nq (k (nI .i64 1))) Lt<|Za (Zk Vc) KH<|Za (Vv Np (some Ld) (some Ko) none) KI<|Za (Zk Ve) KJ<|Za (ZT 78 [Kp,Le]) Jb<|Za (Zk K4) Wm<|Zc) (Zi (Zi (Za (Zk XO) Jc<|Za (Xi Ow (k (nI .i64 0)) Wf Xo) Jd<|Zc) (Yo K5 (Zi (Za (Zk (k (.int .i64 (.negSucc 0)))) XL<|Zc) YX) Zc)) (Za (Zk WD) Je<|Za (Zk XO) Jf<|Za (Y4 ME (k (nI .i64 1))) J5<|Za (Y4 K6 LC) IN<|Za (Zk Lf) V2<|Zc))) Zc)) (Zi (Zi (Za (Zk Y3) Gg<|Za (Zk WD) Gh<|Za (Y4 Jz (k (nI .i64 1))) Gi<|Za (XW Kq HG) FJ<|Za (Zk WH) FK<|Za (UG Cb GS UB false) FM<|Za (Zk GU) FN<|Z5 O3 true (Zk Y3) Ch<|Z5 O3 true (Zk WD) Ci<|Z5 O3 true (Zk WD) Cj<|Z5 O3 true (Zk Wa) Ck<|Z5 O3 true (Y4 K7 GV) Cl<|Z5 O3 true (Vv IJ (some Cc) (some Cd) none) Cm<|Z5 O3 true (Zk Wv) Cn<|Z5 O3 true (UG Ce Cf Js false) Co<|Za (XA O3 JA (k (.bool false))) AQ<|Zc) (Yo BY (Zi (Za (Zk WD) zH<|Za (Zk zm) XL<|Zc) YX) Zc)) (Zi (Za (Zk WD) Cp<|Za (Y4 En (k (nI .i64 1))) Cq<|Za (Zk Eo) V2<|Zc) (Zi (Za (Zk XF) AR<|Za (Y4 Lg (k (nI .i64 1))) AS<|Za (Zk zn) Wj<|Zc) (Zi (Za (Zk Wa) AT<|Za (Yr (k (.ptr 4 0))) J2<|Za (Xi BZ Jx PR Sk) J3<|Za (Zk MX) I5<|Z5 MY true (Zk XF) I6<|Z5 MY true (Zk WD) I7<|Z5 MY true (ZT 112 [IW]) I8<|Z5 MY true (Xi GO KT SQ VW) I9<|Za (XA MY NA (k (.bool false))) J4<|Zc) (Yo Ly (Zi (Za (Zk Y3) FG<|Za (Zk WD) AP<|Za (Vv Dj (some BR) none none) DS<|Za (Zk Wv) DT<|Za (ZT 113 [BT,Dk]) DU<|Za (Zk Dl) WE<|Zc) (Zi (Zi (Za (Zk X6) DV<|Za (Xi KU (k (nI .i64 0)) Re Vi) DW<|Zc) (Yo Dm (Zi (Za (Zk X6) DX<|Za (Zk WD) DY<|Za (Y4 Dn Do) DZ<|Za (Zk BU) XL<|Zc) YX) Zc)) (Zi (Za (Zk (k (.int .i64 (.negSucc 0)))) XL<|Zc) YX))) (Zi (Za (Zk Wa) D0<|Za (Yr (k (.ptr 4 0))) D1<|Za (Xi Dp Dq SQ VW) D2<|Za (Zk Lz) D3<|Z5 LA true (Zk XF) D4<|Z5 LA true (Zk WD) FH<|Z5 LA true (MF Dr (k (nI .u64 4))) FI<|Z5 LA true (Y4 (k (nI .i64 4)) PN) xD<|Z5 LA true (Xi BW yu Re Vi) xE<|Za (XA LA yv (k (.bool false))) xF<|Za (Zk yx) xG<|Z5 GP true (Zk WD) xH<|Z5 GP true (Zk Vc) xI<|Z5 GP true (Xi GQ yy Wf Xo) xJ<|Za (XA GP yz (k (.bool false))) xK<|Zc) (Yo KV (Zi (Za (Zk Y3) xL<|Za (Zk WD) xM<|Za (Vv yA (some IX) none none) xN<|Za (Zk Wv) rC<|Za (ZT 119 [yB,uM]) rD<|Za (Zk GR) WA<|Zc) (Zi (Zi (Za (Zk XR) rE<|Za (Xi uN (k (nI .i64 0)) Wf Xo) rF<|Zc) (Yo uO (Zi (Za (Zk (k (.int .i64 (.negSucc 0)))) XL<|Zc) YX) Zc)) (Zi (Za (Zk WD) rH<|Za (Zk XR) rI<|Za (Y4 uP uQ) rJ<|Za (Zk uR) XL<|Zc) YX))) Zc))))))))))
def qA:CF:=⟨[(XQ,none)],(Zi (Za (Zk (k (nI .i64 0))) XL<|Zc) (Zi (Za (Zk Wv) W2<|Za (Wn Wi) W9<|Za (Zk Wk) Vq<|Zc) (Zi (YT 0 (Zi (Za (Zk Wa) Vm<|Za (UG WW (k (nI .i64 0)) UB false) Vw<|Za (Zk WX) V0<|Z5 WC false (Zk Wv) Ue<|Z5 WC false (Zk Y3) UU<|Z5 WC false (UG VU VJ Js false) UV<|Za (XA WC (k (.bool true)) VK) UZ<|Za (Zk Ui) W3<|Zc) (Yo Ww (Zi (Za (Zk (k (nI .i64 0))) XL<|Zc) YX) (Zi (Za (Zk Wa) Ti<|Za (UG UY (k (nI .i64 1)) UB false) Tj<|Za (Zk UD) UW<|Zc) (Yo V1 (Zi (Za (Zk Y3) U0<|Za (Zk Wv) Tk<|Za (XW UE (k (nI .i64 0))) TP<|Za (ZT 78 [Uq,VP]) TW<|Za (Zk Sa) XL<|Zc) YX) (Zi (Za (Zk Wa) Rp<|Za (Zk Y3) RM<|Za (Wn RA) QH<|Za (Xi SP Rc Re Vi) QI<|Za (Zk RB) SU<|Zc) (Yo Sn (Zi (Za (Zk (k (.int .i64 (.negSucc 0)))) XL<|Zc) YX) (Zi (Za (Zk Wa) Pf<|Za (Yr (k (.ptr 4 0))) QW<|Za (Xi Q8 QM PR Sk) Pw<|Za (Zk Pu) P3<|Z5 QN true (Zk Y3) P4<|Z5 QN true (Wn PO) Oe<|Z5 QN true (Xi QC (k (nI .i64 64)) PR Sk) QX<|Za (XA QN Pv (k (.bool false))) Of<|Za (Zk Qr) Pe<|Zc) (Yo RT (Zi (Za (Zk Y3) OK<|Za (Zk Wv) Nd<|Za (ZT 113 [PP,P9]) Nf<|Za (Zk Q9) XL<|Zc) YX) Zc))))))))) (Zi (Za (Zk Wv) Nx<|Za (XW NF (k (nI .i64 0))) NN<|Za (Zk NG) VV<|Zc) (Zi (Za (Zk Wv) NO<|Za (XW MB (k (nI .i64 1))) NQ<|Za (Zk RU) Uu<|Zc) (Zi (Za (Zk (k (nI .i64 0))) V2<|Zc) (Zi (Za (Zk Y3) MH<|Za (Wn Md) Mu<|Za (Zk Wa) Mv<|Za (VF Nm Nn) MI<|Za (Y4 Me (k (nI .i64 1))) Mw<|Za (Zk O1) Ts<|Zc) (Zi (Za (Zk (k (nI .i64 0))) Wj<|Zc) (Zi (YT 1 (W5 Zcs)) (Zi (Za (Zk (k (.int .i64 (.negSucc 0)))) XL<|Zc) YX))))))))))⟩
def c56:CF:=⟨[(XQ,none)],(Zi (Za (Zk (k (.bool false))) XL<|Zc) (Zi (Za (Zk Y3) Vq<|Za (Zk Wv) VV<|Za (ZT 76 [Wa,Ve]) Uu<|Za (Xi WH (k (nI .i64 0)) Re Vi) V2<|Za (Zk WD) XL<|Zc) YX))⟩
def Ed:D:=(Zi (Za (Xi WD WH Wf Xo) Ts<|Zc) (Zi (Yo Vc Zc (WV 0)) (Zi (YT 1 (Zi (Za (Zk WD) Wj<|Za (Zk XF) Vq<|Zc) (Zi (Za (Zk Wv) Wm<|Za (Zk Y3) WE<|Za (Zk Wa) WA<|Za (Vn X6 XR 1) W2<|Za (Yr Wi) W9<|Za (Mo XO Tryz.prog [Wk]) W3<|Zc) (Yo Ww (Zi (Za (Zk Wa) Vm<|Za (Zk WW) XL<|Zc) YX) Zc)))) (Za (Y4 WD (k (nI .i64 1))) Vw<|Za (Zk WX) V2<|Zc))))
def c76:CF:=⟨[(XQ,none)],(Zi (Za (Zk (k (nI .i64 0))) XL<|Zc) (Zi (Zi (Za (Zk Y3) VV<|Za (X9 Ve) Uu<|Za (Zk (k (nI .i64 0))) V2<|Zc) (YT 0 (W5 Ed))) (Zi (Za (Zk (k (.int .i64 (.negSucc 0)))) XL<|Zc) YX)))⟩
def c57:CF:=⟨[(Uv,none)],(Zi (Za (Zk (k (.bool false))) st2<|Zc) (Zi (Za (Zk Y3) Tc<|Za (ZT 33 [VL]) XL<|Za (Ns XQ) Vq<|Za (Zk Wa) st2<|Zc) YX))⟩
def c33:CF:=⟨[(Uv,none)],(Zi (Za (Zk (k (.bool false))) st2<|Zc) (Zi (Za (Zk Y3) Tc<|Za (UG VL (k (.str [])) Js true) XL<|Za (Zk XQ) Vq<|Z5 Wa true (Zk Y3) VV<|Z5 Wa true (Wn Ve) Uu<|Z5 Wa true (Xi WH (k (nI .i64 251)) PR Sk) V2<|Za (XA Wa WD (k (.bool false))) Ts<|Za (Zk Vc) Wj<|Z5 XF true (Zk Y3) Wm<|Z5 XF true (UG XO (k (.str [46])) Js true) WE<|Za (XA XF X6 (k (.bool false))) WA<|Za (Zk XR) W2<|Z5 Wi true (Zk Y3) W9<|Z5 Wi true (UG Wk (k (.str [46,46])) Js true) W3<|Za (XA Wi Ww (k (.bool false))) Vm<|Za (Zk WW) Vw<|Z5 WX true (Zk Y3) V0<|Z5 WX true (ZT 58 [WC,(k (.str [47,0]))]) Ue<|Z5 WX true (Ns VU) UU<|Za (XA WX VJ (k (.bool false))) UV<|Za (Zk VK) UZ<|Z5 Ui true (Zk Y3) UW<|Z5 Ui true (ZT 53 [V1,(k (.str [46,119,104,46]))]) Ti<|Z5 Ui true (Ns UY) Tj<|Za (XA Ui UD (k (.bool false))) U0<|Za (Zk Uq) st2<|Zc) YX))⟩
def c58:CF:=⟨[(XQ,none)],(Zi (Za (Zk (k (.bool false))) XL<|Zc) (Zi (Za (Zk Y3) Vq<|Za (Zk Wv) VV<|Za (ZT 77 [Wa,Ve]) Uu<|Za (Xi WH (k (nI .i64 0)) Re Vi) V2<|Za (Zk WD) XL<|Zc) YX))⟩
def Ee:D:=(Zi (Zi (Za (Zk WD) RM<|Za (Zk Y3) QH<|Za (Wn Rc) QI<|Za (Xi RA RB Wf Xo) Pe<|Zc) (Yo RT Zc (WV 0))) (Zi (YT 1 (Zi (Za (Zk Y3) Pw<|Za (Zk WD) P3<|Za (XW Pu QN) P4<|Za (ZT 96 [Ve,PO]) Oe<|Zc) (Yo QC (Zi (Za (Zk WD) QX<|Za (Zk Pv) XL<|Zc) YX) Zc))) (Za (Zk WD) Pf<|Za (Y4 Q8 (k (nI .i64 1))) QW<|Za (Zk QM) V2<|Zc)))
def Hv:D:=(Zi (Za (lf PP) Nd<|Za (WJ P9 0) Nf<|Zc) (Zi (Yo Q9 Zc (WV 2)) (YT 3 (Zi (Za (WJ P9 1) Nx<|Za (WJ P9 2) NN<|Za (Zk NF) Ts<|Za (Zk NG) Wj<|Zc) (Zi (Za (Zk Wv) NO<|Za (Zk XF) NQ<|Za (ZT 93 [MB,RU]) MH<|Za (Xi Md (k (nI .i64 0)) Re Vi) Mu<|Zc) (Yo Nm (Zi (Za (Zk Vc) Mv<|Za (Zk Nn) XL<|Zc) YX) Zc))))))
def c77:CF:=⟨[(XQ,none)],(Zi (Za (Zk (k (nI .i64 0))) XL<|Zc) (Zi (Zi (Za (Zk Wv) Wm<|Za (UG XO (k (.str [])) Js false) WE<|Zc) (Yo X6 (Zi (Za (Zk (k (.int .i64 (.negSucc 0)))) XL<|Zc) YX) Zc)) (Zi (Zi (Za (Zk Wv) WA<|Za (Wn XR) W2<|Za (UG Wi (k (nI .i64 1)) UB false) W9<|Zc) (Yo Wk (Zi (Za (Zk Wv) W3<|Za (XW Ww (k (nI .i64 0))) Vm<|Za (Sw WW .i32) Vw<|Za (Zk WX) Vq<|Zc) (Zi (Zi (Za (Zk Wa) V0<|Za (Xi WC (k (nI .i32 128)) Re Vi) Ue<|Zc) (Yo VU (Za (Zk (k (nI .i32 65533))) Vq<|Zc) Zc)) (Zi (Za (Zk Y3) UU<|Za (Zk Wa) UV<|Za (ZT 93 [VJ,VK]) UZ<|Za (Zk Ui) XL<|Zc) YX))) Zc)) (Zi (Zi (Za (Zk Y3) UW<|Za (Wn V1) Ti<|Za (ZT 94 [UY]) Tj<|Zc) (Yo UD (Zi (Za (Zk Wv) Tk<|Za (ZT 95 [UE]) TP<|Za (Zk VP) U0<|Za (WJ Uq 0) TW<|Za (WJ Uq 1) SU<|Za (V9 151 Jg) VV<|Za (Xy Ve Sa 256) d0<|Za (Zk Sn) Uu<|Zc) (Zi (Za (Zk WH) Rp<|Zc) (Yo SP (Zi (Zi (Za (Zk (k (nI .i64 0))) V2<|Zc) (YT 0 (W5 Ee))) (Zi (Za (Zk (k (.int .i64 (.negSucc 0)))) XL<|Zc) YX)) Zc))) Zc)) (Zi (Zi (Za (Zk Y3) Of<|Za (CJ Qr) OK<|Zc) (YT 2 (W5 Hv))) (Zi (Za (Zk (k (.int .i64 (.negSucc 0)))) XL<|Zc) YX))))))⟩
def c94:CF:=⟨[(Uv,none)],(Zi (Za (Zk (k (.bool false))) st2<|Zc) (Zi (Za (Zk Y3) Tc<|Za (Xi VL (k (nI .i64 8)) SQ VW) XL<|Za (Zk XQ) st2<|Zc) YX))⟩
def Bs:D:=(Zi (Zi (Za (Zk XQ) VV<|Za (Zk Y3) Uu<|Za (Wn WH) V2<|Za (Xi Ve WD Wf Xo) Ts<|Zc) (Yo Vc Zc (WV 0))) (Zi (YT 1 (Zi (Za (Zk Y3) WE<|Za (Zk XQ) WA<|Za (XW X6 XR) W2<|Za (Zk Wi) Vq<|Zc) (Zi (Zi (Za (Zk Wa) W9<|Za (Xi Wk (k (nI .u8 128)) Re Vi) W3<|Zc) (Yo Ww (Zi (Za (Uk Uv 256) Vm<|Za (Xy Uv WW 256) d0<|Za (Zk (k (.bool false))) Tc<|Zc) YX) Zc)) (Za (Zk Wa) Vw<|Za (VE Uv WX 256 1) V0<|Za (Xy WC (k (.bool true)) 1) d0<|Zc)))) (Za (Zk XQ) Wj<|Za (Y4 XF (k (nI .i64 1))) Wm<|Za (Zk XO) XL<|Zc)))
def c95:CF:=⟨[(Uv,some (256,true)),(VL,none)],(Zi (Za (V9 151 Jg) st2<|Za (Zk (k (.bool false))) Tc<|Zc) (Zi (Zi (Za (Zk (k (nI .i64 0))) XL<|Zc) (YT 0 (W5 Bs))) (Zi (Za (Uk Uv 256) Ue<|Za (Xy Uv VU 256) d0<|Za (Zk (k (.bool true))) Tc<|Zc) YX)))⟩
def c96:CF:=⟨[(XQ,none)],(Zi (Za (Zk (k (.bool false))) XL<|Zc) (Zi (Za (Zk Y3) Vq<|Za (Zk Wv) VV<|Za (Tx Wa) Uu<|Za (VE WH Ve 256 1) V2<|Za (Yr WD) Ts<|Za (Zk Vc) XL<|Zc) YX))⟩
def Br:D:=(Zi (Za (lf uU) ZaX<|Za (WJ uV 0) ZaY<|Zc) (Zi (Yo dW Zc (WV 9)) (YT 10 (Zi (Za (WJ uV 1) ZaZ<|Za (WJ uV 2) Za0<|Za (Zk dX) Vq<|Za (Zk Du) VV<|Zc) (Zi (Za (Zk Ve) Za1<|Za (UG dY (k (nI .i32 65533)) UB false) Za2<|Zc) (Yo dZ (Zi (Za (Zk Wa) Za3<|Za (Zk d9) XL<|Zc) YX) Zc))))))
def Zgc:D:=(Zi (Zi (Za (Zk X6) Nx<|Za (Zk WH) NN<|Za (Wn NG) NO<|Za (Xi NF MB Wf Xo) NQ<|Zc) (Yo RU Zc (WV 3))) (Zi (YT 4 (Zi (W7 [⟨Zk Y3,none,[(st0,Y3)],Mv,.free,0,0⟩,⟨Zk Vc,none,[(Ts,Vc)],MI,.free,1,0⟩,⟨Zk X6,none,[(WE,X6)],Mw,.free,2,0⟩,⟨VF Me O1,none,[(MI,Me),(Mw,O1)],MJ,.free,3,6⟩,⟨XW Nn MC,none,[(Mv,Nn),(MJ,MC)],Ln,.free,4,15⟩,⟨Zk WH,none,[(Uu,WH)],Lo,.free,5,0⟩,⟨Zk WD,none,[(V2,WD)],MK,.free,6,0⟩,⟨Zk X6,none,[(WE,X6)],Lq,.free,7,0⟩,⟨VF Mf No,none,[(MK,Mf),(Lq,No)],ML,.free,8,192⟩,⟨XW Lc Mg,none,[(Lo,Lc),(ML,Mg)],NR,.free,9,480⟩,⟨UG Ov O2 UB true,none,[(Ln,Ov),(NR,O2)],MM,.free,10,1023⟩]) (Yo MD PG Zc))) (Za (Zk X6) MH<|Za (Y4 Md (k (nI .i64 1))) Mu<|Za (Zk Nm) WE<|Zc)))
def qC:D:=(Zi (Zi (Za (Zk Vc) UZ<|Za (Zk Y3) UW<|Za (Wn V1) Ti<|Za (Xi Ui UY Wf Xo) Tj<|Zc) (Yo UD Zc (WV 1))) (YT 2 (Zi (Zi (W7 [⟨Zk Y3,none,[(st0,Y3)],U0,.free,0,0⟩,⟨Zk Vc,none,[(Ts,Vc)],Tk,.free,1,0⟩,⟨XW Uq UE,none,[(U0,Uq),(Tk,UE)],TP,.free,2,3⟩,⟨Zk WH,none,[(Uu,WH)],TW,.free,3,0⟩,⟨Zk WD,none,[(V2,WD)],SU,.free,4,0⟩,⟨XW Sa Sn,none,[(TW,Sa),(SU,Sn)],Rp,.free,5,24⟩,⟨UG VP SP UB true,none,[(TP,VP),(Rp,SP)],RM,.free,6,63⟩]) (Yo RA (Zi (W7 [⟨Zk Y3,none,[(st0,Y3)],QH,.free,0,0⟩,⟨Zk Vc,none,[(Ts,Vc)],QI,.free,1,0⟩,⟨Y4 RB (k (nI .i64 1)),none,[(QI,RB)],Pe,.free,2,2⟩,⟨Vv Rc (some RT) none none,none,[(QH,Rc),(Pe,RT)],Pf,.free,3,7⟩,⟨Zk WH,none,[(Uu,WH)],QW,.free,4,0⟩,⟨Zk WD,none,[(V2,WD)],Pw,.free,5,0⟩,⟨XW QM Pu,none,[(QW,QM),(Pw,Pu)],P3,.free,6,48⟩,⟨ZT 59 [Q8,QN],none,[(Pf,Q8),(P3,QN)],P4,.eff,7,127⟩,⟨Zk PO,none,[(P4,PO)],Wm,.eff,8,255⟩]) (Zi (Zi (Za (Zk XO) Oe<|Za (Xi QC (k (nI .i64 0)) Wf Xo) QX<|Zc) (Yo Pv (Zi (Za (Zk (k (.int .i64 (.negSucc 0)))) XL<|Zc) YX) Zc)) (Za (Zk Vc) Of<|Za (Zk XO) OK<|Za (Y4 PP (k (nI .i64 1))) Nd<|Za (Y4 Qr P9) Nf<|Za (Zk Q9) Ts<|Zc))) Zc)) (Zi (Zi (Za (Zk (k (nI .i64 1))) WE<|Zc) (YT 3 (W5 Zgc))) (Zi (Zi (Za (Zk Vc) MN<|Za (Zk WD) Lr<|Za (VF Np Nq) Lt<|Za (Zk Ld) XL<|Zc) YX) (Zi Zc (Zi (Za (Zk XF) KH<|Za (Y4 Ko (k (nI .i64 1))) KI<|Za (Zk Kp) Wj<|Zc) (Zi (Za (Zk Vc) KJ<|Za (Y4 Le (k (nI .i64 1))) Jb<|Za (Zk K4) Ts<|Zc) (Zi (Za (Zk (k (.bool true))) Jc<|Z5 Ow true (Zk XF) Jd<|Z5 Ow true (Zk Vc) Je<|Z5 Ow true (ZT 112 [K6]) Jf<|Z5 Ow true (Xi K5 ME SQ VW) J5<|Za (XA Ow LC (k (.bool false))) IN<|Za (Zk Lf) Gg<|Z5 Kq true (Zk Vc) Gh<|Z5 Kq true (Zk Y3) Gi<|Z5 Kq true (Wn HG) FJ<|Z5 Kq true (Xi Jz Cb Wf Xo) FK<|Za (XA Kq GS (k (.bool false))) FM<|Za (Zk GU) FN<|Z5 O3 false (Zk (k (.bool false))) Ch<|Z5 IJ true (Zk XF) Ci<|Z5 IJ true (Zk Vc) Cj<|Z5 IJ true (MF K7 (k (nI .u64 4))) Ck<|Z5 IJ true (Y4 (k (nI .i64 4)) GV) Cl<|Z5 IJ true (Xi Cc Cd Re Vi) Cm<|Z5 O3 false (XA IJ Ce (k (.bool false))) Cn<|Z5 O3 false (Zk Cf) Co<|Z5 JA true (Zk Vc) AQ<|Z5 JA true (Zk Y3) zH<|Z5 JA true (Wn zm) Cp<|Z5 JA true (Xi BY En Wf Xo) Cq<|Z5 O3 false (XA JA Eo (k (.bool false))) AR<|Za (XA O3 (k (.bool true)) Lg) AS<|Zc) (Yo zn PG Zc))))))))))
def Zgd:D:=(Zi (Zi (Za (Zk Ww) rH<|Za (Zk WH) rI<|Za (Wn uQ) rJ<|Za (Xi uP uR Wf Xo) lQ<|Zc) (Yo nH Zc (WV 7))) (Zi (YT 8 (Zi (W7 [⟨Zk Y3,none,[(st0,Y3)],xP,.free,0,0⟩,⟨Zk Vc,none,[(Ts,Vc)],xQ,.free,1,0⟩,⟨Zk Ww,none,[(W3,Ww)],xR,.free,2,0⟩,⟨VF Jy yD,none,[(xQ,Jy),(xR,yD)],xS,.free,3,6⟩,⟨XW yC yE,none,[(xP,yC),(xS,yE)],xT,.free,4,15⟩,⟨Zk WH,none,[(Uu,WH)],xU,.free,5,0⟩,⟨Zk WD,none,[(V2,WD)],xV,.free,6,0⟩,⟨Zk Ww,none,[(W3,Ww)],xW,.free,7,0⟩,⟨VF yH yI,none,[(xV,yH),(xW,yI)],xX,.free,8,192⟩,⟨XW yG yJ,none,[(xU,yG),(xX,yJ)],xY,.free,9,480⟩,⟨UG yF yK UB true,none,[(xT,yF),(xY,yK)],rM,.free,10,1023⟩]) (Yo BX (WV 6) Zc))) (Za (Zk Ww) lR<|Za (Y4 Ds (k (nI .i64 1))) rL<|Za (Zk uS) W3<|Zc)))
def Zge:D:=(Zi (Zi (Za (Zk Vc) D3<|Za (Zk Y3) D4<|Za (Wn BW) FH<|Za (Xi LA Dr Wf Xo) FI<|Zc) (Yo PN Zc (WV 5))) (Zi (YT 6 (Zi (Za (Zk Y3) xF<|Za (Zk Vc) xG<|Za (XW yx GP) xH<|Za (Zk Wi) xI<|Za (UG GQ yy UB false) xJ<|Za (Zk yz) xK<|Z5 KV true (Zk Y3) xL<|Z5 KV true (Zk Vc) xM<|Z5 KV true (VF IX (k (nI .i64 1))) xN<|Z5 KV true (XW yA yB) rC<|Z5 KV true (Zk Wk) rD<|Z5 KV true (UG uM GR UB false) rE<|Za (XA KV uN (k (.bool false))) rF<|Zc) (Yo uO (Zi (Zi (Za (Zk (k (nI .i64 2))) W3<|Zc) (YT 7 (W5 Zgd))) (Zi (Za (Zk Vc) rN<|Za (Zk WD) lS<|Za (VF uT nJ) lU<|Za (Zk nL) XL<|Zc) YX)) Zc))) (Za (Zk Vc) xD<|Za (Y4 yu (k (nI .i64 1))) xE<|Za (Zk yv) Ts<|Zc)))
def c93:CF:=⟨[(XQ,none)],(Zi (Za (Zk (k (nI .i64 0))) XL<|Zc) (YT 0 (Zi (Za (Zk Wv) lW<|Za (Xi (k (nI .i32 0)) nN PR Sk) lX<|Za (Zk nO) lY<|Z5 LB true (Zk Wv) lZ<|Z5 LB true (Xi nP (k (nI .i32 128)) Wf Xo) kg<|Za (XA LB nQ (k (.bool false))) kh<|Za (Zk nR) lV<|Zc) (Yo nM (Zi (Za (Zk Y3) ZaO<|Za (Zk Wv) ZaP<|Za (Sw dQ .u8) ZaQ<|Za (ZT 59 [dP,dR]) ZaR<|Za (Zk dS) XL<|Zc) YX) (Zi (Za (Zk Wv) ZaT<|Za (UG Dt (k (nI .i32 65533)) UB false) ZaU<|Za (Zk dU) ZaS<|Zc) (Yo dT (Zi (Zi (Za (Zk Y3) ZaV<|Za (CJ dV) ZaW<|Zc) (YT 9 (W5 Br))) (Zi (Za (Zk (k (.int .i64 (.negSucc 0)))) XL<|Zc) YX)) (Zi (Za (Zk Wv) Za5<|Za (ZT 111 [ci]) Za6<|Za (Ns cj) Za7<|Za (Zk nS) Za4<|Zc) (Yo ce (Zi (Za (Zk (k (.int .i64 (.negSucc 0)))) XL<|Zc) YX) (Zi (Za (Zk Wv) Vm<|Za (lh WW) Vw<|Za (Zk WX) Uu<|Zc) (Zi (Za (Zk WH) V0<|Za (Wn WC) Ue<|Za (VF VU (k (nI .i64 1))) UU<|Za (Zk VJ) V2<|Zc) (Zi (Za (Zk WD) UV<|Za (Zk VK) Ts<|Zc) (Zi (Za (Zk (k (nI .i64 0))) Wj<|Zc) (Zi (YT 1 (W5 qC)) (Zi (Zi (Za (Zk (k (.int .i64 (.negSucc 0)))) XL<|Zc) YX) (Zi Zc (Zi (Yo (k (.bool true)) (Zi (Za (Zk Y3) AT<|Za (Zk Vc) J2<|Za (Zk WD) J3<|Za (VF Jx MX) I5<|Za (Vv BZ (some MY) none none) I6<|Za (Zk Wv) I7<|Za (lh IW) I8<|Za (ZT 113 [GO,KT]) I9<|Za (Zk NA) WA<|Zc) (Zi (Za (Zk XR) J4<|Za (Xi Ly (k (nI .i64 0)) Re Vi) FG<|Zc) (Yo Dj (Zi (Za (Zk Vc) AP<|Za (Zk XR) DS<|Za (Y4 BR BT) DT<|Za (Zk WD) DU<|Za (VF Dk Dl) DV<|Za (Zk KU) XL<|Zc) YX) Zc))) (Zi (Za (Zk WH) DW<|Za (Zk WD) DX<|Za (XW Dm Dn) DY<|Za (Zk Do) W2<|Zc) (Zi (Za (Zk WH) DZ<|Za (Zk WD) D0<|Za (VF Dp (k (nI .i64 1))) D1<|Za (XW BU Dq) D2<|Za (Zk Lz) W9<|Zc) (Zi Zc (YT 5 (W5 Zge)))))) (Zi (Za (Zk (k (.int .i64 (.negSucc 0)))) XL<|Zc) YX)))))))))))))))))⟩
def kW:CF:=⟨[(Uv,none)],(Zi (Za (Zk (k (.bool false))) st2<|Zc) (Zi (YT 0 (Zi (Za (Zk Y3) XL<|Za (Xi (k (nI .i32 0)) XQ PR Sk) Vq<|Za (Zk Wa) VV<|Z5 Ve true (Zk Y3) Uu<|Z5 Ve true (Xi WH (k (nI .i32 55296)) Wf Xo) V2<|Za (XA Ve WD (k (.bool false))) Ts<|Za (Zk Vc) Tc<|Zc) (Yo VL (Zi (Za (Zk (k (.bool true))) st2<|Zc) YX) (Zi (Za (Zk Y3) Wm<|Za (Xi (k (nI .i32 57343)) XO Wf Xo) WE<|Za (Zk X6) WA<|Z5 XR true (Zk Y3) W2<|Z5 XR true (Xi Wi (k (nI .i32 1114111)) PR Sk) W9<|Za (XA XR Wk (k (.bool false))) W3<|Za (Zk Ww) Wj<|Zc) (Yo XF (Zi (Za (Zk (k (.bool true))) st2<|Zc) YX) Zc))))) (Zi (Za (Zk (k (.bool false))) st2<|Zc) YX)))⟩
def c59:CF:=⟨[(XQ,none)],(Zi (Za (Zk (k (nI .i64 0))) XL<|Zc) (Zi (Za (Zk Y3) Vq<|Za (Zk Wv) VV<|Za (ZT 78 [Wa,Ve]) Uu<|Za (Zk WH) XL<|Zc) YX))⟩
def c78:CF:=⟨[(XQ,none)],(Zi (Za (Zk (k (nI .i64 0))) XL<|Zc) (Zi (Za (Zk Y3) Vq<|Za (Zk Wv) VV<|Za (ZT 97 [Wa,Ve]) Uu<|Za (Zk WH) XL<|Zc) YX))⟩
def c19:CF:=⟨[(Uv,none)],(Zi (Za (IM Y3 36) st1<|Za (Zk (k (.bool false))) st2<|Zc) (Zi (Za (Xz Wv 0) Uu<|Za (Yr WH) V2<|Za (ZT 18 [WD]) Ts<|Za (Zk Vc) VV<|Za (WJ Ve 0) Wj<|Za (WJ Ve 1) Wm<|Za (Zk XF) Tc<|Za (Zk XO) XL<|Zc) (Zi (Za (Xz Wv 1) WE<|Za (Uk X6 8) WA<|Za (V9 34 [(nI .i64 0),(nI .u32 0),(nI .u32 0),(nI .u32 0),(nI .i64 0),.nils,.nils,(.str [])]) Vq<|Za (Xy Wa XR 8) d0<|Zc) (Zi (Zi (Za (Zk VL) W2<|Za (UG Wi (k (nI .i64 0)) UB false) W9<|Za (Zk Wk) W3<|Z5 Ww false (Yr (k (.ptr 1 0))) Vm<|Z5 Ww false (Xz Wa 0) Vw<|Z5 Ww false (Yr WX) V0<|Z5 Ww false (Iu UB (nI .u8 0) false WW WC) Ue<|Z5 Ww false (UG VU (k (nI .u8 0)) UB false) UU<|Za (XA Ww (k (.bool true)) VJ) UV<|Za (Zk VK) UZ<|Z5 Ui false (Xz Wa 1) UW<|Z5 Ui false (Yr V1) Ti<|Z5 Ui false (Xi UY (k (nI .u32 4095)) SQ VW) Tj<|Za (XA Ui (k (.bool true)) UD) U0<|Za (Zk Uq) Tk<|Z5 UE false (Xz Wa 5) TP<|Z5 UE false (Yr VP) TW<|Z5 UE false (ZT 34 [Sa]) SU<|Z5 UE false (Ns Sn) Rp<|Za (XA UE (k (.bool true)) SP) RM<|Za (Zk RA) QH<|Z5 Rc false (Xz Wa 7) QI<|Z5 Rc false (Yr RB) Pe<|Z5 Rc false (Xz Wa 0) Pf<|Z5 Rc false (Yr Q8) QW<|Z5 Rc false (UG QM (k (nI .i64 3)) UB false) Pw<|Z5 Rc false (ZT 35 [RT,Pu]) P3<|Z5 Rc false (Ns QN) P4<|Za (XA Rc (k (.bool true)) PO) Oe<|Zc) (Yo QC (Zi (Za (Zk (k (.bool false))) st2<|Zc) YX) Zc)) (Zi (Za (Xz Wa 6) QX<|Za (Yr Pv) Of<|Za (X9 Qr) OK<|Za (Xi PP (k (nI .i64 16777216)) PR Sk) Nd<|Za (Zk P9) Nf<|Z5 Q9 true (Xz Wa 0) Nx<|Z5 Q9 true (Yr NF) NN<|Z5 Q9 true (UG NG (k (nI .i64 2)) UB false) NO<|Z5 Q9 true (Zk MB) NQ<|Z5 RU false (Xz Wa 6) MH<|Z5 RU false (Yr Md) Mu<|Z5 RU false (X9 Nm) Mv<|Z5 RU false (UG Nn (k (nI .i64 0)) UB false) MI<|Z5 Q9 true (XA RU (k (.bool true)) Me) Mw<|Za (XA Q9 O1 (k (.bool false))) MJ<|Za (Zk MC) st2<|Zc) YX)))))⟩
def Lb:D:=(Zi (Za (Xi WH Ve Wf Xo) V2<|Zc) (Zi (Yo WD Zc (WV 0)) (Zi (YT 1 (Zi (Za (Zk WH) Ts<|Za (Vn Wa WH 2) Wj<|Za (Uk XF 2) Wm<|Za (V9 46 [(.str []),(.str [])]) XL<|Za (Zk Vc) Tc<|Za (Xy XQ XO 2) d0<|Zc) (Zi (W7 [⟨Xz XQ 0,none,[(XL,XQ)],WE,.free,0,0⟩,⟨Yr X6,none,[(WE,X6)],WA,.read,1,1⟩,⟨UG XR (k (.str [])) Js false,none,[(WA,XR)],W2,.free,2,3⟩,⟨Zk Wi,none,[(W2,Wi)],W9,.free,3,7⟩,⟨Xz XQ 0,(some (Wk,false)),[(XL,XQ)],W3,.free,4,15⟩,⟨Yr Ww,(some (Wk,false)),[(W3,Ww)],Vm,.read,5,31⟩,⟨Wn WW,(some (Wk,false)),[(Vm,WW)],Vw,.free,6,63⟩,⟨Xi WX (k (nI .i64 242)) SQ VW,(some (Wk,false)),[(Vw,WX)],V0,.free,7,127⟩,⟨XA Wk (k (.bool true)) WC,none,[(W9,Wk),(V0,WC)],Ue,.free,8,255⟩,⟨Zk VU,none,[(Ue,VU)],UU,.free,9,511⟩,⟨Xz XQ 0,(some (VJ,false)),[(XL,XQ)],UV,.free,10,1023⟩,⟨Yr VK,(some (VJ,false)),[(UV,VK)],UZ,.read,11,2047⟩,⟨ZT 58 [Ui,(k (.str [0,61,10]))],(some (VJ,false)),[(UZ,Ui)],UW,.eff,12,4095⟩,⟨XA VJ (k (.bool true)) V1,none,[(UU,VJ),(UW,V1)],Ti,.free,13,8191⟩,⟨Zk UY,none,[(Ti,UY)],Tj,.free,14,16383⟩,⟨Zk VL,(some (UD,false)),[(Tc,VL)],U0,.free,15,32767⟩,⟨Xi Uq (k (nI .i64 0)) SQ VW,(some (UD,false)),[(U0,Uq)],Tk,.free,16,65535⟩,⟨Zk UE,(some (UD,false)),[(Tk,UE)],TP,.free,17,131071⟩,⟨Zk Y3,(some (VP,true)),[(st0,Y3)],TW,.free,18,262143⟩,⟨Zk VL,(some (VP,true)),[(Tc,VL)],SU,.free,19,262143⟩,⟨VF Sn (k (nI .i64 1)),(some (VP,true)),[(SU,Sn)],Rp,.free,20,786431⟩,⟨Vn Sa SP 2,(some (VP,true)),[(TW,Sa),(Rp,SP)],RM,.free,21,2097151⟩,⟨Xz RA 0,(some (VP,true)),[(RM,RA)],QH,.free,22,4194303⟩,⟨Yr Rc,(some (VP,true)),[(QH,Rc)],QI,.read,23,8388607⟩,⟨Xz XQ 0,(some (VP,true)),[(XL,XQ)],Pe,.free,24,262143⟩,⟨Yr RT,(some (VP,true)),[(Pe,RT)],Pf,.read,25,17039359⟩,⟨Xi RB Q8 Re Vi,(some (VP,true)),[(QI,RB),(Pf,Q8)],QW,.free,26,67108863⟩,⟨XA VP QM (k (.bool false)),(some (UD,false)),[(TP,VP),(QW,QM)],Pw,.free,27,134217727⟩,⟨XA UD (k (.bool true)) Pu,none,[(Tj,UD),(Pw,Pu)],P3,.free,28,268435455⟩]) (Yo QN (Zi (Za (Zk (k (.bool false))) st2<|Zc) YX) Zc)))) (Za (Y4 WH (k (nI .i64 1))) P4<|Za (Zk PO) Uu<|Zc))))
def c34:CF:=⟨[(Uv,none)],(Zi (Za (Zk (k (.bool false))) st2<|Zc) (Zi (Zi (Za (Zk Y3) Vq<|Za (X9 Wa) VV<|Za (Zk (k (nI .i64 0))) Uu<|Zc) (YT 0 (W5 Lb))) (Zi (Za (Zk Y3) Oe<|Za (X9 QC) QX<|Za (Xi Pv (k (nI .i64 16)) PR Sk) Of<|Za (Zk Qr) st2<|Zc) YX)))⟩
def c35:CF:=⟨[(XQ,none)],(Zi (Za (Zk (k (.bool false))) XL<|Zc) (Zi (Zi (Za (Zk Wv) Vq<|Za (Ns Wa) VV<|Zc) (Yo Ve (Zi (Za (Zk Y3) Uu<|Za (UG WH (k (.str [])) Js false) V2<|Za (Zk WD) XL<|Zc) YX) Zc)) (Zi (Za (Zk Y3) Ts<|Za (UG Vc (k (.str [])) Js true) Wj<|Za (Zk XF) Wm<|Z5 XO true (Zk Y3) WE<|Z5 XO true (Wn X6) WA<|Z5 XO true (Xi XR (k (nI .i64 4096)) PR Sk) W2<|Za (XA XO Wi (k (.bool false))) W9<|Za (Zk Wk) W3<|Z5 Ww true (Zk Y3) Vm<|Z5 Ww true (ZT 59 [WW,(k (nI .u8 0))]) Vw<|Z5 Ww true (Xi WX (k (nI .i64 0)) Wf Xo) V0<|Za (XA Ww WC (k (.bool false))) Ue<|Za (Zk VU) XL<|Zc) YX)))⟩
def fX:D:=(Zi (Za (Xi QM (k (nI .i64 4)) Wf Xo) Pw<|Zc) (Zi (Yo Pu Zc (WV 0)) (Zi (YT 1 (Zi (Za (Fd Q8 QM 4) P3<|Za (Zk QN) Wj<|Zc) (Za (Zk WD) P4<|Za (Zk XF) Oe<|Za (ZT 24 [PO,QC,(k (nI .i64 0))]) QX<|Zc))) (Za (Y4 QM (k (nI .i64 1))) Of<|Za (Zk Qr) QW<|Zc))))
def c15:CF:=⟨[(Uv,none),(VL,none)],(Zi (Za (IM Y3 36) st1<|Za (Zk (k .nils)) st2<|Za (Zk (k (nI .i64 0))) Tc<|Zc) (Zi (Zi (Za (Uk Wv 9) Wm<|Za (ZT 19 [XO]) WE<|Za (Ns X6) WA<|Zc) (Yo XR (Zi (Za (Zk (k .nils)) st2<|Za (Zk (k (nI .i64 1))) Tc<|Zc) YX) Zc)) (Zi (Za (Uk Wv 9) W9<|Za (ZT 20 [Wk]) W3<|Za (Zk Ww) W2<|Za (WJ Wi 0) Vm<|Za (WJ Wi 1) Vw<|Za (Zk WW) XL<|Za (Zk WX) Vq<|Zc) (Zi (Zi (Za (Zk Wa) V0<|Za (X9 WC) Ue<|Za (UG VU (k (nI .i64 0)) UB false) UU<|Zc) (Yo VJ (Zi (Za (Zk XQ) UV<|Za (Tx VK) UZ<|Za (Xz Ui 0) UW<|Za (QE 512 1 V1 none none none) Ti<|Za (Zk UY) st2<|Za (Zk (k (nI .i64 0))) Tc<|Zc) YX) Zc)) (Zi (Za (Zk Wa) U0<|Za (ZT 21 [Uq]) Tk<|Za (Zk UE) Tj<|Za (WJ UD 0) TP<|Za (WJ UD 1) TW<|Za (Zk VP) VV<|Za (Zk Sa) Uu<|Zc) (Zi (Zi (Za (Zk WH) SU<|Za (UG Sn (k (nI .i64 0)) UB true) Rp<|Zc) (Yo SP (Zi (Za (Zk WH) RM<|Za (Zk (k .nils)) st2<|Za (Zk RA) Tc<|Zc) YX) Zc)) (Zi (Za (ZT 22 [(k (nI .u8 120))]) QH<|Za (Zk Rc) V2<|Zc) (Zi (Za (Zk WD) QI<|Za (ZT 23 [RB,(k (.str [110,97,109,101])),(k (.str [112,97,120]))]) Pe<|Zc) (Zi (Zi (Za (TV [(.str []),(.str []),(.str []),(.str [])] [⟨0,1,(k (.str [109,111,100,101]))⟩,⟨1,1,(k (.str [117,105,100]))⟩,⟨2,1,(k (.str [103,105,100]))⟩,⟨3,1,(k (.str [109,116,105,109,101]))⟩]) Pf<|Za (Zk (k (nI .i64 0))) QW<|Zc) (YT 0 (W5 fX))) (Zi (Za (Zk WD) OK<|Za (Zk Ve) Nd<|Za (X9 P9) Nf<|Za (ZT 24 [PP,(k (.str [115,105,122,101])),Q9]) Nx<|Zc) (Zi (Za (Zk WD) NN<|Za (Tx NG) NO<|Za (Xz MB 0) NQ<|Za (ZT 25 [RU]) MH<|Zc) (Zi (W7 [⟨Zk WD,none,[(V2,WD)],Mu,.free,0,0⟩,⟨Tx Nm,none,[(Mu,Nm)],Mv,.free,1,1⟩,⟨Xz Nn 0,none,[(Mv,Nn)],MI,.free,2,3⟩,⟨QE 512 1 Me none none none,none,[(MI,Me)],Mw,.free,3,7⟩,⟨Zk Ve,none,[(VV,Ve)],MJ,.free,4,0⟩,⟨Zk Ve,none,[(VV,Ve)],Ln,.free,5,0⟩,⟨X9 Ov,none,[(Ln,Ov)],Lo,.free,6,32⟩,⟨Zk XQ,none,[(XL,XQ)],ML,.free,9,0⟩,⟨Tx Mg,none,[(ML,Mg)],NR,.free,10,512⟩,⟨Xz O2 0,none,[(NR,O2)],MM,.free,11,1536⟩,⟨QE 512 1 MD none none none,none,[(MM,MD)],MN,.free,12,3584⟩,⟨ZT 27 [Lc],none,[(Lo,Lc)],MK,.eff,7,96⟩,⟨Fe 5 1 1 [(nI .u8 0)] Mf Mf,none,[(MK,Mf),(MK,Mf)],Lq,.free,8,224⟩,⟨Vp 32 1 4 (List.replicate 4 [.nils]).flatten [⟨0,1,O1⟩,⟨1,1,MC⟩,⟨2,1,No⟩,⟨3,1,Np⟩],none,[(Mw,O1),(MJ,MC),(Lq,No),(MN,Np)],Lr,.free,13,8191⟩,⟨ZT 26 [Nq],none,[(Lr,Nq)],Lt,.eff,14,16383⟩,⟨Zk Ld,none,[(Lt,Ld)],st2,.eff,15,32767⟩,⟨Zk (k (nI .i64 0)),none,[],Tc,.eff,16,65535⟩]) YX))))))))))))⟩
def Jo:D:=(Zi (Za (Xi Nq (k (nI .i64 3)) Wf Xo) Lt<|Zc) (Zi (Yo Ld Zc (WV 0)) (Zi (YT 1 (Zi (Za (vB Np Nq 3 3) KH<|Za (V9 89 [(.str []),(nI .i64 0),(nI .i64 0)]) WA<|Za (Xy XR Ko 3) d0<|Zc) (Zi (Zi (Za (Xz XR 1) KI<|Za (Yr Kp) KJ<|Za (Xi Le (k (nI .i64 0)) Wf Xo) Jb<|Za (Zk K4) Jc<|Z5 Ow false (Xz XR 1) Jd<|Z5 Ow false (Yr K5) Je<|Z5 Ow false (Xz XR 2) Jf<|Z5 Ow false (Yr ME) J5<|Z5 Ow false (Xi K6 LC SQ VW) IN<|Za (XA Ow (k (.bool true)) Lf) Gg<|Zc) (Yo Kq (Zi (W7 [⟨Zk WH,none,[(Uu,WH)],Gh,.free,0,0⟩,⟨Xz XR 0,none,[(WA,XR)],Gi,.free,1,0⟩,⟨Yr HG,none,[(Gi,HG)],FJ,.read,2,2⟩,⟨Xz XR 1,none,[(WA,XR)],FK,.free,3,0⟩,⟨Yr GS,none,[(FK,GS)],FM,.read,4,8⟩,⟨ZT 39 [GU],none,[(FM,GU)],FN,.eff,5,24⟩,⟨Mo Jz Tryz.prog [Cb,O3],none,[(Gh,Jz),(FJ,Cb),(FN,O3)],Ch,.eff,6,63⟩]) (Za (Xz XR 1) Ci<|Za (Xy Cc (k (nI .i64 0)) 1) d0<|Zc)) Zc)) (Za (Zk Wa) Cj<|Za (Xz XR 0) Ck<|Za (Yr GV) Cl<|Za (Xz XR 1) Cm<|Za (Yr Ce) Cn<|Za (ZT 24 [K7,Cd,Cf]) Co<|Zc)))) (Za (Y4 Nq (k (nI .i64 1))) AQ<|Za (Zk BY) Lr<|Zc))))
def Bk:D:=(Zi (Za (Xi Ly NA Wf Xo) FG<|Zc) (Zi (Yo Dj Zc (WV 2)) (Zi (YT 3 (Zi (Za (Vn KT Ly 2) AP<|Za (Uk BR 2) DS<|Za (V9 46 [(.str []),(.str [])]) W9<|Za (Xy Wk BT 2) d0<|Zc) (Za (Zk WH) DT<|Za (Xz Wk 0) DU<|Za (Yr Dl) DV<|Za (Y4 (k (.str [83,67,72,73,76,89,46,120,97,116,116,114,46])) KU) DW<|Za (Xz Wk 1) DX<|Za (Yr Dn) DY<|Za (Mo Dk Tryz.prog [Dm,Do]) DZ<|Zc))) (Za (Y4 Ly (k (nI .i64 1))) D0<|Za (Zk Dp) J4<|Zc))))
def qB:D:=(Zi (Za (Zk Wa) D1<|Za (Tx Dq) D2<|Za (Xz Lz 0) D3<|Za (ZT 25 [LA]) D4<|Zc) (Zi (W7 [⟨Zk Wa,none,[(Vq,Wa)],FH,.free,0,0⟩,⟨Yr Ve,none,[(VV,Ve)],FI,.read,1,0⟩,⟨Zk Dr,none,[(FH,Dr)],st2,.eff,2,1⟩,⟨Zk PN,none,[(FI,PN)],Tc,.eff,3,7⟩]) YX))
def wA:D:=(Zi (Za (Zk Wa) zH<|Za (Xz XQ 1) Cp<|Za (Yr En) Cq<|Za (Sw Eo .i64) AR<|Za (ZT 24 [zm,(k (.str [109,111,100,101])),Lg]) AS<|Zc) (Zi (Za (Zk Wa) AT<|Za (Xz XQ 6) J2<|Za (Yr Jx) J3<|Za (X9 MX) I5<|Za (ZT 24 [BZ,(k (.str [115,105,122,101])),MY]) I6<|Zc) (Zi (Zi (Za (Xz XQ 5) I7<|Za (Yr IW) I8<|Za (X9 KT) I9<|Za (Zk (k (nI .i64 0))) J4<|Zc) (YT 2 (W5 Bk))) qB)))
def wz:D:=(Zi (Za (Zk Wa) NQ<|Za (Zk XO) MH<|Za (ZT 23 [RU,(k (.str [108,105,110,107,110,97,109,101])),Md]) Mu<|Zc) (Zi (Zi (Za (Xz XQ 2) Mv<|Za (Yr Nn) MI<|Za (Sw Me .i64) Mw<|Za (TV [(.str []),(nI .i64 0),(nI .i64 0)] [⟨0,1,(k (.str [117,105,100]))⟩,⟨1,1,O1⟩,⟨2,1,(k (nI .i64 2097151))⟩]) MJ<|Za (Xz XQ 3) Ln<|Za (Yr Ov) Lo<|Za (Sw Lc .i64) MK<|Za (TV [(.str []),(nI .i64 0),(nI .i64 0)] [⟨0,1,(k (.str [103,105,100]))⟩,⟨1,1,Mf⟩,⟨2,1,(k (nI .i64 2097151))⟩]) Lq<|Za (Xz XQ 4) ML<|Za (Yr Mg) NR<|Za (TV [(.str []),(nI .i64 0),(nI .i64 0)] [⟨0,1,(k (.str [109,116,105,109,101]))⟩,⟨1,1,O2⟩,⟨2,1,(k (nI .i64 8589934591))⟩]) MM<|Za (TV [(.str []),(nI .i64 0),(nI .i64 0),(.str []),(nI .i64 0),(nI .i64 0),(.str []),(nI .i64 0),(nI .i64 0)] [⟨0,3,MC⟩,⟨3,3,No⟩,⟨6,3,MD⟩]) MN<|Za (Zk (k (nI .i64 0))) Lr<|Zc) (YT 0 (W5 Jo))) wA))
def F8:D:=(Zi (Za (Zk Wa) Pf<|Za (Zk WD) QW<|Za (ZT 23 [Q8,(k (.str [112,114,101,102,105,120])),QM]) Pw<|Zc) (Zi (Za (Zk Wa) P3<|Za (Zk Vc) P4<|Za (ZT 23 [QN,(k (.str [110,97,109,101])),PO]) Oe<|Zc) (Zi (Za (Xz XQ 7) QX<|Za (Yr Pv) Of<|Za (Zk Qr) Wm<|Zc) (Zi (Zi (Za (Zk XO) OK<|Za (Wn PP) Nd<|Za (Xi P9 (k (nI .i64 100)) SQ VW) Nf<|Zc) (Yo Q9 (Zi (Za (Zk WH) Nx<|Za (Zk XO) NN<|Za (Mo NF Tryz.prog [(k (.str [108,105,110,107,112,97,116,104])),NG]) NO<|Zc) (Za (Zk (k (.str []))) Wm<|Zc)) Zc)) wz))))
def c20:CF:=⟨[(Uv,none),(VL,none)],(Zi (Za (IM Y3 36) st1<|Za (Zk (k .nilp)) st2<|Za (Zk (k .nils)) Tc<|Zc) (Zi (Za (Xz Wv 1) W3<|Za (Uk Ww 8) Vm<|Za (V9 34 [(nI .i64 0),(nI .u32 0),(nI .u32 0),(nI .u32 0),(nI .i64 0),.nils,.nils,(.str [])]) XL<|Za (Xy XQ WW 8) d0<|Zc) (Zi (Za (Yr (k (.ptr 1 0))) Vw<|Za (Xz XQ 0) V0<|Za (Yr WC) Ue<|Za (Iu UB (nI .u8 0) false WX VU) UU<|Za (ZT 22 [VJ]) UV<|Za (Zk VK) Vq<|Zc) (Zi (Za (V9 61 [.nils]) VV<|Zc) (Zi (Za (Fb 36 [] [Ve]) UZ<|Za (Zk Ui) Uu<|Zc) (Zi (Za (Uk Wv 9) Ti<|Za (ZT 38 [UY]) Tj<|Za (ZT 37 [UD]) U0<|Za (Zk Uq) UW<|Za (WJ V1 0) Tk<|Za (WJ V1 1) TP<|Za (WJ V1 2) TW<|Za (Zk UE) V2<|Za (Zk VP) Ts<|Za (Zk Sa) Wj<|Zc) (Zi (Zi (Za (Zk XF) SU<|Za (Ns Sn) Rp<|Zc) (Yo SP (Za (Zk WH) RM<|Za (Uk Wv 9) QH<|Za (ZT 38 [Rc]) QI<|Za (Mo RA Tryz.prog [(k (.str [112,97,116,104])),RB]) Pe<|Zc) Zc)) F8)))))))⟩
def c36:CF:=⟨[],(Za (Yr Uv) Vq<|Za (Zk Y3) VV<|Za (Zk Wv) Uu<|Za (TV [(.str []),(.str [])] [⟨0,1,Ve⟩,⟨1,1,WH⟩]) V2<|Za (Vp 85 2 1 [(.str []),(.str [])] [⟨0,2,WD⟩]) Ts<|Za (WZ Wa Vc 85 2 32) Wj<|Za (Xy Uv XF 1) d0<|Zc)⟩
def c22:CF:=⟨[(Uv,none)],(Zi (Za (Zk (k .nilp)) st2<|Zc) (Zi (Za (TV zf []) XL<|Za (IM XQ 67) Vq<|Za (Zk Wa) Tc<|Zc) (Zi (Za (Zk VL) VV<|Za (ZT 23 [Ve,(k (.str [109,97,103,105,99])),(k (.str [117,115,116,97,114]))]) Uu<|Zc) (Zi (Za (Zk VL) V2<|Za (Tx WD) Ts<|Za (Xz Vc 0) Wj<|Za (Vp 5 1 2 (List.replicate 2 [(nI .u8 0)]).flatten [⟨0,1,(k (nI .u8 48))⟩,⟨1,1,(k (nI .u8 48))⟩]) Wm<|Za (y5 XO) WE<|Za (ZT 45 [XF,(k (.str [118,101,114,115,105,111,110])),X6]) WA<|Zc) (Zi (Za (Zk VL) W2<|Za (Tx Wi) W9<|Za (Xz Wk 0) W3<|Za (Zk Y3) Vm<|Za (Vp 5 1 1 [(nI .u8 0)] [⟨0,1,WW⟩]) Vw<|Za (ZT 45 [Ww,(k (.str [116,121,112,101])),WX]) V0<|Zc) (Zi (Za (Zk VL) Ue<|Za (Zk VU) st2<|Zc) YX))))))⟩
def c23:CF:=⟨[],(Zi (Za (Zk Y3) Wm<|Za (Tx XO) WE<|Za (Xz X6 0) WA<|Za (Zk Wv) W2<|Za (ZT 46 [XR,Wi]) W9<|Za (Zk Wk) Wj<|Za (WJ XF 0) W3<|Za (WJ XF 1) Vm<|Za (Zk Ww) VV<|Za (Zk WW) Uu<|Zc) (Zi (Za (Zk Uv) V0<|Za (Zk Ve) Ue<|Za (X9 VU) UU<|Za (ZT 47 [WC,VJ]) UV<|Za (Zk VK) Vw<|Za (WJ WX 0) UZ<|Za (WJ WX 1) UW<|Za (Zk Ui) V2<|Za (Zk V1) Ts<|Zc) (Za (Zk Y3) Ti<|Za (Tx UY) Tj<|Za (Xz UD 0) U0<|Za (Zk Wv) Tk<|Za (Zk WD) TP<|Za (ZT 45 [Uq,UE,VP]) TW<|Zc)))⟩
def c24:CF:=⟨[],(Zi (Za (Zk Y3) Wm<|Za (Tx XO) WE<|Za (Xz X6 0) WA<|Za (Zk Wv) W2<|Za (ZT 46 [XR,Wi]) W9<|Za (Zk Wk) Wj<|Za (WJ XF 0) W3<|Za (WJ XF 1) Vm<|Za (Zk Ww) VV<|Za (Zk WW) Uu<|Zc) (Zi (Za (Zk Uv) V0<|Za (Zk Ve) Ue<|Za (X9 VU) UU<|Za (ZT 48 [WC,VJ]) UV<|Za (Zk VK) Vw<|Za (WJ WX 0) UZ<|Za (WJ WX 1) UW<|Za (Zk Ui) V2<|Za (Zk V1) Ts<|Zc) (Za (Zk Y3) Ti<|Za (Tx UY) Tj<|Za (Xz UD 0) U0<|Za (Zk Wv) Tk<|Za (Zk WD) TP<|Za (ZT 45 [Uq,UE,VP]) TW<|Zc)))⟩
def c25:CF:=⟨[],(Zi (Za (Zk Y3) Vq<|Za (ZT 49 [Wa]) VV<|Za (ZT 48 [Ve,(k (nI .i64 7))]) Uu<|Za (Zk WH) XL<|Za (WJ XQ 0) V2<|Za (WJ XQ 1) Ts<|Za (Zk WD) st2<|Za (Zk Vc) Tc<|Zc) (Zi (Za (Zk VL) Wj<|Za (UG XF (k (nI .i64 0)) UB false) Wm<|Zc) (Yo XO (Za (Zk Y3) WE<|Za (Zk Uv) WA<|Za (Vp 5 1 1 [(nI .u8 0)] [⟨0,1,(k (nI .u8 32))⟩]) W2<|Za (WZ XR Wi 5 1 1) W9<|Za (ZT 45 [X6,(k (.str [99,104,107,115,117,109])),Wk]) W3<|Zc) Zc)))⟩
def Bn:D:=(Zi (Za (Xi WW (k (nI .i64 512)) Wf Xo) Vw<|Zc) (Zi (Yo WX Zc (WV 0)) (Zi (YT 1 (Zi (Za (Fd Ww WW 512) V0<|Za (Zk WC) VV<|Zc) (Za (Zk XQ) Ue<|Za (Zk Ve) UU<|Za (Sw VJ .i64) UV<|Za (Y4 VU VK) UZ<|Za (Zk Ui) XL<|Zc))) (Za (Y4 WW (k (nI .i64 1))) UW<|Za (Zk V1) Vm<|Zc))))
def c49:CF:=⟨[(Uv,none)],(Zi (Za (Zk (k (nI .i64 0))) st2<|Zc) (Zi (Zi (Za (Zk Y3) Uu<|Za (UG WH (k .nilp) qN false) V2<|Zc) (Yo WD (Zi (Za (Zk (k (nI .i64 0))) st2<|Zc) YX) Zc)) (Zi (Za (Zk Y3) Ts<|Za (Tx Vc) Wj<|Za (Uk XF 512) Wm<|Za (RH 65 512 (nI .u8 0)) Tc<|Za (Xy VL XO 512) d0<|Zc) (Zi (Za (Vp 5 1 1 [(nI .u8 0)] [⟨0,1,(k (nI .u8 32))⟩]) WE<|Za (y5 X6) WA<|Za (ZT 68 [XR,(k (nI .i64 8))]) W2<|Za (ZT 45 [VL,(k (.str [99,104,107,115,117,109])),Wi]) W9<|Zc) (Zi (Za (Zk (k (nI .i64 0))) XL<|Zc) (Zi (Zi (Za (Uk VL 512) W3<|Za (Zk (k (nI .i64 0))) Vm<|Zc) (YT 0 (W5 Bn))) (Zi (Za (Zk XQ) Ti<|Za (Zk UY) st2<|Zc) YX)))))))⟩
def c45:CF:=⟨[(Ve,none)],(Zi (Za (Zk (k (nI .i64 0))) VV<|Zc) (Zi (Za (Zk Y3) V2<|Za (Zk Wv) Ts<|Za (ZT 64 [WD,Vc]) Wj<|Za (Zk XF) Uu<|Zc) (Zi (Zi (Za (Zk WH) Wm<|Za (UG XO (k .nils) jn false) WE<|Za (Zk X6) WA<|Z5 XR false (Zk Uv) W2<|Z5 XR false (X9 Wi) W9<|Z5 XR false (Zk WH) W3<|Z5 XR false (X9 Ww) Vm<|Z5 XR false (UG Wk WW UB true) Vw<|Za (XA XR (k (.bool true)) WX) V0<|Zc) (Yo WC (Zi (Za (Zk (k (nI .i64 1))) VV<|Zc) YX) Zc)) (Zi (Za (Zk WH) Ue<|Za (Zk Uv) UU<|Za (DG VU VJ 1) UV<|Zc) (Zi (Za (Zk (k (nI .i64 0))) VV<|Zc) YX)))))⟩
def c46:CF:=⟨[(XQ,none),(Wa,none)],(Zi (Za (Zk (k .nils)) XL<|Za (Zk (k (.bool false))) Vq<|Zc) (Zi (Za (Zk Y3) Uu<|Za (Zk Wv) V2<|Za (ZT 64 [WH,WD]) Ts<|Za (Zk Vc) VV<|Zc) (Zi (Za (Zk Ve) Wj<|Za (ZT 10 [XF]) Wm<|Za (Zk Ve) WE<|Za (UG X6 (k .nils) jn true) WA<|Za (Zk XO) XL<|Za (Zk XR) Vq<|Zc) YX)))⟩
def c64:CF:=⟨[(XQ,none)],(Zi (Za (Zk (k .nils)) XL<|Zc) (Zi (Za (Yr (k (.ptr 2 0))) V2<|Za (Zk Wv) Ts<|Za (Iu Js (.agg [(nI .i64 0),(nI .i64 0)]) true WD Vc) Wj<|Za (Zk XF) Uu<|Za (WJ WH 0) Wm<|Za (WJ WH 1) WE<|Za (V9 126 [(nI .i64 0),(nI .i64 0)]) Vq<|Za (Xy Wa XO 2) d0<|Za (Zk X6) VV<|Zc) (Zi (Zi (Za (Zk Y3) WA<|Za (UG XR (k .nilp) qN false) W2<|Za (Zk Wi) W9<|Z5 Wk false (Zk Ve) W3<|Z5 Wk false (Ns Ww) Vm<|Za (XA Wk (k (.bool true)) WW) Vw<|Zc) (Yo WX (Zi (Za (Zk (k .nils)) XL<|Zc) YX) Zc)) (Zi (W7 [⟨Zk Y3,none,[(st0,Y3)],V0,.free,0,0⟩,⟨Tx WC,none,[(V0,WC)],Ue,.free,1,1⟩,⟨VE Wa (k (nI .i64 0)) 2 1,none,[(Vq,Wa)],UU,.free,2,0⟩,⟨Yr VJ,none,[(UU,VJ)],UV,.read,3,4⟩,⟨VE Wa (k (nI .i64 0)) 2 1,none,[(Vq,Wa)],UZ,.free,4,0⟩,⟨Yr Ui,none,[(UZ,Ui)],UW,.read,5,16⟩,⟨VE Wa (k (nI .i64 1)) 2 1,none,[(Vq,Wa)],Ti,.free,6,0⟩,⟨Yr UY,none,[(Ti,UY)],Tj,.read,7,64⟩,⟨Y4 V1 UD,none,[(UW,V1),(Tj,UD)],U0,.free,8,240⟩,⟨QE 512 1 VU (some VK) (some Uq) none,none,[(Ue,VU),(UV,VK),(U0,Uq)],Tk,.free,9,511⟩,⟨Zk UE,none,[(Tk,UE)],XL,.eff,10,1023⟩]) YX))))⟩
def c47:CF:=⟨[(XQ,none),(Wa,none)],(Zi (Za (Zk (k .nils)) XL<|Za (Zk (k (nI .i64 0))) Vq<|Zc) (Zi (YT 0 (Zi (Za (Zk Wv) Uu<|Za (Xi WH (k (nI .i64 1)) Wf Xo) V2<|Za (Zk WD) Ts<|Z5 Vc false (Zk Wv) Wj<|Z5 Vc false (Xi XF (k (nI .i64 512)) SQ VW) Wm<|Za (XA Vc (k (.bool true)) XO) WE<|Za (Zk X6) WA<|Z5 XR false (Zk Y3) W2<|Z5 XR false (ZT 65 [Wi,(k (.str [0]))]) W9<|Za (XA XR (k (.bool true)) Wk) W3<|Za (Zk Ww) VV<|Zc) (Yo Ve (Zi (Za (Zk (k .nils)) XL<|Za (Zk (k (nI .i64 1))) Vq<|Zc) YX) (Zi (Za (Zk Y3) Vw<|Za (Wn WX) V0<|Za (Zk Wv) Ue<|Za (Xi WC VU SQ VW) UU<|Za (Zk VJ) Vm<|Zc) (Yo WW (Zi (Za (Zk (k .nils)) XL<|Za (Zk (k (nI .i64 3))) Vq<|Zc) YX) Zc))))) (Zi (Za (Zk Y3) UV<|Za (Am VK 5) UZ<|Za (Zk Wv) UW<|Za (Zk Y3) Ti<|Za (Wn UY) Tj<|Za (VF V1 UD) U0<|Za (LM Ui Uq 5 1 1 [(nI .u8 0)]) Tk<|Za (Zk UE) XL<|Za (Zk (k (nI .i64 0))) Vq<|Zc) YX)))⟩
def c48:CF:=⟨[(XQ,none),(Wa,none)],(Zi (Za (Zk (k .nils)) XL<|Za (Zk (k (nI .i64 0))) Vq<|Zc) (Zi (Zi (Za (Zk Wv) Uu<|Za (ZT 66 [WH]) V2<|Za (Ns WD) Ts<|Zc) (Yo Vc (Zi (Za (Zk (k .nils)) XL<|Za (Zk (k (nI .i64 1))) Vq<|Zc) YX) Zc)) (Zi (Za (Zk Y3) Wj<|Za (ZT 60 [XF,(k (nI .i64 8))]) Wm<|Za (Zk XO) VV<|Zc) (Zi (Zi (Za (Zk Y3) WE<|Za (Xi X6 (k (nI .i64 0)) Wf Xo) WA<|Za (Zk XR) W2<|Z5 Wi false (Zk Ve) W9<|Z5 Wi false (Wn Wk) W3<|Z5 Wi false (Zk Wv) Vm<|Z5 Wi false (VF WW (k (nI .i64 1))) Vw<|Z5 Wi false (Xi Ww WX SQ VW) V0<|Za (XA Wi (k (.bool true)) WC) Ue<|Zc) (Yo VU (Zi (Za (Zk (k .nils)) XL<|Za (Zk (k (nI .i64 3))) Vq<|Zc) YX) Zc)) (Zi (Za (Zk Wv) UU<|Za (VF VJ (k (nI .i64 1))) UV<|Za (Zk Ve) UZ<|Za (Wn Ui) UW<|Za (VF VK V1) Ti<|Za (ZT 67 [(k (.str [48])),UY]) Tj<|Za (Zk Ve) U0<|Za (Y4 UD Uq) Tk<|Za (Y4 UE (k (.str [0]))) TP<|Za (Am VP 5) TW<|Za (Zk Sa) XL<|Za (Zk (k (nI .i64 0))) Vq<|Zc) YX)))))⟩
def c66:CF:=⟨[(Uv,none)],(Zi (Za (Zk (k (.bool false))) st2<|Zc) (Zi (Za (Zk Y3) Tc<|Za (Xi VL (k (nI .i64 2)) Re Vi) XL<|Za (Zk XQ) Vq<|Z5 Wa true (Zk Y3) VV<|Z5 Wa true (Xi Ve (k (nI .i64 20)) PR Sk) Uu<|Za (XA Wa WH (k (.bool false))) V2<|Za (Zk WD) st2<|Zc) YX))⟩
def c65:CF:=⟨[(XQ,none)],(Zi (Za (Zk (k (.bool false))) XL<|Zc) (Zi (Za (Zk Y3) Vq<|Za (Zk Wv) VV<|Za (ZT 82 [Wa,Ve]) Uu<|Za (Xi WH (k (nI .i64 0)) Re Vi) V2<|Za (Zk WD) XL<|Zc) YX))⟩
def ed:D:=(Zi (Zi (Za (Zk XF) Lq<|Za (Zk WH) ML<|Za (Xi No Mg Wf Xo) NR<|Zc) (Yo O2 Zc (WV 0))) (YT 1 (Zi (Za (Zk XF) MM<|Za (Zk WD) MN<|Za (TS false [MD,Np]) Lr<|Za (Zk Nq) Wm<|Zc) (W7 [⟨Zk XF,none,[(Wj,XF)],Lt,.free,0,0⟩,⟨Zk Vc,none,[(Ts,Vc)],KH,.free,1,0⟩,⟨Zk XF,none,[(Wj,XF)],KI,.free,2,0⟩,⟨RC 1 Ko (some Kp) none none,none,[(KH,Ko),(KI,Kp)],KJ,.read,3,6⟩,⟨Zk Vc,none,[(Ts,Vc)],Jb,.free,4,0⟩,⟨Zk XO,none,[(Wm,XO)],Jc,.free,5,0⟩,⟨RC 1 K4 none (some Ow) none,none,[(Jb,K4),(Jc,Ow)],Jd,.read,6,48⟩,⟨DG Le K5 1,none,[(KJ,Le),(Jd,K5)],Je,.eff,7,126⟩,⟨Y4 Ld K6,none,[(Lt,Ld),(Je,K6)],Jf,.free,8,255⟩,⟨Zk ME,none,[(Jf,ME)],Wj,.eff,9,511⟩]))))
def c68:CF:=⟨[(XQ,none)],(Zi (Za (Zk (k .nils)) XL<|Zc) (Zi (Zi (Za (Zk Wv) WE<|Za (UG X6 (k (nI .i64 0)) UB false) WA<|Zc) (Yo XR (Zi (Za (Vp 5 1 0 (List.replicate 0 [(nI .u8 0)]).flatten []) W2<|Za (Zk Wi) XL<|Zc) YX) Zc)) (Zi (Zi (Za (Zk Wv) W9<|Za (Xi Wk (k (nI .i64 0)) Wf Xo) W3<|Zc) (Yo Ww (Za (Nr (k (.str ZoW)) 9) Vm<|Za (Nt WW) d0<|Zc) Zc)) (Zi (Za (Zk Y3) V0<|Za (X9 WC) Ue<|Za (Sw VU .u64) UU<|Za (Zk Wv) UV<|Za (Sw VK .u64) UZ<|Za (ZT 83 [VJ,Ui]) UW<|Za (Zk V1) Vw<|Za (WJ WX 0) Ti<|Za (WJ WX 1) Tj<|Za (Zk UY) Vq<|Za (Zk UD) VV<|Zc) (Zi (Zi (Za (Zk Wa) U0<|Za (Xi Uq (k (nI .u64 0)) SQ VW) Tk<|Za (Zk UE) TP<|Z5 VP false (Zk Ve) TW<|Z5 VP false (Xi Sa (k (nI .u64 9223372036854775807)) SQ VW) SU<|Za (XA VP (k (.bool true)) Sn) Rp<|Zc) (Yo SP (Za (Nr (k (.str ZkD)) 9) RM<|Za (Nt RA) d0<|Zc) Zc)) (Zi (Za (Zk Ve) QH<|Za (Sw Rc .i64) QI<|Za (Zk RB) Uu<|Zc) (Zi (Zi (Za (Zk Y3) Pe<|Za (X9 RT) Pf<|Za (UG Q8 (k (nI .i64 0)) UB false) QW<|Zc) (Yo QM (Zi (Za (Vp 5 1 0 (List.replicate 0 [(nI .u8 0)]).flatten []) Pw<|Za (Zk Pu) XL<|Zc) YX) Zc)) (Zi (Za (Zk WH) P3<|Za (Zk QN) V2<|Zc) (Zi (Zi (Za (Zk WD) P4<|Za (Xi PO (k (nI .i64 8192)) SQ VW) Oe<|Zc) (Yo QC (Zi (Za (Zk Y3) QX<|Za (X9 Pv) Of<|Za (HV (k (nI .i64 8192)) Qr) OK<|Za (Zk Y3) Nd<|Za (X9 P9) Nf<|Za (Oc PP Q9) Nx<|Za (Zk NF) V2<|Zc) (Zi (Za (Zk WD) NN<|Za (UG NG (k (nI .i64 0)) UB false) NO<|Zc) (Yo MB (Za (Zk Y3) NQ<|Za (X9 RU) MH<|Za (Zk Md) V2<|Zc) Zc))) Zc)) (Zi (Za (Zk WH) Mu<|Za (ZT 88 [Nm]) Mv<|Za (Zk WH) MI<|Za (Zk WH) Mw<|Za (RC 1 Nn none (some Me) (some O1)) MJ<|Za (Zk MC) Ts<|Zc) (Zi (Za (Zk Vc) Ln<|Za (Zk Y3) Lo<|Za (DG Ov Lc 1) MK<|Za (Zk Mf) Wj<|Zc) (Zi (YT 0 (W5 ed)) (Zi (Za (Zk Vc) J5<|Za (Zk LC) XL<|Zc) YX)))))))))))))⟩
def c60:CF:=⟨[(XQ,none)],(Zi (Za (Zk (k (.str []))) XL<|Zc) (Zi (Za (Zk Y3) Vq<|Za (Zk Wv) VV<|Za (ZT 79 [Wa,Ve]) Uu<|Za (Zk WH) XL<|Zc) YX))⟩
def c79:CF:=⟨[(XQ,none)],(Zi (Za (Zk (k (.str []))) XL<|Zc) (Zi (Zi (Za (Zk Wv) Wj<|Za (UG XF (k (nI .i64 10)) UB false) Wm<|Zc) (Yo XO (Zi (Zi (Za (Zk Y3) WE<|Za (Xi (k (nI .i64 0)) X6 PR Sk) WA<|Za (Zk XR) W2<|Z5 Wi true (Zk Y3) W9<|Z5 Wi true (Xi Wk (k (nI .i64 100)) Wf Xo) W3<|Za (XA Wi Ww (k (.bool false))) Vm<|Zc) (Yo WW (Zi (Za (Zk Y3) Vw<|Za (ZT 98 [WX]) V0<|Za (Zk WC) XL<|Zc) YX) Zc)) (Zi (Za (RH 155 24 (nI .u8 0)) Vq<|Zc) (Zi (Za (Zk Y3) Ue<|Za (Sw VU .u64) UU<|Za (Zk VJ) VV<|Zc) (Zi (Zi (Za (Zk Y3) UV<|Za (Xi VK (k (nI .i64 0)) Wf Xo) UZ<|Zc) (Yo Ui (Za (Zk Ve) UW<|Za (zz V1) Ti<|Za (Zk UY) VV<|Zc) Zc)) (Zi (Za (Zk Ve) Tj<|Za (ZT 99 [UD]) U0<|Za (Zk Uq) Uu<|Zc) (Zi (Za (Zk WH) Tk<|Za (Y4 (k (nI .i64 1)) UE) TP<|Za (QE 24 1 Wa (some (k (nI .i64 1))) (some VP) none) TW<|Za (Zk Ve) SU<|Za (ZT 100 [Sa,Sn]) Rp<|Zc) (Zi (Zi (Za (Zk Y3) RM<|Za (Xi RA (k (nI .i64 0)) Wf Xo) QH<|Zc) (Yo Rc (Zi (Za (VE Wa (k (nI .i64 0)) 24 1) QI<|Za (Xy RB (k (nI .u8 45)) 1) d0<|Zc) (Zi (Za (Zk WH) Pe<|Za (Y4 (k (nI .i64 1)) RT) Pf<|Za (QE 24 1 Wa none (some Q8) none) QW<|Za (si QM) Pw<|Za (Zk Pu) XL<|Zc) YX)) Zc)) (Zi (Za (Zk WH) P3<|Za (Y4 (k (nI .i64 1)) QN) P4<|Za (QE 24 1 Wa (some (k (nI .i64 1))) (some PO) none) Oe<|Za (si QC) QX<|Za (Zk Pv) XL<|Zc) YX)))))))) Zc)) (Zi (Za (Zk Y3) OK<|Za (Sw PP .u64) Nd<|Za (Zk Wv) Nf<|Za (Zk Y3) Nx<|Za (Xi NF (k (nI .i64 0)) Wf Xo) NN<|Za (ZT 101 [(k .nils),P9,Q9,NG,(k (.bool false))]) NO<|Za (Zk MB) Of<|Za (WJ Qr 0) NQ<|Za (WJ Qr 1) MH<|Za (Zk RU) V2<|Za (Zk Md) Ts<|Zc) (Zi (Za (Zk Vc) Mu<|Za (Zk Nm) XL<|Zc) YX))))⟩
def Gu:D:=(Zi (Zi (Za (Zk Wv) Of<|Za (Zk Wk) OK<|Za (Xi Qr PP Re Vi) Nd<|Zc) (Yo P9 Zc (WV 0))) (YT 1 (Zi (Za (Zk XR) Nf<|Za (VF Q9 (k (nI .i64 1))) Nx<|Za (Zk NF) WA<|Zc) (Zi (Za (Zk XR) NN<|Za (Zk Wv) NO<|Za (Zk Ww) NQ<|Za (U4 MB RU TT) MH<|Za (XW (k (.str JG)) Md) Mu<|Za (VE X6 NG 65 1) Mv<|Za (Xy Nn Nm 1) d0<|Zc) (Za (Zk Wv) MI<|Za (Zk Wi) Mw<|Za (MF Me O1) MJ<|Za (Zk MC) st1<|Zc)))))
def Zcr:D:=(Zi (Zi (Za (Zk Wv) Lr<|Za (Zk WW) Lt<|Za (Xi Nq Ld Re Vi) KH<|Zc) (Yo Ko Zc (WV 2))) (YT 3 (Zi (Za (Zk XR) KI<|Za (VF Kp (k (nI .i64 1))) KJ<|Za (Zk Le) WA<|Zc) (Zi (Za (Zk Wv) Jb<|Za (Zk WW) Jc<|Za (HV K4 Ow) Jd<|Za (Zk K5) Vw<|Zc) (Zi (Za (Zk XR) Je<|Za (Zk Wv) Jf<|Za (Zk WX) J5<|Za (Zk WW) IN<|Za (Oc LC Lf) Gg<|Za (VF ME Kq) Gh<|Za (XW (k (.str JG)) Jz) Gi<|Za (VE X6 K6 65 1) FJ<|Za (Xy Cb HG 1) d0<|Zc) (Za (Zk WX) FK<|Za (Zk GS) st1<|Zc))))))
def fV:CF:=⟨[(XF,none),(XO,none)],(Zi (Za (Zk (k .nils)) Wj<|Za (Zk (k (.str []))) Wm<|Zc) (Zi (Zi (Za (Zk Uv) V0<|Za (Xi WC (k (nI .i64 2)) Wf Xo) Ue<|Za (Zk VU) UU<|Z5 VJ false (Zk Uv) UV<|Z5 VJ false (UG VK (k (nI .i64 10)) UB false) UZ<|Za (XA VJ (k (.bool true)) Ui) UW<|Za (Zk V1) Ti<|Z5 UY false (Zk Uv) Tj<|Z5 UY false (Xi UD (k (nI .i64 36)) SQ VW) U0<|Za (XA UY (k (.bool true)) Uq) Tk<|Zc) (Yo UE (Za (Nr (k (.str ZkE)) 9) TP<|Za (Nt VP) d0<|Zc) Zc)) (Zi (Za (RH 174 65 (nI .u8 0)) WE<|Zc) (Zi (Za (Zk (k (nI .i64 65))) WA<|Zc) (Zi (Zi (Za (Zk VL) TW<|Zc) (Yo Sa (Za (Zk Wv) SU<|Za (zz Sn) Rp<|Za (Zk SP) st1<|Zc) Zc)) (Zi (Zi (Za (Zk Uv) RM<|Za (ZT 117 [RA]) QH<|Zc) (Yo Rc (Zi (Za (Zk Uv) QI<|Za (Sw RB .u64) Pe<|Za (ZT 118 [RT]) Pf<|Za (Sw Q8 .u64) QW<|Za (Zk QM) W2<|Zc) (Zi (Za (Zk Uv) Pw<|Za (Sw Pu .u64) P3<|Za (Zk QN) W9<|Zc) (Zi (Za (Zk Uv) P4<|Za (Sw PO .u64) Oe<|Za (VF QC (k (nI .u64 1))) QX<|Za (Zk Pv) W3<|Zc) (Zi (YT 0 (W5 Gu)) (Zi (Za (Zk XR) Ln<|Za (VF Ov (k (nI .i64 1))) Lo<|Za (Zk Lc) WA<|Zc) (Za (Zk XR) MK<|Za (Zk Wv) Lq<|Za (XW (k (.str JG)) No) ML<|Za (VE X6 Mf 65 1) NR<|Za (Xy O2 Mg 1) d0<|Zc)))))) (Zi (Za (Zk Uv) MM<|Za (Sw MD .u64) MN<|Za (Zk Np) Vm<|Zc) (Zi (YT 2 (W5 Zcr)) (Zi (Za (Zk XR) FM<|Za (VF GU (k (nI .i64 1))) FN<|Za (Zk O3) WA<|Zc) (Za (Zk XR) Ch<|Za (Zk Wv) Ci<|Za (XW (k (.str JG)) Cc) Cj<|Za (VE X6 IJ 65 1) Ck<|Za (Xy GV K7 1) d0<|Zc)))))) (Zi (Zi (Za (Zk VL) Cl<|Zc) (Yo Cd (Zi (Za (Zk XR) Cm<|Za (VF Ce (k (nI .i64 1))) Cn<|Za (Zk Cf) WA<|Zc) (Za (Zk XR) Co<|Za (VE X6 JA 65 1) AQ<|Za (Xy BY (k (nI .u8 45)) 1) d0<|Zc)) Zc)) (Zi (Zi (Za (Zk XQ) zH<|Zc) (Yo zm (Zi (Za (Zk Y3) Cp<|Za (Zk XR) Cq<|Za (QE 65 1 X6 (some Eo) none none) AR<|Za (WZ En Lg 5 1 1) AS<|Za (Zk zn) Wj<|Zc) YX) Zc)) (Zi (Za (Zk XR) AT<|Za (QE 65 1 X6 (some BZ) none none) J2<|Za (si Jx) J3<|Za (Zk MX) Wm<|Zc) YX)))))))))⟩
def Zcw:CF:=⟨[(Uv,none)],(Zi (Za (Zk (k (.bool false))) st2<|Zc) (Zi (Za (Zk Y3) Tc<|Za (Zk Y3) XL<|Za (VF XQ (k (nI .i64 1))) Vq<|Za (U4 VL Wa TT) VV<|Za (UG Ve (k (nI .i64 0)) UB false) Uu<|Za (Zk WH) st2<|Zc) YX))⟩
def Zcx:CF:=⟨[(Uv,none)],(Zi (Za (Zk (k (nI .i64 0))) st2<|Zc) (Zi (Yo (k (.bool false)) (Zi (Za (Zk Y3) Tc<|Za (Sw VL .u32) XL<|Za (ZT 125 [XQ]) Vq<|Za (Zk Wa) st2<|Zc) YX) Zc) (Zi (Za (Zk Y3) VV<|Za (ZT 126 [Ve]) Uu<|Za (Zk WH) st2<|Zc) YX)))⟩
def Zcy:CF:=⟨[(Uv,none)],(Zi (Za (Zk (k (nI .i64 0))) st2<|Zc) (Zi (Zi (Za (Zk Y3) Tc<|Za (UG VL (k (nI .u64 0)) UB false) XL<|Zc) (Yo XQ (Zi (Za (Zk (k (nI .i64 64))) st2<|Zc) YX) Zc)) (Zi (Za (Zk Y3) Vq<|Za (Zk Y3) VV<|Za (zz Ve) Uu<|Za (U4 Wa WH TT) V2<|Za (Oc WD (k (nI .u64 285870213051353865))) Ts<|Za (MF Vc (k (nI .u64 58))) Wj<|Za (VE (k (.ptr 8 0)) XF 64 1) Wm<|Za (Yr XO) WE<|Za (Sw X6 .i64) WA<|Za (Zk XR) st2<|Zc) YX)))⟩
def c98:CF:=⟨[(Uv,none)],(Zi (Za (Zk (k (.str []))) st2<|Zc) (Zi (Zi (Za (Zk Y3) Tc<|Za (Xi VL (k (nI .i64 10)) Wf Xo) XL<|Zc) (Yo XQ (Zi (Za (Zk Y3) Vq<|Za (Zk Y3) VV<|Za (Y4 Ve (k (nI .i64 1))) Uu<|Za (Vv (k (.str JG)) (some Wa) (some WH) none) V2<|Za (Zk WD) st2<|Zc) YX) Zc)) (Zi (Za (Zk Y3) Ts<|Za (Oc Vc (k (nI .i64 2))) Wj<|Za (Zk Y3) Wm<|Za (Oc XO (k (nI .i64 2))) WE<|Za (Y4 X6 (k (nI .i64 2))) WA<|Za (Vv (k (.str RW)) (some XF) (some XR) none) W2<|Za (Zk Wi) st2<|Zc) YX)))⟩
def c99:CF:=⟨[(Uv,none)],(Zi (Za (Zk (k (nI .i64 0))) st2<|Zc) (Zi (Za (Zk Y3) XL<|Za (ZT 115 [XQ]) Vq<|Za (ZT 114 [Wa]) VV<|Za (Zk Ve) Tc<|Zc) (Zi (Za (Zk VL) Uu<|Za (Zk Y3) V2<|Za (Zk VL) Ts<|Za (VE (k (.ptr 6 0)) Vc 20 1) Wj<|Za (Yr XF) Wm<|Za (Xi WD XO Re Vi) WE<|Za (ZT 116 [X6]) WA<|Za (Y4 WH XR) W2<|Za (Zk Wi) st2<|Zc) YX)))⟩
def Kf:D:=(Zi (Zi (Za (Zk XQ) V0<|Za (Xi WC (k (nI .i64 8)) Re Vi) Ue<|Zc) (Yo VU Zc (WV 0))) (YT 1 (Zi (Za (Zk Wv) UU<|Za (Fh VJ (k (nI .u64 100000000))) UV<|Za (Sw VK .u32) UZ<|Za (Zk Ui) Vq<|Zc) (Zi (Za (Zk Wv) UW<|Za (HV V1 (k (nI .u64 100000000))) Ti<|Za (Zk UY) st1<|Zc) (Zi (Za (Zk Wa) Tj<|Za (HV UD (k (nI .u32 10000))) U0<|Za (Zk Wa) Tk<|Za (Fh UE (k (nI .u32 10000))) TP<|Za (Zk Uq) VV<|Za (Zk VP) Uu<|Zc) (Zi (Za (Zk WH) TW<|Za (HV Sa (k (nI .u32 100))) SU<|Za (Oc Sn (k (nI .u32 2))) Rp<|Za (Zk WH) RM<|Za (Fh RA (k (nI .u32 100))) QH<|Za (Oc Rc (k (nI .u32 2))) QI<|Za (Zk SP) V2<|Za (Zk RB) Ts<|Zc) (Zi (Za (Zk Ve) Pe<|Za (HV RT (k (nI .u32 100))) Pf<|Za (Oc Q8 (k (nI .u32 2))) QW<|Za (Zk Ve) Pw<|Za (Fh Pu (k (nI .u32 100))) P3<|Za (Oc QN (k (nI .u32 2))) P4<|Za (Zk QM) Wj<|Za (Zk PO) Wm<|Zc) (Zi (W7 [⟨Zk Y3,none,[(st0,Y3)],Oe,.free,0,0⟩,⟨Zk XQ,none,[(XL,XQ)],QX,.free,1,0⟩,⟨VF Pv (k (nI .i64 1)),none,[(QX,Pv)],Of,.free,2,2⟩,⟨Zk Y3,none,[(st0,Y3)],OK,.free,3,0⟩,⟨Zk XQ,none,[(XL,XQ)],Nd,.free,4,0⟩,⟨VF P9 (k (nI .i64 2)),none,[(Nd,P9)],Nf,.free,5,16⟩,⟨Zk Vc,none,[(Ts,Vc)],Nx,.free,6,0⟩,⟨Y4 NF (k (nI .u32 1)),none,[(Nx,NF)],NN,.free,7,64⟩,⟨XW (k (.str RW)) NG,none,[(NN,NG)],NO,.free,8,192⟩,⟨Zk Vc,none,[(Ts,Vc)],NQ,.free,9,0⟩,⟨XW (k (.str RW)) RU,none,[(NQ,RU)],MH,.free,10,512⟩,⟨Vn QC Qr 1,none,[(Oe,QC),(Of,Qr)],Mu,.free,11,455⟩,⟨Xy Nm MB 1,none,[(Mu,Nm),(NO,MB)],d0,.eff,12,2503⟩,⟨Vn PP Q9 1,none,[(OK,PP),(Nf,Q9)],Mv,.free,13,8191⟩,⟨Xy Nn Md 1,none,[(Mv,Nn),(MH,Md)],d0,.eff,14,16383⟩]) (Zi (W7 [⟨Zk Y3,none,[(st0,Y3)],MI,.free,0,0⟩,⟨Zk XQ,none,[(XL,XQ)],Mw,.free,1,0⟩,⟨VF O1 (k (nI .i64 3)),none,[(Mw,O1)],MJ,.free,2,2⟩,⟨Zk Y3,none,[(st0,Y3)],Ln,.free,3,0⟩,⟨Zk XQ,none,[(XL,XQ)],Lo,.free,4,0⟩,⟨VF Lc (k (nI .i64 4)),none,[(Lo,Lc)],MK,.free,5,16⟩,⟨Zk WD,none,[(V2,WD)],Lq,.free,6,0⟩,⟨Y4 No (k (nI .u32 1)),none,[(Lq,No)],ML,.free,7,64⟩,⟨XW (k (.str RW)) Mg,none,[(ML,Mg)],NR,.free,8,192⟩,⟨Zk WD,none,[(V2,WD)],MM,.free,9,0⟩,⟨XW (k (.str RW)) MD,none,[(MM,MD)],MN,.free,10,512⟩,⟨Vn Me MC 1,none,[(MI,Me),(MJ,MC)],Lr,.free,11,455⟩,⟨Xy Nq O2 1,none,[(Lr,Nq),(NR,O2)],d0,.eff,12,2503⟩,⟨Vn Ov Mf 1,none,[(Ln,Ov),(MK,Mf)],Lt,.free,13,8191⟩,⟨Xy Ld Np 1,none,[(Lt,Ld),(MN,Np)],d0,.eff,14,16383⟩]) (Zi (W7 [⟨Zk Y3,none,[(st0,Y3)],KH,.free,0,0⟩,⟨Zk XQ,none,[(XL,XQ)],KI,.free,1,0⟩,⟨VF Kp (k (nI .i64 5)),none,[(KI,Kp)],KJ,.free,2,2⟩,⟨Zk Y3,none,[(st0,Y3)],Jb,.free,3,0⟩,⟨Zk XQ,none,[(XL,XQ)],Jc,.free,4,0⟩,⟨VF Ow (k (nI .i64 6)),none,[(Jc,Ow)],Jd,.free,5,16⟩,⟨Zk XO,none,[(Wm,XO)],Je,.free,6,0⟩,⟨Y4 K6 (k (nI .u32 1)),none,[(Je,K6)],Jf,.free,7,64⟩,⟨XW (k (.str RW)) ME,none,[(Jf,ME)],J5,.free,8,192⟩,⟨Zk XO,none,[(Wm,XO)],IN,.free,9,0⟩,⟨XW (k (.str RW)) Lf,none,[(IN,Lf)],Gg,.free,10,512⟩,⟨Vn Ko Le 1,none,[(KH,Ko),(KJ,Le)],Gh,.free,11,455⟩,⟨Xy Jz LC 1,none,[(Gh,Jz),(J5,LC)],d0,.eff,12,2503⟩,⟨Vn K4 K5 1,none,[(Jb,K4),(Jd,K5)],Gi,.free,13,8191⟩,⟨Xy HG Kq 1,none,[(Gi,HG),(Gg,Kq)],d0,.eff,14,16383⟩]) (Zi (W7 [⟨Zk Y3,none,[(st0,Y3)],FJ,.free,0,0⟩,⟨Zk XQ,none,[(XL,XQ)],FK,.free,1,0⟩,⟨VF GS (k (nI .i64 7)),none,[(FK,GS)],FM,.free,2,2⟩,⟨Zk Y3,none,[(st0,Y3)],FN,.free,3,0⟩,⟨Zk XQ,none,[(XL,XQ)],Ch,.free,4,0⟩,⟨VF IJ (k (nI .i64 8)),none,[(Ch,IJ)],Ci,.free,5,16⟩,⟨Zk XF,none,[(Wj,XF)],Cj,.free,6,0⟩,⟨Y4 K7 (k (nI .u32 1)),none,[(Cj,K7)],Ck,.free,7,64⟩,⟨XW (k (.str RW)) GV,none,[(Ck,GV)],Cl,.free,8,192⟩,⟨Zk XF,none,[(Wj,XF)],Cm,.free,9,0⟩,⟨XW (k (.str RW)) Ce,none,[(Cm,Ce)],Cn,.free,10,512⟩,⟨Vn Cb GU 1,none,[(FJ,Cb),(FM,GU)],Co,.free,11,455⟩,⟨Xy JA Cd 1,none,[(Co,JA),(Cl,Cd)],d0,.eff,12,2503⟩,⟨Vn O3 Cc 1,none,[(FN,O3),(Ci,Cc)],AQ,.free,13,8191⟩,⟨Xy BY Cf 1,none,[(AQ,BY),(Cn,Cf)],d0,.eff,14,16383⟩]) (Za (Zk XQ) zH<|Za (VF zm (k (nI .i64 8))) Cp<|Za (Zk En) XL<|Zc))))))))))))
def D9:CF:=⟨[],(Zi (Za (Zk Y3) Vm<|Za (X9 WW) Vw<|Za (Zk WX) XL<|Zc) (Zi (YT 0 (W5 Kf)) (Zi (Za (Zk Wv) Cq<|Za (Sw Eo .u32) AR<|Za (Zk Lg) WE<|Zc) (Zi (Zi (Za (Zk XQ) AS<|Za (Xi zn (k (nI .i64 4)) Re Vi) AT<|Zc) (Yo BZ (Zi (Za (Zk X6) J2<|Za (Fh Jx (k (nI .u32 10000))) J3<|Za (Zk MX) WA<|Zc) (Zi (Za (Zk X6) I5<|Za (HV MY (k (nI .u32 10000))) I6<|Za (Zk GO) WE<|Zc) (Zi (Za (Zk XR) I7<|Za (HV IW (k (nI .u32 100))) I8<|Za (Oc KT (k (nI .u32 2))) I9<|Za (Zk XR) J4<|Za (Fh Ly (k (nI .u32 100))) FG<|Za (Oc Dj (k (nI .u32 2))) AP<|Za (Zk NA) W2<|Za (Zk BR) W9<|Zc) (Zi (W7 [⟨Zk Y3,none,[(st0,Y3)],DS,.free,0,0⟩,⟨Zk XQ,none,[(XL,XQ)],DT,.free,1,0⟩,⟨VF Dk (k (nI .i64 1)),none,[(DT,Dk)],DU,.free,2,2⟩,⟨Zk Y3,none,[(st0,Y3)],DV,.free,3,0⟩,⟨Zk XQ,none,[(XL,XQ)],DW,.free,4,0⟩,⟨VF Dm (k (nI .i64 2)),none,[(DW,Dm)],DX,.free,5,16⟩,⟨Zk Wk,none,[(W9,Wk)],DY,.free,6,0⟩,⟨Y4 Do (k (nI .u32 1)),none,[(DY,Do)],DZ,.free,7,64⟩,⟨XW (k (.str RW)) BU,none,[(DZ,BU)],D0,.free,8,192⟩,⟨Zk Wk,none,[(W9,Wk)],D1,.free,9,0⟩,⟨XW (k (.str RW)) Dq,none,[(D1,Dq)],D2,.free,10,512⟩,⟨Vn BT Dl 1,none,[(DS,BT),(DU,Dl)],D3,.free,11,455⟩,⟨Xy LA Dp 1,none,[(D3,LA),(D0,Dp)],d0,.eff,12,2503⟩,⟨Vn KU Dn 1,none,[(DV,KU),(DX,Dn)],D4,.free,13,8191⟩,⟨Xy BW Lz 1,none,[(D4,BW),(D2,Lz)],d0,.eff,14,16383⟩]) (Zi (W7 [⟨Zk Y3,none,[(st0,Y3)],FH,.free,0,0⟩,⟨Zk XQ,none,[(XL,XQ)],FI,.free,1,0⟩,⟨VF PN (k (nI .i64 3)),none,[(FI,PN)],xD,.free,2,2⟩,⟨Zk Y3,none,[(st0,Y3)],xE,.free,3,0⟩,⟨Zk XQ,none,[(XL,XQ)],xF,.free,4,0⟩,⟨VF yx (k (nI .i64 4)),none,[(xF,yx)],xG,.free,5,16⟩,⟨Zk Wi,none,[(W2,Wi)],xH,.free,6,0⟩,⟨Y4 GQ (k (nI .u32 1)),none,[(xH,GQ)],xI,.free,7,64⟩,⟨XW (k (.str RW)) yy,none,[(xI,yy)],xJ,.free,8,192⟩,⟨Zk Wi,none,[(W2,Wi)],xK,.free,9,0⟩,⟨XW (k (.str RW)) KV,none,[(xK,KV)],xL,.free,10,512⟩,⟨Vn Dr yu 1,none,[(FH,Dr),(xD,yu)],xM,.free,11,455⟩,⟨Xy IX yz 1,none,[(xM,IX),(xJ,yz)],d0,.eff,12,2503⟩,⟨Vn yv GP 1,none,[(xE,yv),(xG,GP)],xN,.free,13,8191⟩,⟨Xy yB yA 1,none,[(xN,yB),(xL,yA)],d0,.eff,14,16383⟩]) (Za (Zk XQ) rC<|Za (VF uM (k (nI .i64 4))) rD<|Za (Zk GR) XL<|Zc)))))) Zc)) (Zi (Zi (Za (Zk XQ) rE<|Za (Xi uN (k (nI .i64 2)) Re Vi) rF<|Zc) (Yo uO (Zi (Za (Zk X6) rH<|Za (Fh uP (k (nI .u32 100))) rI<|Za (Oc uQ (k (nI .u32 2))) rJ<|Za (Zk uR) W3<|Zc) (Zi (Za (Zk X6) lQ<|Za (HV nH (k (nI .u32 100))) lR<|Za (Zk Ds) WE<|Zc) (Zi (W7 [⟨Zk Y3,none,[(st0,Y3)],rL,.free,0,0⟩,⟨Zk XQ,none,[(XL,XQ)],xP,.free,1,0⟩,⟨VF yC (k (nI .i64 1)),none,[(xP,yC)],xQ,.free,2,2⟩,⟨Zk Y3,none,[(st0,Y3)],xR,.free,3,0⟩,⟨Zk XQ,none,[(XL,XQ)],xS,.free,4,0⟩,⟨VF yE (k (nI .i64 2)),none,[(xS,yE)],xT,.free,5,16⟩,⟨Zk Ww,none,[(W3,Ww)],xU,.free,6,0⟩,⟨Y4 yG (k (nI .u32 1)),none,[(xU,yG)],xV,.free,7,64⟩,⟨XW (k (.str RW)) yH,none,[(xV,yH)],xW,.free,8,192⟩,⟨Zk Ww,none,[(W3,Ww)],xX,.free,9,0⟩,⟨XW (k (.str RW)) yJ,none,[(xX,yJ)],xY,.free,10,512⟩,⟨Vn uS Jy 1,none,[(rL,uS),(xQ,Jy)],rM,.free,11,455⟩,⟨Xy BX yI 1,none,[(rM,BX),(xW,yI)],d0,.eff,12,2503⟩,⟨Vn yD yF 1,none,[(xR,yD),(xT,yF)],rN,.free,13,8191⟩,⟨Xy uT yK 1,none,[(rN,uT),(xY,yK)],d0,.eff,14,16383⟩]) (Za (Zk XQ) lS<|Za (VF nJ (k (nI .i64 2))) lU<|Za (Zk nL) XL<|Zc)))) Zc)) (Zi (Za (Zk XQ) lV<|Za (Xi nM (k (nI .i64 0)) SQ VW) lW<|Zc) (Yo nN (Za (Zk Y3) lX<|Za (Zk X6) lY<|Za (Y4 (k (nI .u32 48)) LB) lZ<|Za (Sw nP .u8) kg<|Za (Vn nO (k (nI .i64 0)) 1) kh<|Za (Xy nR nQ 1) d0<|Zc) Zc)))))))⟩
def Bi:CF:=⟨[(Uv,none)],(Zi (Za (Zk (k (nI .i64 0))) st2<|Zc) (Zi (Zi (Za (Zk Y3) Tc<|Za (Xi VL (k (nI .u64 4294967296)) Re Vi) XL<|Zc) (Yo XQ (Zi (Za (Zk Y3) Vq<|Za (MF Wa (k (nI .u64 32))) VV<|Za (Zk Ve) st0<|Zc) (Za (Zk (k (nI .i64 32))) st2<|Zc)) Zc)) (Zi (Zi (Za (Zk Y3) Uu<|Za (Xi WH (k (nI .u64 65536)) Re Vi) V2<|Zc) (Yo WD (Zi (Za (Zk Y3) Ts<|Za (MF Vc (k (nI .u64 16))) Wj<|Za (Zk XF) st0<|Zc) (Za (Zk Uv) Wm<|Za (Y4 XO (k (nI .i64 16))) WE<|Za (Zk X6) st2<|Zc)) Zc)) (Zi (Zi (Za (Zk Y3) WA<|Za (Xi XR (k (nI .u64 256)) Re Vi) W2<|Zc) (Yo Wi (Zi (Za (Zk Y3) W9<|Za (MF Wk (k (nI .u64 8))) W3<|Za (Zk Ww) st0<|Zc) (Za (Zk Uv) Vm<|Za (Y4 WW (k (nI .i64 8))) Vw<|Za (Zk WX) st2<|Zc)) Zc)) (Zi (Za (Zk Uv) V0<|Za (Zk Y3) Ue<|Za (Sw VU .u8) UU<|Za (XW (k (.str tB)) VJ) UV<|Za (Sw VK .i64) UZ<|Za (Y4 WC Ui) UW<|Za (Zk V1) st2<|Zc) YX)))))⟩
def Zcv:CF:=⟨[(Uv,none)],(Zi (Za (Zk (k (nI .i64 0))) st2<|Zc) (Zi (Za (Zk Y3) Tc<|Za (Oc VL (k (nI .i64 78913))) XL<|Za (MF XQ (k (nI .u64 18))) Vq<|Za (Zk Wa) st2<|Zc) YX))⟩
def fW:CF:=⟨[(Uv,none)],(Zi (Za (Zk (k (nI .i64 0))) st2<|Zc) (Zi (Zi (Za (Zk Y3) Tc<|Zc) (Yo VL (Zi (Za (Zk (k (nI .i64 1))) st2<|Zc) YX) Zc)) (Zi (Za (Zk (k (nI .i64 0))) st2<|Zc) YX)))⟩
def c37:CF:=⟨[(Uv,none),(VL,none),(XQ,none)],(Zi (Za (Zk (k (.str []))) st2<|Za (Zk (k (.str []))) Tc<|Za (Zk (k (.bool false))) XL<|Zc) (Zi (Zi (Za (Zk Y3) VV<|Za (Wn Ve) Uu<|Za (Xi WH (k (nI .i64 100)) PR Sk) V2<|Zc) (Yo WD (Zi (Za (Zk Y3) Ts<|Za (Zk (k (.str []))) st2<|Za (Zk Vc) Tc<|Za (Zk (k (.bool true))) XL<|Zc) YX) Zc)) (Zi (Za (Zk Y3) Wj<|Za (Zk Y3) Wm<|Za (Wn XO) WE<|Za (VF X6 (k (nI .i64 1))) WA<|Za (TS false [XR,(k (nI .i64 156))]) W2<|Za (Vv XF none (some Wi) none) W9<|Za (ZT 52 [Wk,(k (nI .u8 47))]) W3<|Za (Zk Ww) Vq<|Zc) (Zi (Zi (Za (Zk Wa) Vm<|Za (Xi WW (k (nI .i64 0)) Wf Xo) Vw<|Za (Zk WX) V0<|Z5 WC false (Zk Y3) Ue<|Z5 WC false (Wn VU) UU<|Z5 WC false (Zk Wa) UV<|Z5 WC false (VF VJ VK) UZ<|Z5 WC false (VF Ui (k (nI .i64 1))) UW<|Z5 WC false (Xi V1 (k (nI .i64 100)) SQ VW) Ti<|Za (XA WC (k (.bool true)) UY) Tj<|Zc) (Yo UD (Zi (Za (Zk (k (.str []))) st2<|Za (Zk (k (.str [112,97,120]))) Tc<|Za (Zk (k (.bool false))) XL<|Zc) YX) Zc)) (Zi (W7 [⟨Zk Y3,none,[(st0,Y3)],U0,.free,0,0⟩,⟨Zk Wa,none,[(Vq,Wa)],Tk,.free,1,0⟩,⟨Vv Uq none (some UE) none,none,[(U0,Uq),(Tk,UE)],TP,.free,2,3⟩,⟨Zk Y3,none,[(st0,Y3)],TW,.free,3,0⟩,⟨Zk Wa,none,[(Vq,Wa)],SU,.free,4,0⟩,⟨Y4 Sn (k (nI .i64 1)),none,[(SU,Sn)],Rp,.free,5,16⟩,⟨Vv Sa (some SP) none none,none,[(TW,Sa),(Rp,SP)],RM,.free,6,56⟩,⟨Zk VP,none,[(TP,VP)],st2,.eff,7,7⟩,⟨Zk RA,none,[(RM,RA)],Tc,.eff,8,255⟩,⟨Zk (k (.bool true)),none,[],XL,.eff,9,511⟩]) YX)))))⟩
def c38:CF:=⟨[(Uv,none)],(Zi (Za (IM Y3 36) st1<|Za (Zk (k (.str []))) st2<|Zc) (Zi (Zi (Za (Xz Wv 1) Tc<|Za (Xz VL 0) XL<|Za (Yr XQ) Vq<|Za (UG Wa (k (nI .i64 1)) UB false) VV<|Zc) (Yo Ve (Zi (Za (Xz Wv 0) Uu<|Za (Yr WH) V2<|Za (Y4 WD (k (.str [47]))) Ts<|Za (Zk Vc) st2<|Zc) YX) Zc)) (Zi (Za (Xz Wv 0) Wj<|Za (Yr XF) Wm<|Za (Zk XO) st2<|Zc) YX)))⟩
def c39:CF:=⟨[(Uv,none)],(Zi (Za (Zk (k (.str []))) st2<|Zc) (Zi (Za (Zk Y3) Tc<|Za (ZT 60 [VL,(k (nI .i64 10))]) XL<|Za (Zk XQ) st2<|Zc) YX))⟩
def Bl:D:=(Zi (Za (Xi X6 XO Wf Xo) WA<|Zc) (Zi (Yo XR Zc (WV 0)) (Zi (YT 1 (Zi (Za (Vn XF X6 2) W2<|Za (Uk Wi 2) W9<|Za (V9 85 [(.str []),(.str [])]) VV<|Za (Xy Ve Wk 2) d0<|Zc) (Zi (Za (Uk Ve 2) W3<|Za (ZT 43 [Ww]) Vm<|Za (Zk WW) Uu<|Zc) (Zi (Zi (Za (Zk XQ) Vw<|Za (X9 WX) V0<|Za (Zk WH) Ue<|Za (Y4 WC VU) UU<|Za (Xi VJ (k (nI .i64 16777216)) SQ VW) UV<|Zc) (Yo VK (Zi (Za (Zk (k .nils)) st2<|Za (Zk (k (nI .i64 3))) Tc<|Zc) YX) Zc)) (Zi (Za (Zk XQ) UZ<|Za (Zk WH) UW<|Za (ZT 44 [Ui,V1,(k (nI .i64 10))]) Ti<|Za (Zk UY) XL<|Zc) (Zi (W7 [⟨Zk XQ,none,[(XL,XQ)],Tj,.free,0,0⟩,⟨Vp 5 1 1 [(nI .u8 0)] [⟨0,1,(k (nI .u8 32))⟩],none,[],U0,.free,1,0⟩,⟨Xz Ve 0,none,[(VV,Ve)],TP,.free,3,0⟩,⟨Yr VP,none,[(TP,VP)],TW,.read,4,8⟩,⟨Vp 5 1 1 [(nI .u8 0)] [⟨0,1,(k (nI .u8 61))⟩],none,[],Rp,.free,6,0⟩,⟨WZ UD Uq 5 1 1,none,[(Tj,UD),(U0,Uq)],Tk,.eff,2,3⟩,⟨WZ UE Sa 5 1 1,none,[(Tk,UE),(TW,Sa)],SU,.eff,5,31⟩,⟨WZ Sn SP 5 1 1,none,[(SU,Sn),(Rp,SP)],RM,.eff,7,127⟩,⟨Zk RA,none,[(RM,RA)],XL,.eff,8,255⟩]) (Za (Zk XQ) QH<|Za (Xz Ve 1) QI<|Za (Yr RB) Pe<|Za (WZ Rc RT 5 1 1) Pf<|Za (Vp 5 1 1 [(nI .u8 0)] [⟨0,1,(k (nI .u8 10))⟩]) QW<|Za (WZ Q8 QM 5 1 1) Pw<|Za (Zk Pu) XL<|Zc))))))) (Za (Y4 X6 (k (nI .i64 1))) P3<|Za (Zk QN) WE<|Zc))))
def c21:CF:=⟨[(Uv,none),(VL,none)],(Zi (Za (Zk (k .nils)) st2<|Za (Zk (k (nI .i64 0))) Tc<|Zc) (Zi (Zi (Za (Zk Y3) V2<|Za (ZT 40 [WD,(k (.func 41 [] []))]) Ts<|Zc) (Yo Vc (Zi (Za (Zk (k .nils)) st2<|Za (Zk (k (nI .i64 1))) Tc<|Zc) YX) Zc)) (Zi (Za (Zk (k .nils)) XL<|Zc) (Zi (Zi (Za (Zk Y3) Wj<|Za (X9 XF) Wm<|Za (Zk (k (nI .i64 0))) WE<|Zc) (YT 0 (W5 Bl))) (Zi (Za (Zk XQ) P4<|Za (Zk PO) st2<|Za (Zk (k (nI .i64 0))) Tc<|Zc) YX)))))⟩
def c40:CF:=⟨[(XQ,none)],(Zi (Za (Zk (k (.bool false))) XL<|Zc) (Zi (Za (Zk Y3) Vq<|Za (Zk Wv) VV<|Za (ZT 61 [Wa,Ve]) Uu<|Za (Xi WH (k (nI .i64 0)) Re Vi) V2<|Za (Zk WD) XL<|Zc) YX))⟩
def Bp:D:=(Zi (Za (Xi WD WH Wf Xo) Ts<|Zc) (Zi (Yo Vc Zc (WV 0)) (Zi (YT 1 (Zi (Za (Zk WD) Wj<|Za (Zk XF) Vq<|Zc) (Zi (Za (Zk Wv) Wm<|Za (Zk Y3) WE<|Za (Zk Wa) WA<|Za (Vn X6 XR 2) W2<|Za (Uk Wi 2) W9<|Za (Mo XO Tryz.prog [Wk]) W3<|Zc) (Yo Ww (Zi (Za (Zk Wa) Vm<|Za (Zk WW) XL<|Zc) YX) Zc)))) (Za (Y4 WD (k (nI .i64 1))) Vw<|Za (Zk WX) V2<|Zc))))
def c61:CF:=⟨[(XQ,none)],(Zi (Za (Zk (k (nI .i64 0))) XL<|Zc) (Zi (Zi (Za (Zk Y3) VV<|Za (X9 Ve) Uu<|Za (Zk (k (nI .i64 0))) V2<|Zc) (YT 0 (W5 Bp))) (Zi (Za (Zk (k (.int .i64 (.negSucc 0)))) XL<|Zc) YX)))⟩
def c41:CF:=⟨[(Uv,none)],(Zi (Za (IM Y3 85) st1<|Za (Zk (k (.bool false))) st2<|Zc) (Zi (Za (Uk Wv 2) Tc<|Za (ZT 42 [VL]) XL<|Za (Ns XQ) Vq<|Za (Zk Wa) st2<|Zc) YX))⟩
def c42:CF:=⟨[(Uv,none)],(Zi (Za (IM Y3 85) st1<|Za (Zk (k (.bool false))) st2<|Zc) (Zi (Za (Xz Wv 0) Tc<|Za (Yr VL) XL<|Za (UG XQ (k (.str [])) Js true) Vq<|Za (Zk Wa) VV<|Z5 Ve true (Xz Wv 0) Uu<|Z5 Ve true (Yr WH) V2<|Z5 Ve true (Wn WD) Ts<|Z5 Ve true (Xi Vc (k (nI .i64 255)) PR Sk) Wj<|Za (XA Ve XF (k (.bool false))) Wm<|Za (Zk XO) WE<|Z5 X6 true (Xz Wv 0) WA<|Z5 X6 true (Yr XR) W2<|Z5 X6 true (ZT 58 [Wi,(k (.str [0,61,10]))]) W9<|Z5 X6 true (Ns Wk) W3<|Za (XA X6 Ww (k (.bool false))) Vm<|Za (Zk WW) st2<|Zc) YX))⟩
def Bm:D:=(Zi (Zi (Za (Zk XQ) Vw<|Za (Zk VL) V0<|Za (Zk XQ) Ue<|Za (ZT 62 [VU]) UU<|Za (Wn VJ) UV<|Za (Y4 WC VK) UZ<|Za (UG WX Ui UB true) UW<|Zc) (Yo V1 Zc (WV 0))) (YT 1 (Za (Zk VL) Ti<|Za (Zk XQ) Tj<|Za (ZT 62 [UD]) U0<|Za (Wn Uq) Tk<|Za (Y4 UY UE) TP<|Za (Zk VP) XL<|Zc)))
def c43:CF:=⟨[(Uv,none)],(Zi (Za (IM Y3 85) st1<|Za (Zk (k (nI .i64 0))) st2<|Zc) (Zi (Zi (Za (Uk Wv 2) Vq<|Za (ZT 42 [Wa]) VV<|Za (Ns Ve) Uu<|Zc) (Yo WH (Zi (Za (Zk (k (nI .i64 0))) st2<|Zc) YX) Zc)) (Zi (Za (Xz Wv 0) V2<|Za (Yr WD) Ts<|Za (Wn Vc) Wj<|Za (Xz Wv 1) Wm<|Za (Yr XO) WE<|Za (Wn X6) WA<|Za (Y4 XF XR) W2<|Za (Y4 Wi (k (nI .i64 3))) W9<|Za (Zk Wk) Tc<|Zc) (Zi (Za (Zk VL) W3<|Za (Y4 Ww (k (nI .i64 1))) Vm<|Za (Zk WW) XL<|Zc) (Zi (YT 0 (W5 Bm)) (Zi (Za (Zk XQ) TW<|Za (Zk Sa) st2<|Zc) YX))))))⟩
def c62:CF:=⟨[(Uv,none)],(Zi (Za (Zk (k (.str []))) st2<|Zc) (Zi (Za (Zk Y3) Tc<|Za (ZT 80 [VL]) XL<|Za (Zk XQ) st2<|Zc) YX))⟩
def c80:CF:=⟨[(Uv,none)],(Zi (Za (Zk (k (.str []))) st2<|Zc) (Zi (Za (Zk Y3) Tc<|Za (ZT 79 [VL,(k (nI .i64 10))]) XL<|Za (Zk XQ) st2<|Zc) YX))⟩
def c44:CF:=⟨[(Ve,none)],(Zi (Za (Zk (k .nils)) VV<|Zc) (Zi (Za (Zk Y3) Uu<|Za (Zk Wv) V2<|Za (Zk Uv) Ts<|Za (ZT 63 [WH,WD,Vc]) Wj<|Za (Zk XF) VV<|Zc) YX))⟩
def c63:CF:=⟨[(Ve,none)],(Zi (Za (Zk (k .nils)) VV<|Zc) (Zi (Za (Zk Wv) V2<|Za (Sw WD .u64) Ts<|Za (Zk Vc) Uu<|Zc) (Zi (Zi (Za (Zk Wv) Wj<|Za (Xi XF (k (nI .i64 0)) Wf Xo) Wm<|Zc) (Yo XO (Zi (Za (Zk Y3) WE<|Za (Vp 5 1 1 [(nI .u8 0)] [⟨0,1,(k (nI .u8 45))⟩]) WA<|Za (WZ X6 XR 5 1 1) W2<|Za (Zk Wi) st0<|Zc) (Za (Zk WH) W9<|Za (zz Wk) W3<|Za (Zk Ww) Uu<|Zc)) Zc)) (Zi (Za (Zk Y3) Vm<|Za (Zk WH) Vw<|Za (Zk Uv) V0<|Za (ZT 81 [WW,WX,WC]) Ue<|Za (Zk VU) VV<|Zc) YX))))⟩
def c81:CF:=⟨[(Ve,none)],(Zi (Za (Zk (k .nils)) VV<|Zc) (Zi (Zi (Za (Zk Uv) Ts<|Za (UG Vc (k (nI .i64 10)) UB false) Wj<|Zc) (Yo XF (Zi (Zi (Za (Zk Wv) Wm<|Za (Xi XO (k (nI .u64 100)) Wf Xo) WE<|Zc) (Yo X6 (Zi (Za (Zk Y3) WA<|Za (Zk Wv) W2<|Za (Sw Wi .i64) W9<|Za (ZT 98 [Wk]) W3<|Za (WZ XR Ww 5 1 1) Vm<|Za (Zk WW) VV<|Zc) YX) Zc)) (Zi (Za (RH 155 24 (nI .u8 0)) Uu<|Zc) (Zi (Za (Zk Wv) Vw<|Za (ZT 99 [WX]) V0<|Za (Zk WC) V2<|Zc) (Zi (Za (Zk WD) Ue<|Za (QE 24 1 WH none (some VU) none) UU<|Za (Zk Wv) UV<|Za (ZT 100 [VJ,VK]) UZ<|Zc) (Zi (Za (Zk Y3) UW<|Za (Zk WD) Ti<|Za (QE 24 1 WH none (some UY) none) Tj<|Za (WZ V1 UD 5 1 1) U0<|Za (Zk Uq) VV<|Zc) YX))))) Zc)) (Zi (Za (Zk Y3) TP<|Za (Zk Wv) TW<|Za (Zk Uv) SU<|Za (ZT 101 [VP,Sa,Sn,(k (.bool false)),(k (.bool true))]) Rp<|Za (Zk SP) Tk<|Za (WJ UE 0) RM<|Za (WJ UE 1) QH<|Za (Zk RA) st0<|Zc) (Zi (Za (Zk Y3) QI<|Za (Zk RB) VV<|Zc) YX))))⟩
def fY:D:=(Zi (Za (Xi XO XF Wf Xo) WE<|Zc) (Zi (Yo X6 Zc (WV 0)) (Zi (YT 1 (Zi (Za (Vn Vc XO 1) WA<|Za (Yr XR) W2<|Za (Zk Wi) Vq<|Zc) (Zi (Za (Zk VL) W9<|Za (Zk Wa) W3<|Za (X9 Ww) Vm<|Za (Y4 Wk WW) Vw<|Za (Zk WX) Tc<|Zc) (Zi (Za (Zk VL) V0<|Za (Xi WC (k (nI .i64 0)) Wf Xo) Ue<|Zc) (Yo VU (Za (Nr (k (.str ZoU)) 9) UU<|Za (Nt VJ) d0<|Zc) Zc))))) (Za (Y4 XO (k (nI .i64 1))) UV<|Za (Zk VK) Wm<|Zc))))
def fZ:D:=(Zi (Za (Xi Uq UD Wf Xo) Tk<|Zc) (Zi (Yo UE Zc (WV 2)) (Zi (YT 3 (Zi (Za (Vn UY Uq 1) TP<|Za (Yr VP) TW<|Za (Zk Sa) V2<|Zc) (Za (Zk Ve) SU<|Za (Zk WD) Rp<|Za (WZ Sn SP 5 1 1) RM<|Za (Zk RA) VV<|Zc))) (Za (Y4 Uq (k (nI .i64 1))) QH<|Za (Zk Rc) U0<|Zc))))
def c26:CF:=⟨[(Uv,none)],(Zi (Za (Zk (k .nils)) st2<|Zc) (Zi (Za (Zk (k (nI .i64 0))) Tc<|Zc) (Zi (Zi (Za (Zk Y3) Ts<|Za (X9 Vc) Wj<|Za (Zk (k (nI .i64 0))) Wm<|Zc) (YT 0 (W5 fY))) (Zi (Za (Zk VL) UZ<|Za (ZT 50 [(k .nils),Ui]) UW<|Za (Zk V1) VV<|Zc) (Zi (Zi (Za (Zk Y3) Ti<|Za (X9 UY) Tj<|Za (Zk (k (nI .i64 0))) U0<|Zc) (YT 2 (W5 fZ))) (Zi (Za (Zk Ve) QI<|Za (Zk RB) st2<|Zc) YX))))))⟩
def c50:CF:=⟨[(XQ,none)],(Zi (Za (Zk (k .nils)) XL<|Zc) (Zi (Zi (Za (Zk Wv) Vq<|Za (Xi Wa (k (nI .i64 0)) Wf Xo) VV<|Zc) (Yo Ve (Za (Nr (k (.str ZoV)) 9) Uu<|Za (Nt WH) d0<|Zc) Zc)) (Zi (Zi (Za (Zk Wv) V2<|Za (Zk Y3) Ts<|Za (pH Vc) Wj<|Za (Zk Y3) Wm<|Za (X9 XO) WE<|Za (VF XF X6) WA<|Za (VF WD XR) W2<|Za (Zk Wi) st1<|Zc) (Zi (Za (Zk Wv) W9<|Za (Xi Wk (k (nI .i64 0)) SQ VW) W3<|Zc) (Yo Ww (Za (Zk Y3) Vm<|Za (Zk Y3) Vw<|Za (pH WX) V0<|Za (RC 1 WW none (some WC) none) Ue<|Za (Zk Wv) UU<|Za (LM VU VJ 5 1 1 [(nI .u8 0)]) UV<|Za (Zk Y3) UZ<|Za (X9 Ui) UW<|Za (RC 1 VK none (some V1) none) Ti<|Za (Zk UY) st0<|Zc) Zc))) (Zi (Za (Zk Y3) Tj<|Za (Zk UD) XL<|Zc) YX))))⟩
def c10:CF:=⟨[(Uv,none)],(Zi (Za (Zk (k .nils)) st2<|Zc) (Zi (Zi (Za (Zk Y3) Tc<|Za (UG VL (k .nils) jn false) XL<|Zc) (Yo XQ (Zi (Za (Zk (k .nils)) st2<|Zc) YX) Zc)) (Zi (Za (Vp 5 1 0 (List.replicate 0 [(nI .u8 0)]).flatten []) Vq<|Za (Zk Y3) VV<|Za (WZ Wa Ve 5 1 1) Uu<|Za (Zk WH) st2<|Zc) YX)))⟩
def c27:CF:=⟨[(Uv,none)],(Zi (Za (Zk (k (nI .i64 0))) st2<|Zc) (Zi (Zi (Za (Zk Y3) Tc<|Za (Xi VL (k (nI .i64 0)) Wf Xo) XL<|Zc) (Yo XQ (Zi (Za (Zk (k (nI .i64 0))) st2<|Zc) YX) Zc)) (Zi (Za (Zk Y3) Vq<|Za (zz Wa) VV<|Za (U4 Ve (k (nI .i64 511)) TT) Uu<|Za (Zk WH) st2<|Zc) YX)))⟩
def zT:D:=(Zi (Za (Xi O2 Mg Wf Xo) MM<|Zc) (Zi (Yo MD Zc (WV 0)) (Zi (YT 1 (Zi (Za (Vn No O2 9) MN<|Za (Uk Np 9) Lr<|Za (V9 36 [(.str []),(nI .i64 0),(nI .u32 0),(nI .u32 0),(nI .u32 0),(nI .i64 0),.nils,.nils,(.str [])]) Vm<|Za (Xy WW Nq 9) d0<|Zc) (Zi (Za (Xz WW 1) Lt<|Za (Xz Ld 6) KH<|Za (Yr Ko) KI<|Za (X9 Kp) KJ<|Za (Xi Le (k (nI .i64 0)) SQ VW) Jb<|Zc) (Yo K4 (Za (Zk Wk) Jc<|Za (Y4 Ow (k (nI .i64 1))) Jd<|Za (Zk K5) W9<|Zc) Zc)))) (Za (Y4 O2 (k (nI .i64 1))) Je<|Za (Zk K6) NR<|Zc))))
def nq:D:=Z5 Ds false (Zk VU) rL<|Z5 Ds false (Ns uS) xP<|Z5 Ds false (Zk yC) xQ<|Z5 Jy true (Xz WC 4) xR<|Z5 Jy true (Yr yD) xS<|Z5 Jy true (X9 yE) xT<|Z5 Jy true (Zk WH) xU<|Z5 Jy true (UG yF yG UB true) xV<|Z5 Ds false (XA Jy yH (k (.bool false))) xW<|Z5 PN true (XA Ds (k (.bool true)) yI) xX<|Z5 Lz false (XA PN yJ (k (.bool false))) xY<|Za (XA Lz (k (.bool true)) yK) rM<|Zc
def np:D:=Z5 IX false (Zk VU) xN<|Z5 IX false (Ns yB) rC<|Z5 IX false (Zk uM) rD<|Z5 GR true (Xz WC 3) rE<|Z5 GR true (Yr uN) rF<|Z5 GR true (Zk WH) rH<|Z5 GR true (UG uO uP UB true) rI<|Z5 IX false (XA GR uQ (k (.bool false))) rJ<|Z5 PN true (XA IX (k (.bool true)) uR) lQ<|Z5 PN true (Zk nH) lR<|nq
def nk:D:=Z5 Lz false (Xz WC 1) D3<|Z5 Lz false (Yr LA) D4<|Z5 Lz false (Ns BW) FH<|Z5 Lz false (Zk Dr) FI<|Z5 PN true (Xz WC 3) xD<|Z5 PN true (Yr yu) xE<|Z5 PN true (Zk WH) xF<|Z5 PN true (Xi yv yx SQ VW) xG<|Z5 PN true (Zk GP) xH<|Z5 GQ false (Xz WC 3) xI<|Z5 GQ false (Yr yy) xJ<|Z5 GQ false (Xi yz (k (nI .i64 1)) Wf Xo) xK<|Z5 PN true (XA GQ (k (.bool true)) KV) xL<|Z5 PN true (Zk yA) xM<|np
def Gv:D:=Z5 Lg true (Xz WC 2) AS<|Z5 Lg true (Yr zn) AT<|Z5 Lg true (UG BZ (k (nI .i64 0)) UB true) J2<|Z5 Lg true (Zk Jx) J3<|Z5 MX false (Xz WC 3) I5<|Z5 MX false (Yr MY) I6<|Z5 MX false (UG GO (k (nI .i64 0)) UB true) I7<|Z5 Lg true (XA MX (k (.bool true)) IW) I8<|Z5 Lg true (Zk KT) I9<|Z5 NA false (Xz WC 4) J4<|Z5 NA false (Yr Ly) FG<|Z5 NA false (X9 Dj) AP<|Z5 NA false (Fh BR (k (nI .i64 512))) DS<|Z5 NA false (UG BT (k (nI .i64 0)) UB true) DT<|Z5 Lg true (XA NA (k (.bool true)) Dk) DU<|Z5 Lg true (Zk Dl) DV<|Z5 KU false (Xz WC 5) DW<|Z5 KU false (Uk Dm 32) DX<|Z5 KU false (TV [(nI .u8 0),(nI .u8 0),(nI .u8 0),(nI .u8 0),(nI .u8 0),(nI .u8 0),(nI .u8 0),(nI .u8 0),(nI .u8 0),(nI .u8 0),(nI .u8 0),(nI .u8 0),(nI .u8 0),(nI .u8 0),(nI .u8 0),(nI .u8 0),(nI .u8 0),(nI .u8 0),(nI .u8 0),(nI .u8 0),(nI .u8 0),(nI .u8 0),(nI .u8 0),(nI .u8 0),(nI .u8 0),(nI .u8 0),(nI .u8 0),(nI .u8 0),(nI .u8 0),(nI .u8 0),(nI .u8 0),(nI .u8 0)] []) DY<|Z5 KU false (UG Dn Do (dq Tryz.prog 10 38) true) DZ<|Z5 Lg true (XA KU (k (.bool true)) BU) D0<|Za (XA Lg Dp (k (.bool false))) D1<|Za (Zk Dq) D2<|nk
def E4:D:=(Zi (Za (Xi Lf LC Wf Xo) Gg<|Zc) (Zi (Yo Kq Zc (WV 2)) (Zi (YT 3 (Zi (Za (Zk Lf) Gh<|Za (Vn ME Lf 37) Gi<|Za (Uk HG 37) FJ<|Za (V9 40 z37) V0<|Za (Zk Jz) Vw<|Za (Xy WC Cb 37) d0<|Zc) (Zi (Za (Zk WX) FK<|Za (Y4 GS (k (nI .i64 1))) FM<|Za (Zk Vc) FN<|Za (X9 O3) Ch<|Za (UG GU IJ UB false) Ci<|Za (Zk Cc) Cj<|Z5 K7 false (Zk Vc) Ck<|Z5 K7 false (Zk WX) Cl<|Z5 K7 false (Y4 Cd (k (nI .i64 1))) Cm<|Z5 K7 false (Vn GV Ce 37) Cn<|Z5 K7 false (Xz Cf 1) Co<|Z5 K7 false (Yr JA) AQ<|Za (XA K7 (k (.bool true)) BY) zH<|Za (Zk zm) Ue<|Zc) (Zi (Za (Xz WC 1) Cp<|Za (Yr En) Cq<|Za (Zk Eo) AR<|Gv) (Yo BX (Zi (Za (Zk (k (.bool false))) VV<|Zc) YX) Zc))))) (Za (Y4 Lf (k (nI .i64 1))) rN<|Za (Zk uT) IN<|Zc))))
def c3:CF:=⟨[(Ve,none)],(Zi (Za (Zk (k (.bool false))) VV<|Zc) (Zi (Za (Zk Y3) UU<|Za (ZT 4 [VJ]) UV<|Za (Zk VK) st0<|Zc) (Zi (Za (Zk Wv) UZ<|Za (ZT 5 [Ui]) UW<|Za (Zk Uv) Ti<|Za (ZT 5 [UY]) Tj<|Za (TS false [V1,UD]) U0<|Za (Zk Wv) Tk<|Za (ZT 5 [UE]) TP<|Za (Zk Uv) TW<|Za (ZT 5 [Sa]) SU<|Za (TS true [VP,Sn]) Rp<|Za (Zk Uq) Uu<|Za (Zk SP) V2<|Zc) (Zi (Za (Zk Y3) QH<|Za (Zk WH) QI<|Za (ZT 6 [Rc,RB]) Pe<|Za (Zk RT) RM<|Za (WJ RA 0) Pf<|Za (WJ RA 1) QW<|Za (Zk Q8) Ts<|Za (Zk QM) Wj<|Zc) (Zi (Za (Zk Y3) P3<|Za (Zk WD) P4<|Za (ZT 6 [QN,PO]) Oe<|Za (Zk QC) Pw<|Za (WJ Pu 0) QX<|Za (WJ Pu 1) Of<|Za (Zk Pv) Wm<|Za (Zk Qr) WE<|Zc) (Zi (Za (Zk Y3) Nd<|Za (ZT 6 [P9,(k (nI .i64 1024))]) Nf<|Za (Zk Q9) OK<|Za (WJ PP 0) Nx<|Za (WJ PP 1) NN<|Za (Zk NF) WA<|Za (Zk NG) W2<|Zc) (Zi (Zi (Za (Zk XF) NO<|Za (Zk X6) NQ<|Za (UG MB RU UB true) MH<|Za (Zk Md) Mu<|Z5 Nm false (Zk XF) Mv<|Z5 Nm false (Zk Wi) MI<|Z5 Nm false (UG Nn Me UB true) Mw<|Za (XA Nm (k (.bool true)) O1) MJ<|Zc) (Yo MC (Zi (Za (Zk (k (.bool false))) VV<|Zc) YX) Zc)) (Zi (Zi (Za (Zk XF) Ln<|Za (UG Ov (k (nI .i64 0)) UB true) Lo<|Zc) (Yo Lc (Zi (Za (ZT 7 []) MK<|Za (Zk Mf) VV<|Zc) YX) Zc)) (Zi (Za (Zk (k (nI .i64 0))) W9<|Zc) (Zi (Zi (Za (Zk Y3) Lq<|Za (X9 No) ML<|Za (Zk (k (nI .i64 0))) NR<|Zc) (YT 0 (W5 zT))) (Zi (Zi (Za (Zk Vc) Jf<|Za (X9 ME) J5<|Za (Zk (k (nI .i64 0))) IN<|Zc) (YT 2 (W5 E4))) (Zi (Za (Zk XO) lS<|Za (X9 nJ) lU<|Za (Zk Vc) lV<|Za (X9 nM) lW<|Za (Xi nL nN PR Sk) lX<|Za (Zk nO) lY<|Z5 LB true (Zk XR) lZ<|Z5 LB true (X9 nP) kg<|Z5 LB true (Zk Y3) kh<|Z5 LB true (X9 nR) ZaO<|Z5 LB true (Zk Wk) ZaP<|Z5 LB true (Y4 dP dQ) ZaQ<|Z5 LB true (UG nQ dR UB false) ZaR<|Za (XA LB dS (k (.bool false))) ZaS<|Za (Zk dT) ZaT<|Z5 Dt true (Zk Vc) ZaU<|Z5 Dt true (ZT 9 [dU]) ZaV<|Z5 Dt true (Zk XO) ZaW<|Z5 Dt true (ZT 9 [uU]) ZaX<|Z5 Dt true (ZT 8 [dV,uV]) ZaY<|Za (XA Dt dW (k (.bool false))) ZaZ<|Za (Zk dX) Za0<|Z5 Du true (Zk Vc) Za1<|Z5 Du true (ZT 9 [dY]) Za2<|Z5 Du true (Zk XR) Za3<|Z5 Du true (ZT 9 [d9]) Za4<|Z5 Du true (ZT 8 [dZ,ce]) Za5<|Za (XA Du ci (k (.bool false))) Za6<|Za (Zk cj) Za7<|Z5 nS true (ZT 7 []) ZfG<|Za (XA nS Zfa (k (.bool false))) ZfH<|Za (Zk Zfb) VV<|Zc) YX))))))))))))⟩
def c5:CF:=⟨[(Uv,none)],(Zi (Za (Zk (k (nI .i64 0))) st2<|Zc) (Zi (Za (Zk Y3) Tc<|Za (Fh VL (k (nI .u8 60))) XL<|Za (Sw XQ .i64) Vq<|Za (Y4 (k (nI .i64 16)) Wa) VV<|Za (Zk Ve) st2<|Zc) YX))⟩
def zU:D:=(Zi (Za (Xi O1 Me Wf Xo) MJ<|Zc) (Zi (Yo MC Zc (WV 2)) (Zi (YT 3 (Zi (Za (Zk O1) Ln<|Za (Vn Nn O1 2) Lo<|Za (Uk Lc 2) MK<|Za (V9 46 [(.str []),(.str [])]) V2<|Za (Zk Ov) Uu<|Za (Xy WD Mf 2) d0<|Zc) (Zi (Za (Zk WH) Lq<|Za (Xi No (k (nI .i64 18)) Wf Xo) ML<|Zc) (Yo Mg (W7 [⟨Xz Wa 1,none,[(Vq,Wa)],NR,.free,0,0⟩,⟨Xz O2 5,none,[(NR,O2)],MM,.free,1,1⟩,⟨Yr MD,none,[(MM,MD)],MN,.read,2,3⟩,⟨Xz WD 0,none,[(V2,WD)],Lr,.free,3,0⟩,⟨Yr Nq,none,[(Lr,Nq)],Lt,.read,4,8⟩,⟨Xz WD 0,none,[(V2,WD)],KH,.free,5,0⟩,⟨Yr Ko,none,[(KH,Ko)],KI,.read,6,32⟩,⟨Wn Kp,none,[(KI,Kp)],KJ,.free,7,96⟩,⟨TS false [Le,(k (nI .i64 40))],none,[(KJ,Le)],Jb,.free,8,224⟩,⟨Vv Ld none (some K4) none,none,[(Lt,Ld),(Jb,K4)],Jc,.free,9,504⟩,⟨Xz WD 1,none,[(V2,WD)],Jd,.free,10,0⟩,⟨Yr K5,none,[(Jd,K5)],Je,.read,11,1024⟩,⟨Xz WD 1,none,[(V2,WD)],Jf,.free,12,0⟩,⟨Yr ME,none,[(Jf,ME)],J5,.read,13,4096⟩,⟨Wn LC,none,[(J5,LC)],IN,.free,14,12288⟩,⟨TS false [Lf,(k (nI .i64 40))],none,[(IN,Lf)],Gg,.free,15,28672⟩,⟨Vv K6 none (some Kq) none,none,[(Je,K6),(Gg,Kq)],Gh,.free,16,64512⟩,⟨TV [(.str []),(.str [])] [⟨0,1,Ow⟩,⟨1,1,Jz⟩],none,[(Jc,Ow),(Gh,Jz)],Gi,.free,17,131064⟩,⟨Vp 46 2 1 [(.str []),(.str [])] [⟨0,2,HG⟩],none,[(Gi,HG)],FJ,.free,18,262136⟩,⟨WZ Np Cb 46 2 32,none,[(MN,Np),(FJ,Cb)],FK,.eff,19,524287⟩,⟨Xz Wa 1,none,[(Vq,Wa)],FM,.free,20,1048575⟩,⟨Xz GU 5,none,[(FM,GU)],FN,.free,21,2097151⟩,⟨Xy O3 GS 1,none,[(FN,O3),(FK,GS)],d0,.eff,22,4194303⟩]) Zc)))) (Za (Y4 O1 (k (nI .i64 1))) Ch<|Za (Zk IJ) Mw<|Zc))))
def Bo:D:=(Zi (Za (Xi XO XF Wf Xo) WE<|Zc) (Zi (Yo X6 Zc (WV 0)) (Zi (YT 1 (Zi (Za (Zk XO) WA<|Za (Vn Vc XO 9) W2<|Za (Uk Wi 9) W9<|Za (V9 36 [(.str []),(nI .i64 0),(nI .u32 0),(nI .u32 0),(nI .u32 0),(nI .i64 0),.nils,.nils,(.str [])]) Vq<|Za (Zk XR) XL<|Za (Xy Wa Wk 9) d0<|Zc) (Zi (Zi (Za (Zk XQ) W3<|Za (UG Ww (k (nI .i64 8)) UB false) Vm<|Zc) (Yo WW (WV 0) Zc)) (Zi (Za (Xz Wa 1) Vw<|Za (Xz WX 5) V0<|Za (Yr WC) Ue<|Za (Zk VU) VV<|Zc) (Zi (W7 [⟨Xz Wa 0,none,[(Vq,Wa)],UU,.free,0,0⟩,⟨Yr VJ,none,[(UU,VJ)],UV,.read,1,1⟩,⟨Xz Wa 0,none,[(Vq,Wa)],UZ,.free,2,0⟩,⟨Yr Ui,none,[(UZ,Ui)],UW,.read,3,4⟩,⟨Wn V1,none,[(UW,V1)],Ti,.free,4,12⟩,⟨TS false [UY,(k (nI .i64 300))],none,[(Ti,UY)],Tj,.free,5,28⟩,⟨Vv VK none (some UD) none,none,[(UV,VK),(Tj,UD)],U0,.free,6,63⟩,⟨Xz Wa 1,none,[(Vq,Wa)],Tk,.free,7,0⟩,⟨Xz UE 7,none,[(Tk,UE)],TP,.free,8,128⟩,⟨Yr VP,none,[(TP,VP)],TW,.read,9,384⟩,⟨Xz Wa 1,none,[(Vq,Wa)],SU,.free,10,0⟩,⟨Xz Sn 7,none,[(SU,Sn)],Rp,.free,11,1024⟩,⟨Yr SP,none,[(Rp,SP)],RM,.read,12,3072⟩,⟨Wn RA,none,[(RM,RA)],QH,.free,13,7168⟩,⟨TS false [Rc,(k (nI .i64 300))],none,[(QH,Rc)],QI,.free,14,15360⟩,⟨Vv Sa none (some RB) none,none,[(TW,Sa),(QI,RB)],Pe,.free,15,32640⟩,⟨Xz Wa 1,none,[(Vq,Wa)],Pf,.free,16,0⟩,⟨Xz Q8 6,none,[(Pf,Q8)],QW,.free,17,65536⟩,⟨Yr QM,none,[(QW,QM)],Pw,.read,18,196608⟩,⟨Xz Wa 1,none,[(Vq,Wa)],P3,.free,19,0⟩,⟨Xz QN 6,none,[(P3,QN)],P4,.free,20,524288⟩,⟨Yr PO,none,[(P4,PO)],Oe,.read,21,1572864⟩,⟨X9 QC,none,[(Oe,QC)],QX,.free,22,3670016⟩,⟨TS false [Pv,(k (nI .i64 300))],none,[(QX,Pv)],Of,.free,23,7864320⟩,⟨RC 1 Pu none (some Qr) none,none,[(Pw,Pu),(Of,Qr)],OK,.read,24,16711680⟩,⟨Xz Wa 0,none,[(Vq,Wa)],Nf,.free,26,4136959⟩,⟨ZT 10 [PP],none,[(OK,PP)],Nd,.eff,25,33488896⟩,⟨Xy Q9 Uq 1,none,[(Nf,Q9),(U0,Uq)],d0,.eff,27,134160383⟩,⟨Xz Wa 1,none,[(Vq,Wa)],Nx,.free,28,268435455⟩,⟨Xz NF 7,none,[(Nx,NF)],NN,.free,29,536870911⟩,⟨Xy NG RT 1,none,[(NN,NG),(Pe,RT)],d0,.eff,30,1073741823⟩,⟨Xz Wa 1,none,[(Vq,Wa)],NO,.free,31,2147483647⟩,⟨Xz MB 6,none,[(NO,MB)],NQ,.free,32,4294967295⟩,⟨Xy RU P9 1,none,[(NQ,RU),(Nd,P9)],d0,.eff,33,8589934591⟩]) (Zi (Za (Xz Wa 1) MH<|Za (Xz Md 5) Mu<|Za (Xy Nm (k .nils) 1) d0<|Zc) (Zi (Zi (Za (Zk Ve) Mv<|Za (X9 Nn) MI<|Za (Zk (k (nI .i64 0))) Mw<|Zc) (YT 2 (W5 zU))) (Za (Zk VL) Ci<|Za (Uk Wa 9) Cj<|Za (Vp 36 9 1 [(.str []),(nI .i64 0),(nI .u32 0),(nI .u32 0),(nI .u32 0),(nI .i64 0),.nils,.nils,(.str [])] [⟨0,9,K7⟩]) Ck<|Za (WZ Cc GV 36 9 112) Cl<|Za (Zk Cd) Tc<|Zc)))))))) (Za (Y4 XO (k (nI .i64 1))) Cm<|Za (Zk Ce) Wm<|Zc))))
def c4:CF:=⟨[(Uv,none)],(Zi (Za (Zk (k .nils)) st2<|Zc) (Zi (Za (Zk (k .nils)) Tc<|Zc) (Zi (Zi (Za (Zk Y3) Ts<|Za (X9 Vc) Wj<|Za (Zk (k (nI .i64 0))) Wm<|Zc) (YT 0 (W5 Bo))) (Zi (Za (Zk VL) Cn<|Za (Zk Cf) st2<|Zc) YX))))⟩
def c6:CF:=⟨[(XQ,none),(Wa,none)],(Zi (Za (Zk (k .nils)) XL<|Za (Zk (k (nI .i64 0))) Vq<|Zc) (Zi (Zi (Za (Zk Wv) Uu<|Za (Xi WH (k (nI .i64 16)) Wf Xo) V2<|Za (Zk WD) Ts<|Z5 Vc false (Zk Wv) Wj<|Z5 Vc false (Xi XF (k (nI .i64 65536)) SQ VW) Wm<|Za (XA Vc (k (.bool true)) XO) WE<|Zc) (Yo X6 (Zi (Za (Zk (k .nils)) XL<|Za (Zk (k (nI .i64 1))) Vq<|Zc) YX) Zc)) (Zi (Zi (Za (Zk Y3) WA<|Za (ZT 11 [XR]) W2<|Za (Zk Wi) VV<|Zc) (Zi (Za (Zk Ve) W9<|Za (UG Wk (k (nI .i64 0)) UB true) W3<|Zc) (Yo Ww (Zi (Za (Zk Ve) Vm<|Za (Zk (k .nils)) XL<|Za (Zk WW) Vq<|Zc) YX) Zc))) (Zi (Za (Zk Y3) Vw<|Za (Zk Wv) V0<|Za (ZT 12 [WX,WC]) Ue<|Za (Zk VU) XL<|Za (Zk (k (nI .i64 0))) Vq<|Zc) YX))))⟩
def Jn:D:=(Zi (Za (Xi XO XF Wf Xo) WE<|Zc) (Zi (Yo X6 Zc (WV 0)) (Zi (YT 1 (Zi (Za (Zk XO) WA<|Za (Vn Vc XO 9) W2<|Za (Uk Wi 9) W9<|Za (V9 36 [(.str []),(nI .i64 0),(nI .u32 0),(nI .u32 0),(nI .u32 0),(nI .i64 0),.nils,.nils,(.str [])]) XL<|Za (Zk XR) Tc<|Za (Xy XQ Wk 9) d0<|Zc) (Zi (W7 [⟨Uk XQ 9,none,[(XL,XQ)],W3,.read,0,0⟩,⟨ZT 14 [Ww],none,[(W3,Ww)],Vm,.eff,1,1⟩,⟨Ns WW,none,[(Vm,WW)],Vw,.free,2,3⟩,⟨Zk WX,none,[(Vw,WX)],V0,.free,3,7⟩,⟨Zk VL,(some (WC,false)),[(Tc,VL)],Ue,.free,4,15⟩,⟨Xi VU (k (nI .i64 0)) SQ VW,(some (WC,false)),[(Ue,VU)],UU,.free,5,31⟩,⟨Zk VJ,(some (WC,false)),[(UU,VJ)],UV,.free,6,63⟩,⟨Zk Y3,(some (VK,true)),[(st0,Y3)],UZ,.free,7,127⟩,⟨Zk VL,(some (VK,true)),[(Tc,VL)],UW,.free,8,127⟩,⟨VF V1 (k (nI .i64 1)),(some (VK,true)),[(UW,V1)],Ti,.free,9,383⟩,⟨Vn Ui UY 9,(some (VK,true)),[(UZ,Ui),(Ti,UY)],Tj,.free,10,1023⟩,⟨Xz UD 0,(some (VK,true)),[(Tj,UD)],U0,.free,11,2047⟩,⟨Yr Uq,(some (VK,true)),[(U0,Uq)],Tk,.read,12,4095⟩,⟨Xz XQ 0,(some (VK,true)),[(XL,XQ)],TP,.free,13,127⟩,⟨Yr VP,(some (VK,true)),[(TP,VP)],TW,.read,14,8319⟩,⟨Xi UE Sa Re Vi,(some (VK,true)),[(Tk,UE),(TW,Sa)],SU,.free,15,32767⟩,⟨XA VK Sn (k (.bool false)),(some (WC,false)),[(UV,VK),(SU,Sn)],Rp,.free,16,65535⟩,⟨XA WC (k (.bool true)) SP,none,[(V0,WC),(Rp,SP)],RM,.free,17,131071⟩]) (Yo RA (Zi (Za (Zk (k (nI .i64 1))) st2<|Zc) YX) Zc)))) (Za (Y4 XO (k (nI .i64 1))) QH<|Za (Zk Rc) Wm<|Zc))))
def c11:CF:=⟨[(Uv,none)],(Zi (Za (Zk (k (nI .i64 0))) st2<|Zc) (Zi (Zi (Za (Zk Y3) Vq<|Za (Zk Y3) VV<|Za (X9 Ve) Uu<|Za (TS false [WH,(k (nI .i64 4096))]) V2<|Za (RC 9 Wa none (some WD) none) Ts<|Za (X9 Vc) Wj<|Za (Zk (k (nI .i64 0))) Wm<|Zc) (YT 0 (W5 Jn))) (Zi (Zi (Za (Zk Y3) QI<|Za (X9 RB) Pe<|Za (Xi RT (k (nI .i64 4096)) SQ VW) Pf<|Zc) (Yo Q8 (Zi (Za (Zk (k (nI .i64 42))) st2<|Zc) YX) Zc)) (Zi (Za (Zk (k (nI .i64 0))) st2<|Zc) YX))))⟩
def c14:CF:=⟨[(Uv,none)],(Zi (Za (IM Y3 36) st1<|Za (Zk (k (.bool false))) st2<|Zc) (Zi (Za (Xz Wv 0) VV<|Za (Yr Ve) Uu<|Za (ZT 18 [WH]) V2<|Za (Zk WD) Vq<|Za (WJ Wa 0) Ts<|Za (WJ Wa 1) Wj<|Za (Zk Vc) Tc<|Za (Zk XF) XL<|Zc) (Zi (Za (Zk VL) Wm<|Za (Xi XO (k (nI .i64 1)) Re Vi) WE<|Za (Zk X6) WA<|Z5 XR true (Zk VL) W2<|Z5 XR true (Xi Wi (k (nI .i64 3)) PR Sk) W9<|Za (XA XR Wk (k (.bool false))) W3<|Za (Zk Ww) Vm<|Z5 WW true (Uk Wv 9) Vw<|Z5 WW true (ZT 19 [WX]) V0<|Za (XA WW WC (k (.bool false))) Ue<|Za (Zk VU) st2<|Zc) YX)))⟩
def Bj:D:=(Zi (Za (Xi Wi XR Wf Xo) W9<|Zc) (Zi (Yo Wk Zc (WV 0)) (Zi (YT 1 (Zi (Za (Zk Wi) W3<|Za (Vn X6 Wi 9) Vm<|Za (Uk WW 9) Vw<|Za (V9 36 [(.str []),(nI .i64 0),(nI .u32 0),(nI .u32 0),(nI .u32 0),(nI .i64 0),.nils,.nils,(.str [])]) Uu<|Za (Zk Ww) VV<|Za (Xy WH WX 9) d0<|Zc) (Zi (Za (Uk WH 9) Ue<|Za (ZT 15 [VU]) UU<|Za (Zk VJ) V0<|Za (WJ WC 0) UV<|Za (WJ WC 1) UZ<|Za (Zk VK) V2<|Za (Zk Ui) Ts<|Zc) (Zi (Za (Zk Wa) UW<|Za (Zk Wa) Ti<|Za (Tx UY) Tj<|Za (Xz UD 0) U0<|Za (Yr Uq) Tk<|Za (Zk Ve) TP<|Za (Zk WD) TW<|Za (TV z37 [⟨0,1,VP⟩,⟨1,1,(k (.bool true))⟩,⟨4,1,Sa⟩]) SU<|Za (Vp 40 37 1 z37 [⟨0,37,Sn⟩]) Rp<|Za (WZ UE SP 40 37 88) RM<|Za (Tx V1) QH<|Za (Xz Rc 0) QI<|Za (Xy RB RA 1) d0<|Zc) (Za (Xz WH 1) Pe<|Za (Xz RT 6) Pf<|Za (Yr Q8) QW<|Za (Zk Wv) Pw<|Za (Zk Wa) P3<|Za (Fb 17 [QN] []) P4<|Za (Zk Ve) Oe<|Za (ZT 16 [QM,Pu,PO,QC]) QX<|Zc))))) (Za (Y4 Wi (k (nI .i64 1))) Of<|Za (Zk Qr) W2<|Zc))))
def c12:CF:=⟨[(XQ,none)],(Zi (Za (Zk (k .nils)) XL<|Zc) (Zi (Za (TV [.nils] []) Wj<|Za (IM XF 53) Wm<|Za (Zk XO) Vq<|Zc) (Zi (Zi (Za (Zk Y3) WE<|Za (X9 X6) WA<|Za (Zk (k (nI .i64 0))) W2<|Zc) (YT 0 (W5 Bj))) (Zi (Za (Zk Wa) OK<|Za (Tx PP) Nd<|Za (Xz P9 0) Nf<|Za (Yr Q9) Nx<|Za (Zk NF) XL<|Zc) YX))))⟩
def F7:D:=(Zi (Zi (Za (Zk WD) Wm<|Za (Zk Y3) WE<|Za (X9 X6) WA<|Za (Xi XO XR Wf Xo) W2<|Zc) (Yo Wi Zc (WV 0))) (Zi (YT 1 (Zi (Za (Zk WD) Vw<|Za (Zk Wv) V0<|Za (Y4 WX WC) Ue<|Za (Zk VU) Ts<|Za (Zk (k (nI .i64 0))) Wj<|Zc) (Zi (Zi (Za (Zk Vc) UU<|Za (Zk Y3) UV<|Za (X9 VK) UZ<|Za (Xi VJ Ui Re Vi) UW<|Zc) (Yo V1 (Za (Zk Y3) Ti<|Za (X9 UY) Tj<|Za (Zk Y3) U0<|Za (X9 Uq) Tk<|Za (ZT 27 [UE]) TP<|Za (Zk UD) Ts<|Za (Zk VP) Wj<|Zc) Zc)) (Za (Zk Uv) TW<|Za (Zk VL) SU<|Za (Zk WD) Rp<|Za (Zk Y3) RM<|Za (Zk WD) QH<|Za (Zk Vc) QI<|Za (RC 1 RA (some Rc) (some RB) none) Pe<|Za (Zk XF) Pf<|Za (Mo Sa Tryz.prog [Sn,SP,RT,Q8]) QW<|Zc)))) (Za (Zk WD) W9<|Za (Zk Wv) W3<|Za (Y4 Wk Ww) Vm<|Za (Zk WW) V2<|Zc)))
def c16:CF:=⟨[],(Zi (Za (Zk (k (nI .i64 0))) V2<|Zc) (YT 0 (W5 F7)))⟩
def c17:CF:=⟨[],(Zi (Za (Zk VL) Wm<|Za (ZT 10 [XO]) WE<|Za (Zk XQ) WA<|Za (LM X6 XR 5 1 1 [(nI .u8 0)]) W2<|Za (Zk Wi) Wj<|Zc) (W7 [⟨Zk Y3,none,[(st0,Y3)],W9,.free,0,0⟩,⟨Zk Y3,none,[(st0,Y3)],W3,.free,1,0⟩,⟨Tx Ww,none,[(W3,Ww)],Vm,.free,2,2⟩,⟨Xz WW 0,none,[(Vm,WW)],Vw,.free,3,6⟩,⟨Yr WX,none,[(Vw,WX)],V0,.read,4,14⟩,⟨Zk Wv,none,[(st1,Wv)],Ue,.free,5,0⟩,⟨Zk Uv,none,[(st2,Uv)],UU,.free,6,0⟩,⟨Zk VL,none,[(Tc,VL)],UV,.free,7,0⟩,⟨X9 VK,none,[(UV,VK)],UZ,.free,8,128⟩,⟨Zk XF,none,[(Wj,XF)],UW,.free,9,0⟩,⟨Zk VL,none,[(Tc,VL)],Ti,.free,10,0⟩,⟨ZT 28 [UY],none,[(Ti,UY)],Tj,.eff,11,1024⟩,⟨TV z37 [⟨0,1,VU⟩,⟨1,1,(k (.bool false))⟩,⟨2,1,VJ⟩,⟨3,1,Ui⟩,⟨4,1,V1⟩,⟨5,32,UD⟩],none,[(Ue,VU),(UU,VJ),(UZ,Ui),(UW,V1),(Tj,UD)],U0,.free,12,4064⟩,⟨Vp 40 37 1 z37 [⟨0,37,Uq⟩],none,[(U0,Uq)],Tk,.free,13,8160⟩,⟨WZ WC UE 40 37 88,none,[(V0,WC),(Tk,UE)],TP,.eff,14,16382⟩,⟨Tx Wk,none,[(W9,Wk)],TW,.free,15,32767⟩,⟨Xz Sa 0,none,[(TW,Sa)],SU,.free,16,65535⟩,⟨Xy Sn VP 1,none,[(SU,Sn),(TP,VP)],d0,.eff,17,131071⟩]))⟩
def uq:D:=(Zi (Za (Xi WD WH Wf Xo) Ts<|Zc) (Zi (Yo Vc Zc (WV 0)) (Zi (YT 1 (Zi (Za (Vn Ve WD 37) Wj<|Za (Uk XF 37) Wm<|Za (V9 40 z37) Vq<|Za (Xy Wa XO 37) d0<|Zc) (Za (Zk VL) WE<|Za (Xz Wa 4) WA<|Za (Yr XR) W2<|Za (WZ X6 Wi 5 1 1) W9<|Za (Zk Wk) Tc<|Zc))) (Za (Y4 WD (k (nI .i64 1))) W3<|Za (Zk Ww) V2<|Zc))))
def c9:CF:=⟨[(Uv,none)],(Zi (Za (Zk (k .nils)) st2<|Zc) (Zi (Za (Zk (k .nils)) Tc<|Zc) (Zi (Zi (Za (Zk Y3) VV<|Za (X9 Ve) Uu<|Za (Zk (k (nI .i64 0))) V2<|Zc) (YT 0 (W5 uq))) (Zi (Za (Zk VL) Vm<|Za (Zk WW) st2<|Zc) YX))))⟩
def c8:CF:=⟨[(XQ,none)],(Zi (Za (Zk (k (.bool false))) XL<|Zc) (Zi (Za (Zk Y3) Vq<|Za (si Wa) VV<|Za (Zk Wv) Uu<|Za (si WH) V2<|Za (UG Ve WD Js false) Ts<|Za (Zk Vc) XL<|Zc) YX))⟩
end
section
open Go.Proofs N8
def K2:CF:=⟨[(XQ,none)],(Zi (Za (Zk (k (nI .u32 0))) XL<|Zc) (Zi (Za (Zk Y3) Vq<|Za (Zk Wv) VV<|Za (zz Ve) Uu<|Za (ZT 121 [Wa,WH]) V2<|Za (Zk WD) XL<|Zc) YX))⟩
def Kh:CF:=⟨[(XQ,none)],(Zi (Za (Zk (k (nI .u32 0))) XL<|Zc) (Zi (Za (Zk Wv) VV<|Za (Sw Ve .u64) Uu<|Za (U4 WH (k (nI .u64 31)) TT) V2<|Za (Zk WD) Vq<|Zc) (Zi (Za (Zk Y3) Ts<|Za (Zk Wa) Wj<|Za (iD Vc XF) Wm<|Za (Zk Y3) WE<|Za (Zk Wa) WA<|Za (VF (k (nI .u64 32)) XR) W2<|Za (MF X6 Wi) W9<|Za (U4 XO Wk tF) W3<|Za (Zk Ww) XL<|Zc) YX)))⟩
def Kg:D:=(Zi (Za (Xi V1 Ui Wf Xo) Ti<|Zc) (Zi (Yo UY Zc (WV 2)) (Zi (YT 3 (Zi (Za (Vn VK V1 1) Tj<|Za (Yr UD) U0<|Za (Zk Uq) VV<|Zc) (Za (Zk XQ) Tk<|Za (Zk XQ) TP<|Za (VE VL VP 64 1) TW<|Za (Yr Sa) SU<|Za (iD Sn (k (nI .u64 8))) Rp<|Za (Zk Ve) RM<|Za (Sw RA .u32) QH<|Za (U4 SP Rc tF) QI<|Za (VE VL UE 64 1) Pe<|Za (Xy RT RB 1) d0<|Zc))) (Za (Y4 V1 (k (nI .i64 1))) Pf<|Za (Zk Q8) UW<|Zc))))
def NC:D:=(Zi (Za (Xi XO (k (nI .i64 64)) Wf Xo) WE<|Zc) (Zi (Yo X6 Zc (WV 0)) (Zi (YT 1 (Zi (Za (Zk XO) WA<|Za (Zk XR) XL<|Zc) (Zi (Zi (Za (Zk XQ) W2<|Za (Xi Wi (k (nI .i64 16)) Wf Xo) W9<|Zc) (Yo Wk (Zi (Zi (Za (Zk Y3) W3<|Za (Zk XQ) Vm<|Za (Oc (k (nI .i64 4)) WW) Vw<|Za (Zk XQ) V0<|Za (Oc (k (nI .i64 4)) WC) Ue<|Za (Y4 VU (k (nI .i64 4))) UU<|Za (RC 1 Ww (some WX) (some VJ) none) UV<|Za (X9 VK) UZ<|Za (Zk (k (nI .i64 0))) UW<|Zc) (YT 2 (W5 Kg))) (WV 1)) Zc)) (Zi (W7 [⟨Zk XQ,none,[(XL,XQ)],QW,.free,0,0⟩,⟨VF QM (k (nI .i64 15)),none,[(QW,QM)],Pw,.free,1,1⟩,⟨VE VL Pu 64 1,none,[(Tc,VL),(Pw,Pu)],P3,.free,2,3⟩,⟨Yr QN,none,[(P3,QN)],P4,.read,3,7⟩,⟨Zk XQ,none,[(XL,XQ)],Oe,.free,4,0⟩,⟨VF QC (k (nI .i64 2)),none,[(Oe,QC)],QX,.free,5,16⟩,⟨VE VL Pv 64 1,none,[(Tc,VL),(QX,Pv)],Of,.free,6,48⟩,⟨Yr Qr,none,[(Of,Qr)],OK,.read,7,112⟩,⟨Zk PO,none,[(P4,PO)],Uu,.eff,8,15⟩,⟨Zk PP,none,[(OK,PP)],V2,.eff,9,511⟩]) (Zi (Za (Zk WH) Nd<|Za (ZT 108 [P9,(k (nI .i64 7))]) Nf<|Za (Zk WH) Nx<|Za (ZT 108 [NF,(k (nI .i64 18))]) NN<|Za (U4 Q9 NG Ia) NO<|Za (Zk WH) NQ<|Za (MF RU (k (nI .u64 3))) MH<|Za (U4 MB Md Ia) Mu<|Za (Zk Nm) Ts<|Zc) (Zi (Za (Zk WD) Mv<|Za (ZT 108 [Nn,(k (nI .i64 17))]) MI<|Za (Zk WD) Mw<|Za (ZT 108 [O1,(k (nI .i64 19))]) MJ<|Za (U4 Me MC Ia) Ln<|Za (Zk WD) Lo<|Za (MF Lc (k (nI .u64 10))) MK<|Za (U4 Ov Mf Ia) Lq<|Za (Zk No) Wj<|Zc) (W7 [⟨Zk XQ,none,[(XL,XQ)],ML,.free,0,0⟩,⟨Zk XF,none,[(Wj,XF)],NR,.free,1,0⟩,⟨Zk XQ,none,[(XL,XQ)],MM,.free,2,0⟩,⟨VF MD (k (nI .i64 7)),none,[(MM,MD)],MN,.free,3,4⟩,⟨VE VL Np 64 1,none,[(Tc,VL),(MN,Np)],Lr,.free,4,12⟩,⟨Yr Nq,none,[(Lr,Nq)],Lt,.read,5,28⟩,⟨Y4 O2 Ld,none,[(NR,O2),(Lt,Ld)],KH,.free,6,62⟩,⟨Zk Vc,none,[(Ts,Vc)],KI,.free,7,0⟩,⟨Y4 Ko Kp,none,[(KH,Ko),(KI,Kp)],KJ,.free,8,254⟩,⟨Zk XQ,none,[(XL,XQ)],Jb,.free,9,0⟩,⟨VF K4 (k (nI .i64 16)),none,[(Jb,K4)],Jc,.free,10,512⟩,⟨VE VL Ow 64 1,none,[(Tc,VL),(Jc,Ow)],Jd,.free,11,1536⟩,⟨Yr K5,none,[(Jd,K5)],Je,.read,12,3584⟩,⟨Y4 Le K6,none,[(KJ,Le),(Je,K6)],Jf,.free,13,8190⟩,⟨VE VL Mg 64 1,none,[(Tc,VL),(ML,Mg)],J5,.free,14,16383⟩,⟨Xy LC ME 1,none,[(J5,LC),(Jf,ME)],d0,.eff,15,32767⟩]))))))) (Za (Y4 XO (k (nI .i64 1))) IN<|Za (Zk Lf) Wm<|Zc))))
def Ca:CF:=⟨[(Uv,some (64,true))],(Zi (Za (RH 165 64 (nI .u32 0)) st2<|Zc) (Zi (Za (RH 165 64 (nI .u32 0)) Tc<|Zc) (Zi (Zi (Za (Zk (k (nI .i64 0))) Wm<|Zc) (YT 0 (W5 NC))) (Zi (Za (Uk VL 64) Gg<|Za (Xy Uv Kq 64) d0<|Zc) YX))))⟩
def Hw:D:=(Zi (Za (Xi WX (k (nI .i64 64)) Wf Xo) V0<|Zc) (Zi (Yo WC Zc (WV 0)) (Zi (YT 1 (Zi (Za (Zk WX) Ue<|Za (Zk VU) VV<|Zc) (Zi (W7 [⟨VE XQ (k (nI .i64 4)) 8 1,none,[(XL,XQ)],UU,.free,0,0⟩,⟨Yr VJ,none,[(UU,VJ)],UV,.read,1,1⟩,⟨VE XQ (k (nI .i64 0)) 8 1,none,[(XL,XQ)],UZ,.free,2,0⟩,⟨Yr Ui,none,[(UZ,Ui)],UW,.read,3,4⟩,⟨Zk VK,none,[(UV,VK)],Uu,.eff,4,3⟩,⟨Zk V1,none,[(UW,V1)],V2,.eff,5,31⟩]) (Zi (W7 [⟨VE XQ (k (nI .i64 7)) 8 1,none,[(XL,XQ)],Ti,.free,0,0⟩,⟨Yr UY,none,[(Ti,UY)],Tj,.read,1,1⟩,⟨Zk WH,none,[(Uu,WH)],U0,.free,2,0⟩,⟨Zk WH,none,[(Uu,WH)],TP,.free,4,0⟩,⟨Zk WH,none,[(Uu,WH)],Rp,.free,7,0⟩,⟨Zk WH,none,[(Uu,WH)],Pe,.free,11,0⟩,⟨VE XQ (k (nI .i64 5)) 8 1,none,[(XL,XQ)],Pf,.free,12,0⟩,⟨Yr Q8,none,[(Pf,Q8)],QW,.read,13,4096⟩,⟨U4 RT QM TT,none,[(Pe,RT),(QW,QM)],Pw,.free,14,14336⟩,⟨Zk WH,none,[(Uu,WH)],P3,.free,15,0⟩,⟨lj QN,none,[(P3,QN)],P4,.free,16,32768⟩,⟨VE XQ (k (nI .i64 6)) 8 1,none,[(XL,XQ)],Oe,.free,17,0⟩,⟨Yr QC,none,[(Oe,QC)],QX,.read,18,131072⟩,⟨U4 PO Pv TT,none,[(P4,PO),(QX,Pv)],Of,.free,19,491520⟩,⟨U4 Pu Qr Ia,none,[(Pw,Pu),(Of,Qr)],OK,.free,20,1046528⟩,⟨Zk Ve,none,[(VV,Ve)],Nf,.free,22,0⟩,⟨VE (k (.ptr 5 0)) Q9 64 1,none,[(Nf,Q9)],Nx,.free,23,4194304⟩,⟨Yr NF,none,[(Nx,NF)],NN,.read,24,12582912⟩,⟨Zk Ve,none,[(VV,Ve)],NQ,.free,26,0⟩,⟨VE Wa RU 64 1,none,[(Vq,Wa),(NQ,RU)],MH,.free,27,67108864⟩,⟨Yr Md,none,[(MH,Md)],Mu,.read,28,201326592⟩,⟨ZT 108 [Uq,(k (nI .i64 6))],none,[(U0,Uq)],Tk,.eff,3,4⟩,⟨ZT 108 [VP,(k (nI .i64 11))],none,[(TP,VP)],TW,.eff,5,28⟩,⟨U4 UE Sa Ia,none,[(Tk,UE),(TW,Sa)],SU,.free,6,60⟩,⟨ZT 108 [SP,(k (nI .i64 25))],none,[(Rp,SP)],RM,.eff,8,188⟩,⟨U4 Sn RA Ia,none,[(SU,Sn),(RM,RA)],QH,.free,9,508⟩,⟨Y4 UD Rc,none,[(Tj,UD),(QH,Rc)],QI,.free,10,1023⟩,⟨Y4 RB PP,none,[(QI,RB),(OK,PP)],Nd,.free,21,2097151⟩,⟨Y4 P9 NG,none,[(Nd,P9),(NN,NG)],NO,.free,25,33554431⟩,⟨Y4 MB Nm,none,[(NO,MB),(Mu,Nm)],Mv,.free,29,536870911⟩,⟨Zk Nn,none,[(Mv,Nn)],Ts,.eff,30,1073741823⟩]) (Zi (W7 [⟨Zk WD,none,[(V2,WD)],MI,.free,0,0⟩,⟨Zk WD,none,[(V2,WD)],MJ,.free,2,0⟩,⟨Zk WD,none,[(V2,WD)],MK,.free,5,0⟩,⟨Zk WD,none,[(V2,WD)],NR,.free,8,0⟩,⟨VE XQ (k (nI .i64 1)) 8 1,none,[(XL,XQ)],MM,.free,9,0⟩,⟨Yr MD,none,[(MM,MD)],MN,.read,10,512⟩,⟨U4 O2 Np TT,none,[(NR,O2),(MN,Np)],Lr,.free,11,1792⟩,⟨Zk WD,none,[(V2,WD)],Lt,.free,12,0⟩,⟨VE XQ (k (nI .i64 2)) 8 1,none,[(XL,XQ)],KH,.free,13,0⟩,⟨Yr Ko,none,[(KH,Ko)],KI,.read,14,8192⟩,⟨U4 Ld Kp TT,none,[(Lt,Ld),(KI,Kp)],KJ,.free,15,28672⟩,⟨U4 Nq Le Ia,none,[(Lr,Nq),(KJ,Le)],Jb,.free,16,65280⟩,⟨VE XQ (k (nI .i64 1)) 8 1,none,[(XL,XQ)],Jc,.free,17,0⟩,⟨Yr Ow,none,[(Jc,Ow)],Jd,.read,18,131072⟩,⟨VE XQ (k (nI .i64 2)) 8 1,none,[(XL,XQ)],Je,.free,19,0⟩,⟨Yr K6,none,[(Je,K6)],Jf,.read,20,524288⟩,⟨U4 K5 ME TT,none,[(Jd,K5),(Jf,ME)],J5,.free,21,1966080⟩,⟨U4 K4 LC Ia,none,[(Jb,K4),(J5,LC)],IN,.free,22,4194048⟩,⟨ZT 108 [Me,(k (nI .i64 2))],none,[(MI,Me)],Mw,.eff,1,1⟩,⟨ZT 108 [MC,(k (nI .i64 13))],none,[(MJ,MC)],Ln,.eff,3,7⟩,⟨U4 O1 Ov Ia,none,[(Mw,O1),(Ln,Ov)],Lo,.free,4,15⟩,⟨ZT 108 [Mf,(k (nI .i64 22))],none,[(MK,Mf)],Lq,.eff,6,47⟩,⟨U4 Lc No Ia,none,[(Lo,Lc),(Lq,No)],ML,.free,7,127⟩,⟨Y4 Mg Lf,none,[(ML,Mg),(IN,Lf)],Gg,.free,23,8388607⟩,⟨Zk Kq,none,[(Gg,Kq)],Wj,.eff,24,16777215⟩]) (Zi (W7 [⟨QE 8 1 XQ (some (k (nI .i64 1))) none none,none,[(XL,XQ)],Gh,.free,0,0⟩,⟨QE 8 1 XQ none (some (k (nI .i64 7))) none,none,[(XL,XQ)],Gi,.free,1,0⟩,⟨DG Jz HG 1,none,[(Gh,Jz),(Gi,HG)],FJ,.eff,2,3⟩]) (Zi (Za (VE XQ (k (nI .i64 4)) 8 1) FK<|Za (Yr GS) FM<|Za (Zk Vc) FN<|Za (Y4 GU O3) Ch<|Za (VE XQ (k (nI .i64 4)) 8 1) Ci<|Za (Xy Cc IJ 1) d0<|Zc) (Za (Zk Vc) Cj<|Za (Zk XF) Ck<|Za (Y4 K7 GV) Cl<|Za (VE XQ (k (nI .i64 0)) 8 1) Cm<|Za (Xy Ce Cd 1) d0<|Zc)))))))) (Za (Y4 WX (k (nI .i64 1))) Cn<|Za (Zk Cf) Vw<|Zc))))
def Hx:D:=(Zi (Za (Xi JA (k (nI .i64 8)) Wf Xo) AQ<|Zc) (Zi (Yo BY Zc (WV 2)) (Zi (YT 3 (Zi (Za (Zk JA) zH<|Za (Zk zm) Wm<|Zc) (W7 [⟨Zk Y3,none,[(st0,Y3)],Cp,.free,0,0⟩,⟨Zk XO,none,[(Wm,XO)],Cq,.free,1,0⟩,⟨Tx En,none,[(Cp,En)],AR,.free,2,1⟩,⟨Xz Lg 0,none,[(AR,Lg)],AS,.free,3,5⟩,⟨VE zn Eo 8 1,none,[(AS,zn),(Cq,Eo)],AT,.free,4,15⟩,⟨Yr BZ,none,[(AT,BZ)],J2,.read,5,31⟩,⟨Zk XO,none,[(Wm,XO)],J3,.free,6,0⟩,⟨VE XQ MX 8 1,none,[(XL,XQ),(J3,MX)],I5,.free,7,64⟩,⟨Yr MY,none,[(I5,MY)],I6,.read,8,192⟩,⟨Y4 Jx GO,none,[(J2,Jx),(I6,GO)],I7,.free,9,511⟩,⟨Tx En,none,[(Cp,En)],I8,.free,10,1⟩,⟨Xz KT 0,none,[(I8,KT)],I9,.free,11,1025⟩,⟨VE NA Eo 8 1,none,[(I9,NA),(Cq,Eo)],J4,.free,12,4095⟩,⟨Xy Ly IW 1,none,[(J4,Ly),(I7,IW)],d0,.eff,13,8191⟩]))) (Za (Y4 JA (k (nI .i64 1))) FG<|Za (Zk Dj) Co<|Zc))))
def c91:CF:=⟨[],(Zi (Za (Zk Y3) WE<|Za (Tx X6) WA<|Za (Xz XR 0) W2<|Za (Uk Wi 8) W9<|Za (V9 143 [(nI .u32 0),(nI .u32 0),(nI .u32 0),(nI .u32 0),(nI .u32 0),(nI .u32 0),(nI .u32 0),(nI .u32 0)]) XL<|Za (Xy XQ Wk 8) d0<|Zc) (Zi (Za (Zk Wv) W3<|Za (ZT 107 [Ww]) Vm<|Za (RH 165 64 (nI .u32 0)) Vq<|Za (Xy Wa WW 64) d0<|Zc) (Zi (Zi (Za (Zk (k (nI .i64 0))) Vw<|Zc) (YT 0 (W5 Hw))) (Zi (Za (Zk (k (nI .i64 0))) Co<|Zc) (YT 2 (W5 Hx))))))⟩
def Ef:D:=(Zi (Zi (Za (Zk Y3) Vq<|Za (X9 Wa) VV<|Za (Xi Ve (k (nI .i64 64)) Re Vi) Uu<|Zc) (Yo WH Zc (WV 0))) (Zi (YT 1 (Za (Zk Wv) Wj<|Za (Zk Y3) Wm<|Za (RC 1 XO none (some (k (nI .i64 64))) none) WE<|Za (Mo XF Tryz.prog [X6]) WA<|Zc)) (Za (Zk Y3) V2<|Za (RC 1 WD (some (k (nI .i64 64))) none none) Ts<|Za (Zk Vc) st0<|Zc)))
def c90:CF:=⟨[(XQ,none)],(Zi (Za (Zk (k .nils)) XL<|Zc) (Zi (YT 0 (W5 Ef)) (Zi (Za (Zk Y3) W2<|Za (Zk Wi) XL<|Zc) YX)))⟩
def c89:CF:=⟨[(Uv,none)],(Zi (Za (Zk (k (.bool false))) st2<|Zc) (Zi (Za (Zk Y3) Tc<|Za (UG VL (k .nilp) qN false) XL<|Za (Zk XQ) Vq<|Z5 Wa false (Zk Y3) VV<|Z5 Wa false (Tx Ve) Uu<|Z5 Wa false (Xz WH 10) V2<|Z5 Wa false (Yr WD) Ts<|Z5 Wa false (Ns Vc) Wj<|Za (XA Wa (k (.bool true)) XF) Wm<|Za (Zk XO) st2<|Zc) YX))⟩
def F9:D:=(Zi (Zi (Za (Zk Wa) UW<|Za (X9 V1) Ti<|Za (Fh UY (k (nI .i64 64))) Tj<|Za (UG UD (k (nI .i64 56)) UB true) U0<|Zc) (Yo Uq Zc (WV 0))) (YT 1 (Za (Zk Wa) Tk<|Za (Vp 5 1 1 [(nI .u8 0)] [⟨0,1,(k (nI .u8 0))⟩]) TP<|Za (WZ UE VP 5 1 1) TW<|Za (Zk Sa) Vq<|Zc)))
def Ea:D:=(Zi (Zi (Za (Zk Ve) SU<|Za (Xi Sn (k (nI .i64 0)) Re Vi) Rp<|Zc) (Yo SP Zc (WV 2))) (Zi (YT 3 (Za (Zk Wa) QI<|Za (Zk Y3) Pe<|Za (Tx RT) Pf<|Za (Xz Q8 9) QW<|Za (Yr QM) Pw<|Za (iD Pu (k (nI .u64 3))) P3<|Za (Zk Ve) P4<|Za (Oc (k (nI .i64 8)) PO) Oe<|Za (MF QN QC) QX<|Za (Sw Pv .u8) Of<|Za (Vp 5 1 1 [(nI .u8 0)] [⟨0,1,Qr⟩]) OK<|Za (WZ RB PP 5 1 1) Nd<|Za (Zk P9) Vq<|Zc)) (Za (Zk Ve) RM<|Za (VF RA (k (nI .i64 1))) QH<|Za (Zk Rc) VV<|Zc)))
def Eb:D:=(Zi (Za (Xi RU (k (nI .i64 32)) Wf Xo) MH<|Zc) (Zi (Yo Md Zc (WV 4)) (Zi (YT 5 (Zi (Za (Zk RU) Mu<|Za (Zk Nm) Uu<|Zc) (Za (Zk WH) Mv<|Za (Zk XQ) MI<|Za (Zk WH) Mw<|Za (HV O1 (k (nI .i64 4))) MJ<|Za (Tx Me) Ln<|Za (Xz Ov 0) Lo<|Za (VE Lc MC 8 1) MK<|Za (Yr Mf) Lq<|Za (Zk WH) ML<|Za (Fh Mg (k (nI .i64 4))) NR<|Za (Oc (k (nI .i64 8)) O2) MM<|Za (VF (k (nI .i64 24)) MD) MN<|Za (MF No Np) Lr<|Za (Sw Nq .u8) Lt<|Za (VE VL Nn 32 1) KH<|Za (Xy Ko Ld 1) d0<|Zc))) (Za (Y4 RU (k (nI .i64 1))) KI<|Za (Zk Kp) NQ<|Zc))))
def c71:CF:=⟨[(Uv,some (32,true))],(Zi (Za (RH 38 32 (nI .u8 0)) st2<|Zc) (Zi (Za (RH 38 32 (nI .u8 0)) Tc<|Zc) (Zi (Zi (Za (Zk Y3) V2<|Za (ZT 89 [WD]) Ts<|Zc) (Yo Vc (Zi (Za (Uk VL 32) Wj<|Za (Xy Uv XF 32) d0<|Zc) YX) Zc)) (Zi (Za (Zk Y3) Wm<|Za (Tx XO) WE<|Za (Xz X6 0) WA<|Za (Uk XR 8) W2<|Za (TV [(nI .u32 0),(nI .u32 0),(nI .u32 0),(nI .u32 0),(nI .u32 0),(nI .u32 0),(nI .u32 0),(nI .u32 0),.nils,(nI .u64 0),(.bool false)] [⟨0,8,Wi⟩,⟨10,1,(k (.bool true))⟩]) W9<|Za (IM Wk 145) W3<|Za (Zk Ww) XL<|Zc) (Zi (Za (Zk Y3) Vm<|Za (Tx WW) Vw<|Za (Xz WX 8) V0<|Za (Yr WC) Ue<|Za (WZ (k .nils) VU 5 1 1) UU<|Za (Vp 5 1 1 [(nI .u8 0)] [⟨0,1,(k (nI .u8 128))⟩]) UV<|Za (WZ VJ VK 5 1 1) UZ<|Za (Zk Ui) Vq<|Zc) (Zi (YT 0 (W5 F9)) (Zi (Zi (Za (Zk (k (nI .i64 7))) VV<|Zc) (YT 2 (W5 Ea))) (Zi (Za (Zk Wa) Nf<|Za (Zk XQ) Nx<|Za (Fb 91 [NF] []) NN<|Za (ZT 90 [Q9,NG]) NO<|Zc) (Zi (Zi (Za (Zk (k (nI .i64 0))) NQ<|Zc) (YT 4 (W5 Eb))) (Zi (Za (Uk VL 32) KJ<|Za (Xy Uv Le 32) d0<|Zc) YX))))))))))⟩
def c70:CF:=⟨[(XQ,none)],(Zi (Za (Zk (k (nI .i64 0))) XL<|Zc) (Zi (Zi (Za (Zk Y3) VV<|Za (ZT 89 [Ve]) Uu<|Zc) (Yo WH (Zi (Za (Zk (k (nI .i64 2))) XL<|Zc) YX) Zc)) (Zi (Za (Zk Y3) V2<|Za (Tx WD) Ts<|Za (Xz Vc 9) Wj<|Za (Yr XF) Wm<|Za (Zk Wv) WE<|Za (X9 X6) WA<|Za (Sw XR .u64) W2<|Za (Y4 XO Wi) W9<|Za (Tx WD) W3<|Za (Xz Ww 9) Vm<|Za (Xy WW Wk 1) d0<|Zc) (Zi (Za (Zk Y3) Vw<|Za (Tx WX) V0<|Za (Xz WC 8) Ue<|Za (Yr VU) UU<|Za (Zk Wv) UV<|Za (WZ VJ VK 5 1 1) UZ<|Za (Zk Y3) UW<|Za (Fb 91 [V1] []) Ti<|Za (ZT 90 [Ui,UY]) Tj<|Za (Zk UD) Vq<|Zc) (Zi (Za (Zk Y3) U0<|Za (Zk Wa) Tk<|Za (WZ (k .nils) UE 5 1 1) TP<|Za (Tx Uq) TW<|Za (Xz Sa 8) SU<|Za (Xy Sn VP 1) d0<|Zc) (Zi (Za (Zk (k (nI .i64 0))) XL<|Zc) YX))))))⟩
def c69:CF:=⟨[(Y3,none)],(Zi (Za (Zk (k .nilp)) st0<|Zc) (Zi (Za (Uk (k (.ptr 3 0)) 8) st1<|Za (TV [(nI .u32 0),(nI .u32 0),(nI .u32 0),(nI .u32 0),(nI .u32 0),(nI .u32 0),(nI .u32 0),(nI .u32 0),.nils,(nI .u64 0),(.bool false)] [⟨0,8,Wv⟩,⟨10,1,(k (.bool true))⟩]) st2<|Za (IM Uv 145) Tc<|Za (Zk VL) st0<|Zc) YX))⟩
def f7:D:=(Zi (Za (Xi Vc WD Wf Xo) Wj<|Zc) (Zi (Yo XF Zc (WV 0)) (Zi (YT 1 (Zi (Za (Vn WH Vc 1) Wm<|Za (Yr XO) WE<|Za (Zk X6) Vq<|Zc) (Za (Zk VL) WA<|Za (Zk Wa) W2<|Za (ZT 70 [XR,Wi]) W9<|Zc))) (Za (Y4 Vc (k (nI .i64 1))) W3<|Za (Zk Ww) Ts<|Zc))))
def c51:CF:=⟨[(Uv,some (32,true))],(Zi (Za (RH 38 32 (nI .u8 0)) st2<|Zc) (Zi (Za (ZT 69 []) VV<|Za (Zk Ve) Tc<|Zc) (Zi (Zi (Za (Zk Y3) Uu<|Za (X9 WH) V2<|Za (Zk (k (nI .i64 0))) Ts<|Zc) (YT 0 (W5 f7))) (Zi (Za (Zk VL) Vm<|Za (ZT 71 [WW]) Vw<|Za (Xy Uv WX 32) d0<|Zc) YX))))⟩
def c28:CF:=⟨[(Uv,some (32,true))],(Zi (Za (RH 38 32 (nI .u8 0)) st2<|Zc) (Zi (Za (Zk Y3) Tc<|Za (Vp 32 1 1 [.nils] [⟨0,1,VL⟩]) XL<|Za (ZT 51 [XQ]) Vq<|Za (Xy Uv Wa 32) d0<|Zc) YX))⟩
end
def SR:Nat->Nat
 |8=>1
 |14=>13
 |18=>11
 |19=>12
 |27=>1
 |29=>3
 |30=>3
 |31=>3
 |32=>10
 |33=>6
 |34=>6
 |35=>3
 |37=>4
 |41=>7
 |42=>6
 |52=>2
 |53=>2
 |54=>2
 |57=>7
 |58=>5
 |59=>2
 |60=>4
 |65=>4
 |72=>1
 |73=>1
 |74=>1
 |77=>4
 |78=>1
 |79=>3
 |82=>3
 |93=>3
 |94=>1
 |95=>1
 |96=>1
 |98=>1
 |99=>2
 |102=>2
 |110=>1
 |111=>1
 |114=>1
 |115=>1
 |116=>1
 |147=>1
 |148=>1
 |149=>4
 |_=>0
def Qv:Lib:=λ_ _ _=>none
abbrev LK(Zo:Lib)(fs:T CF)(fuel k:Nat):Lib:=Eu Zo fs fuel SR Qv k
structure Env(Zo:Lib)(fs:T CF)(fuel:Nat):Prop where
 big:100000<=fuel
 f3:fs.get 3=some c3
 n3: ∀l H,Zo 3 l H=none
 f4:fs.get 4=some c4
 n4: ∀l H,Zo 4 l H=none
 f5:fs.get 5=some c5
 n5: ∀l H,Zo 5 l H=none
 f6:fs.get 6=some c6
 n6: ∀l H,Zo 6 l H=none
 f8:fs.get 8=some c8
 n8: ∀l H,Zo 8 l H=none
 f9:fs.get 9=some c9
 n9: ∀l H,Zo 9 l H=none
 f10:fs.get 10=some c10
 n10: ∀l H,Zo 10 l H=none
 f11:fs.get 11=some c11
 n11: ∀l H,Zo 11 l H=none
 f12:fs.get 12=some c12
 n12: ∀l H,Zo 12 l H=none
 f14:fs.get 14=some c14
 n14: ∀l H,Zo 14 l H=none
 f15:fs.get 15=some c15
 n15: ∀l H,Zo 15 l H=none
 f16:fs.get 16=some c16
 n16: ∀l H,Zo 16 l H=none
 f17:fs.get 17=some c17
 n17: ∀l H,Zo 17 l H=none
 f18:fs.get 18=some c18
 n18: ∀l H,Zo 18 l H=none
 f19:fs.get 19=some c19
 n19: ∀l H,Zo 19 l H=none
 f20:fs.get 20=some c20
 n20: ∀l H,Zo 20 l H=none
 f21:fs.get 21=some c21
 n21: ∀l H,Zo 21 l H=none
 f22:fs.get 22=some c22
 n22: ∀l H,Zo 22 l H=none
 f23:fs.get 23=some c23
 n23: ∀l H,Zo 23 l H=none
 f24:fs.get 24=some c24
 n24: ∀l H,Zo 24 l H=none
 f25:fs.get 25=some c25
 n25: ∀l H,Zo 25 l H=none
 f26:fs.get 26=some c26
 n26: ∀l H,Zo 26 l H=none
 f27:fs.get 27=some c27
 n27: ∀l H,Zo 27 l H=none
 f29:fs.get 29=some c29
 n29: ∀l H,Zo 29 l H=none
 f30:fs.get 30=some c30
 n30: ∀l H,Zo 30 l H=none
 f31:fs.get 31=some c31
 n31: ∀l H,Zo 31 l H=none
 f32:fs.get 32=some c32
 n32: ∀l H,Zo 32 l H=none
 f33:fs.get 33=some c33
 n33: ∀l H,Zo 33 l H=none
 f34:fs.get 34=some c34
 n34: ∀l H,Zo 34 l H=none
 f35:fs.get 35=some c35
 n35: ∀l H,Zo 35 l H=none
 f36:fs.get 36=some c36
 n36: ∀l H,Zo 36 l H=none
 f37:fs.get 37=some c37
 n37: ∀l H,Zo 37 l H=none
 f38:fs.get 38=some c38
 n38: ∀l H,Zo 38 l H=none
 f39:fs.get 39=some c39
 n39: ∀l H,Zo 39 l H=none
 f40:fs.get 40=some c40
 n40: ∀l H,Zo 40 l H=none
 f41:fs.get 41=some c41
 n41: ∀l H,Zo 41 l H=none
 f42:fs.get 42=some c42
 n42: ∀l H,Zo 42 l H=none
 f43:fs.get 43=some c43
 n43: ∀l H,Zo 43 l H=none
 f44:fs.get 44=some c44
 n44: ∀l H,Zo 44 l H=none
 f45:fs.get 45=some c45
 n45: ∀l H,Zo 45 l H=none
 f46:fs.get 46=some c46
 n46: ∀l H,Zo 46 l H=none
 f47:fs.get 47=some c47
 n47: ∀l H,Zo 47 l H=none
 f48:fs.get 48=some c48
 n48: ∀l H,Zo 48 l H=none
 f49:fs.get 49=some c49
 n49: ∀l H,Zo 49 l H=none
 f50:fs.get 50=some c50
 n50: ∀l H,Zo 50 l H=none
 f52:fs.get 52=some c52
 n52: ∀l H,Zo 52 l H=none
 f53:fs.get 53=some c53
 n53: ∀l H,Zo 53 l H=none
 f54:fs.get 54=some c54
 n54: ∀l H,Zo 54 l H=none
 f55:fs.get 55=some c55
 n55: ∀l H,Zo 55 l H=none
 f56:fs.get 56=some c56
 n56: ∀l H,Zo 56 l H=none
 f57:fs.get 57=some c57
 n57: ∀l H,Zo 57 l H=none
 f58:fs.get 58=some c58
 n58: ∀l H,Zo 58 l H=none
 f59:fs.get 59=some c59
 n59: ∀l H,Zo 59 l H=none
 f60:fs.get 60=some c60
 n60: ∀l H,Zo 60 l H=none
 f61:fs.get 61=some c61
 n61: ∀l H,Zo 61 l H=none
 f62:fs.get 62=some c62
 n62: ∀l H,Zo 62 l H=none
 f63:fs.get 63=some c63
 n63: ∀l H,Zo 63 l H=none
 f64:fs.get 64=some c64
 n64: ∀l H,Zo 64 l H=none
 f65:fs.get 65=some c65
 n65: ∀l H,Zo 65 l H=none
 f66:fs.get 66=some c66
 n66: ∀l H,Zo 66 l H=none
 f68:fs.get 68=some c68
 n68: ∀l H,Zo 68 l H=none
 f72:fs.get 72=some c72
 n72: ∀l H,Zo 72 l H=none
 f73:fs.get 73=some c73
 n73: ∀l H,Zo 73 l H=none
 f74:fs.get 74=some c74
 n74: ∀l H,Zo 74 l H=none
 f75:fs.get 75=some c75
 n75: ∀l H,Zo 75 l H=none
 f76:fs.get 76=some c76
 n76: ∀l H,Zo 76 l H=none
 f77:fs.get 77=some c77
 n77: ∀l H,Zo 77 l H=none
 f78:fs.get 78=some c78
 n78: ∀l H,Zo 78 l H=none
 f79:fs.get 79=some c79
 n79: ∀l H,Zo 79 l H=none
 f80:fs.get 80=some c80
 n80: ∀l H,Zo 80 l H=none
 f81:fs.get 81=some c81
 n81: ∀l H,Zo 81 l H=none
 f82:fs.get 82=some c82
 n82: ∀l H,Zo 82 l H=none
 f92:fs.get 92=some c92
 n92: ∀l H,Zo 92 l H=none
 f93:fs.get 93=some c93
 n93: ∀l H,Zo 93 l H=none
 f94:fs.get 94=some c94
 n94: ∀l H,Zo 94 l H=none
 f95:fs.get 95=some c95
 n95: ∀l H,Zo 95 l H=none
 f96:fs.get 96=some c96
 n96: ∀l H,Zo 96 l H=none
 f98:fs.get 98=some c98
 n98: ∀l H,Zo 98 l H=none
 f99:fs.get 99=some c99
 n99: ∀l H,Zo 99 l H=none
 f100:fs.get 100=some D9
 n100: ∀l H,Zo 100 l H=none
 f101:fs.get 101=some fV
 n101: ∀l H,Zo 101 l H=none
 f102:fs.get 102=some qA
 n102: ∀l H,Zo 102 l H=none
 f110:fs.get 110=some Zct
 n110: ∀l H,Zo 110 l H=none
 f111:fs.get 111=some kW
 n111: ∀l H,Zo 111 l H=none
 f114:fs.get 114=some Zcv
 n114: ∀l H,Zo 114 l H=none
 f115:fs.get 115=some Bi
 n115: ∀l H,Zo 115 l H=none
 f116:fs.get 116=some fW
 n116: ∀l H,Zo 116 l H=none
 f117:fs.get 117=some Zcw
 n117: ∀l H,Zo 117 l H=none
 f118:fs.get 118=some Zcx
 n118: ∀l H,Zo 118 l H=none
 f126:fs.get 126=some Zcy
 n126: ∀l H,Zo 126 l H=none
 f147:fs.get 147=some Zcz
 n147: ∀l H,Zo 147 l H=none
 f148:fs.get 148=some ZcA
 n148: ∀l H,Zo 148 l H=none
 f149:fs.get 149=some ZcB
 n149: ∀l H,Zo 149 l H=none
 ix: ∀(s:List UInt8) (x:Nat) (H:Heap),x<256->Zo 97 [.str s,nI .u8 x] H=some (.ret (.int .i64 (PQ x s 0)) H)
 cn: ∀(s:List UInt8) (x:Nat) (H:Heap),x<256->Zo 124 [.str s,nI .u8 x] H=some (.ret (nI .i64 (XS x s 0)) H)
 rz: ∀(x:Nat) (H:Heap),100<=H.nx->x<=20->Zo 67 [.str [48],nI .i64 x] H=some (.ret (.str (List.replicate x 48)) H)
 mz: ∀(x:Nat) (H:Heap),x<=281474976710656->Zo 88 [nI .i64 x] H=some (.ret (.slice H.nx 0 x none) (H.new (.row ⟨5,1,x,.leaf,.unk,0,false,true,false⟩)))
 ml: ∀(H:Heap),100<=H.nx->Zo 83 [nI .u64 1,nI .u64 8] H=some (.ret (.tup [nI .u64 0,nI .u64 8]) H)
def lE:List UInt64:=[1,10,100,1000,10000,100000,1000000,10000000,100000000,1000000000,10000000000,100000000000,1000000000000,10000000000000,100000000000000,1000000000000000,10000000000000000,100000000000000000,1000000000000000000,10000000000000000000]
def P8(H:Heap):Prop:=100<=H.nx∧(∃r,H.t.get 6=some (.row r)∧Cells r (lE.map ZeP))∧ ∃r,H.t.get 8=some (.row r)∧7<r.size∧r.get 7=nI .u8 3
theorem P8.keep{H H':Heap}(g:P8 H){S:List Nat}(k:ZE H H' S)(hS: ∀x∈S,100<=x):P8 H':=by
 obtain⟨h,⟨r,h1,h2⟩,e,h3,h4,h5⟩:=g
 exact⟨Yl h k.nx,⟨r,by rw[k.get _ (by omega) (λh=>by have:=hS _ h;omega)];exact h1,h2⟩,e,by rw[k.get _ (by omega) (λh=>by have:=hS _ h;omega)];exact h3,h4,h5⟩
theorem P8.put{H:Heap}(g:P8 H){b:Nat}(hb:100<=b)(o:Obj):P8 (H.put b o):=g.keep (S:=[b]) (ZE.put λ_=>by simp) (by simp;exact hb)
theorem P8.new{H:Heap}(g:P8 H)(o:Obj):P8 (H.new o):=g.keep (S:=[]) (ZE.new H o _) (by simp)
theorem flat_len{sz:Nat}: ∀{ls:List (List AV)},(∀l∈ls,l.length=sz)->ls.flatten.length=ls.length*sz
 |[],_=>by simp
 |l::ls,h=>by
  rw[Vy,Zm,flat_len (λx hx=>h x (ZQ _ hx)),h l (ZF ..),Zl,WF]
  omega
theorem flat_at{sz:Nat}: ∀{ls:List (List AV)} {i:Nat},(∀l∈ls,l.length=sz)->i<ls.length->(ls.flatten.drop (i*sz)).take sz=ls.getD i []
 |l::ls,0,h,_=>by
  rw[Va,ZC,Vy,List.take_append_of_le_length (by rw[h l (ZF ..)];exact Zq _),YS (by rw[h l (ZF ..)];exact Zq _)]
  rfl
 |l::ls,i+1,h,hi=>by
  have hl:=h l (ZF ..)
  have e:(i+1)*sz=l.length+i*sz:=by rw[hl,WF];omega
  rw[Vy,e,<-SE,List.drop_left]
  have:=flat_at (i:=i) (λx hx=>h x (ZQ _ hx)) (by simpa using hi)
  rw[this];rfl
structure zi(H:Heap)(b e sz:Nat)(ls:List (List AV))(r:Row):Prop where
 at_:H.t.get b=some (.row r)
 elem:r.elem=e
 szr:r.sz=sz
 own:r.own=true
 fz:r.fz=0
 sm:r.sm=false
 exact_:r.exact=false
 cells:Cells r ls.flatten
 each: ∀l∈ls,l.length=sz
 ro:H.ro<=b
 low:b<H.nx
theorem zi.size{H:Heap}{b e sz:Nat}{ls:List (List AV)}{r:Row}(h:zi H b e sz ls r):r.size=ls.length*sz:=by rw[h.cells.size,flat_len h.each]
theorem zi.moved{H H':Heap}{b e sz:Nat}{ls:List (List AV)}{r:Row}(h:zi H b e sz ls r)(g:H'.t.get b=H.t.get b)(hro:H'.ro=H.ro)(hnx:H.nx<=H'.nx):zi H' b e sz ls r:=
 ⟨g.trans h.at_,h.elem,h.szr,h.own,h.fz,h.sm,h.exact_,h.cells,h.each,by rw[hro];exact h.ro,ZZ h.low hnx⟩
theorem zi.load{H H':Heap}{b e sz:Nat}{ls:List (List AV)}{r:Row}(h:zi H b e sz ls r)(ht:H'.t=H.t){i:Nat}(hi:i<ls.length):JH sz (.ptr b (i*sz)) H'=.val (.agg (ls.getD i [])) H':=by
 have hf:=flat_len h.each
 have hm:(i+1)*sz<=ls.length*sz:=XX _ hi
 rw[WF,Ph] at hm
 rw[NX (r:=r) (by rw[ht];exact h.at_) h.cells (by omega),flat_at h.each hi]
theorem jM{n i sz:Nat}(h:i<n)(b o:Nat)(c:Option Nat)(k:IntKind)(H:Heap):IZ sz (.slice b o n c) (nI k i) H=.val (.ptr b (o+i*sz)) H:=by
 show Z3 (Nat.ble (Nat.succ i) n) (OR.val (.ptr b (Nat.add o (Nat.mul i sz))) H)=_
 rw[Zg (show Nat.succ i<=n from h)];rfl
def Py(H:Heap)(v:AV)(e sz:Nat)(ls:List (List AV))(lo:Nat):Prop:=(ls=[]∧v=.nils)∨(ls≠[]∧ ∃b r,v=.slice b 0 ls.length none∧zi H b e sz ls r∧lo<=b)
theorem gf{H:Heap}{v:AV}{e sz bytes:Nat}{ls:List (List AV)}{lo:Nat}(h:Py H v e sz ls lo)(hsz:1<=sz)(hby:1<=bytes)(hl:(ls.length+1)*bytes<=140737488355328)(hro:H.ro<=H.nx)(hlo:lo<=H.nx){x:List AV}(hx:x.length=sz):
  ∃v' H',U2 e sz bytes v (.slice H.nx 0 1 none) (H.newRow e sz x true)=.val v' H'∧Py H' v' e sz (ls++[x]) lo∧Below lo H H':=by
 generalize hH1:H.newRow e sz x true=H1
 have Jh:H1.nx=H.nx+1:=by rw[<-hH1];rfl
 have k1:ZE H H1 []:=by rw[<-hH1];exact ZE.new H _ []
 have b1:Below lo H H1:=by rw[<-hH1];exact Below.new lo H _
 have gx:H1.t.get H.nx=some (.row ⟨e,sz,Xc x,T.ofList x,.unk,0,false,true,true⟩):=by rw[<-hH1,T1,VX,if_pos rfl]
 have cx:=Cells.new e sz x 0 false true true
 have src: ∀k:Nat->List AV->OR,(ve (.slice H.nx 0 1 none) λn=>Vb H1 sz (.slice H.nx 0 1 none) n λnew=>k n new)=k 1 x:=by
  intro k
  show(Vb H1 sz (.slice H.nx 0 1 none) 1 λnew=>k 1 new)=_
  generalize(⟨e,sz,Xc x,T.ofList x,.unk,0,false,true,true⟩:Row)=r0 at gx cx
  unfold Vb Xv
  simp only[gx]
  show Z3 (Nat.ble (0+1*sz) r0.size) (k 1 (Vr r0 0 (1*sz)))=_
  rw[Ph,cx.size,hx,Zg (show 0+sz<=sz by omega)]
  have:=cx.load (o:=0) (n:=sz) (by omega)
  rw[this,ZC,YS (by omega)]
  rfl
 have ap: ∀a,U2 e sz bytes a (.slice H.nx 0 1 none) H1=Ol a e sz bytes H1 1 x:=by
  intro a
  show Z3 (Nat.ble 1 sz) (Z3 (Nat.ble 1 bytes) _)=_
  rw[Zg hsz,Zg hby]
  exact src λn new=>Ol a e sz bytes H1 n new
 rw[ap]
 rcases h with⟨rfl,rfl⟩|⟨hne,b,r,rfl,g,hb⟩
 ·refine⟨.slice H1.nx 0 1 none,H1.newRow e sz x false,?_,.inr ⟨by simp,H1.nx,_,rfl,⟨by rw[T1,VX,if_pos rfl],rfl,rfl,rfl,rfl,rfl,rfl,by simpa using Cells.new e sz x 0 false true false,λl hm=>by simp at hm;rw[hm];exact hx,by show H1.ro<=H1.nx;rw[k1.ro];omega,YK _⟩,by omega⟩,b1.trans (Below.new lo H1 _)⟩
  show Z3 (Nat.ble (1*bytes) 140737488355328) (OR.val (.slice H1.nx 0 1 none) (H1.newRow e sz x false))=_
  rw[Zg (by simpa using hl)];rfl
 ·have g1:zi H1 b e sz ls r:=g.moved (k1.get b g.low (by simp)) k1.ro (by omega)
  have hs:=g1.size
  have hcap:W4 r 0 none=ls.length:=by
   show cond (Nat.beq r.sz 1) (r.size - 0) ((r.size - 0)/r.sz)=_
   rw[g1.szr,hs,PE]
   by_cases h1:sz=1
   ·subst h1;show ls.length*1=_;omega
   ·rw[Y1,Ze h1]
    exact RG _ (by omega)
  have Ox:H1.may r b=true:=by unfold Heap.may;rw[g1.own,Zg g1.ro];rfl
  have hlen:(ls.length+1)*sz=ls.length*sz+sz:=by rw[WF];omega
  refine⟨.slice H1.nx 0 (ls++[x]).length none,⟨Nat.succ H1.nx,(H1.t.del b).set H1.nx (.row ⟨r.elem,sz,(ls.length+1)*sz,Xj r.cells (ls.length*sz) x,r.dflt,r.fz,r.sm,true,false⟩),H1.ro⟩,?_,.inr ⟨by simp,H1.nx,⟨r.elem,sz,(ls.length+1)*sz,Xj r.cells (ls.length*sz) x,r.dflt,r.fz,r.sm,true,false⟩,rfl,⟨by rw[T.get_set,if_pos rfl],g1.elem,rfl,rfl,g1.fz,g1.sm,rfl,?_,?_,Yl g1.ro (Pg g1.low),YK _⟩,by omega⟩,b1.trans ⟨Ws _,rfl,λc hc hn=>?_⟩⟩
  ·show Xv H1 b _=_
   unfold Xv
   simp only[g1.at_]
   have h1:L9 r sz none=true:=by show Nat.beq r.sz sz=true;rw[g1.szr,Xd]
   have h2:Nat.ble (Nat.add ls.length 1) (W4 r 0 none)=false:=by
    rw[hcap]
    cases h:Nat.ble (Nat.add ls.length 1) ls.length with
    |false=>rfl
    |true=>have:=Yh h;have:ls.length+1<=ls.length:=this;omega
   rw[h1,h2]
   show Z3 (Nat.ble ((ls.length+1)*bytes) 140737488355328) (Z3 (Nat.ble (0+ls.length*sz) r.size) (cond r.exact _ (Hm H1 e b 0 ls.length 1 sz r x)))=_
   rw[Zg hl,hs,Zb,Zg (Zq _),g1.exact_]
   show Z3 (Nat.beq r.elem e) (Z3 (H1.may r b) (Z3 (Nat.ble r.fz (ls.length*sz)) (Z3 (Nat.beq (ls.length*sz) r.size) (Z3 (Nat.beq 0 0) _))))=_
   rw[g1.elem,Xd,Ox,g1.fz,Zg (ZB _),hs,Xd]
   show OR.val (.slice H1.nx 0 (ls.length+1) none) _=_
   rw[Zm]
   rfl
  ·have hf:=flat_len g1.each
   refine⟨by show(ls.length+1)*sz=_;rw[Uf,Zm,hf];simp[hx];omega,λi hi=>?_⟩
   rw[Uf,Zm,hf] at hi
   have e1:[x].flatten=x:=by simp
   rw[e1] at hi
   rw[Row.get_eq]
   show((Xj r.cells (ls.length*sz) x).get i).getD r.dflt=_
   rw[Qg,Zf,Uf,e1]
   by_cases h1:ls.length*sz<=i
   ·rw[if_pos ⟨h1,by omega⟩,Yz (by omega),hf,Zn (show i - ls.length*sz<x.length by omega)];rfl
   ·rw[if_neg (by omega),Yt (by omega)]
    have:=g1.cells.get i (by omega)
    rw[Row.get_eq,Zf] at this
    exact this
  ·intro l hm
   rcases ZA.1 hm with hm|hm
   ·exact g1.each l hm
   ·simp at hm;rw[hm];exact hx
  ·show((H1.t.del b).set H1.nx _).get c=_
   rw[T.get_set,if_neg (by omega),T.get_del,if_neg (by omega)]
theorem Py.below{H H':Heap}{v:AV}{e sz:Nat}{ls:List (List AV)}{lo:Nat}(h:Py H v e sz ls lo)(hp: ∀c,lo<=c->c<H.nx->H'.t.get c=H.t.get c)(hro:H'.ro=H.ro)(hnx:H.nx<=H'.nx):Py H' v e sz ls lo:=by
 rcases h with h|⟨hne,b,r,rfl,g,hb⟩
 ·exact .inl h
 ·exact .inr ⟨hne,b,r,rfl,g.moved (hp b hb g.low) hro hnx,hb⟩
theorem Py.len{H:Heap}{v:AV}{e sz:Nat}{ls:List (List AV)}{lo:Nat}(h:Py H v e sz ls lo)(G:Heap):lenV v G=.val (nI .i64 ls.length) G:=by
 rcases h with⟨rfl,rfl⟩|⟨_,b,r,rfl,_⟩
 ·exact B9 G
 ·exact V8 ..
theorem Py.low{H:Heap}{v:AV}{e sz:Nat}{ls:List (List AV)}{lo:Nat}(h:Py H v e sz ls lo){n:Nat}(hn:H.nx<=n):Wu n v=true:=by
 rcases h with⟨_,rfl⟩|⟨_,b,r,rfl,g,_⟩
 ·rfl
 ·exact Yp (ZZ g.low hn) _ _ _
theorem Py.same{H:Heap}{v:AV}{e sz:Nat}{ls:List (List AV)}{lo:Nat}(h:Py H v e sz ls lo)(n:Nat)(t:T Obj):UR (.val v ⟨n,t,n⟩) v n=true:=by
 rcases h with⟨_,rfl⟩|⟨_,b,r,rfl,_⟩
 ·exact O4 n t
 ·exact Yj _ _ _ _ _ _
def Seen(es:List RF)(ks:List (List UInt8)):Prop:=es.map (λe=>(e.key,e.val))=ks.map λk=>(AV.str k,nI .i64 1)
theorem Seen.nil:Seen [] []:=rfl
theorem Seen.push{es:List RF}{ks:List (List UInt8)}(h:Seen es ks)(k:List UInt8)(c:Nat):Seen (es++[⟨.str k,nI .i64 1,c⟩]) (ks++[k]):=by
 unfold Seen at*
 rw[Xe,Xe,h];rfl
def Zfx(eq:AV->AV->Option Bool)(zv:AV)(ok:Bool)(m k:AV)(H:Heap):OR:=Av m (IU ok H zv false) λb=>I1 H b λo=>qt o λes=>Un eq k (IU ok H zv false) (λv=>IU ok H v true) es
theorem ZD(eq:AV->AV->Option Bool)(zv:AV)(ok:Bool)(m k:YG)(tm:TM)(H:Heap):Iu eq zv ok m k tm H=Zfx eq zv ok (m tm) (k tm) H:=rfl
def lkO(eq:AV->AV->Option Bool)(zv:AV)(ok:Bool)(x:Option Obj)(k:AV)(H:Heap):OR:=match x with|some o=>qt o λes=>Un eq k (IU ok H zv false) (λv=>IU ok H v true) es|none=>.fail
theorem ZR(eq:AV->AV->Option Bool)(zv:AV)(ok:Bool)(b:Nat)(k:AV)(H:Heap):Zfx eq zv ok (.map b) k H=lkO eq zv ok (H.t.get b) k H:=rfl
structure Sl(H:Heap)(sz:Nat)(v:AV)(ls:List (List AV)):Prop where
 each: ∀l∈ls,l.length=sz
 here:(ls=[]∧v=.nils)∨ ∃b o c,v=.slice b o ls.length c∧b<H.nx∧(ls≠[]-> ∃r,H.t.get b=some (.row r)∧o+ls.length*sz<=r.size∧ ∀i,i<ls.length*sz->r.get (o+i)=ls.flatten.getD i .unk)
theorem Sl.nil(H:Heap)(sz:Nat):Sl H sz .nils []:=⟨λ_ h=>(by cases h),.inl ⟨rfl,rfl⟩⟩
theorem Sl.keep{H H':Heap}{sz:Nat}{v:AV}{ls:List (List AV)}{S:List Nat}(h:Sl H sz v ls)(k:ZE H H' S)(hS: ∀b o n c,v=.slice b o n c->b∉S):Sl H' sz v ls:=by
 refine⟨h.each,?_⟩
 rcases h.here with h1|⟨b,o,c,rfl,hb,h2⟩
 ·exact .inl h1
 ·refine .inr ⟨b,o,c,rfl,ZZ hb k.nx,λhne=>?_⟩
  obtain⟨r,h3,h4⟩:=h2 hne
  exact⟨r,by rw[k.get b hb (hS _ _ _ _ rfl)];exact h3,h4⟩
theorem Sl.keep0{H H':Heap}{sz:Nat}{v:AV}{ls:List (List AV)}(h:Sl H sz v ls)(k:ZE H H' []):Sl H' sz v ls:=h.keep k (by simp)
theorem Sl.len{H:Heap}{sz:Nat}{v:AV}{ls:List (List AV)}(h:Sl H sz v ls)(G:Heap):lenV v G=.val (nI .i64 ls.length) G:=by
 rcases h.here with⟨rfl,rfl⟩|⟨b,o,c,rfl,_⟩
 ·rfl
 ·exact V8 ..
theorem Sl.low{H:Heap}{sz:Nat}{v:AV}{ls:List (List AV)}(h:Sl H sz v ls){n:Nat}(hn:H.nx<=n):Wu n v=true:=by
 rcases h.here with⟨rfl,rfl⟩|⟨b,o,c,rfl,hb,_⟩
 ·rfl
 ·exact Yp (by omega) ..
theorem Sl.same{H:Heap}{sz:Nat}{v:AV}{ls:List (List AV)}(h:Sl H sz v ls)(n:Nat)(t:T Obj):UR (.val v ⟨n,t,n⟩) v n=true:=by
 rcases h.here with⟨rfl,rfl⟩|⟨b,o,c,rfl,_⟩
 ·exact O4 ..
 ·exact Yj ..
theorem Sl.cells{H:Heap}{sz:Nat}{v:AV}{ls:List (List AV)}(h:Sl H sz v ls):v.cells=[v]:=by
 rcases h.here with⟨rfl,rfl⟩|⟨b,o,c,rfl,_⟩<;>rfl
theorem Sl.at_{H:Heap}{sz:Nat}{v:AV}{ls:List (List AV)}(h:Sl H sz v ls){i:Nat}(hi:i<ls.length):
  ∃b o r,(∀(k:IntKind) (G:Heap),IZ sz v (nI k i) G=.val (.ptr b o) G)∧b<H.nx∧H.t.get b=some (.row r)∧(∀G:Heap,wZ sz (some (.row r)) o G=.val (.agg (ls.getD i [])) G)∧ ∀(j:Nat) (G:Heap),j<sz->ld1 (some (.row r)) (o+j) G=.val ((ls.getD i []).getD j .unk) G:=by
 have hne:ls≠[]:=by intro e;subst e;cases hi
 rcases h.here with⟨rfl,_⟩|⟨b,o,c,rfl,hb,h2⟩
 ·exact absurd rfl hne
 ·obtain⟨r,h3,h4,h5⟩:=h2 hne
  have hm:(i+1)*sz<=ls.length*sz:=XX _ hi
  rw[WF,Ph] at hm
  have hf:=flat_len h.each
  have hg:=flat_at h.each hi
  refine⟨b,o+i*sz,r,λk G=>jM hi b o c k G,hb,h3,λG=>?_,λj G hj=>?_⟩
  ·show Z3 (Nat.ble (Nat.add (o+i*sz) sz) r.size) (OR.val (.agg (Vr r (o+i*sz) sz)) G)=_
   rw[Zg (show Nat.add (o+i*sz) sz<=r.size by show o+i*sz+sz<=_;omega)]
   show OR.val (.agg (Vr r (o+i*sz) sz)) G=_
   congr 2
   rw[<-hg]
   apply WM
   intro j
   by_cases hj:j<sz
   ·rw[Rw _ _ _ _ hj,XT hj,XV]
    have:=h5 (i*sz+j) (by omega)
    rw[<-X3,Zf,Zn (by omega)] at this
    rw[Zn (by omega),this];rfl
   ·rw[Xh (by rw[Rf];omega),Xh (by rw[Z4];omega)]
  ·rw[Y8 (by omega)]
   congr 1
   rw[<-hg,X3,h5 _ (by omega),Zf,Zf,XT hj,XV]
theorem Sl.of_recs{H:Heap}{b e sz:Nat}{ls:List (List AV)}{r:Row}(h:zi H b e sz ls r)(c:Option Nat):Sl H sz (.slice b 0 ls.length c) ls:=
 ⟨h.each,.inr ⟨b,0,c,rfl,h.low,λ_=>⟨r,h.at_,by rw[h.size];omega,λi hi=>by rw[Zb];exact h.cells.get i (by rw[flat_len h.each];exact hi)⟩⟩⟩
theorem Sl.of_buf{H:Heap}{v:AV}{e sz:Nat}{ls:List (List AV)}{lo:Nat}(h:Py H v e sz ls lo):Sl H sz v ls:=by
 rcases h with⟨rfl,rfl⟩|⟨_,b,r,rfl,h,_⟩
 ·exact Sl.nil ..
 ·exact Sl.of_recs h _
theorem SB{n b:Nat}{l vs:List AV}{H:Heap}(hl:l.length=n)(hv:vs.length=n)(hn:1<=n)(hro:H.ro<=b)(e sz:Nat)(sm ex:Bool):oA n (some (rG e sz l 0 sm true ex)) b 0 (.agg vs) H=.val XE (H.put b (rG e sz vs 0 sm true ex)):=by
 rw[Za8 hn (by exact hv) (by omega) hro (ZB _)]
 congr 3
 rw[Et _ _ _ (by show 0+vs.length<=_;omega)]
 show []++(vs++l.drop (0+vs.length))=vs
 rw[Vt (by omega)];simp
end
end Go.AI
