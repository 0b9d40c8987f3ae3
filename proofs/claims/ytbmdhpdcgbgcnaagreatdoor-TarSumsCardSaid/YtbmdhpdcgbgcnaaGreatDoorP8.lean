/- Equations in bundles; plain words; the code of the functions that the law comes to. -/
import Derived.Test.YtbmdhpdcgbgcnaaGreatDoorP7
import Derived.Test.YtbmdhpdcgbgcnaaGreatDoorP5
import Derived.Test.YtbmdhpdcgbgcnaaGreatDoorProg
set_option maxRecDepth 1000000
set_option maxHeartbeats 0
set_option linter.unusedVariables false
set_option linter.unusedSimpArgs false
namespace Go.AI
open Go
noncomputable section
section
open Go N8
theorem YA(b:Bool)(yes no:WQ):UY XL b yes no=no:=rfl
theorem qw{r r':WQ}(h:r=r')(k:TM->Heap->X->WQ):Q2 r k=Q2 r' k:=by rw[h]
theorem mA{r r':OR}(h:r=r')(n:TM->Heap->X->WQ)(d:Yh)(c:Ctx)(tm:TM)(H:Heap)(x:X):Pz n d c tm H x r=Pz n d c tm H x r':=by rw[h]
theorem mE{r r':CR}(h:r=r')(n:TM->Heap->X->WQ)(d:Yh)(tm:TM)(x:X):Du n d tm x r=Du n d tm x r':=by rw[h]
theorem mD{v v':AV}(h:v=v')(k:Bool->WQ):zj v k=zj v' k:=by rw[h]
theorem vF{v v':AV}(h:v=v')(b:Bool)(yes no:WQ):UY v b yes no=UY v' b yes no:=by rw[h]
theorem qs{v v':Bool}(h:v=v')(a b:TM->Heap->X->WQ)(tm:TM)(H:Heap)(x:X):JH a b v tm H x=JH a b v' tm H x:=by rw[h]
theorem vG{r r':WQ}(h:r=r')(i:Nat):QD i r=QD i r':=by rw[h]
theorem mF{r r':WQ}(h:r=r')(dc:Option AV->Nat->List AV->Heap->DR)(rs:List (YF×Option (Nat×Bool))):MM dc rs r=MM dc rs r':=by rw[h]
theorem qt{r r':OR}(h:r=r')(p:PI)(nx:PK)(rs:List RD)(tm:TM)(H:Heap)(x:X):M2 p nx rs tm H x r=M2 p nx rs tm H x r':=by rw[h]
theorem qu{r r':OR}(h:r=r')(p:PI)(nx:PK)(rs:List RD)(tm:TM)(H:Heap)(x:X):Is p nx rs tm H x r=Is p nx rs tm H x r':=by rw[h]
theorem my{r r':OR}(h:r=r')(ds:List Yh)(p:PI)(nx:PK)(rs:List RD)(c:Ctx)(tm:TM)(x:X):JK ds p nx rs c tm x r=JK ds p nx rs c tm x r':=by rw[h]
theorem mG{r r':CR}(h:r=r')(ds:List Yh)(p:PI)(nx:PK)(rs:List RD)(tm:TM)(x:X):DF ds p nx rs tm x r=DF ds p nx rs tm x r':=by rw[h]
attribute [congr] qw mA mE mD vF qs vG mF qt qu my mG
theorem Xe:(∀tm:TM,YX tm=a0 (a0 (a0 tm))∧Wj tm=a1 (a0 (a0 tm))∧VE tm=a2 (a0 (a0 tm))∧V5 tm=a3 (a0 (a0 tm))∧XY tm=a4 (a0 (a0 tm))∧X2 tm=a5 (a0 (a0 tm))∧WA tm=a6 (a0 (a0 tm))∧Wt tm=a7 (a0 (a0 tm))∧Wi tm=a0 (a1 (a0 tm))∧WV tm=a1 (a1 (a0 tm))∧XD tm=a2 (a1 (a0 tm))∧XQ tm=a3 (a1 (a0 tm))∧XS tm=a4 (a1 (a0 tm))∧XG tm=a5 (a1 (a0 tm))∧X5 tm=a6 (a1 (a0 tm))∧Wh tm=a7 (a1 (a0 tm))∧X8 tm=a0 (a2 (a0 tm))∧WI tm=a1 (a2 (a0 tm))∧Wv tm=a2 (a2 (a0 tm))∧WM tm=a3 (a2 (a0 tm))∧Vl tm=a4 (a2 (a0 tm))∧VY tm=a5 (a2 (a0 tm))∧VQ tm=a6 (a2 (a0 tm))∧VR tm=a7 (a2 (a0 tm))∧VS tm=a0 (a3 (a0 tm))∧Uz tm=a1 (a3 (a0 tm))∧V7 tm=a2 (a3 (a0 tm))∧Ud tm=a3 (a3 (a0 tm))∧V8 tm=a4 (a3 (a0 tm))∧VW tm=a5 (a3 (a0 tm))∧Tm tm=a6 (a3 (a0 tm))∧TO tm=a7 (a3 (a0 tm)))∧(∀(tm:TM) (v:AV),st0 tm v=u0 (u0 (u0 λ_=>v)) tm∧st1 tm v=u0 (u0 (u1 λ_=>v)) tm∧st2 tm v=u0 (u0 (u2 λ_=>v)) tm∧VK tm v=u0 (u0 (u3 λ_=>v)) tm∧XB tm v=u0 (u0 (u4 λ_=>v)) tm∧Vd tm v=u0 (u0 (u5 λ_=>v)) tm∧Ve tm v=u0 (u0 (u6 λ_=>v)) tm∧VT tm v=u0 (u0 (u7 λ_=>v)) tm∧VL tm v=u0 (u1 (u0 λ_=>v)) tm∧UO tm v=u0 (u1 (u1 λ_=>v)) tm∧X6 tm v=u0 (u1 (u2 λ_=>v)) tm∧Wg tm v=u0 (u1 (u3 λ_=>v)) tm∧Wl tm v=u0 (u1 (u4 λ_=>v)) tm∧Wk tm v=u0 (u1 (u5 λ_=>v)) tm∧WE tm v=u0 (u1 (u6 λ_=>v)) tm∧WN tm v=u0 (u1 (u7 λ_=>v)) tm∧WJ tm v=u0 (u2 (u0 λ_=>v)) tm∧WZ tm v=u0 (u2 (u1 λ_=>v)) tm∧W4 tm v=u0 (u2 (u2 λ_=>v)) tm∧VA tm v=u0 (u2 (u3 λ_=>v)) tm∧VJ tm v=u0 (u2 (u4 λ_=>v)) tm∧Uq tm v=u0 (u2 (u5 λ_=>v)) tm∧Uu tm v=u0 (u2 (u6 λ_=>v)) tm∧Uv tm v=u0 (u2 (u7 λ_=>v)) tm∧Uw tm v=u0 (u3 (u0 λ_=>v)) tm∧UE tm v=u0 (u3 (u1 λ_=>v)) tm∧UN tm v=u0 (u3 (u2 λ_=>v)) tm∧UF tm v=u0 (u3 (u3 λ_=>v)) tm∧UW tm v=u0 (u3 (u4 λ_=>v)) tm∧Ti tm v=u0 (u3 (u5 λ_=>v)) tm∧Tn tm v=u0 (u3 (u6 λ_=>v)) tm∧T5 tm v=u0 (u3 (u7 λ_=>v)) tm):=⟨λ_=>⟨rfl,rfl,rfl,rfl,rfl,rfl,rfl,rfl,rfl,rfl,rfl,rfl,rfl,rfl,rfl,rfl,rfl,rfl,rfl,rfl,rfl,rfl,rfl,rfl,rfl,rfl,rfl,rfl,rfl,rfl,rfl,rfl⟩,λ_ _=>⟨rfl,rfl,rfl,rfl,rfl,rfl,rfl,rfl,rfl,rfl,rfl,rfl,rfl,rfl,rfl,rfl,rfl,rfl,rfl,rfl,rfl,rfl,rfl,rfl,rfl,rfl,rfl,rfl,rfl,rfl,rfl,rfl⟩⟩
theorem U4:(∀tm:TM,TG tm=a0 (a4 (a0 tm))∧T4 tm=a1 (a4 (a0 tm))∧Sf tm=a2 (a4 (a0 tm))∧TH tm=a3 (a4 (a0 tm))∧Pc tm=a4 (a4 (a0 tm))∧Qz tm=a5 (a4 (a0 tm))∧QA tm=a6 (a4 (a0 tm))∧Ri tm=a7 (a4 (a0 tm))∧QU tm=a0 (a5 (a0 tm))∧PX tm=a1 (a5 (a0 tm))∧RX tm=a2 (a5 (a0 tm))∧PC tm=a3 (a5 (a0 tm))∧QB tm=a4 (a5 (a0 tm))∧Oc tm=a5 (a5 (a0 tm))∧Od tm=a6 (a5 (a0 tm))∧Pd tm=a7 (a5 (a0 tm))∧NH tm=a0 (a6 (a0 tm))∧OD tm=a1 (a6 (a0 tm))∧MJ tm=a2 (a6 (a0 tm))∧Nq tm=a3 (a6 (a0 tm))∧N9 tm=a4 (a6 (a0 tm))∧NI tm=a5 (a6 (a0 tm))∧Ma tm=a6 (a6 (a0 tm))∧Lb tm=a7 (a6 (a0 tm))∧MK tm=a0 (a7 (a0 tm))∧ML tm=a1 (a7 (a0 tm))∧OW tm=a2 (a7 (a0 tm))∧Lc tm=a3 (a7 (a0 tm))∧OX tm=a4 (a7 (a0 tm))∧Mb tm=a5 (a7 (a0 tm))∧Ld tm=a6 (a7 (a0 tm))∧Kk tm=a7 (a7 (a0 tm)))∧(∀(tm:TM) (v:AV),T6 tm v=u0 (u4 (u0 λ_=>v)) tm∧SB tm v=u0 (u4 (u1 λ_=>v)) tm∧Rn tm v=u0 (u4 (u2 λ_=>v)) tm∧Rx tm v=u0 (u4 (u3 λ_=>v)) tm∧QN tm v=u0 (u4 (u4 λ_=>v)) tm∧QO tm v=u0 (u4 (u5 λ_=>v)) tm∧QX tm v=u0 (u4 (u6 λ_=>v)) tm∧PP tm v=u0 (u4 (u7 λ_=>v)) tm∧P2 tm v=u0 (u5 (u0 λ_=>v)) tm∧P3 tm v=u0 (u5 (u1 λ_=>v)) tm∧P4 tm v=u0 (u5 (u2 λ_=>v)) tm∧Ps tm v=u0 (u5 (u3 λ_=>v)) tm∧ON tm v=u0 (u5 (u4 λ_=>v)) tm∧O0 tm v=u0 (u5 (u5 λ_=>v)) tm∧O1 tm v=u0 (u5 (u6 λ_=>v)) tm∧O2 tm v=u0 (u5 (u7 λ_=>v)) tm∧Nw tm v=u0 (u6 (u0 λ_=>v)) tm∧Nx tm v=u0 (u6 (u1 λ_=>v)) tm∧Mo tm v=u0 (u6 (u2 λ_=>v)) tm∧MN tm v=u0 (u6 (u3 λ_=>v)) tm∧MO tm v=u0 (u6 (u4 λ_=>v)) tm∧Mq tm v=u0 (u6 (u5 λ_=>v)) tm∧Mr tm v=u0 (u6 (u6 λ_=>v)) tm∧MP tm v=u0 (u6 (u7 λ_=>v)) tm∧MQ tm v=u0 (u7 (u0 λ_=>v)) tm∧MR tm v=u0 (u7 (u1 λ_=>v)) tm∧LN tm v=u0 (u7 (u2 λ_=>v)) tm∧LP tm v=u0 (u7 (u3 λ_=>v)) tm∧MT tm v=u0 (u7 (u4 λ_=>v)) tm∧LQ tm v=u0 (u7 (u5 λ_=>v)) tm∧LR tm v=u0 (u7 (u6 λ_=>v)) tm∧LS tm v=u0 (u7 (u7 λ_=>v)) tm):=⟨λ_=>⟨rfl,rfl,rfl,rfl,rfl,rfl,rfl,rfl,rfl,rfl,rfl,rfl,rfl,rfl,rfl,rfl,rfl,rfl,rfl,rfl,rfl,rfl,rfl,rfl,rfl,rfl,rfl,rfl,rfl,rfl,rfl,rfl⟩,λ_ _=>⟨rfl,rfl,rfl,rfl,rfl,rfl,rfl,rfl,rfl,rfl,rfl,rfl,rfl,rfl,rfl,rfl,rfl,rfl,rfl,rfl,rfl,rfl,rfl,rfl,rfl,rfl,rfl,rfl,rfl,rfl,rfl,rfl⟩⟩
theorem CK:(∀tm:TM,K1 tm=a0 (a0 (a1 tm))∧NJ tm=a1 (a0 (a1 tm))∧NK tm=a2 (a0 (a1 tm))∧Le tm=a3 (a0 (a1 tm))∧Hn tm=a4 (a0 (a1 tm))∧Ho tm=a5 (a0 (a1 tm))∧K2 tm=a6 (a0 (a1 tm))∧JW tm=a7 (a0 (a1 tm))∧OE tm=a0 (a1 (a1 tm))∧JX tm=a1 (a1 (a1 tm))∧JY tm=a2 (a1 (a1 tm))∧JZ tm=a3 (a1 (a1 tm))∧Hp tm=a4 (a1 (a1 tm))∧Fx tm=a5 (a1 (a1 tm))∧Lf tm=a6 (a1 (a1 tm))∧Kl tm=a7 (a1 (a1 tm))∧Hq tm=a0 (a2 (a1 tm))∧Ht tm=a1 (a2 (a1 tm))∧Hu tm=a2 (a2 (a1 tm))∧Hv tm=a3 (a2 (a1 tm))∧PY tm=a4 (a2 (a1 tm))∧Lg tm=a5 (a2 (a1 tm))∧Fy tm=a6 (a2 (a1 tm))∧Fz tm=a7 (a2 (a1 tm))∧J0 tm=a0 (a3 (a1 tm))∧FA tm=a1 (a3 (a1 tm))∧Hw tm=a2 (a3 (a1 tm))∧EZ tm=a3 (a3 (a1 tm))∧Km tm=a4 (a3 (a1 tm))∧E0 tm=a5 (a3 (a1 tm))∧Ci tm=a6 (a3 (a1 tm))∧Cj tm=a7 (a3 (a1 tm)))∧(∀(tm:TM) (v:AV),Jl tm v=u1 (u0 (u0 λ_=>v)) tm∧Jm tm v=u1 (u0 (u1 λ_=>v)) tm∧Jn tm v=u1 (u0 (u2 λ_=>v)) tm∧Jo tm v=u1 (u0 (u3 λ_=>v)) tm∧Gd tm v=u1 (u0 (u4 λ_=>v)) tm∧Ge tm v=u1 (u0 (u5 λ_=>v)) tm∧Gf tm v=u1 (u0 (u6 λ_=>v)) tm∧Gg tm v=u1 (u0 (u7 λ_=>v)) tm∧IJ tm v=u1 (u1 (u0 λ_=>v)) tm∧IK tm v=u1 (u1 (u1 λ_=>v)) tm∧IL tm v=u1 (u1 (u2 λ_=>v)) tm∧IM tm v=u1 (u1 (u3 λ_=>v)) tm∧Gh tm v=u1 (u1 (u4 λ_=>v)) tm∧FH tm v=u1 (u1 (u5 λ_=>v)) tm∧FI tm v=u1 (u1 (u6 λ_=>v)) tm∧Gi tm v=u1 (u1 (u7 λ_=>v)) tm∧Gj tm v=u1 (u2 (u0 λ_=>v)) tm∧Gk tm v=u1 (u2 (u1 λ_=>v)) tm∧Gl tm v=u1 (u2 (u2 λ_=>v)) tm∧Gm tm v=u1 (u2 (u3 λ_=>v)) tm∧Gn tm v=u1 (u2 (u4 λ_=>v)) tm∧FJ tm v=u1 (u2 (u5 λ_=>v)) tm∧FK tm v=u1 (u2 (u6 λ_=>v)) tm∧FM tm v=u1 (u2 (u7 λ_=>v)) tm∧FN tm v=u1 (u3 (u0 λ_=>v)) tm∧FO tm v=u1 (u3 (u1 λ_=>v)) tm∧DP tm v=u1 (u3 (u2 λ_=>v)) tm∧DQ tm v=u1 (u3 (u3 λ_=>v)) tm∧DS tm v=u1 (u3 (u4 λ_=>v)) tm∧DT tm v=u1 (u3 (u5 λ_=>v)) tm∧Cy tm v=u1 (u3 (u6 λ_=>v)) tm∧Cz tm v=u1 (u3 (u7 λ_=>v)) tm):=⟨λ_=>⟨rfl,rfl,rfl,rfl,rfl,rfl,rfl,rfl,rfl,rfl,rfl,rfl,rfl,rfl,rfl,rfl,rfl,rfl,rfl,rfl,rfl,rfl,rfl,rfl,rfl,rfl,rfl,rfl,rfl,rfl,rfl,rfl⟩,λ_ _=>⟨rfl,rfl,rfl,rfl,rfl,rfl,rfl,rfl,rfl,rfl,rfl,rfl,rfl,rfl,rfl,rfl,rfl,rfl,rfl,rfl,rfl,rfl,rfl,rfl,rfl,rfl,rfl,rfl,rfl,rfl,rfl,rfl⟩⟩
theorem Ca:(∀tm:TM,J1 tm=a0 (a4 (a1 tm))∧Ck tm=a1 (a4 (a1 tm))∧xg tm=a2 (a4 (a1 tm))∧E1 tm=a3 (a4 (a1 tm))∧M6 tm=a4 (a4 (a1 tm))∧JU tm=a5 (a4 (a1 tm))∧Mx tm=a6 (a4 (a1 tm))∧EU tm=a7 (a4 (a1 tm))∧Nd tm=a0 (a5 (a1 tm))∧M7 tm=a1 (a5 (a1 tm))∧Ky tm=a2 (a5 (a1 tm))∧M8 tm=a3 (a5 (a1 tm))∧Bp tm=a4 (a5 (a1 tm))∧EV tm=a5 (a5 (a1 tm))∧EW tm=a6 (a5 (a1 tm))∧My tm=a7 (a5 (a1 tm))∧GM tm=a0 (a6 (a1 tm))∧GN tm=a1 (a6 (a1 tm))∧M9 tm=a2 (a6 (a1 tm))∧GO tm=a3 (a6 (a1 tm))∧GP tm=a4 (a6 (a1 tm))∧EX tm=a5 (a6 (a1 tm))∧GQ tm=a6 (a6 (a1 tm))∧GR tm=a7 (a6 (a1 tm))∧GS tm=a0 (a7 (a1 tm))∧NF tm=a1 (a7 (a1 tm))∧EY tm=a2 (a7 (a1 tm))∧GU tm=a3 (a7 (a1 tm))∧NG tm=a4 (a7 (a1 tm))∧Bq tm=a5 (a7 (a1 tm))∧Br tm=a6 (a7 (a1 tm))∧Bs tm=a7 (a7 (a1 tm)))∧(∀(tm:TM) (v:AV),CA tm v=u1 (u4 (u0 λ_=>v)) tm∧CB tm v=u1 (u4 (u1 λ_=>v)) tm∧ye tm v=u1 (u4 (u2 λ_=>v)) tm∧yf tm v=u1 (u4 (u3 λ_=>v)) tm∧IF tm v=u1 (u4 (u4 λ_=>v)) tm∧IG tm v=u1 (u4 (u5 λ_=>v)) tm∧G9 tm v=u1 (u4 (u6 λ_=>v)) tm∧Fa tm v=u1 (u4 (u7 λ_=>v)) tm∧Fb tm v=u1 (u5 (u0 λ_=>v)) tm∧Fc tm v=u1 (u5 (u1 λ_=>v)) tm∧Fd tm v=u1 (u5 (u2 λ_=>v)) tm∧Fe tm v=u1 (u5 (u3 λ_=>v)) tm∧DN tm v=u1 (u5 (u4 λ_=>v)) tm∧DO tm v=u1 (u5 (u5 λ_=>v)) tm∧Ff tm v=u1 (u5 (u6 λ_=>v)) tm∧Fg tm v=u1 (u5 (u7 λ_=>v)) tm∧Fh tm v=u1 (u6 (u0 λ_=>v)) tm∧Fi tm v=u1 (u6 (u1 λ_=>v)) tm∧Fj tm v=u1 (u6 (u2 λ_=>v)) tm∧Fk tm v=u1 (u6 (u3 λ_=>v)) tm∧Fl tm v=u1 (u6 (u4 λ_=>v)) tm∧Fm tm v=u1 (u6 (u5 λ_=>v)) tm∧Fo tm v=u1 (u6 (u6 λ_=>v)) tm∧Fp tm v=u1 (u6 (u7 λ_=>v)) tm∧Fq tm v=u1 (u7 (u0 λ_=>v)) tm∧Fr tm v=u1 (u7 (u1 λ_=>v)) tm∧Fs tm v=u1 (u7 (u2 λ_=>v)) tm∧IH tm v=u1 (u7 (u3 λ_=>v)) tm∧II tm v=u1 (u7 (u4 λ_=>v)) tm∧Ag tm v=u1 (u7 (u5 λ_=>v)) tm∧Ah tm v=u1 (u7 (u6 λ_=>v)) tm∧Ai tm v=u1 (u7 (u7 λ_=>v)) tm):=⟨λ_=>⟨rfl,rfl,rfl,rfl,rfl,rfl,rfl,rfl,rfl,rfl,rfl,rfl,rfl,rfl,rfl,rfl,rfl,rfl,rfl,rfl,rfl,rfl,rfl,rfl,rfl,rfl,rfl,rfl,rfl,rfl,rfl,rfl⟩,λ_ _=>⟨rfl,rfl,rfl,rfl,rfl,rfl,rfl,rfl,rfl,rfl,rfl,rfl,rfl,rfl,rfl,rfl,rfl,rfl,rfl,rfl,rfl,rfl,rfl,rfl,rfl,rfl,rfl,rfl,rfl,rfl,rfl,rfl⟩⟩
theorem nL:(∀tm:TM,JV tm=a0 (a0 (a2 tm))∧Bt tm=a1 (a0 (a2 tm))∧La tm=a2 (a0 (a2 tm))∧Bu tm=a3 (a0 (a2 tm))∧Mz tm=a4 (a0 (a2 tm))∧Bv tm=a5 (a0 (a2 tm))∧Bw tm=a6 (a0 (a2 tm))∧Bx tm=a7 (a0 (a2 tm))∧y5 tm=a0 (a1 (a2 tm))∧y6 tm=a1 (a1 (a2 tm))∧y7 tm=a2 (a1 (a2 tm))∧y8 tm=a3 (a1 (a2 tm))∧y9 tm=a4 (a1 (a2 tm))∧xa tm=a5 (a1 (a2 tm))∧xb tm=a6 (a1 (a2 tm))∧sM tm=a7 (a1 (a2 tm))∧sN tm=a0 (a2 (a2 tm))∧xc tm=a1 (a2 (a2 tm))∧By tm=a2 (a2 (a2 tm))∧Bz tm=a3 (a2 (a2 tm))∧BA tm=a4 (a2 (a2 tm))∧BB tm=a5 (a2 (a2 tm))∧BC tm=a6 (a2 (a2 tm))∧BD tm=a7 (a2 (a2 tm))∧BE tm=a0 (a3 (a2 tm))∧BF tm=a1 (a3 (a2 tm))∧BG tm=a2 (a3 (a2 tm))∧BH tm=a3 (a3 (a2 tm))∧xd tm=a4 (a3 (a2 tm))∧xe tm=a5 (a3 (a2 tm))∧lL tm=a6 (a3 (a2 tm))∧lM tm=a7 (a3 (a2 tm)))∧(∀(tm:TM) (v:AV),Aj tm v=u2 (u0 (u0 λ_=>v)) tm∧Ak tm v=u2 (u0 (u1 λ_=>v)) tm∧Al tm v=u2 (u0 (u2 λ_=>v)) tm∧Am tm v=u2 (u0 (u3 λ_=>v)) tm∧An tm v=u2 (u0 (u4 λ_=>v)) tm∧Ao tm v=u2 (u0 (u5 λ_=>v)) tm∧Ap tm v=u2 (u0 (u6 λ_=>v)) tm∧Aq tm v=u2 (u0 (u7 λ_=>v)) tm∧wH tm v=u2 (u1 (u0 λ_=>v)) tm∧wI tm v=u2 (u1 (u1 λ_=>v)) tm∧wJ tm v=u2 (u1 (u2 λ_=>v)) tm∧wK tm v=u2 (u1 (u3 λ_=>v)) tm∧wL tm v=u2 (u1 (u4 λ_=>v)) tm∧wM tm v=u2 (u1 (u5 λ_=>v)) tm∧wN tm v=u2 (u1 (u6 λ_=>v)) tm∧r6 tm v=u2 (u1 (u7 λ_=>v)) tm∧r7 tm v=u2 (u2 (u0 λ_=>v)) tm∧wO tm v=u2 (u2 (u1 λ_=>v)) tm∧Ar tm v=u2 (u2 (u2 λ_=>v)) tm∧As tm v=u2 (u2 (u3 λ_=>v)) tm∧Au tm v=u2 (u2 (u4 λ_=>v)) tm∧Av tm v=u2 (u2 (u5 λ_=>v)) tm∧Aw tm v=u2 (u2 (u6 λ_=>v)) tm∧Ax tm v=u2 (u2 (u7 λ_=>v)) tm∧Ay tm v=u2 (u3 (u0 λ_=>v)) tm∧Az tm v=u2 (u3 (u1 λ_=>v)) tm∧AA tm v=u2 (u3 (u2 λ_=>v)) tm∧AB tm v=u2 (u3 (u3 λ_=>v)) tm∧wP tm v=u2 (u3 (u4 λ_=>v)) tm∧wQ tm v=u2 (u3 (u5 λ_=>v)) tm∧iS tm v=u2 (u3 (u6 λ_=>v)) tm∧iT tm v=u2 (u3 (u7 λ_=>v)) tm):=⟨λ_=>⟨rfl,rfl,rfl,rfl,rfl,rfl,rfl,rfl,rfl,rfl,rfl,rfl,rfl,rfl,rfl,rfl,rfl,rfl,rfl,rfl,rfl,rfl,rfl,rfl,rfl,rfl,rfl,rfl,rfl,rfl,rfl,rfl⟩,λ_ _=>⟨rfl,rfl,rfl,rfl,rfl,rfl,rfl,rfl,rfl,rfl,rfl,rfl,rfl,rfl,rfl,rfl,rfl,rfl,rfl,rfl,rfl,rfl,rfl,rfl,rfl,rfl,rfl,rfl,rfl,rfl,rfl,rfl⟩⟩
theorem vi:(∀tm:TM,lN tm=a0 (a4 (a2 tm))∧lO tm=a1 (a4 (a2 tm))∧lP tm=a2 (a4 (a2 tm))∧xf tm=a3 (a4 (a2 tm))∧lQ tm=a4 (a4 (a2 tm))∧lR tm=a5 (a4 (a2 tm))∧lS tm=a6 (a4 (a2 tm))∧ai tm=a7 (a4 (a2 tm))∧aj tm=a0 (a5 (a2 tm))∧am tm=a1 (a5 (a2 tm))∧an tm=a2 (a5 (a2 tm))∧aq tm=a3 (a5 (a2 tm))∧au tm=a4 (a5 (a2 tm))∧aw tm=a5 (a5 (a2 tm))∧ax tm=a6 (a5 (a2 tm))∧sO tm=a7 (a5 (a2 tm))∧sP tm=a0 (a6 (a2 tm))∧ay tm=a1 (a6 (a2 tm))∧az tm=a2 (a6 (a2 tm))∧aA tm=a3 (a6 (a2 tm))∧aB tm=a4 (a6 (a2 tm))∧aC tm=a5 (a6 (a2 tm))∧aD tm=a6 (a6 (a2 tm))∧aE tm=a7 (a6 (a2 tm))∧aF tm=a0 (a7 (a2 tm))∧aG tm=a1 (a7 (a2 tm))∧aH tm=a2 (a7 (a2 tm))∧ZdR tm=a3 (a7 (a2 tm))∧ZdS tm=a4 (a7 (a2 tm))∧ZdT tm=a5 (a7 (a2 tm))∧ZdU tm=a6 (a7 (a2 tm))∧ZdV tm=a7 (a7 (a2 tm)))∧(∀(tm:TM) (v:AV),iU tm v=u2 (u4 (u0 λ_=>v)) tm∧iV tm v=u2 (u4 (u1 λ_=>v)) tm∧iW tm v=u2 (u4 (u2 λ_=>v)) tm∧iX tm v=u2 (u4 (u3 λ_=>v)) tm∧iY tm v=u2 (u4 (u4 λ_=>v)) tm∧iZ tm v=u2 (u4 (u5 λ_=>v)) tm∧i6 tm v=u2 (u4 (u6 λ_=>v)) tm∧Zai tm v=u2 (u4 (u7 λ_=>v)) tm∧Zaj tm v=u2 (u5 (u0 λ_=>v)) tm∧Zak tm v=u2 (u5 (u1 λ_=>v)) tm∧Zal tm v=u2 (u5 (u2 λ_=>v)) tm∧Zam tm v=u2 (u5 (u3 λ_=>v)) tm∧Zan tm v=u2 (u5 (u4 λ_=>v)) tm∧Zao tm v=u2 (u5 (u5 λ_=>v)) tm∧Zap tm v=u2 (u5 (u6 λ_=>v)) tm∧Zaq tm v=u2 (u5 (u7 λ_=>v)) tm∧Zar tm v=u2 (u6 (u0 λ_=>v)) tm∧Zas tm v=u2 (u6 (u1 λ_=>v)) tm∧Zat tm v=u2 (u6 (u2 λ_=>v)) tm∧Zau tm v=u2 (u6 (u3 λ_=>v)) tm∧Zav tm v=u2 (u6 (u4 λ_=>v)) tm∧Zaw tm v=u2 (u6 (u5 λ_=>v)) tm∧Zax tm v=u2 (u6 (u6 λ_=>v)) tm∧Zay tm v=u2 (u6 (u7 λ_=>v)) tm∧Zaz tm v=u2 (u7 (u0 λ_=>v)) tm∧ZaA tm v=u2 (u7 (u1 λ_=>v)) tm∧ZaB tm v=u2 (u7 (u2 λ_=>v)) tm∧Zfh tm v=u2 (u7 (u3 λ_=>v)) tm∧Zfi tm v=u2 (u7 (u4 λ_=>v)) tm∧Zfj tm v=u2 (u7 (u5 λ_=>v)) tm∧Zfk tm v=u2 (u7 (u6 λ_=>v)) tm∧Zfl tm v=u2 (u7 (u7 λ_=>v)) tm):=⟨λ_=>⟨rfl,rfl,rfl,rfl,rfl,rfl,rfl,rfl,rfl,rfl,rfl,rfl,rfl,rfl,rfl,rfl,rfl,rfl,rfl,rfl,rfl,rfl,rfl,rfl,rfl,rfl,rfl,rfl,rfl,rfl,rfl,rfl⟩,λ_ _=>⟨rfl,rfl,rfl,rfl,rfl,rfl,rfl,rfl,rfl,rfl,rfl,rfl,rfl,rfl,rfl,rfl,rfl,rfl,rfl,rfl,rfl,rfl,rfl,rfl,rfl,rfl,rfl,rfl,rfl,rfl,rfl,rfl⟩⟩
end
def Qv(x:Nat):List UInt8->Nat
 |[]=>0
 |c::s=>if Qv x s=0 then(if c.toNat=x then 1 else 0) else Qv x s+1
def Vk(x:Nat):List UInt8->Nat
 |[]=>0
 |c::s=>if c.toNat=x then 1 else if Vk x s=0 then 0 else Vk x s+1
def Up:List UInt8->List (List UInt8)
 |[]=>[[]]
 |c::s=>if c.toNat=47 then []::Up s else match Up s with|[]=>[[c]]|h::t=>(c::h)::t
theorem ED(x:Nat): ∀(l:List UInt8) (c:UInt8),Qv x (l++[c])=if c.toNat=x then l.length+1 else Qv x l
 |[],c=>by simp[Qv]
 |a::l,c=>by
  rw[WU,Qv,ED x l c,Qv]
  by_cases h:c.toNat=x
  ·simp[h]
  ·simp[h]
theorem Gq{s:List UInt8}{m:Nat}(h:m<s.length):s.take (m+1)=s.take m++[s.getD m 0]:=by
 rw[Uj,Zh,Zp h];rfl
theorem fS{x:Nat}{s:List UInt8}{m:Nat}(h:m<s.length)(e:(s.getD m 0).toNat=x):Qv x (s.take (m+1))=m+1:=by
 rw[Gq h,ED,if_pos e,Z2,WR (O5 h)]
theorem mM{x:Nat}{s:List UInt8}{m:Nat}(h:m<s.length)(e:(s.getD m 0).toNat≠x):Qv x (s.take (m+1))=Qv x (s.take m):=by
 rw[Gq h,ED,if_neg e]
theorem AW(x:Nat): ∀s:List UInt8,Qv x s<=s.length
 |[]=>Zz _
 |c::s=>by
  have:=AW x s
  rw[Qv,Zl]
  split
  ·split<;>omega
  ·omega
theorem sX(x:Nat): ∀(s:List UInt8) (n:Nat),QC x s n=if Vk x s=0 then Int.negSucc 0 else((n+Vk x s - 1:Nat):Int)
 |[],n=>rfl
 |c::s,n=>by
  show cond (Nat.beq c.toNat x) (Int.ofNat n) (QC x s (Nat.succ n))=_
  rw[sX x s,Vk]
  by_cases h:c.toNat=x
  ·rw[if_pos h,h,show Nat.beq x x=true from Xu x];simp
  ·have:Nat.beq c.toNat x=false:=by
    cases e:Nat.beq c.toNat x with
    |false=>rfl
    |true=>exact absurd (Ye e) h
   rw[this,if_neg h,cond_false]
   by_cases h0:Vk x s=0
   ·rw[if_pos h0,if_pos h0,if_pos rfl]
   ·rw[if_neg h0,if_neg h0,if_neg (by omega)]
    congr 1
    omega
theorem Oz{x:Nat}: ∀{s:List UInt8},Vk x s=0↔ ∀c∈s,c.toNat≠x
 |[]=>by simp[Vk]
 |c::s=>by
  rw[Vk]
  have ih:=Oz (x:=x) (s:=s)
  by_cases h:c.toNat=x
  ·simp[h]
  ·rw[if_neg h]
   by_cases h0:Vk x s=0
   ·simp only[h0,if_true,true_iff]
    intro b hb
    rcases Ys.1 hb with rfl|hb
    ·exact h
    ·exact ih.1 h0 b hb
   ·rw[if_neg h0]
    refine⟨λe=>by omega,λe=>absurd (ih.2 λb hb=>e b (ZQ _ hb)) h0⟩
theorem A5{x:Nat}: ∀{s:List UInt8} {j:Nat},Vk x s=j+1->j<s.length∧(s.getD j 0).toNat=x
 |[],j,h=>by simp[Vk] at h
 |c::s,j,h=>by
  rw[Vk] at h
  by_cases hc:c.toNat=x
  ·rw[if_pos hc] at h
   have:j=0:=by omega
   subst this
   exact⟨by simp,hc⟩
  ·rw[if_neg hc] at h
   split at h
   ·omega
   ·rename_i h0
    obtain⟨i,rfl⟩: ∃i,j=i+1:=⟨j - 1,by omega⟩
    obtain⟨h1,h2⟩:=A5 (x:=x) (s:=s) (j:=i) (by omega)
    exact⟨by simp;omega,by simpa using h2⟩
theorem Zby{x:Nat}{s:List UInt8}:Vk x s<=s.length:=by
 cases h:Vk x s with
 |zero=>exact ZA _
 |succ j=>exact(A5 h).1
theorem IE: ∀s:List UInt8,Up s≠[]
 |[]=>by simp[Up]
 |c::s=>by
  rw[Up]
  split
  ·simp
  ·split<;>simp
theorem Jk: ∀{s:List UInt8},Vk 47 s=0->Up s=[s]
 |[],_=>rfl
 |c::s,h=>by
  have h1:=Oz.1 h
  rw[Up,if_neg (h1 c (ZE ..)),Jk (Oz.2 λb hb=>h1 b (ZQ _ hb))]
theorem Gc: ∀{s:List UInt8} {j:Nat},Vk 47 s=j+1->Up s=s.take j::Up (s.drop (j+1))
 |[],j,h=>by simp[Vk] at h
 |c::s,j,h=>by
  rw[Vk] at h
  by_cases hc:c.toNat=47
  ·rw[if_pos hc] at h
   have:j=0:=by omega
   subst this
   rw[Up,if_pos hc];rfl
  ·rw[if_neg hc] at h
   split at h
   ·omega
   ·obtain⟨i,rfl⟩: ∃i,j=i+1:=⟨j - 1,by omega⟩
    rw[Up,if_neg hc,Gc (s:=s) (j:=i) (by omega)]
    rfl
theorem JG(x:Nat): ∀(l:List UInt8) (n:Nat),XT x l n=n+XT x l 0
 |[],n=>rfl
 |b::l,n=>by
  show cond (Nat.beq b.toNat x) (XT x l (Nat.succ n)) (XT x l n)=n+cond (Nat.beq b.toNat x) (XT x l (Nat.succ 0)) (XT x l 0)
  rw[JG x l (Nat.succ n),JG x l n,JG x l (Nat.succ 0)]
  cases Nat.beq b.toNat x<;>simp;omega
theorem Pr: ∀s:List UInt8,(Up s).length=XT 47 s 0+1
 |[]=>rfl
 |c::s=>by
  have ih:=Pr s
  show _=cond (Nat.beq c.toNat 47) (XT 47 s (Nat.succ 0)) (XT 47 s 0)+1
  rw[Up,JG 47 s (Nat.succ 0)]
  by_cases hc:c.toNat=47
  ·rw[if_pos hc,hc,show Nat.beq 47 47=true from rfl,Zl,ih,cond_true];omega
  ·have:Nat.beq c.toNat 47=false:=by
    cases e:Nat.beq c.toNat 47 with
    |false=>rfl
    |true=>exact absurd (Ye e) hc
   rw[if_neg hc,this,cond_false,<-ih]
   split
   ·rename_i h;exact absurd h (IE s)
   ·rename_i a b h;rw[h];rfl
theorem AU: ∀(x:Nat) (s:List UInt8),XT x s 0<=s.length
 |x,[]=>Zz _
 |x,c::s=>by
  have:=AU x s
  show cond (Nat.beq c.toNat x) (XT x s (Nat.succ 0)) (XT x s 0)<=s.length+1
  rw[JG x s (Nat.succ 0)]
  cases Nat.beq c.toNat x<;>simp<;>omega
def qD:List UInt8:=[46]
def C7:List UInt8:=[46,46]
def gM:List UInt8:=[46,119,104,46]
def Ze1:List UInt8:=[46,119,104,46,46,119,104,46,46,111,112,113]
def ZcU:List UInt8:=[46,119,104,46,46,119,104,46,116,111,99]
def Ct(p s:List UInt8):Bool:=decide (p.length<=s.length)&&decide (s.take p.length=p)
def MH(l s:List UInt8):Bool:=s.any λc=>decide (c∈l)
def Wu(s:List UInt8):Bool:=!decide (s=[])&&decide (s.length<=251)&&!decide (s=qD)&&!decide (s=C7)&&!MH [47,0] s&&!Ct gM s
def RY(p:List UInt8):List (List UInt8):=if p=[] then [] else Up p
def K8(p:List UInt8):Bool:=decide (p.length<=4080)&&decide ((RY p).length<255)&&(RY p).all Wu
def VN(p:List UInt8):List UInt8:=p.drop (Qv 47 p)
def SH(p:List UInt8):List UInt8:=p.take (Qv 47 p)
def P8(b:List UInt8):Nat:=if b=Ze1 then 3 else if Ct gM b then 2 else 1
def zI(d:List UInt8):List UInt8:=if (1<=d.length∧d.drop (d.length - 1)=[47]) then d.take (d.length - 1) else d
def RO(p:List UInt8):List UInt8:=if P8 (VN p)=1 then SH p++VN p else if P8 (VN p)=2 then SH p++(VN p).drop 4 else zI (SH p)
def I0(p:List UInt8):Bool:=!K8 (RO p)||(!decide (P8 (VN p)=3)&&decide (RO p=[]))||(decide (P8 (VN p)=2)&&!Wu ((VN p).drop 4))||decide (SH p=[47])
def W8(p:List UInt8):Nat×List UInt8:=if p=ZcU then(4,[]) else if I0 p then(0,[]) else(P8 (VN p),RO p)
theorem dD(b:List UInt8):1<=P8 b∧P8 b<=3:=by
 unfold P8
 split
 ·exact⟨by decide,by decide⟩
 ·split<;>exact⟨by decide,by decide⟩
def Jw(l:List UInt8):List UInt8->Nat
 |[]=>0
 |c::s=>if c∈l then 1 else if Jw l s=0 then 0 else Jw l s+1
theorem Ee{l:List UInt8}: ∀{s:List UInt8},(∀j,j<s.length->s.getD j 0∉l)->Jw l s=0
 |[],_=>rfl
 |c::s,h=>by
  have h0:c∉l:=h 0 (by simp)
  rw[Jw,if_neg h0,Ee λj hj=>by simpa using h (j+1) (by simp;omega),if_pos rfl]
theorem AL{l:List UInt8}: ∀{s:List UInt8} {p:Nat},p<s.length->s.getD p 0∈l->(∀j,j<p->s.getD j 0∉l)->Jw l s=p+1
 |[],p,h,_,_=>by simp at h
 |c::s,0,h,e,_=>by
  have:c∈l:=e
  rw[Jw,if_pos this]
 |c::s,p+1,h,e,hn=>by
  have h0:c∉l:=hn 0 (by omega)
  rw[Jw,if_neg h0,AL (s:=s) (p:=p) (by simpa using h) (by simpa using e) λj hj=>by simpa using hn (j+1) (by omega),if_neg (by omega)]
theorem tW(l:List UInt8): ∀s:List UInt8,decide (0<Jw l s)=MH l s
 |[]=>rfl
 |c::s=>by
  have ih:=tW l s
  unfold MH at ih ⊢
  rw[List.any_cons,<-ih,Jw]
  by_cases h:c∈l
  ·simp[h]
  ·rw[if_neg h,Ze h]
   by_cases h0:Jw l s=0
   ·simp[h0]
   ·rw[if_neg h0];simp;omega
theorem Ei(s:List UInt8)(i:Nat):((⟨s.toArray⟩:ByteArray).get! i).toNat=(s.getD i 0).toNat:=by
 show(s.toArray[i]!).toNat=_
 rw[List.getElem!_toArray,Zh,List.getElem!_eq_getElem?_getD]
 rfl
theorem sC{s:List UInt8}{i:Nat}(hc:(s.getD i 0).toNat<128):Utf8.decode ⟨s.toArray⟩ i=((s.getD i 0).toNat,1):=by
 have e:=Ei s (i+0)
 rw[Zd] at e
 unfold Utf8.decode
 simp only[Zd,e]
 rw[if_pos hc]
theorem Zbj{s:List UInt8}{i:Nat}(h:i<s.length)(hc:128<=(s.getD i 0).toNat):
  ∃r w,Utf8.decode ⟨s.toArray⟩ i=(r,w)∧128<=r∧r<=1114111∧1<=w∧ ∀j,j<w->i+j<s.length∧128<=(s.getD (i+j) 0).toNat:=by
 have e0:=Ei s i
 have e1:=Ei s (i+1)
 have e2:=Ei s (i+2)
 have e3:=Ei s (i+3)
 have hsz:(⟨s.toArray⟩:ByteArray).size=s.length:=by show s.toArray.size=_;simp
 unfold Utf8.decode
 simp only[Zd,e0,e1,e2,e3,hsz]
 have l0:=(s.getD i 0).toNat_lt
 have l1:=(s.getD (i+1) 0).toNat_lt
 have l2:=(s.getD (i+2) 0).toNat_lt
 have l3:=(s.getD (i+3) 0).toNat_lt
 generalize g0:(s.getD i 0).toNat=b0 at*
 generalize g1:(s.getD (i+1) 0).toNat=b1 at*
 generalize g2:(s.getD (i+2) 0).toNat=b2 at*
 generalize g3:(s.getD (i+3) 0).toNat=b3 at*
 have one: ∀j,j<1->i+j<s.length∧128<=(s.getD (i+j) 0).toNat:=λj hj=>by
  obtain rfl:j=0:=by omega
  exact⟨h,by rw[Zd,g0];exact hc⟩
 have err: ∃r w,((Utf8.runeError,1):Nat×Nat)=(r,w)∧128<=r∧r<=1114111∧1<=w∧ ∀j,j<w->i+j<s.length∧128<=(s.getD (i+j) 0).toNat:=⟨_,_,rfl,by decide,by decide,by decide,one⟩
 rw[if_neg (by omega)]
 split
 ·rename_i c2
  simp only[Xf,beq_iff_eq,decide_eq_true_eq] at c2
  split
  ·exact⟨_,_,rfl,by omega,by omega,by decide,λj hj=>by
    rcases(show j=0∨j=1 by omega) with rfl|rfl
    ·exact one 0 (by decide)
    ·exact⟨by omega,by rw[g1];omega⟩⟩
  ·exact err
 ·split
  ·rename_i c3
   simp only[Xf,beq_iff_eq,decide_eq_true_eq] at c3
   split
   ·rename_i c4
    simp only[Xf,decide_eq_true_eq] at c4
    refine⟨_,_,rfl,by omega,by omega,by decide,λj hj=>?_⟩
    rcases(show j=0∨j=1∨j=2 by omega) with rfl|rfl|rfl
    ·exact one 0 (by decide)
    ·exact⟨by omega,by rw[g1];omega⟩
    ·exact⟨by omega,by rw[g2];omega⟩
   ·exact err
  ·split
   ·rename_i c3
    simp only[Xf,beq_iff_eq,decide_eq_true_eq] at c3
    split
    ·rename_i c4
     simp only[Xf,decide_eq_true_eq,Utf8.valid,U8] at c4
     refine⟨_,_,rfl,by omega,by omega,by decide,λj hj=>?_⟩
     rcases(show j=0∨j=1∨j=2∨j=3 by omega) with rfl|rfl|rfl|rfl
     ·exact one 0 (by decide)
     ·exact⟨by omega,by rw[g1];omega⟩
     ·exact⟨by omega,by rw[g2];omega⟩
     ·exact⟨by omega,by rw[g3];omega⟩
    ·exact err
   ·exact err
theorem mT{r:Nat}(h:128<=r): ∃rs:List UInt8,(Utf8.encode (r:Int)).data.toList=rs∧2<=rs.length∧rs.length<=4∧128<=(rs.getD (rs.length - 1) 0).toNat:=by
 have key: ∀c:Nat,128<=(UInt8.ofNat (128+c % 64)).toNat:=λc=>by
  rw[Uk,YH (by omega)];omega
 unfold Utf8.encode
 have hc:128<=(if Utf8.valid (r:Int)=true then(r:Int).toNat else Utf8.runeError):=by
  split
  ·simpa using h
  ·decide
 generalize(if Utf8.valid (r:Int)=true then(r:Int).toNat else Utf8.runeError)=c at hc
 simp only
 rw[if_neg (by omega)]
 split
 ·exact⟨_,rfl,Zz 2,by show 2<=4;decide,key _⟩
 ·split
  ·exact⟨_,rfl,by show 2<=3;decide,by show 3<=4;decide,key _⟩
  ·exact⟨_,rfl,by show 2<=4;decide,Zz 4,key _⟩
def Mu:List AV:=List.replicate 256 (.bool false)
def QW(cs:List UInt8):List AV:=cs.foldl (λL c=>L.set c.toNat (.bool true)) Mu
theorem oW(cs:List UInt8)(c:UInt8):QW (cs++[c])=(QW cs).set c.toNat (.bool true):=by
 unfold QW;rw[List.foldl_append];rfl
theorem Ix(cs:List UInt8):(QW cs).length=256:=by
 unfold QW
 have: ∀(cs:List UInt8) (L:List AV),L.length=256->(cs.foldl (λL c=>L.set c.toNat (.bool true)) L).length=256:=by
  intro cs
  induction cs with
  |nil=>intro L h;exact h
  |cons c cs ih=>intro L h;exact ih _ (by rw[Wx];exact h)
 exact this cs Mu (by unfold Mu;rw[Z5])
theorem iL(cs:List UInt8){x:UInt8}:(QW cs).getD x.toNat .unk=.bool (decide (x∈cs)):=by
 unfold QW
 have hx:=x.toNat_lt
 have: ∀(cs:List UInt8) (L:List AV) (b:Bool),L.length=256->L.getD x.toNat .unk=.bool b->(cs.foldl (λL c=>L.set c.toNat (.bool true)) L).getD x.toNat .unk=.bool (b||decide (x∈cs)):=by
  intro cs
  induction cs with
  |nil=>intro L b h h2;simpa using h2
  |cons c cs ih=>
   intro L b h h2
   have:=ih (L.set c.toNat (.bool true)) (b||decide (x=c)) (by rw[Wx];exact h) (by
    rw[Zh,List.getElem?_set]
    by_cases e:c.toNat=x.toNat
    ·have:c=x:=UJ.1 e
     subst this
     have hx':c.toNat<256:=hx
     simp[h,hx']
    ·have:x≠c:=λq=>e (by rw[q])
     rw[if_neg e,Ze this,Bool.or_false,<-Zh];exact h2)
   rw[Vc,this]
   congr 1
   cases b<;>simp[Ys]
 rw[this cs Mu false (by unfold Mu;rw[Z5]) (by unfold Mu;rw[Zh,Wp,if_pos hx];rfl),Bool.false_or]
def OV(d:Nat):UInt8:=UInt8.ofNat (48+d)
theorem Oa{d:Nat}(h:d<10):(OV d).toNat=48+d:=by
 unfold OV
 rw[UInt8.toNat_ofNat_of_lt' (show 48+d<UInt8.size by unfold UInt8.size;omega)]
def Fw:Nat->Nat->List UInt8
 |0,_=>[]
 |k+1,n=>Fw k (n/10)++[OV (n % 10)]
theorem M1: ∀k n,(Fw k n).length=k
 |0,_=>rfl
 |k+1,n=>by show(Fw k (n/10)++[OV (n % 10)]).length=_;rw[Zk,M1 k];rfl
theorem EE: ∀k n c,c∈Fw k n->48<=c.toNat∧c.toNat<=57
 |0,_,_,h=>by cases h
 |k+1,n,c,h=>by
  rcases ZD.1 h with h|h
  ·exact EE k _ c h
  ·have h:=Zv.1 h
   subst h
   rw[Oa (X7 _ (by decide))]
   have:=X7 n (show 0<10 by decide)
   omega
def Fu(l:List UInt8):Nat:=l.foldl (λn c=>10*n+(c.toNat - 48)) 0
theorem D3(l:List UInt8)(c:UInt8):Fu (l++[c])=10*Fu l+(c.toNat - 48):=by unfold Fu;rw[List.foldl_append];rfl
theorem D2: ∀k n,n<10^k->Fu (Fw k n)=n
 |0,n,h=>by simp at h;subst h;rfl
 |k+1,n,h=>by
  show Fu (Fw k (n/10)++[OV (n % 10)])=n
  rw[D3,D2 k (n/10) (by rw[VC] at h;omega),Oa (X7 _ (by decide))]
  omega
def Vy(n:Nat):Nat:=if n<10 then 1 else Vy (n/10)+1
theorem L4{n:Nat}(h:n<10):Vy n=1:=by rw[Vy,if_pos h]
theorem Ia{n:Nat}(h:10<=n):Vy n=Vy (n/10)+1:=by rw[Vy,if_neg (by omega)]
theorem PG(n:Nat):1<=Vy n:=by
 by_cases h:n<10
 ·rw[L4 h];exact Zz _
 ·rw[Ia (by omega)];omega
theorem zE: ∀k n,10^k<=n->n<10^(k+1)->Vy n=k+1
 |0,n,_,h=>L4 (by simpa using h)
 |k+1,n,h1,h2=>by
  have h3:10^(k+1)=10^k*10:=VC ..
  have h4:10^(k+1+1)=10^(k+1)*10:=VC ..
  have h5:1<=10^k:=Nat.one_le_pow _ _ (by decide)
  rw[Ia (by omega),zE k (n/10) (by omega) (by omega)]
theorem J6(n:Nat):n<10^Vy n:=by
 induction n using Nat.strongRecOn with
 |ind n ih=>
  by_cases h:n<10
  ·rw[L4 h];simpa using h
  ·rw[Ia (by omega),VC]
   have:=ih (n/10) (by omega)
   omega
theorem RN{n k:Nat}(hk:1<=k)(h:n<10^k):Vy n<=k:=by
 by_cases h0:n<10
 ·rw[L4 h0];exact hk
 ·obtain⟨j,hj⟩: ∃j,Vy n=j+1:=⟨Vy n - 1,by have:=PG n;omega⟩
  rw[hj]
  by_cases hlt:k<j+1
  ·have h1:10^j<=n:=by
    have: ∀n j,Vy n=j+1->10<=n->10^j<=n:=by
     intro n
     induction n using Nat.strongRecOn with
     |ind n ih=>
      intro j hj hn
      rw[Ia hn] at hj
      by_cases h2:n/10<10
      ·rw[L4 h2] at hj
       obtain rfl:j=1:=by omega
       simpa using hn
      ·obtain⟨i,rfl⟩: ∃i,j=i+1:=⟨j - 1,by have:=PG (n/10);omega⟩
       have:=ih (n/10) (by omega) i (by omega) (by omega)
       rw[VC];omega
    exact this n j hj (by omega)
   have h2:10^k<=10^j:=RU (by decide) (by omega)
   omega
  ·omega
def dec(n:Nat):List UInt8:=Fw (Vy n) n
theorem Qw(n:Nat):(dec n).length=Vy n:=M1 ..
theorem nE(n:Nat):Fu (dec n)=n:=D2 _ _ (J6 n)
theorem qC{n:Nat}{c:UInt8}(h:c∈dec n):48<=c.toNat∧c.toNat<=57:=EE _ _ _ h
theorem mP{n:Nat}(h:n<10):dec n=[OV n]:=by
 unfold dec;rw[L4 h];show []++[OV (n % 10)]=_;rw[YH h];rfl
theorem Zbi{n:Nat}(h:10<=n):dec n=dec (n/10)++[OV (n % 10)]:=by
 unfold dec;rw[Ia h];rfl
def N6(z:Int):List UInt8:=if z<0 then 45::dec z.natAbs else dec z.natAbs
section
open Go.Proofs N8
abbrev Zw(x:YF)(d:Yh)(n:D):D:=Za (Z4 x) d n
abbrev XJ(f:Vu)(os:List (Yh×YF))(d:Yh)(i b:Nat):PI:=⟨f,none,os,d,.free,i,b⟩
abbrev kI(n:Nat):YF:=k (nI .i64 n)
abbrev kB(b:Bool):YF:=k (.bool b)
abbrev rH(e:Nat)(l:List AV):Obj:=rG e 1 l 0 false true true
theorem SK{α:Type}(a:α): ∃b,a=b:=⟨a,rfl⟩
def QS:List AV:=List.replicate 512 (nI .u8 0)
def ZiL:List UInt8:=[108,101,110,32,111,117,116,32,111,102,32,114,97,110,103,101]
def ZiM:List UInt8:=[99,97,110,110,111,116,32,98,101,32,110,101,103,97,116,105,118,101]
def ZiN:List UInt8:=[98,121,116,101,115,58,32,110,101,103,97,116,105,118,101,32,82,101,112,101,97,116,32,99,111,117,110,116]
def ZeN:List UInt8:=[98,121,116,101,115,58,32,82,101,112,101,97,116,32,111,117,116,112,117,116,32,108,101,110,103,116,104,32,111,118,101,114,102,108,111,119]
def KB:List UInt8:=[48,49,50,51,52,53,54,55,56,57,97,98,99,100,101,102,103,104,105,106,107,108,109,110,111,112,113,114,115,116,117,118,119,120,121,122]
def SV:List UInt8:=[48,48,48,49,48,50,48,51,48,52,48,53,48,54,48,55,48,56,48,57,49,48,49,49,49,50,49,51,49,52,49,53,49,54,49,55,49,56,49,57,50,48,50,49,50,50,50,51,50,52,50,53,50,54,50,55,50,56,50,57,51,48,51,49,51,50,51,51,51,52,51,53,51,54,51,55,51,56,51,57,52,48,52,49,52,50,52,51,52,52,52,53,52,54,52,55,52,56,52,57,53,48,53,49,53,50,53,51,53,52,53,53,53,54,53,55,53,56,53,57,54,48,54,49,54,50,54,51,54,52,54,53,54,54,54,55,54,56,54,57,55,48,55,49,55,50,55,51,55,52,55,53,55,54,55,55,55,56,55,57,56,48,56,49,56,50,56,51,56,52,56,53,56,54,56,55,56,56,56,57,57,48,57,49,57,50,57,51,57,52,57,53,57,54,57,55,57,56,57,57]
def ZeO:List UInt8:=[115,116,114,99,111,110,118,58,32,105,108,108,101,103,97,108,32,65,112,112,101,110,100,73,110,116,47,70,111,114,109,97,116,73,110,116,32,98,97,115,101]
def xw:List UInt8:=[0,1,2,2,3,3,3,3,4,4,4,4,4,4,4,4,5,5,5,5,5,5,5,5,5,5,5,5,5,5,5,5,6,6,6,6,6,6,6,6,6,6,6,6,6,6,6,6,6,6,6,6,6,6,6,6,6,6,6,6,6,6,6,6,7,7,7,7,7,7,7,7,7,7,7,7,7,7,7,7,7,7,7,7,7,7,7,7,7,7,7,7,7,7,7,7,7,7,7,7,7,7,7,7,7,7,7,7,7,7,7,7,7,7,7,7,7,7,7,7,7,7,7,7,7,7,7,7,8,8,8,8,8,8,8,8,8,8,8,8,8,8,8,8,8,8,8,8,8,8,8,8,8,8,8,8,8,8,8,8,8,8,8,8,8,8,8,8,8,8,8,8,8,8,8,8,8,8,8,8,8,8,8,8,8,8,8,8,8,8,8,8,8,8,8,8,8,8,8,8,8,8,8,8,8,8,8,8,8,8,8,8,8,8,8,8,8,8,8,8,8,8,8,8,8,8,8,8,8,8,8,8,8,8,8,8,8,8,8,8,8,8,8,8,8,8,8,8,8,8,8,8,8,8,8,8]
def vD:CF:=⟨[(VE,none),(V5,none)],(Zg (Za (Z4 (kI 0)) st2<|Za (Z4 (k (.str []))) VK<|Zc) (Zg (Zg (Zw YX Ve<|Za (VD WA (k (.str [46,119,104,46,46,119,104,46,116,111,99])) Mw false) VT<|Zc) (Yi Wt (Zg (Za (Z4 (kI 4)) st2<|Za (Z4 (k (.str []))) VK<|Zc) YC) Zc)) (Zg (Zw YX VL<|Za (ZS 49 [Wi]) UO<|Zw WV XB<|Zc) (Zg (Zw XY X6<|Za (ZS 50 [XD]) Wg<|Zw XQ st2<|Zc) (Zg (Zw YX Wl<|Zw XY Wk<|Za (ZS 51 [XS,XG]) WE<|Zw X5 Vd<|Zc) (Zg (Za (Yz (k (.ptr 2 0))) WN<|Zw VE WJ<|Za (Mg VU .nilf false Wh X8) WZ<|Zw X2 W4<|Zw XY VA<|Za (OG WI Tryz.prog [Wv,WM]) VJ<|Zw Vl VK<|Zc) (Zg (Zg (Zw V5 Uq<|Za (ZS 52 [VY]) Uu<|Za (Qm VQ) Uv<|Zw VR Uw<|Ya VS false (Z4 VE) UE<|Ya VS false (VD Uz (kI 3) VU true) UN<|Ya VS false (Z4 V7) UF<|Ya Ud true (Z4 V5) UW<|Ya Ud true (VD V8 (k (.str [])) Mw false) Ti<|Ya VS false (Xn Ud VW (kB false)) Tn<|Za (Xn VS (kB true) Tm) T5<|Zw TO T6<|Ya TG false (Z4 VE) SB<|Ya TG false (VD T4 (kI 2) VU false) Rn<|Ya TG false (Z4 Sf) Rx<|Ya TH true (Z4 XY) QN<|Ya TH true (W1 Pc (some (kI 4)) none none) QO<|Ya TH true (ZS 53 [Qz]) QX<|Ya TH true (Qm QA) PP<|Ya TG false (Xn TH Ri (kB false)) P2<|Za (Xn TG (kB true) QU) P3<|Zw PX P4<|Ya RX false (Z4 X2) Ps<|Ya RX false (VD PC (k (.str [47])) Mw false) ON<|Za (Xn RX (kB true) QB) O0<|Zc) (Yi Oc (Zg (Za (Z4 (kI 0)) st2<|Za (Z4 (k (.str []))) VK<|Zc) YC) Zc)) (Zg (Zw VE O1<|Zw V5 O2<|Zw Od st2<|Zw Pd VK<|Zc) YC))))))))⟩
def c49:CF:=⟨[(VE,none)],(Zg (Za (Z4 (k (.str []))) st2<|Zc) (Zg (Zw YX VK<|Zw YX XB<|Za (ZS 56 [XY,(k (nI .u8 47))]) Vd<|Za (Xk X2 (kI 1)) Ve<|Za (W1 V5 (some WA) none none) VT<|Zw Wt st2<|Zc) YC))⟩
def c56:CF:=⟨[(XY,none)],(Zg (Za (Z4 (kI 0)) XB<|Zc) (Zg (Zw YX Vd<|Zw Wj Ve<|Za (ZS 87 [X2,WA]) VT<|Zw Wt XB<|Zc) YC))⟩
def I9:D:=(Zg (Zg (Zw X2 UO<|Za (Y8 WV (kI 0) Tp WT) X6<|Zc) (Yi XD Zc (Vs 0))) (Zg (YW 1 (Zg (Zw YX Wk<|Zw X2 WE<|Za (XR XG X5) WN<|Zw Wj WJ<|Za (VD Wh X8 VU false) WZ<|Zc) (Yi WI (Zg (Zw X2 W4<|Zw Wv XB<|Zc) YC) Zc))) (Zw X2 Wg<|Za (Vv XQ (kI 1)) Wl<|Zw XS Vd<|Zc)))
def c87:CF:=⟨[(XY,none)],(Zg (Za (Z4 (kI 0)) XB<|Zc) (Zg (Zg (Zw YX Ve<|Za (Wc WA) VT<|Za (Vv Wt (kI 1)) VL<|Zw Wi Vd<|Zc) (YW 0 (Vm I9))) (Zg (Za (Z4 (k (.int .i64 (.negSucc 0)))) XB<|Zc) YC)))⟩
def c50:CF:=⟨[(VE,none)],(Zg (Za (Z4 (kI 0)) st2<|Zc) (Zg (YW 0 (Zg (Zw YX XB<|Za (VD XY (k (.str [46,119,104,46,46,119,104,46,46,111,112,113])) Mw false) Vd<|Zw X2 VK<|Zc) (Yi V5 (Zg (Za (Z4 (kI 3)) st2<|Zc) YC) (Zg (Zw YX VT<|Za (ZS 80 [Wt,(k (.str [46,119,104,46]))]) VL<|Zw Wi Ve<|Zc) (Yi WA (Zg (Za (Z4 (kI 2)) st2<|Zc) YC) Zc))))) (Zg (Za (Z4 (kI 1)) st2<|Zc) YC)))⟩
def c80:CF:=⟨[(XY,none)],(Zg (Za (Z4 (kB false)) XB<|Zc) (Zg (Zw YX Vd<|Zw Wj Ve<|Za (ZS 109 [X2,WA]) VT<|Zw Wt XB<|Zc) YC))⟩
def fC:CF:=⟨[(XY,none)],(Zg (Za (Z4 (kB false)) XB<|Zc) (Zg (Zw YX Vd<|Za (Wc X2) Ve<|Zw Wj VT<|Za (Wc Wt) VL<|Za (Y8 WA Wi Tp WT) UO<|Zw WV X6<|Ya XD true (Z4 YX) Wg<|Ya XD true (Z4 Wj) Wl<|Ya XD true (Wc XS) Wk<|Ya XD true (W1 XQ none (some XG) none) WE<|Ya XD true (Z4 Wj) WN<|Ya XD true (VD X5 Wh Mw false) WJ<|Za (Xn XD X8 (kB false)) WZ<|Zw WI XB<|Zc) YC))⟩
def c51:CF:=⟨[(XY,none)],(Zg (Za (Z4 (k (.str []))) XB<|Zc) (Zg (Zw YX Vd<|Zw Wj Ve<|Za (ZS 81 [X2,WA]) VT<|Zw Wt XB<|Zc) YC))⟩
def c81:CF:=⟨[(XY,none)],(Zg (Za (Z4 (k (.str []))) XB<|Zc) (Zg (Zg (Zw YX Vd<|Zw Wj Ve<|Za (ZS 110 [X2,WA]) VT<|Zc) (Yi Wt (Zg (Zw YX VL<|Zw YX UO<|Za (Wc WV) X6<|Zw Wj Wg<|Za (Wc XQ) Wl<|Za (Vv XD XS) Wk<|Za (W1 Wi none (some XG) none) WE<|Zw X5 XB<|Zc) YC) Zc)) (Zg (Zw YX WN<|Zw Wh XB<|Zc) YC)))⟩
def fD:CF:=⟨[(XY,none)],(Zg (Za (Z4 (kB false)) XB<|Zc) (Zg (Zw YX Vd<|Za (Wc X2) Ve<|Zw Wj VT<|Za (Wc Wt) VL<|Za (Y8 WA Wi Tp WT) UO<|Zw WV X6<|Ya XD true (Z4 YX) Wg<|Ya XD true (Z4 YX) Wl<|Ya XD true (Wc XS) Wk<|Ya XD true (Z4 Wj) WE<|Ya XD true (Wc X5) WN<|Ya XD true (Vv XG Wh) WJ<|Ya XD true (W1 XQ (some X8) none none) WZ<|Ya XD true (Z4 Wj) W4<|Ya XD true (VD WI Wv Mw false) VA<|Za (Xn XD WM (kB false)) VJ<|Zw Vl XB<|Zc) YC))⟩
def Za7:CF:=⟨[(XY,none)],(Zg (Za (Z4 (k (.str []))) XB<|Zc) (Zg (Zw YX Vd<|Zw Wj Ve<|Za (Xk X2 WA) VT<|Zw Wt XB<|Zc) YC))⟩
def Za8:CF:=⟨[(XY,none)],(Zg (Za (Z4 (k (.str []))) XB<|Zc) (Zg (Zw YX Vd<|Zw Wj Ve<|Za (W1 WA (some (kI 4)) none none) VT<|Za (Xk X2 Wt) VL<|Zw Wi XB<|Zc) YC))⟩
def Za9:CF:=⟨[(XY,none)],(Zg (Za (Z4 (k (.str []))) XB<|Zc) (Zg (Zw YX Vd<|Za (ZS 51 [X2,(k (.str [47]))]) Ve<|Zw WA XB<|Zc) YC))⟩
def c52:CF:=⟨[(VE,none)],(Zg (Za (Z4 (kB false)) st2<|Zc) (Zg (Zw YX XB<|Za (ZS 82 [XY]) Vd<|Zw X2 VK<|Zc) (Zg (Zw YX Ve<|Za (Wc WA) VT<|Za (Y8 Wt (kI 4080) QV TN) VL<|Zw Wi UO<|Ya WV true (Z4 V5) X6<|Ya WV true (Wf XD) Wg<|Ya WV true (Y8 XQ (kI 255) Wd Xl) Wl<|Za (Xn WV XS (kB false)) Wk<|Zw XG WE<|Ya X5 true (Z4 V5) WN<|Ya X5 true (ZS 83 [Wh,(k (.func 84 [] []))]) WJ<|Ya X5 true (Qm X8) WZ<|Za (Xn X5 WI (kB false)) W4<|Zw Wv st2<|Zc) YC)))⟩
def c82:CF:=⟨[(VE,none)],(Zg (Za (Z4 (k .nils)) st2<|Zc) (Zg (Zg (Zw YX VK<|Za (VD V5 (k (.str [])) Mw false) XB<|Zc) (Yi XY (Zg (Za (Z4 (k .nils)) st2<|Zc) YC) Zc)) (Zg (Zw YX Vd<|Za (ZS 111 [X2,(k (.str [47]))]) Ve<|Zw WA st2<|Zc) YC)))⟩
def ZaS:CF:=⟨[(XY,none)],(Zg (Za (Z4 (k .nils)) XB<|Zc) (Zg (Zw YX Vd<|Zw Wj Ve<|Za (ZS 143 [X2,WA,(kI 0),(k (.int .i64 (.negSucc 0)))]) VT<|Zw Wt XB<|Zc) YC))⟩
def JD:D:=(Zg (Zg (Zw XD Rn<|Zw V5 Rx<|Za (Y8 Sf TH Wd Xl) QN<|Zc) (Yi Pc Zc (Vs 0))) (YW 1 (Zg (Zw YX QO<|Zw Wj QX<|Za (ZS 91 [Qz,QA]) PP<|Zw Ri Wg<|Zc) (Zg (Zg (Zw XQ P2<|Za (Y8 QU (kI 0) Wd Xl) P3<|Zc) (Yi PX (Vs 0) Zc)) (Zg (Zw WV P4<|Zw XD Ps<|Zw YX ON<|Zw XQ O0<|Zw VE O1<|Za (Xk Oc Od) O2<|Za (W1 QB none (some Pd) none) Nw<|Za (WW RX PC 1) Nx<|Za (Xr OD NH 1) d0<|Zc) (Zg (Zw YX Mo<|Zw XQ MN<|Zw Wj MO<|Za (Wc N9) Mq<|Za (Xk Nq NI) Mr<|Za (W1 MJ (some Ma) none none) MP<|Zw Lb st0<|Zc) (Zw XD MQ<|Za (Xk MK (kI 1)) MR<|Zw ML X6<|Zc)))))))
def Za0:CF:=⟨[(Wi,none)],(Zg (Za (Z4 (k .nils)) VL<|Zc) (Zg (Zg (Zw V5 Wl<|Za (VD XS (kI 0) VU false) Wk<|Zc) (Yi XG (Zg (Za (Z4 (k .nils)) VL<|Zc) YC) Zc)) (Zg (Zg (Zw Wj WE<|Za (VD X5 (k (.str [])) Mw false) WN<|Zc) (Yi Wh (Zg (Zw YX WJ<|Zw V5 WZ<|Za (ZS 166 [X8,WI]) W4<|Zw Wv VL<|Zc) YC) Zc)) (Zg (Zg (Zw V5 VA<|Za (Y8 WM (kI 0) Wd Xl) VJ<|Zc) (Yi Vl (Zw YX Uq<|Zw Wj Uu<|Za (ZS 167 [VY,VQ]) Uv<|Za (Xk VR (kI 1)) Uw<|Zw VS VK<|Zc) Zc)) (Zg (Zw V5 UE<|Zw YX UN<|Za (Wc V7) UF<|Za (Xk Ud (kI 1)) UW<|Za (Si false [Uz,V8]) Ti<|Zw VW VK<|Zc) (Zg (Zw V5 Tn<|Za (Lx 9 1 16 [(.str [])] Tm Tm) T5<|Zw TO UO<|Zc) (Zg (Zw V5 T6<|Za (Vv TG (kI 1)) SB<|Zw T4 VK<|Zc) (Zg (Za (Z4 (kI 0)) X6<|Zc) (Zg (YW 0 (Vm JD)) (Zg (Zw WV LN<|Zw XD LP<|Zw YX MT<|Za (WW OW Lc 1) LQ<|Za (Xr Mb OX 1) d0<|Zc) (Zg (Zw WV LR<|Zw XD LS<|Za (Xk Kk (kI 1)) Jl<|Za (T0 1 Ld none (some K1) none) Jm<|Zw NJ VL<|Zc) YC)))))))))))⟩
def fO:D:=(YW 1 (Zg (Zw YX VJ<|Zw Wj Uq<|Za (ZS 91 [Vl,VY]) Uu<|Zw VQ Ve<|Zc) (Zg (Zg (Zw WA Uv<|Za (VD VR (k (.int .i64 (.negSucc 0))) VU false) Uw<|Zc) (Yi VS (Zg (Zw X2 UE<|Zw Uz XB<|Zc) YC) Zc)) (Zg (Zw X2 UN<|Za (Xk V7 (kI 1)) UF<|Zw Ud Vd<|Zc) (Zw YX UW<|Zw WA Ti<|Zw Wj Tn<|Za (Wc Tm) T5<|Za (Xk VW TO) T6<|Za (W1 V8 (some TG) none none) SB<|Zw T4 st0<|Zc)))))
def Za5:CF:=⟨[(XY,none)],(Zg (Za (Z4 (kI 0)) XB<|Zc) (Zg (Zg (Zw Wj VT<|Za (Wc Wt) VL<|Za (VD Wi (kI 0) VU false) UO<|Zc) (Yi WV (Zg (Zw YX X6<|Za (ZS 189 [XD]) Wg<|Za (Xk XQ (kI 1)) Wl<|Zw XS XB<|Zc) YC) Zc)) (Zg (Zg (Zw Wj Wk<|Za (Wc XG) WE<|Za (VD X5 (kI 1) VU false) WN<|Zc) (Yi Wh (Zg (Zw YX WJ<|Zw Wj WZ<|Za (XR WI (kI 0)) W4<|Za (ZS 191 [X8,Wv]) VA<|Zw WM XB<|Zc) YC) Zc)) (Zg (Za (Z4 (kI 0)) Vd<|Zc) (YW 0 (Vm fO))))))⟩
def c91:CF:=⟨[(XY,none)],(Zg (Za (Z4 (kI 0)) XB<|Zc) (Zg (Zw YX Vd<|Zw Wj Ve<|Za (ZS 122 [X2,WA]) VT<|Zw Wt XB<|Zc) YC))⟩
def fJ:D:=(Zg (Zg (Zw Wi MR<|Zw WV LN<|Za (Y8 ML OW Wd Xl) LP<|Zc) (Yi Lc Zc (Vs 1))) (YW 2 (Zg (Zg (Zw YX MT<|Zw Wi LQ<|Za (XR OX Mb) LR<|Zw WA LS<|Za (VD Ld Kk VU true) Jl<|Zc) (Yi K1 (Zg (Zw YX Jm<|Zw Wi Jn<|Za (Xk NK (kI 1)) Jo<|Zw WV Gd<|Za (W1 NJ (some Le) (some Hn) none) Ge<|Zw WA Gf<|Za (ZS 86 [Ho,K2]) Gg<|Zw JW Wg<|Zc) (Zg (Zg (Zw XQ IJ<|Za (Y8 OE (kI 0) Wd Xl) IK<|Zc) (Yi JX (Zg (Za (Z4 (k (.int .i64 (.negSucc 0)))) XB<|Zc) YC) Zc)) (Zw Wi IL<|Zw XQ IM<|Za (Xk JZ (kI 1)) Gh<|Za (Xk JY Hp) FH<|Zw Fx VL<|Zc))) Zc)) (Zg (Zg (Zw YX FI<|Zw Wi Gi<|Za (Xk Kl (kI 1)) Gj<|Za (XR Lf Hq) Gk<|Zw Wt Gl<|Za (VD Ht Hu VU false) Gm<|Zw Hv Gn<|Ya PY true (Z4 YX) FJ<|Ya PY true (Z4 Wi) FK<|Ya PY true (Z4 Wi) FM<|Ya PY true (Z4 X2) FN<|Ya PY true (Xk Fz J0) FO<|Ya PY true (W1 Lg (some Fy) (some FA) none) DP<|Ya PY true (Z4 Wj) DQ<|Ya PY true (VD Hw EZ Mw false) DS<|Za (Xn PY Km (kB false)) DT<|Zc) (Yi E0 (Zg (Zw Wi Cy<|Zw Ci XB<|Zc) YC) Zc)) (Zg (Zw Wi Cz<|Za (Xk Cj (kI 1)) CA<|Zw J1 VL<|Zc) (Zg (Zw XD CB<|Za (Xk Ck (kI 1)) ye<|Zw xg X6<|Zc) (Zg (Zw X2 yf<|Za (Yz (k (.ptr 4 0))) IF<|Za (Y8 E1 M6 QV TN) IG<|Zw JU G9<|Ya Mx true (Z4 XD) Fa<|Ya Mx true (Z4 Wi) Fb<|Ya Mx true (ZS 145 [Nd]) Fc<|Ya Mx true (Y8 EU M7 Tq Vn) Fd<|Za (Xn Mx Ky (kB false)) Fe<|Zc) (Yi M8 (Zg (Zw YX DN<|Zw Wi DO<|Za (W1 Bp (some EV) none none) Ff<|Zw Wj Fg<|Za (ZS 146 [EW,My]) Fh<|Zw GM Wl<|Zc) (Zg (Zg (Zw XS Fi<|Za (Y8 GN (kI 0) Tp WT) Fj<|Zc) (Yi M9 (Zg (Zw XS Fk<|Zw Wi Fl<|Za (Xk GO GP) Fm<|Zw EX XB<|Zc) YC) Zc)) (Zg (Za (Z4 (k (.int .i64 (.negSucc 0)))) XB<|Zc) YC))) (Zg (Zw X2 Fo<|Za (Yz (k (.ptr 4 0))) Fp<|Za (Y8 GQ GR Tq Vn) Fq<|Zw GS Fr<|Ya NF true (Z4 XD) Fs<|Ya NF true (Z4 Wi) IH<|Ya NF true (Lz GU (k (nI .u64 4))) II<|Ya NF true (Xk (kI 4) NG) Ag<|Ya NF true (Y8 EY Bq Tp WT) Ah<|Za (Xn NF Br (kB false)) Ai<|Zw Bs Aj<|Ya JV true (Z4 Wi) Ak<|Ya JV true (Z4 WV) Al<|Ya JV true (Y8 Bt La Wd Xl) Am<|Za (Xn JV Bu (kB false)) An<|Zc) (Yi Mz (Zg (Zw YX Ao<|Zw Wi Ap<|Za (W1 Bv (some Bw) none none) Aq<|Zw Wj wH<|Za (ZS 152 [Bx,y5]) wI<|Zw y6 Wk<|Zc) (Zg (Zg (Zw XG wJ<|Za (Y8 y7 (kI 0) Wd Xl) wK<|Zc) (Yi y8 (Zg (Za (Z4 (k (.int .i64 (.negSucc 0)))) XB<|Zc) YC) Zc)) (Zg (Zw Wi wL<|Zw XG wM<|Za (Xk y9 xa) wN<|Zw xb XB<|Zc) YC))) Zc))))))))))
def yG:CF:=⟨[(XY,none)],(Zg (Za (Z4 (kI 0)) XB<|Zc) (Zg (Zw Wj WE<|Za (Wc X5) WN<|Zw Wh Vd<|Zc) (Zg (YW 0 (Zg (Zw X2 WZ<|Za (VD WI (kI 0) VU false) W4<|Zw Wv VA<|Ya WM false (Z4 Wj) VJ<|Ya WM false (Z4 YX) Uq<|Ya WM false (VD Vl VY Mw false) Uu<|Za (Xn WM (kB true) VQ) Uv<|Zw VR WJ<|Zc) (Yi X8 (Zg (Za (Z4 (kI 0)) XB<|Zc) YC) (Zg (Zw X2 UE<|Za (VD Uz (kI 1) VU false) UN<|Zw V7 Uw<|Zc) (Yi VS (Zg (Zw YX UF<|Zw Wj UW<|Za (XR V8 (kI 0)) Ti<|Za (ZS 86 [Ud,VW]) Tn<|Zw Tm XB<|Zc) YC) (Zg (Zw X2 T6<|Zw YX SB<|Za (Wc T4) Rn<|Za (Y8 TG Sf Tp WT) Rx<|Zw TH T5<|Zc) (Yi TO (Zg (Za (Z4 (k (.int .i64 (.negSucc 0)))) XB<|Zc) YC) (Zg (Zw X2 QO<|Za (Yz (k (.ptr 4 0))) QX<|Za (Y8 Qz QA QV TN) PP<|Zw Ri P2<|Ya QU true (Z4 YX) P3<|Ya QU true (Wc PX) P4<|Ya QU true (Y8 RX (kI 64) QV TN) Ps<|Za (Xn QU PC (kB false)) ON<|Zw QB QN<|Zc) (Yi Pc (Zg (Zw YX O0<|Zw Wj O1<|Za (ZS 146 [Oc,Od]) O2<|Zw Pd XB<|Zc) YC) Zc))))))))) (Zg (Zw Wj Nw<|Za (XR NH (kI 0)) Nx<|Zw OD Ve<|Zc) (Zg (Zw Wj Mo<|Za (XR MJ (kI 1)) MN<|Zw Nq VT<|Zc) (Zg (Za (Z4 (kI 0)) VL<|Zc) (Zg (Zw YX MO<|Za (Wc N9) Mq<|Zw X2 Mr<|Za (Vv NI Ma) MP<|Za (Xk Lb (kI 1)) MQ<|Zw MK UO<|Zc) (Zg (Za (Z4 (kI 0)) X6<|Zc) (Zg (YW 1 (Vm fJ)) (Zg (Za (Z4 (k (.int .i64 (.negSucc 0)))) XB<|Zc) YC))))))))))⟩
def c83:CF:=⟨[(XY,none)],(Zg (Za (Z4 (kB false)) XB<|Zc) (Zg (Zw YX Vd<|Zw Wj Ve<|Za (ZS 112 [X2,WA]) VT<|Za (Y8 Wt (kI 0) Tp WT) VL<|Zw Wi XB<|Zc) YC))⟩
def LY:D:=(Zg (Za (Y8 Wi Wt Wd Xl) UO<|Zc) (Zg (Yi WV Zc (Vs 0)) (Zg (YW 1 (Zg (Zw Wi X6<|Zw XD Vd<|Zc) (Zg (Zw Wj Wg<|Zw YX Wl<|Zw X2 Wk<|Za (WW XS XG 1) WE<|Za (Yz X5) WN<|Za (OG XQ Tryz.prog [Wh]) WJ<|Zc) (Yi X8 (Zg (Zw X2 WZ<|Zw WI XB<|Zc) YC) Zc)))) (Za (Xk Wi (kI 1)) W4<|Zw Wv VL<|Zc))))
def ZaT:CF:=⟨[(XY,none)],(Zg (Za (Z4 (kI 0)) XB<|Zc) (Zg (Zg (Zw YX Ve<|Za (Wf WA) VT<|Za (Z4 (kI 0)) VL<|Zc) (YW 0 (Vm LY))) (Zg (Za (Z4 (k (.int .i64 (.negSucc 0)))) XB<|Zc) YC)))⟩
def c84:CF:=⟨[(VE,none)],(Zg (Za (Z4 (kB false)) st2<|Zc) (Zg (Zw YX VK<|Za (ZS 53 [V5]) XB<|Za (Qm XY) Vd<|Zw X2 st2<|Zc) YC))⟩
def c53:CF:=⟨[(VE,none)],(Zg (Za (Z4 (kB false)) st2<|Zc) (Zg (Zw YX VK<|Za (VD V5 (k (.str [])) Mw true) XB<|Zw XY Vd<|Ya X2 true (Z4 YX) Ve<|Ya X2 true (Wc WA) VT<|Ya X2 true (Y8 Wt (kI 251) QV TN) VL<|Za (Xn X2 Wi (kB false)) UO<|Zw WV X6<|Ya XD true (Z4 YX) Wg<|Ya XD true (VD XQ (k (.str [46])) Mw true) Wl<|Za (Xn XD XS (kB false)) Wk<|Zw XG WE<|Ya X5 true (Z4 YX) WN<|Ya X5 true (VD Wh (k (.str [46,46])) Mw true) WJ<|Za (Xn X5 X8 (kB false)) WZ<|Zw WI W4<|Ya Wv true (Z4 YX) VA<|Ya Wv true (ZS 54 [WM,(k (.str [47,0]))]) VJ<|Ya Wv true (Qm Vl) Uq<|Za (Xn Wv VY (kB false)) Uu<|Zw VQ Uv<|Ya VR true (Z4 YX) Uw<|Ya VR true (ZS 80 [VS,(k (.str [46,119,104,46]))]) UE<|Ya VR true (Qm Uz) UN<|Za (Xn VR V7 (kB false)) UF<|Zw Ud st2<|Zc) YC))⟩
def c54:CF:=⟨[(XY,none)],(Zg (Za (Z4 (kB false)) XB<|Zc) (Zg (Zw YX Vd<|Zw Wj Ve<|Za (ZS 85 [X2,WA]) VT<|Za (Y8 Wt (kI 0) Tp WT) VL<|Zw Wi XB<|Zc) YC))⟩
def I8:D:=(Zg (Zg (Zw Wi SB<|Zw YX Rn<|Za (Wc Sf) Rx<|Za (Y8 T4 TH Wd Xl) QN<|Zc) (Yi Pc Zc (Vs 0))) (Zg (YW 1 (Zg (Zw YX PP<|Zw Wi P2<|Za (XR Ri QU) P3<|Za (ZS 116 [WA,PX]) P4<|Zc) (Yi RX (Zg (Zw Wi Ps<|Zw PC XB<|Zc) YC) Zc))) (Zw Wi QO<|Za (Xk Qz (kI 1)) QX<|Zw QA VL<|Zc)))
def KS:D:=(Zg (Za (rE Oc) O1<|Za (Xw Od 0) O2<|Zc) (Zg (Yi Pd Zc (Vs 2)) (YW 3 (Zg (Za (Xw Od 1) Nw<|Za (Xw Od 2) Nx<|Zw NH UO<|Zw OD X6<|Zc) (Zg (Zw Wj Mo<|Zw XD MN<|Za (ZS 113 [MJ,Nq]) MO<|Za (Y8 N9 (kI 0) Tp WT) Mq<|Zc) (Yi NI (Zg (Zw WV Mr<|Zw Ma XB<|Zc) YC) Zc))))))
def c85:CF:=⟨[(XY,none)],(Zg (Za (Z4 (kI 0)) XB<|Zc) (Zg (Zg (Zw Wj Wg<|Za (VD XQ (k (.str [])) Mw false) Wl<|Zc) (Yi XS (Zg (Za (Z4 (k (.int .i64 (.negSucc 0)))) XB<|Zc) YC) Zc)) (Zg (Zg (Zw Wj Wk<|Za (Wc XG) WE<|Za (VD X5 (kI 1) VU false) WN<|Zc) (Yi Wh (Zg (Zw Wj WJ<|Za (XR X8 (kI 0)) WZ<|Za (Sg WI .i32) W4<|Zw Wv Vd<|Zc) (Zg (Zg (Zw X2 VA<|Za (Y8 WM (k (nI .i32 128)) Tp WT) VJ<|Zc) (Yi Vl (Za (Z4 (k (nI .i32 65533))) Vd<|Zc) Zc)) (Zg (Zw YX Uq<|Zw X2 Uu<|Za (ZS 113 [VY,VQ]) Uv<|Zw VR XB<|Zc) YC))) Zc)) (Zg (Zg (Zw YX Uw<|Za (Wc VS) UE<|Za (ZS 114 [Uz]) UN<|Zc) (Yi V7 (Zg (Zw Wj UW<|Za (ZS 115 [V8]) Ti<|Zw VW UF<|Za (Xw Ud 0) Tn<|Za (Xw Ud 1) T5<|Za (V9 169 Mu) Ve<|Za (Xr WA Tm 256) d0<|Zw TO VT<|Zc) (Zg (Zw Wt T6<|Zc) (Yi TG (Zg (Zg (Za (Z4 (kI 0)) VL<|Zc) (YW 0 (Vm I8))) (Zg (Za (Z4 (k (.int .i64 (.negSucc 0)))) XB<|Zc) YC)) Zc))) Zc)) (Zg (Zg (Zw YX ON<|Za (F0 QB) O0<|Zc) (YW 2 (Vm KS))) (Zg (Za (Z4 (k (.int .i64 (.negSucc 0)))) XB<|Zc) YC))))))⟩
def ZaU:CF:=⟨[(VE,none)],(Zg (Za (Z4 (kB false)) st2<|Zc) (Zg (Zw YX VK<|Za (Y8 V5 (kI 8) Tq Vn) XB<|Zw XY st2<|Zc) YC))⟩
def JA:D:=(Zg (Zg (Zw XY Ve<|Zw YX VT<|Za (Wc Wt) VL<|Za (Y8 WA Wi Wd Xl) UO<|Zc) (Yi WV Zc (Vs 0))) (Zg (YW 1 (Zg (Zw YX Wl<|Zw XY Wk<|Za (XR XS XG) WE<|Zw X5 Vd<|Zc) (Zg (Zg (Zw X2 WN<|Za (Y8 Wh (k (nI .u8 128)) Tp WT) WJ<|Zc) (Yi X8 (Zg (Za (To VE 256) WZ<|Za (Xr VE WI 256) d0<|Za (Z4 (kB false)) VK<|Zc) YC) Zc)) (Zw X2 W4<|Za (PH VE Wv 256 1) VA<|Za (Xr WM (kB true) 1) d0<|Zc)))) (Zw XY X6<|Za (Xk XD (kI 1)) Wg<|Zw XQ XB<|Zc)))
def ZaV:CF:=⟨[(VE,some (256,true)),(V5,none)],(Zg (Za (V9 169 Mu) st2<|Za (Z4 (kB false)) VK<|Zc) (Zg (Zg (Za (Z4 (kI 0)) XB<|Zc) (YW 0 (Vm JA))) (Zg (Za (To VE 256) VJ<|Za (Xr VE Vl 256) d0<|Za (Z4 (kB true)) VK<|Zc) YC)))⟩
def ZaW:CF:=⟨[(XY,none)],(Zg (Za (Z4 (kB false)) XB<|Zc) (Zg (Zw YX Vd<|Zw Wj Ve<|Za (UL X2) VT<|Za (PH Wt WA 256 1) VL<|Za (Yz Wi) UO<|Zw WV XB<|Zc) YC))⟩
def Jz:D:=(Zg (Za (rE sO) Zar<|Za (Xw sP 0) Zas<|Zc) (Zg (Yi ay Zc (Vs 9)) (YW 10 (Zg (Za (Xw sP 1) Zat<|Za (Xw sP 2) Zau<|Zw az Vd<|Zw aA Ve<|Zc) (Zg (Zw WA Zav<|Za (VD aB (k (nI .i32 65533)) VU false) Zaw<|Zc) (Yi aC (Zg (Zw X2 Zax<|Zw aD XB<|Zc) YC) Zc))))))
def fE:D:=(Zg (Zg (Zw XS Nw<|Zw Wt Nx<|Za (Wc OD) Mo<|Za (Y8 NH MJ Wd Xl) MN<|Zc) (Yi Nq Zc (Vs 3))) (Zg (YW 4 (Zg (Vj [XJ (Z4 YX) [(st0,YX)] Mr 0 0,XJ (Z4 WV) [(UO,WV)] MP 1 0,XJ (Z4 XS) [(Wl,XS)] MQ 2 0,XJ (Vv Lb MK) [(MP,Lb),(MQ,MK)] MR 3 6,XJ (XR Ma ML) [(Mr,Ma),(MR,ML)] LN 4 15,XJ (Z4 Wt) [(VT,Wt)] LP 5 0,XJ (Z4 Wi) [(VL,Wi)] MT 6 0,XJ (Z4 XS) [(Wl,XS)] LQ 7 0,XJ (Vv OX Mb) [(MT,OX),(LQ,Mb)] LR 8 192,XJ (XR Lc Ld) [(LP,Lc),(LR,Ld)] LS 9 480,XJ (VD OW Kk VU true) [(LN,OW),(LS,Kk)] Jl 10 1023]) (Yi K1 Qu Zc))) (Zw XS MO<|Za (Xk N9 (kI 1)) Mq<|Zw NI Wl<|Zc)))
def AT:D:=(Zg (Zg (Zw WV Uv<|Zw YX Uw<|Za (Wc VS) UE<|Za (Y8 VR Uz Wd Xl) UN<|Zc) (Yi V7 Zc (Vs 1))) (YW 2 (Zg (Zg (Vj [XJ (Z4 YX) [(st0,YX)] UF 0 0,XJ (Z4 WV) [(UO,WV)] UW 1 0,XJ (XR Ud V8) [(UF,Ud),(UW,V8)] Ti 2 3,XJ (Z4 Wt) [(VT,Wt)] Tn 3 0,XJ (Z4 Wi) [(VL,Wi)] T5 4 0,XJ (XR Tm TO) [(Tn,Tm),(T5,TO)] T6 5 24,XJ (VD VW TG VU true) [(Ti,VW),(T6,TG)] SB 6 63]) (Yi T4 (Zg (Vj [XJ (Z4 YX) [(st0,YX)] Rn 0 0,XJ (Z4 WV) [(UO,WV)] Rx 1 0,XJ (Xk TH (kI 1)) [(Rx,TH)] QN 2 2,XJ (W1 Sf (some Pc) none none) [(Rn,Sf),(QN,Pc)] QO 3 7,XJ (Z4 Wt) [(VT,Wt)] QX 4 0,XJ (Z4 Wi) [(VL,Wi)] PP 5 0,XJ (XR QA Ri) [(QX,QA),(PP,Ri)] P2 6 48,⟨ZS 55 [Qz,QU],none,[(QO,Qz),(P2,QU)],P3,.eff,7,127⟩,⟨Z4 PX,none,[(P3,PX)],Wg,.eff,8,255⟩]) (Zg (Zg (Zw XQ P4<|Za (Y8 RX (kI 0) Wd Xl) Ps<|Zc) (Yi PC (Zg (Za (Z4 (k (.int .i64 (.negSucc 0)))) XB<|Zc) YC) Zc)) (Zw WV ON<|Zw XQ O0<|Za (Xk Oc (kI 1)) O1<|Za (Xk QB Od) O2<|Zw Pd UO<|Zc))) Zc)) (Zg (Zg (Za (Z4 (kI 1)) Wl<|Zc) (YW 3 (Vm fE))) (Zg (Zg (Zw WV Jm<|Zw Wi Jn<|Za (Vv NJ NK) Jo<|Zw Le XB<|Zc) YC) (Zg Zc (Zg (Zw XD Gd<|Za (Xk Hn (kI 1)) Ge<|Zw Ho X6<|Zc) (Zg (Zw WV Gf<|Za (Xk K2 (kI 1)) Gg<|Zw JW UO<|Zc) (Zg (Za (Z4 (kB true)) IJ<|Ya OE true (Z4 XD) IK<|Ya OE true (Z4 WV) IL<|Ya OE true (ZS 145 [JY]) IM<|Ya OE true (Y8 JX JZ Tq Vn) Gh<|Za (Xn OE Hp (kB false)) FH<|Zw Fx FI<|Ya Lf true (Z4 WV) Gi<|Ya Lf true (Z4 YX) Gj<|Ya Lf true (Wc Hq) Gk<|Ya Lf true (Y8 Kl Ht Wd Xl) Gl<|Za (Xn Lf Hu (kB false)) Gm<|Zw Hv Gn<|Ya PY false (Z4 (kB false)) FJ<|Ya Lg true (Z4 XD) FK<|Ya Lg true (Z4 WV) FM<|Ya Lg true (Lz Fz (k (nI .u64 4))) FN<|Ya Lg true (Xk (kI 4) J0) FO<|Ya Lg true (Y8 Fy FA Tp WT) DP<|Ya PY false (Xn Lg Hw (kB false)) DQ<|Ya PY false (Z4 EZ) DS<|Ya Km true (Z4 WV) DT<|Ya Km true (Z4 YX) Cy<|Ya Km true (Wc Ci) Cz<|Ya Km true (Y8 E0 Cj Wd Xl) CA<|Ya PY false (Xn Km J1 (kB false)) CB<|Za (Xn PY (kB true) Ck) ye<|Zc) (Yi xg Qu Zc))))))))))
def fF:D:=(Zg (Zg (Zw X8 wL<|Zw Wt wM<|Za (Wc xa) wN<|Za (Y8 y9 xb Wd Xl) r6<|Zc) (Yi sM Zc (Vs 7))) (Zg (YW 8 (Zg (Vj [XJ (Z4 YX) [(st0,YX)] Ar 0 0,XJ (Z4 WV) [(UO,WV)] As 1 0,XJ (Z4 X8) [(WJ,X8)] Au 2 0,XJ (Vv Bz BA) [(As,Bz),(Au,BA)] Av 3 6,XJ (XR By BB) [(Ar,By),(Av,BB)] Aw 4 15,XJ (Z4 Wt) [(VT,Wt)] Ax 5 0,XJ (Z4 Wi) [(VL,Wi)] Ay 6 0,XJ (Z4 X8) [(WJ,X8)] Az 7 0,XJ (Vv BE BF) [(Ay,BE),(Az,BF)] AA 8 192,XJ (XR BD BG) [(Ax,BD),(AA,BG)] AB 9 480,XJ (VD BC BH VU true) [(Aw,BC),(AB,BH)] wP 10 1023]) (Yi xd (Vs 6) Zc))) (Zw X8 r7<|Za (Xk sN (kI 1)) wO<|Zw xc WJ<|Zc)))
def fG:D:=(Zg (Zg (Zw WV Fr<|Zw YX Fs<|Za (Wc EY) IH<|Za (Y8 NF GU Wd Xl) II<|Zc) (Yi NG Zc (Vs 5))) (Zg (YW 6 (Zg (Zw YX Ai<|Zw WV Aj<|Za (XR Bs JV) Ak<|Zw X5 Al<|Za (VD Bt La VU false) Am<|Zw Bu An<|Ya Mz true (Z4 YX) Ao<|Ya Mz true (Z4 WV) Ap<|Ya Mz true (Vv Bw (kI 1)) Aq<|Ya Mz true (XR Bv Bx) wH<|Ya Mz true (Z4 Wh) wI<|Ya Mz true (VD y5 y6 VU false) wJ<|Za (Xn Mz y7 (kB false)) wK<|Zc) (Yi y8 (Zg (Zg (Za (Z4 (kI 2)) WJ<|Zc) (YW 7 (Vm fF))) (Zg (Zw WV wQ<|Zw Wi iS<|Za (Vv xe lL) iT<|Zw lM XB<|Zc) YC)) Zc))) (Zw WV Ag<|Za (Xk Bq (kI 1)) Ah<|Zw Br UO<|Zc)))
def vz:CF:=⟨[(XY,none)],(Zg (Za (Z4 (kI 0)) XB<|Zc) (YW 0 (Zg (Zw Wj iV<|Za (Y8 (k (nI .i32 0)) lO QV TN) iW<|Zw lP iX<|Ya xf true (Z4 Wj) iY<|Ya xf true (Y8 lQ (k (nI .i32 128)) Wd Xl) iZ<|Za (Xn xf lR (kB false)) i6<|Zw lS iU<|Zc) (Yi lN (Zg (Zw YX Zai<|Zw Wj Zaj<|Za (Sg aj .u8) Zak<|Za (ZS 55 [ai,am]) Zal<|Zw an XB<|Zc) YC) (Zg (Zw Wj Zan<|Za (VD au (k (nI .i32 65533)) VU false) Zao<|Zw aw Zam<|Zc) (Yi aq (Zg (Zg (Zw YX Zap<|Za (F0 ax) Zaq<|Zc) (YW 9 (Vm Jz))) (Zg (Za (Z4 (k (.int .i64 (.negSucc 0)))) XB<|Zc) YC)) (Zg (Zw Wj Zaz<|Za (ZS 144 [aF]) ZaA<|Za (Qm aG) ZaB<|Zw aH Zay<|Zc) (Yi aE (Zg (Za (Z4 (k (.int .i64 (.negSucc 0)))) XB<|Zc) YC) (Zg (Zw Wj WZ<|Za (rF WI) W4<|Zw Wv VT<|Zc) (Zg (Zw Wt VA<|Za (Wc WM) VJ<|Za (Vv Vl (kI 1)) Uq<|Zw VY VL<|Zc) (Zg (Zw Wi Uu<|Zw VQ UO<|Zc) (Zg (Za (Z4 (kI 0)) X6<|Zc) (Zg (YW 1 (Vm AT)) (Zg (Zg (Za (Z4 (k (.int .i64 (.negSucc 0)))) XB<|Zc) YC) (Zg Zc (Zg (Yi (kB true) (Zg (Zw YX yf<|Zw WV IF<|Zw Wi IG<|Za (Vv M6 JU) G9<|Za (W1 E1 (some Mx) none none) Fa<|Zw Wj Fb<|Za (rF Nd) Fc<|Za (ZS 146 [EU,M7]) Fd<|Zw Ky Wk<|Zc) (Zg (Zw XG Fe<|Za (Y8 M8 (kI 0) Tp WT) DN<|Zc) (Yi Bp (Zg (Zw WV DO<|Zw XG Ff<|Za (Xk EV EW) Fg<|Zw Wi Fh<|Za (Vv My GM) Fi<|Zw GN XB<|Zc) YC) Zc))) (Zg (Zw Wt Fj<|Zw Wi Fk<|Za (XR M9 GO) Fl<|Zw GP WE<|Zc) (Zg (Zw Wt Fm<|Zw Wi Fo<|Za (Vv GQ (kI 1)) Fp<|Za (XR EX GR) Fq<|Zw GS WN<|Zc) (Zg Zc (YW 5 (Vm fG)))))) (Zg (Za (Z4 (k (.int .i64 (.negSucc 0)))) XB<|Zc) YC)))))))))))))))))⟩
def mh:CF:=⟨[(VE,none)],(Zg (Za (Z4 (kB false)) st2<|Zc) (Zg (YW 0 (Zg (Zw YX XB<|Za (Y8 (k (nI .i32 0)) XY QV TN) Vd<|Zw X2 Ve<|Ya WA true (Z4 YX) VT<|Ya WA true (Y8 Wt (k (nI .i32 55296)) Wd Xl) VL<|Za (Xn WA Wi (kB false)) UO<|Zw WV VK<|Zc) (Yi V5 (Zg (Za (Z4 (kB true)) st2<|Zc) YC) (Zg (Zw YX Wg<|Za (Y8 (k (nI .i32 57343)) XQ Wd Xl) Wl<|Zw XS Wk<|Ya XG true (Z4 YX) WE<|Ya XG true (Y8 X5 (k (nI .i32 1114111)) QV TN) WN<|Za (Xn XG Wh (kB false)) WJ<|Zw X8 X6<|Zc) (Yi XD (Zg (Za (Z4 (kB true)) st2<|Zc) YC) Zc))))) (Zg (Za (Z4 (kB false)) st2<|Zc) YC)))⟩
def c55:CF:=⟨[(XY,none)],(Zg (Za (Z4 (kI 0)) XB<|Zc) (Zg (Zw YX Vd<|Zw Wj Ve<|Za (ZS 86 [X2,WA]) VT<|Zw Wt XB<|Zc) YC))⟩
def c86:CF:=⟨[(XY,none)],(Zg (Za (Z4 (kI 0)) XB<|Zc) (Zg (Zw YX Vd<|Zw Wj Ve<|Za (ZS 117 [X2,WA]) VT<|Zw Wt XB<|Zc) YC))⟩
def c11:CF:=⟨[(VE,none)],(Zg (Za (Ko YX 28) st1<|Za (Z4 (kB false)) st2<|Zc) (Zg (Za (XK Wj 0) VT<|Za (Yz Wt) VL<|Za (ZS 25 [Wi]) UO<|Zw WV Ve<|Za (Xw WA 0) X6<|Za (Xw WA 1) Wg<|Zw XD VK<|Zw XQ XB<|Zc) (Zg (Za (XK Wj 1) Wl<|Za (To XS 8) Wk<|Za (V9 26 [(nI .i64 0),(nI .u32 0),(nI .u32 0),(nI .u32 0),(nI .i64 0),.nils,.nils,(.str [])]) Vd<|Za (Xr X2 XG 8) d0<|Zc) (Zg (Zg (Zw V5 WE<|Za (VD X5 (kI 0) VU false) WN<|Zw Wh WJ<|Ya X8 false (Yz (k (.ptr 0 0))) WZ<|Ya X8 false (XK X2 0) W4<|Ya X8 false (Yz Wv) VA<|Ya X8 false (Mg VU (nI .u8 0) false WI WM) VJ<|Ya X8 false (VD Vl (k (nI .u8 0)) VU false) Uq<|Za (Xn X8 (kB true) VY) Uu<|Zw VQ Uv<|Ya VR false (XK X2 1) Uw<|Ya VR false (Yz VS) UE<|Ya VR false (Y8 Uz (k (nI .u32 4095)) Tq Vn) UN<|Za (Xn VR (kB true) V7) UF<|Zw Ud UW<|Ya V8 false (XK X2 5) Ti<|Ya V8 false (Yz VW) Tn<|Ya V8 false (ZS 26 [Tm]) T5<|Ya V8 false (Qm TO) T6<|Za (Xn V8 (kB true) TG) SB<|Zw T4 Rn<|Ya Sf false (XK X2 7) Rx<|Ya Sf false (Yz TH) QN<|Ya Sf false (XK X2 0) QO<|Ya Sf false (Yz Qz) QX<|Ya Sf false (VD QA (kI 3) VU false) PP<|Ya Sf false (ZS 27 [Pc,Ri]) P2<|Ya Sf false (Qm QU) P3<|Za (Xn Sf (kB true) PX) P4<|Zc) (Yi RX (Zg (Za (Z4 (kB false)) st2<|Zc) YC) Zc)) (Zg (Za (XK X2 6) Ps<|Za (Yz PC) ON<|Za (Wf QB) O0<|Za (Y8 Oc (kI 16777216) QV TN) O1<|Zw Od O2<|Ya Pd true (XK X2 0) Nw<|Ya Pd true (Yz NH) Nx<|Ya Pd true (VD OD (kI 2) VU false) Mo<|Ya Pd true (Z4 MJ) MN<|Ya Nq false (XK X2 6) MO<|Ya Nq false (Yz N9) Mq<|Ya Nq false (Wf NI) Mr<|Ya Nq false (VD Ma (kI 0) VU false) MP<|Ya Pd true (Xn Nq (kB true) Lb) MQ<|Za (Xn Pd MK (kB false)) MR<|Zw ML st2<|Zc) YC)))))⟩
def Np:D:=(Zg (Za (Y8 Wt WA Wd Xl) VL<|Zc) (Zg (Yi Wi Zc (Vs 0)) (Zg (YW 1 (Zg (Zw Wt UO<|Za (WW X2 Wt 2) X6<|Za (To XD 2) Wg<|Za (V9 41 [(.str []),(.str [])]) XB<|Zw WV VK<|Za (Xr XY XQ 2) d0<|Zc) (Zg (Vj [XJ (XK XY 0) [(XB,XY)] Wl 0 0,⟨Yz XS,none,[(Wl,XS)],Wk,.read,1,1⟩,XJ (VD XG (k (.str [])) Mw false) [(Wk,XG)] WE 2 3,XJ (Z4 X5) [(WE,X5)] WN 3 7,⟨XK XY 0,(some (Wh,false)),[(XB,XY)],WJ,.free,4,15⟩,⟨Yz X8,(some (Wh,false)),[(WJ,X8)],WZ,.read,5,31⟩,⟨Wc WI,(some (Wh,false)),[(WZ,WI)],W4,.free,6,63⟩,⟨Y8 Wv (kI 242) Tq Vn,(some (Wh,false)),[(W4,Wv)],VA,.free,7,127⟩,XJ (Xn Wh (kB true) WM) [(WN,Wh),(VA,WM)] VJ 8 255,XJ (Z4 Vl) [(VJ,Vl)] Uq 9 511,⟨XK XY 0,(some (VY,false)),[(XB,XY)],Uu,.free,10,1023⟩,⟨Yz VQ,(some (VY,false)),[(Uu,VQ)],Uv,.read,11,2047⟩,⟨ZS 54 [VR,(k (.str [0,61,10]))],(some (VY,false)),[(Uv,VR)],Uw,.eff,12,4095⟩,XJ (Xn VY (kB true) VS) [(Uq,VY),(Uw,VS)] UE 13 8191,XJ (Z4 Uz) [(UE,Uz)] UN 14 16383,⟨Z4 V5,(some (V7,false)),[(VK,V5)],UF,.free,15,32767⟩,⟨Y8 Ud (kI 0) Tq Vn,(some (V7,false)),[(UF,Ud)],UW,.free,16,65535⟩,⟨Z4 V8,(some (V7,false)),[(UW,V8)],Ti,.free,17,131071⟩,⟨Z4 YX,(some (VW,true)),[(st0,YX)],Tn,.free,18,262143⟩,⟨Z4 V5,(some (VW,true)),[(VK,V5)],T5,.free,19,262143⟩,⟨Vv TO (kI 1),(some (VW,true)),[(T5,TO)],T6,.free,20,786431⟩,⟨WW Tm TG 2,(some (VW,true)),[(Tn,Tm),(T6,TG)],SB,.free,21,2097151⟩,⟨XK T4 0,(some (VW,true)),[(SB,T4)],Rn,.free,22,4194303⟩,⟨Yz Sf,(some (VW,true)),[(Rn,Sf)],Rx,.read,23,8388607⟩,⟨XK XY 0,(some (VW,true)),[(XB,XY)],QN,.free,24,262143⟩,⟨Yz Pc,(some (VW,true)),[(QN,Pc)],QO,.read,25,17039359⟩,⟨Y8 TH Qz Tp WT,(some (VW,true)),[(Rx,TH),(QO,Qz)],QX,.free,26,67108863⟩,⟨Xn VW QA (kB false),(some (V7,false)),[(Ti,VW),(QX,QA)],PP,.free,27,134217727⟩,XJ (Xn V7 (kB true) Ri) [(UN,V7),(PP,Ri)] P2 28 268435455]) (Yi QU (Zg (Za (Z4 (kB false)) st2<|Zc) YC) Zc)))) (Za (Xk Wt (kI 1)) P3<|Zw PX VT<|Zc))))
def c26:CF:=⟨[(VE,none)],(Zg (Za (Z4 (kB false)) st2<|Zc) (Zg (Zg (Zw YX Vd<|Za (Wf X2) Ve<|Za (Z4 (kI 0)) VT<|Zc) (YW 0 (Vm Np))) (Zg (Zw YX P4<|Za (Wf RX) Ps<|Za (Y8 PC (kI 16) QV TN) ON<|Zw QB st2<|Zc) YC)))⟩
def c27:CF:=⟨[(XY,none)],(Zg (Za (Z4 (kB false)) XB<|Zc) (Zg (Zg (Zw Wj Vd<|Za (Qm X2) Ve<|Zc) (Yi WA (Zg (Zw YX VT<|Za (VD Wt (k (.str [])) Mw false) VL<|Zw Wi XB<|Zc) YC) Zc)) (Zg (Zw YX UO<|Za (VD WV (k (.str [])) Mw true) X6<|Zw XD Wg<|Ya XQ true (Z4 YX) Wl<|Ya XQ true (Wc XS) Wk<|Ya XQ true (Y8 XG (kI 4096) QV TN) WE<|Za (Xn XQ X5 (kB false)) WN<|Zw Wh WJ<|Ya X8 true (Z4 YX) WZ<|Ya X8 true (ZS 55 [WI,(k (nI .u8 0))]) W4<|Ya X8 true (Y8 Wv (kI 0) Wd Xl) VA<|Za (Xn X8 WM (kB false)) VJ<|Zw Vl XB<|Zc) YC)))⟩
def bW:D:=(Zg (Za (Y8 QA (kI 4) Wd Xl) PP<|Zc) (Zg (Yi Ri Zc (Vs 0)) (Zg (YW 1 (Zg (Za (Ie Qz QA 4) P2<|Zw QU X6<|Zc) (Zw Wi P3<|Zw XD P4<|Za (ZS 19 [PX,RX,(kI 0)]) Ps<|Zc))) (Za (Xk QA (kI 1)) ON<|Zw QB QX<|Zc))))
def c7:CF:=⟨[(VE,none),(V5,none)],(Zg (Za (Ko YX 28) st1<|Za (Z4 (k .nils)) st2<|Za (Z4 (kI 0)) VK<|Zc) (Zg (Zg (Za (To Wj 9) Wg<|Za (ZS 11 [XQ]) Wl<|Za (Qm XS) Wk<|Zc) (Yi XG (Zg (Za (Z4 (k .nils)) st2<|Za (Z4 (kI 1)) VK<|Zc) YC) Zc)) (Zg (Za (To Wj 9) WN<|Za (ZS 15 [Wh]) WJ<|Zw X8 WE<|Za (Xw X5 0) WZ<|Za (Xw X5 1) W4<|Zw WI XB<|Zw Wv Vd<|Zc) (Zg (Zg (Zw X2 VA<|Za (Wf WM) VJ<|Za (VD Vl (kI 0) VU false) Uq<|Zc) (Yi VY (Zg (Zw XY Uu<|Za (UL VQ) Uv<|Za (XK VR 0) Uw<|Za (Rw 512 1 VS none none none) UE<|Zw Uz st2<|Za (Z4 (kI 0)) VK<|Zc) YC) Zc)) (Zg (Zw X2 UF<|Za (ZS 16 [Ud]) UW<|Zw V8 UN<|Za (Xw V7 0) Ti<|Za (Xw V7 1) Tn<|Zw VW Ve<|Zw Tm VT<|Zc) (Zg (Zg (Zw Wt T5<|Za (VD TO (kI 0) VU true) T6<|Zc) (Yi TG (Zg (Zw Wt SB<|Za (Z4 (k .nils)) st2<|Zw T4 VK<|Zc) YC) Zc)) (Zg (Za (ZS 17 [(k (nI .u8 120))]) Rn<|Zw Sf VL<|Zc) (Zg (Zw Wi Rx<|Za (ZS 18 [TH,(k (.str [110,97,109,101])),(k (.str [112,97,120]))]) QN<|Zc) (Zg (Zg (Za (Vz [(.str []),(.str []),(.str []),(.str [])] [⟨0,1,(k (.str [109,111,100,101]))⟩,⟨1,1,(k (.str [117,105,100]))⟩,⟨2,1,(k (.str [103,105,100]))⟩,⟨3,1,(k (.str [109,116,105,109,101]))⟩]) QO<|Za (Z4 (kI 0)) QX<|Zc) (YW 0 (Vm bW))) (Zg (Zw Wi O0<|Zw WA O1<|Za (Wf Od) O2<|Za (ZS 19 [Oc,(k (.str [115,105,122,101])),Pd]) Nw<|Zc) (Zg (Zw Wi Nx<|Za (UL OD) Mo<|Za (XK MJ 0) MN<|Za (ZS 20 [Nq]) MO<|Zc) (Zg (Vj [XJ (Z4 Wi) [(VL,Wi)] Mq 0 0,XJ (UL NI) [(Mq,NI)] Mr 1 1,XJ (XK Ma 0) [(Mr,Ma)] MP 2 3,XJ (Rw 512 1 Lb none none none) [(MP,Lb)] MQ 3 7,XJ (Z4 WA) [(Ve,WA)] MR 4 0,XJ (Z4 WA) [(Ve,WA)] LN 5 0,XJ (Wf OW) [(LN,OW)] LP 6 32,XJ (Z4 XY) [(XB,XY)] LR 9 0,XJ (UL Ld) [(LR,Ld)] LS 10 512,XJ (XK Kk 0) [(LS,Kk)] Jl 11 1536,XJ (Rw 512 1 K1 none none none) [(Jl,K1)] Jm 12 3584,⟨ZS 12 [Lc],none,[(LP,Lc)],MT,.eff,7,96⟩,XJ (Lx 5 1 1 [(nI .u8 0)] OX OX) [(MT,OX),(MT,OX)] LQ 8 224,⟨VV 24 1 4 (List.replicate 4 [.nils]).flatten [⟨0,1,MK⟩,⟨1,1,ML⟩,⟨2,1,Mb⟩,⟨3,1,NJ⟩],none,[(MQ,MK),(MR,ML),(LQ,Mb),(Jm,NJ)],Jn,.free,13,8191⟩,⟨ZS 21 [NK],none,[(Jn,NK)],Jo,.eff,14,16383⟩,⟨Z4 Le,none,[(Jo,Le)],st2,.eff,15,32767⟩,⟨Z4 (kI 0),none,[],VK,.eff,16,65535⟩]) YC))))))))))))⟩
def MZ:D:=(Zg (Za (Y8 NK (kI 3) Wd Xl) Jo<|Zc) (Zg (Yi Le Zc (Vs 0)) (Zg (YW 1 (Zg (Za (zO NJ NK 3 3) Gd<|Za (V9 75 [(.str []),(nI .i64 0),(nI .i64 0)]) Wk<|Za (Xr XG Hn 3) d0<|Zc) (Zg (Zg (Za (XK XG 1) Ge<|Za (Yz Ho) Gf<|Za (Y8 K2 (kI 0) Wd Xl) Gg<|Zw JW IJ<|Ya OE false (XK XG 1) IK<|Ya OE false (Yz JX) IL<|Ya OE false (XK XG 2) IM<|Ya OE false (Yz JZ) Gh<|Ya OE false (Y8 JY Hp Tq Vn) FH<|Za (Xn OE (kB true) Fx) FI<|Zc) (Yi Lf (Zg (Vj [XJ (Z4 Wt) [(VT,Wt)] Gi 0 0,XJ (XK XG 0) [(Wk,XG)] Gj 1 0,⟨Yz Hq,none,[(Gj,Hq)],Gk,.read,2,2⟩,XJ (XK XG 1) [(Wk,XG)] Gl 3 0,⟨Yz Hu,none,[(Gl,Hu)],Gm,.read,4,8⟩,⟨ZS 31 [Hv],none,[(Gm,Hv)],Gn,.eff,5,24⟩,⟨OG Kl Tryz.prog [Ht,PY],none,[(Gi,Kl),(Gk,Ht),(Gn,PY)],FJ,.eff,6,63⟩]) (Za (XK XG 1) FK<|Za (Xr Fy (kI 0) 1) d0<|Zc)) Zc)) (Zw X2 FM<|Za (XK XG 0) FN<|Za (Yz J0) FO<|Za (XK XG 1) DP<|Za (Yz Hw) DQ<|Za (ZS 19 [Fz,FA,EZ]) DS<|Zc)))) (Za (Xk NK (kI 1)) DT<|Zw E0 Jn<|Zc))))
def Er:D:=(Zg (Za (Y8 M8 Ky Wd Xl) DN<|Zc) (Zg (Yi Bp Zc (Vs 2)) (Zg (YW 3 (Zg (Za (WW M7 M8 2) DO<|Za (To EV 2) Ff<|Za (V9 41 [(.str []),(.str [])]) WN<|Za (Xr Wh EW 2) d0<|Zc) (Zw Wt Fg<|Za (XK Wh 0) Fh<|Za (Yz GM) Fi<|Za (Xk (k (.str [83,67,72,73,76,89,46,120,97,116,116,114,46])) GN) Fj<|Za (XK Wh 1) Fk<|Za (Yz GO) Fl<|Za (OG My Tryz.prog [M9,GP]) Fm<|Zc))) (Za (Xk M8 (kI 1)) Fo<|Zw GQ Fe<|Zc))))
def vC:D:=(Zg (Zw X2 Fp<|Za (UL GR) Fq<|Za (XK GS 0) Fr<|Za (ZS 20 [NF]) Fs<|Zc) (Zg (Vj [XJ (Z4 X2) [(Vd,X2)] IH 0 0,⟨Yz WA,none,[(Ve,WA)],II,.read,1,0⟩,⟨Z4 GU,none,[(IH,GU)],st2,.eff,2,1⟩,⟨Z4 NG,none,[(II,NG)],VK,.eff,3,7⟩]) YC))
def vB:D:=(Zg (Zw X2 Cy<|Za (XK XY 1) Cz<|Za (Yz Cj) CA<|Za (Sg J1 .i64) CB<|Za (ZS 19 [Ci,(k (.str [109,111,100,101])),Ck]) ye<|Zc) (Zg (Zw X2 yf<|Za (XK XY 6) IF<|Za (Yz M6) IG<|Za (Wf JU) G9<|Za (ZS 19 [E1,(k (.str [115,105,122,101])),Mx]) Fa<|Zc) (Zg (Zg (Za (XK XY 5) Fb<|Za (Yz Nd) Fc<|Za (Wf M7) Fd<|Za (Z4 (kI 0)) Fe<|Zc) (YW 2 (Vm Er))) vC)))
def vA:D:=(Zg (Zw X2 MN<|Zw XQ MO<|Za (ZS 18 [Nq,(k (.str [108,105,110,107,110,97,109,101])),N9]) Mq<|Zc) (Zg (Zg (Za (XK XY 2) Mr<|Za (Yz Ma) MP<|Za (Sg Lb .i64) MQ<|Za (Vz [(.str []),(nI .i64 0),(nI .i64 0)] [⟨0,1,(k (.str [117,105,100]))⟩,⟨1,1,MK⟩,⟨2,1,(kI 2097151)⟩]) MR<|Za (XK XY 3) LN<|Za (Yz OW) LP<|Za (Sg Lc .i64) MT<|Za (Vz [(.str []),(nI .i64 0),(nI .i64 0)] [⟨0,1,(k (.str [103,105,100]))⟩,⟨1,1,OX⟩,⟨2,1,(kI 2097151)⟩]) LQ<|Za (XK XY 4) LR<|Za (Yz Ld) LS<|Za (Vz [(.str []),(nI .i64 0),(nI .i64 0)] [⟨0,1,(k (.str [109,116,105,109,101]))⟩,⟨1,1,Kk⟩,⟨2,1,(kI 8589934591)⟩]) Jl<|Za (Vz [(.str []),(nI .i64 0),(nI .i64 0),(.str []),(nI .i64 0),(nI .i64 0),(.str []),(nI .i64 0),(nI .i64 0)] [⟨0,3,ML⟩,⟨3,3,Mb⟩,⟨6,3,K1⟩]) Jm<|Za (Z4 (kI 0)) Jn<|Zc) (YW 0 (Vm MZ))) vB))
def I4:D:=(Zg (Zw X2 QO<|Zw Wi QX<|Za (ZS 18 [Qz,(k (.str [112,114,101,102,105,120])),QA]) PP<|Zc) (Zg (Zw X2 P2<|Zw WV P3<|Za (ZS 18 [QU,(k (.str [110,97,109,101])),PX]) P4<|Zc) (Zg (Za (XK XY 7) Ps<|Za (Yz PC) ON<|Zw QB Wg<|Zc) (Zg (Zg (Zw XQ O0<|Za (Wc Oc) O1<|Za (Y8 Od (kI 100) Tq Vn) O2<|Zc) (Yi Pd (Zg (Zw Wt Nw<|Zw XQ Nx<|Za (OG NH Tryz.prog [(k (.str [108,105,110,107,112,97,116,104])),OD]) Mo<|Zc) (Za (Z4 (k (.str []))) Wg<|Zc)) Zc)) vA))))
def c15:CF:=⟨[(VE,none),(V5,none)],(Zg (Za (Ko YX 28) st1<|Za (Z4 (k .nilp)) st2<|Za (Z4 (k .nils)) VK<|Zc) (Zg (Za (XK Wj 1) WJ<|Za (To X8 8) WZ<|Za (V9 26 [(nI .i64 0),(nI .u32 0),(nI .u32 0),(nI .u32 0),(nI .i64 0),.nils,.nils,(.str [])]) XB<|Za (Xr XY WI 8) d0<|Zc) (Zg (Za (Yz (k (.ptr 0 0))) W4<|Za (XK XY 0) VA<|Za (Yz WM) VJ<|Za (Mg VU (nI .u8 0) false Wv Vl) Uq<|Za (ZS 17 [VY]) Uu<|Zw VQ Vd<|Zc) (Zg (Za (V9 48 [.nils]) Ve<|Zc) (Zg (Za (Dn 28 [] [WA]) Uv<|Zw VR VT<|Zc) (Zg (Za (To Wj 9) UE<|Za (ZS 30 [Uz]) UN<|Za (ZS 29 [V7]) UF<|Zw Ud Uw<|Za (Xw VS 0) UW<|Za (Xw VS 1) Ti<|Za (Xw VS 2) Tn<|Zw V8 VL<|Zw VW UO<|Zw Tm X6<|Zc) (Zg (Zg (Zw XD T5<|Za (Qm TO) T6<|Zc) (Yi TG (Zw Wt SB<|Za (To Wj 9) Rn<|Za (ZS 30 [Sf]) Rx<|Za (OG T4 Tryz.prog [(k (.str [112,97,116,104])),TH]) QN<|Zc) Zc)) I4)))))))⟩
def c28:CF:=⟨[],(Za (Yz VE) Vd<|Zw YX Ve<|Zw Wj VT<|Za (Vz [(.str []),(.str [])] [⟨0,1,WA⟩,⟨1,1,Wt⟩]) VL<|Za (VV 71 2 1 [(.str []),(.str [])] [⟨0,2,Wi⟩]) UO<|Za (W5 X2 WV 71 2 32) X6<|Za (Xr VE XD 1) d0<|Zc)⟩
def c17:CF:=⟨[(VE,none)],(Zg (Za (Z4 (k .nilp)) st2<|Zc) (Zg (Za (Vz QS []) XB<|Za (Ko XY 54) Vd<|Zw X2 VK<|Zc) (Zg (Zw V5 Ve<|Za (ZS 18 [WA,(k (.str [109,97,103,105,99])),(k (.str [117,115,116,97,114]))]) VT<|Zc) (Zg (Zw V5 VL<|Za (UL Wi) UO<|Za (XK WV 0) X6<|Za (VV 5 1 2 (List.replicate 2 [(nI .u8 0)]).flatten [⟨0,1,(k (nI .u8 48))⟩,⟨1,1,(k (nI .u8 48))⟩]) Wg<|Za (BW XQ) Wl<|Za (ZS 37 [XD,(k (.str [118,101,114,115,105,111,110])),XS]) Wk<|Zc) (Zg (Zw V5 WE<|Za (UL X5) WN<|Za (XK Wh 0) WJ<|Zw YX WZ<|Za (VV 5 1 1 [(nI .u8 0)] [⟨0,1,WI⟩]) W4<|Za (ZS 37 [X8,(k (.str [116,121,112,101])),Wv]) VA<|Zc) (Zg (Zw V5 VJ<|Zw Vl st2<|Zc) YC))))))⟩
def c18:CF:=⟨[],(Zg (Zw YX Wg<|Za (UL XQ) Wl<|Za (XK XS 0) Wk<|Zw Wj WE<|Za (ZS 38 [XG,X5]) WN<|Zw Wh X6<|Za (Xw XD 0) WJ<|Za (Xw XD 1) WZ<|Zw X8 Ve<|Zw WI VT<|Zc) (Zg (Zw VE VA<|Zw WA VJ<|Za (Wf Vl) Uq<|Za (ZS 39 [WM,VY]) Uu<|Zw VQ W4<|Za (Xw Wv 0) Uv<|Za (Xw Wv 1) Uw<|Zw VR VL<|Zw VS UO<|Zc) (Zw YX UE<|Za (UL Uz) UN<|Za (XK V7 0) UF<|Zw Wj UW<|Zw Wi Ti<|Za (ZS 37 [Ud,V8,VW]) Tn<|Zc)))⟩
def c19:CF:=⟨[],(Zg (Zw YX Wg<|Za (UL XQ) Wl<|Za (XK XS 0) Wk<|Zw Wj WE<|Za (ZS 38 [XG,X5]) WN<|Zw Wh X6<|Za (Xw XD 0) WJ<|Za (Xw XD 1) WZ<|Zw X8 Ve<|Zw WI VT<|Zc) (Zg (Zw VE VA<|Zw WA VJ<|Za (Wf Vl) Uq<|Za (ZS 40 [WM,VY]) Uu<|Zw VQ W4<|Za (Xw Wv 0) Uv<|Za (Xw Wv 1) Uw<|Zw VR VL<|Zw VS UO<|Zc) (Zw YX UE<|Za (UL Uz) UN<|Za (XK V7 0) UF<|Zw Wj UW<|Zw Wi Ti<|Za (ZS 37 [Ud,V8,VW]) Tn<|Zc)))⟩
def c20:CF:=⟨[],(Zg (Zw YX Vd<|Za (ZS 41 [X2]) Ve<|Za (ZS 40 [WA,(kI 7)]) VT<|Zw Wt XB<|Za (Xw XY 0) VL<|Za (Xw XY 1) UO<|Zw Wi st2<|Zw WV VK<|Zc) (Zg (Zw V5 X6<|Za (VD XD (kI 0) VU false) Wg<|Zc) (Yi XQ (Zw YX Wl<|Zw VE Wk<|Za (VV 5 1 1 [(nI .u8 0)] [⟨0,1,(k (nI .u8 32))⟩]) WE<|Za (W5 XG X5 5 1 1) WN<|Za (ZS 37 [XS,(k (.str [99,104,107,115,117,109])),Wh]) WJ<|Zc) Zc)))⟩
def Eu:D:=(Zg (Za (Y8 WI (kI 512) Wd Xl) W4<|Zc) (Zg (Yi Wv Zc (Vs 0)) (Zg (YW 1 (Zg (Za (Ie X8 WI 512) VA<|Zw WM Ve<|Zc) (Zw XY VJ<|Zw WA Uq<|Za (Sg VY .i64) Uu<|Za (Xk Vl VQ) Uv<|Zw VR XB<|Zc))) (Za (Xk WI (kI 1)) Uw<|Zw VS WZ<|Zc))))
def c41:CF:=⟨[(VE,none)],(Zg (Za (Z4 (kI 0)) st2<|Zc) (Zg (Zg (Zw YX VT<|Za (VD Wt (k .nilp) yS false) VL<|Zc) (Yi Wi (Zg (Za (Z4 (kI 0)) st2<|Zc) YC) Zc)) (Zg (Zw YX UO<|Za (UL WV) X6<|Za (To XD 512) Wg<|Za (Mf 52 512 (nI .u8 0)) VK<|Za (Xr V5 XQ 512) d0<|Zc) (Zg (Za (VV 5 1 1 [(nI .u8 0)] [⟨0,1,(k (nI .u8 32))⟩]) Wl<|Za (BW XS) Wk<|Za (ZS 66 [XG,(kI 8)]) WE<|Za (ZS 37 [V5,(k (.str [99,104,107,115,117,109])),X5]) WN<|Zc) (Zg (Za (Z4 (kI 0)) XB<|Zc) (Zg (Zg (Za (To V5 512) WJ<|Za (Z4 (kI 0)) WZ<|Zc) (YW 0 (Vm Eu))) (Zg (Zw XY UE<|Zw Uz st2<|Zc) YC)))))))⟩
def c37:CF:=⟨[(WA,none)],(Zg (Za (Z4 (kI 0)) Ve<|Zc) (Zg (Zw YX VL<|Zw Wj UO<|Za (ZS 61 [Wi,WV]) X6<|Zw XD VT<|Zc) (Zg (Zg (Zw Wt Wg<|Za (VD XQ (k .nils) qG false) Wl<|Zw XS Wk<|Ya XG false (Z4 VE) WE<|Ya XG false (Wf X5) WN<|Ya XG false (Z4 Wt) WJ<|Ya XG false (Wf X8) WZ<|Ya XG false (VD Wh WI VU true) W4<|Za (Xn XG (kB true) Wv) VA<|Zc) (Yi WM (Zg (Za (Z4 (kI 1)) Ve<|Zc) YC) Zc)) (Zg (Zw Wt VJ<|Zw VE Uq<|Za (G2 Vl VY 1) Uu<|Zc) (Zg (Za (Z4 (kI 0)) Ve<|Zc) YC)))))⟩
def c38:CF:=⟨[(XY,none),(X2,none)],(Zg (Za (Z4 (k .nils)) XB<|Za (Z4 (kB false)) Vd<|Zc) (Zg (Zw YX VT<|Zw Wj VL<|Za (ZS 61 [Wt,Wi]) UO<|Zw WV Ve<|Zc) (Zg (Zw WA X6<|Za (ZS 62 [XD]) Wg<|Zw WA Wl<|Za (VD XS (k .nils) qG true) Wk<|Zw XQ XB<|Zw XG Vd<|Zc) YC)))⟩
def c61:CF:=⟨[(XY,none)],(Zg (Za (Z4 (k .nils)) XB<|Zc) (Zg (Za (Yz (k (.ptr 3 0))) VL<|Zw Wj UO<|Za (Mg Mw (.agg [(nI .i64 0),(nI .i64 0)]) true Wi WV) X6<|Zw XD VT<|Za (Xw Wt 0) Wg<|Za (Xw Wt 1) Wl<|Za (V9 131 [(nI .i64 0),(nI .i64 0)]) Vd<|Za (Xr X2 XQ 2) d0<|Zw XS Ve<|Zc) (Zg (Zg (Zw YX Wk<|Za (VD XG (k .nilp) yS false) WE<|Zw X5 WN<|Ya Wh false (Z4 WA) WJ<|Ya Wh false (Qm X8) WZ<|Za (Xn Wh (kB true) WI) W4<|Zc) (Yi Wv (Zg (Za (Z4 (k .nils)) XB<|Zc) YC) Zc)) (Zg (Vj [XJ (Z4 YX) [(st0,YX)] VA 0 0,XJ (UL WM) [(VA,WM)] VJ 1 1,XJ (PH X2 (kI 0) 2 1) [(Vd,X2)] Uq 2 0,⟨Yz VY,none,[(Uq,VY)],Uu,.read,3,4⟩,XJ (PH X2 (kI 0) 2 1) [(Vd,X2)] Uv 4 0,⟨Yz VR,none,[(Uv,VR)],Uw,.read,5,16⟩,XJ (PH X2 (kI 1) 2 1) [(Vd,X2)] UE 6 0,⟨Yz Uz,none,[(UE,Uz)],UN,.read,7,64⟩,XJ (Xk VS V7) [(Uw,VS),(UN,V7)] UF 8 240,XJ (Rw 512 1 Vl (some VQ) (some Ud) none) [(VJ,Vl),(Uu,VQ),(UF,Ud)] UW 9 511,⟨Z4 V8,none,[(UW,V8)],XB,.eff,10,1023⟩]) YC))))⟩
def c39:CF:=⟨[(XY,none),(X2,none)],(Zg (Za (Z4 (k .nils)) XB<|Za (Z4 (kI 0)) Vd<|Zc) (Zg (YW 0 (Zg (Zw Wj VT<|Za (Y8 Wt (kI 1) Wd Xl) VL<|Zw Wi UO<|Ya WV false (Z4 Wj) X6<|Ya WV false (Y8 XD (kI 512) Tq Vn) Wg<|Za (Xn WV (kB true) XQ) Wl<|Zw XS Wk<|Ya XG false (Z4 YX) WE<|Ya XG false (ZS 63 [X5,(k (.str [0]))]) WN<|Za (Xn XG (kB true) Wh) WJ<|Zw X8 Ve<|Zc) (Yi WA (Zg (Za (Z4 (k .nils)) XB<|Za (Z4 (kI 1)) Vd<|Zc) YC) (Zg (Zw YX W4<|Za (Wc Wv) VA<|Zw Wj VJ<|Za (Y8 WM Vl Tq Vn) Uq<|Zw VY WZ<|Zc) (Yi WI (Zg (Za (Z4 (k .nils)) XB<|Za (Z4 (kI 3)) Vd<|Zc) YC) Zc))))) (Zg (Zw YX Uu<|Za (Dm VQ 5) Uv<|Zw Wj Uw<|Zw YX UE<|Za (Wc Uz) UN<|Za (Vv VS V7) UF<|Za (NQ VR Ud 5 1 1 [(nI .u8 0)]) UW<|Zw V8 XB<|Za (Z4 (kI 0)) Vd<|Zc) YC)))⟩
def c40:CF:=⟨[(XY,none),(X2,none)],(Zg (Za (Z4 (k .nils)) XB<|Za (Z4 (kI 0)) Vd<|Zc) (Zg (Zg (Zw Wj VT<|Za (ZS 64 [Wt]) VL<|Za (Qm Wi) UO<|Zc) (Yi WV (Zg (Za (Z4 (k .nils)) XB<|Za (Z4 (kI 1)) Vd<|Zc) YC) Zc)) (Zg (Zw YX X6<|Za (ZS 57 [XD,(kI 8)]) Wg<|Zw XQ Ve<|Zc) (Zg (Zg (Zw YX Wl<|Za (Y8 XS (kI 0) Wd Xl) Wk<|Zw XG WE<|Ya X5 false (Z4 WA) WN<|Ya X5 false (Wc Wh) WJ<|Ya X5 false (Z4 Wj) WZ<|Ya X5 false (Vv WI (kI 1)) W4<|Ya X5 false (Y8 X8 Wv Tq Vn) VA<|Za (Xn X5 (kB true) WM) VJ<|Zc) (Yi Vl (Zg (Za (Z4 (k .nils)) XB<|Za (Z4 (kI 3)) Vd<|Zc) YC) Zc)) (Zg (Zw Wj Uq<|Za (Vv VY (kI 1)) Uu<|Zw WA Uv<|Za (Wc VR) Uw<|Za (Vv VQ VS) UE<|Za (ZS 65 [(k (.str [48])),Uz]) UN<|Zw WA UF<|Za (Xk V7 Ud) UW<|Za (Xk V8 (k (.str [0]))) Ti<|Za (Dm VW 5) Tn<|Zw Tm XB<|Za (Z4 (kI 0)) Vd<|Zc) YC)))))⟩
def c64:CF:=⟨[(VE,none)],(Zg (Za (Z4 (kB false)) st2<|Zc) (Zg (Zw YX VK<|Za (Y8 V5 (kI 2) Tp WT) XB<|Zw XY Vd<|Ya X2 true (Z4 YX) Ve<|Ya X2 true (Y8 WA (kI 20) QV TN) VT<|Za (Xn X2 Wt (kB false)) VL<|Zw Wi st2<|Zc) YC))⟩
def c63:CF:=⟨[(XY,none)],(Zg (Za (Z4 (kB false)) XB<|Zc) (Zg (Zw YX Vd<|Zw Wj Ve<|Za (ZS 91 [X2,WA]) VT<|Za (Y8 Wt (kI 0) Tp WT) VL<|Zw Wi XB<|Zc) YC))⟩
def mq:D:=(Zg (Zg (Zw XD LQ<|Zw Wt LR<|Za (Y8 Mb Ld Wd Xl) LS<|Zc) (Yi Kk Zc (Vs 0))) (YW 1 (Zg (Zw XD Jl<|Zw Wi Jm<|Za (Si false [K1,NJ]) Jn<|Zw NK Wg<|Zc) (Vj [XJ (Z4 XD) [(X6,XD)] Jo 0 0,XJ (Z4 WV) [(UO,WV)] Gd 1 0,XJ (Z4 XD) [(X6,XD)] Ge 2 0,⟨T0 1 Hn (some Ho) none none,none,[(Gd,Hn),(Ge,Ho)],Gf,.read,3,6⟩,XJ (Z4 WV) [(UO,WV)] Gg 4 0,XJ (Z4 XQ) [(Wg,XQ)] IJ 5 0,⟨T0 1 JW none (some OE) none,none,[(Gg,JW),(IJ,OE)],IK,.read,6,48⟩,⟨G2 K2 JX 1,none,[(Gf,K2),(IK,JX)],IL,.eff,7,126⟩,XJ (Xk Le JY) [(Jo,Le),(IL,JY)] IM 8 255,⟨Z4 JZ,none,[(IM,JZ)],X6,.eff,9,511⟩]))))
def c66:CF:=⟨[(XY,none)],(Zg (Za (Z4 (k .nils)) XB<|Zc) (Zg (Zg (Zw Wj Wl<|Za (VD XS (kI 0) VU false) Wk<|Zc) (Yi XG (Zg (Za (VV 5 1 0 (List.replicate 0 [(nI .u8 0)]).flatten []) WE<|Zw X5 XB<|Zc) YC) Zc)) (Zg (Zg (Zw Wj WN<|Za (Y8 Wh (kI 0) Wd Xl) WJ<|Zc) (Yi X8 (Za (Pn (k (.str ZiN)) 9) WZ<|Za (QG WI) d0<|Zc) Zc)) (Zg (Zw YX VA<|Za (Wf WM) VJ<|Za (Sg Vl .u64) Uq<|Zw Wj Uu<|Za (Sg VQ .u64) Uv<|Za (ZS 92 [VY,VR]) Uw<|Zw VS W4<|Za (Xw Wv 0) UE<|Za (Xw Wv 1) UN<|Zw Uz Vd<|Zw V7 Ve<|Zc) (Zg (Zg (Zw X2 UF<|Za (Y8 Ud (k (nI .u64 0)) Tq Vn) UW<|Zw V8 Ti<|Ya VW false (Z4 WA) Tn<|Ya VW false (Y8 Tm (k (nI .u64 9223372036854775807)) Tq Vn) T5<|Za (Xn VW (kB true) TO) T6<|Zc) (Yi TG (Za (Pn (k (.str ZeN)) 9) SB<|Za (QG T4) d0<|Zc) Zc)) (Zg (Zw WA Rn<|Za (Sg Sf .i64) Rx<|Zw TH VT<|Zc) (Zg (Zg (Zw YX QN<|Za (Wf Pc) QO<|Za (VD Qz (kI 0) VU false) QX<|Zc) (Yi QA (Zg (Za (VV 5 1 0 (List.replicate 0 [(nI .u8 0)]).flatten []) PP<|Zw Ri XB<|Zc) YC) Zc)) (Zg (Zw Wt P2<|Zw QU VL<|Zc) (Zg (Zg (Zw Wi P3<|Za (Y8 PX (kI 8192) Tq Vn) P4<|Zc) (Yi RX (Zg (Zw YX Ps<|Za (Wf PC) ON<|Za (Ja (kI 8192) QB) O0<|Zw YX O1<|Za (Wf Od) O2<|Za (PJ Oc Pd) Nw<|Zw NH VL<|Zc) (Zg (Zw Wi Nx<|Za (VD OD (kI 0) VU false) Mo<|Zc) (Yi MJ (Zw YX MN<|Za (Wf Nq) MO<|Zw N9 VL<|Zc) Zc))) Zc)) (Zg (Zw Wt Mq<|Za (ZS 97 [NI]) Mr<|Zw Wt MP<|Zw Wt MQ<|Za (T0 1 Ma none (some Lb) (some MK)) MR<|Zw ML UO<|Zc) (Zg (Zw WV LN<|Zw YX LP<|Za (G2 OW Lc 1) MT<|Zw OX X6<|Zc) (Zg (YW 0 (Vm mq)) (Zg (Zw WV Gh<|Zw Hp XB<|Zc) YC)))))))))))))⟩
def c57:CF:=⟨[(XY,none)],(Zg (Za (Z4 (k (.str []))) XB<|Zc) (Zg (Zw YX Vd<|Zw Wj Ve<|Za (ZS 88 [X2,WA]) VT<|Zw Wt XB<|Zc) YC))⟩
def c88:CF:=⟨[(XY,none)],(Zg (Za (Z4 (k (.str []))) XB<|Zc) (Zg (Zg (Zw Wj X6<|Za (VD XD (kI 10) VU false) Wg<|Zc) (Yi XQ (Zg (Zg (Zw YX Wl<|Za (Y8 (kI 0) XS QV TN) Wk<|Zw XG WE<|Ya X5 true (Z4 YX) WN<|Ya X5 true (Y8 Wh (kI 100) Wd Xl) WJ<|Za (Xn X5 X8 (kB false)) WZ<|Zc) (Yi WI (Zg (Zw YX W4<|Za (ZS 118 [Wv]) VA<|Zw WM XB<|Zc) YC) Zc)) (Zg (Za (Mf 172 24 (nI .u8 0)) Vd<|Zc) (Zg (Zw YX VJ<|Za (Sg Vl .u64) Uq<|Zw VY Ve<|Zc) (Zg (Zg (Zw YX Uu<|Za (Y8 VQ (kI 0) Wd Xl) Uv<|Zc) (Yi VR (Zw WA Uw<|Za (zP VS) UE<|Zw Uz Ve<|Zc) Zc)) (Zg (Zw WA UN<|Za (ZS 119 [V7]) UF<|Zw Ud VT<|Zc) (Zg (Zw Wt UW<|Za (Xk (kI 1) V8) Ti<|Za (Rw 24 1 X2 (some (kI 1)) (some VW) none) Tn<|Zw WA T5<|Za (ZS 120 [Tm,TO]) T6<|Zc) (Zg (Zg (Zw YX SB<|Za (Y8 T4 (kI 0) Wd Xl) Rn<|Zc) (Yi Sf (Zg (Za (PH X2 (kI 0) 24 1) Rx<|Za (Xr TH (k (nI .u8 45)) 1) d0<|Zc) (Zg (Zw Wt QN<|Za (Xk (kI 1) Pc) QO<|Za (Rw 24 1 X2 none (some Qz) none) QX<|Za (xT QA) PP<|Zw Ri XB<|Zc) YC)) Zc)) (Zg (Zw Wt P2<|Za (Xk (kI 1) QU) P3<|Za (Rw 24 1 X2 (some (kI 1)) (some PX) none) P4<|Za (xT RX) Ps<|Zw PC XB<|Zc) YC)))))))) Zc)) (Zg (Zw YX O0<|Za (Sg Oc .u64) O1<|Zw Wj O2<|Zw YX Nw<|Za (Y8 NH (kI 0) Wd Xl) Nx<|Za (ZS 121 [(k .nils),Od,Pd,OD,(kB false)]) Mo<|Zw MJ ON<|Za (Xw QB 0) MN<|Za (Xw QB 1) MO<|Zw Nq VL<|Zw N9 UO<|Zc) (Zg (Zw WV Mq<|Zw NI XB<|Zc) YC))))⟩
def JB:D:=(Zg (Zg (Zw Wj ON<|Zw Wh O0<|Za (Y8 QB Oc Tp WT) O1<|Zc) (Yi Od Zc (Vs 0))) (YW 1 (Zg (Zw XG O2<|Za (Vv Pd (kI 1)) Nw<|Zw NH Wk<|Zc) (Zg (Zw XG Nx<|Zw Wj Mo<|Zw X8 MN<|Za (Q0 MJ Nq Ro) MO<|Za (XR (k (.str KB)) N9) Mq<|Za (PH XS OD 65 1) Mr<|Za (Xr Ma NI 1) d0<|Zc) (Zw Wj MP<|Zw X5 MQ<|Za (Lz Lb MK) MR<|Zw ML st1<|Zc)))))
def fI:D:=(Zg (Zg (Zw Wj Jn<|Zw WI Jo<|Za (Y8 NK Le Tp WT) Gd<|Zc) (Yi Hn Zc (Vs 2))) (YW 3 (Zg (Zw XG Ge<|Za (Vv Ho (kI 1)) Gf<|Zw K2 Wk<|Zc) (Zg (Zw Wj Gg<|Zw WI IJ<|Za (Ja JW OE) IK<|Zw JX W4<|Zc) (Zg (Zw XG IL<|Zw Wj IM<|Zw Wv Gh<|Zw WI FH<|Za (PJ Hp Fx) FI<|Za (Vv JZ Lf) Gi<|Za (XR (k (.str KB)) Kl) Gj<|Za (PH XS JY 65 1) Gk<|Za (Xr Ht Hq 1) d0<|Zc) (Zw Wv Gl<|Zw Hu st1<|Zc))))))
def ZaX:CF:=⟨[(XD,none),(XQ,none)],(Zg (Za (Z4 (k .nils)) X6<|Za (Z4 (k (.str []))) Wg<|Zc) (Zg (Zg (Zw VE VA<|Za (Y8 WM (kI 2) Wd Xl) VJ<|Zw Vl Uq<|Ya VY false (Z4 VE) Uu<|Ya VY false (VD VQ (kI 10) VU false) Uv<|Za (Xn VY (kB true) VR) Uw<|Zw VS UE<|Ya Uz false (Z4 VE) UN<|Ya Uz false (Y8 V7 (kI 36) Tq Vn) UF<|Za (Xn Uz (kB true) Ud) UW<|Zc) (Yi V8 (Za (Pn (k (.str ZeO)) 9) Ti<|Za (QG VW) d0<|Zc) Zc)) (Zg (Za (Mf 201 65 (nI .u8 0)) Wl<|Zc) (Zg (Za (Z4 (kI 65)) Wk<|Zc) (Zg (Zg (Zw V5 Tn<|Zc) (Yi Tm (Zw Wj T5<|Za (zP TO) T6<|Zw TG st1<|Zc) Zc)) (Zg (Zg (Zw VE SB<|Za (ZS 150 [T4]) Rn<|Zc) (Yi Sf (Zg (Zw VE Rx<|Za (Sg TH .u64) QN<|Za (ZS 151 [Pc]) QO<|Za (Sg Qz .u64) QX<|Zw QA WE<|Zc) (Zg (Zw VE PP<|Za (Sg Ri .u64) P2<|Zw QU WN<|Zc) (Zg (Zw VE P3<|Za (Sg PX .u64) P4<|Za (Vv RX (k (nI .u64 1))) Ps<|Zw PC WJ<|Zc) (Zg (YW 0 (Vm JB)) (Zg (Zw XG LN<|Za (Vv OW (kI 1)) LP<|Zw Lc Wk<|Zc) (Zw XG MT<|Zw Wj LQ<|Za (XR (k (.str KB)) Mb) LR<|Za (PH XS OX 65 1) LS<|Za (Xr Kk Ld 1) d0<|Zc)))))) (Zg (Zw VE Jl<|Za (Sg K1 .u64) Jm<|Zw NJ WZ<|Zc) (Zg (YW 2 (Vm fI)) (Zg (Zw XG Gm<|Za (Vv Hv (kI 1)) Gn<|Zw PY Wk<|Zc) (Zw XG FJ<|Zw Wj FK<|Za (XR (k (.str KB)) Fy) FM<|Za (PH XS Lg 65 1) FN<|Za (Xr J0 Fz 1) d0<|Zc)))))) (Zg (Zg (Zw V5 FO<|Zc) (Yi FA (Zg (Zw XG DP<|Za (Vv Hw (kI 1)) DQ<|Zw EZ Wk<|Zc) (Zw XG DS<|Za (PH XS Km 65 1) DT<|Za (Xr E0 (k (nI .u8 45)) 1) d0<|Zc)) Zc)) (Zg (Zg (Zw XY Cy<|Zc) (Yi Ci (Zg (Zw YX Cz<|Zw XG CA<|Za (Rw 65 1 XS (some J1) none none) CB<|Za (W5 Cj Ck 5 1 1) ye<|Zw xg X6<|Zc) YC) Zc)) (Zg (Zw XG yf<|Za (Rw 65 1 XS (some E1) none none) IF<|Za (xT M6) IG<|Zw JU Wg<|Zc) YC)))))))))⟩
def Za2:CF:=⟨[(VE,none)],(Zg (Za (Z4 (kB false)) st2<|Zc) (Zg (Zw YX VK<|Zw YX XB<|Za (Vv XY (kI 1)) Vd<|Za (Q0 V5 X2 Ro) Ve<|Za (VD WA (kI 0) VU false) VT<|Zw Wt st2<|Zc) YC))⟩
def Za3:CF:=⟨[(VE,none)],(Zg (Za (Z4 (kI 0)) st2<|Zc) (Zg (Yi (kB false) (Zg (Zw YX VK<|Za (Sg V5 .u32) XB<|Za (ZS 168 [XY]) Vd<|Zw X2 st2<|Zc) YC) Zc) (Zg (Zw YX Ve<|Za (ZS 169 [WA]) VT<|Zw Wt st2<|Zc) YC)))⟩
def Za6:CF:=⟨[(VE,none)],(Zg (Za (Z4 (kI 0)) st2<|Zc) (Zg (Zg (Zw YX VK<|Za (VD V5 (k (nI .u64 0)) VU false) XB<|Zc) (Yi XY (Zg (Za (Z4 (kI 64)) st2<|Zc) YC) Zc)) (Zg (Zw YX Vd<|Zw YX Ve<|Za (zP WA) VT<|Za (Q0 X2 Wt Ro) VL<|Za (PJ Wi (k (nI .u64 285870213051353865))) UO<|Za (Lz WV (k (nI .u64 58))) X6<|Za (PH (k (.ptr 7 0)) XD 64 1) Wg<|Za (Yz XQ) Wl<|Za (Sg XS .i64) Wk<|Zw XG st2<|Zc) YC)))⟩
def fH:CF:=⟨[(VE,none)],(Zg (Za (Z4 (k (.str []))) st2<|Zc) (Zg (Zg (Zw YX VK<|Za (Y8 V5 (kI 10) Wd Xl) XB<|Zc) (Yi XY (Zg (Zw YX Vd<|Zw YX Ve<|Za (Xk WA (kI 1)) VT<|Za (W1 (k (.str KB)) (some X2) (some Wt) none) VL<|Zw Wi st2<|Zc) YC) Zc)) (Zg (Zw YX UO<|Za (PJ WV (kI 2)) X6<|Zw YX Wg<|Za (PJ XQ (kI 2)) Wl<|Za (Xk XS (kI 2)) Wk<|Za (W1 (k (.str SV)) (some XD) (some XG) none) WE<|Zw X5 st2<|Zc) YC)))⟩
def qp:CF:=⟨[(VE,none)],(Zg (Za (Z4 (kI 0)) st2<|Zc) (Zg (Zw YX XB<|Za (ZS 148 [XY]) Vd<|Za (ZS 147 [X2]) Ve<|Zw WA VK<|Zc) (Zg (Zw V5 VT<|Zw YX VL<|Zw V5 UO<|Za (PH (k (.ptr 5 0)) WV 20 1) X6<|Za (Yz XD) Wg<|Za (Y8 Wi XQ Tp WT) Wl<|Za (ZS 149 [XS]) Wk<|Za (Xk Wt XG) WE<|Zw X5 st2<|Zc) YC)))⟩
def N3:D:=(Zg (Zg (Zw XY VA<|Za (Y8 WM (kI 8) Tp WT) VJ<|Zc) (Yi Vl Zc (Vs 0))) (YW 1 (Zg (Zw Wj Uq<|Za (FE VY (k (nI .u64 100000000))) Uu<|Za (Sg VQ .u32) Uv<|Zw VR Vd<|Zc) (Zg (Zw Wj Uw<|Za (Ja VS (k (nI .u64 100000000))) UE<|Zw Uz st1<|Zc) (Zg (Zw X2 UN<|Za (Ja V7 (k (nI .u32 10000))) UF<|Zw X2 UW<|Za (FE V8 (k (nI .u32 10000))) Ti<|Zw Ud Ve<|Zw VW VT<|Zc) (Zg (Zw Wt Tn<|Za (Ja Tm (k (nI .u32 100))) T5<|Za (PJ TO (k (nI .u32 2))) T6<|Zw Wt SB<|Za (FE T4 (k (nI .u32 100))) Rn<|Za (PJ Sf (k (nI .u32 2))) Rx<|Zw TG VL<|Zw TH UO<|Zc) (Zg (Zw WA QN<|Za (Ja Pc (k (nI .u32 100))) QO<|Za (PJ Qz (k (nI .u32 2))) QX<|Zw WA PP<|Za (FE Ri (k (nI .u32 100))) P2<|Za (PJ QU (k (nI .u32 2))) P3<|Zw QA X6<|Zw PX Wg<|Zc) (Zg (Vj [XJ (Z4 YX) [(st0,YX)] P4 0 0,XJ (Z4 XY) [(XB,XY)] Ps 1 0,XJ (Vv PC (kI 1)) [(Ps,PC)] ON 2 2,XJ (Z4 YX) [(st0,YX)] O0 3 0,XJ (Z4 XY) [(XB,XY)] O1 4 0,XJ (Vv Od (kI 2)) [(O1,Od)] O2 5 16,XJ (Z4 WV) [(UO,WV)] Nw 6 0,XJ (Xk NH (k (nI .u32 1))) [(Nw,NH)] Nx 7 64,XJ (XR (k (.str SV)) OD) [(Nx,OD)] Mo 8 192,XJ (Z4 WV) [(UO,WV)] MN 9 0,XJ (XR (k (.str SV)) Nq) [(MN,Nq)] MO 10 512,XJ (WW RX QB 1) [(P4,RX),(ON,QB)] Mq 11 455,⟨Xr NI MJ 1,none,[(Mq,NI),(Mo,MJ)],d0,.eff,12,2503⟩,XJ (WW Oc Pd 1) [(O0,Oc),(O2,Pd)] Mr 13 8191,⟨Xr Ma N9 1,none,[(Mr,Ma),(MO,N9)],d0,.eff,14,16383⟩]) (Zg (Vj [XJ (Z4 YX) [(st0,YX)] MP 0 0,XJ (Z4 XY) [(XB,XY)] MQ 1 0,XJ (Vv MK (kI 3)) [(MQ,MK)] MR 2 2,XJ (Z4 YX) [(st0,YX)] LN 3 0,XJ (Z4 XY) [(XB,XY)] LP 4 0,XJ (Vv Lc (kI 4)) [(LP,Lc)] MT 5 16,XJ (Z4 Wi) [(VL,Wi)] LQ 6 0,XJ (Xk Mb (k (nI .u32 1))) [(LQ,Mb)] LR 7 64,XJ (XR (k (.str SV)) Ld) [(LR,Ld)] LS 8 192,XJ (Z4 Wi) [(VL,Wi)] Jl 9 0,XJ (XR (k (.str SV)) K1) [(Jl,K1)] Jm 10 512,XJ (WW Lb ML 1) [(MP,Lb),(MR,ML)] Jn 11 455,⟨Xr NK Kk 1,none,[(Jn,NK),(LS,Kk)],d0,.eff,12,2503⟩,XJ (WW OW OX 1) [(LN,OW),(MT,OX)] Jo 13 8191,⟨Xr Le NJ 1,none,[(Jo,Le),(Jm,NJ)],d0,.eff,14,16383⟩]) (Zg (Vj [XJ (Z4 YX) [(st0,YX)] Gd 0 0,XJ (Z4 XY) [(XB,XY)] Ge 1 0,XJ (Vv Ho (kI 5)) [(Ge,Ho)] Gf 2 2,XJ (Z4 YX) [(st0,YX)] Gg 3 0,XJ (Z4 XY) [(XB,XY)] IJ 4 0,XJ (Vv OE (kI 6)) [(IJ,OE)] IK 5 16,XJ (Z4 XQ) [(Wg,XQ)] IL 6 0,XJ (Xk JY (k (nI .u32 1))) [(IL,JY)] IM 7 64,XJ (XR (k (.str SV)) JZ) [(IM,JZ)] Gh 8 192,XJ (Z4 XQ) [(Wg,XQ)] FH 9 0,XJ (XR (k (.str SV)) Fx) [(FH,Fx)] FI 10 512,XJ (WW Hn K2 1) [(Gd,Hn),(Gf,K2)] Gi 11 455,⟨Xr Kl Hp 1,none,[(Gi,Kl),(Gh,Hp)],d0,.eff,12,2503⟩,XJ (WW JW JX 1) [(Gg,JW),(IK,JX)] Gj 13 8191,⟨Xr Hq Lf 1,none,[(Gj,Hq),(FI,Lf)],d0,.eff,14,16383⟩]) (Zg (Vj [XJ (Z4 YX) [(st0,YX)] Gk 0 0,XJ (Z4 XY) [(XB,XY)] Gl 1 0,XJ (Vv Hu (kI 7)) [(Gl,Hu)] Gm 2 2,XJ (Z4 YX) [(st0,YX)] Gn 3 0,XJ (Z4 XY) [(XB,XY)] FJ 4 0,XJ (Vv Lg (kI 8)) [(FJ,Lg)] FK 5 16,XJ (Z4 XD) [(X6,XD)] FM 6 0,XJ (Xk Fz (k (nI .u32 1))) [(FM,Fz)] FN 7 64,XJ (XR (k (.str SV)) J0) [(FN,J0)] FO 8 192,XJ (Z4 XD) [(X6,XD)] DP 9 0,XJ (XR (k (.str SV)) Hw) [(DP,Hw)] DQ 10 512,XJ (WW Ht Hv 1) [(Gk,Ht),(Gm,Hv)] DS 11 455,⟨Xr Km FA 1,none,[(DS,Km),(FO,FA)],d0,.eff,12,2503⟩,XJ (WW PY Fy 1) [(Gn,PY),(FK,Fy)] DT 13 8191,⟨Xr E0 EZ 1,none,[(DT,E0),(DQ,EZ)],d0,.eff,14,16383⟩]) (Zw XY Cy<|Za (Vv Ci (kI 8)) Cz<|Zw Cj XB<|Zc))))))))))))
def Ep:CF:=⟨[],(Zg (Zw YX WZ<|Za (Wf WI) W4<|Zw Wv XB<|Zc) (Zg (YW 0 (Vm N3)) (Zg (Zw Wj CA<|Za (Sg J1 .u32) CB<|Zw Ck Wl<|Zc) (Zg (Zg (Zw XY ye<|Za (Y8 xg (kI 4) Tp WT) yf<|Zc) (Yi E1 (Zg (Zw XS IF<|Za (FE M6 (k (nI .u32 10000))) IG<|Zw JU Wk<|Zc) (Zg (Zw XS G9<|Za (Ja Mx (k (nI .u32 10000))) Fa<|Zw EU Wl<|Zc) (Zg (Zw XG Fb<|Za (Ja Nd (k (nI .u32 100))) Fc<|Za (PJ M7 (k (nI .u32 2))) Fd<|Zw XG Fe<|Za (FE M8 (k (nI .u32 100))) DN<|Za (PJ Bp (k (nI .u32 2))) DO<|Zw Ky WE<|Zw EV WN<|Zc) (Zg (Vj [XJ (Z4 YX) [(st0,YX)] Ff 0 0,XJ (Z4 XY) [(XB,XY)] Fg 1 0,XJ (Vv My (kI 1)) [(Fg,My)] Fh 2 2,XJ (Z4 YX) [(st0,YX)] Fi 3 0,XJ (Z4 XY) [(XB,XY)] Fj 4 0,XJ (Vv M9 (kI 2)) [(Fj,M9)] Fk 5 16,XJ (Z4 Wh) [(WN,Wh)] Fl 6 0,XJ (Xk GP (k (nI .u32 1))) [(Fl,GP)] Fm 7 64,XJ (XR (k (.str SV)) EX) [(Fm,EX)] Fo 8 192,XJ (Z4 Wh) [(WN,Wh)] Fp 9 0,XJ (XR (k (.str SV)) GR) [(Fp,GR)] Fq 10 512,XJ (WW EW GM 1) [(Ff,EW),(Fh,GM)] Fr 11 455,⟨Xr NF GQ 1,none,[(Fr,NF),(Fo,GQ)],d0,.eff,12,2503⟩,XJ (WW GN GO 1) [(Fi,GN),(Fk,GO)] Fs 13 8191,⟨Xr EY GS 1,none,[(Fs,EY),(Fq,GS)],d0,.eff,14,16383⟩]) (Zg (Vj [XJ (Z4 YX) [(st0,YX)] IH 0 0,XJ (Z4 XY) [(XB,XY)] II 1 0,XJ (Vv NG (kI 3)) [(II,NG)] Ag 2 2,XJ (Z4 YX) [(st0,YX)] Ah 3 0,XJ (Z4 XY) [(XB,XY)] Ai 4 0,XJ (Vv Bs (kI 4)) [(Ai,Bs)] Aj 5 16,XJ (Z4 X5) [(WE,X5)] Ak 6 0,XJ (Xk Bt (k (nI .u32 1))) [(Ak,Bt)] Al 7 64,XJ (XR (k (.str SV)) La) [(Al,La)] Am 8 192,XJ (Z4 X5) [(WE,X5)] An 9 0,XJ (XR (k (.str SV)) Mz) [(An,Mz)] Ao 10 512,XJ (WW GU Bq 1) [(IH,GU),(Ag,Bq)] Ap 11 455,⟨Xr Bw Bu 1,none,[(Ap,Bw),(Am,Bu)],d0,.eff,12,2503⟩,XJ (WW Br JV 1) [(Ah,Br),(Aj,JV)] Aq 13 8191,⟨Xr Bx Bv 1,none,[(Aq,Bx),(Ao,Bv)],d0,.eff,14,16383⟩]) (Zw XY wH<|Za (Vv y5 (kI 4)) wI<|Zw y6 XB<|Zc)))))) Zc)) (Zg (Zg (Zw XY wJ<|Za (Y8 y7 (kI 2) Tp WT) wK<|Zc) (Yi y8 (Zg (Zw XS wL<|Za (FE y9 (k (nI .u32 100))) wM<|Za (PJ xa (k (nI .u32 2))) wN<|Zw xb WJ<|Zc) (Zg (Zw XS r6<|Za (Ja sM (k (nI .u32 100))) r7<|Zw sN Wl<|Zc) (Zg (Vj [XJ (Z4 YX) [(st0,YX)] wO 0 0,XJ (Z4 XY) [(XB,XY)] Ar 1 0,XJ (Vv By (kI 1)) [(Ar,By)] As 2 2,XJ (Z4 YX) [(st0,YX)] Au 3 0,XJ (Z4 XY) [(XB,XY)] Av 4 0,XJ (Vv BB (kI 2)) [(Av,BB)] Aw 5 16,XJ (Z4 X8) [(WJ,X8)] Ax 6 0,XJ (Xk BD (k (nI .u32 1))) [(Ax,BD)] Ay 7 64,XJ (XR (k (.str SV)) BE) [(Ay,BE)] Az 8 192,XJ (Z4 X8) [(WJ,X8)] AA 9 0,XJ (XR (k (.str SV)) BG) [(AA,BG)] AB 10 512,XJ (WW xc Bz 1) [(wO,xc),(As,Bz)] wP 11 455,⟨Xr xd BF 1,none,[(wP,xd),(Az,BF)],d0,.eff,12,2503⟩,XJ (WW BA BC 1) [(Au,BA),(Aw,BC)] wQ 13 8191,⟨Xr xe BH 1,none,[(wQ,xe),(AB,BH)],d0,.eff,14,16383⟩]) (Zw XY iS<|Za (Vv lL (kI 2)) iT<|Zw lM XB<|Zc)))) Zc)) (Zg (Zw XY iU<|Za (Y8 lN (kI 0) Tq Vn) iV<|Zc) (Yi lO (Zw YX iW<|Zw XS iX<|Za (Xk (k (nI .u32 48)) xf) iY<|Za (Sg lQ .u8) iZ<|Za (WW lP (kI 0) 1) i6<|Za (Xr lS lR 1) d0<|Zc) Zc)))))))⟩
def Cf:CF:=⟨[(VE,none)],(Zg (Za (Z4 (kI 0)) st2<|Zc) (Zg (Zg (Zw YX VK<|Za (Y8 V5 (k (nI .u64 4294967296)) Tp WT) XB<|Zc) (Yi XY (Zg (Zw YX Vd<|Za (Lz X2 (k (nI .u64 32))) Ve<|Zw WA st0<|Zc) (Za (Z4 (kI 32)) st2<|Zc)) Zc)) (Zg (Zg (Zw YX VT<|Za (Y8 Wt (k (nI .u64 65536)) Tp WT) VL<|Zc) (Yi Wi (Zg (Zw YX UO<|Za (Lz WV (k (nI .u64 16))) X6<|Zw XD st0<|Zc) (Zw VE Wg<|Za (Xk XQ (kI 16)) Wl<|Zw XS st2<|Zc)) Zc)) (Zg (Zg (Zw YX Wk<|Za (Y8 XG (k (nI .u64 256)) Tp WT) WE<|Zc) (Yi X5 (Zg (Zw YX WN<|Za (Lz Wh (k (nI .u64 8))) WJ<|Zw X8 st0<|Zc) (Zw VE WZ<|Za (Xk WI (kI 8)) W4<|Zw Wv st2<|Zc)) Zc)) (Zg (Zw VE VA<|Zw YX VJ<|Za (Sg Vl .u8) Uq<|Za (XR (k (.str xw)) VY) Uu<|Za (Sg VQ .i64) Uv<|Za (Xk WM VR) Uw<|Zw VS st2<|Zc) YC)))))⟩
def Za1:CF:=⟨[(VE,none)],(Zg (Za (Z4 (kI 0)) st2<|Zc) (Zg (Zw YX VK<|Za (PJ V5 (kI 78913)) XB<|Za (Lz XY (k (nI .u64 18))) Vd<|Zw X2 st2<|Zc) YC))⟩
def fM:CF:=⟨[(VE,none)],(Zg (Za (Z4 (kI 0)) st2<|Zc) (Zg (Zg (Zw YX VK<|Zc) (Yi V5 (Zg (Za (Z4 (kI 1)) st2<|Zc) YC) Zc)) (Zg (Za (Z4 (kI 0)) st2<|Zc) YC)))⟩
def c29:CF:=⟨[(VE,none),(V5,none),(XY,none)],(Zg (Za (Z4 (k (.str []))) st2<|Za (Z4 (k (.str []))) VK<|Za (Z4 (kB false)) XB<|Zc) (Zg (Zg (Zw YX Ve<|Za (Wc WA) VT<|Za (Y8 Wt (kI 100) QV TN) VL<|Zc) (Yi Wi (Zg (Zw YX UO<|Za (Z4 (k (.str []))) st2<|Zw WV VK<|Za (Z4 (kB true)) XB<|Zc) YC) Zc)) (Zg (Zw YX X6<|Zw YX Wg<|Za (Wc XQ) Wl<|Za (Vv XS (kI 1)) Wk<|Za (Si false [XG,(kI 156)]) WE<|Za (W1 XD none (some X5) none) WN<|Za (ZS 56 [Wh,(k (nI .u8 47))]) WJ<|Zw X8 Vd<|Zc) (Zg (Zg (Zw X2 WZ<|Za (Y8 WI (kI 0) Wd Xl) W4<|Zw Wv VA<|Ya WM false (Z4 YX) VJ<|Ya WM false (Wc Vl) Uq<|Ya WM false (Z4 X2) Uu<|Ya WM false (Vv VY VQ) Uv<|Ya WM false (Vv VR (kI 1)) Uw<|Ya WM false (Y8 VS (kI 100) Tq Vn) UE<|Za (Xn WM (kB true) Uz) UN<|Zc) (Yi V7 (Zg (Za (Z4 (k (.str []))) st2<|Za (Z4 (k (.str [112,97,120]))) VK<|Za (Z4 (kB false)) XB<|Zc) YC) Zc)) (Zg (Vj [XJ (Z4 YX) [(st0,YX)] UF 0 0,XJ (Z4 X2) [(Vd,X2)] UW 1 0,XJ (W1 Ud none (some V8) none) [(UF,Ud),(UW,V8)] Ti 2 3,XJ (Z4 YX) [(st0,YX)] Tn 3 0,XJ (Z4 X2) [(Vd,X2)] T5 4 0,XJ (Xk TO (kI 1)) [(T5,TO)] T6 5 16,XJ (W1 Tm (some TG) none none) [(Tn,Tm),(T6,TG)] SB 6 56,⟨Z4 VW,none,[(Ti,VW)],st2,.eff,7,7⟩,⟨Z4 T4,none,[(SB,T4)],VK,.eff,8,255⟩,⟨Z4 (kB true),none,[],XB,.eff,9,511⟩]) YC)))))⟩
def c30:CF:=⟨[(VE,none)],(Zg (Za (Ko YX 28) st1<|Za (Z4 (k (.str []))) st2<|Zc) (Zg (Zg (Za (XK Wj 1) VK<|Za (XK V5 0) XB<|Za (Yz XY) Vd<|Za (VD X2 (kI 1) VU false) Ve<|Zc) (Yi WA (Zg (Za (XK Wj 0) VT<|Za (Yz Wt) VL<|Za (Xk Wi (k (.str [47]))) UO<|Zw WV st2<|Zc) YC) Zc)) (Zg (Za (XK Wj 0) X6<|Za (Yz XD) Wg<|Zw XQ st2<|Zc) YC)))⟩
def c31:CF:=⟨[(VE,none)],(Zg (Za (Z4 (k (.str []))) st2<|Zc) (Zg (Zw YX VK<|Za (ZS 57 [V5,(kI 10)]) XB<|Zw XY st2<|Zc) YC))⟩
def Es:D:=(Zg (Za (Y8 XS XQ Wd Xl) Wk<|Zc) (Zg (Yi XG Zc (Vs 0)) (Zg (YW 1 (Zg (Za (WW XD XS 2) WE<|Za (To X5 2) WN<|Za (V9 71 [(.str []),(.str [])]) Ve<|Za (Xr WA Wh 2) d0<|Zc) (Zg (Za (To WA 2) WJ<|Za (ZS 35 [X8]) WZ<|Zw WI VT<|Zc) (Zg (Zg (Zw XY W4<|Za (Wf Wv) VA<|Zw Wt VJ<|Za (Xk WM Vl) Uq<|Za (Y8 VY (kI 16777216) Tq Vn) Uu<|Zc) (Yi VQ (Zg (Za (Z4 (k .nils)) st2<|Za (Z4 (kI 3)) VK<|Zc) YC) Zc)) (Zg (Zw XY Uv<|Zw Wt Uw<|Za (ZS 36 [VR,VS,(kI 10)]) UE<|Zw Uz XB<|Zc) (Zg (Vj [XJ (Z4 XY) [(XB,XY)] UN 0 0,⟨VV 5 1 1 [(nI .u8 0)] [⟨0,1,(k (nI .u8 32))⟩],none,[],UF,.free,1,0⟩,XJ (XK WA 0) [(Ve,WA)] Ti 3 0,⟨Yz VW,none,[(Ti,VW)],Tn,.read,4,8⟩,⟨VV 5 1 1 [(nI .u8 0)] [⟨0,1,(k (nI .u8 61))⟩],none,[],T6,.free,6,0⟩,⟨W5 V7 Ud 5 1 1,none,[(UN,V7),(UF,Ud)],UW,.eff,2,3⟩,⟨W5 V8 Tm 5 1 1,none,[(UW,V8),(Tn,Tm)],T5,.eff,5,31⟩,⟨W5 TO TG 5 1 1,none,[(T5,TO),(T6,TG)],SB,.eff,7,127⟩,⟨Z4 T4,none,[(SB,T4)],XB,.eff,8,255⟩]) (Zw XY Rn<|Za (XK WA 1) Rx<|Za (Yz TH) QN<|Za (W5 Sf Pc 5 1 1) QO<|Za (VV 5 1 1 [(nI .u8 0)] [⟨0,1,(k (nI .u8 10))⟩]) QX<|Za (W5 Qz QA 5 1 1) PP<|Zw Ri XB<|Zc))))))) (Za (Xk XS (kI 1)) P2<|Zw QU Wl<|Zc))))
def c16:CF:=⟨[(VE,none),(V5,none)],(Zg (Za (Z4 (k .nils)) st2<|Za (Z4 (kI 0)) VK<|Zc) (Zg (Zg (Zw YX VL<|Za (ZS 32 [Wi,(k (.func 33 [] []))]) UO<|Zc) (Yi WV (Zg (Za (Z4 (k .nils)) st2<|Za (Z4 (kI 1)) VK<|Zc) YC) Zc)) (Zg (Za (Z4 (k .nils)) XB<|Zc) (Zg (Zg (Zw YX X6<|Za (Wf XD) Wg<|Za (Z4 (kI 0)) Wl<|Zc) (YW 0 (Vm Es))) (Zg (Zw XY P3<|Zw PX st2<|Za (Z4 (kI 0)) VK<|Zc) YC)))))⟩
def c32:CF:=⟨[(XY,none)],(Zg (Za (Z4 (kB false)) XB<|Zc) (Zg (Zw YX Vd<|Zw Wj Ve<|Za (ZS 58 [X2,WA]) VT<|Za (Y8 Wt (kI 0) Tp WT) VL<|Zw Wi XB<|Zc) YC))⟩
def Ev:D:=(Zg (Za (Y8 Wi Wt Wd Xl) UO<|Zc) (Zg (Yi WV Zc (Vs 0)) (Zg (YW 1 (Zg (Zw Wi X6<|Zw XD Vd<|Zc) (Zg (Zw Wj Wg<|Zw YX Wl<|Zw X2 Wk<|Za (WW XS XG 2) WE<|Za (To X5 2) WN<|Za (OG XQ Tryz.prog [Wh]) WJ<|Zc) (Yi X8 (Zg (Zw X2 WZ<|Zw WI XB<|Zc) YC) Zc)))) (Za (Xk Wi (kI 1)) W4<|Zw Wv VL<|Zc))))
def c58:CF:=⟨[(XY,none)],(Zg (Za (Z4 (kI 0)) XB<|Zc) (Zg (Zg (Zw YX Ve<|Za (Wf WA) VT<|Za (Z4 (kI 0)) VL<|Zc) (YW 0 (Vm Ev))) (Zg (Za (Z4 (k (.int .i64 (.negSucc 0)))) XB<|Zc) YC)))⟩
def c33:CF:=⟨[(VE,none)],(Zg (Za (Ko YX 71) st1<|Za (Z4 (kB false)) st2<|Zc) (Zg (Za (To Wj 2) VK<|Za (ZS 34 [V5]) XB<|Za (Qm XY) Vd<|Zw X2 st2<|Zc) YC))⟩
def c34:CF:=⟨[(VE,none)],(Zg (Za (Ko YX 71) st1<|Za (Z4 (kB false)) st2<|Zc) (Zg (Za (XK Wj 0) VK<|Za (Yz V5) XB<|Za (VD XY (k (.str [])) Mw true) Vd<|Zw X2 Ve<|Ya WA true (XK Wj 0) VT<|Ya WA true (Yz Wt) VL<|Ya WA true (Wc Wi) UO<|Ya WA true (Y8 WV (kI 255) QV TN) X6<|Za (Xn WA XD (kB false)) Wg<|Zw XQ Wl<|Ya XS true (XK Wj 0) Wk<|Ya XS true (Yz XG) WE<|Ya XS true (ZS 54 [X5,(k (.str [0,61,10]))]) WN<|Ya XS true (Qm Wh) WJ<|Za (Xn XS X8 (kB false)) WZ<|Zw WI st2<|Zc) YC))⟩
def Et:D:=(Zg (Zg (Zw XY W4<|Zw V5 VA<|Zw XY VJ<|Za (ZS 59 [Vl]) Uq<|Za (Wc VY) Uu<|Za (Xk WM VQ) Uv<|Za (VD Wv VR VU true) Uw<|Zc) (Yi VS Zc (Vs 0))) (YW 1 (Zw V5 UE<|Zw XY UN<|Za (ZS 59 [V7]) UF<|Za (Wc Ud) UW<|Za (Xk Uz V8) Ti<|Zw VW XB<|Zc)))
def c35:CF:=⟨[(VE,none)],(Zg (Za (Ko YX 71) st1<|Za (Z4 (kI 0)) st2<|Zc) (Zg (Zg (Za (To Wj 2) Vd<|Za (ZS 34 [X2]) Ve<|Za (Qm WA) VT<|Zc) (Yi Wt (Zg (Za (Z4 (kI 0)) st2<|Zc) YC) Zc)) (Zg (Za (XK Wj 0) VL<|Za (Yz Wi) UO<|Za (Wc WV) X6<|Za (XK Wj 1) Wg<|Za (Yz XQ) Wl<|Za (Wc XS) Wk<|Za (Xk XD XG) WE<|Za (Xk X5 (kI 3)) WN<|Zw Wh VK<|Zc) (Zg (Zw V5 WJ<|Za (Xk X8 (kI 1)) WZ<|Zw WI XB<|Zc) (Zg (YW 0 (Vm Et)) (Zg (Zw XY Tn<|Zw Tm st2<|Zc) YC))))))⟩
def c59:CF:=⟨[(VE,none)],(Zg (Za (Z4 (k (.str []))) st2<|Zc) (Zg (Zw YX VK<|Za (ZS 89 [V5]) XB<|Zw XY st2<|Zc) YC))⟩
def c89:CF:=⟨[(VE,none)],(Zg (Za (Z4 (k (.str []))) st2<|Zc) (Zg (Zw YX VK<|Za (ZS 88 [V5,(kI 10)]) XB<|Zw XY st2<|Zc) YC))⟩
def c36:CF:=⟨[(WA,none)],(Zg (Za (Z4 (k .nils)) Ve<|Zc) (Zg (Zw YX VT<|Zw Wj VL<|Zw VE UO<|Za (ZS 60 [Wt,Wi,WV]) X6<|Zw XD Ve<|Zc) YC))⟩
def c60:CF:=⟨[(WA,none)],(Zg (Za (Z4 (k .nils)) Ve<|Zc) (Zg (Zw Wj VL<|Za (Sg Wi .u64) UO<|Zw WV VT<|Zc) (Zg (Zg (Zw Wj X6<|Za (Y8 XD (kI 0) Wd Xl) Wg<|Zc) (Yi XQ (Zg (Zw YX Wl<|Za (VV 5 1 1 [(nI .u8 0)] [⟨0,1,(k (nI .u8 45))⟩]) Wk<|Za (W5 XS XG 5 1 1) WE<|Zw X5 st0<|Zc) (Zw Wt WN<|Za (zP Wh) WJ<|Zw X8 VT<|Zc)) Zc)) (Zg (Zw YX WZ<|Zw Wt W4<|Zw VE VA<|Za (ZS 90 [WI,Wv,WM]) VJ<|Zw Vl Ve<|Zc) YC))))⟩
def c90:CF:=⟨[(WA,none)],(Zg (Za (Z4 (k .nils)) Ve<|Zc) (Zg (Zg (Zw VE UO<|Za (VD WV (kI 10) VU false) X6<|Zc) (Yi XD (Zg (Zg (Zw Wj Wg<|Za (Y8 XQ (k (nI .u64 100)) Wd Xl) Wl<|Zc) (Yi XS (Zg (Zw YX Wk<|Zw Wj WE<|Za (Sg X5 .i64) WN<|Za (ZS 118 [Wh]) WJ<|Za (W5 XG X8 5 1 1) WZ<|Zw WI Ve<|Zc) YC) Zc)) (Zg (Za (Mf 172 24 (nI .u8 0)) VT<|Zc) (Zg (Zw Wj W4<|Za (ZS 119 [Wv]) VA<|Zw WM VL<|Zc) (Zg (Zw Wi VJ<|Za (Rw 24 1 Wt none (some Vl) none) Uq<|Zw Wj Uu<|Za (ZS 120 [VY,VQ]) Uv<|Zc) (Zg (Zw YX Uw<|Zw Wi UE<|Za (Rw 24 1 Wt none (some Uz) none) UN<|Za (W5 VS V7 5 1 1) UF<|Zw Ud Ve<|Zc) YC))))) Zc)) (Zg (Zw YX Ti<|Zw Wj Tn<|Zw VE T5<|Za (ZS 121 [VW,Tm,TO,(kB false),(kB true)]) T6<|Zw TG UW<|Za (Xw V8 0) SB<|Za (Xw V8 1) Rn<|Zw T4 st0<|Zc) (Zg (Zw YX Rx<|Zw TH Ve<|Zc) YC))))⟩
def mj:D:=(Zg (Za (Y8 XQ XD Wd Xl) Wl<|Zc) (Zg (Yi XS Zc (Vs 0)) (Zg (YW 1 (Zg (Za (WW WV XQ 1) Wk<|Za (Yz XG) WE<|Zw X5 Vd<|Zc) (Zg (Zw V5 WN<|Zw X2 WJ<|Za (Wf X8) WZ<|Za (Xk Wh WI) W4<|Zw Wv VK<|Zc) (Zg (Zw V5 VA<|Za (Y8 WM (kI 0) Wd Xl) VJ<|Zc) (Yi Vl (Za (Pn (k (.str ZiL)) 9) Uq<|Za (QG VY) d0<|Zc) Zc))))) (Za (Xk XQ (kI 1)) Uu<|Zw VQ Wg<|Zc))))
def mp:D:=(Zg (Za (Y8 Ud V7 Wd Xl) UW<|Zc) (Zg (Yi V8 Zc (Vs 2)) (Zg (YW 3 (Zg (Za (WW Uz Ud 1) Ti<|Za (Yz VW) Tn<|Zw Tm VL<|Zc) (Zw WA T5<|Zw Wi T6<|Za (W5 TO TG 5 1 1) SB<|Zw T4 Ve<|Zc))) (Za (Xk Ud (kI 1)) Rn<|Zw Sf UF<|Zc))))
def c21:CF:=⟨[(VE,none)],(Zg (Za (Z4 (k .nils)) st2<|Zc) (Zg (Za (Z4 (kI 0)) VK<|Zc) (Zg (Zg (Zw YX UO<|Za (Wf WV) X6<|Za (Z4 (kI 0)) Wg<|Zc) (YW 0 (Vm mj))) (Zg (Zw V5 Uv<|Za (ZS 42 [(k .nils),VR]) Uw<|Zw VS Ve<|Zc) (Zg (Zg (Zw YX UE<|Za (Wf Uz) UN<|Za (Z4 (kI 0)) UF<|Zc) (YW 2 (Vm mp))) (Zg (Zw WA Rx<|Zw TH st2<|Zc) YC))))))⟩
def c42:CF:=⟨[(XY,none)],(Zg (Za (Z4 (k .nils)) XB<|Zc) (Zg (Zg (Zw Wj Vd<|Za (Y8 X2 (kI 0) Wd Xl) Ve<|Zc) (Yi WA (Za (Pn (k (.str ZiM)) 9) VT<|Za (QG Wt) d0<|Zc) Zc)) (Zg (Zg (Zw Wj VL<|Zw YX UO<|Za (uH WV) X6<|Zw YX Wg<|Za (Wf XQ) Wl<|Za (Vv XD XS) Wk<|Za (Vv Wi XG) WE<|Zw X5 st1<|Zc) (Zg (Zw Wj WN<|Za (Y8 Wh (kI 0) Tq Vn) WJ<|Zc) (Yi X8 (Zw YX WZ<|Zw YX W4<|Za (uH Wv) VA<|Za (T0 1 WI none (some WM) none) VJ<|Zw Wj Uq<|Za (NQ Vl VY 5 1 1 [(nI .u8 0)]) Uu<|Zw YX Uv<|Za (Wf VR) Uw<|Za (T0 1 VQ none (some VS) none) UE<|Zw Uz st0<|Zc) Zc))) (Zg (Zw YX UN<|Zw V7 XB<|Zc) YC))))⟩
def c62:CF:=⟨[(VE,none)],(Zg (Za (Z4 (k .nils)) st2<|Zc) (Zg (Zg (Zw YX VK<|Za (VD V5 (k .nils) qG false) XB<|Zc) (Yi XY (Zg (Za (Z4 (k .nils)) st2<|Zc) YC) Zc)) (Zg (Za (VV 5 1 0 (List.replicate 0 [(nI .u8 0)]).flatten []) Vd<|Zw YX Ve<|Za (W5 X2 WA 5 1 1) VT<|Zw Wt st2<|Zc) YC)))⟩
def c12:CF:=⟨[(VE,none)],(Zg (Za (Z4 (kI 0)) st2<|Zc) (Zg (Zg (Zw YX VK<|Za (Y8 V5 (kI 0) Wd Xl) XB<|Zc) (Yi XY (Zg (Za (Z4 (kI 0)) st2<|Zc) YC) Zc)) (Zg (Zw YX Vd<|Za (zP X2) Ve<|Za (Q0 WA (kI 511) Ro) VT<|Zw Wt st2<|Zc) YC)))⟩
def c3:CF:=⟨[(WA,none)],(Zg (Za (Ko YX 28) VK<|Za (Z4 (kB false)) Ve<|Zc) (Zg (Za (To V5 9) VA<|Za (VV 28 9 1 [(.str []),(nI .i64 0),(nI .u32 0),(nI .u32 0),(nI .u32 0),(nI .i64 0),.nils,.nils,(.str [])] [⟨0,9,WM⟩]) VJ<|Za (ZS 4 [Vl]) Uq<|Zw VY VT<|Zc) (Zg (Zw Wt Uv<|Za (ZS 5 [VR]) Uw<|Zw VS Uu<|Za (Xw VQ 0) UE<|Za (Xw VQ 1) UN<|Zw Uz VL<|Zw V7 UO<|Zc) (Zg (Zg (Zw WV UF<|Za (VD Ud (kI 0) VU true) UW<|Zc) (Yi V8 (Zg (Za (ZS 6 []) Ti<|Zw VW Ve<|Zc) YC) Zc)) (Zg (Zw Wt T5<|Za (WW TO (kI 0) 9) T6<|Za (To TG 9) SB<|Za (ZS 7 [T4]) Rn<|Zw Sf Tn<|Za (Xw Tm 0) Rx<|Za (Xw Tm 1) QN<|Zw TH X6<|Zw Pc Wg<|Zc) (Zg (Zg (Zw XQ QO<|Za (VD Qz (kI 0) VU true) QX<|Zw QA PP<|Ya Ri false (Z4 XD) P2<|Ya Ri false (Wf QU) P3<|Ya Ri false (Y8 PX (kI 512) Wd Xl) P4<|Za (Xn Ri (kB true) RX) Ps<|Zc) (Yi PC (Zg (Za (Z4 (kB false)) Ve<|Zc) YC) Zc)) (Zg (Zw Wj ON<|Za (Sg QB .i64) O0<|Za (FE Oc (kI 512)) O1<|Zw Od Wl<|Zc) (Zg (Zg (Zw XS O2<|Za (Y8 Pd (kI 148) Tp WT) Nw<|Zw NH Nx<|Ya OD true (Z4 XS) Mo<|Ya OD true (Y8 MJ (kI 156) Wd Xl) MN<|Za (Xn OD Nq (kB false)) MO<|Zw N9 Mq<|Ya NI false (Z4 VE) Mr<|Ya NI false (VD Ma (k (nI .u8 0)) VU false) MP<|Za (Xn NI (kB true) Lb) MQ<|Zc) (Yi MK (Zg (Za (ZS 6 []) MR<|Zw ML Ve<|Zc) YC) Zc)) (Zg (Zw Wi LN<|Za (W5 (k .nils) OW 5 1 1) LP<|Zw Lc Wk<|Zc) (Zg (Zw XG MT<|Zw XD LQ<|Za (Wf Mb) LR<|Za (Vv Ld (kI 512)) LS<|Zw XS Jl<|Za (Xk Kk K1) Jm<|Za (WW OX NJ 1) Jn<|Za (Yz NK) Jo<|Zw VE Gd<|Za (Q0 Le Hn CI) Ge<|Za (WW OX NJ 1) Gf<|Za (Xr K2 Ho 1) d0<|Zc) (Zg (Zw XG IJ<|Za (ZS 8 [OE]) IK<|Zw JX Gg<|Za (Xw JW 0) IL<|Za (Xw JW 1) IM<|Zw JY WE<|Zw JZ WN<|Zc) (Zg (Zw Wi Gh<|Za (W5 (k .nils) Hp 5 1 1) FH<|Zw Fx WJ<|Zc) (Zg (Zw X8 FI<|Zw XS Gi<|Za (WW Lf Kl 1) Gj<|Za (Yz Hq) Gk<|Zw VE Gl<|Za (Q0 Ht Hu CI) Gm<|Za (WW Lf Kl 1) Gn<|Za (Xr PY Hv 1) d0<|Zc) (Zg (Zw X8 FK<|Za (ZS 8 [Fy]) FM<|Zw Fz FJ<|Za (Xw Lg 0) FN<|Za (Xw Lg 1) FO<|Zw J0 WZ<|Zw FA W4<|Zc) (Zg (Zw Wh DP<|Za (VD Hw (kI 21) VU false) DQ<|Zw EZ DS<|Ya Km false (Z4 Wh) DT<|Ya Km false (VD E0 (kI 5) VU false) Cy<|Za (Xn Km (kB true) Ci) Cz<|Zw Cj CA<|Ya J1 true (Z4 Wv) CB<|Ya J1 true (VD Ck (kI 21) VU false) ye<|Ya J1 true (Z4 xg) yf<|Ya E1 false (Z4 Wv) IF<|Ya E1 false (VD M6 (kI 5) VU false) IG<|Ya J1 true (Xn E1 (kB true) JU) G9<|Za (Xn J1 Mx (kB false)) Fa<|Zw EU Fb<|Ya Nd true (ZS 6 []) Fc<|Za (Xn Nd M7 (kB false)) Fd<|Zw Ky Ve<|Zc) YC)))))))))))))))⟩
def CT:D:=(Zg (Zg (Zw Wt Mr<|Za (XK X2 1) MP<|Za (XK Lb 5) MQ<|Za (Yz MK) MR<|Za (Wf ML) LN<|Za (Y8 Ma OW Wd Xl) LP<|Zw Lc MT<|Ya OX true (Z4 Wt) LQ<|Ya OX true (Y8 Mb (kI 20) Wd Xl) LR<|Za (Xn OX Ld (kB false)) LS<|Zc) (Yi Kk Zc (Vs 2))) (Zg (YW 3 (Zg (Za (XK X2 1) Jn<|Za (XK NK 5) Jo<|Za (Yz Le) Gd<|Zw Wt Ge<|Za (WW Hn Ho 2) Gf<|Za (To K2 2) Gg<|Za (V9 41 [(.str []),(.str [])]) VL<|Za (Xr Wi JW 2) d0<|Zc) (Vj [XJ (Z4 WA) [(Ve,WA)] IJ 0 0,XJ (XK Wi 0) [(VL,Wi)] IK 1 0,⟨Yz JX,none,[(IK,JX)],IL,.read,2,2⟩,XJ (XK Wi 0) [(VL,Wi)] IM 3 0,⟨Yz JZ,none,[(IM,JZ)],Gh,.read,4,8⟩,XJ (Wc Hp) [(Gh,Hp)] FH 5 24,XJ (Si false [Fx,(kI 250)]) [(FH,Fx)] FI 6 56,XJ (W1 JY none (some Lf) none) [(IL,JY),(FI,Lf)] Gi 7 126,XJ (XK Wi 1) [(VL,Wi)] Gj 8 0,⟨Yz Hq,none,[(Gj,Hq)],Gk,.read,9,256⟩,XJ (XK Wi 1) [(VL,Wi)] Gl 10 0,⟨Yz Hu,none,[(Gl,Hu)],Gm,.read,11,1024⟩,XJ (Wc Hv) [(Gm,Hv)] Gn 12 3072,XJ (Si false [PY,(kI 700)]) [(Gn,PY)] FJ 13 7168,XJ (W1 Ht none (some Lg) none) [(Gk,Ht),(FJ,Lg)] FK 14 16128,⟨Vz [(.str []),(.str [])] [⟨0,1,Kl⟩,⟨1,1,Fy⟩],none,[(Gi,Kl),(FK,Fy)],FM,.free,15,32766⟩,⟨VV 41 2 1 [(.str []),(.str [])] [⟨0,2,Fz⟩],none,[(FM,Fz)],FN,.free,16,65534⟩,⟨W5 OE J0 41 2 32,none,[(IJ,OE),(FN,J0)],FO,.eff,17,131071⟩,⟨Z4 FA,none,[(FO,FA)],Ve,.eff,18,262143⟩]))) (Zw Wt Jl<|Za (Xk K1 (kI 1)) Jm<|Zw NJ VT<|Zc)))
def CU:D:=(Zg (Zg (Zw XY UO<|Zw YX X6<|Za (Wf XD) Wg<|Za (Y8 WV XQ Wd Xl) Wl<|Zw XS Wk<|Ya XG true (Z4 XY) WE<|Ya XG true (Y8 X5 (kI 12) Wd Xl) WN<|Za (Xn XG Wh (kB false)) WJ<|Zc) (Yi X8 Zc (Vs 0))) (Zg (YW 1 (Zg (Zw YX VA<|Zw XY VJ<|Za (WW WM Vl 9) Uq<|Za (To VY 9) Uu<|Za (V9 28 [(.str []),(nI .i64 0),(nI .u32 0),(nI .u32 0),(nI .u32 0),(nI .i64 0),.nils,.nils,(.str [])]) Vd<|Za (Xr X2 VQ 9) d0<|Zc) (Zg (Vj [XJ (XK X2 0) [(Vd,X2)] Uv 0 0,⟨Yz VR,none,[(Uv,VR)],Uw,.read,1,1⟩,XJ (XK X2 0) [(Vd,X2)] UE 2 0,⟨Yz Uz,none,[(UE,Uz)],UN,.read,3,4⟩,XJ (Wc V7) [(UN,V7)] UF 4 12,XJ (Si false [Ud,(kI 4100)]) [(UF,Ud)] UW 5 28,XJ (W1 VS none (some V8) none) [(Uw,VS),(UW,V8)] Ti 6 63,XJ (XK X2 1) [(Vd,X2)] Tn 7 0,XJ (XK Tm 7) [(Tn,Tm)] T5 8 128,⟨Yz TO,none,[(T5,TO)],T6,.read,9,384⟩,XJ (XK X2 1) [(Vd,X2)] SB 10 0,XJ (XK T4 7) [(SB,T4)] Rn 11 1024,⟨Yz Sf,none,[(Rn,Sf)],Rx,.read,12,3072⟩,XJ (Wc TH) [(Rx,TH)] QN 13 7168,XJ (Si false [Pc,(kI 4100)]) [(QN,Pc)] QO 14 15360,XJ (W1 TG none (some Qz) none) [(T6,TG),(QO,Qz)] QX 15 32640,XJ (XK X2 0) [(Vd,X2)] PP 16 8191,⟨Xr Ri VW 1,none,[(PP,Ri),(Ti,VW)],d0,.eff,17,73727⟩,XJ (XK X2 1) [(Vd,X2)] P2 18 262143,XJ (XK QU 7) [(P2,QU)] P3 19 524287,⟨Xr PX QA 1,none,[(P3,PX),(QX,QA)],d0,.eff,20,1048575⟩]) (Zg (Za (XK X2 1) P4<|Za (XK RX 6) Ps<|Za (Yz PC) ON<|Za (XK X2 1) O0<|Za (XK Oc 6) O1<|Za (Yz Od) O2<|Za (Wf Pd) Nw<|Za (Si false [NH,(kI 1500)]) Nx<|Za (T0 1 QB none (some OD) none) Mo<|Za (W5 (k .nils) MJ 5 1 1) MN<|Za (XK X2 1) MO<|Za (XK N9 6) Mq<|Za (Xr NI Nq 1) d0<|Zc) (Zg (Za (Z4 (k .nils)) Ve<|Zc) (Zg (Zg (Za (Z4 (kI 0)) VT<|Zc) (YW 2 (Vm CT))) (Zg (Zw WA DP<|Za (XK X2 1) DQ<|Za (XK EZ 5) DS<|Za (Xr Km Hw 1) d0<|Zc) (Zw V5 DT<|Za (To X2 9) Cy<|Za (VV 28 9 1 [(.str []),(nI .i64 0),(nI .u32 0),(nI .u32 0),(nI .u32 0),(nI .i64 0),.nils,.nils,(.str [])] [⟨0,9,Ci⟩]) Cz<|Za (W5 E0 Cj 28 9 112) CA<|Zw J1 VK<|Zc)))))))) (Zw XY WZ<|Za (Xk WI (kI 1)) W4<|Zw Wv XB<|Zc)))
def c4:CF:=⟨[(VE,none)],(Zg (Za (Z4 (k .nils)) st2<|Zc) (Zg (Za (Z4 (k .nils)) VK<|Zc) (Zg (Zg (Za (Z4 (kI 0)) XB<|Zc) (YW 0 (Vm CU))) (Zg (Zw V5 CB<|Zw Ck st2<|Zc) YC))))⟩
def yH:D:=(Zg (Za (Y8 Wv WI Wd Xl) VA<|Zc) (Zg (Yi WM Zc (Vs 1)) (Zg (YW 2 (Zg (Za (WW X8 Wv 9) VJ<|Za (To Vl 9) Uq<|Za (V9 28 [(.str []),(nI .i64 0),(nI .u32 0),(nI .u32 0),(nI .u32 0),(nI .i64 0),.nils,.nils,(.str [])]) Ve<|Za (Xr WA VY 9) d0<|Zc) (Zg (Za (To WA 9) Uv<|Za (ZS 7 [VR]) Uw<|Zw VS Uu<|Za (Xw VQ 0) UE<|Za (Xw VQ 1) UN<|Zw Uz VT<|Zw V7 VL<|Zc) (Zg (Zg (Zw Wi UF<|Za (VD Ud (kI 0) VU true) UW<|Zc) (Yi V8 (Zg (Zw Wi Ti<|Za (Z4 (k .nils)) st2<|Zw VW VK<|Zc) YC) Zc)) (Zg (Vj [XJ (Z4 XY) [(XB,XY)] Tn 0 0,XJ (Z4 Wt) [(VT,Wt)] T5 1 0,XJ (XK WA 1) [(Ve,WA)] SB 3 0,XJ (XK T4 6) [(SB,T4)] Rn 4 8,⟨Yz Sf,none,[(Rn,Sf)],Rx,.read,5,24⟩,XJ (XK WA 1) [(Ve,WA)] QO 7 0,XJ (XK Qz 6) [(QO,Qz)] QX 8 128,⟨Yz QA,none,[(QX,QA)],PP,.read,9,384⟩,XJ (Wf Ri) [(PP,Ri)] P2 10 896,⟨W5 Tm TO 5 1 1,none,[(Tn,Tm),(T5,TO)],T6,.eff,2,3⟩,⟨W5 TG TH 5 1 1,none,[(T6,TG),(Rx,TH)],QN,.eff,6,63⟩,⟨ZS 12 [QU],none,[(P2,QU)],P3,.eff,11,2047⟩,⟨NQ Pc PX 5 1 1 [(nI .u8 0)],none,[(QN,Pc),(P3,PX)],P4,.eff,12,4095⟩,⟨Z4 RX,none,[(P4,RX)],XB,.eff,13,8191⟩]) (Zg (Zw XY Ps<|Za (Wf PC) ON<|Za (Y8 QB (kI 67107840) Tq Vn) O0<|Zc) (Yi Oc (Zg (Za (Z4 (k .nils)) st2<|Za (Z4 (kI 3)) VK<|Zc) YC) Zc))))))) (Za (Xk Wv (kI 1)) O1<|Zw Od W4<|Zc))))
def c5:CF:=⟨[(VE,none),(V5,none)],(Zg (Za (Z4 (k .nils)) st2<|Za (Z4 (kI 0)) VK<|Zc) (Zg (YW 0 (Zg (Zw YX X6<|Za (ZS 9 [XD,(k (.func 10 [] []))]) Wg<|Zw XQ UO<|Zc) (Yi WV (Zg (Za (Z4 (k .nils)) st2<|Za (Z4 (kI 1)) VK<|Zc) YC) (Zg (Zw YX Wk<|Za (Wf XG) WE<|Za (Y8 X5 (kI 8192) Tq Vn) WN<|Zw Wh Wl<|Zc) (Yi XS (Zg (Za (Z4 (k .nils)) st2<|Za (Z4 (kI 42)) VK<|Zc) YC) Zc))))) (Zg (Za (Z4 (k .nils)) XB<|Zc) (Zg (Zg (Zw YX WJ<|Za (Wf X8) WZ<|Za (Z4 (kI 0)) W4<|Zc) (YW 1 (Vm yH))) (Zg (Zw XY O2<|Za (ZS 13 []) Nw<|Za (W5 Pd NH 5 1 1) Nx<|Zw OD st2<|Za (Z4 (kI 0)) VK<|Zc) YC)))))⟩
def c10:CF:=⟨[(VE,none)],(Zg (Za (Ko YX 28) st1<|Za (Z4 (kB false)) st2<|Zc) (Zg (Za (To Wj 9) VK<|Za (ZS 11 [V5]) XB<|Za (Qm XY) Vd<|Zw X2 st2<|Zc) YC))⟩
def c9:CF:=⟨[(XY,none)],(Zg (Za (Z4 (kB false)) XB<|Zc) (Zg (Zw YX Vd<|Zw Wj Ve<|Za (ZS 24 [X2,WA]) VT<|Za (Y8 Wt (kI 0) Tp WT) VL<|Zw Wi XB<|Zc) YC))⟩
def I6:D:=(Zg (Za (Y8 Wi Wt Wd Xl) UO<|Zc) (Zg (Yi WV Zc (Vs 0)) (Zg (YW 1 (Zg (Zw Wi X6<|Zw XD Vd<|Zc) (Zg (Zw Wj Wg<|Zw YX Wl<|Zw X2 Wk<|Za (WW XS XG 9) WE<|Za (To X5 9) WN<|Za (OG XQ Tryz.prog [Wh]) WJ<|Zc) (Yi X8 (Zg (Zw X2 WZ<|Zw WI XB<|Zc) YC) Zc)))) (Za (Xk Wi (kI 1)) W4<|Zw Wv VL<|Zc))))
def c24:CF:=⟨[(XY,none)],(Zg (Za (Z4 (kI 0)) XB<|Zc) (Zg (Zg (Zw YX Ve<|Za (Wf WA) VT<|Za (Z4 (kI 0)) VL<|Zc) (YW 0 (Vm I6))) (Zg (Za (Z4 (k (.int .i64 (.negSucc 0)))) XB<|Zc) YC)))⟩
def c13:CF:=⟨[(YX,none)],(Zg (Za (Z4 (k .nils)) st0<|Zc) (Zg (Za (Lx 5 1 1 [(nI .u8 0)] (kI 1024) (kI 1024)) st1<|Zw Wj st0<|Zc) YC))⟩
def c8:CF:=⟨[(VE,some (1,false)),(V5,some (1,false))],(Zg (Za (V9 30 [.nils]) st2<|Za (V9 32 [(nI .i64 0)]) VK<|Zc) (Zg (Za (Dn 22 [] [VE,V5]) Vd<|Za (HJ X2 []) d0<|Zc) (Zg (Zw YX Ve<|Za (Vz [.nils,.nils,(.bool false),.nils] [⟨0,1,WA⟩]) VT<|Za (Ko Wt 63) VL<|Zw Wi XB<|Zc) (Zg (Zw XY UO<|Za (ZS 23 [WV]) X6<|Zc) (Zg (Zw XY Wg<|Za (UL XQ) Wl<|Za (XK XS 3) Wk<|Za (Yz XG) WE<|Za (Xr VE X5 1) d0<|Za (Xr V5 (kI 0) 1) d0<|Zc) YC)))))⟩
def c22:CF:=⟨[],(Zg (Za (Ig) Vd<|Zc) (YW 0 (Zg (Za (VD X2 (k .nili) (qF true (eqC Tryz.prog (gG Tryz.prog 9))) false) VT<|Zc) (Yi Wt (Zw X2 st2<|Zc) (Zg (Za (Ic X2 32 (nI .i64 0) true) VL<|Za (Xw Wi 1) UO<|Za (Xw Wi 0) X6<|Zc) (Yi WV (Zg (Zw XD VK<|Zc) (Zw V5 Wg<|Za (Xr YX (k .nils) 1) d0<|Za (Xr Wj XQ 1) d0<|Zc)) (Zg (Zw X2 XB<|Zc) (Zw XY Ve<|Za (QG WA) d0<|Zc))))))))⟩
def I5:D:=(YW 1 (Zg (Zw YX VL<|Za (ZS 43 [Wi]) UO<|Zw WV st2<|Zc) (Zg (Zg (Zw VE X6<|Za (UL XD) Wg<|Za (XK XQ 0) Wl<|Za (ZS 44 [XS]) Wk<|Zc) (Yi XG (Zg (Zw YX WE<|Za (ZS 43 [X5]) WN<|Za (UL Wh) WJ<|Za (XK X8 0) WZ<|Za (ZS 44 [WI]) W4<|Zw Wv VA<|Ya WM true (Z4 YX) VJ<|Ya WM true (UL Vl) Uq<|Ya WM true (XK VY 2) Uu<|Ya WM true (Yz VQ) Uv<|Ya WM true (Qm VR) Uw<|Za (Xn WM VS (kB false)) UE<|Za (ZS 45 [Uz,(kI 5)]) UN<|Zc) YC) Zc)) (Zg (Zw VE UF<|Za (UL Ud) UW<|Za (XK V8 0) Ti<|Za (ZS 46 [VW]) Tn<|Zw Tm VK<|Zc) (Zg (Zw V5 T5<|Za (VD TO (kI 0) VU false) T6<|Zw V5 SB<|Za (ZS 45 [TG,T4]) Rn<|Zc) (Zg (Zw VE QN<|Za (UL Pc) QO<|Za (XK Qz 0) QX<|Za (ZS 38 [QA,(k (.str [116,121,112,101]))]) PP<|Zw Ri Rx<|Za (Xw TH 0) P2<|Za (Xw TH 1) P3<|Zw QU XB<|Zw PX Vd<|Zc) (Zg (Vj [⟨Yz (k (.ptr 1 0)),none,[],Ps,.read,0,0⟩,XJ (Z4 XY) [(XB,XY)] ON 1 0,XJ (WW QB (kI 0) 1) [(ON,QB)] O0 2 2,⟨Yz Oc,none,[(O0,Oc)],O1,.read,3,6⟩,⟨Mg VU (nI .i64 0) true PC Od,none,[(Ps,PC),(O1,Od)],O2,.read,4,15⟩,XJ (Z4 Pd) [(O2,Pd)] P4 5 31,XJ (Xw RX 0) [(P4,RX)] Nw 6 63,XJ (Xw RX 1) [(P4,RX)] Nx 7 63,⟨Z4 NH,none,[(Nw,NH)],Ve,.eff,8,127⟩,⟨Z4 OD,none,[(Nx,OD)],VT,.eff,9,511⟩]) (YW 2 (Zg (Zw XY MR<|Za (WW ML (kI 0) 1) LN<|Za (Yz OW) LP<|Za (VD Lc (k (nI .u8 120)) VU false) MT<|Zw OX MQ<|Zc) (Yi MK (Zw YX LQ<|Zw VE LR<|Za (ZS 47 [Mb,Ld]) LS<|Zc) (Zg (Zw Wt Mo<|Za (ZS 45 [MJ,(kI 31)]) MN<|Zc) (Zw YX MO<|Zw VE Mq<|Zw WA Mr<|Za (ZS 48 [N9,NI,Ma]) MP<|Zc))))))))))))
def c23:CF:=⟨[],(YW 0 (Vm I5))⟩
def c43:CF:=⟨[(VE,none)],(Zg (Za (Z4 (k .nilp)) st2<|Zc) (Zg (Zw YX XB<|Za (UL XY) Vd<|Za (XK X2 0) Ve<|Za (Yz WA) VT<|Za (Wf Wt) VL<|Za (Y8 Wi (kI 512) Tp WT) UO<|Za (ZS 45 [WV,(kI 4)]) X6<|Zc) (Zg (Za (Vz QS []) Wg<|Za (Ko XQ 54) Wl<|Zw XS VK<|Zc) (Zg (Vj [XJ (Z4 V5) [(VK,V5)] Wk 0 0,XJ (UL XG) [(Wk,XG)] WE 1 1,XJ (XK X5 0) [(WE,X5)] WN 2 3,XJ (Rw 512 1 Wh none none none) [(WN,Wh)] WJ 3 7,XJ (Z4 YX) [(st0,YX)] WZ 4 0,XJ (UL WI) [(WZ,WI)] W4 5 16,XJ (XK Wv 0) [(W4,Wv)] VA 6 48,⟨Yz WM,none,[(VA,WM)],VJ,.read,7,112⟩,⟨G2 X8 Vl 1,none,[(WJ,X8),(VJ,Vl)],Uq,.eff,8,255⟩]) (Zg (Zw YX Uu<|Zw YX Uv<|Za (UL VR) Uw<|Za (XK VS 0) UE<|Za (Yz Uz) UN<|Za (T0 1 V7 (some (kI 512)) none none) UF<|Za (UL VQ) UW<|Za (XK V8 0) Ti<|Za (Xr VW Ud 1) d0<|Zc) (Zg (Zw V5 Tn<|Zw Tm st2<|Zc) YC))))))⟩
def c73:CF:=⟨[(XY,none)],(Zg (Za (Z4 (k .nils)) XB<|Zc) (Zg (Vj [XJ (Z4 YX) [(st0,YX)] Ve 0 0,XJ (UL WA) [(Ve,WA)] VT 1 1,XJ (XK Wt 0) [(VT,Wt)] VL 2 3,⟨Yz Wi,none,[(VL,Wi)],UO,.read,3,7⟩,XJ (Wf WV) [(UO,WV)] X6 4 15,XJ (Z4 Wj) [(st1,Wj)] Wg 5 0,XJ (Z4 Wj) [(st1,Wj)] Wl 6 0,⟨ZS 12 [XS],none,[(Wl,XS)],Wk,.eff,7,64⟩,XJ (Xk XQ XG) [(Wg,XQ),(Wk,XG)] WE 8 224,XJ (Y8 XD X5 Tp WT) [(X6,XD),(WE,X5)] WN 9 511,⟨ZS 45 [Wh,(kI 4)],none,[(WN,Wh)],WJ,.eff,10,1023⟩]) (Zg (Zw YX WZ<|Za (UL WI) W4<|Za (XK Wv 0) VA<|Za (Yz WM) VJ<|Zw Wj Uq<|Za (T0 1 Vl none (some VY) none) Uu<|Zw VQ Vd<|Zc) (Zg (Vj [XJ (Z4 YX) [(st0,YX)] Uv 0 0,XJ (Z4 YX) [(st0,YX)] Uw 1 0,XJ (UL VS) [(Uw,VS)] UE 2 2,XJ (XK Uz 0) [(UE,Uz)] UN 3 6,⟨Yz V7,none,[(UN,V7)],UF,.read,4,14⟩,XJ (Z4 Wj) [(st1,Wj)] UW 5 0,XJ (Z4 Wj) [(st1,Wj)] Ti 6 0,⟨ZS 12 [VW],none,[(Ti,VW)],Tn,.eff,7,64⟩,XJ (Xk V8 Tm) [(UW,V8),(Tn,Tm)] T5 8 224,⟨T0 1 Ud (some TO) none none,none,[(UF,Ud),(T5,TO)],T6,.read,9,510⟩,XJ (UL VR) [(Uv,VR)] SB 10 1023,XJ (XK T4 0) [(SB,T4)] Rn 11 2047,⟨Xr Sf TG 1,none,[(Rn,Sf),(T6,TG)],d0,.eff,12,4095⟩]) (Zg (Zw X2 Rx<|Zw TH XB<|Zc) YC)))))⟩
def c71:CF:=⟨[(XY,none)],(Zg (Za (Z4 (kI 0)) XB<|Zc) (Zg (Zw YX X6<|Za (UL XD) Wg<|Za (XK XQ 0) Wl<|Zw Wj Wk<|Za (ZS 38 [XS,XG]) WE<|Zw X5 UO<|Za (Xw WV 0) WN<|Za (Xw WV 1) WJ<|Zw Wh Vd<|Zw X8 Ve<|Zc) (Zg (Zw X2 W4<|Za (ZS 69 [Wv]) VA<|Zw WM WZ<|Za (Xw WI 0) VJ<|Za (Xw WI 1) Uq<|Zw Vl VT<|Zw VY VL<|Zc) (Zg (Zw Wi Uu<|Za (VD VQ (kI 0) VU false) Uv<|Zw Wi Uw<|Za (ZS 45 [VR,VS]) UE<|Zc) (Zg (Zw Wt UN<|Zw V7 XB<|Zc) YC)))))⟩
def c47:CF:=⟨[],(Zg (Zw Wj VT<|Za (ZS 71 [Wt,(k (.str [115,105,122,101]))]) VL<|Za (ZS 70 [Wi]) UO<|Zw WV XB<|Zc) (Zg (Zw YX X6<|Za (UL XD) Wg<|Za (XK XQ 2) Wl<|Za (Yz XS) Wk<|Za (Qm XG) WE<|Za (ZS 45 [X5,(kI 5)]) WN<|Zc) (Zg (Zw YX WZ<|Zw XY W4<|Za (ZS 73 [WI,Wv]) VA<|Za (ZS 72 [WM]) VJ<|Zw Vl WJ<|Za (Xw X8 0) Uq<|Za (Xw X8 1) Uu<|Zw VY Vd<|Zw VQ Ve<|Zc) (Zg (Zw WA Uv<|Za (VD VR (kI 0) VU false) Uw<|Za (ZS 45 [VS,(kI 5)]) UE<|Zc) (Zw YX UN<|Zw YX UF<|Zw X2 UW<|Za (UL V7) Ti<|Za (XK VW 1) Tn<|Za (Xr Tm V8 1) d0<|Za (UL Ud) T5<|Za (XK TO 2) T6<|Za (Xr TG (kB true) 1) d0<|Zc)))))⟩
def c70:CF:=⟨[(VE,none)],(Zg (Za (Z4 (kI 0)) st2<|Zc) (Zg (Zw YX VK<|Za (Y8 V5 (kI 0) Tp WT) XB<|Za (ZS 45 [XY,(kI 5)]) Vd<|Zc) (Zg (Zw YX Ve<|Za (Y8 WA (kI 16777216) QV TN) VT<|Za (ZS 45 [Wt,(kI 3)]) VL<|Zc) (Zg (Zw YX UO<|Zw WV st2<|Zc) YC))))⟩
def c45:CF:=⟨[],(Zg (Zw YX XB<|Za (Qm XY) Vd<|Zc) (Yi X2 (Zw Wj Ve<|Za (Pn WA 32) VT<|Za (QG Wt) d0<|Zc) Zc))⟩
def c44:CF:=⟨[(VE,none)],(Zg (Za (Z4 (kB false)) st2<|Zc) (Zg (Zw YX VK<|Za (VD V5 (k .nilp) yS true) XB<|Zw XY Vd<|Ya X2 true (Z4 YX) Ve<|Ya X2 true (UL WA) VT<|Ya X2 true (Rw 512 1 Wt none none none) VL<|Ya X2 true (ZS 67 [Wi,(k (.func 68 [] []))]) UO<|Ya X2 true (Qm WV) X6<|Za (Xn X2 XD (kB false)) Wg<|Zw XQ st2<|Zc) YC))⟩
def c68:CF:=⟨[(VE,none)],(Zg (Za (Z4 (kB false)) st2<|Zc) (Zg (Zw YX VK<|Za (VD V5 (k (nI .u8 0)) VU true) XB<|Zw XY st2<|Zc) YC))⟩
def c46:CF:=⟨[(VE,none)],(Zg (Za (Z4 (kI 0)) st2<|Zc) (Zg (Zg (Zw YX Ve<|Za (VD WA (k .nilp) yS false) VT<|Zc) (Yi Wt (Zg (Za (Z4 (kI 1)) st2<|Zc) YC) Zc)) (Zg (Zw YX UO<|Za (ZS 61 [WV,(k (.str [99,104,107,115,117,109]))]) X6<|Za (ZS 69 [XD]) Wg<|Zw XQ VL<|Za (Xw Wi 0) Wl<|Za (Xw Wi 1) Wk<|Zw XS VK<|Zw XG XB<|Zc) (Zg (Zw YX WE<|Za (ZS 61 [X5,(k (.str [109,97,103,105,99]))]) WN<|Za (xT Wh) WJ<|Zw X8 Vd<|Zc) (Zg (YW 0 (Zg (Zw XY W4<|Za (VD Wv (kI 0) VU true) VA<|Zw WM VJ<|Ya Vl false (Z4 X2) Uq<|Ya Vl false (VD VY (k (.str [117,115,116,97,114,0])) Mw true) Uu<|Ya Vl false (Z4 VQ) Uv<|Ya VR true (Z4 X2) Uw<|Ya VR true (VD VS (k (.str [117,115,116,97,114,32])) Mw true) UE<|Ya Vl false (Xn VR Uz (kB false)) UN<|Za (Xn Vl (kB true) V7) UF<|Zw Ud WZ<|Zc) (Yi WI (Zg (Za (Z4 (kI 5)) st2<|Zc) YC) (Zg (Zw V5 Ti<|Zw YX Tn<|Za (ZS 41 [Tm]) T5<|Za (VD VW TO VU true) T6<|Zw TG UW<|Zc) (Yi V8 (Zg (Za (Z4 (kI 21)) st2<|Zc) YC) Zc))))) (Zg (Za (Z4 (kI 0)) st2<|Zc) YC))))))⟩
def c67:CF:=⟨[(XY,none)],(Zg (Za (Z4 (kB false)) XB<|Zc) (Zg (Zw YX Vd<|Zw Wj Ve<|Za (ZS 98 [X2,WA]) VT<|Za (Y8 Wt (kI 0) Tp WT) VL<|Zw Wi XB<|Zc) YC))⟩
def Hf:D:=(Zg (Za (Y8 Wi Wt Wd Xl) UO<|Zc) (Zg (Yi WV Zc (Vs 0)) (Zg (YW 1 (Zg (Zw Wi X6<|Zw XD Vd<|Zc) (Zg (Zw Wj Wg<|Zw YX Wl<|Zw X2 Wk<|Za (WW XS XG 1) WE<|Za (Yz X5) WN<|Za (OG XQ Tryz.prog [Wh]) WJ<|Zc) (Yi X8 (Zg (Zw X2 WZ<|Zw WI XB<|Zc) YC) Zc)))) (Za (Xk Wi (kI 1)) W4<|Zw Wv VL<|Zc))))
def c98:CF:=⟨[(XY,none)],(Zg (Za (Z4 (kI 0)) XB<|Zc) (Zg (Zg (Zw YX Ve<|Za (Wf WA) VT<|Za (Z4 (kI 0)) VL<|Zc) (YW 0 (Vm Hf))) (Zg (Za (Z4 (k (.int .i64 (.negSucc 0)))) XB<|Zc) YC)))⟩
def c69:CF:=⟨[(VE,none),(V5,none)],(Zg (Za (Z4 (kI 0)) st2<|Za (Z4 (kI 0)) VK<|Zc) (Zg (YW 0 (Zg (Zw YX Vd<|Za (Wf X2) Ve<|Za (Y8 WA (kI 1) Wd Xl) VT<|Zw Wt VL<|Ya Wi false (Z4 YX) UO<|Ya Wi false (Wf WV) X6<|Ya Wi false (Y8 XD (kI 20) Tq Vn) Wg<|Za (Xn Wi (kB true) XQ) Wl<|Zw XS XB<|Zc) (Yi XY (Zg (Za (Z4 (kI 0)) st2<|Za (Z4 (kI 1)) VK<|Zc) YC) (Zg (Zw YX WE<|Za (WW X5 (kI 0) 1) WN<|Za (Yz Wh) WJ<|Za (Y8 X8 (k (nI .u8 128)) Tp WT) WZ<|Zw WI Wk<|Zc) (Yi XG (Zg (Zw YX W4<|Za (ZS 99 [Wv]) VA<|Za (Xw WM 0) VJ<|Za (Xw WM 1) Uq<|Zw Vl st2<|Zw VY VK<|Zc) YC) Zc))))) (Zg (Zw YX Uu<|Za (ZS 100 [VQ]) Uv<|Za (Xw VR 0) Uw<|Za (Xw VR 1) UE<|Zw VS st2<|Zw Uz VK<|Zc) YC)))⟩
def Jy:D:=(Zg (Za (Y8 XQ XD Wd Xl) Wl<|Zc) (Zg (Yi XS Zc (Vs 0)) (Zg (YW 1 (Zg (Za (WW WV XQ 1) Wk<|Za (Yz XG) WE<|Zw X5 Ve<|Zc) (Zg (YW 2 (Zg (Zw WA WJ<|Za (VD X8 (k (nI .u8 32)) VU false) WZ<|Zw WI W4<|Ya Wv false (Z4 WA) VA<|Ya Wv false (VD WM (k (nI .u8 0)) VU false) VJ<|Za (Xn Wv (kB true) Vl) Uq<|Zw VY WN<|Zc) (Yi Wh (Zg (Zw XY Uu<|Zw VQ st2<|Za (Z4 (kI 0)) VK<|Zc) YC) (Zg (Zw WA Uw<|Za (Y8 VS (k (nI .u8 48)) Wd Xl) UE<|Zw Uz UN<|Ya V7 false (Z4 WA) UF<|Ya V7 false (Y8 Ud (k (nI .u8 55)) Tq Vn) UW<|Za (Xn V7 (kB true) V8) Ti<|Zw VW Uv<|Zc) (Yi VR (Zg (Za (Z4 (kI 0)) st2<|Za (Z4 (kI 5)) VK<|Zc) YC) Zc))))) (Zw XY Tn<|Za (cu Tm (k (nI .u64 3))) T5<|Zw WA T6<|Za (Vv TG (k (nI .u8 48))) SB<|Za (Sg T4 .i64) Rn<|Za (Q0 TO Sf Cp) Rx<|Zw TH XB<|Zc)))) (Za (Xk XQ (kI 1)) QN<|Zw Pc Wg<|Zc))))
def fB:CF:=⟨[(VE,none),(V5,none)],(Zg (Za (Z4 (kI 0)) st2<|Za (Z4 (kI 0)) VK<|Zc) (Zg (Zw YX VT<|Za (ZS 127 [Wt,(k (.str [32]))]) VL<|Zw Wi st0<|Zc) (Zg (Za (Z4 (kI 0)) XB<|Zc) (Zg (Zg (Zw YX UO<|Za (Wf WV) X6<|Za (Z4 (kI 0)) Wg<|Zc) (YW 0 (Vm Jy))) (Zg (Zw XY QO<|Zw Qz st2<|Za (Z4 (kI 0)) VK<|Zc) YC)))))⟩
def ZaY:CF:=⟨[(XY,none)],(Zg (Za (Z4 (k .nils)) XB<|Zc) (Zg (Zg (Zw YX VT<|Za (Wf Wt) VL<|Za (VD Wi (kI 0) VU false) UO<|Zc) (Yi WV (Zg (Za (Z4 (k .nils)) XB<|Zc) YC) Zc)) (Zg (Zg (Zw Wj X6<|Za (VD XD (k (.str [])) Mw false) Wg<|Zc) (Yi XQ (Zg (Zw YX Wl<|Zw XS XB<|Zc) YC) Zc)) (Zg (Zg (Zw Wj Wk<|Za (Wc XG) WE<|Za (VD X5 (kI 1) VU false) WN<|Zw Wh WJ<|Ya X8 true (Z4 Wj) WZ<|Ya X8 true (XR WI (kI 0)) W4<|Ya X8 true (Y8 Wv (k (nI .u8 128)) Wd Xl) VA<|Za (Xn X8 WM (kB false)) VJ<|Zc) (Yi Vl (Zg (Zw YX Uq<|Zw Wj Uu<|Za (XR VQ (kI 0)) Uv<|Za (ZS 154 [VY,VR]) Uw<|Zw VS XB<|Zc) YC) Zc)) (Zg (Zg (Zw Wj UN<|Za (ZS 155 [V7]) UF<|Zw Ud UE<|Za (Xw Uz 0) UW<|Za (Xw Uz 1) Ti<|Za (V9 206 Mu) Vd<|Za (Xr X2 V8 256) d0<|Zw VW Ve<|Zc) (Zg (Zw WA Tn<|Zc) (Yi Tm (Zg (Zw YX T5<|Za (ZS 156 [TO,X2]) T6<|Zw TG XB<|Zc) YC) Zc))) (Zg (Zw YX SB<|Zw Wj Rn<|Za (ZS 157 [T4,Sf]) Rx<|Zw TH XB<|Zc) YC))))))⟩
def sy:D:=(Zg (Zg (Zw YX Vd<|Za (Wf X2) Ve<|Za (Y8 WA (kI 0) Tq Vn) VT<|Zw Wt VL<|Ya Wi true (Z4 YX) UO<|Ya Wi true (WW WV (kI 0) 1) X6<|Ya Wi true (Yz XD) Wg<|Ya Wi true (Z4 Wj) Wl<|Ya Wi true (VD XQ XS VU false) Wk<|Za (Xn Wi XG (kB false)) WE<|Zc) (Yi X5 Zc (Vs 0))) (YW 1 (Zw YX WN<|Za (T0 1 Wh (some (kI 1)) none none) WJ<|Zw X8 st0<|Zc)))
def Za4:CF:=⟨[(XY,none)],(Zg (Za (Z4 (k .nils)) XB<|Zc) (Zg (YW 0 (Vm sy)) (Zg (Zg (Zw YX WZ<|Za (Wf WI) W4<|Za (VD Wv (kI 0) VU false) VA<|Zc) (Yi WM (Zg (Za (Z4 (k .nils)) XB<|Zc) YC) Zc)) (Zg (Zw YX VJ<|Zw Vl XB<|Zc) YC))))⟩
def I7:D:=(Zg (Zg (Zw YX Wg<|Za (Wf XQ) Wl<|Za (Y8 XS (kI 0) Tq Vn) Wk<|Zc) (Yi XG Zc (Vs 0))) (YW 1 (Zg (Zw YX WN<|Za (ZS 101 [Wh]) WJ<|Zw X8 WE<|Za (Xw X5 0) WZ<|Za (Xw X5 1) W4<|Za (Xw X5 2) VA<|Za (V9 71 [(.str []),(.str [])]) Vd<|Za (Xr X2 WI 2) d0<|Zw Wv Ve<|Zw WM VT<|Zc) (Zg (Zg (Zw Wt VJ<|Za (VD Vl (kI 0) VU true) Uq<|Zc) (Yi VY (Zg (Zw Wt Uu<|Za (Z4 (k .nils)) st2<|Zw VQ VK<|Zc) YC) Zc)) (Zg (Zw XY Uv<|Za (To X2 2) Uw<|Za (VV 71 2 1 [(.str []),(.str [])] [⟨0,2,VS⟩]) UE<|Za (W5 VR Uz 71 2 32) UN<|Zw V7 XB<|Zc) (Zw YX UF<|Zw WA UW<|Za (T0 1 Ud (some V8) none none) Ti<|Zw VW st0<|Zc))))))
def c72:CF:=⟨[(VE,none),(V5,none)],(Zg (Za (Z4 (k .nils)) st2<|Za (Z4 (kI 0)) VK<|Zc) (Zg (Zg (Zw YX VL<|Za (Wf Wi) UO<|Za (Y8 WV (kI 16777216) Tq Vn) X6<|Zc) (Yi XD (Zg (Za (Z4 (k .nils)) st2<|Za (Z4 (kI 3)) VK<|Zc) YC) Zc)) (Zg (Za (Z4 (k .nils)) XB<|Zc) (Zg (YW 0 (Vm I7)) (Zg (Zw XY Tn<|Zw Tm st2<|Za (Z4 (kI 0)) VK<|Zc) YC)))))⟩
def mf:CF:=⟨[(VE,some (2,true)),(V5,none),(XY,none)],(Zg (Za (Ko YX 24) st1<|Za (V9 71 [(.str []),(.str [])]) st2<|Za (Z4 (kI 0)) VK<|Za (Z4 (kI 0)) XB<|Zc) (Zg (Za (Yz Wj) WN<|Za (ZS 128 [Wh]) WJ<|Zw X8 WE<|Za (Xw X5 0) WZ<|Za (Xw X5 1) W4<|Zw WI Vd<|Zw Wv Ve<|Zc) (Zg (Za (Dn 129 [] [Wj]) VA<|Zw WM VT<|Zc) (Zg (Zg (Zw X2 VJ<|Za (VD Vl (kI 0) VU false) Uq<|Zw VY Uu<|Ya VQ false (Yz Wj) Uv<|Ya VQ false (WW VR (kI 0) 1) Uw<|Ya VQ false (Yz VS) UE<|Ya VQ false (VD Uz (k (nI .u8 48)) VU false) UN<|Za (Xn VQ (kB true) V7) UF<|Zw Ud UW<|Ya V8 false (Z4 WA) Ti<|Ya V8 false (Y8 VW (kI 16777216) Tq Vn) Tn<|Za (Xn V8 (kB true) Tm) T5<|Zc) (Yi TO (Zg (Za (Vz [(.str []),(.str [])] []) T6<|Za (Xr VE TG 2) d0<|Za (Z4 (kI 0)) VK<|Za (Z4 (kI 5)) XB<|Zc) YC) Zc)) (Zg (Zg (Zw WA SB<|Za (ZS 130 [T4]) Rn<|Zw Sf Rx<|Ya TH true (Z4 WA) QN<|Ya TH true (PJ (kI 10) Pc) QO<|Ya TH true (Y8 Qz (kI 16777216) Tq Vn) QX<|Ya TH true (Z4 QA) PP<|Ya Ri false (Z4 X2) P2<|Ya Ri false (Yz Wj) P3<|Ya Ri false (Wf PX) P4<|Ya Ri false (Y8 QU RX Wd Xl) Ps<|Ya Ri false (Z4 PC) ON<|Ya QB true (Yz Wj) O0<|Ya QB true (Z4 X2) O1<|Ya QB true (WW Oc Od 1) O2<|Ya QB true (Yz Pd) Nw<|Ya QB true (VD NH (k (nI .u8 32)) VU false) Nx<|Ya Ri false (Xn QB OD (kB false)) Mo<|Ya TH true (Xn Ri (kB true) MJ) MN<|Za (Xn TH Nq (kB false)) MO<|Zc) (Yi N9 (Zg (Za (Vz [(.str []),(.str [])] []) Mq<|Za (Xr VE NI 2) d0<|Za (Z4 (kI 0)) VK<|Za (Z4 (kI 5)) XB<|Zc) YC) Zc)) (Zg (Zg (Zw X2 Mr<|Za (Yz Wj) MP<|Za (Wf Lb) MQ<|Za (VD Ma MK VU false) MR<|Zw ML LN<|Ya OW false (Yz Wj) LP<|Ya OW false (Z4 X2) MT<|Ya OW false (WW Lc OX 1) LQ<|Ya OW false (Yz Mb) LR<|Ya OW false (VD Ld (k (nI .u8 32)) VU true) LS<|Za (Xn OW (kB true) Kk) Jl<|Zc) (Yi K1 (Zg (Zw Wt Jm<|Zw X2 Jn<|Za (OG NJ Tryz.prog [NK]) Jo<|Za (Xw Le 0) Gd<|Za (Xw Le 1) Ge<|Za (Xw Le 2) Gf<|Za (Xr VE Hn 2) d0<|Zw Ho VK<|Zw K2 XB<|Zc) YC) Zc)) (Zg (Za (Yz Wj) Gg<|Zw X2 IJ<|Za (Xk OE (kI 1)) IK<|Za (T0 1 JW (some JX) none none) IL<|Zw JY VL<|Zc) (Zg (Zw WA IM<|Zw X2 Gh<|Za (Vv JZ Hp) FH<|Za (Vv Fx (kI 1)) FI<|Zw Lf UO<|Zc) (Zg (Zg (Zw WV Gi<|Za (Y8 Kl (kI 3) Wd Xl) Gj<|Zc) (Yi Hq (Zg (Za (Vz [(.str []),(.str [])] []) Gk<|Za (Xr VE Ht 2) d0<|Za (Z4 (kI 0)) VK<|Za (Z4 (kI 5)) XB<|Zc) YC) Zc)) (Zg (Zw Wi Gl<|Za (Wf Hu) Gm<|Zw WV Gn<|Za (Y8 Hv PY Tp WT) FJ<|Zw Lg X6<|Zc) (Zg (Zg (Zw XD FK<|Zc) (Yi Fy (Zw Wi FM<|Zw WV FN<|Za (T0 1 Fz none (some J0) none) FO<|Zw FA VL<|Zc) Zc)) (Zg (Zw Wi DQ<|Za (xT EZ) DS<|Za (ZS 131 [Km,(k (.str [61]))]) DT<|Zw E0 DP<|Za (Xw Hw 0) Cy<|Za (Xw Hw 1) Cz<|Za (Xw Hw 2) CA<|Zw Ci Wg<|Zw Cj Wl<|Zw J1 Wk<|Zc) (Zg (YW 0 (Zg (Zw XG ye<|Za (Qm xg) yf<|Zw E1 IF<|Ya M6 true (Z4 XD) IG<|Ya M6 true (Qm JU) G9<|Za (Xn M6 Mx (kB false)) Fa<|Zw EU Fb<|Ya Nd true (Z4 XQ) Fc<|Ya Nd true (Wc M7) Fd<|Ya Nd true (Z4 WV) Fe<|Ya Nd true (Vv M8 (kI 2)) DN<|Ya Nd true (Y8 Ky Bp QV TN) DO<|Za (Xn Nd EV (kB false)) Ff<|Zw EW Fg<|Ya My true (Z4 XQ) Fh<|Ya My true (VD GM (k (.str [])) Mw false) Fi<|Ya My true (Z4 GN) Fj<|Ya M9 false (Z4 XQ) Fk<|Ya M9 false (Vz [(.str []),(.str [])] [⟨0,1,GO⟩]) Fl<|Ya M9 false (ZS 34 [GP]) Fm<|Ya My true (Xn M9 (kB true) EX) Fo<|Za (Xn My GQ (kB false)) Fp<|Zw GR CB<|Zc) (Yi Ck (Zg (Za (Vz [(.str []),(.str [])] []) Fq<|Za (Xr VE GS 2) d0<|Za (Z4 (kI 0)) VK<|Za (Z4 (kI 4)) XB<|Zc) YC) (Zg (Zw XG Fs<|Za (Qm EY) IH<|Zw GU II<|Ya NG false (Z4 XQ) Ag<|Ya NG false (Vz [(.str []),(.str [])] [⟨0,1,Bq⟩]) Ah<|Ya NG false (ZS 34 [Br]) Ai<|Ya NG false (Qm Bs) Aj<|Za (Xn NG (kB true) JV) Ak<|Zw Bt Al<|Ya La false (Z4 XQ) Am<|Ya La false (Wc Bu) An<|Ya La false (Z4 WV) Ao<|Ya La false (Vv Bv (kI 2)) Ap<|Ya La false (Y8 Mz Bw Tq Vn) Aq<|Za (Xn La (kB true) Bx) wH<|Zw y5 Fr<|Zc) (Yi NF (Zg (Za (Vz [(.str []),(.str [])] []) wI<|Za (Xr VE y6 2) d0<|Za (Z4 (kI 0)) VK<|Za (Z4 (kI 5)) XB<|Zc) YC) (Zg (Zw XD wK<|Za (Qm y8) wL<|Zw y9 wJ<|Zc) (Yi y7 (Zg (Za (Vz [(.str []),(.str [])] []) wM<|Za (Xr VE xa 2) d0<|Za (Z4 (kI 0)) VK<|Za (Z4 (kI 4)) XB<|Zc) YC) (Zg (Zw Wi r6<|Zw WV r7<|Za (Vv sN (kI 1)) wO<|Za (WW sM xc 1) Ar<|Za (Yz By) As<|Za (VD Bz (k (nI .u8 10)) VU true) Au<|Zw BA wN<|Zc) (Yi xb (Zg (Za (Vz [(.str []),(.str [])] []) Av<|Za (Xr VE BB 2) d0<|Za (Z4 (kI 0)) VK<|Za (Z4 (kI 5)) XB<|Zc) YC) Zc))))))))) (Zg (Zw XQ Aw<|Zw XS Ax<|Zw XS Ay<|Za (Wc BE) Az<|Za (Vv BF (kI 1)) AA<|Za (W1 BD none (some BG) none) AB<|Za (Vz [(.str []),(.str [])] [⟨0,1,BC⟩,⟨1,1,BH⟩]) wP<|Zw WA wQ<|Za (Xr VE xd 2) d0<|Zw xe VK<|Za (Z4 (kI 0)) XB<|Zc) YC))))))))))))))⟩
def Zdz:CF:=⟨[(V5,some (2,true)),(XY,none),(X2,none)],(Zg (Za (V9 71 [(.str []),(.str [])]) VK<|Za (Z4 (kI 0)) XB<|Za (Z4 (kI 0)) Vd<|Zc) (Zg (Zg (Zw YX Ve<|Za (Yz Wj) VT<|Za (Wf Wt) VL<|Za (VD WA Wi VU false) UO<|Zc) (Yi WV (Zg (Za (Vz [(.str []),(.str [])] []) X6<|Za (Xr V5 XD 2) d0<|Za (Z4 (kI 0)) XB<|Za (Z4 (kI 4)) Vd<|Zc) YC) Zc)) (Zg (Za (Vz [(.str []),(.str [])] []) Wg<|Za (Xr V5 XQ 2) d0<|Za (Z4 (kI 0)) XB<|Za (Z4 (kI 5)) Vd<|Zc) YC)))⟩
def JC:D:=(Zg (Zg (Zw VE XB<|Zw YX Vd<|Za (Wf X2) Ve<|Za (Y8 XY WA Wd Xl) VT<|Zw Wt VL<|Ya Wi true (Z4 YX) UO<|Ya Wi true (Z4 VE) X6<|Ya Wi true (WW WV XD 1) Wg<|Ya Wi true (Yz XQ) Wl<|Ya Wi true (Y8 XS (k (nI .u8 48)) Tp WT) Wk<|Za (Xn Wi XG (kB false)) WE<|Zw X5 WN<|Ya Wh true (Z4 YX) WJ<|Ya Wh true (Z4 VE) WZ<|Ya Wh true (WW X8 WI 1) W4<|Ya Wh true (Yz Wv) VA<|Ya Wh true (Y8 WM (k (nI .u8 57)) QV TN) VJ<|Za (Xn Wh Vl (kB false)) Uq<|Zw VY Uu<|Ya VQ true (Z4 VE) Uv<|Ya VQ true (Y8 VR (kI 9) Wd Xl) Uw<|Za (Xn VQ VS (kB false)) UE<|Zc) (Yi Uz Zc (Vs 0))) (YW 1 (Zg (Zw V5 UN<|Za (PJ (kI 10) V7) UF<|Zw YX UW<|Zw VE Ti<|Za (WW V8 VW 1) Tn<|Za (Yz Tm) T5<|Za (Vv TO (k (nI .u8 48))) T6<|Za (Sg TG .i64) SB<|Za (Xk Ud T4) Rn<|Zw Sf VK<|Zc) (Zw VE Rx<|Za (Xk TH (kI 1)) QN<|Zw Pc st2<|Zc))))
def fK:CF:=⟨[(VE,none),(V5,none)],(Zg (Za (Z4 (kI 0)) st2<|Za (Z4 (kI 0)) VK<|Zc) (Zg (YW 0 (Vm JC)) (Zg (Zw VE QO<|Zw V5 QX<|Zw Qz st2<|Zw QA VK<|Zc) YC)))⟩
def LZ:D:=(Zg (Zg (Zw YX VK<|Za (Y8 V5 (kI 10) Tq Vn) XB<|Zw XY Vd<|Ya X2 true (Z4 YX) Ve<|Ya X2 true (FE WA (kI 10)) VT<|Ya X2 true (VD Wt (kI 0) VU false) VL<|Za (Xn X2 Wi (kB false)) UO<|Zc) (Yi WV Zc (Vs 0))) (YW 1 (Zw YX X6<|Za (Ja XD (kI 10)) Wg<|Zw XQ st0<|Zc)))
def fL:CF:=⟨[(VE,none)],(Zg (Za (Z4 (kB false)) st2<|Zc) (Zg (YW 0 (Vm LZ)) (Zg (Zw YX Wl<|Za (VD XS (kI 10) VU false) Wk<|Zw XG st2<|Zc) YC)))⟩
def ZaZ:CF:=⟨[(XY,none),(X2,none),(WA,none)],(Zg (Za (Z4 (k (.str []))) XB<|Za (Z4 (k (.str []))) Vd<|Za (Z4 (kB false)) Ve<|Zc) (Zg (Zw YX VT<|Zw Wj VL<|Za (ZS 158 [Wt,Wi]) UO<|Za (Xw WV 0) X6<|Za (Xw WV 1) Wg<|Za (Xw WV 2) Wl<|Zw XD XB<|Zw XQ Vd<|Zw XS Ve<|Zc) YC))⟩
def fN:CF:=⟨[(XY,none),(X2,none),(WA,none)],(Zg (Za (Z4 (k (.str []))) XB<|Za (Z4 (k (.str []))) Vd<|Za (Z4 (kB false)) Ve<|Zc) (Zg (Zg (Zw YX VL<|Zw Wj UO<|Za (ZS 122 [Wi,WV]) X6<|Zw XD VT<|Zc) (Zg (Zw Wt Wg<|Za (Y8 XQ (kI 0) Tp WT) Wl<|Zc) (Yi XS (Zg (Vj [XJ (Z4 YX) [(st0,YX)] Wk 0 0,XJ (Z4 Wt) [(VT,Wt)] WE 1 0,XJ (W1 XG none (some X5) none) [(Wk,XG),(WE,X5)] WN 2 3,XJ (Z4 YX) [(st0,YX)] WJ 3 0,XJ (Z4 Wt) [(VT,Wt)] WZ 4 0,XJ (Z4 Wj) [(st1,Wj)] W4 5 0,XJ (Wc Wv) [(W4,Wv)] VA 6 32,XJ (Xk WI WM) [(WZ,WI),(VA,WM)] VJ 7 112,XJ (W1 X8 (some Vl) none none) [(WJ,X8),(VJ,Vl)] Uq 8 248,⟨Z4 Wh,none,[(WN,Wh)],XB,.eff,9,7⟩,⟨Z4 VY,none,[(Uq,VY)],Vd,.eff,10,1023⟩,⟨Z4 (kB true),none,[],Ve,.eff,11,2047⟩]) YC) Zc))) (Zg (Zw YX Uu<|Zw VQ XB<|Za (Z4 (k (.str []))) Vd<|Za (Z4 (kB false)) Ve<|Zc) YC)))⟩
end
def Sj:Nat->Nat
 |10=>13
 |11=>12
 |12=>1
 |25=>11
 |26=>6
 |27=>3
 |29=>4
 |33=>7
 |34=>6
 |49=>3
 |50=>3
 |51=>3
 |52=>10
 |53=>6
 |54=>5
 |55=>2
 |56=>2
 |57=>4
 |63=>4
 |68=>1
 |80=>2
 |81=>2
 |84=>7
 |85=>4
 |86=>1
 |87=>1
 |88=>3
 |91=>3
 |109=>1
 |110=>1
 |113=>3
 |114=>1
 |115=>1
 |116=>1
 |118=>1
 |119=>2
 |122=>2
 |128=>1
 |130=>1
 |131=>5
 |144=>1
 |147=>1
 |148=>1
 |149=>1
 |158=>4
 |167=>1
 |225=>1
 |226=>1
 |227=>4
 |_=>0
def RK:Lib:=λ_ _ _=>none
abbrev LK(Zx:Lib)(fs:T CF)(fuel k:Nat):Lib:=HB Zx fs fuel Sj RK k
structure Env(Zx:Lib)(fs:T CF)(fuel:Nat):Prop where
 big:100000<=fuel
 f3:fs.get 3=some c3
 n3: ∀l H,Zx 3 l H=none
 f4:fs.get 4=some c4
 n4: ∀l H,Zx 4 l H=none
 f5:fs.get 5=some c5
 n5: ∀l H,Zx 5 l H=none
 f7:fs.get 7=some c7
 n7: ∀l H,Zx 7 l H=none
 f8:fs.get 8=some c8
 n8: ∀l H,Zx 8 l H=none
 f9:fs.get 9=some c9
 n9: ∀l H,Zx 9 l H=none
 f10:fs.get 10=some c10
 n10: ∀l H,Zx 10 l H=none
 f11:fs.get 11=some c11
 n11: ∀l H,Zx 11 l H=none
 f12:fs.get 12=some c12
 n12: ∀l H,Zx 12 l H=none
 f13:fs.get 13=some c13
 n13: ∀l H,Zx 13 l H=none
 f15:fs.get 15=some c15
 n15: ∀l H,Zx 15 l H=none
 f16:fs.get 16=some c16
 n16: ∀l H,Zx 16 l H=none
 f17:fs.get 17=some c17
 n17: ∀l H,Zx 17 l H=none
 f18:fs.get 18=some c18
 n18: ∀l H,Zx 18 l H=none
 f19:fs.get 19=some c19
 n19: ∀l H,Zx 19 l H=none
 f20:fs.get 20=some c20
 n20: ∀l H,Zx 20 l H=none
 f21:fs.get 21=some c21
 n21: ∀l H,Zx 21 l H=none
 f22:fs.get 22=some c22
 n22: ∀l H,Zx 22 l H=none
 f23:fs.get 23=some c23
 n23: ∀l H,Zx 23 l H=none
 f24:fs.get 24=some c24
 n24: ∀l H,Zx 24 l H=none
 f25:fs.get 25=some vD
 n25: ∀l H,Zx 25 l H=none
 f26:fs.get 26=some c26
 n26: ∀l H,Zx 26 l H=none
 f27:fs.get 27=some c27
 n27: ∀l H,Zx 27 l H=none
 f28:fs.get 28=some c28
 n28: ∀l H,Zx 28 l H=none
 f29:fs.get 29=some c29
 n29: ∀l H,Zx 29 l H=none
 f30:fs.get 30=some c30
 n30: ∀l H,Zx 30 l H=none
 f31:fs.get 31=some c31
 n31: ∀l H,Zx 31 l H=none
 f32:fs.get 32=some c32
 n32: ∀l H,Zx 32 l H=none
 f33:fs.get 33=some c33
 n33: ∀l H,Zx 33 l H=none
 f34:fs.get 34=some c34
 n34: ∀l H,Zx 34 l H=none
 f35:fs.get 35=some c35
 n35: ∀l H,Zx 35 l H=none
 f36:fs.get 36=some c36
 n36: ∀l H,Zx 36 l H=none
 f37:fs.get 37=some c37
 n37: ∀l H,Zx 37 l H=none
 f38:fs.get 38=some c38
 n38: ∀l H,Zx 38 l H=none
 f39:fs.get 39=some c39
 n39: ∀l H,Zx 39 l H=none
 f40:fs.get 40=some c40
 n40: ∀l H,Zx 40 l H=none
 f41:fs.get 41=some c41
 n41: ∀l H,Zx 41 l H=none
 f42:fs.get 42=some c42
 n42: ∀l H,Zx 42 l H=none
 f43:fs.get 43=some c43
 n43: ∀l H,Zx 43 l H=none
 f44:fs.get 44=some c44
 n44: ∀l H,Zx 44 l H=none
 f45:fs.get 45=some c45
 n45: ∀l H,Zx 45 l H=none
 f46:fs.get 46=some c46
 n46: ∀l H,Zx 46 l H=none
 f47:fs.get 47=some c47
 n47: ∀l H,Zx 47 l H=none
 f49:fs.get 49=some c49
 n49: ∀l H,Zx 49 l H=none
 f50:fs.get 50=some c50
 n50: ∀l H,Zx 50 l H=none
 f51:fs.get 51=some c51
 n51: ∀l H,Zx 51 l H=none
 f52:fs.get 52=some c52
 n52: ∀l H,Zx 52 l H=none
 f53:fs.get 53=some c53
 n53: ∀l H,Zx 53 l H=none
 f54:fs.get 54=some c54
 n54: ∀l H,Zx 54 l H=none
 f55:fs.get 55=some c55
 n55: ∀l H,Zx 55 l H=none
 f56:fs.get 56=some c56
 n56: ∀l H,Zx 56 l H=none
 f57:fs.get 57=some c57
 n57: ∀l H,Zx 57 l H=none
 f58:fs.get 58=some c58
 n58: ∀l H,Zx 58 l H=none
 f59:fs.get 59=some c59
 n59: ∀l H,Zx 59 l H=none
 f60:fs.get 60=some c60
 n60: ∀l H,Zx 60 l H=none
 f61:fs.get 61=some c61
 n61: ∀l H,Zx 61 l H=none
 f62:fs.get 62=some c62
 n62: ∀l H,Zx 62 l H=none
 f63:fs.get 63=some c63
 n63: ∀l H,Zx 63 l H=none
 f64:fs.get 64=some c64
 n64: ∀l H,Zx 64 l H=none
 f66:fs.get 66=some c66
 n66: ∀l H,Zx 66 l H=none
 f67:fs.get 67=some c67
 n67: ∀l H,Zx 67 l H=none
 f68:fs.get 68=some c68
 n68: ∀l H,Zx 68 l H=none
 f69:fs.get 69=some c69
 n69: ∀l H,Zx 69 l H=none
 f70:fs.get 70=some c70
 n70: ∀l H,Zx 70 l H=none
 f71:fs.get 71=some c71
 n71: ∀l H,Zx 71 l H=none
 f72:fs.get 72=some c72
 n72: ∀l H,Zx 72 l H=none
 f73:fs.get 73=some c73
 n73: ∀l H,Zx 73 l H=none
 f80:fs.get 80=some c80
 n80: ∀l H,Zx 80 l H=none
 f81:fs.get 81=some c81
 n81: ∀l H,Zx 81 l H=none
 f82:fs.get 82=some c82
 n82: ∀l H,Zx 82 l H=none
 f83:fs.get 83=some c83
 n83: ∀l H,Zx 83 l H=none
 f84:fs.get 84=some c84
 n84: ∀l H,Zx 84 l H=none
 f85:fs.get 85=some c85
 n85: ∀l H,Zx 85 l H=none
 f86:fs.get 86=some c86
 n86: ∀l H,Zx 86 l H=none
 f87:fs.get 87=some c87
 n87: ∀l H,Zx 87 l H=none
 f88:fs.get 88=some c88
 n88: ∀l H,Zx 88 l H=none
 f89:fs.get 89=some c89
 n89: ∀l H,Zx 89 l H=none
 f90:fs.get 90=some c90
 n90: ∀l H,Zx 90 l H=none
 f91:fs.get 91=some c91
 n91: ∀l H,Zx 91 l H=none
 f98:fs.get 98=some c98
 n98: ∀l H,Zx 98 l H=none
 f100:fs.get 100=some fB
 n100: ∀l H,Zx 100 l H=none
 f101:fs.get 101=some mf
 n101: ∀l H,Zx 101 l H=none
 f109:fs.get 109=some fC
 n109: ∀l H,Zx 109 l H=none
 f110:fs.get 110=some fD
 n110: ∀l H,Zx 110 l H=none
 f111:fs.get 111=some ZaS
 n111: ∀l H,Zx 111 l H=none
 f112:fs.get 112=some ZaT
 n112: ∀l H,Zx 112 l H=none
 f113:fs.get 113=some vz
 n113: ∀l H,Zx 113 l H=none
 f114:fs.get 114=some ZaU
 n114: ∀l H,Zx 114 l H=none
 f115:fs.get 115=some ZaV
 n115: ∀l H,Zx 115 l H=none
 f116:fs.get 116=some ZaW
 n116: ∀l H,Zx 116 l H=none
 f118:fs.get 118=some fH
 n118: ∀l H,Zx 118 l H=none
 f119:fs.get 119=some qp
 n119: ∀l H,Zx 119 l H=none
 f120:fs.get 120=some Ep
 n120: ∀l H,Zx 120 l H=none
 f121:fs.get 121=some ZaX
 n121: ∀l H,Zx 121 l H=none
 f122:fs.get 122=some yG
 n122: ∀l H,Zx 122 l H=none
 f127:fs.get 127=some ZaY
 n127: ∀l H,Zx 127 l H=none
 f128:fs.get 128=some fK
 n128: ∀l H,Zx 128 l H=none
 f129:fs.get 129=some Zdz
 n129: ∀l H,Zx 129 l H=none
 f130:fs.get 130=some fL
 n130: ∀l H,Zx 130 l H=none
 f131:fs.get 131=some ZaZ
 n131: ∀l H,Zx 131 l H=none
 f143:fs.get 143=some Za0
 n143: ∀l H,Zx 143 l H=none
 f144:fs.get 144=some mh
 n144: ∀l H,Zx 144 l H=none
 f147:fs.get 147=some Za1
 n147: ∀l H,Zx 147 l H=none
 f148:fs.get 148=some Cf
 n148: ∀l H,Zx 148 l H=none
 f149:fs.get 149=some fM
 n149: ∀l H,Zx 149 l H=none
 f150:fs.get 150=some Za2
 n150: ∀l H,Zx 150 l H=none
 f151:fs.get 151=some Za3
 n151: ∀l H,Zx 151 l H=none
 f154:fs.get 154=some Za4
 n154: ∀l H,Zx 154 l H=none
 f158:fs.get 158=some fN
 n158: ∀l H,Zx 158 l H=none
 f167:fs.get 167=some Za5
 n167: ∀l H,Zx 167 l H=none
 f169:fs.get 169=some Za6
 n169: ∀l H,Zx 169 l H=none
 f225:fs.get 225=some Za7
 n225: ∀l H,Zx 225 l H=none
 f226:fs.get 226=some Za8
 n226: ∀l H,Zx 226 l H=none
 f227:fs.get 227=some Za9
 n227: ∀l H,Zx 227 l H=none
 ix: ∀(s:List UInt8) (x:Nat) (H:Heap),x<256->Zx 117 [.str s,nI .u8 x] H=some (.ret (.int .i64 (QC x s 0)) H)
 cn: ∀(s:List UInt8) (x:Nat) (H:Heap),x<256->Zx 191 [.str s,nI .u8 x] H=some (.ret (nI .i64 (XT x s 0)) H)
 rz: ∀(x:Nat) (H:Heap),100<=H.nx->x<=20->Zx 65 [.str [48],nI .i64 x] H=some (.ret (.str (List.replicate x 48)) H)
 mz: ∀(x:Nat) (H:Heap),x<=281474976710656->Zx 97 [nI .i64 x] H=some (.ret (.slice H.nx 0 x none) (H.new (.row ⟨5,1,x,.leaf,.unk,0,false,true,false⟩)))
 ml: ∀(H:Heap),100<=H.nx->Zx 92 [nI .u64 1,nI .u64 8] H=some (.ret (.tup [nI .u64 0,nI .u64 8]) H)
def rQ:List UInt64:=[1,10,100,1000,10000,100000,1000000,10000000,100000000,1000000000,10000000000,100000000000,1000000000000,10000000000000,100000000000000,1000000000000000,10000000000000000,100000000000000000,1000000000000000000,10000000000000000000]
def QT(H:Heap):Prop:=100<=H.nx∧(∃r,H.t.get 5=some (.row r)∧Cells r (rQ.map bK))∧ ∃r,H.t.get 7=some (.row r)∧7<r.size∧r.get 7=nI .u8 3
theorem QT.keep{H H':Heap}(g:QT H){S:List Nat}(k:ZK H H' S)(hS: ∀x∈S,100<=x):QT H':=by
 obtain⟨h,⟨r,h1,h2⟩,e,h3,h4,h5⟩:=g
 exact⟨YR h k.nx,⟨r,by rw[k.get _ (by omega) (λh=>by have:=hS _ h;omega)];exact h1,h2⟩,e,by rw[k.get _ (by omega) (λh=>by have:=hS _ h;omega)];exact h3,h4,h5⟩
theorem QT.put{H:Heap}(g:QT H){b:Nat}(hb:100<=b)(o:Obj):QT (H.put b o):=g.keep (S:=[b]) (ZK.put λ_=>by simp) (by simp;exact hb)
theorem QT.new{H:Heap}(g:QT H)(o:Obj):QT (H.new o):=g.keep (S:=[]) (ZK.new H o _) (by simp)
theorem flat_len{sz:Nat}: ∀{ls:List (List AV)},(∀l∈ls,l.length=sz)->ls.flatten.length=ls.length*sz
 |[],_=>by simp
 |l::ls,h=>by
  rw[WD,Zk,flat_len (λx hx=>h x (ZQ _ hx)),h l (ZE ..),Zl,WH]
  omega
theorem flat_at{sz:Nat}: ∀{ls:List (List AV)} {i:Nat},(∀l∈ls,l.length=sz)->i<ls.length->(ls.flatten.drop (i*sz)).take sz=ls.getD i []
 |l::ls,0,h,_=>by
  rw[Vi,ZC,WD,List.take_append_of_le_length (by rw[h l (ZE ..)];exact Zz _),Y1 (by rw[h l (ZE ..)];exact Zz _)]
  rfl
 |l::ls,i+1,h,hi=>by
  have hl:=h l (ZE ..)
  have e:(i+1)*sz=l.length+i*sz:=by rw[hl,WH];omega
  rw[WD,e,<-TS,TT]
  have:=flat_at (i:=i) (λx hx=>h x (ZQ _ hx)) (by simpa using hi)
  rw[this];rfl
structure Ce(H:Heap)(b e sz:Nat)(ls:List (List AV))(r:Row):Prop where
 at_:H.t.get b=some (.row r)
 elem:r.elem=e
 szr:r.sz=sz
 own:r.own=true
 fz:r.fz=0
 sm:r.sm=false
 exact_:r.exact=false
 cells:Cells r ls.flatten
 each: ∀l∈ls,l.length=sz
 ro:H.ro<=b
 low:b<H.nx
theorem Ce.size{H:Heap}{b e sz:Nat}{ls:List (List AV)}{r:Row}(h:Ce H b e sz ls r):r.size=ls.length*sz:=by rw[h.cells.size,flat_len h.each]
theorem Ce.moved{H H':Heap}{b e sz:Nat}{ls:List (List AV)}{r:Row}(h:Ce H b e sz ls r)(g:H'.t.get b=H.t.get b)(hro:H'.ro=H.ro)(hnx:H.nx<=H'.nx):Ce H' b e sz ls r:=
 ⟨g.trans h.at_,h.elem,h.szr,h.own,h.fz,h.sm,h.exact_,h.cells,h.each,by rw[hro];exact h.ro,Yk h.low hnx⟩
theorem Ce.load{H H':Heap}{b e sz:Nat}{ls:List (List AV)}{r:Row}(h:Ce H b e sz ls r)(ht:H'.t=H.t){i:Nat}(hi:i<ls.length):BN sz (.ptr b (i*sz)) H'=.val (.agg (ls.getD i [])) H':=by
 have hf:=flat_len h.each
 have hm:(i+1)*sz<=ls.length*sz:=W7 _ hi
 rw[WH,Qc] at hm
 rw[pI (r:=r) (by rw[ht];exact h.at_) h.cells (by omega),flat_at h.each hi]
theorem pi{n i sz:Nat}(h:i<n)(b o:Nat)(c:Option Nat)(k:IntKind)(H:Heap):KA sz (.slice b o n c) (nI k i) H=.val (.ptr b (o+i*sz)) H:=by
 show Yb (Nat.ble (Nat.succ i) n) (OR.val (.ptr b (Nat.add o (Nat.mul i sz))) H)=_
 rw[Zj (show Nat.succ i<=n from h)];rfl
def RP(H:Heap)(v:AV)(e sz:Nat)(ls:List (List AV))(lo:Nat):Prop:=(ls=[]∧v=.nils)∨(ls≠[]∧ ∃b r,v=.slice b 0 ls.length none∧Ce H b e sz ls r∧lo<=b)
theorem oP{H:Heap}{v:AV}{e sz bytes:Nat}{ls:List (List AV)}{lo:Nat}(h:RP H v e sz ls lo)(hsz:1<=sz)(hby:1<=bytes)(hl:(ls.length+1)*bytes<=140737488355328)(hro:H.ro<=H.nx)(hlo:lo<=H.nx){x:List AV}(hx:x.length=sz):
  ∃v' H',TP e sz bytes v (.slice H.nx 0 1 none) (H.newRow e sz x true)=.val v' H'∧RP H' v' e sz (ls++[x]) lo∧Below lo H H':=by
 generalize hH1:H.newRow e sz x true=H1
 have Kn:H1.nx=H.nx+1:=by rw[<-hH1];rfl
 have k1:ZK H H1 []:=by rw[<-hH1];exact ZK.new H _ []
 have b1:Below lo H H1:=by rw[<-hH1];exact Below.new lo H _
 have gx:H1.t.get H.nx=some (.row ⟨e,sz,Xa x,T.ofList x,.unk,0,false,true,true⟩):=by rw[<-hH1,HH,Nh,if_pos rfl]
 have cx:=Cells.new e sz x 0 false true true
 have src: ∀k:Nat->List AV->OR,(zt (.slice H.nx 0 1 none) λn=>WY H1 sz (.slice H.nx 0 1 none) n λnew=>k n new)=k 1 x:=by
  intro k
  show(WY H1 sz (.slice H.nx 0 1 none) 1 λnew=>k 1 new)=_
  generalize(⟨e,sz,Xa x,T.ofList x,.unk,0,false,true,true⟩:Row)=r0 at gx cx
  unfold WY XA
  simp only[gx]
  show Yb (Nat.ble (0+1*sz) r0.size) (k 1 (W9 r0 0 (1*sz)))=_
  rw[Qc,cx.size,hx,Zj (show 0+sz<=sz by omega)]
  have:=cx.load (o:=0) (n:=sz) (by omega)
  rw[this,ZC,Y1 (by omega)]
  rfl
 have ap: ∀a,TP e sz bytes a (.slice H.nx 0 1 none) H1=PS a e sz bytes H1 1 x:=by
  intro a
  show Yb (Nat.ble 1 sz) (Yb (Nat.ble 1 bytes) _)=_
  rw[Zj hsz,Zj hby]
  exact src λn new=>PS a e sz bytes H1 n new
 rw[ap]
 rcases h with⟨rfl,rfl⟩|⟨hne,b,r,rfl,g,hb⟩
 ·refine⟨.slice H1.nx 0 1 none,H1.newRow e sz x false,?_,.inr ⟨by simp,H1.nx,_,rfl,⟨by rw[HH,Nh,if_pos rfl],rfl,rfl,rfl,rfl,rfl,rfl,by simpa using Cells.new e sz x 0 false true false,λl hm=>by simp at hm;rw[hm];exact hx,by show H1.ro<=H1.nx;rw[k1.ro];omega,YP _⟩,by omega⟩,b1.trans (Below.new lo H1 _)⟩
  show Yb (Nat.ble (1*bytes) 140737488355328) (OR.val (.slice H1.nx 0 1 none) (H1.newRow e sz x false))=_
  rw[Zj (by simpa using hl)];rfl
 ·have g1:Ce H1 b e sz ls r:=g.moved (k1.get b g.low (by simp)) k1.ro (by omega)
  have hs:=g1.size
  have hcap:VO r 0 none=ls.length:=by
   show cond (Nat.beq r.sz 1) (r.size - 0) ((r.size - 0)/r.sz)=_
   rw[g1.szr,hs,Qq]
   by_cases h1:sz=1
   ·subst h1;show ls.length*1=_;omega
   ·rw[YZ,Ze h1]
    exact Nat.mul_div_cancel _ (by omega)
  have Pe:H1.may r b=true:=by unfold Heap.may;rw[g1.own,Zj g1.ro];rfl
  have hlen:(ls.length+1)*sz=ls.length*sz+sz:=by rw[WH];omega
  refine⟨.slice H1.nx 0 (ls++[x]).length none,⟨Nat.succ H1.nx,(H1.t.del b).set H1.nx (.row ⟨r.elem,sz,(ls.length+1)*sz,WO r.cells (ls.length*sz) x,r.dflt,r.fz,r.sm,true,false⟩),H1.ro⟩,?_,.inr ⟨by simp,H1.nx,⟨r.elem,sz,(ls.length+1)*sz,WO r.cells (ls.length*sz) x,r.dflt,r.fz,r.sm,true,false⟩,rfl,⟨by rw[T.get_set,if_pos rfl],g1.elem,rfl,rfl,g1.fz,g1.sm,rfl,?_,?_,YR g1.ro (O5 g1.low),YP _⟩,by omega⟩,b1.trans ⟨Vr _,rfl,λc hc hn=>?_⟩⟩
  ·show XA H1 b _=_
   unfold XA
   simp only[g1.at_]
   have h1:MU r sz none=true:=by show Nat.beq r.sz sz=true;rw[g1.szr,Xu]
   have h2:Nat.ble (Nat.add ls.length 1) (VO r 0 none)=false:=by
    rw[hcap]
    cases h:Nat.ble (Nat.add ls.length 1) ls.length with
    |false=>rfl
    |true=>have:=Yn h;have:ls.length+1<=ls.length:=this;omega
   rw[h1,h2]
   show Yb (Nat.ble ((ls.length+1)*bytes) 140737488355328) (Yb (Nat.ble (0+ls.length*sz) r.size) (cond r.exact _ (IZ H1 e b 0 ls.length 1 sz r x)))=_
   rw[Zj hl,hs,Zb,Zj (Zz _),g1.exact_]
   show Yb (Nat.beq r.elem e) (Yb (H1.may r b) (Yb (Nat.ble r.fz (ls.length*sz)) (Yb (Nat.beq (ls.length*sz) r.size) (Yb (Nat.beq 0 0) _))))=_
   rw[g1.elem,Xu,Pe,g1.fz,Zj (ZA _),hs,Xu]
   show OR.val (.slice H1.nx 0 (ls.length+1) none) _=_
   rw[Zk]
   rfl
  ·have hf:=flat_len g1.each
   refine⟨by show(ls.length+1)*sz=_;rw[UQ,Zk,hf];simp[hx];omega,λi hi=>?_⟩
   rw[UQ,Zk,hf] at hi
   have e1:[x].flatten=x:=by simp
   rw[e1] at hi
   rw[Row.get_eq]
   show((WO r.cells (ls.length*sz) x).get i).getD r.dflt=_
   rw[Qa,Zh,UQ,e1]
   by_cases h1:ls.length*sz<=i
   ·rw[if_pos ⟨h1,by omega⟩,YY (by omega),hf,Zp (show i - ls.length*sz<x.length by omega)];rfl
   ·rw[if_neg (by omega),YN (by omega)]
    have:=g1.cells.get i (by omega)
    rw[Row.get_eq,Zh] at this
    exact this
  ·intro l hm
   rcases ZD.1 hm with hm|hm
   ·exact g1.each l hm
   ·simp at hm;rw[hm];exact hx
  ·show((H1.t.del b).set H1.nx _).get c=_
   rw[T.get_set,if_neg (by omega),T.get_del,if_neg (by omega)]
theorem RP.below{H H':Heap}{v:AV}{e sz:Nat}{ls:List (List AV)}{lo:Nat}(h:RP H v e sz ls lo)(hp: ∀c,lo<=c->c<H.nx->H'.t.get c=H.t.get c)(hro:H'.ro=H.ro)(hnx:H.nx<=H'.nx):RP H' v e sz ls lo:=by
 rcases h with h|⟨hne,b,r,rfl,g,hb⟩
 ·exact .inl h
 ·exact .inr ⟨hne,b,r,rfl,g.moved (hp b hb g.low) hro hnx,hb⟩
theorem RP.len{H:Heap}{v:AV}{e sz:Nat}{ls:List (List AV)}{lo:Nat}(h:RP H v e sz ls lo)(G:Heap):Ll v G=.val (nI .i64 ls.length) G:=by
 rcases h with⟨rfl,rfl⟩|⟨_,b,r,rfl,_⟩
 ·exact Db G
 ·exact SU ..
theorem RP.low{H:Heap}{v:AV}{e sz:Nat}{ls:List (List AV)}{lo:Nat}(h:RP H v e sz ls lo){n:Nat}(hn:H.nx<=n):WC n v=true:=by
 rcases h with⟨_,rfl⟩|⟨_,b,r,rfl,g,_⟩
 ·rfl
 ·exact Yg (Yk g.low hn) _ _ _
theorem RP.same{H:Heap}{v:AV}{e sz:Nat}{ls:List (List AV)}{lo:Nat}(h:RP H v e sz ls lo)(n:Nat)(t:T Obj):Um (.val v ⟨n,t,n⟩) v n=true:=by
 rcases h with⟨_,rfl⟩|⟨_,b,r,rfl,_⟩
 ·exact Qg n t
 ·exact Z8 _ _ _ _ _ _
def Seen(es:List Sy)(ks:List (List UInt8)):Prop:=es.map (λe=>(e.key,e.val))=ks.map λk=>(AV.str k,nI .i64 1)
theorem Seen.nil:Seen [] []:=rfl
theorem Seen.push{es:List Sy}{ks:List (List UInt8)}(h:Seen es ks)(k:List UInt8)(c:Nat):Seen (es++[⟨.str k,nI .i64 1,c⟩]) (ks++[k]):=by
 unfold Seen at*
 rw[Wn,Wn,h];rfl
def aW(eq:AV->AV->Option Bool)(zv:AV)(ok:Bool)(m k:AV)(H:Heap):OR:=Dv m (Kw ok H zv false) λb=>KD H b λo=>vq o λes=>Ua eq k (Kw ok H zv false) (λv=>Kw ok H v true) es
theorem Zr(eq:AV->AV->Option Bool)(zv:AV)(ok:Bool)(m k:YF)(tm:TM)(H:Heap):Mg eq zv ok m k tm H=aW eq zv ok (m tm) (k tm) H:=rfl
def lkO(eq:AV->AV->Option Bool)(zv:AV)(ok:Bool)(x:Option Obj)(k:AV)(H:Heap):OR:=match x with|some o=>vq o λes=>Ua eq k (Kw ok H zv false) (λv=>Kw ok H v true) es|none=>.fail
theorem ZL(eq:AV->AV->Option Bool)(zv:AV)(ok:Bool)(b:Nat)(k:AV)(H:Heap):aW eq zv ok (.map b) k H=lkO eq zv ok (H.t.get b) k H:=rfl
structure Sl(H:Heap)(sz:Nat)(v:AV)(ls:List (List AV)):Prop where
 each: ∀l∈ls,l.length=sz
 here:(ls=[]∧v=.nils)∨ ∃b o c,v=.slice b o ls.length c∧b<H.nx∧(ls≠[]-> ∃r,H.t.get b=some (.row r)∧o+ls.length*sz<=r.size∧ ∀i,i<ls.length*sz->r.get (o+i)=ls.flatten.getD i .unk)
theorem Sl.nil(H:Heap)(sz:Nat):Sl H sz .nils []:=⟨λ_ h=>(by cases h),.inl ⟨rfl,rfl⟩⟩
theorem Sl.keep{H H':Heap}{sz:Nat}{v:AV}{ls:List (List AV)}{S:List Nat}(h:Sl H sz v ls)(k:ZK H H' S)(hS: ∀b o n c,v=.slice b o n c->b∉S):Sl H' sz v ls:=by
 refine⟨h.each,?_⟩
 rcases h.here with h1|⟨b,o,c,rfl,hb,h2⟩
 ·exact .inl h1
 ·refine .inr ⟨b,o,c,rfl,Yk hb k.nx,λhne=>?_⟩
  obtain⟨r,h3,h4⟩:=h2 hne
  exact⟨r,by rw[k.get b hb (hS _ _ _ _ rfl)];exact h3,h4⟩
theorem Sl.keep0{H H':Heap}{sz:Nat}{v:AV}{ls:List (List AV)}(h:Sl H sz v ls)(k:ZK H H' []):Sl H' sz v ls:=h.keep k (by simp)
theorem Sl.len{H:Heap}{sz:Nat}{v:AV}{ls:List (List AV)}(h:Sl H sz v ls)(G:Heap):Ll v G=.val (nI .i64 ls.length) G:=by
 rcases h.here with⟨rfl,rfl⟩|⟨b,o,c,rfl,_⟩
 ·rfl
 ·exact SU ..
theorem Sl.low{H:Heap}{sz:Nat}{v:AV}{ls:List (List AV)}(h:Sl H sz v ls){n:Nat}(hn:H.nx<=n):WC n v=true:=by
 rcases h.here with⟨rfl,rfl⟩|⟨b,o,c,rfl,hb,_⟩
 ·rfl
 ·exact Yg (by omega) ..
theorem Sl.same{H:Heap}{sz:Nat}{v:AV}{ls:List (List AV)}(h:Sl H sz v ls)(n:Nat)(t:T Obj):Um (.val v ⟨n,t,n⟩) v n=true:=by
 rcases h.here with⟨rfl,rfl⟩|⟨b,o,c,rfl,_⟩
 ·exact Qg ..
 ·exact Z8 ..
theorem Sl.cells{H:Heap}{sz:Nat}{v:AV}{ls:List (List AV)}(h:Sl H sz v ls):v.cells=[v]:=by
 rcases h.here with⟨rfl,rfl⟩|⟨b,o,c,rfl,_⟩<;>rfl
theorem Sl.at_{H:Heap}{sz:Nat}{v:AV}{ls:List (List AV)}(h:Sl H sz v ls){i:Nat}(hi:i<ls.length):
  ∃b o r,(∀(k:IntKind) (G:Heap),KA sz v (nI k i) G=.val (.ptr b o) G)∧b<H.nx∧H.t.get b=some (.row r)∧(∀G:Heap,zq sz (some (.row r)) o G=.val (.agg (ls.getD i [])) G)∧ ∀(j:Nat) (G:Heap),j<sz->ld1 (some (.row r)) (o+j) G=.val ((ls.getD i []).getD j .unk) G:=by
 have hne:ls≠[]:=by intro e;subst e;cases hi
 rcases h.here with⟨rfl,_⟩|⟨b,o,c,rfl,hb,h2⟩
 ·exact absurd rfl hne
 ·obtain⟨r,h3,h4,h5⟩:=h2 hne
  have hm:(i+1)*sz<=ls.length*sz:=W7 _ hi
  rw[WH,Qc] at hm
  have hf:=flat_len h.each
  have hg:=flat_at h.each hi
  refine⟨b,o+i*sz,r,λk G=>pi hi b o c k G,hb,h3,λG=>?_,λj G hj=>?_⟩
  ·show Yb (Nat.ble (Nat.add (o+i*sz) sz) r.size) (OR.val (.agg (W9 r (o+i*sz) sz)) G)=_
   rw[Zj (show Nat.add (o+i*sz) sz<=r.size by show o+i*sz+sz<=_;omega)]
   show OR.val (.agg (W9 r (o+i*sz) sz)) G=_
   congr 2
   rw[<-hg]
   apply XP
   intro j
   by_cases hj:j<sz
   ·rw[TZ _ _ _ _ hj,XE hj,XN]
    have:=h5 (i*sz+j) (by omega)
    rw[<-X9,Zh,Zp (by omega)] at this
    rw[Zp (by omega),this];rfl
   ·rw[Y5 (by rw[TB];omega),Y5 (by rw[Z2];omega)]
  ·rw[Y0 (by omega)]
   congr 1
   rw[<-hg,X9,h5 _ (by omega),Zh,Zh,XE hj,XN]
theorem Sl.of_recs{H:Heap}{b e sz:Nat}{ls:List (List AV)}{r:Row}(h:Ce H b e sz ls r)(c:Option Nat):Sl H sz (.slice b 0 ls.length c) ls:=
 ⟨h.each,.inr ⟨b,0,c,rfl,h.low,λ_=>⟨r,h.at_,by rw[h.size];omega,λi hi=>by rw[Zb];exact h.cells.get i (by rw[flat_len h.each];exact hi)⟩⟩⟩
theorem Sl.of_buf{H:Heap}{v:AV}{e sz:Nat}{ls:List (List AV)}{lo:Nat}(h:RP H v e sz ls lo):Sl H sz v ls:=by
 rcases h with⟨rfl,rfl⟩|⟨_,b,r,rfl,h,_⟩
 ·exact Sl.nil ..
 ·exact Sl.of_recs h _
theorem SD{n b:Nat}{l vs:List AV}{H:Heap}(hl:l.length=n)(hv:vs.length=n)(hn:1<=n)(hro:H.ro<=b)(e sz:Nat)(sm ex:Bool):CC n (some (rG e sz l 0 sm true ex)) b 0 (.agg vs) H=.val XL (H.put b (rG e sz vs 0 sm true ex)):=by
 rw[i7 hn (by exact hv) (by omega) hro (ZA _)]
 congr 3
 rw[zn _ _ _ (by show 0+vs.length<=_;omega)]
 show []++(vs++l.drop (0+vs.length))=vs
 rw[UP (by omega)];simp
end
end Go.AI
