/- Equations in bundles; plain words; the code of the functions that the law comes to. -/
import Derived.Test.YtfkkljjgkopkfaaGreatDoorP7
import Derived.Test.YtfkkljjgkopkfaaGreatDoorP5
import Derived.Test.YtfkkljjgkopkfaaGreatDoorProg
import Derived.Test.YtfkkljjgkopkfaaGreatDoorZzD
import Derived.Sort.EncStr
set_option maxRecDepth 1000000
set_option maxHeartbeats 0
set_option linter.all false
namespace Go.AI
open Go
noncomputable section
section
open Go N8
def Qm(b:Bool)(yes no:UG):Qd Y9 b yes no=no:=rfl
def gF{r r':UG}(h:r=r')(k:TM->Heap->X->UG):Ll r k=Ll r' k:=by rw[h]
def bo{r r':OR}(h:r=r')(n:TM->Heap->X->UG)(d:VJ)(c:Ctx)(tm:TM)(H:Heap)(x:X):Kj n d c tm H x r=Kj n d c tm H x r':=by rw[h]
def bq{r r':CR}(h:r=r')(n:TM->Heap->X->UG)(d:VJ)(tm:TM)(x:X):qO n d tm x r=qO n d tm x r':=by rw[h]
def bp{v v':AV}(h:v=v')(k:Bool->UG):nS v k=nS v' k:=by rw[h]
def oW{v v':AV}(h:v=v')(b:Bool)(yes no:UG):Qd v b yes no=Qd v' b yes no:=by rw[h]
def gA{v v':Bool}(h:v=v')(a b:TM->Heap->X->UG)(tm:TM)(H:Heap)(x:X):yy a b v tm H x=yy a b v' tm H x:=by rw[h]
def oX{r r':UG}(h:r=r')(i:Nat):LM i r=LM i r':=by rw[h]
def br{r r':UG}(h:r=r')(dc:Option AV->Nat->List AV->Heap->DR)(rs:List (WI×Option (Nat×Bool))):EK dc rs r=EK dc rs r':=by rw[h]
def gC{r r':OR}(h:r=r')(p:PI)(nx:PK)(rs:List RD)(tm:TM)(H:Heap)(x:X):GS p nx rs tm H x r=GS p nx rs tm H x r':=by rw[h]
def gE{r r':OR}(h:r=r')(p:PI)(nx:PK)(rs:List RD)(tm:TM)(H:Heap)(x:X):AY p nx rs tm H x r=AY p nx rs tm H x r':=by rw[h]
def bn{r r':OR}(h:r=r')(ds:List VJ)(p:PI)(nx:PK)(rs:List RD)(c:Ctx)(tm:TM)(x:X):zR ds p nx rs c tm x r=zR ds p nx rs c tm x r':=by rw[h]
def bz{r r':CR}(h:r=r')(ds:List VJ)(p:PI)(nx:PK)(rs:List RD)(tm:TM)(x:X):pk ds p nx rs tm x r=pk ds p nx rs tm x r':=by rw[h]
attribute [congr] gF bo bq bp oW gA oX br gC gE bn bz
def Yg:(∀tm:TM,Z6 tm=a0 (a0 (a0 tm))∧Xn tm=a1 (a0 (a0 tm))∧Va tm=a2 (a0 (a0 tm))∧V0 tm=a3 (a0 (a0 tm))∧Xo tm=a4 (a0 (a0 tm))∧Xi tm=a5 (a0 (a0 tm))∧XL tm=a6 (a0 (a0 tm))∧XE tm=a7 (a0 (a0 tm))∧Xt tm=a0 (a1 (a0 tm))∧Wv tm=a1 (a1 (a0 tm))∧YH tm=a2 (a1 (a0 tm))∧Y1 tm=a3 (a1 (a0 tm))∧Y2 tm=a4 (a1 (a0 tm))∧YS tm=a5 (a1 (a0 tm))∧Xl tm=a6 (a1 (a0 tm))∧Xs tm=a7 (a1 (a0 tm))∧Xr tm=a0 (a2 (a0 tm))∧XK tm=a1 (a2 (a0 tm))∧X1 tm=a2 (a2 (a0 tm))∧X6 tm=a3 (a2 (a0 tm))∧WC tm=a4 (a2 (a0 tm))∧Vd tm=a5 (a2 (a0 tm))∧W6 tm=a6 (a2 (a0 tm))∧W7 tm=a7 (a2 (a0 tm))∧WG tm=a0 (a3 (a0 tm))∧Vv tm=a1 (a3 (a0 tm))∧VA tm=a2 (a3 (a0 tm))∧VB tm=a3 (a3 (a0 tm))∧Vg tm=a4 (a3 (a0 tm))∧W8 tm=a5 (a3 (a0 tm))∧Uv tm=a6 (a3 (a0 tm))∧Uw tm=a7 (a3 (a0 tm)))∧(∀(tm:TM) (v:AV),st0 tm v=u0 (u0 (u0 λ_=>v)) tm∧st1 tm v=u0 (u0 (u1 λ_=>v)) tm∧st2 tm v=u0 (u0 (u2 λ_=>v)) tm∧VS tm v=u0 (u0 (u3 λ_=>v)) tm∧YU tm v=u0 (u0 (u4 λ_=>v)) tm∧WN tm v=u0 (u0 (u5 λ_=>v)) tm∧Wg tm v=u0 (u0 (u6 λ_=>v)) tm∧WD tm v=u0 (u0 (u7 λ_=>v)) tm∧Vi tm v=u0 (u1 (u0 λ_=>v)) tm∧Ur tm v=u0 (u1 (u1 λ_=>v)) tm∧Xe tm v=u0 (u1 (u2 λ_=>v)) tm∧Xw tm v=u0 (u1 (u3 λ_=>v)) tm∧XB tm v=u0 (u1 (u4 λ_=>v)) tm∧Xx tm v=u0 (u1 (u5 λ_=>v)) tm∧X5 tm v=u0 (u1 (u6 λ_=>v)) tm∧X9 tm v=u0 (u1 (u7 λ_=>v)) tm∧X4 tm v=u0 (u2 (u0 λ_=>v)) tm∧We tm v=u0 (u2 (u1 λ_=>v)) tm∧Wk tm v=u0 (u2 (u2 λ_=>v)) tm∧WJ tm v=u0 (u2 (u3 λ_=>v)) tm∧W0 tm v=u0 (u2 (u4 λ_=>v)) tm∧VD tm v=u0 (u2 (u5 λ_=>v)) tm∧VG tm v=u0 (u2 (u6 λ_=>v)) tm∧VH tm v=u0 (u2 (u7 λ_=>v)) tm∧VI tm v=u0 (u3 (u0 λ_=>v)) tm∧VU tm v=u0 (u3 (u1 λ_=>v)) tm∧V6 tm v=u0 (u3 (u2 λ_=>v)) tm∧V7 tm v=u0 (u3 (u3 λ_=>v)) tm∧Uj tm v=u0 (u3 (u4 λ_=>v)) tm∧Uq tm v=u0 (u3 (u5 λ_=>v)) tm∧UB tm v=u0 (u3 (u6 λ_=>v)) tm∧Tb tm v=u0 (u3 (u7 λ_=>v)) tm):=
 ⟨λ_=>⟨rfl,rfl,rfl,rfl,rfl,rfl,rfl,rfl,rfl,rfl,rfl,rfl,rfl,rfl,rfl,rfl,rfl,rfl,rfl,rfl,rfl,rfl,rfl,rfl,rfl,rfl,rfl,rfl,rfl,rfl,rfl,rfl⟩,λ_ _=>⟨rfl,rfl,rfl,rfl,rfl,rfl,rfl,rfl,rfl,rfl,rfl,rfl,rfl,rfl,rfl,rfl,rfl,rfl,rfl,rfl,rfl,rfl,rfl,rfl,rfl,rfl,rfl,rfl,rfl,rfl,rfl,rfl⟩⟩
def UH:(∀tm:TM,UU tm=a0 (a4 (a0 tm))∧U6 tm=a1 (a4 (a0 tm))∧U7 tm=a2 (a4 (a0 tm))∧U8 tm=a3 (a4 (a0 tm))∧Rc tm=a4 (a4 (a0 tm))∧SR tm=a5 (a4 (a0 tm))∧Sa tm=a6 (a4 (a0 tm))∧Sb tm=a7 (a4 (a0 tm))∧Sn tm=a0 (a5 (a0 tm))∧SG tm=a1 (a5 (a0 tm))∧Sc tm=a2 (a5 (a0 tm))∧S4 tm=a3 (a5 (a0 tm))∧So tm=a4 (a5 (a0 tm))∧Re tm=a5 (a5 (a0 tm))∧Qc tm=a6 (a5 (a0 tm))∧RO tm=a7 (a5 (a0 tm))∧QV tm=a0 (a6 (a0 tm))∧Pq tm=a1 (a6 (a0 tm))∧OY tm=a2 (a6 (a0 tm))∧Pr tm=a3 (a6 (a0 tm))∧RP tm=a4 (a6 (a0 tm))∧OZ tm=a5 (a6 (a0 tm))∧Ot tm=a6 (a6 (a0 tm))∧Nh tm=a7 (a6 (a0 tm))∧QW tm=a0 (a7 (a0 tm))∧Ni tm=a1 (a7 (a0 tm))∧RQ tm=a2 (a7 (a0 tm))∧Nj tm=a3 (a7 (a0 tm))∧Q9 tm=a4 (a7 (a0 tm))∧O0 tm=a5 (a7 (a0 tm))∧Nk tm=a6 (a7 (a0 tm))∧QX tm=a7 (a7 (a0 tm)))∧(∀(tm:TM) (v:AV),Tk tm v=u0 (u4 (u0 λ_=>v)) tm∧TA tm v=u0 (u4 (u1 λ_=>v)) tm∧T8 tm v=u0 (u4 (u2 λ_=>v)) tm∧Sf tm v=u0 (u4 (u3 λ_=>v)) tm∧SX tm v=u0 (u4 (u4 λ_=>v)) tm∧SY tm v=u0 (u4 (u5 λ_=>v)) tm∧S7 tm v=u0 (u4 (u6 λ_=>v)) tm∧RB tm v=u0 (u4 (u7 λ_=>v)) tm∧RY tm v=u0 (u5 (u0 λ_=>v)) tm∧RC tm v=u0 (u5 (u1 λ_=>v)) tm∧RZ tm v=u0 (u5 (u2 λ_=>v)) tm∧R0 tm v=u0 (u5 (u3 λ_=>v)) tm∧QY tm v=u0 (u5 (u4 λ_=>v)) tm∧Pj tm v=u0 (u5 (u5 λ_=>v)) tm∧Pk tm v=u0 (u5 (u6 λ_=>v)) tm∧Pm tm v=u0 (u5 (u7 λ_=>v)) tm∧Pw tm v=u0 (u6 (u0 λ_=>v)) tm∧Px tm v=u0 (u6 (u1 λ_=>v)) tm∧OI tm v=u0 (u6 (u2 λ_=>v)) tm∧O6 tm v=u0 (u6 (u3 λ_=>v)) tm∧O7 tm v=u0 (u6 (u4 λ_=>v)) tm∧OJ tm v=u0 (u6 (u5 λ_=>v)) tm∧OK tm v=u0 (u6 (u6 λ_=>v)) tm∧O8 tm v=u0 (u6 (u7 λ_=>v)) tm∧OM tm v=u0 (u7 (u0 λ_=>v)) tm∧ON tm v=u0 (u7 (u1 λ_=>v)) tm∧O9 tm v=u0 (u7 (u2 λ_=>v)) tm∧Na tm v=u0 (u7 (u3 λ_=>v)) tm∧OO tm v=u0 (u7 (u4 λ_=>v)) tm∧Nr tm v=u0 (u7 (u5 λ_=>v)) tm∧Ns tm v=u0 (u7 (u6 λ_=>v)) tm∧Nt tm v=u0 (u7 (u7 λ_=>v)) tm):=
 ⟨λ_=>⟨rfl,rfl,rfl,rfl,rfl,rfl,rfl,rfl,rfl,rfl,rfl,rfl,rfl,rfl,rfl,rfl,rfl,rfl,rfl,rfl,rfl,rfl,rfl,rfl,rfl,rfl,rfl,rfl,rfl,rfl,rfl,rfl⟩,λ_ _=>⟨rfl,rfl,rfl,rfl,rfl,rfl,rfl,rfl,rfl,rfl,rfl,rfl,rfl,rfl,rfl,rfl,rfl,rfl,rfl,rfl,rfl,rfl,rfl,rfl,rfl,rfl,rfl,rfl,rfl,rfl,rfl,rfl⟩⟩
def KA:(∀tm:TM,Nl tm=a0 (a0 (a1 tm))∧Ps tm=a1 (a0 (a1 tm))∧RR tm=a2 (a0 (a1 tm))∧NV tm=a3 (a0 (a1 tm))∧NW tm=a4 (a0 (a1 tm))∧K0 tm=a5 (a0 (a1 tm))∧LD tm=a6 (a0 (a1 tm))∧Kk tm=a7 (a0 (a1 tm))∧PR tm=a0 (a1 (a1 tm))∧Kl tm=a1 (a1 (a1 tm))∧M4 tm=a2 (a1 (a1 tm))∧K1 tm=a3 (a1 (a1 tm))∧Ii tm=a4 (a1 (a1 tm))∧Ht tm=a5 (a1 (a1 tm))∧LF tm=a6 (a1 (a1 tm))∧LG tm=a7 (a1 (a1 tm))∧Km tm=a0 (a2 (a1 tm))∧Ij tm=a1 (a2 (a1 tm))∧K2 tm=a2 (a2 (a1 tm))∧K3 tm=a3 (a2 (a1 tm))∧Ql tm=a4 (a2 (a1 tm))∧Mo tm=a5 (a2 (a1 tm))∧Ik tm=a6 (a2 (a1 tm))∧Kn tm=a7 (a2 (a1 tm))∧M5 tm=a0 (a3 (a1 tm))∧Ko tm=a1 (a3 (a1 tm))∧LH tm=a2 (a3 (a1 tm))∧K4 tm=a3 (a3 (a1 tm))∧LI tm=a4 (a3 (a1 tm))∧Hu tm=a5 (a3 (a1 tm))∧G4 tm=a6 (a3 (a1 tm))∧G5 tm=a7 (a3 (a1 tm)))∧(∀(tm:TM) (v:AV),Mq tm v=u1 (u0 (u0 λ_=>v)) tm∧Me tm v=u1 (u0 (u1 λ_=>v)) tm∧Mr tm v=u1 (u0 (u2 λ_=>v)) tm∧MQ tm v=u1 (u0 (u3 λ_=>v)) tm∧LY tm v=u1 (u0 (u4 λ_=>v)) tm∧Kr tm v=u1 (u0 (u5 λ_=>v)) tm∧Ks tm v=u1 (u0 (u6 λ_=>v)) tm∧Kt tm v=u1 (u0 (u7 λ_=>v)) tm∧LZ tm v=u1 (u1 (u0 λ_=>v)) tm∧Ku tm v=u1 (u1 (u1 λ_=>v)) tm∧Kv tm v=u1 (u1 (u2 λ_=>v)) tm∧Ju tm v=u1 (u1 (u3 λ_=>v)) tm∧In tm v=u1 (u1 (u4 λ_=>v)) tm∧Gf tm v=u1 (u1 (u5 λ_=>v)) tm∧Gg tm v=u1 (u1 (u6 λ_=>v)) tm∧Io tm v=u1 (u1 (u7 λ_=>v)) tm∧Ip tm v=u1 (u2 (u0 λ_=>v)) tm∧Iq tm v=u1 (u2 (u1 λ_=>v)) tm∧Jv tm v=u1 (u2 (u2 λ_=>v)) tm∧Jw tm v=u1 (u2 (u3 λ_=>v)) tm∧L0 tm v=u1 (u2 (u4 λ_=>v)) tm∧Jx tm v=u1 (u2 (u5 λ_=>v)) tm∧Jy tm v=u1 (u2 (u6 λ_=>v)) tm∧Kw tm v=u1 (u2 (u7 λ_=>v)) tm∧Kx tm v=u1 (u3 (u0 λ_=>v)) tm∧Ky tm v=u1 (u3 (u1 λ_=>v)) tm∧Jz tm v=u1 (u3 (u2 λ_=>v)) tm∧JA tm v=u1 (u3 (u3 λ_=>v)) tm∧Ir tm v=u1 (u3 (u4 λ_=>v)) tm∧Gh tm v=u1 (u3 (u5 λ_=>v)) tm∧FU tm v=u1 (u3 (u6 λ_=>v)) tm∧FV tm v=u1 (u3 (u7 λ_=>v)) tm):=
 ⟨λ_=>⟨rfl,rfl,rfl,rfl,rfl,rfl,rfl,rfl,rfl,rfl,rfl,rfl,rfl,rfl,rfl,rfl,rfl,rfl,rfl,rfl,rfl,rfl,rfl,rfl,rfl,rfl,rfl,rfl,rfl,rfl,rfl,rfl⟩,λ_ _=>⟨rfl,rfl,rfl,rfl,rfl,rfl,rfl,rfl,rfl,rfl,rfl,rfl,rfl,rfl,rfl,rfl,rfl,rfl,rfl,rfl,rfl,rfl,rfl,rfl,rfl,rfl,rfl,rfl,rfl,rfl,rfl,rfl⟩⟩
def Ca:(∀tm:TM,Em tm=a0 (a4 (a1 tm))∧En tm=a1 (a4 (a1 tm))∧Eo tm=a2 (a4 (a1 tm))∧G6 tm=a3 (a4 (a1 tm))∧NQ tm=a4 (a4 (a1 tm))∧NR tm=a5 (a4 (a1 tm))∧Q8 tm=a6 (a4 (a1 tm))∧GY tm=a7 (a4 (a1 tm))∧NS tm=a0 (a5 (a1 tm))∧Kd tm=a1 (a5 (a1 tm))∧KX tm=a2 (a5 (a1 tm))∧M1 tm=a3 (a5 (a1 tm))∧Do tm=a4 (a5 (a1 tm))∧Mx tm=a5 (a5 (a1 tm))∧GZ tm=a6 (a5 (a1 tm))∧My tm=a7 (a5 (a1 tm))∧IA tm=a0 (a6 (a1 tm))∧IB tm=a1 (a6 (a1 tm))∧M2 tm=a2 (a6 (a1 tm))∧Nd tm=a3 (a6 (a1 tm))∧IC tm=a4 (a6 (a1 tm))∧G0 tm=a5 (a6 (a1 tm))∧ID tm=a6 (a6 (a1 tm))∧IE tm=a7 (a6 (a1 tm))∧IF tm=a0 (a7 (a1 tm))∧NT tm=a1 (a7 (a1 tm))∧G1 tm=a2 (a7 (a1 tm))∧IG tm=a3 (a7 (a1 tm))∧NU tm=a4 (a7 (a1 tm))∧KY tm=a5 (a7 (a1 tm))∧G2 tm=a6 (a7 (a1 tm))∧Dp tm=a7 (a7 (a1 tm)))∧(∀(tm:TM) (v:AV),EV tm v=u1 (u4 (u0 λ_=>v)) tm∧EW tm v=u1 (u4 (u1 λ_=>v)) tm∧Cj tm v=u1 (u4 (u2 λ_=>v)) tm∧zn tm v=u1 (u4 (u3 λ_=>v)) tm∧Jr tm v=u1 (u4 (u4 λ_=>v)) tm∧Kh tm v=u1 (u4 (u5 λ_=>v)) tm∧IP tm v=u1 (u4 (u6 λ_=>v)) tm∧IR tm v=u1 (u4 (u7 λ_=>v)) tm∧IS tm v=u1 (u5 (u0 λ_=>v)) tm∧FP tm v=u1 (u5 (u1 λ_=>v)) tm∧FQ tm v=u1 (u5 (u2 λ_=>v)) tm∧IT tm v=u1 (u5 (u3 λ_=>v)) tm∧FR tm v=u1 (u5 (u4 λ_=>v)) tm∧FT tm v=u1 (u5 (u5 λ_=>v)) tm∧IU tm v=u1 (u5 (u6 λ_=>v)) tm∧IV tm v=u1 (u5 (u7 λ_=>v)) tm∧IW tm v=u1 (u6 (u0 λ_=>v)) tm∧IX tm v=u1 (u6 (u1 λ_=>v)) tm∧IY tm v=u1 (u6 (u2 λ_=>v)) tm∧IZ tm v=u1 (u6 (u3 λ_=>v)) tm∧I0 tm v=u1 (u6 (u4 λ_=>v)) tm∧I1 tm v=u1 (u6 (u5 λ_=>v)) tm∧I2 tm v=u1 (u6 (u6 λ_=>v)) tm∧I3 tm v=u1 (u6 (u7 λ_=>v)) tm∧I4 tm v=u1 (u7 (u0 λ_=>v)) tm∧I5 tm v=u1 (u7 (u1 λ_=>v)) tm∧I6 tm v=u1 (u7 (u2 λ_=>v)) tm∧Js tm v=u1 (u7 (u3 λ_=>v)) tm∧Jt tm v=u1 (u7 (u4 λ_=>v)) tm∧DQ tm v=u1 (u7 (u5 λ_=>v)) tm∧DT tm v=u1 (u7 (u6 λ_=>v)) tm∧DU tm v=u1 (u7 (u7 λ_=>v)) tm):=
 ⟨λ_=>⟨rfl,rfl,rfl,rfl,rfl,rfl,rfl,rfl,rfl,rfl,rfl,rfl,rfl,rfl,rfl,rfl,rfl,rfl,rfl,rfl,rfl,rfl,rfl,rfl,rfl,rfl,rfl,rfl,rfl,rfl,rfl,rfl⟩,λ_ _=>⟨rfl,rfl,rfl,rfl,rfl,rfl,rfl,rfl,rfl,rfl,rfl,rfl,rfl,rfl,rfl,rfl,rfl,rfl,rfl,rfl,rfl,rfl,rfl,rfl,rfl,rfl,rfl,rfl,rfl,rfl,rfl,rfl⟩⟩
def i4:(∀tm:TM,KZ tm=a0 (a0 (a2 tm))∧Dq tm=a1 (a0 (a2 tm))∧M3 tm=a2 (a0 (a2 tm))∧Dr tm=a3 (a0 (a2 tm))∧Mz tm=a4 (a0 (a2 tm))∧Ds tm=a5 (a0 (a2 tm))∧Dt tm=a6 (a0 (a2 tm))∧G3 tm=a7 (a0 (a2 tm))∧BM tm=a0 (a1 (a2 tm))∧BN tm=a1 (a1 (a2 tm))∧yX tm=a2 (a1 (a2 tm))∧yY tm=a3 (a1 (a2 tm))∧yZ tm=a4 (a1 (a2 tm))∧y4 tm=a5 (a1 (a2 tm))∧y5 tm=a6 (a1 (a2 tm))∧sX tm=a7 (a1 (a2 tm))∧sY tm=a0 (a2 (a2 tm))∧y6 tm=a1 (a2 (a2 tm))∧BO tm=a2 (a2 (a2 tm))∧BP tm=a3 (a2 (a2 tm))∧BQ tm=a4 (a2 (a2 tm))∧BR tm=a5 (a2 (a2 tm))∧BT tm=a6 (a2 (a2 tm))∧BU tm=a7 (a2 (a2 tm))∧BW tm=a0 (a3 (a2 tm))∧BX tm=a1 (a3 (a2 tm))∧BY tm=a2 (a3 (a2 tm))∧IH tm=a3 (a3 (a2 tm))∧y7 tm=a4 (a3 (a2 tm))∧y8 tm=a5 (a3 (a2 tm))∧jk tm=a6 (a3 (a2 tm))∧jl tm=a7 (a3 (a2 tm)))∧(∀(tm:TM) (v:AV),DV tm v=u2 (u0 (u0 λ_=>v)) tm∧DW tm v=u2 (u0 (u1 λ_=>v)) tm∧DX tm v=u2 (u0 (u2 λ_=>v)) tm∧DY tm v=u2 (u0 (u3 λ_=>v)) tm∧DZ tm v=u2 (u0 (u4 λ_=>v)) tm∧D1 tm v=u2 (u0 (u5 λ_=>v)) tm∧D2 tm v=u2 (u0 (u6 λ_=>v)) tm∧D3 tm v=u2 (u0 (u7 λ_=>v)) tm∧za tm v=u2 (u1 (u0 λ_=>v)) tm∧zb tm v=u2 (u1 (u1 λ_=>v)) tm∧wP tm v=u2 (u1 (u2 λ_=>v)) tm∧wR tm v=u2 (u1 (u3 λ_=>v)) tm∧wS tm v=u2 (u1 (u4 λ_=>v)) tm∧wT tm v=u2 (u1 (u5 λ_=>v)) tm∧wU tm v=u2 (u1 (u6 λ_=>v)) tm∧pW tm v=u2 (u1 (u7 λ_=>v)) tm∧pX tm v=u2 (u2 (u0 λ_=>v)) tm∧wV tm v=u2 (u2 (u1 λ_=>v)) tm∧zd tm v=u2 (u2 (u2 λ_=>v)) tm∧ze tm v=u2 (u2 (u3 λ_=>v)) tm∧zf tm v=u2 (u2 (u4 λ_=>v)) tm∧zg tm v=u2 (u2 (u5 λ_=>v)) tm∧zh tm v=u2 (u2 (u6 λ_=>v)) tm∧zi tm v=u2 (u2 (u7 λ_=>v)) tm∧zj tm v=u2 (u3 (u0 λ_=>v)) tm∧zk tm v=u2 (u3 (u1 λ_=>v)) tm∧zl tm v=u2 (u3 (u2 λ_=>v)) tm∧zm tm v=u2 (u3 (u3 λ_=>v)) tm∧wW tm v=u2 (u3 (u4 λ_=>v)) tm∧wX tm v=u2 (u3 (u5 λ_=>v)) tm∧iz tm v=u2 (u3 (u6 λ_=>v)) tm∧iA tm v=u2 (u3 (u7 λ_=>v)) tm):=
 ⟨λ_=>⟨rfl,rfl,rfl,rfl,rfl,rfl,rfl,rfl,rfl,rfl,rfl,rfl,rfl,rfl,rfl,rfl,rfl,rfl,rfl,rfl,rfl,rfl,rfl,rfl,rfl,rfl,rfl,rfl,rfl,rfl,rfl,rfl⟩,λ_ _=>⟨rfl,rfl,rfl,rfl,rfl,rfl,rfl,rfl,rfl,rfl,rfl,rfl,rfl,rfl,rfl,rfl,rfl,rfl,rfl,rfl,rfl,rfl,rfl,rfl,rfl,rfl,rfl,rfl,rfl,rfl,rfl,rfl⟩⟩
def ta:(∀tm:TM,jm tm=a0 (a4 (a2 tm))∧jn tm=a1 (a4 (a2 tm))∧jo tm=a2 (a4 (a2 tm))∧y9 tm=a3 (a4 (a2 tm))∧jp tm=a4 (a4 (a2 tm))∧BZ tm=a5 (a4 (a2 tm))∧jq tm=a6 (a4 (a2 tm))∧aT tm=a7 (a4 (a2 tm))∧aU tm=a0 (a5 (a2 tm))∧aV tm=a1 (a5 (a2 tm))∧aW tm=a2 (a5 (a2 tm))∧aX tm=a3 (a5 (a2 tm))∧ZfH tm=a4 (a5 (a2 tm))∧ZfI tm=a5 (a5 (a2 tm))∧ZfJ tm=a6 (a5 (a2 tm))∧jr tm=a7 (a5 (a2 tm))∧js tm=a0 (a6 (a2 tm))∧ZfK tm=a1 (a6 (a2 tm))∧ZfL tm=a2 (a6 (a2 tm))∧ZfM tm=a3 (a6 (a2 tm))∧ZfN tm=a4 (a6 (a2 tm))∧ZfO tm=a5 (a6 (a2 tm))∧ZfP tm=a6 (a6 (a2 tm))∧ZfQ tm=a7 (a6 (a2 tm))∧ZfR tm=a0 (a7 (a2 tm))∧ZfS tm=a1 (a7 (a2 tm))∧ZfT tm=a2 (a7 (a2 tm))∧ZkM tm=a3 (a7 (a2 tm))∧ZkN tm=a4 (a7 (a2 tm))∧ZkO tm=a5 (a7 (a2 tm))∧ZkP tm=a6 (a7 (a2 tm))∧ZkQ tm=a7 (a7 (a2 tm)))∧(∀(tm:TM) (v:AV),iB tm v=u2 (u4 (u0 λ_=>v)) tm∧iC tm v=u2 (u4 (u1 λ_=>v)) tm∧iD tm v=u2 (u4 (u2 λ_=>v)) tm∧iE tm v=u2 (u4 (u3 λ_=>v)) tm∧iF tm v=u2 (u4 (u4 λ_=>v)) tm∧iG tm v=u2 (u4 (u5 λ_=>v)) tm∧iH tm v=u2 (u4 (u6 λ_=>v)) tm∧Zca tm v=u2 (u4 (u7 λ_=>v)) tm∧Zcb tm v=u2 (u5 (u0 λ_=>v)) tm∧Zcc tm v=u2 (u5 (u1 λ_=>v)) tm∧Zcd tm v=u2 (u5 (u2 λ_=>v)) tm∧Zce tm v=u2 (u5 (u3 λ_=>v)) tm∧Zgu tm v=u2 (u5 (u4 λ_=>v)) tm∧Zgv tm v=u2 (u5 (u5 λ_=>v)) tm∧Zgw tm v=u2 (u5 (u6 λ_=>v)) tm∧Zgx tm v=u2 (u5 (u7 λ_=>v)) tm∧Zgy tm v=u2 (u6 (u0 λ_=>v)) tm∧Zgz tm v=u2 (u6 (u1 λ_=>v)) tm∧ZgA tm v=u2 (u6 (u2 λ_=>v)) tm∧ZgB tm v=u2 (u6 (u3 λ_=>v)) tm∧ZgC tm v=u2 (u6 (u4 λ_=>v)) tm∧ZgD tm v=u2 (u6 (u5 λ_=>v)) tm∧ZgE tm v=u2 (u6 (u6 λ_=>v)) tm∧ZgF tm v=u2 (u6 (u7 λ_=>v)) tm∧ZgG tm v=u2 (u7 (u0 λ_=>v)) tm∧ZgH tm v=u2 (u7 (u1 λ_=>v)) tm∧ZgI tm v=u2 (u7 (u2 λ_=>v)) tm∧Zme tm v=u2 (u7 (u3 λ_=>v)) tm∧Zmf tm v=u2 (u7 (u4 λ_=>v)) tm∧Zmg tm v=u2 (u7 (u5 λ_=>v)) tm∧Zmh tm v=u2 (u7 (u6 λ_=>v)) tm∧Zmi tm v=u2 (u7 (u7 λ_=>v)) tm):=
 ⟨λ_=>⟨rfl,rfl,rfl,rfl,rfl,rfl,rfl,rfl,rfl,rfl,rfl,rfl,rfl,rfl,rfl,rfl,rfl,rfl,rfl,rfl,rfl,rfl,rfl,rfl,rfl,rfl,rfl,rfl,rfl,rfl,rfl,rfl⟩,λ_ _=>⟨rfl,rfl,rfl,rfl,rfl,rfl,rfl,rfl,rfl,rfl,rfl,rfl,rfl,rfl,rfl,rfl,rfl,rfl,rfl,rfl,rfl,rfl,rfl,rfl,rfl,rfl,rfl,rfl,rfl,rfl,rfl,rfl⟩⟩
end
def TE(x:Nat):Zd->Nat
 |[]=>0
 |c::s=>if TE x s=0 then(if c.toNat=x then 1 else 0) else TE x s+1
def W2(x:Nat):Zd->Nat
 |[]=>0
 |c::s=>if c.toNat=x then 1 else if W2 x s=0 then 0 else W2 x s+1
def Yv:Zd->List (Zd)
 |[]=>[[]]
 |c::s=>if c.toNat=47 then []::Yv s else match Yv s with|[]=>[[c]]|h::t=>(c::h)::t
theorem Br(x:Nat): ∀(l:Zd) (c:UInt8),TE x (l++[c])=if c.toNat=x then l.length+1 else TE x l
 |[],c=>by simp[TE]
 |a::l,c=>by
  rw[WE,TE,Br x l c,TE]
  by_cases h:c.toNat=x
  ·simp[h]
  ·simp[h]
def Ia{s:Zd}{m:Nat}(h:m<s.length):s.take (m+1)=s.take m++[s.getD m 0]:=by
 rw[WF,Ze,Zm h];rfl
def Zdj{x:Nat}{s:Zd}{m:Nat}(h:m<s.length)(e:(s.getD m 0).toNat=x):TE x (s.take (m+1))=m+1:=by
 rw[Ia h,Br,if_pos e,Zy,Xy (QH h)]
def bI{x:Nat}{s:Zd}{m:Nat}(h:m<s.length)(e:(s.getD m 0).toNat≠x):TE x (s.take (m+1))=TE x (s.take m):=by
 rw[Ia h,Br,if_neg e]
theorem Ed(x:Nat): ∀s:Zd,TE x s<=s.length
 |[]=>Zs _
 |c::s=>by
  have:=Ed x s;rw[TE,ZL]
  split
  ·split<;>omega
  ·omega
theorem jB(x:Nat): ∀(s:Zd) (n:Nat),Pb x s n=if W2 x s=0 then Int.negSucc 0 else((n+W2 x s - 1:Nat):Int)
 |[],n=>rfl
 |c::s,n=>by
  show cond (Nat.beq c.toNat x) (Int.ofNat n) (Pb x s (Nat.succ n))=_;rw[jB x s,W2]
  by_cases h:c.toNat=x
  ·rw[if_pos h,h,show Nat.beq x x=true from YD x];simp
  ·have:Nat.beq c.toNat x=false:=by
    cases e:Nat.beq c.toNat x with
    |false=>rfl
    |true=>exact absurd (Yf e) h
   rw[this,if_neg h,cond_false]
   by_cases h0:W2 x s=0
   ·rw[if_pos h0,if_pos h0,if_pos rfl]
   ·rw[if_neg h0,if_neg h0,if_neg (by omega)]
    congr 1
    omega
theorem Qj{x:Nat}: ∀{s:Zd},W2 x s=0↔ ∀c∈s,c.toNat≠x
 |[]=>by simp[W2]
 |c::s=>by
  rw[W2];have ih:=Qj (x:=x) (s:=s)
  by_cases h:c.toNat=x
  ·simp[h]
  ·rw[if_neg h]
   by_cases h0:W2 x s=0
   ·simp only[h0,if_true,true_iff]
    intro b hb;rcases ZY.1 hb with rfl|hb
    ·exact h
    ·exact ih.1 h0 b hb
   ·rw[if_neg h0]
    refine⟨λe=>by omega,λe=>absurd (ih.2 λb hb=>e b (ZC _ hb)) h0⟩
theorem vS{x:Nat}: ∀{s:Zd} {j:Nat},W2 x s=j+1->j<s.length∧(s.getD j 0).toNat=x
 |[],j,h=>by simp[W2] at h
 |c::s,j,h=>by
  rw[W2] at h
  by_cases hc:c.toNat=x
  ·rw[if_pos hc] at h
   have:j=0:=by omega
   subst this;exact⟨by simp,hc⟩
  ·rw[if_neg hc] at h
   split at h
   ·omega
   ·rename_i h0
    obtain⟨i,rfl⟩: ∃i,j=i+1:=⟨j - 1,by omega⟩;obtain⟨h1,h2⟩:=vS (x:=x) (s:=s) (j:=i) (by omega);exact⟨by simp;omega,by simpa using h2⟩
def ZhR{x:Nat}{s:Zd}:W2 x s<=s.length:=by
 cases h:W2 x s with
 |zero=>exact ZN _
 |succ j=>exact(vS h).1
theorem RA: ∀s:Zd,Yv s≠[]
 |[]=>by simp[Yv]
 |c::s=>by
  rw[Yv]
  split
  ·simp
  ·split<;>simp
theorem LX: ∀{s:Zd},W2 47 s=0->Yv s=[s]
 |[],_=>rfl
 |c::s,h=>by
  have h1:=Qj.1 h;rw[Yv,if_neg (h1 c (Zw ..)),LX (Qj.2 λb hb=>h1 b (ZC _ hb))]
theorem EU: ∀{s:Zd} {j:Nat},W2 47 s=j+1->Yv s=s.take j::Yv (s.drop (j+1))
 |[],j,h=>by simp[W2] at h
 |c::s,j,h=>by
  rw[W2] at h
  by_cases hc:c.toNat=47
  ·rw[if_pos hc] at h
   have:j=0:=by omega
   subst this;rw[Yv,if_pos hc];rfl
  ·rw[if_neg hc] at h
   split at h
   ·omega
   ·obtain⟨i,rfl⟩: ∃i,j=i+1:=⟨j - 1,by omega⟩
    rw[Yv,if_neg hc,EU (s:=s) (j:=i) (by omega)];rfl
theorem GJ(x:Nat): ∀(l:Zd) (n:Nat),Xv x l n=n+Xv x l 0
 |[],n=>rfl
 |b::l,n=>by
  show cond (Nat.beq b.toNat x) (Xv x l (Nat.succ n)) (Xv x l n)=n+cond (Nat.beq b.toNat x) (Xv x l (Nat.succ 0)) (Xv x l 0);rw[GJ x l (Nat.succ n),GJ x l n,GJ x l (Nat.succ 0)];cases Nat.beq b.toNat x<;>simp;omega
theorem P9: ∀s:Zd,(Yv s).length=Xv 47 s 0+1
 |[]=>rfl
 |c::s=>by
  have ih:=P9 s;show _=cond (Nat.beq c.toNat 47) (Xv 47 s (Nat.succ 0)) (Xv 47 s 0)+1;rw[Yv,GJ 47 s (Nat.succ 0)]
  by_cases hc:c.toNat=47
  ·rw[if_pos hc,hc,show Nat.beq 47 47=true from rfl,ZL,ih,cond_true];omega
  ·have:Nat.beq c.toNat 47=false:=by
    cases e:Nat.beq c.toNat 47 with
    |false=>rfl
    |true=>exact absurd (Yf e) hc
   rw[if_neg hc,this,cond_false,<-ih]
   split
   ·rename_i h;exact absurd h (RA s)
   ·rename_i a b h;rw[h];rfl
theorem vI: ∀(x:Nat) (s:Zd),Xv x s 0<=s.length
 |x,[]=>Zs _
 |x,c::s=>by
  have:=vI x s;show cond (Nat.beq c.toNat x) (Xv x s (Nat.succ 0)) (Xv x s 0)<=s.length+1;rw[GJ x s (Nat.succ 0)];cases Nat.beq c.toNat x<;>simp<;>omega
def gU:Zd:=[46]
def yE:Zd:=[46,46]
def uX:Zd:=[46,119,104,46]
def z4:Zd:=[46,119,104,46,46,119,104,46,46,111,112,113]
def lM:Zd:=[46,119,104,46,46,119,104,46,116,111,99]
def Qq(p s:Zd):Bool:=decide (p.length<=s.length)&&decide (s.take p.length=p)
def MV(l s:Zd):Bool:=s.any λc=>decide (c∈l)
def XS(s:Zd):Bool:=!decide (s=[])&&decide (s.length<=251)&&!decide (s=gU)&&!decide (s=yE)&&!MV [47,0] s&&!Qq uX s
def SH(p:Zd):List (Zd):=if p=[] then [] else Yv p
def LP(p:Zd):Bool:=decide (p.length<=4080)&&decide ((SH p).length<255)&&(SH p).all XS
def XO(p:Zd):Zd:=p.drop (TE 47 p)
def Tn(p:Zd):Zd:=p.take (TE 47 p)
def Sy(b:Zd):Nat:=if b=z4 then 3 else if Qq uX b then 2 else 1
def Cd(d:Zd):Zd:=if (1<=d.length∧d.drop (d.length - 1)=[47]) then d.take (d.length - 1) else d
def S8(p:Zd):Zd:=if Sy (XO p)=1 then Tn p++XO p else if Sy (XO p)=2 then Tn p++(XO p).drop 4 else Cd (Tn p)
def Ln(p:Zd):Bool:=!LP (S8 p)||(!decide (Sy (XO p)=3)&&decide (S8 p=[]))||(decide (Sy (XO p)=2)&&!XS ((XO p).drop 4))||decide (Tn p=[47])
def Wm(p:Zd):Nat×Zd:=if p=lM then(4,[]) else if Ln p then(0,[]) else(Sy (XO p),S8 p)
def ua(b:Zd):1<=Sy b∧Sy b<=3:=by
 unfold Sy
 split
 ·exact⟨by decide,by decide⟩
 ·split<;>exact⟨by decide,by decide⟩
def Gq(l:Zd):Zd->Nat
 |[]=>0
 |c::s=>if c∈l then 1 else if Gq l s=0 then 0 else Gq l s+1
theorem CW{l:Zd}: ∀{s:Zd},(∀j,j<s.length->s.getD j 0∉l)->Gq l s=0
 |[],_=>rfl
 |c::s,h=>by
  have h0:c∉l:=h 0 (by simp);rw[Gq,if_neg h0,CW λj hj=>by simpa using h (j+1) (by simp;omega),if_pos rfl]
theorem vy{l:Zd}: ∀{s:Zd} {p:Nat},p<s.length->s.getD p 0∈l->(∀j,j<p->s.getD j 0∉l)->Gq l s=p+1
 |[],p,h,_,_=>by simp at h
 |c::s,0,h,e,_=>by
  have:c∈l:=e;rw[Gq,if_pos this]
 |c::s,p+1,h,e,hn=>by
  have h0:c∉l:=hn 0 (by omega);rw[Gq,if_neg h0,vy (s:=s) (p:=p) (by simpa using h) (by simpa using e) λj hj=>by simpa using hn (j+1) (by omega),if_neg (by omega)]
theorem kg(l:Zd): ∀s:Zd,decide (0<Gq l s)=MV l s
 |[]=>rfl
 |c::s=>by
  have ih:=kg l s;unfold MV at ih ⊢;rw[List.any_cons,<-ih,Gq]
  by_cases h:c∈l
  ·simp[h]
  ·rw[if_neg h,Zc h]
   by_cases h0:Gq l s=0
   ·simp[h0]
   ·rw[if_neg h0];simp;omega
def C6(s:Zd)(i:Nat):((⟨s.toArray⟩:ByteArray).get! i).toNat=(s.getD i 0).toNat:=by
 show(s.toArray[i]!).toNat=_;rw[List.getElem!_toArray,Ze,List.getElem!_eq_getElem?_getD];rfl
def kS{s:Zd}{i:Nat}(hc:(s.getD i 0).toNat<128):Utf8.decode ⟨s.toArray⟩ i=((s.getD i 0).toNat,1):=by
 have e:=C6 s (i+0);rw[Zo] at e;unfold Utf8.decode;simp only[Zo,e];rw[if_pos hc]
def ZhG{s:Zd}{i:Nat}(h:i<s.length)(hc:128<=(s.getD i 0).toNat):
  ∃r w,Utf8.decode ⟨s.toArray⟩ i=(r,w)∧128<=r∧r<=1114111∧1<=w∧ ∀j,j<w->i+j<s.length∧128<=(s.getD (i+j) 0).toNat:=by
 have e0:=C6 s i;have e1:=C6 s (i+1);have e2:=C6 s (i+2);have e3:=C6 s (i+3);have hsz:(⟨s.toArray⟩:ByteArray).size=s.length:=by show s.toArray.size=_;simp
 unfold Utf8.decode;simp only[Zo,e0,e1,e2,e3,hsz];have l0:=(s.getD i 0).toNat_lt;have l1:=(s.getD (i+1) 0).toNat_lt;have l2:=(s.getD (i+2) 0).toNat_lt;have l3:=(s.getD (i+3) 0).toNat_lt;generalize g0:(s.getD i 0).toNat=b0 at*;generalize g1:(s.getD (i+1) 0).toNat=b1 at*;generalize g2:(s.getD (i+2) 0).toNat=b2 at*;generalize g3:(s.getD (i+3) 0).toNat=b3 at*;have one: ∀j,j<1->i+j<s.length∧128<=(s.getD (i+j) 0).toNat:=λj hj=>by
  obtain rfl:j=0:=by omega
  exact⟨h,by rw[Zo,g0];exact hc⟩
 have err: ∃r w,((Utf8.runeError,1):Nat×Nat)=(r,w)∧128<=r∧r<=1114111∧1<=w∧ ∀j,j<w->i+j<s.length∧128<=(s.getD (i+j) 0).toNat:=⟨_,_,rfl,by decide,by decide,by decide,one⟩;rw[if_neg (by omega)]
 split
 ·rename_i c2
  simp only[Z4,beq_iff_eq,decide_eq_true_eq] at c2
  split
  ·exact⟨_,_,rfl,by omega,by omega,by decide,λj hj=>by
    rcases(show j=0∨j=1 by omega) with rfl|rfl
    ·exact one 0 (by decide)
    ·exact⟨by omega,by rw[g1];omega⟩⟩
  ·exact err
 ·split
  ·rename_i c3
   simp only[Z4,beq_iff_eq,decide_eq_true_eq] at c3
   split
   ·rename_i c4
    simp only[Z4,decide_eq_true_eq] at c4;refine⟨_,_,rfl,by omega,by omega,by decide,λj hj=>?_⟩;rcases(show j=0∨j=1∨j=2 by omega) with rfl|rfl|rfl
    ·exact one 0 (by decide)
    ·exact⟨by omega,by rw[g1];omega⟩
    ·exact⟨by omega,by rw[g2];omega⟩
   ·exact err
  ·split
   ·rename_i c3
    simp only[Z4,beq_iff_eq,decide_eq_true_eq] at c3
    split
    ·rename_i c4
     simp only[Z4,decide_eq_true_eq,Utf8.valid,UX] at c4;refine⟨_,_,rfl,by omega,by omega,by decide,λj hj=>?_⟩;rcases(show j=0∨j=1∨j=2∨j=3 by omega) with rfl|rfl|rfl|rfl
     ·exact one 0 (by decide)
     ·exact⟨by omega,by rw[g1];omega⟩
     ·exact⟨by omega,by rw[g2];omega⟩
     ·exact⟨by omega,by rw[g3];omega⟩
    ·exact err
   ·exact err
def bV{r:Nat}(h:128<=r): ∃rs:Zd,(Utf8.encode (r:Int)).data.toList=rs∧2<=rs.length∧rs.length<=4∧128<=(rs.getD (rs.length - 1) 0).toNat:=by
 have key: ∀c:Nat,128<=(UInt8.ofNat (128+c % 64)).toNat:=λc=>by
  rw[SD,Yd (by omega)];omega
 unfold Utf8.encode;have hc:128<=(if Utf8.valid (r:Int)=true then(r:Int).toNat else Utf8.runeError):=by
  split
  ·simpa using h
  ·decide
 generalize(if Utf8.valid (r:Int)=true then(r:Int).toNat else Utf8.runeError)=c at hc;simp only;rw[if_neg (by omega)]
 split
 ·exact⟨_,rfl,Zs 2,by show 2<=4;decide,key _⟩
 ·split
  ·exact⟨_,rfl,by show 2<=3;decide,by show 3<=4;decide,key _⟩
  ·exact⟨_,rfl,by show 2<=4;decide,Zs 4,key _⟩
def L9:List AV:=List.replicate 256 (.bool false)
def Pv(cs:Zd):List AV:=cs.foldl (λL c=>L.set c.toNat (.bool true)) L9
def dL(cs:Zd)(c:UInt8):Pv (cs++[c])=(Pv cs).set c.toNat (.bool true):=by
 unfold Pv;rw[List.foldl_append];rfl
def FJ(cs:Zd):(Pv cs).length=256:=by
 unfold Pv;have: ∀(cs:Zd) (L:List AV),L.length=256->(cs.foldl (λL c=>L.set c.toNat (.bool true)) L).length=256:=by
  intro cs
  induction cs with
  |nil=>intro L h;exact h
  |cons c cs ih=>intro L h;exact ih _ (by rw[Tf];exact h)
 exact this cs L9 (by unfold L9;rw[ZB])
def Zb1(cs:Zd){x:UInt8}:(Pv cs).getD x.toNat .unk=.bool (decide (x∈cs)):=by
 unfold Pv;have hx:=x.toNat_lt;have: ∀(cs:Zd) (L:List AV) (b:Bool),L.length=256->L.getD x.toNat .unk=.bool b->(cs.foldl (λL c=>L.set c.toNat (.bool true)) L).getD x.toNat .unk=.bool (b||decide (x∈cs)):=by
  intro cs
  induction cs with
  |nil=>intro L b h h2;simpa using h2
  |cons c cs ih=>
   intro L b h h2;have:=ih (L.set c.toNat (.bool true)) (b||decide (x=c)) (by rw[Tf];exact h) (by
    rw[Ze,List.getElem?_set]
    by_cases e:c.toNat=x.toNat
    ·have:c=x:=Wj.1 e
     subst this
     have hx':c.toNat<256:=hx
     simp[h,hx']
    ·have:x≠c:=λq=>e (by rw[q])
     rw[if_neg e,Zc this,Bool.or_false,<-Ze];exact h2)
   rw[Vz,this]
   congr 1
   cases b<;>simp[ZY]
 rw[this cs L9 false (by unfold L9;rw[ZB]) (by unfold L9;rw[Ze,XJ,if_pos hx];rfl),Bool.false_or]
def Mm(d:Nat):UInt8:=UInt8.ofNat (48+d)
def Ob{d:Nat}(h:d<10):(Mm d).toNat=48+d:=by
 unfold Mm;rw[UInt8.toNat_ofNat_of_lt' (show 48+d<UInt8.size by unfold UInt8.size;omega)]
def Cc:Nat->Nat->Zd
 |0,_=>[]
 |k+1,n=>Cc k (n/10)++[Mm (n % 10)]
theorem KN: ∀k n,(Cc k n).length=k
 |0,_=>rfl
 |k+1,n=>by show(Cc k (n/10)++[Mm (n % 10)]).length=_;rw[Zh,KN k];rfl
theorem Bs: ∀k n c,c∈Cc k n->48<=c.toNat∧c.toNat<=57
 |0,_,_,h=>by cases h
 |k+1,n,c,h=>by
  rcases Zt.1 h with h|h
  ·exact Bs k _ c h
  ·have h:=Zn.1 h
   subst h;rw[Ob (Wh _ (by decide))];have:=Wh n (show 0<10 by decide);omega
def Uk(l:Zd):Nat:=l.foldl (λn c=>10*n+(c.toNat - 48)) 0
def L6(l:Zd)(c:UInt8):Uk (l++[c])=10*Uk l+(c.toNat - 48):=by unfold Uk;rw[List.foldl_append];rfl
theorem zE: ∀k n,n<10^k->Uk (Cc k n)=n
 |0,n,h=>by simp at h;subst h;rfl
 |k+1,n,h=>by
  show Uk (Cc k (n/10)++[Mm (n % 10)])=n;rw[L6,zE k (n/10) (by rw[WB] at h;omega),Ob (Wh _ (by decide))];omega
def WS(n:Nat):Nat:=if n<10 then 1 else WS (n/10)+1
def JU{n:Nat}(h:n<10):WS n=1:=by rw[WS,if_pos h]
def Fl{n:Nat}(h:10<=n):WS n=WS (n/10)+1:=by rw[WS,if_neg (by omega)]
def SV(n:Nat):1<=WS n:=by
 by_cases h:n<10
 ·rw[JU h];exact Zs _
 ·rw[Fl (by omega)];omega
theorem uk: ∀k n,10^k<=n->n<10^(k+1)->WS n=k+1
 |0,n,_,h=>JU (by simpa using h)
 |k+1,n,h1,h2=>by
  have h3:10^(k+1)=10^k*10:=WB ..;have h4:10^(k+1+1)=10^(k+1)*10:=WB ..;have h5:1<=10^k:=Nat.one_le_pow _ _ (by decide);rw[Fl (by omega),uk k (n/10) (by omega) (by omega)]
def LN(n:Nat):n<10^WS n:=by
 induction n using Nat.strongRecOn with
 |ind n ih=>
  by_cases h:n<10
  ·rw[JU h];simpa using h
  ·rw[Fl (by omega),WB]
   have:=ih (n/10) (by omega);omega
def TI{n k:Nat}(hk:1<=k)(h:n<10^k):WS n<=k:=by
 by_cases h0:n<10
 ·rw[JU h0];exact hk
 ·obtain⟨j,hj⟩: ∃j,WS n=j+1:=⟨WS n - 1,by have:=SV n;omega⟩
  rw[hj]
  by_cases hlt:k<j+1
  ·have h1:10^j<=n:=by
    have: ∀n j,WS n=j+1->10<=n->10^j<=n:=by
     intro n
     induction n using Nat.strongRecOn with
     |ind n ih=>
      intro j hj hn;rw[Fl hn] at hj
      by_cases h2:n/10<10
      ·rw[JU h2] at hj
       obtain rfl:j=1:=by omega
       simpa using hn
      ·obtain⟨i,rfl⟩: ∃i,j=i+1:=⟨j - 1,by have:=SV (n/10);omega⟩
       have:=ih (n/10) (by omega) i (by omega) (by omega);rw[WB];omega
    exact this n j hj (by omega)
   have h2:10^k<=10^j:=TD (by decide) (by omega);omega
  ·omega
def dec(n:Nat):Zd:=Cc (WS n) n
def SE(n:Nat):(dec n).length=WS n:=KN ..
def vm(n:Nat):Uk (dec n)=n:=zE _ _ (LN n)
def yD{n:Nat}{c:UInt8}(h:c∈dec n):48<=c.toNat∧c.toNat<=57:=Bs _ _ _ h
def nt{n:Nat}(h:n<10):dec n=[Mm n]:=by
 unfold dec;rw[JU h];show []++[Mm (n % 10)]=_;rw[Yd h];rfl
def bO{n:Nat}(h:10<=n):dec n=dec (n/10)++[Mm (n % 10)]:=by
 unfold dec;rw[Fl h];rfl
def bP(n:Nat)(h:n≠0):(dec n).getD 0 0≠48:=by
 induction n using Nat.strongRecOn with
 |ind n ih=>
  by_cases h0:n<10
  ·rw[nt h0]
   show Mm n≠48;intro e;have:=congrArg UInt8.toNat e;rw[Ob h0] at this;have:48+n=48:=this;omega
  ·rw[bO (by omega)]
   have:=ih (n/10) (by omega) (by omega);have hp:0<(dec (n/10)).length:=by rw[SE];exact SV _
   rw[Ze,ZW hp,<-Ze];exact this
def QC(z:Int):Zd:=if z<0 then 45::dec z.natAbs else dec z.natAbs
section
open Go.Proofs N8
abbrev Zp(x:WI)(d:VJ)(n:D):D:=Za (ZI x) d n
abbrev YT(f:Us)(os:List (VJ×WI))(d:VJ)(i b:Nat):PI:=⟨f,none,os,d,.free,i,b⟩
abbrev kI(n:Nat):WI:=k (nI .i64 n)
abbrev kB(b:Bool):WI:=k (.bool b)
abbrev rH(e:Nat)(l:List AV):Obj:=rG e 1 l 0 false true true
def TO{α:Type}(a:α): ∃b,a=b:=⟨a,rfl⟩
def z35:List AV:=nI .i64 0::nI .i64 0::nI .i64 0::List.replicate 32 (nI .u8 0)
def Sg:List AV:=List.replicate 512 (nI .u8 0)
def Zp2:Zd:=[108,101,110,32,111,117,116,32,111,102,32,114,97,110,103,101]
def Zp3:Zd:=[99,97,110,110,111,116,32,98,101,32,110,101,103,97,116,105,118,101]
def Zp4:Zd:=[98,121,116,101,115,58,32,110,101,103,97,116,105,118,101,32,82,101,112,101,97,116,32,99,111,117,110,116]
def ZlC:Zd:=[98,121,116,101,115,58,32,82,101,112,101,97,116,32,111,117,116,112,117,116,32,108,101,110,103,116,104,32,111,118,101,114,102,108,111,119]
def ZlD:Zd:=[115,116,114,105,110,103,115,46,66,117,105,108,100,101,114,46,71,114,111,119,58,32,110,101,103,97,116,105,118,101,32,99,111,117,110,116]
def IJ:Zd:=[48,49,50,51,52,53,54,55,56,57,97,98,99,100,101,102,103,104,105,106,107,108,109,110,111,112,113,114,115,116,117,118,119,120,121,122]
def Rr:Zd:=[48,48,48,49,48,50,48,51,48,52,48,53,48,54,48,55,48,56,48,57,49,48,49,49,49,50,49,51,49,52,49,53,49,54,49,55,49,56,49,57,50,48,50,49,50,50,50,51,50,52,50,53,50,54,50,55,50,56,50,57,51,48,51,49,51,50,51,51,51,52,51,53,51,54,51,55,51,56,51,57,52,48,52,49,52,50,52,51,52,52,52,53,52,54,52,55,52,56,52,57,53,48,53,49,53,50,53,51,53,52,53,53,53,54,53,55,53,56,53,57,54,48,54,49,54,50,54,51,54,52,54,53,54,54,54,55,54,56,54,57,55,48,55,49,55,50,55,51,55,52,55,53,55,54,55,55,55,56,55,57,56,48,56,49,56,50,56,51,56,52,56,53,56,54,56,55,56,56,56,57,57,48,57,49,57,50,57,51,57,52,57,53,57,54,57,55,57,56,57,57]
def ZlE:Zd:=[115,116,114,99,111,110,118,58,32,105,108,108,101,103,97,108,32,65,112,112,101,110,100,73,110,116,47,70,111,114,109,97,116,73,110,116,32,98,97,115,101]
def Zgd:Zd:=[115,116,114,105,110,103,115,58,32,74,111,105,110,32,111,117,116,112,117,116,32,108,101,110,103,116,104,32,111,118,101,114,102,108,111,119]
def rX:Zd:=[0,1,2,2,3,3,3,3,4,4,4,4,4,4,4,4,5,5,5,5,5,5,5,5,5,5,5,5,5,5,5,5,6,6,6,6,6,6,6,6,6,6,6,6,6,6,6,6,6,6,6,6,6,6,6,6,6,6,6,6,6,6,6,6,7,7,7,7,7,7,7,7,7,7,7,7,7,7,7,7,7,7,7,7,7,7,7,7,7,7,7,7,7,7,7,7,7,7,7,7,7,7,7,7,7,7,7,7,7,7,7,7,7,7,7,7,7,7,7,7,7,7,7,7,7,7,7,7,8,8,8,8,8,8,8,8,8,8,8,8,8,8,8,8,8,8,8,8,8,8,8,8,8,8,8,8,8,8,8,8,8,8,8,8,8,8,8,8,8,8,8,8,8,8,8,8,8,8,8,8,8,8,8,8,8,8,8,8,8,8,8,8,8,8,8,8,8,8,8,8,8,8,8,8,8,8,8,8,8,8,8,8,8,8,8,8,8,8,8,8,8,8,8,8,8,8,8,8,8,8,8,8,8,8,8,8,8,8,8,8,8,8,8,8,8,8,8,8,8,8,8,8,8,8,8,8]
def oU:CF:=⟨[(Va,none),(V0,none)],(Zf (Za (ZI (kI 0)) st2<|Za (ZI (k (.str []))) VS<|Zb) (Zf (Zf (Zp Z6 Wg<|Za (Wf XL (k (.str [46,119,104,46,46,119,104,46,116,111,99])) QJ false) WD<|Zb) (ZH XE (Zf (Za (ZI (kI 4)) st2<|Za (ZI (k (.str []))) VS<|Zb) ZT) Zb)) (Zf (Zp Z6 Vi<|Za (Zv 45 [Xt]) Ur<|Zp Wv YU<|Zb) (Zf (Zp Xo Xe<|Za (Zv 46 [YH]) Xw<|Zp Y1 st2<|Zb) (Zf (Zp Z6 XB<|Zp Xo Xx<|Za (Zv 47 [Y2,YS]) X5<|Zp Xl WN<|Zb) (Zf (Za (ZP (k (.ptr 1 0))) X9<|Zp Va X4<|Za (ME WX .nilf false Xs Xr) We<|Zp Xi Wk<|Zp Xo WJ<|Za (N6 XK Tryz.prog [X1,X6]) W0<|Zp WC VS<|Zb) (Zf (Zf (Zp V0 VD<|Za (Zv 48 [Vd]) VG<|Za (S6 W6) VH<|Zp W7 VI<|ZF WG false (ZI Va) VU<|ZF WG false (Wf Vv (kI 3) WX true) V6<|ZF WG false (ZI VA) V7<|ZF VB true (ZI V0) Uj<|ZF VB true (Wf Vg (k (.str [])) QJ false) Uq<|ZF WG false (Yo VB W8 (kB false)) UB<|Za (Yo WG (kB true) Uv) Tb<|Zp Uw Tk<|ZF UU false (ZI Va) TA<|ZF UU false (Wf U6 (kI 2) WX false) T8<|ZF UU false (ZI U7) Sf<|ZF U8 true (ZI Xo) SX<|ZF U8 true (Wy Rc (some (kI 4)) none none) SY<|ZF U8 true (Zv 49 [SR]) S7<|ZF U8 true (S6 Sa) RB<|ZF UU false (Yo U8 Sb (kB false)) RY<|Za (Yo UU (kB true) Sn) RC<|Zp SG RZ<|ZF Sc false (ZI Xi) R0<|ZF Sc false (Wf S4 (k (.str [47])) QJ false) QY<|Za (Yo Sc (kB true) So) Pj<|Zb) (ZH Re (Zf (Za (ZI (kI 0)) st2<|Za (ZI (k (.str []))) VS<|Zb) ZT) Zb)) (Zf (Zp Va Pk<|Zp V0 Pm<|Zp Qc st2<|Zp RO VS<|Zb) ZT))))))))⟩
def c45:CF:=⟨[(Va,none)],(Zf (Za (ZI (k (.str []))) st2<|Zb) (Zf (Zp Z6 VS<|Zp Z6 YU<|Za (Zv 58 [Xo,(k (nI .u8 47))]) WN<|Za (Yz Xi (kI 1)) Wg<|Za (Wy V0 (some XL) none none) WD<|Zp XE st2<|Zb) ZT))⟩
def c58:CF:=⟨[(Xo,none)],(Zf (Za (ZI (kI 0)) YU<|Zb) (Zf (Zp Z6 WN<|Zp Xn Wg<|Za (Zv 89 [Xi,XL]) WD<|Zp XE YU<|Zb) ZT))⟩
def Ec:D:=(Zf (Zf (Zp Xi Ur<|Za (Yk Wv (kI 0) UQ Wd) Xe<|Zb) (ZH YH Zb (WK 0))) (Zf (Z2 1 (Zf (Zp Z6 Xx<|Zp Xi X5<|Za (Xj YS Xl) X9<|Zp Xn X4<|Za (Wf Xs Xr WX false) We<|Zb) (ZH XK (Zf (Zp Xi Wk<|Zp X1 YU<|Zb) ZT) Zb))) (Zp Xi Xw<|Za (Vs Y1 (kI 1)) XB<|Zp Y2 WN<|Zb)))
def c89:CF:=⟨[(Xo,none)],(Zf (Za (ZI (kI 0)) YU<|Zb) (Zf (Zf (Zp Z6 Wg<|Za (Xu XL) WD<|Za (Vs XE (kI 1)) Vi<|Zp Xt WN<|Zb) (Z2 0 (WL Ec))) (Zf (Za (ZI (k (.int .i64 (.negSucc 0)))) YU<|Zb) ZT)))⟩
def c46:CF:=⟨[(Va,none)],(Zf (Za (ZI (kI 0)) st2<|Zb) (Zf (Z2 0 (Zf (Zp Z6 YU<|Za (Wf Xo (k (.str [46,119,104,46,46,119,104,46,46,111,112,113])) QJ false) WN<|Zp Xi VS<|Zb) (ZH V0 (Zf (Za (ZI (kI 3)) st2<|Zb) ZT) (Zf (Zp Z6 WD<|Za (Zv 69 [XE,(k (.str [46,119,104,46]))]) Vi<|Zp Xt Wg<|Zb) (ZH XL (Zf (Za (ZI (kI 2)) st2<|Zb) ZT) Zb))))) (Zf (Za (ZI (kI 1)) st2<|Zb) ZT)))⟩
def c69:CF:=⟨[(Xo,none)],(Zf (Za (ZI (kB false)) YU<|Zb) (Zf (Zp Z6 WN<|Zp Xn Wg<|Za (Zv 100 [Xi,XL]) WD<|Zp XE YU<|Zb) ZT))⟩
def ZcY:CF:=⟨[(Xo,none)],(Zf (Za (ZI (kB false)) YU<|Zb) (Zf (Zp Z6 WN<|Za (Xu Xi) Wg<|Zp Xn WD<|Za (Xu XE) Vi<|Za (Yk XL Xt UQ Wd) Ur<|Zp Wv Xe<|ZF YH true (ZI Z6) Xw<|ZF YH true (ZI Xn) XB<|ZF YH true (Xu Y2) Xx<|ZF YH true (Wy Y1 none (some YS) none) X5<|ZF YH true (ZI Xn) X9<|ZF YH true (Wf Xl Xs QJ false) X4<|Za (Yo YH Xr (kB false)) We<|Zp XK YU<|Zb) ZT))⟩
def c47:CF:=⟨[(Xo,none)],(Zf (Za (ZI (k (.str []))) YU<|Zb) (Zf (Zp Z6 WN<|Zp Xn Wg<|Za (Zv 70 [Xi,XL]) WD<|Zp XE YU<|Zb) ZT))⟩
def c70:CF:=⟨[(Xo,none)],(Zf (Za (ZI (k (.str []))) YU<|Zb) (Zf (Zf (Zp Z6 WN<|Zp Xn Wg<|Za (Zv 101 [Xi,XL]) WD<|Zb) (ZH XE (Zf (Zp Z6 Vi<|Zp Z6 Ur<|Za (Xu Wv) Xe<|Zp Xn Xw<|Za (Xu Y1) XB<|Za (Vs YH Y2) Xx<|Za (Wy Xt none (some YS) none) X5<|Zp Xl YU<|Zb) ZT) Zb)) (Zf (Zp Z6 X9<|Zp Xs YU<|Zb) ZT)))⟩
def ZcZ:CF:=⟨[(Xo,none)],(Zf (Za (ZI (kB false)) YU<|Zb) (Zf (Zp Z6 WN<|Za (Xu Xi) Wg<|Zp Xn WD<|Za (Xu XE) Vi<|Za (Yk XL Xt UQ Wd) Ur<|Zp Wv Xe<|ZF YH true (ZI Z6) Xw<|ZF YH true (ZI Z6) XB<|ZF YH true (Xu Y2) Xx<|ZF YH true (ZI Xn) X5<|ZF YH true (Xu Xl) X9<|ZF YH true (Vs YS Xs) X4<|ZF YH true (Wy Y1 (some Xr) none none) We<|ZF YH true (ZI Xn) Wk<|ZF YH true (Wf XK X1 QJ false) WJ<|Za (Yo YH X6 (kB false)) W0<|Zp WC YU<|Zb) ZT))⟩
def Zhv:CF:=⟨[(Xo,none)],(Zf (Za (ZI (k (.str []))) YU<|Zb) (Zf (Zp Z6 WN<|Zp Xn Wg<|Za (Yz Xi XL) WD<|Zp XE YU<|Zb) ZT))⟩
def Zhw:CF:=⟨[(Xo,none)],(Zf (Za (ZI (k (.str []))) YU<|Zb) (Zf (Zp Z6 WN<|Zp Xn Wg<|Za (Wy XL (some (kI 4)) none none) WD<|Za (Yz Xi XE) Vi<|Zp Xt YU<|Zb) ZT))⟩
def Zhx:CF:=⟨[(Xo,none)],(Zf (Za (ZI (k (.str []))) YU<|Zb) (Zf (Zp Z6 WN<|Za (Zv 47 [Xi,(k (.str [47]))]) Wg<|Zp XL YU<|Zb) ZT))⟩
def c48:CF:=⟨[(Va,none)],(Zf (Za (ZI (kB false)) st2<|Zb) (Zf (Zp Z6 YU<|Za (Zv 71 [Xo]) WN<|Zp Xi VS<|Zb) (Zf (Zp Z6 Wg<|Za (Xu XL) WD<|Za (Yk XE (kI 4080) Ro U5) Vi<|Zp Xt Ur<|ZF Wv true (ZI V0) Xe<|ZF Wv true (Xf YH) Xw<|ZF Wv true (Yk Y1 (kI 255) XF Yt) XB<|Za (Yo Wv Y2 (kB false)) Xx<|Zp YS X5<|ZF Xl true (ZI V0) X9<|ZF Xl true (Zv 72 [Xs,(k (.func 73 [] []))]) X4<|ZF Xl true (S6 Xr) We<|Za (Yo Xl XK (kB false)) Wk<|Zp X1 st2<|Zb) ZT)))⟩
def c71:CF:=⟨[(Va,none)],(Zf (Za (ZI (k .nils)) st2<|Zb) (Zf (Zf (Zp Z6 VS<|Za (Wf V0 (k (.str [])) QJ false) YU<|Zb) (ZH Xo (Zf (Za (ZI (k .nils)) st2<|Zb) ZT) Zb)) (Zf (Zp Z6 WN<|Za (Zv 102 [Xi,(k (.str [47]))]) Wg<|Zp XL st2<|Zb) ZT)))⟩
def Zg0:CF:=⟨[(Xo,none)],(Zf (Za (ZI (k .nils)) YU<|Zb) (Zf (Zp Z6 WN<|Zp Xn Wg<|Za (Zv 129 [Xi,XL,(kI 0),(k (.int .i64 (.negSucc 0)))]) WD<|Zp XE YU<|Zb) ZT))⟩
def GD:D:=(Zf (Zf (Zp YH T8<|Zp V0 Sf<|Za (Yk U7 U8 XF Yt) SX<|Zb) (ZH Rc Zb (WK 0))) (Z2 1 (Zf (Zp Z6 SY<|Zp Xn S7<|Za (Zv 93 [SR,Sa]) RB<|Zp Sb Xw<|Zb) (Zf (Zf (Zp Y1 RY<|Za (Yk Sn (kI 0) XF Yt) RC<|Zb) (ZH SG (WK 0) Zb)) (Zf (Zp Wv RZ<|Zp YH R0<|Zp Z6 QY<|Zp Y1 Pj<|Zp Va Pk<|Za (Yz Re Qc) Pm<|Za (Wy So none (some RO) none) Pw<|Za (Wn Sc S4 1) Px<|Za (YB Pq QV 1) d0<|Zb) (Zf (Zp Z6 OI<|Zp Y1 O6<|Zp Xn O7<|Za (Xu RP) OJ<|Za (Yz Pr OZ) OK<|Za (Wy OY (some Ot) none none) O8<|Zp Nh st0<|Zb) (Zp YH OM<|Za (Yz QW (kI 1)) ON<|Zp Ni Xe<|Zb)))))))
def Zhf:CF:=⟨[(Xt,none)],(Zf (Za (ZI (k .nils)) Vi<|Zb) (Zf (Zf (Zp V0 XB<|Za (Wf Y2 (kI 0) WX false) Xx<|Zb) (ZH YS (Zf (Za (ZI (k .nils)) Vi<|Zb) ZT) Zb)) (Zf (Zf (Zp Xn X5<|Za (Wf Xl (k (.str [])) QJ false) X9<|Zb) (ZH Xs (Zf (Zp Z6 X4<|Zp V0 We<|Za (Zv 156 [Xr,XK]) Wk<|Zp X1 Vi<|Zb) ZT) Zb)) (Zf (Zf (Zp V0 WJ<|Za (Yk X6 (kI 0) XF Yt) W0<|Zb) (ZH WC (Zp Z6 VD<|Zp Xn VG<|Za (Zv 157 [Vd,W6]) VH<|Za (Yz W7 (kI 1)) VI<|Zp WG VS<|Zb) Zb)) (Zf (Zp V0 VU<|Zp Z6 V6<|Za (Xu VA) V7<|Za (Yz VB (kI 1)) Uj<|Za (SJ false [Vv,Vg]) Uq<|Zp W8 VS<|Zb) (Zf (Zp V0 UB<|Za (Jc 9 1 16 [(.str [])] Uv Uv) Tb<|Zp Uw Ur<|Zb) (Zf (Zp V0 Tk<|Za (Vs UU (kI 1)) TA<|Zp U6 VS<|Zb) (Zf (Za (ZI (kI 0)) Xe<|Zb) (Zf (Z2 0 (WL GD)) (Zf (Zp Wv O9<|Zp YH Na<|Zp Z6 OO<|Za (Wn RQ Nj 1) Nr<|Za (YB O0 Q9 1) d0<|Zb) (Zf (Zp Wv Ns<|Zp YH Nt<|Za (Yz QX (kI 1)) Mq<|Za (Tt 1 Nk none (some Nl) none) Me<|Zp Ps Vi<|Zb) ZT)))))))))))⟩
def Zde:D:=(Z2 1 (Zf (Zp Z6 W0<|Zp Xn VD<|Za (Zv 93 [WC,Vd]) VG<|Zp W6 Wg<|Zb) (Zf (Zf (Zp XL VH<|Za (Wf W7 (k (.int .i64 (.negSucc 0))) WX false) VI<|Zb) (ZH WG (Zf (Zp Xi VU<|Zp Vv YU<|Zb) ZT) Zb)) (Zf (Zp Xi V6<|Za (Yz VA (kI 1)) V7<|Zp VB WN<|Zb) (Zp Z6 Uj<|Zp XL Uq<|Zp Xn UB<|Za (Xu Uv) Tb<|Za (Yz W8 Uw) Tk<|Za (Wy Vg (some UU) none none) TA<|Zp U6 st0<|Zb)))))
def Zhq:CF:=⟨[(Xo,none)],(Zf (Za (ZI (kI 0)) YU<|Zb) (Zf (Zf (Zp Xn WD<|Za (Xu XE) Vi<|Za (Wf Xt (kI 0) WX false) Ur<|Zb) (ZH Wv (Zf (Zp Z6 Xe<|Za (Zv 173 [YH]) Xw<|Za (Yz Y1 (kI 1)) XB<|Zp Y2 YU<|Zb) ZT) Zb)) (Zf (Zf (Zp Xn Xx<|Za (Xu YS) X5<|Za (Wf Xl (kI 1) WX false) X9<|Zb) (ZH Xs (Zf (Zp Z6 X4<|Zp Xn We<|Za (Xj XK (kI 0)) Wk<|Za (Zv 175 [Xr,X1]) WJ<|Zp X6 YU<|Zb) ZT) Zb)) (Zf (Za (ZI (kI 0)) WN<|Zb) (Z2 0 (WL Zde))))))⟩
def c93:CF:=⟨[(Xo,none)],(Zf (Za (ZI (kI 0)) YU<|Zb) (Zf (Zp Z6 WN<|Zp Xn Wg<|Za (Zv 124 [Xi,XL]) WD<|Zp XE YU<|Zb) ZT))⟩
def Zc7:D:=(Zf (Zf (Zp Xt ON<|Zp Wv O9<|Za (Yk Ni RQ XF Yt) Na<|Zb) (ZH Nj Zb (WK 1))) (Z2 2 (Zf (Zf (Zp Z6 OO<|Zp Xt Nr<|Za (Xj Q9 O0) Ns<|Zp XL Nt<|Za (Wf Nk QX WX true) Mq<|Zb) (ZH Nl (Zf (Zp Z6 Me<|Zp Xt Mr<|Za (Yz RR (kI 1)) MQ<|Zp Wv LY<|Za (Wy Ps (some NV) (some NW) none) Kr<|Zp XL Ks<|Za (Zv 75 [K0,LD]) Kt<|Zp Kk Xw<|Zb) (Zf (Zf (Zp Y1 LZ<|Za (Yk PR (kI 0) XF Yt) Ku<|Zb) (ZH Kl (Zf (Za (ZI (k (.int .i64 (.negSucc 0)))) YU<|Zb) ZT) Zb)) (Zp Xt Kv<|Zp Y1 Ju<|Za (Yz K1 (kI 1)) In<|Za (Yz M4 Ii) Gf<|Zp Ht Vi<|Zb))) Zb)) (Zf (Zf (Zp Z6 Gg<|Zp Xt Io<|Za (Yz LG (kI 1)) Ip<|Za (Xj LF Km) Iq<|Zp XE Jv<|Za (Wf Ij K2 WX false) Jw<|Zp K3 L0<|ZF Ql true (ZI Z6) Jx<|ZF Ql true (ZI Xt) Jy<|ZF Ql true (ZI Xt) Kw<|ZF Ql true (ZI Xi) Kx<|ZF Ql true (Yz Kn M5) Ky<|ZF Ql true (Wy Mo (some Ik) (some Ko) none) Jz<|ZF Ql true (ZI Xn) JA<|ZF Ql true (Wf LH K4 QJ false) Ir<|Za (Yo Ql LI (kB false)) Gh<|Zb) (ZH Hu (Zf (Zp Xt FU<|Zp G4 YU<|Zb) ZT) Zb)) (Zf (Zp Xt FV<|Za (Yz G5 (kI 1)) EV<|Zp Em Vi<|Zb) (Zf (Zp YH EW<|Za (Yz En (kI 1)) Cj<|Zp Eo Xe<|Zb) (Zf (Zp Xi zn<|Za (ZP (k (.ptr 4 0))) Jr<|Za (Yk G6 NQ Ro U5) Kh<|Zp NR IP<|ZF Q8 true (ZI YH) IR<|ZF Q8 true (ZI Xt) IS<|ZF Q8 true (Zv 131 [NS]) FP<|ZF Q8 true (Yk GY Kd U9 W1) FQ<|Za (Yo Q8 KX (kB false)) IT<|Zb) (ZH M1 (Zf (Zp Z6 FR<|Zp Xt FT<|Za (Wy Do (some Mx) none none) IU<|Zp Xn IV<|Za (Zv 132 [GZ,My]) IW<|Zp IA XB<|Zb) (Zf (Zf (Zp Y2 IX<|Za (Yk IB (kI 0) UQ Wd) IY<|Zb) (ZH M2 (Zf (Zp Y2 IZ<|Zp Xt I0<|Za (Yz Nd IC) I1<|Zp G0 YU<|Zb) ZT) Zb)) (Zf (Za (ZI (k (.int .i64 (.negSucc 0)))) YU<|Zb) ZT))) (Zf (Zp Xi I2<|Za (ZP (k (.ptr 4 0))) I3<|Za (Yk ID IE U9 W1) I4<|Zp IF I5<|ZF NT true (ZI YH) I6<|ZF NT true (ZI Xt) Js<|ZF NT true (HV IG (k (nI .u64 4))) Jt<|ZF NT true (Yz (kI 4) NU) DQ<|ZF NT true (Yk G1 KY UQ Wd) DT<|Za (Yo NT G2 (kB false)) DU<|Zp Dp DV<|ZF KZ true (ZI Xt) DW<|ZF KZ true (ZI Wv) DX<|ZF KZ true (Yk Dq M3 XF Yt) DY<|Za (Yo KZ Dr (kB false)) DZ<|Zb) (ZH Mz (Zf (Zp Z6 D1<|Zp Xt D2<|Za (Wy Ds (some Dt) none none) D3<|Zp Xn za<|Za (Zv 154 [G3,BM]) zb<|Zp BN Xx<|Zb) (Zf (Zf (Zp YS wP<|Za (Yk yX (kI 0) XF Yt) wR<|Zb) (ZH yY (Zf (Za (ZI (k (.int .i64 (.negSucc 0)))) YU<|Zb) ZT) Zb)) (Zf (Zp Xt wS<|Zp YS wT<|Za (Yz yZ y4) wU<|Zp y5 YU<|Zb) ZT))) Zb))))))))))
def tU:CF:=⟨[(Xo,none)],(Zf (Za (ZI (kI 0)) YU<|Zb) (Zf (Zp Xn X5<|Za (Xu Xl) X9<|Zp Xs WN<|Zb) (Zf (Z2 0 (Zf (Zp Xi We<|Za (Wf XK (kI 0) WX false) Wk<|Zp X1 WJ<|ZF X6 false (ZI Xn) W0<|ZF X6 false (ZI Z6) VD<|ZF X6 false (Wf WC Vd QJ false) VG<|Za (Yo X6 (kB true) W6) VH<|Zp W7 X4<|Zb) (ZH Xr (Zf (Za (ZI (kI 0)) YU<|Zb) ZT) (Zf (Zp Xi VU<|Za (Wf Vv (kI 1) WX false) V6<|Zp VA VI<|Zb) (ZH WG (Zf (Zp Z6 V7<|Zp Xn Uj<|Za (Xj Vg (kI 0)) Uq<|Za (Zv 75 [VB,W8]) UB<|Zp Uv YU<|Zb) ZT) (Zf (Zp Xi Tk<|Zp Z6 TA<|Za (Xu U6) T8<|Za (Yk UU U7 UQ Wd) Sf<|Zp U8 Tb<|Zb) (ZH Uw (Zf (Za (ZI (k (.int .i64 (.negSucc 0)))) YU<|Zb) ZT) (Zf (Zp Xi SY<|Za (ZP (k (.ptr 4 0))) S7<|Za (Yk SR Sa Ro U5) RB<|Zp Sb RY<|ZF Sn true (ZI Z6) RC<|ZF Sn true (Xu SG) RZ<|ZF Sn true (Yk Sc (kI 64) Ro U5) R0<|Za (Yo Sn S4 (kB false)) QY<|Zp So SX<|Zb) (ZH Rc (Zf (Zp Z6 Pj<|Zp Xn Pk<|Za (Zv 132 [Re,Qc]) Pm<|Zp RO YU<|Zb) ZT) Zb))))))))) (Zf (Zp Xn Pw<|Za (Xj QV (kI 0)) Px<|Zp Pq Wg<|Zb) (Zf (Zp Xn OI<|Za (Xj OY (kI 1)) O6<|Zp Pr WD<|Zb) (Zf (Za (ZI (kI 0)) Vi<|Zb) (Zf (Zp Z6 O7<|Za (Xu RP) OJ<|Zp Xi OK<|Za (Vs OZ Ot) O8<|Za (Yz Nh (kI 1)) OM<|Zp QW Ur<|Zb) (Zf (Za (ZI (kI 0)) Xe<|Zb) (Zf (Z2 1 (WL Zc7)) (Zf (Za (ZI (k (.int .i64 (.negSucc 0)))) YU<|Zb) ZT))))))))))⟩
def c72:CF:=⟨[(Xo,none)],(Zf (Za (ZI (kB false)) YU<|Zb) (Zf (Zp Z6 WN<|Zp Xn Wg<|Za (Zv 103 [Xi,XL]) WD<|Za (Yk XE (kI 0) UQ Wd) Vi<|Zp Xt YU<|Zb) ZT))⟩
def Q6:D:=(Zf (Za (Yk Xt XE XF Yt) Ur<|Zb) (Zf (ZH Wv Zb (WK 0)) (Zf (Z2 1 (Zf (Zp Xt Xe<|Zp YH WN<|Zb) (Zf (Zp Xn Xw<|Zp Z6 XB<|Zp Xi Xx<|Za (Wn Y2 YS 1) X5<|Za (ZP Xl) X9<|Za (N6 Y1 Tryz.prog [Xs]) X4<|Zb) (ZH Xr (Zf (Zp Xi We<|Zp XK YU<|Zb) ZT) Zb)))) (Za (Yz Xt (kI 1)) Wk<|Zp X1 Vi<|Zb))))
def Zc0:CF:=⟨[(Xo,none)],(Zf (Za (ZI (kI 0)) YU<|Zb) (Zf (Zf (Zp Z6 Wg<|Za (Xf XL) WD<|Za (ZI (kI 0)) Vi<|Zb) (Z2 0 (WL Q6))) (Zf (Za (ZI (k (.int .i64 (.negSucc 0)))) YU<|Zb) ZT)))⟩
def c73:CF:=⟨[(Va,none)],(Zf (Za (ZI (kB false)) st2<|Zb) (Zf (Zp Z6 VS<|Za (Zv 49 [V0]) YU<|Za (S6 Xo) WN<|Zp Xi st2<|Zb) ZT))⟩
def c49:CF:=⟨[(Va,none)],(Zf (Za (ZI (kB false)) st2<|Zb) (Zf (Zp Z6 VS<|Za (Wf V0 (k (.str [])) QJ true) YU<|Zp Xo WN<|ZF Xi true (ZI Z6) Wg<|ZF Xi true (Xu XL) WD<|ZF Xi true (Yk XE (kI 251) Ro U5) Vi<|Za (Yo Xi Xt (kB false)) Ur<|Zp Wv Xe<|ZF YH true (ZI Z6) Xw<|ZF YH true (Wf Y1 (k (.str [46])) QJ true) XB<|Za (Yo YH Y2 (kB false)) Xx<|Zp YS X5<|ZF Xl true (ZI Z6) X9<|ZF Xl true (Wf Xs (k (.str [46,46])) QJ true) X4<|Za (Yo Xl Xr (kB false)) We<|Zp XK Wk<|ZF X1 true (ZI Z6) WJ<|ZF X1 true (Zv 50 [X6,(k (.str [47,0]))]) W0<|ZF X1 true (S6 WC) VD<|Za (Yo X1 Vd (kB false)) VG<|Zp W6 VH<|ZF W7 true (ZI Z6) VI<|ZF W7 true (Zv 69 [WG,(k (.str [46,119,104,46]))]) VU<|ZF W7 true (S6 Vv) V6<|Za (Yo W7 VA (kB false)) V7<|Zp VB st2<|Zb) ZT))⟩
def c50:CF:=⟨[(Xo,none)],(Zf (Za (ZI (kB false)) YU<|Zb) (Zf (Zp Z6 WN<|Zp Xn Wg<|Za (Zv 74 [Xi,XL]) WD<|Za (Yk XE (kI 0) UQ Wd) Vi<|Zp Xt YU<|Zb) ZT))⟩
def Eb:D:=(Zf (Zf (Zp Xt TA<|Zp Z6 T8<|Za (Xu U7) Sf<|Za (Yk U6 U8 XF Yt) SX<|Zb) (ZH Rc Zb (WK 0))) (Zf (Z2 1 (Zf (Zp Z6 RB<|Zp Xt RY<|Za (Xj Sb Sn) RC<|Za (Zv 107 [XL,SG]) RZ<|Zb) (ZH Sc (Zf (Zp Xt R0<|Zp S4 YU<|Zb) ZT) Zb))) (Zp Xt SY<|Za (Yz SR (kI 1)) S7<|Zp Sa Vi<|Zb)))
def Hk:D:=(Zf (Za (j0 Re) Pk<|Za (Yy Qc 0) Pm<|Zb) (Zf (ZH RO Zb (WK 2)) (Z2 3 (Zf (Za (Yy Qc 1) Pw<|Za (Yy Qc 2) Px<|Zp QV Ur<|Zp Pq Xe<|Zb) (Zf (Zp Xn OI<|Zp YH O6<|Za (Zv 104 [OY,Pr]) O7<|Za (Yk RP (kI 0) UQ Wd) OJ<|Zb) (ZH OZ (Zf (Zp Wv OK<|Zp Ot YU<|Zb) ZT) Zb))))))
def c74:CF:=⟨[(Xo,none)],(Zf (Za (ZI (kI 0)) YU<|Zb) (Zf (Zf (Zp Xn Xw<|Za (Wf Y1 (k (.str [])) QJ false) XB<|Zb) (ZH Y2 (Zf (Za (ZI (k (.int .i64 (.negSucc 0)))) YU<|Zb) ZT) Zb)) (Zf (Zf (Zp Xn Xx<|Za (Xu YS) X5<|Za (Wf Xl (kI 1) WX false) X9<|Zb) (ZH Xs (Zf (Zp Xn X4<|Za (Xj Xr (kI 0)) We<|Za (Tx XK .i32) Wk<|Zp X1 WN<|Zb) (Zf (Zf (Zp Xi WJ<|Za (Yk X6 (k (nI .i32 128)) UQ Wd) W0<|Zb) (ZH WC (Za (ZI (k (nI .i32 65533))) WN<|Zb) Zb)) (Zf (Zp Z6 VD<|Zp Xi VG<|Za (Zv 104 [Vd,W6]) VH<|Zp W7 YU<|Zb) ZT))) Zb)) (Zf (Zf (Zp Z6 VI<|Za (Xu WG) VU<|Za (Zv 105 [Vv]) V6<|Zb) (ZH VA (Zf (Zp Xn Uj<|Za (Zv 106 [Vg]) Uq<|Zp W8 V7<|Za (Yy VB 0) UB<|Za (Yy VB 1) Tb<|Za (VN 153 L9) Wg<|Za (YB XL Uv 256) d0<|Zp Uw WD<|Zb) (Zf (Zp XE Tk<|Zb) (ZH UU (Zf (Zf (Za (ZI (kI 0)) Vi<|Zb) (Z2 0 (WL Eb))) (Zf (Za (ZI (k (.int .i64 (.negSucc 0)))) YU<|Zb) ZT)) Zb))) Zb)) (Zf (Zf (Zp Z6 QY<|Za (CA So) Pj<|Zb) (Z2 2 (WL Hk))) (Zf (Za (ZI (k (.int .i64 (.negSucc 0)))) YU<|Zb) ZT))))))⟩
def Zg1:CF:=⟨[(Va,none)],(Zf (Za (ZI (kB false)) st2<|Zb) (Zf (Zp Z6 VS<|Za (Yk V0 (kI 8) U9 W1) YU<|Zp Xo st2<|Zb) ZT))⟩
def Gz:D:=(Zf (Zf (Zp Xo Wg<|Zp Z6 WD<|Za (Xu XE) Vi<|Za (Yk XL Xt XF Yt) Ur<|Zb) (ZH Wv Zb (WK 0))) (Zf (Z2 1 (Zf (Zp Z6 XB<|Zp Xo Xx<|Za (Xj Y2 YS) X5<|Zp Xl WN<|Zb) (Zf (Zf (Zp Xi X9<|Za (Yk Xs (k (nI .u8 128)) UQ Wd) X4<|Zb) (ZH Xr (Zf (Za (UE Va 256) We<|Za (YB Va XK 256) d0<|Za (ZI (kB false)) VS<|Zb) ZT) Zb)) (Zp Xi Wk<|Za (N7 Va X1 256 1) WJ<|Za (YB X6 (kB true) 1) d0<|Zb)))) (Zp Xo Xe<|Za (Yz YH (kI 1)) Xw<|Zp Y1 YU<|Zb)))
def Zg2:CF:=⟨[(Va,some (256,true)),(V0,none)],(Zf (Za (VN 153 L9) st2<|Za (ZI (kB false)) VS<|Zb) (Zf (Zf (Za (ZI (kI 0)) YU<|Zb) (Z2 0 (WL Gz))) (Zf (Za (UE Va 256) W0<|Za (YB Va WC 256) d0<|Za (ZI (kB true)) VS<|Zb) ZT)))⟩
def Zg3:CF:=⟨[(Xo,none)],(Zf (Za (ZI (kB false)) YU<|Zb) (Zf (Zp Z6 WN<|Zp Xn Wg<|Za (Um Xi) WD<|Za (N7 XE XL 256 1) Vi<|Za (ZP Xt) Ur<|Zp Wv YU<|Zb) ZT))⟩
def Gy:D:=(Zf (Za (j0 jr) Zgy<|Za (Yy js 0) Zgz<|Zb) (Zf (ZH ZfK Zb (WK 9)) (Z2 10 (Zf (Za (Yy js 1) ZgA<|Za (Yy js 2) ZgB<|Zp ZfL WN<|Zp ZfM Wg<|Zb) (Zf (Zp XL ZgC<|Za (Wf ZfN (k (nI .i32 65533)) WX false) ZgD<|Zb) (ZH ZfO (Zf (Zp Xi ZgE<|Zp ZfP YU<|Zb) ZT) Zb))))))
def Zc1:D:=(Zf (Zf (Zp Y2 Pw<|Zp XE Px<|Za (Xu Pq) OI<|Za (Yk QV OY XF Yt) O6<|Zb) (ZH Pr Zb (WK 3))) (Zf (Z2 4 (Zf (W5 [YT (ZI Z6) [(st0,Z6)] OK 0 0,YT (ZI Wv) [(Ur,Wv)] O8 1 0,YT (ZI Y2) [(XB,Y2)] OM 2 0,YT (Vs Nh QW) [(O8,Nh),(OM,QW)] ON 3 6,YT (Xj Ot Ni) [(OK,Ot),(ON,Ni)] O9 4 15,YT (ZI XE) [(WD,XE)] Na 5 0,YT (ZI Xt) [(Vi,Xt)] OO 6 0,YT (ZI Y2) [(XB,Y2)] Nr 7 0,YT (Vs Q9 O0) [(OO,Q9),(Nr,O0)] Ns 8 192,YT (Xj Nj Nk) [(Na,Nj),(Ns,Nk)] Nt 9 480,YT (Wf RQ QX WX true) [(O9,RQ),(Nt,QX)] Mq 10 1023]) (ZH Nl Qg Zb))) (Zp Y2 O7<|Za (Yz RP (kI 1)) OJ<|Zp OZ XB<|Zb)))
def vH:D:=(Zf (Zf (Zp Wv VH<|Zp Z6 VI<|Za (Xu WG) VU<|Za (Yk W7 Vv XF Yt) V6<|Zb) (ZH VA Zb (WK 1))) (Z2 2 (Zf (Zf (W5 [YT (ZI Z6) [(st0,Z6)] V7 0 0,YT (ZI Wv) [(Ur,Wv)] Uj 1 0,YT (Xj VB Vg) [(V7,VB),(Uj,Vg)] Uq 2 3,YT (ZI XE) [(WD,XE)] UB 3 0,YT (ZI Xt) [(Vi,Xt)] Tb 4 0,YT (Xj Uv Uw) [(UB,Uv),(Tb,Uw)] Tk 5 24,YT (Wf W8 UU WX true) [(Uq,W8),(Tk,UU)] TA 6 63]) (ZH U6 (Zf (W5 [YT (ZI Z6) [(st0,Z6)] T8 0 0,YT (ZI Wv) [(Ur,Wv)] Sf 1 0,YT (Yz U8 (kI 1)) [(Sf,U8)] SX 2 2,YT (Wy U7 (some Rc) none none) [(T8,U7),(SX,Rc)] SY 3 7,YT (ZI XE) [(WD,XE)] S7 4 0,YT (ZI Xt) [(Vi,Xt)] RB 5 0,YT (Xj Sa Sb) [(S7,Sa),(RB,Sb)] RY 6 48,⟨Zv 51 [SR,Sn],none,[(SY,SR),(RY,Sn)],RC,.eff,7,127⟩,⟨ZI SG,none,[(RC,SG)],Xw,.eff,8,255⟩]) (Zf (Zf (Zp Y1 RZ<|Za (Yk Sc (kI 0) XF Yt) R0<|Zb) (ZH S4 (Zf (Za (ZI (k (.int .i64 (.negSucc 0)))) YU<|Zb) ZT) Zb)) (Zp Wv QY<|Zp Y1 Pj<|Za (Yz Re (kI 1)) Pk<|Za (Yz So Qc) Pm<|Zp RO Ur<|Zb))) Zb)) (Zf (Zf (Za (ZI (kI 1)) XB<|Zb) (Z2 3 (WL Zc1))) (Zf (Zf (Zp Wv Me<|Zp Xt Mr<|Za (Vs Ps RR) MQ<|Zp NV YU<|Zb) ZT) (Zf Zb (Zf (Zp YH LY<|Za (Yz NW (kI 1)) Kr<|Zp K0 Xe<|Zb) (Zf (Zp Wv Ks<|Za (Yz LD (kI 1)) Kt<|Zp Kk Ur<|Zb) (Zf (Za (ZI (kB true)) LZ<|ZF PR true (ZI YH) Ku<|ZF PR true (ZI Wv) Kv<|ZF PR true (Zv 131 [M4]) Ju<|ZF PR true (Yk Kl K1 U9 W1) In<|Za (Yo PR Ii (kB false)) Gf<|Zp Ht Gg<|ZF LF true (ZI Wv) Io<|ZF LF true (ZI Z6) Ip<|ZF LF true (Xu Km) Iq<|ZF LF true (Yk LG Ij XF Yt) Jv<|Za (Yo LF K2 (kB false)) Jw<|Zp K3 L0<|ZF Ql false (ZI (kB false)) Jx<|ZF Mo true (ZI YH) Jy<|ZF Mo true (ZI Wv) Kw<|ZF Mo true (HV Kn (k (nI .u64 4))) Kx<|ZF Mo true (Yz (kI 4) M5) Ky<|ZF Mo true (Yk Ik Ko UQ Wd) Jz<|ZF Ql false (Yo Mo LH (kB false)) JA<|ZF Ql false (ZI K4) Ir<|ZF LI true (ZI Wv) Gh<|ZF LI true (ZI Z6) FU<|ZF LI true (Xu G4) FV<|ZF LI true (Yk Hu G5 XF Yt) EV<|ZF Ql false (Yo LI Em (kB false)) EW<|Za (Yo Ql (kB true) En) Cj<|Zb) (ZH Eo Qg Zb))))))))))
def Zc2:D:=(Zf (Zf (Zp Xr wS<|Zp XE wT<|Za (Xu y4) wU<|Za (Yk yZ y5 XF Yt) pW<|Zb) (ZH sX Zb (WK 7))) (Zf (Z2 8 (Zf (W5 [YT (ZI Z6) [(st0,Z6)] zd 0 0,YT (ZI Wv) [(Ur,Wv)] ze 1 0,YT (ZI Xr) [(X4,Xr)] zf 2 0,YT (Vs BP BQ) [(ze,BP),(zf,BQ)] zg 3 6,YT (Xj BO BR) [(zd,BO),(zg,BR)] zh 4 15,YT (ZI XE) [(WD,XE)] zi 5 0,YT (ZI Xt) [(Vi,Xt)] zj 6 0,YT (ZI Xr) [(X4,Xr)] zk 7 0,YT (Vs BW BX) [(zj,BW),(zk,BX)] zl 8 192,YT (Xj BU BY) [(zi,BU),(zl,BY)] zm 9 480,YT (Wf BT IH WX true) [(zh,BT),(zm,IH)] wW 10 1023]) (ZH y7 (WK 6) Zb))) (Zp Xr pX<|Za (Yz sY (kI 1)) wV<|Zp y6 X4<|Zb)))
def Zc3:D:=(Zf (Zf (Zp Wv I5<|Zp Z6 I6<|Za (Xu G1) Js<|Za (Yk NT IG XF Yt) Jt<|Zb) (ZH NU Zb (WK 5))) (Zf (Z2 6 (Zf (Zp Z6 DU<|Zp Wv DV<|Za (Xj Dp KZ) DW<|Zp Xl DX<|Za (Wf Dq M3 WX false) DY<|Zp Dr DZ<|ZF Mz true (ZI Z6) D1<|ZF Mz true (ZI Wv) D2<|ZF Mz true (Vs Dt (kI 1)) D3<|ZF Mz true (Xj Ds G3) za<|ZF Mz true (ZI Xs) zb<|ZF Mz true (Wf BM BN WX false) wP<|Za (Yo Mz yX (kB false)) wR<|Zb) (ZH yY (Zf (Zf (Za (ZI (kI 2)) X4<|Zb) (Z2 7 (WL Zc2))) (Zf (Zp Wv wX<|Zp Xt iz<|Za (Vs y8 jk) iA<|Zp jl YU<|Zb) ZT)) Zb))) (Zp Wv DQ<|Za (Yz KY (kI 1)) DT<|Zp G2 Ur<|Zb)))
def oQ:CF:=⟨[(Xo,none)],(Zf (Za (ZI (kI 0)) YU<|Zb) (Z2 0 (Zf (Zp Xn iC<|Za (Yk (k (nI .i32 0)) jn Ro U5) iD<|Zp jo iE<|ZF y9 true (ZI Xn) iF<|ZF y9 true (Yk jp (k (nI .i32 128)) XF Yt) iG<|Za (Yo y9 BZ (kB false)) iH<|Zp jq iB<|Zb) (ZH jm (Zf (Zp Z6 Zca<|Zp Xn Zcb<|Za (Tx aU .u8) Zcc<|Za (Zv 51 [aT,aV]) Zcd<|Zp aW YU<|Zb) ZT) (Zf (Zp Xn Zgu<|Za (Wf ZfH (k (nI .i32 65533)) WX false) Zgv<|Zp ZfI Zce<|Zb) (ZH aX (Zf (Zf (Zp Z6 Zgw<|Za (CA ZfJ) Zgx<|Zb) (Z2 9 (WL Gy))) (Zf (Za (ZI (k (.int .i64 (.negSucc 0)))) YU<|Zb) ZT)) (Zf (Zp Xn ZgG<|Za (Zv 130 [ZfR]) ZgH<|Za (S6 ZfS) ZgI<|Zp ZfT ZgF<|Zb) (ZH ZfQ (Zf (Za (ZI (k (.int .i64 (.negSucc 0)))) YU<|Zb) ZT) (Zf (Zp Xn We<|Za (j6 XK) Wk<|Zp X1 WD<|Zb) (Zf (Zp XE WJ<|Za (Xu X6) W0<|Za (Vs WC (kI 1)) VD<|Zp Vd Vi<|Zb) (Zf (Zp Xt VG<|Zp W6 Ur<|Zb) (Zf (Za (ZI (kI 0)) Xe<|Zb) (Zf (Z2 1 (WL vH)) (Zf (Zf (Za (ZI (k (.int .i64 (.negSucc 0)))) YU<|Zb) ZT) (Zf Zb (Zf (ZH (kB true) (Zf (Zp Z6 zn<|Zp Wv Jr<|Zp Xt Kh<|Za (Vs NQ NR) IP<|Za (Wy G6 (some Q8) none none) IR<|Zp Xn IS<|Za (j6 NS) FP<|Za (Zv 132 [GY,Kd]) FQ<|Zp KX Xx<|Zb) (Zf (Zp YS IT<|Za (Yk M1 (kI 0) UQ Wd) FR<|Zb) (ZH Do (Zf (Zp Wv FT<|Zp YS IU<|Za (Yz Mx GZ) IV<|Zp Xt IW<|Za (Vs My IA) IX<|Zp IB YU<|Zb) ZT) Zb))) (Zf (Zp XE IY<|Zp Xt IZ<|Za (Xj M2 Nd) I0<|Zp IC X5<|Zb) (Zf (Zp XE I1<|Zp Xt I2<|Za (Vs ID (kI 1)) I3<|Za (Xj G0 IE) I4<|Zp IF X9<|Zb) (Zf Zb (Z2 5 (WL Zc3)))))) (Zf (Za (ZI (k (.int .i64 (.negSucc 0)))) YU<|Zb) ZT)))))))))))))))))⟩
def bc:CF:=⟨[(Va,none)],(Zf (Za (ZI (kB false)) st2<|Zb) (Zf (Z2 0 (Zf (Zp Z6 YU<|Za (Yk (k (nI .i32 0)) Xo Ro U5) WN<|Zp Xi Wg<|ZF XL true (ZI Z6) WD<|ZF XL true (Yk XE (k (nI .i32 55296)) XF Yt) Vi<|Za (Yo XL Xt (kB false)) Ur<|Zp Wv VS<|Zb) (ZH V0 (Zf (Za (ZI (kB true)) st2<|Zb) ZT) (Zf (Zp Z6 Xw<|Za (Yk (k (nI .i32 57343)) Y1 XF Yt) XB<|Zp Y2 Xx<|ZF YS true (ZI Z6) X5<|ZF YS true (Yk Xl (k (nI .i32 1114111)) Ro U5) X9<|Za (Yo YS Xs (kB false)) X4<|Zp Xr Xe<|Zb) (ZH YH (Zf (Za (ZI (kB true)) st2<|Zb) ZT) Zb))))) (Zf (Za (ZI (kB false)) st2<|Zb) ZT)))⟩
def c51:CF:=⟨[(Xo,none)],(Zf (Za (ZI (kI 0)) YU<|Zb) (Zf (Zp Z6 WN<|Zp Xn Wg<|Za (Zv 75 [Xi,XL]) WD<|Zp XE YU<|Zb) ZT))⟩
def c75:CF:=⟨[(Xo,none)],(Zf (Za (ZI (kI 0)) YU<|Zb) (Zf (Zp Z6 WN<|Zp Xn Wg<|Za (Zv 108 [Xi,XL]) WD<|Zp XE YU<|Zb) ZT))⟩
def c7:CF:=⟨[(Va,none)],(Zf (Za (Jb Z6 34) st1<|Za (ZI (kB false)) st2<|Zb) (Zf (Za (YG Xn 0) WD<|Za (ZP XE) Vi<|Za (Zv 22 [Xt]) Ur<|Zp Wv Wg<|Za (Yy XL 0) Xe<|Za (Yy XL 1) Xw<|Zp YH VS<|Zp Y1 YU<|Zb) (Zf (Za (YG Xn 1) XB<|Za (UE Y2 8) Xx<|Za (VN 32 [(nI .i64 0),(nI .u32 0),(nI .u32 0),(nI .u32 0),(nI .i64 0),.nils,.nils,(.str [])]) WN<|Za (YB Xi YS 8) d0<|Zb) (Zf (Zf (Zp V0 X5<|Za (Wf Xl (kI 0) WX false) X9<|Zp Xs X4<|ZF Xr false (ZP (k (.ptr 0 0))) We<|ZF Xr false (YG Xi 0) Wk<|ZF Xr false (ZP X1) WJ<|ZF Xr false (ME WX (nI .u8 0) false XK X6) W0<|ZF Xr false (Wf WC (k (nI .u8 0)) WX false) VD<|Za (Yo Xr (kB true) Vd) VG<|Zp W6 VH<|ZF W7 false (YG Xi 1) VI<|ZF W7 false (ZP WG) VU<|ZF W7 false (Yk Vv (k (nI .u32 4095)) U9 W1) V6<|Za (Yo W7 (kB true) VA) V7<|Zp VB Uj<|ZF Vg false (YG Xi 5) Uq<|ZF Vg false (ZP W8) UB<|ZF Vg false (Zv 23 [Uv]) Tb<|ZF Vg false (S6 Uw) Tk<|Za (Yo Vg (kB true) UU) TA<|Zp U6 T8<|ZF U7 false (YG Xi 7) Sf<|ZF U7 false (ZP U8) SX<|ZF U7 false (YG Xi 0) SY<|ZF U7 false (ZP SR) S7<|ZF U7 false (Wf Sa (kI 3) WX false) RB<|ZF U7 false (Zv 24 [Rc,Sb]) RY<|ZF U7 false (S6 Sn) RC<|Za (Yo U7 (kB true) SG) RZ<|Zb) (ZH Sc (Zf (Za (ZI (kB false)) st2<|Zb) ZT) Zb)) (Zf (Za (YG Xi 6) R0<|Za (ZP S4) QY<|Za (Xf So) Pj<|Za (Yk Re (kI 16777216) Ro U5) Pk<|Zp Qc Pm<|ZF RO true (YG Xi 0) Pw<|ZF RO true (ZP QV) Px<|ZF RO true (Wf Pq (kI 2) WX false) OI<|ZF RO true (ZI OY) O6<|ZF Pr false (YG Xi 6) O7<|ZF Pr false (ZP RP) OJ<|ZF Pr false (Xf OZ) OK<|ZF Pr false (Wf Ot (kI 0) WX false) O8<|ZF RO true (Yo Pr (kB true) Nh) OM<|Za (Yo RO QW (kB false)) ON<|Zp Ni st2<|Zb) ZT)))))⟩
def MK:D:=(Zf (Za (Yk XE XL XF Yt) Vi<|Zb) (Zf (ZH Xt Zb (WK 0)) (Zf (Z2 1 (Zf (Zp XE Ur<|Za (Wn Xi XE 2) Xe<|Za (UE YH 2) Xw<|Za (VN 44 [(.str []),(.str [])]) YU<|Zp Wv VS<|Za (YB Xo Y1 2) d0<|Zb) (Zf (W5 [YT (YG Xo 0) [(YU,Xo)] XB 0 0,⟨ZP Y2,none,[(XB,Y2)],Xx,.read,1,1⟩,YT (Wf YS (k (.str [])) QJ false) [(Xx,YS)] X5 2 3,YT (ZI Xl) [(X5,Xl)] X9 3 7,⟨YG Xo 0,(some (Xs,false)),[(YU,Xo)],X4,.free,4,15⟩,⟨ZP Xr,(some (Xs,false)),[(X4,Xr)],We,.read,5,31⟩,⟨Xu XK,(some (Xs,false)),[(We,XK)],Wk,.free,6,63⟩,⟨Yk X1 (kI 242) U9 W1,(some (Xs,false)),[(Wk,X1)],WJ,.free,7,127⟩,YT (Yo Xs (kB true) X6) [(X9,Xs),(WJ,X6)] W0 8 255,YT (ZI WC) [(W0,WC)] VD 9 511,⟨YG Xo 0,(some (Vd,false)),[(YU,Xo)],VG,.free,10,1023⟩,⟨ZP W6,(some (Vd,false)),[(VG,W6)],VH,.read,11,2047⟩,⟨Zv 50 [W7,(k (.str [0,61,10]))],(some (Vd,false)),[(VH,W7)],VI,.eff,12,4095⟩,YT (Yo Vd (kB true) WG) [(VD,Vd),(VI,WG)] VU 13 8191,YT (ZI Vv) [(VU,Vv)] V6 14 16383,⟨ZI V0,(some (VA,false)),[(VS,V0)],V7,.free,15,32767⟩,⟨Yk VB (kI 0) U9 W1,(some (VA,false)),[(V7,VB)],Uj,.free,16,65535⟩,⟨ZI Vg,(some (VA,false)),[(Uj,Vg)],Uq,.free,17,131071⟩,⟨ZI Z6,(some (W8,true)),[(st0,Z6)],UB,.free,18,262143⟩,⟨ZI V0,(some (W8,true)),[(VS,V0)],Tb,.free,19,262143⟩,⟨Vs Uw (kI 1),(some (W8,true)),[(Tb,Uw)],Tk,.free,20,786431⟩,⟨Wn Uv UU 2,(some (W8,true)),[(UB,Uv),(Tk,UU)],TA,.free,21,2097151⟩,⟨YG U6 0,(some (W8,true)),[(TA,U6)],T8,.free,22,4194303⟩,⟨ZP U7,(some (W8,true)),[(T8,U7)],Sf,.read,23,8388607⟩,⟨YG Xo 0,(some (W8,true)),[(YU,Xo)],SX,.free,24,262143⟩,⟨ZP Rc,(some (W8,true)),[(SX,Rc)],SY,.read,25,17039359⟩,⟨Yk U8 SR UQ Wd,(some (W8,true)),[(Sf,U8),(SY,SR)],S7,.free,26,67108863⟩,⟨Yo W8 Sa (kB false),(some (VA,false)),[(Uq,W8),(S7,Sa)],RB,.free,27,134217727⟩,YT (Yo VA (kB true) Sb) [(V6,VA),(RB,Sb)] RY 28 268435455]) (ZH Sn (Zf (Za (ZI (kB false)) st2<|Zb) ZT) Zb)))) (Za (Yz XE (kI 1)) RC<|Zp SG WD<|Zb))))
def c23:CF:=⟨[(Va,none)],(Zf (Za (ZI (kB false)) st2<|Zb) (Zf (Zf (Zp Z6 WN<|Za (Xf Xi) Wg<|Za (ZI (kI 0)) WD<|Zb) (Z2 0 (WL MK))) (Zf (Zp Z6 RZ<|Za (Xf Sc) R0<|Za (Yk S4 (kI 16) Ro U5) QY<|Zp So st2<|Zb) ZT)))⟩
def c24:CF:=⟨[(Xo,none)],(Zf (Za (ZI (kB false)) YU<|Zb) (Zf (Zf (Zp Xn WN<|Za (S6 Xi) Wg<|Zb) (ZH XL (Zf (Zp Z6 WD<|Za (Wf XE (k (.str [])) QJ false) Vi<|Zp Xt YU<|Zb) ZT) Zb)) (Zf (Zp Z6 Ur<|Za (Wf Wv (k (.str [])) QJ true) Xe<|Zp YH Xw<|ZF Y1 true (ZI Z6) XB<|ZF Y1 true (Xu Y2) Xx<|ZF Y1 true (Yk YS (kI 4096) Ro U5) X5<|Za (Yo Y1 Xl (kB false)) X9<|Zp Xs X4<|ZF Xr true (ZI Z6) We<|ZF Xr true (Zv 51 [XK,(k (nI .u8 0))]) Wk<|ZF Xr true (Yk X1 (kI 0) XF Yt) WJ<|Za (Yo Xr X6 (kB false)) W0<|Zp WC YU<|Zb) ZT)))⟩
def ZfA:D:=(Zf (Za (Yk Sa (kI 4) XF Yt) RB<|Zb) (Zf (ZH Sb Zb (WK 0)) (Zf (Z2 1 (Zf (Za (Fp SR Sa 4) RY<|Zp Sn Xe<|Zb) (Zp Xt RC<|Zp YH RZ<|Za (Zv 19 [SG,Sc,(kI 0)]) R0<|Zb))) (Za (Yz Sa (kI 1)) QY<|Zp So S7<|Zb))))
def c6:CF:=⟨[(Va,none),(V0,none)],(Zf (Za (Jb Z6 34) st1<|Za (ZI (k .nils)) st2<|Za (ZI (kI 0)) VS<|Zb) (Zf (Zf (Za (UE Xn 9) Xw<|Za (Zv 7 [Y1]) XB<|Za (S6 Y2) Xx<|Zb) (ZH YS (Zf (Za (ZI (k .nils)) st2<|Za (ZI (kI 1)) VS<|Zb) ZT) Zb)) (Zf (Za (UE Xn 9) X9<|Za (Zv 15 [Xs]) X4<|Zp Xr X5<|Za (Yy Xl 0) We<|Za (Yy Xl 1) Wk<|Zp XK YU<|Zp X1 WN<|Zb) (Zf (Zf (Zp Xi WJ<|Za (Xf X6) W0<|Za (Wf WC (kI 0) WX false) VD<|Zb) (ZH Vd (Zf (Zp Xo VG<|Za (Um W6) VH<|Za (YG W7 0) VI<|Za (QE 512 1 WG none none none) VU<|Zp Vv st2<|Za (ZI (kI 0)) VS<|Zb) ZT) Zb)) (Zf (Zp Xi V7<|Za (Zv 16 [VB]) Uj<|Zp Vg V6<|Za (Yy VA 0) Uq<|Za (Yy VA 1) UB<|Zp W8 Wg<|Zp Uv WD<|Zb) (Zf (Zf (Zp XE Tb<|Za (Wf Uw (kI 0) WX true) Tk<|Zb) (ZH UU (Zf (Zp XE TA<|Za (ZI (k .nils)) st2<|Zp U6 VS<|Zb) ZT) Zb)) (Zf (Za (Zv 17 [(k (nI .u8 120))]) T8<|Zp U7 Vi<|Zb) (Zf (Zp Xt Sf<|Za (Zv 18 [U8,(k (.str [110,97,109,101])),(k (.str [112,97,120]))]) SX<|Zb) (Zf (Zf (Za (Vx [(.str []),(.str []),(.str []),(.str [])] [⟨0,1,(k (.str [109,111,100,101]))⟩,⟨1,1,(k (.str [117,105,100]))⟩,⟨2,1,(k (.str [103,105,100]))⟩,⟨3,1,(k (.str [109,116,105,109,101]))⟩]) SY<|Za (ZI (kI 0)) S7<|Zb) (Z2 0 (WL ZfA))) (Zf (Zp Xt Pj<|Zp XL Pk<|Za (Xf Qc) Pm<|Za (Zv 19 [Re,(k (.str [115,105,122,101])),RO]) Pw<|Zb) (Zf (Zp Xt Px<|Za (Um Pq) OI<|Za (YG OY 0) O6<|Za (Zv 20 [Pr]) O7<|Zb) (Zf (W5 [YT (ZI Xt) [(Vi,Xt)] OJ 0 0,YT (Um OZ) [(OJ,OZ)] OK 1 1,YT (YG Ot 0) [(OK,Ot)] O8 2 3,YT (QE 512 1 Nh none none none) [(O8,Nh)] OM 3 7,YT (ZI XL) [(Wg,XL)] ON 4 0,YT (ZI XL) [(Wg,XL)] O9 5 0,YT (Xf RQ) [(O9,RQ)] Na 6 32,YT (ZI Xo) [(YU,Xo)] Ns 9 0,YT (Um Nk) [(Ns,Nk)] Nt 10 512,YT (YG QX 0) [(Nt,QX)] Mq 11 1536,YT (QE 512 1 Nl none none none) [(Mq,Nl)] Me 12 3584,⟨Zv 8 [Nj],none,[(Na,Nj)],OO,.eff,7,96⟩,YT (Jc 5 1 1 [(nI .u8 0)] Q9 Q9) [(OO,Q9),(OO,Q9)] Nr 8 224,⟨V5 23 1 4 (List.replicate 4 [.nils]).flatten [⟨0,1,QW⟩,⟨1,1,Ni⟩,⟨2,1,O0⟩,⟨3,1,Ps⟩],none,[(OM,QW),(ON,Ni),(Nr,O0),(Me,Ps)],Mr,.free,13,8191⟩,⟨Zv 21 [RR],none,[(Mr,RR)],MQ,.eff,14,16383⟩,⟨ZI NV,none,[(MQ,NV)],st2,.eff,15,32767⟩,⟨ZI (kI 0),none,[],VS,.eff,16,65535⟩]) ZT))))))))))))⟩
def KJ:D:=(Zf (Za (Yk RR (kI 3) XF Yt) MQ<|Zb) (Zf (ZH NV Zb (WK 0)) (Zf (Z2 1 (Zf (Za (uw Ps RR 3 3) LY<|Za (VN 77 [(.str []),(nI .i64 0),(nI .i64 0)]) Xx<|Za (YB YS NW 3) d0<|Zb) (Zf (Zf (Za (YG YS 1) Kr<|Za (ZP K0) Ks<|Za (Yk LD (kI 0) XF Yt) Kt<|Zp Kk LZ<|ZF PR false (YG YS 1) Ku<|ZF PR false (ZP Kl) Kv<|ZF PR false (YG YS 2) Ju<|ZF PR false (ZP K1) In<|ZF PR false (Yk M4 Ii U9 W1) Gf<|Za (Yo PR (kB true) Ht) Gg<|Zb) (ZH LF (Zf (W5 [YT (ZI XE) [(WD,XE)] Io 0 0,YT (YG YS 0) [(Xx,YS)] Ip 1 0,⟨ZP Km,none,[(Ip,Km)],Iq,.read,2,2⟩,YT (YG YS 1) [(Xx,YS)] Jv 3 0,⟨ZP K2,none,[(Jv,K2)],Jw,.read,4,8⟩,⟨Zv 33 [K3],none,[(Jw,K3)],L0,.eff,5,24⟩,⟨N6 LG Tryz.prog [Ij,Ql],none,[(Io,LG),(Iq,Ij),(L0,Ql)],Jx,.eff,6,63⟩]) (Za (YG YS 1) Jy<|Za (YB Ik (kI 0) 1) d0<|Zb)) Zb)) (Zp Xi Kw<|Za (YG YS 0) Kx<|Za (ZP M5) Ky<|Za (YG YS 1) Jz<|Za (ZP LH) JA<|Za (Zv 19 [Kn,Ko,K4]) Ir<|Zb)))) (Za (Yz RR (kI 1)) Gh<|Zp Hu Mr<|Zb))))
def Bf:D:=(Zf (Za (Yk M1 KX XF Yt) FR<|Zb) (Zf (ZH Do Zb (WK 2)) (Zf (Z2 3 (Zf (Za (Wn Kd M1 2) FT<|Za (UE Mx 2) IU<|Za (VN 44 [(.str []),(.str [])]) X9<|Za (YB Xs GZ 2) d0<|Zb) (Zp XE IV<|Za (YG Xs 0) IW<|Za (ZP IA) IX<|Za (Yz (k (.str [83,67,72,73,76,89,46,120,97,116,116,114,46])) IB) IY<|Za (YG Xs 1) IZ<|Za (ZP Nd) I0<|Za (N6 My Tryz.prog [M2,IC]) I1<|Zb))) (Za (Yz M1 (kI 1)) I2<|Zp ID IT<|Zb))))
def oT:D:=(Zf (Zp Xi I3<|Za (Um IE) I4<|Za (YG IF 0) I5<|Za (Zv 20 [NT]) I6<|Zb) (Zf (W5 [YT (ZI Xi) [(WN,Xi)] Js 0 0,⟨ZP XL,none,[(Wg,XL)],Jt,.read,1,0⟩,⟨ZI IG,none,[(Js,IG)],st2,.eff,2,1⟩,⟨ZI NU,none,[(Jt,NU)],VS,.eff,3,7⟩]) ZT))
def oS:D:=(Zf (Zp Xi FU<|Za (YG Xo 1) FV<|Za (ZP G5) EV<|Za (Tx Em .i64) EW<|Za (Zv 19 [G4,(k (.str [109,111,100,101])),En]) Cj<|Zb) (Zf (Zp Xi zn<|Za (YG Xo 6) Jr<|Za (ZP NQ) Kh<|Za (Xf NR) IP<|Za (Zv 19 [G6,(k (.str [115,105,122,101])),Q8]) IR<|Zb) (Zf (Zf (Za (YG Xo 5) IS<|Za (ZP NS) FP<|Za (Xf Kd) FQ<|Za (ZI (kI 0)) IT<|Zb) (Z2 2 (WL Bf))) oT)))
def oR:D:=(Zf (Zp Xi O6<|Zp Y1 O7<|Za (Zv 18 [Pr,(k (.str [108,105,110,107,110,97,109,101])),RP]) OJ<|Zb) (Zf (Zf (Za (YG Xo 2) OK<|Za (ZP Ot) O8<|Za (Tx Nh .i64) OM<|Za (Vx [(.str []),(nI .i64 0),(nI .i64 0)] [⟨0,1,(k (.str [117,105,100]))⟩,⟨1,1,QW⟩,⟨2,1,(kI 2097151)⟩]) ON<|Za (YG Xo 3) O9<|Za (ZP RQ) Na<|Za (Tx Nj .i64) OO<|Za (Vx [(.str []),(nI .i64 0),(nI .i64 0)] [⟨0,1,(k (.str [103,105,100]))⟩,⟨1,1,Q9⟩,⟨2,1,(kI 2097151)⟩]) Nr<|Za (YG Xo 4) Ns<|Za (ZP Nk) Nt<|Za (Vx [(.str []),(nI .i64 0),(nI .i64 0)] [⟨0,1,(k (.str [109,116,105,109,101]))⟩,⟨1,1,QX⟩,⟨2,1,(kI 8589934591)⟩]) Mq<|Za (Vx [(.str []),(nI .i64 0),(nI .i64 0),(.str []),(nI .i64 0),(nI .i64 0),(.str []),(nI .i64 0),(nI .i64 0)] [⟨0,3,Ni⟩,⟨3,3,O0⟩,⟨6,3,Nl⟩]) Me<|Za (ZI (kI 0)) Mr<|Zb) (Z2 0 (WL KJ))) oS))
def F9:D:=(Zf (Zp Xi SY<|Zp Xt S7<|Za (Zv 18 [SR,(k (.str [112,114,101,102,105,120])),Sa]) RB<|Zb) (Zf (Zp Xi RY<|Zp Wv RC<|Za (Zv 18 [Sn,(k (.str [110,97,109,101])),SG]) RZ<|Zb) (Zf (Za (YG Xo 7) R0<|Za (ZP S4) QY<|Zp So Xw<|Zb) (Zf (Zf (Zp Y1 Pj<|Za (Xu Re) Pk<|Za (Yk Qc (kI 100) U9 W1) Pm<|Zb) (ZH RO (Zf (Zp XE Pw<|Zp Y1 Px<|Za (N6 QV Tryz.prog [(k (.str [108,105,110,107,112,97,116,104])),Pq]) OI<|Zb) (Za (ZI (k (.str []))) Xw<|Zb)) Zb)) oR))))
def c15:CF:=⟨[(Va,none),(V0,none)],(Zf (Za (Jb Z6 34) st1<|Za (ZI (k .nilp)) st2<|Za (ZI (k .nils)) VS<|Zb) (Zf (Za (YG Xn 1) X4<|Za (UE Xr 8) We<|Za (VN 32 [(nI .i64 0),(nI .u32 0),(nI .u32 0),(nI .u32 0),(nI .i64 0),.nils,.nils,(.str [])]) YU<|Za (YB Xo XK 8) d0<|Zb) (Zf (Za (ZP (k (.ptr 0 0))) Wk<|Za (YG Xo 0) WJ<|Za (ZP X6) W0<|Za (ME WX (nI .u8 0) false X1 WC) VD<|Za (Zv 17 [Vd]) VG<|Zp W6 WN<|Zb) (Zf (Za (VN 48 [.nils]) Wg<|Zb) (Zf (Za (AB 30 [] [XL]) VH<|Zp W7 WD<|Zb) (Zf (Za (UE Xn 9) VU<|Za (Zv 32 [Vv]) V6<|Za (Zv 31 [VA]) V7<|Zp VB VI<|Za (Yy WG 0) Uj<|Za (Yy WG 1) Uq<|Za (Yy WG 2) UB<|Zp Vg Vi<|Zp W8 Ur<|Zp Uv Xe<|Zb) (Zf (Zf (Zp YH Tb<|Za (S6 Uw) Tk<|Zb) (ZH UU (Zp XE TA<|Za (UE Xn 9) T8<|Za (Zv 32 [U7]) Sf<|Za (N6 U6 Tryz.prog [(k (.str [112,97,116,104])),U8]) SX<|Zb) Zb)) F9)))))))⟩
def c30:CF:=⟨[],(Za (ZP Va) WN<|Zp Z6 Wg<|Zp Xn WD<|Za (Vx [(.str []),(.str [])] [⟨0,1,XL⟩,⟨1,1,XE⟩]) Vi<|Za (V5 73 2 1 [(.str []),(.str [])] [⟨0,2,Xt⟩]) Ur<|Za (WM Xi Wv 73 2 32) Xe<|Za (YB Va YH 1) d0<|Zb)⟩
def c17:CF:=⟨[(Va,none)],(Zf (Za (ZI (k .nilp)) st2<|Zb) (Zf (Za (Vx Sg []) YU<|Za (Jb Xo 54) WN<|Zp Xi VS<|Zb) (Zf (Zp V0 Wg<|Za (Zv 18 [XL,(k (.str [109,97,103,105,99])),(k (.str [117,115,116,97,114]))]) WD<|Zb) (Zf (Zp V0 Vi<|Za (Um Xt) Ur<|Za (YG Wv 0) Xe<|Za (V5 5 1 2 (List.replicate 2 [(nI .u8 0)]).flatten [⟨0,1,(k (nI .u8 48))⟩,⟨1,1,(k (nI .u8 48))⟩]) Xw<|Za (xQ Y1) XB<|Za (Zv 39 [YH,(k (.str [118,101,114,115,105,111,110])),Y2]) Xx<|Zb) (Zf (Zp V0 X5<|Za (Um Xl) X9<|Za (YG Xs 0) X4<|Zp Z6 We<|Za (V5 5 1 1 [(nI .u8 0)] [⟨0,1,XK⟩]) Wk<|Za (Zv 39 [Xr,(k (.str [116,121,112,101])),X1]) WJ<|Zb) (Zf (Zp V0 W0<|Zp WC st2<|Zb) ZT))))))⟩
def c18:CF:=⟨[],(Zf (Zp Z6 Xw<|Za (Um Y1) XB<|Za (YG Y2 0) Xx<|Zp Xn X5<|Za (Zv 40 [YS,Xl]) X9<|Zp Xs Xe<|Za (Yy YH 0) X4<|Za (Yy YH 1) We<|Zp Xr Wg<|Zp XK WD<|Zb) (Zf (Zp Va WJ<|Zp XL W0<|Za (Xf WC) VD<|Za (Zv 41 [X6,Vd]) VG<|Zp W6 Wk<|Za (Yy X1 0) VH<|Za (Yy X1 1) VI<|Zp W7 Vi<|Zp WG Ur<|Zb) (Zp Z6 VU<|Za (Um Vv) V6<|Za (YG VA 0) V7<|Zp Xn Uj<|Zp Xt Uq<|Za (Zv 39 [VB,Vg,W8]) UB<|Zb)))⟩
def c19:CF:=⟨[],(Zf (Zp Z6 Xw<|Za (Um Y1) XB<|Za (YG Y2 0) Xx<|Zp Xn X5<|Za (Zv 40 [YS,Xl]) X9<|Zp Xs Xe<|Za (Yy YH 0) X4<|Za (Yy YH 1) We<|Zp Xr Wg<|Zp XK WD<|Zb) (Zf (Zp Va WJ<|Zp XL W0<|Za (Xf WC) VD<|Za (Zv 42 [X6,Vd]) VG<|Zp W6 Wk<|Za (Yy X1 0) VH<|Za (Yy X1 1) VI<|Zp W7 Vi<|Zp WG Ur<|Zb) (Zp Z6 VU<|Za (Um Vv) V6<|Za (YG VA 0) V7<|Zp Xn Uj<|Zp Xt Uq<|Za (Zv 39 [VB,Vg,W8]) UB<|Zb)))⟩
def c20:CF:=⟨[],(Zf (Zp Z6 WN<|Za (Zv 43 [Xi]) Wg<|Za (Zv 42 [XL,(kI 7)]) WD<|Zp XE YU<|Za (Yy Xo 0) Vi<|Za (Yy Xo 1) Ur<|Zp Xt st2<|Zp Wv VS<|Zb) (Zf (Zp V0 Xe<|Za (Wf YH (kI 0) WX false) Xw<|Zb) (ZH Y1 (Zp Z6 XB<|Zp Va Xx<|Za (V5 5 1 1 [(nI .u8 0)] [⟨0,1,(k (nI .u8 32))⟩]) X5<|Za (WM YS Xl 5 1 1) X9<|Za (Zv 39 [Y2,(k (.str [99,104,107,115,117,109])),Xs]) X4<|Zb) Zb)))⟩
def Bk:D:=(Zf (Za (Yk XK (kI 512) XF Yt) Wk<|Zb) (Zf (ZH X1 Zb (WK 0)) (Zf (Z2 1 (Zf (Za (Fp Xr XK 512) WJ<|Zp X6 Wg<|Zb) (Zp Xo W0<|Zp XL VD<|Za (Tx Vd .i64) VG<|Za (Yz WC W6) VH<|Zp W7 YU<|Zb))) (Za (Yz XK (kI 1)) VI<|Zp WG We<|Zb))))
def c43:CF:=⟨[(Va,none)],(Zf (Za (ZI (kI 0)) st2<|Zb) (Zf (Zf (Zp Z6 WD<|Za (Wf XE (k .nilp) zT false) Vi<|Zb) (ZH Xt (Zf (Za (ZI (kI 0)) st2<|Zb) ZT) Zb)) (Zf (Zp Z6 Ur<|Za (Um Wv) Xe<|Za (UE YH 512) Xw<|Za (JZ 52 512 (nI .u8 0)) VS<|Za (YB V0 Y1 512) d0<|Zb) (Zf (Za (V5 5 1 1 [(nI .u8 0)] [⟨0,1,(k (nI .u8 32))⟩]) XB<|Za (xQ Y2) Xx<|Za (Zv 68 [YS,(kI 8)]) X5<|Za (Zv 39 [V0,(k (.str [99,104,107,115,117,109])),Xl]) X9<|Zb) (Zf (Za (ZI (kI 0)) YU<|Zb) (Zf (Zf (Za (UE V0 512) X4<|Za (ZI (kI 0)) We<|Zb) (Z2 0 (WL Bk))) (Zf (Zp Xo VU<|Zp Vv st2<|Zb) ZT)))))))⟩
def c39:CF:=⟨[(XL,none)],(Zf (Za (ZI (kI 0)) Wg<|Zb) (Zf (Zp Z6 Vi<|Zp Xn Ur<|Za (Zv 63 [Xt,Wv]) Xe<|Zp YH WD<|Zb) (Zf (Zf (Zp XE Xw<|Za (Wf Y1 (k .nils) kV false) XB<|Zp Y2 Xx<|ZF YS false (ZI Va) X5<|ZF YS false (Xf Xl) X9<|ZF YS false (ZI XE) X4<|ZF YS false (Xf Xr) We<|ZF YS false (Wf Xs XK WX true) Wk<|Za (Yo YS (kB true) X1) WJ<|Zb) (ZH X6 (Zf (Za (ZI (kI 1)) Wg<|Zb) ZT) Zb)) (Zf (Zp XE W0<|Zp Va VD<|Za (Az WC Vd 1) VG<|Zb) (Zf (Za (ZI (kI 0)) Wg<|Zb) ZT)))))⟩
def c40:CF:=⟨[(Xo,none),(Xi,none)],(Zf (Za (ZI (k .nils)) YU<|Za (ZI (kB false)) WN<|Zb) (Zf (Zp Z6 WD<|Zp Xn Vi<|Za (Zv 63 [XE,Xt]) Ur<|Zp Wv Wg<|Zb) (Zf (Zp XL Xe<|Za (Zv 64 [YH]) Xw<|Zp XL XB<|Za (Wf Y2 (k .nils) kV true) Xx<|Zp Y1 YU<|Zp YS WN<|Zb) ZT)))⟩
def c63:CF:=⟨[(Xo,none)],(Zf (Za (ZI (k .nils)) YU<|Zb) (Zf (Za (ZP (k (.ptr 3 0))) Vi<|Zp Xn Ur<|Za (ME QJ (.agg [(nI .i64 0),(nI .i64 0)]) true Xt Wv) Xe<|Zp YH WD<|Za (Yy XE 0) Xw<|Za (Yy XE 1) XB<|Za (VN 133 [(nI .i64 0),(nI .i64 0)]) WN<|Za (YB Xi Y1 2) d0<|Zp Y2 Wg<|Zb) (Zf (Zf (Zp Z6 Xx<|Za (Wf YS (k .nilp) zT false) X5<|Zp Xl X9<|ZF Xs false (ZI XL) X4<|ZF Xs false (S6 Xr) We<|Za (Yo Xs (kB true) XK) Wk<|Zb) (ZH X1 (Zf (Za (ZI (k .nils)) YU<|Zb) ZT) Zb)) (Zf (W5 [YT (ZI Z6) [(st0,Z6)] WJ 0 0,YT (Um X6) [(WJ,X6)] W0 1 1,YT (N7 Xi (kI 0) 2 1) [(WN,Xi)] VD 2 0,⟨ZP Vd,none,[(VD,Vd)],VG,.read,3,4⟩,YT (N7 Xi (kI 0) 2 1) [(WN,Xi)] VH 4 0,⟨ZP W7,none,[(VH,W7)],VI,.read,5,16⟩,YT (N7 Xi (kI 1) 2 1) [(WN,Xi)] VU 6 0,⟨ZP Vv,none,[(VU,Vv)],V6,.read,7,64⟩,YT (Yz WG VA) [(VI,WG),(V6,VA)] V7 8 240,YT (QE 512 1 WC (some W6) (some VB) none) [(W0,WC),(VG,W6),(V7,VB)] Uj 9 511,⟨ZI Vg,none,[(Uj,Vg)],YU,.eff,10,1023⟩]) ZT))))⟩
def c41:CF:=⟨[(Xo,none),(Xi,none)],(Zf (Za (ZI (k .nils)) YU<|Za (ZI (kI 0)) WN<|Zb) (Zf (Z2 0 (Zf (Zp Xn WD<|Za (Yk XE (kI 1) XF Yt) Vi<|Zp Xt Ur<|ZF Wv false (ZI Xn) Xe<|ZF Wv false (Yk YH (kI 512) U9 W1) Xw<|Za (Yo Wv (kB true) Y1) XB<|Zp Y2 Xx<|ZF YS false (ZI Z6) X5<|ZF YS false (Zv 65 [Xl,(k (.str [0]))]) X9<|Za (Yo YS (kB true) Xs) X4<|Zp Xr Wg<|Zb) (ZH XL (Zf (Za (ZI (k .nils)) YU<|Za (ZI (kI 1)) WN<|Zb) ZT) (Zf (Zp Z6 Wk<|Za (Xu X1) WJ<|Zp Xn W0<|Za (Yk X6 WC U9 W1) VD<|Zp Vd We<|Zb) (ZH XK (Zf (Za (ZI (k .nils)) YU<|Za (ZI (kI 3)) WN<|Zb) ZT) Zb))))) (Zf (Zp Z6 VG<|Za (Ax W6 5) VH<|Zp Xn VI<|Zp Z6 VU<|Za (Xu Vv) V6<|Za (Vs WG VA) V7<|Za (Oy W7 VB 5 1 1 [(nI .u8 0)]) Uj<|Zp Vg YU<|Za (ZI (kI 0)) WN<|Zb) ZT)))⟩
def c42:CF:=⟨[(Xo,none),(Xi,none)],(Zf (Za (ZI (k .nils)) YU<|Za (ZI (kI 0)) WN<|Zb) (Zf (Zf (Zp Xn WD<|Za (Zv 66 [XE]) Vi<|Za (S6 Xt) Ur<|Zb) (ZH Wv (Zf (Za (ZI (k .nils)) YU<|Za (ZI (kI 1)) WN<|Zb) ZT) Zb)) (Zf (Zp Z6 Xe<|Za (Zv 59 [YH,(kI 8)]) Xw<|Zp Y1 Wg<|Zb) (Zf (Zf (Zp Z6 XB<|Za (Yk Y2 (kI 0) XF Yt) Xx<|Zp YS X5<|ZF Xl false (ZI XL) X9<|ZF Xl false (Xu Xs) X4<|ZF Xl false (ZI Xn) We<|ZF Xl false (Vs XK (kI 1)) Wk<|ZF Xl false (Yk Xr X1 U9 W1) WJ<|Za (Yo Xl (kB true) X6) W0<|Zb) (ZH WC (Zf (Za (ZI (k .nils)) YU<|Za (ZI (kI 3)) WN<|Zb) ZT) Zb)) (Zf (Zp Xn VD<|Za (Vs Vd (kI 1)) VG<|Zp XL VH<|Za (Xu W7) VI<|Za (Vs W6 WG) VU<|Za (Zv 67 [(k (.str [48])),Vv]) V6<|Zp XL V7<|Za (Yz VA VB) Uj<|Za (Yz Vg (k (.str [0]))) Uq<|Za (Ax W8 5) UB<|Zp Uv YU<|Za (ZI (kI 0)) WN<|Zb) ZT)))))⟩
def c66:CF:=⟨[(Va,none)],(Zf (Za (ZI (kB false)) st2<|Zb) (Zf (Zp Z6 VS<|Za (Yk V0 (kI 2) UQ Wd) YU<|Zp Xo WN<|ZF Xi true (ZI Z6) Wg<|ZF Xi true (Yk XL (kI 20) Ro U5) WD<|Za (Yo Xi XE (kB false)) Vi<|Zp Xt st2<|Zb) ZT))⟩
def c65:CF:=⟨[(Xo,none)],(Zf (Za (ZI (kB false)) YU<|Zb) (Zf (Zp Z6 WN<|Zp Xn Wg<|Za (Zv 93 [Xi,XL]) WD<|Za (Yk XE (kI 0) UQ Wd) Vi<|Zp Xt YU<|Zb) ZT))⟩
def bi:D:=(Zf (Zf (Zp YH Nr<|Zp XE Ns<|Za (Yk O0 Nk XF Yt) Nt<|Zb) (ZH QX Zb (WK 0))) (Z2 1 (Zf (Zp YH Mq<|Zp Xt Me<|Za (SJ false [Nl,Ps]) Mr<|Zp RR Xw<|Zb) (W5 [YT (ZI YH) [(Xe,YH)] MQ 0 0,YT (ZI Wv) [(Ur,Wv)] LY 1 0,YT (ZI YH) [(Xe,YH)] Kr 2 0,⟨Tt 1 NW (some K0) none none,none,[(LY,NW),(Kr,K0)],Ks,.read,3,6⟩,YT (ZI Wv) [(Ur,Wv)] Kt 4 0,YT (ZI Y1) [(Xw,Y1)] LZ 5 0,⟨Tt 1 Kk none (some PR) none,none,[(Kt,Kk),(LZ,PR)],Ku,.read,6,48⟩,⟨Az LD Kl 1,none,[(Ks,LD),(Ku,Kl)],Kv,.eff,7,126⟩,YT (Yz NV M4) [(MQ,NV),(Kv,M4)] Ju 8 255,⟨ZI K1,none,[(Ju,K1)],Xe,.eff,9,511⟩]))))
def c68:CF:=⟨[(Xo,none)],(Zf (Za (ZI (k .nils)) YU<|Zb) (Zf (Zf (Zp Xn XB<|Za (Wf Y2 (kI 0) WX false) Xx<|Zb) (ZH YS (Zf (Za (V5 5 1 0 (List.replicate 0 [(nI .u8 0)]).flatten []) X5<|Zp Xl YU<|Zb) ZT) Zb)) (Zf (Zf (Zp Xn X9<|Za (Yk Xs (kI 0) XF Yt) X4<|Zb) (ZH Xr (Za (VF (k (.str Zp4)) 9) We<|Za (QD XK) d0<|Zb) Zb)) (Zf (Zp Z6 WJ<|Za (Xf X6) W0<|Za (Tx WC .u64) VD<|Zp Xn VG<|Za (Tx W6 .u64) VH<|Za (Zv 94 [Vd,W7]) VI<|Zp WG Wk<|Za (Yy X1 0) VU<|Za (Yy X1 1) V6<|Zp Vv WN<|Zp VA Wg<|Zb) (Zf (Zf (Zp Xi V7<|Za (Yk VB (k (nI .u64 0)) U9 W1) Uj<|Zp Vg Uq<|ZF W8 false (ZI XL) UB<|ZF W8 false (Yk Uv (k (nI .u64 9223372036854775807)) U9 W1) Tb<|Za (Yo W8 (kB true) Uw) Tk<|Zb) (ZH UU (Za (VF (k (.str ZlC)) 9) TA<|Za (QD U6) d0<|Zb) Zb)) (Zf (Zp XL T8<|Za (Tx U7 .i64) Sf<|Zp U8 WD<|Zb) (Zf (Zf (Zp Z6 SX<|Za (Xf Rc) SY<|Za (Wf SR (kI 0) WX false) S7<|Zb) (ZH Sa (Zf (Za (V5 5 1 0 (List.replicate 0 [(nI .u8 0)]).flatten []) RB<|Zp Sb YU<|Zb) ZT) Zb)) (Zf (Zp XE RY<|Zp Sn Vi<|Zb) (Zf (Zf (Zp Xt RC<|Za (Yk SG (kI 8192) U9 W1) RZ<|Zb) (ZH Sc (Zf (Zp Z6 R0<|Za (Xf S4) QY<|Za (HU (kI 8192) So) Pj<|Zp Z6 Pk<|Za (Xf Qc) Pm<|Za (OC Re RO) Pw<|Zp QV Vi<|Zb) (Zf (Zp Xt Px<|Za (Wf Pq (kI 0) WX false) OI<|Zb) (ZH OY (Zp Z6 O6<|Za (Xf Pr) O7<|Zp RP Vi<|Zb) Zb))) Zb)) (Zf (Zp XE OJ<|Za (Zv 99 [OZ]) OK<|Zp XE O8<|Zp XE OM<|Za (Tt 1 Ot none (some Nh) (some QW)) ON<|Zp Ni Ur<|Zb) (Zf (Zp Wv O9<|Zp Z6 Na<|Za (Az RQ Nj 1) OO<|Zp Q9 Xe<|Zb) (Zf (Z2 0 (WL bi)) (Zf (Zp Wv In<|Zp Ii YU<|Zb) ZT)))))))))))))⟩
def c59:CF:=⟨[(Xo,none)],(Zf (Za (ZI (k (.str []))) YU<|Zb) (Zf (Zp Z6 WN<|Zp Xn Wg<|Za (Zv 90 [Xi,XL]) WD<|Zp XE YU<|Zb) ZT))⟩
def c90:CF:=⟨[(Xo,none)],(Zf (Za (ZI (k (.str []))) YU<|Zb) (Zf (Zf (Zp Xn Xe<|Za (Wf YH (kI 10) WX false) Xw<|Zb) (ZH Y1 (Zf (Zf (Zp Z6 XB<|Za (Yk (kI 0) Y2 Ro U5) Xx<|Zp YS X5<|ZF Xl true (ZI Z6) X9<|ZF Xl true (Yk Xs (kI 100) XF Yt) X4<|Za (Yo Xl Xr (kB false)) We<|Zb) (ZH XK (Zf (Zp Z6 Wk<|Za (Zv 120 [X1]) WJ<|Zp X6 YU<|Zb) ZT) Zb)) (Zf (Za (JZ 174 24 (nI .u8 0)) WN<|Zb) (Zf (Zp Z6 W0<|Za (Tx WC .u64) VD<|Zp Vd Wg<|Zb) (Zf (Zf (Zp Z6 VG<|Za (Yk W6 (kI 0) XF Yt) VH<|Zb) (ZH W7 (Zp XL VI<|Za (ux WG) VU<|Zp Vv Wg<|Zb) Zb)) (Zf (Zp XL V6<|Za (Zv 121 [VA]) V7<|Zp VB WD<|Zb) (Zf (Zp XE Uj<|Za (Yz (kI 1) Vg) Uq<|Za (QE 24 1 Xi (some (kI 1)) (some W8) none) UB<|Zp XL Tb<|Za (Zv 122 [Uv,Uw]) Tk<|Zb) (Zf (Zf (Zp Z6 TA<|Za (Yk U6 (kI 0) XF Yt) T8<|Zb) (ZH U7 (Zf (Za (N7 Xi (kI 0) 24 1) Sf<|Za (YB U8 (k (nI .u8 45)) 1) d0<|Zb) (Zf (Zp XE SX<|Za (Yz (kI 1) Rc) SY<|Za (QE 24 1 Xi none (some SR) none) S7<|Za (Cg Sa) RB<|Zp Sb YU<|Zb) ZT)) Zb)) (Zf (Zp XE RY<|Za (Yz (kI 1) Sn) RC<|Za (QE 24 1 Xi (some (kI 1)) (some SG) none) RZ<|Za (Cg Sc) R0<|Zp S4 YU<|Zb) ZT)))))))) Zb)) (Zf (Zp Z6 Pj<|Za (Tx Re .u64) Pk<|Zp Xn Pm<|Zp Z6 Pw<|Za (Yk QV (kI 0) XF Yt) Px<|Za (Zv 123 [(k .nils),Qc,RO,Pq,(kB false)]) OI<|Zp OY QY<|Za (Yy So 0) O6<|Za (Yy So 1) O7<|Zp Pr Vi<|Zp RP Ur<|Zb) (Zf (Zp Wv OJ<|Zp OZ YU<|Zb) ZT))))⟩
def GC:D:=(Zf (Zf (Zp Xn QY<|Zp Xs Pj<|Za (Yk So Re UQ Wd) Pk<|Zb) (ZH Qc Zb (WK 0))) (Z2 1 (Zf (Zp YS Pm<|Za (Vs RO (kI 1)) Pw<|Zp QV Xx<|Zb) (Zf (Zp YS Px<|Zp Xn OI<|Zp Xr O6<|Za (N5 OY Pr SU) O7<|Za (Xj (k (.str IJ)) RP) OJ<|Za (N7 Y2 Pq 65 1) OK<|Za (YB Ot OZ 1) d0<|Zb) (Zp Xn O8<|Zp Xl OM<|Za (HV Nh QW) ON<|Zp Ni st1<|Zb)))))
def Zc6:D:=(Zf (Zf (Zp Xn Mr<|Zp XK MQ<|Za (Yk RR NV UQ Wd) LY<|Zb) (ZH NW Zb (WK 2))) (Z2 3 (Zf (Zp YS Kr<|Za (Vs K0 (kI 1)) Ks<|Zp LD Xx<|Zb) (Zf (Zp Xn Kt<|Zp XK LZ<|Za (HU Kk PR) Ku<|Zp Kl Wk<|Zb) (Zf (Zp YS Kv<|Zp Xn Ju<|Zp X1 In<|Zp XK Gf<|Za (OC Ii Ht) Gg<|Za (Vs K1 LF) Io<|Za (Xj (k (.str IJ)) LG) Ip<|Za (N7 Y2 M4 65 1) Iq<|Za (YB Ij Km 1) d0<|Zb) (Zp X1 Jv<|Zp K2 st1<|Zb))))))
def Zhd:CF:=⟨[(YH,none),(Y1,none)],(Zf (Za (ZI (k .nils)) Xe<|Za (ZI (k (.str []))) Xw<|Zb) (Zf (Zf (Zp Va WJ<|Za (Yk X6 (kI 2) XF Yt) W0<|Zp WC VD<|ZF Vd false (ZI Va) VG<|ZF Vd false (Wf W6 (kI 10) WX false) VH<|Za (Yo Vd (kB true) W7) VI<|Zp WG VU<|ZF Vv false (ZI Va) V6<|ZF Vv false (Yk VA (kI 36) U9 W1) V7<|Za (Yo Vv (kB true) VB) Uj<|Zb) (ZH Vg (Za (VF (k (.str ZlE)) 9) Uq<|Za (QD W8) d0<|Zb) Zb)) (Zf (Za (JZ 203 65 (nI .u8 0)) XB<|Zb) (Zf (Za (ZI (kI 65)) Xx<|Zb) (Zf (Zf (Zp V0 UB<|Zb) (ZH Uv (Zp Xn Tb<|Za (ux Uw) Tk<|Zp UU st1<|Zb) Zb)) (Zf (Zf (Zp Va TA<|Za (Zv 152 [U6]) T8<|Zb) (ZH U7 (Zf (Zp Va Sf<|Za (Tx U8 .u64) SX<|Za (Zv 153 [Rc]) SY<|Za (Tx SR .u64) S7<|Zp Sa X5<|Zb) (Zf (Zp Va RB<|Za (Tx Sb .u64) RY<|Zp Sn X9<|Zb) (Zf (Zp Va RC<|Za (Tx SG .u64) RZ<|Za (Vs Sc (k (nI .u64 1))) R0<|Zp S4 X4<|Zb) (Zf (Z2 0 (WL GC)) (Zf (Zp YS O9<|Za (Vs RQ (kI 1)) Na<|Zp Nj Xx<|Zb) (Zp YS OO<|Zp Xn Nr<|Za (Xj (k (.str IJ)) O0) Ns<|Za (N7 Y2 Q9 65 1) Nt<|Za (YB QX Nk 1) d0<|Zb)))))) (Zf (Zp Va Mq<|Za (Tx Nl .u64) Me<|Zp Ps We<|Zb) (Zf (Z2 2 (WL Zc6)) (Zf (Zp YS Jw<|Za (Vs K3 (kI 1)) L0<|Zp Ql Xx<|Zb) (Zp YS Jx<|Zp Xn Jy<|Za (Xj (k (.str IJ)) Ik) Kw<|Za (N7 Y2 Mo 65 1) Kx<|Za (YB M5 Kn 1) d0<|Zb)))))) (Zf (Zf (Zp V0 Ky<|Zb) (ZH Ko (Zf (Zp YS Jz<|Za (Vs LH (kI 1)) JA<|Zp K4 Xx<|Zb) (Zp YS Ir<|Za (N7 Y2 LI 65 1) Gh<|Za (YB Hu (k (nI .u8 45)) 1) d0<|Zb)) Zb)) (Zf (Zf (Zp Xo FU<|Zb) (ZH G4 (Zf (Zp Z6 FV<|Zp YS EV<|Za (QE 65 1 Y2 (some Em) none none) EW<|Za (WM G5 En 5 1 1) Cj<|Zp Eo Xe<|Zb) ZT) Zb)) (Zf (Zp YS zn<|Za (QE 65 1 Y2 (some G6) none none) Jr<|Za (Cg NQ) Kh<|Zp NR Xw<|Zb) ZT)))))))))⟩
def Zho:CF:=⟨[(Va,none)],(Zf (Za (ZI (kB false)) st2<|Zb) (Zf (Zp Z6 VS<|Zp Z6 YU<|Za (Vs Xo (kI 1)) WN<|Za (N5 V0 Xi SU) Wg<|Za (Wf XL (kI 0) WX false) WD<|Zp XE st2<|Zb) ZT))⟩
def Zhp:CF:=⟨[(Va,none)],(Zf (Za (ZI (kI 0)) st2<|Zb) (Zf (ZH (kB false) (Zf (Zp Z6 VS<|Za (Tx V0 .u32) YU<|Za (Zv 170 [Xo]) WN<|Zp Xi st2<|Zb) ZT) Zb) (Zf (Zp Z6 Wg<|Za (Zv 171 [XL]) WD<|Zp XE st2<|Zb) ZT)))⟩
def Zht:CF:=⟨[(Va,none)],(Zf (Za (ZI (kI 0)) st2<|Zb) (Zf (Zf (Zp Z6 VS<|Za (Wf V0 (k (nI .u64 0)) WX false) YU<|Zb) (ZH Xo (Zf (Za (ZI (kI 64)) st2<|Zb) ZT) Zb)) (Zf (Zp Z6 WN<|Zp Z6 Wg<|Za (ux XL) WD<|Za (N5 Xi XE SU) Vi<|Za (OC Xt (k (nI .u64 285870213051353865))) Ur<|Za (HV Wv (k (nI .u64 58))) Xe<|Za (N7 (k (.ptr 7 0)) YH 64 1) Xw<|Za (ZP Y1) XB<|Za (Tx Y2 .i64) Xx<|Zp YS st2<|Zb) ZT)))⟩
def Zc5:CF:=⟨[(Va,none)],(Zf (Za (ZI (k (.str []))) st2<|Zb) (Zf (Zf (Zp Z6 VS<|Za (Yk V0 (kI 10) XF Yt) YU<|Zb) (ZH Xo (Zf (Zp Z6 WN<|Zp Z6 Wg<|Za (Yz XL (kI 1)) WD<|Za (Wy (k (.str IJ)) (some Xi) (some XE) none) Vi<|Zp Xt st2<|Zb) ZT) Zb)) (Zf (Zp Z6 Ur<|Za (OC Wv (kI 2)) Xe<|Zp Z6 Xw<|Za (OC Y1 (kI 2)) XB<|Za (Yz Y2 (kI 2)) Xx<|Za (Wy (k (.str Rr)) (some YH) (some YS) none) X5<|Zp Xl st2<|Zb) ZT)))⟩
def Zhb:CF:=⟨[(Va,none)],(Zf (Za (ZI (kI 0)) st2<|Zb) (Zf (Zp Z6 YU<|Za (Zv 150 [Xo]) WN<|Za (Zv 149 [Xi]) Wg<|Zp XL VS<|Zb) (Zf (Zp V0 WD<|Zp Z6 Vi<|Zp V0 Ur<|Za (N7 (k (.ptr 5 0)) Wv 20 1) Xe<|Za (ZP YH) Xw<|Za (Yk Xt Y1 UQ Wd) XB<|Za (Zv 151 [Y2]) Xx<|Za (Yz XE YS) X5<|Zp Xl st2<|Zb) ZT)))⟩
def Lr:D:=(Zf (Zf (Zp Xo WJ<|Za (Yk X6 (kI 8) UQ Wd) W0<|Zb) (ZH WC Zb (WK 0))) (Z2 1 (Zf (Zp Xn VD<|Za (Cf Vd (k (nI .u64 100000000))) VG<|Za (Tx W6 .u32) VH<|Zp W7 WN<|Zb) (Zf (Zp Xn VI<|Za (HU WG (k (nI .u64 100000000))) VU<|Zp Vv st1<|Zb) (Zf (Zp Xi V6<|Za (HU VA (k (nI .u32 10000))) V7<|Zp Xi Uj<|Za (Cf Vg (k (nI .u32 10000))) Uq<|Zp VB Wg<|Zp W8 WD<|Zb) (Zf (Zp XE UB<|Za (HU Uv (k (nI .u32 100))) Tb<|Za (OC Uw (k (nI .u32 2))) Tk<|Zp XE TA<|Za (Cf U6 (k (nI .u32 100))) T8<|Za (OC U7 (k (nI .u32 2))) Sf<|Zp UU Vi<|Zp U8 Ur<|Zb) (Zf (Zp XL SX<|Za (HU Rc (k (nI .u32 100))) SY<|Za (OC SR (k (nI .u32 2))) S7<|Zp XL RB<|Za (Cf Sb (k (nI .u32 100))) RY<|Za (OC Sn (k (nI .u32 2))) RC<|Zp Sa Xe<|Zp SG Xw<|Zb) (Zf (W5 [YT (ZI Z6) [(st0,Z6)] RZ 0 0,YT (ZI Xo) [(YU,Xo)] R0 1 0,YT (Vs S4 (kI 1)) [(R0,S4)] QY 2 2,YT (ZI Z6) [(st0,Z6)] Pj 3 0,YT (ZI Xo) [(YU,Xo)] Pk 4 0,YT (Vs Qc (kI 2)) [(Pk,Qc)] Pm 5 16,YT (ZI Wv) [(Ur,Wv)] Pw 6 0,YT (Yz QV (k (nI .u32 1))) [(Pw,QV)] Px 7 64,YT (Xj (k (.str Rr)) Pq) [(Px,Pq)] OI 8 192,YT (ZI Wv) [(Ur,Wv)] O6 9 0,YT (Xj (k (.str Rr)) Pr) [(O6,Pr)] O7 10 512,YT (Wn Sc So 1) [(RZ,Sc),(QY,So)] OJ 11 455,⟨YB OZ OY 1,none,[(OJ,OZ),(OI,OY)],d0,.eff,12,2503⟩,YT (Wn Re RO 1) [(Pj,Re),(Pm,RO)] OK 13 8191,⟨YB Ot RP 1,none,[(OK,Ot),(O7,RP)],d0,.eff,14,16383⟩]) (Zf (W5 [YT (ZI Z6) [(st0,Z6)] O8 0 0,YT (ZI Xo) [(YU,Xo)] OM 1 0,YT (Vs QW (kI 3)) [(OM,QW)] ON 2 2,YT (ZI Z6) [(st0,Z6)] O9 3 0,YT (ZI Xo) [(YU,Xo)] Na 4 0,YT (Vs Nj (kI 4)) [(Na,Nj)] OO 5 16,YT (ZI Xt) [(Vi,Xt)] Nr 6 0,YT (Yz O0 (k (nI .u32 1))) [(Nr,O0)] Ns 7 64,YT (Xj (k (.str Rr)) Nk) [(Ns,Nk)] Nt 8 192,YT (ZI Xt) [(Vi,Xt)] Mq 9 0,YT (Xj (k (.str Rr)) Nl) [(Mq,Nl)] Me 10 512,YT (Wn Nh Ni 1) [(O8,Nh),(ON,Ni)] Mr 11 455,⟨YB RR QX 1,none,[(Mr,RR),(Nt,QX)],d0,.eff,12,2503⟩,YT (Wn RQ Q9 1) [(O9,RQ),(OO,Q9)] MQ 13 8191,⟨YB NV Ps 1,none,[(MQ,NV),(Me,Ps)],d0,.eff,14,16383⟩]) (Zf (W5 [YT (ZI Z6) [(st0,Z6)] LY 0 0,YT (ZI Xo) [(YU,Xo)] Kr 1 0,YT (Vs K0 (kI 5)) [(Kr,K0)] Ks 2 2,YT (ZI Z6) [(st0,Z6)] Kt 3 0,YT (ZI Xo) [(YU,Xo)] LZ 4 0,YT (Vs PR (kI 6)) [(LZ,PR)] Ku 5 16,YT (ZI Y1) [(Xw,Y1)] Kv 6 0,YT (Yz M4 (k (nI .u32 1))) [(Kv,M4)] Ju 7 64,YT (Xj (k (.str Rr)) K1) [(Ju,K1)] In 8 192,YT (ZI Y1) [(Xw,Y1)] Gf 9 0,YT (Xj (k (.str Rr)) Ht) [(Gf,Ht)] Gg 10 512,YT (Wn NW LD 1) [(LY,NW),(Ks,LD)] Io 11 455,⟨YB LG Ii 1,none,[(Io,LG),(In,Ii)],d0,.eff,12,2503⟩,YT (Wn Kk Kl 1) [(Kt,Kk),(Ku,Kl)] Ip 13 8191,⟨YB Km LF 1,none,[(Ip,Km),(Gg,LF)],d0,.eff,14,16383⟩]) (Zf (W5 [YT (ZI Z6) [(st0,Z6)] Iq 0 0,YT (ZI Xo) [(YU,Xo)] Jv 1 0,YT (Vs K2 (kI 7)) [(Jv,K2)] Jw 2 2,YT (ZI Z6) [(st0,Z6)] L0 3 0,YT (ZI Xo) [(YU,Xo)] Jx 4 0,YT (Vs Mo (kI 8)) [(Jx,Mo)] Jy 5 16,YT (ZI YH) [(Xe,YH)] Kw 6 0,YT (Yz Kn (k (nI .u32 1))) [(Kw,Kn)] Kx 7 64,YT (Xj (k (.str Rr)) M5) [(Kx,M5)] Ky 8 192,YT (ZI YH) [(Xe,YH)] Jz 9 0,YT (Xj (k (.str Rr)) LH) [(Jz,LH)] JA 10 512,YT (Wn Ij K3 1) [(Iq,Ij),(Jw,K3)] Ir 11 455,⟨YB LI Ko 1,none,[(Ir,LI),(Ky,Ko)],d0,.eff,12,2503⟩,YT (Wn Ql Ik 1) [(L0,Ql),(Jy,Ik)] Gh 13 8191,⟨YB Hu K4 1,none,[(Gh,Hu),(JA,K4)],d0,.eff,14,16383⟩]) (Zp Xo FU<|Za (Vs G4 (kI 8)) FV<|Zp G5 YU<|Zb))))))))))))
def Zhc:CF:=⟨[],(Zf (Zp Z6 We<|Za (Xf XK) Wk<|Zp X1 YU<|Zb) (Zf (Z2 0 (WL Lr)) (Zf (Zp Xn EV<|Za (Tx Em .u32) EW<|Zp En XB<|Zb) (Zf (Zf (Zp Xo Cj<|Za (Yk Eo (kI 4) UQ Wd) zn<|Zb) (ZH G6 (Zf (Zp Y2 Jr<|Za (Cf NQ (k (nI .u32 10000))) Kh<|Zp NR Xx<|Zb) (Zf (Zp Y2 IP<|Za (HU Q8 (k (nI .u32 10000))) IR<|Zp GY XB<|Zb) (Zf (Zp YS IS<|Za (HU NS (k (nI .u32 100))) FP<|Za (OC Kd (k (nI .u32 2))) FQ<|Zp YS IT<|Za (Cf M1 (k (nI .u32 100))) FR<|Za (OC Do (k (nI .u32 2))) FT<|Zp KX X5<|Zp Mx X9<|Zb) (Zf (W5 [YT (ZI Z6) [(st0,Z6)] IU 0 0,YT (ZI Xo) [(YU,Xo)] IV 1 0,YT (Vs My (kI 1)) [(IV,My)] IW 2 2,YT (ZI Z6) [(st0,Z6)] IX 3 0,YT (ZI Xo) [(YU,Xo)] IY 4 0,YT (Vs M2 (kI 2)) [(IY,M2)] IZ 5 16,YT (ZI Xs) [(X9,Xs)] I0 6 0,YT (Yz IC (k (nI .u32 1))) [(I0,IC)] I1 7 64,YT (Xj (k (.str Rr)) G0) [(I1,G0)] I2 8 192,YT (ZI Xs) [(X9,Xs)] I3 9 0,YT (Xj (k (.str Rr)) IE) [(I3,IE)] I4 10 512,YT (Wn GZ IA 1) [(IU,GZ),(IW,IA)] I5 11 455,⟨YB NT ID 1,none,[(I5,NT),(I2,ID)],d0,.eff,12,2503⟩,YT (Wn IB Nd 1) [(IX,IB),(IZ,Nd)] I6 13 8191,⟨YB G1 IF 1,none,[(I6,G1),(I4,IF)],d0,.eff,14,16383⟩]) (Zf (W5 [YT (ZI Z6) [(st0,Z6)] Js 0 0,YT (ZI Xo) [(YU,Xo)] Jt 1 0,YT (Vs NU (kI 3)) [(Jt,NU)] DQ 2 2,YT (ZI Z6) [(st0,Z6)] DT 3 0,YT (ZI Xo) [(YU,Xo)] DU 4 0,YT (Vs Dp (kI 4)) [(DU,Dp)] DV 5 16,YT (ZI Xl) [(X5,Xl)] DW 6 0,YT (Yz Dq (k (nI .u32 1))) [(DW,Dq)] DX 7 64,YT (Xj (k (.str Rr)) M3) [(DX,M3)] DY 8 192,YT (ZI Xl) [(X5,Xl)] DZ 9 0,YT (Xj (k (.str Rr)) Mz) [(DZ,Mz)] D1 10 512,YT (Wn IG KY 1) [(Js,IG),(DQ,KY)] D2 11 455,⟨YB Dt Dr 1,none,[(D2,Dt),(DY,Dr)],d0,.eff,12,2503⟩,YT (Wn G2 KZ 1) [(DT,G2),(DV,KZ)] D3 13 8191,⟨YB G3 Ds 1,none,[(D3,G3),(D1,Ds)],d0,.eff,14,16383⟩]) (Zp Xo za<|Za (Vs BM (kI 4)) zb<|Zp BN YU<|Zb)))))) Zb)) (Zf (Zf (Zp Xo wP<|Za (Yk yX (kI 2) UQ Wd) wR<|Zb) (ZH yY (Zf (Zp Y2 wS<|Za (Cf yZ (k (nI .u32 100))) wT<|Za (OC y4 (k (nI .u32 2))) wU<|Zp y5 X4<|Zb) (Zf (Zp Y2 pW<|Za (HU sX (k (nI .u32 100))) pX<|Zp sY XB<|Zb) (Zf (W5 [YT (ZI Z6) [(st0,Z6)] wV 0 0,YT (ZI Xo) [(YU,Xo)] zd 1 0,YT (Vs BO (kI 1)) [(zd,BO)] ze 2 2,YT (ZI Z6) [(st0,Z6)] zf 3 0,YT (ZI Xo) [(YU,Xo)] zg 4 0,YT (Vs BR (kI 2)) [(zg,BR)] zh 5 16,YT (ZI Xr) [(X4,Xr)] zi 6 0,YT (Yz BU (k (nI .u32 1))) [(zi,BU)] zj 7 64,YT (Xj (k (.str Rr)) BW) [(zj,BW)] zk 8 192,YT (ZI Xr) [(X4,Xr)] zl 9 0,YT (Xj (k (.str Rr)) BY) [(zl,BY)] zm 10 512,YT (Wn y6 BP 1) [(wV,y6),(ze,BP)] wW 11 455,⟨YB y7 BX 1,none,[(wW,y7),(zk,BX)],d0,.eff,12,2503⟩,YT (Wn BQ BT 1) [(zf,BQ),(zh,BT)] wX 13 8191,⟨YB y8 IH 1,none,[(wX,y8),(zm,IH)],d0,.eff,14,16383⟩]) (Zp Xo iz<|Za (Vs jk (kI 2)) iA<|Zp jl YU<|Zb)))) Zb)) (Zf (Zp Xo iB<|Za (Yk jm (kI 0) U9 W1) iC<|Zb) (ZH jn (Zp Z6 iD<|Zp Y2 iE<|Za (Yz (k (nI .u32 48)) y9) iF<|Za (Tx jp .u8) iG<|Za (Wn jo (kI 0) 1) iH<|Za (YB jq BZ 1) d0<|Zb) Zb)))))))⟩
def zO:CF:=⟨[(Va,none)],(Zf (Za (ZI (kI 0)) st2<|Zb) (Zf (Zf (Zp Z6 VS<|Za (Yk V0 (k (nI .u64 4294967296)) UQ Wd) YU<|Zb) (ZH Xo (Zf (Zp Z6 WN<|Za (HV Xi (k (nI .u64 32))) Wg<|Zp XL st0<|Zb) (Za (ZI (kI 32)) st2<|Zb)) Zb)) (Zf (Zf (Zp Z6 WD<|Za (Yk XE (k (nI .u64 65536)) UQ Wd) Vi<|Zb) (ZH Xt (Zf (Zp Z6 Ur<|Za (HV Wv (k (nI .u64 16))) Xe<|Zp YH st0<|Zb) (Zp Va Xw<|Za (Yz Y1 (kI 16)) XB<|Zp Y2 st2<|Zb)) Zb)) (Zf (Zf (Zp Z6 Xx<|Za (Yk YS (k (nI .u64 256)) UQ Wd) X5<|Zb) (ZH Xl (Zf (Zp Z6 X9<|Za (HV Xs (k (nI .u64 8))) X4<|Zp Xr st0<|Zb) (Zp Va We<|Za (Yz XK (kI 8)) Wk<|Zp X1 st2<|Zb)) Zb)) (Zf (Zp Va WJ<|Zp Z6 W0<|Za (Tx WC .u8) VD<|Za (Xj (k (.str rX)) Vd) VG<|Za (Tx W6 .i64) VH<|Za (Yz X6 W7) VI<|Zp WG st2<|Zb) ZT)))))⟩
def Zhn:CF:=⟨[(Va,none)],(Zf (Za (ZI (kI 0)) st2<|Zb) (Zf (Zp Z6 VS<|Za (OC V0 (kI 78913)) YU<|Za (HV Xo (k (nI .u64 18))) WN<|Zp Xi st2<|Zb) ZT))⟩
def Zdd:CF:=⟨[(Va,none)],(Zf (Za (ZI (kI 0)) st2<|Zb) (Zf (Zf (Zp Z6 VS<|Zb) (ZH V0 (Zf (Za (ZI (kI 1)) st2<|Zb) ZT) Zb)) (Zf (Za (ZI (kI 0)) st2<|Zb) ZT)))⟩
def c31:CF:=⟨[(Va,none),(V0,none),(Xo,none)],(Zf (Za (ZI (k (.str []))) st2<|Za (ZI (k (.str []))) VS<|Za (ZI (kB false)) YU<|Zb) (Zf (Zf (Zp Z6 Wg<|Za (Xu XL) WD<|Za (Yk XE (kI 100) Ro U5) Vi<|Zb) (ZH Xt (Zf (Zp Z6 Ur<|Za (ZI (k (.str []))) st2<|Zp Wv VS<|Za (ZI (kB true)) YU<|Zb) ZT) Zb)) (Zf (Zp Z6 Xe<|Zp Z6 Xw<|Za (Xu Y1) XB<|Za (Vs Y2 (kI 1)) Xx<|Za (SJ false [YS,(kI 156)]) X5<|Za (Wy YH none (some Xl) none) X9<|Za (Zv 58 [Xs,(k (nI .u8 47))]) X4<|Zp Xr WN<|Zb) (Zf (Zf (Zp Xi We<|Za (Yk XK (kI 0) XF Yt) Wk<|Zp X1 WJ<|ZF X6 false (ZI Z6) W0<|ZF X6 false (Xu WC) VD<|ZF X6 false (ZI Xi) VG<|ZF X6 false (Vs Vd W6) VH<|ZF X6 false (Vs W7 (kI 1)) VI<|ZF X6 false (Yk WG (kI 100) U9 W1) VU<|Za (Yo X6 (kB true) Vv) V6<|Zb) (ZH VA (Zf (Za (ZI (k (.str []))) st2<|Za (ZI (k (.str [112,97,120]))) VS<|Za (ZI (kB false)) YU<|Zb) ZT) Zb)) (Zf (W5 [YT (ZI Z6) [(st0,Z6)] V7 0 0,YT (ZI Xi) [(WN,Xi)] Uj 1 0,YT (Wy VB none (some Vg) none) [(V7,VB),(Uj,Vg)] Uq 2 3,YT (ZI Z6) [(st0,Z6)] UB 3 0,YT (ZI Xi) [(WN,Xi)] Tb 4 0,YT (Yz Uw (kI 1)) [(Tb,Uw)] Tk 5 16,YT (Wy Uv (some UU) none none) [(UB,Uv),(Tk,UU)] TA 6 56,⟨ZI W8,none,[(Uq,W8)],st2,.eff,7,7⟩,⟨ZI U6,none,[(TA,U6)],VS,.eff,8,255⟩,⟨ZI (kB true),none,[],YU,.eff,9,511⟩]) ZT)))))⟩
def c32:CF:=⟨[(Va,none)],(Zf (Za (Jb Z6 34) st1<|Za (ZI (k (.str []))) st2<|Zb) (Zf (Zf (Za (YG Xn 1) VS<|Za (YG V0 0) YU<|Za (ZP Xo) WN<|Za (Wf Xi (kI 1) WX false) Wg<|Zb) (ZH XL (Zf (Za (YG Xn 0) WD<|Za (ZP XE) Vi<|Za (Yz Xt (k (.str [47]))) Ur<|Zp Wv st2<|Zb) ZT) Zb)) (Zf (Za (YG Xn 0) Xe<|Za (ZP YH) Xw<|Zp Y1 st2<|Zb) ZT)))⟩
def c33:CF:=⟨[(Va,none)],(Zf (Za (ZI (k (.str []))) st2<|Zb) (Zf (Zp Z6 VS<|Za (Zv 59 [V0,(kI 10)]) YU<|Zp Xo st2<|Zb) ZT))⟩
def Bg:D:=(Zf (Za (Yk Y2 Y1 XF Yt) Xx<|Zb) (Zf (ZH YS Zb (WK 0)) (Zf (Z2 1 (Zf (Za (Wn YH Y2 2) X5<|Za (UE Xl 2) X9<|Za (VN 73 [(.str []),(.str [])]) Wg<|Za (YB XL Xs 2) d0<|Zb) (Zf (Za (UE XL 2) X4<|Za (Zv 37 [Xr]) We<|Zp XK WD<|Zb) (Zf (Zf (Zp Xo Wk<|Za (Xf X1) WJ<|Zp XE W0<|Za (Yz X6 WC) VD<|Za (Yk Vd (kI 16777216) U9 W1) VG<|Zb) (ZH W6 (Zf (Za (ZI (k .nils)) st2<|Za (ZI (kI 3)) VS<|Zb) ZT) Zb)) (Zf (Zp Xo VH<|Zp XE VI<|Za (Zv 38 [W7,WG,(kI 10)]) VU<|Zp Vv YU<|Zb) (Zf (W5 [YT (ZI Xo) [(YU,Xo)] V6 0 0,⟨V5 5 1 1 [(nI .u8 0)] [⟨0,1,(k (nI .u8 32))⟩],none,[],V7,.free,1,0⟩,YT (YG XL 0) [(Wg,XL)] Uq 3 0,⟨ZP W8,none,[(Uq,W8)],UB,.read,4,8⟩,⟨V5 5 1 1 [(nI .u8 0)] [⟨0,1,(k (nI .u8 61))⟩],none,[],Tk,.free,6,0⟩,⟨WM VA VB 5 1 1,none,[(V6,VA),(V7,VB)],Uj,.eff,2,3⟩,⟨WM Vg Uv 5 1 1,none,[(Uj,Vg),(UB,Uv)],Tb,.eff,5,31⟩,⟨WM Uw UU 5 1 1,none,[(Tb,Uw),(Tk,UU)],TA,.eff,7,127⟩,⟨ZI U6,none,[(TA,U6)],YU,.eff,8,255⟩]) (Zp Xo T8<|Za (YG XL 1) Sf<|Za (ZP U8) SX<|Za (WM U7 Rc 5 1 1) SY<|Za (V5 5 1 1 [(nI .u8 0)] [⟨0,1,(k (nI .u8 10))⟩]) S7<|Za (WM SR Sa 5 1 1) RB<|Zp Sb YU<|Zb))))))) (Za (Yz Y2 (kI 1)) RY<|Zp Sn XB<|Zb))))
def c16:CF:=⟨[(Va,none),(V0,none)],(Zf (Za (ZI (k .nils)) st2<|Za (ZI (kI 0)) VS<|Zb) (Zf (Zf (Zp Z6 Vi<|Za (Zv 34 [Xt,(k (.func 35 [] []))]) Ur<|Zb) (ZH Wv (Zf (Za (ZI (k .nils)) st2<|Za (ZI (kI 1)) VS<|Zb) ZT) Zb)) (Zf (Za (ZI (k .nils)) YU<|Zb) (Zf (Zf (Zp Z6 Xe<|Za (Xf YH) Xw<|Za (ZI (kI 0)) XB<|Zb) (Z2 0 (WL Bg))) (Zf (Zp Xo RC<|Zp SG st2<|Za (ZI (kI 0)) VS<|Zb) ZT)))))⟩
def c34:CF:=⟨[(Xo,none)],(Zf (Za (ZI (kB false)) YU<|Zb) (Zf (Zp Z6 WN<|Zp Xn Wg<|Za (Zv 60 [Xi,XL]) WD<|Za (Yk XE (kI 0) UQ Wd) Vi<|Zp Xt YU<|Zb) ZT))⟩
def Bl:D:=(Zf (Za (Yk Xt XE XF Yt) Ur<|Zb) (Zf (ZH Wv Zb (WK 0)) (Zf (Z2 1 (Zf (Zp Xt Xe<|Zp YH WN<|Zb) (Zf (Zp Xn Xw<|Zp Z6 XB<|Zp Xi Xx<|Za (Wn Y2 YS 2) X5<|Za (UE Xl 2) X9<|Za (N6 Y1 Tryz.prog [Xs]) X4<|Zb) (ZH Xr (Zf (Zp Xi We<|Zp XK YU<|Zb) ZT) Zb)))) (Za (Yz Xt (kI 1)) Wk<|Zp X1 Vi<|Zb))))
def c60:CF:=⟨[(Xo,none)],(Zf (Za (ZI (kI 0)) YU<|Zb) (Zf (Zf (Zp Z6 Wg<|Za (Xf XL) WD<|Za (ZI (kI 0)) Vi<|Zb) (Z2 0 (WL Bl))) (Zf (Za (ZI (k (.int .i64 (.negSucc 0)))) YU<|Zb) ZT)))⟩
def c35:CF:=⟨[(Va,none)],(Zf (Za (Jb Z6 73) st1<|Za (ZI (kB false)) st2<|Zb) (Zf (Za (UE Xn 2) VS<|Za (Zv 36 [V0]) YU<|Za (S6 Xo) WN<|Zp Xi st2<|Zb) ZT))⟩
def c36:CF:=⟨[(Va,none)],(Zf (Za (Jb Z6 73) st1<|Za (ZI (kB false)) st2<|Zb) (Zf (Za (YG Xn 0) VS<|Za (ZP V0) YU<|Za (Wf Xo (k (.str [])) QJ true) WN<|Zp Xi Wg<|ZF XL true (YG Xn 0) WD<|ZF XL true (ZP XE) Vi<|ZF XL true (Xu Xt) Ur<|ZF XL true (Yk Wv (kI 255) Ro U5) Xe<|Za (Yo XL YH (kB false)) Xw<|Zp Y1 XB<|ZF Y2 true (YG Xn 0) Xx<|ZF Y2 true (ZP YS) X5<|ZF Y2 true (Zv 50 [Xl,(k (.str [0,61,10]))]) X9<|ZF Y2 true (S6 Xs) X4<|Za (Yo Y2 Xr (kB false)) We<|Zp XK st2<|Zb) ZT))⟩
def Bj:D:=(Zf (Zf (Zp Xo Wk<|Zp V0 WJ<|Zp Xo W0<|Za (Zv 61 [WC]) VD<|Za (Xu Vd) VG<|Za (Yz X6 W6) VH<|Za (Wf X1 W7 WX true) VI<|Zb) (ZH WG Zb (WK 0))) (Z2 1 (Zp V0 VU<|Zp Xo V6<|Za (Zv 61 [VA]) V7<|Za (Xu VB) Uj<|Za (Yz Vv Vg) Uq<|Zp W8 YU<|Zb)))
def c37:CF:=⟨[(Va,none)],(Zf (Za (Jb Z6 73) st1<|Za (ZI (kI 0)) st2<|Zb) (Zf (Zf (Za (UE Xn 2) WN<|Za (Zv 36 [Xi]) Wg<|Za (S6 XL) WD<|Zb) (ZH XE (Zf (Za (ZI (kI 0)) st2<|Zb) ZT) Zb)) (Zf (Za (YG Xn 0) Vi<|Za (ZP Xt) Ur<|Za (Xu Wv) Xe<|Za (YG Xn 1) Xw<|Za (ZP Y1) XB<|Za (Xu Y2) Xx<|Za (Yz YH YS) X5<|Za (Yz Xl (kI 3)) X9<|Zp Xs VS<|Zb) (Zf (Zp V0 X4<|Za (Yz Xr (kI 1)) We<|Zp XK YU<|Zb) (Zf (Z2 0 (WL Bj)) (Zf (Zp Xo UB<|Zp Uv st2<|Zb) ZT))))))⟩
def c61:CF:=⟨[(Va,none)],(Zf (Za (ZI (k (.str []))) st2<|Zb) (Zf (Zp Z6 VS<|Za (Zv 91 [V0]) YU<|Zp Xo st2<|Zb) ZT))⟩
def c91:CF:=⟨[(Va,none)],(Zf (Za (ZI (k (.str []))) st2<|Zb) (Zf (Zp Z6 VS<|Za (Zv 90 [V0,(kI 10)]) YU<|Zp Xo st2<|Zb) ZT))⟩
def c38:CF:=⟨[(XL,none)],(Zf (Za (ZI (k .nils)) Wg<|Zb) (Zf (Zp Z6 WD<|Zp Xn Vi<|Zp Va Ur<|Za (Zv 62 [XE,Xt,Wv]) Xe<|Zp YH Wg<|Zb) ZT))⟩
def c62:CF:=⟨[(XL,none)],(Zf (Za (ZI (k .nils)) Wg<|Zb) (Zf (Zp Xn Vi<|Za (Tx Xt .u64) Ur<|Zp Wv WD<|Zb) (Zf (Zf (Zp Xn Xe<|Za (Yk YH (kI 0) XF Yt) Xw<|Zb) (ZH Y1 (Zf (Zp Z6 XB<|Za (V5 5 1 1 [(nI .u8 0)] [⟨0,1,(k (nI .u8 45))⟩]) Xx<|Za (WM Y2 YS 5 1 1) X5<|Zp Xl st0<|Zb) (Zp XE X9<|Za (ux Xs) X4<|Zp Xr WD<|Zb)) Zb)) (Zf (Zp Z6 We<|Zp XE Wk<|Zp Va WJ<|Za (Zv 92 [XK,X1,X6]) W0<|Zp WC Wg<|Zb) ZT))))⟩
def c92:CF:=⟨[(XL,none)],(Zf (Za (ZI (k .nils)) Wg<|Zb) (Zf (Zf (Zp Va Ur<|Za (Wf Wv (kI 10) WX false) Xe<|Zb) (ZH YH (Zf (Zf (Zp Xn Xw<|Za (Yk Y1 (k (nI .u64 100)) XF Yt) XB<|Zb) (ZH Y2 (Zf (Zp Z6 Xx<|Zp Xn X5<|Za (Tx Xl .i64) X9<|Za (Zv 120 [Xs]) X4<|Za (WM YS Xr 5 1 1) We<|Zp XK Wg<|Zb) ZT) Zb)) (Zf (Za (JZ 174 24 (nI .u8 0)) WD<|Zb) (Zf (Zp Xn Wk<|Za (Zv 121 [X1]) WJ<|Zp X6 Vi<|Zb) (Zf (Zp Xt W0<|Za (QE 24 1 XE none (some WC) none) VD<|Zp Xn VG<|Za (Zv 122 [Vd,W6]) VH<|Zb) (Zf (Zp Z6 VI<|Zp Xt VU<|Za (QE 24 1 XE none (some Vv) none) V6<|Za (WM WG VA 5 1 1) V7<|Zp VB Wg<|Zb) ZT))))) Zb)) (Zf (Zp Z6 Uq<|Zp Xn UB<|Zp Va Tb<|Za (Zv 123 [W8,Uv,Uw,(kB false),(kB true)]) Tk<|Zp UU Uj<|Za (Yy Vg 0) TA<|Za (Yy Vg 1) T8<|Zp U6 st0<|Zb) (Zf (Zp Z6 Sf<|Zp U8 Wg<|Zb) ZT))))⟩
def be:D:=(Zf (Za (Yk Y1 YH XF Yt) XB<|Zb) (Zf (ZH Y2 Zb (WK 0)) (Zf (Z2 1 (Zf (Za (Wn Wv Y1 1) Xx<|Za (ZP YS) X5<|Zp Xl WN<|Zb) (Zf (Zp V0 X9<|Zp Xi X4<|Za (Xf Xr) We<|Za (Yz Xs XK) Wk<|Zp X1 VS<|Zb) (Zf (Zp V0 WJ<|Za (Yk X6 (kI 0) XF Yt) W0<|Zb) (ZH WC (Za (VF (k (.str Zp2)) 9) VD<|Za (QD Vd) d0<|Zb) Zb))))) (Za (Yz Y1 (kI 1)) VG<|Zp W6 Xw<|Zb))))
def bf:D:=(Zf (Za (Yk VB VA XF Yt) Uj<|Zb) (Zf (ZH Vg Zb (WK 2)) (Zf (Z2 3 (Zf (Za (Wn Vv VB 1) Uq<|Za (ZP W8) UB<|Zp Uv Vi<|Zb) (Zp XL Tb<|Zp Xt Tk<|Za (WM Uw UU 5 1 1) TA<|Zp U6 Wg<|Zb))) (Za (Yz VB (kI 1)) T8<|Zp U7 V7<|Zb))))
def c21:CF:=⟨[(Va,none)],(Zf (Za (ZI (k .nils)) st2<|Zb) (Zf (Za (ZI (kI 0)) VS<|Zb) (Zf (Zf (Zp Z6 Ur<|Za (Xf Wv) Xe<|Za (ZI (kI 0)) Xw<|Zb) (Z2 0 (WL be))) (Zf (Zp V0 VH<|Za (Zv 44 [(k .nils),W7]) VI<|Zp WG Wg<|Zb) (Zf (Zf (Zp Z6 VU<|Za (Xf Vv) V6<|Za (ZI (kI 0)) V7<|Zb) (Z2 2 (WL bf))) (Zf (Zp XL Sf<|Zp U8 st2<|Zb) ZT))))))⟩
def c44:CF:=⟨[(Xo,none)],(Zf (Za (ZI (k .nils)) YU<|Zb) (Zf (Zf (Zp Xn WN<|Za (Yk Xi (kI 0) XF Yt) Wg<|Zb) (ZH XL (Za (VF (k (.str Zp3)) 9) WD<|Za (QD XE) d0<|Zb) Zb)) (Zf (Zf (Zp Xn Vi<|Zp Z6 Ur<|Za (qz Wv) Xe<|Zp Z6 Xw<|Za (Xf Y1) XB<|Za (Vs YH Y2) Xx<|Za (Vs Xt YS) X5<|Zp Xl st1<|Zb) (Zf (Zp Xn X9<|Za (Yk Xs (kI 0) U9 W1) X4<|Zb) (ZH Xr (Zp Z6 We<|Zp Z6 Wk<|Za (qz X1) WJ<|Za (Tt 1 XK none (some X6) none) W0<|Zp Xn VD<|Za (Oy WC Vd 5 1 1 [(nI .u8 0)]) VG<|Zp Z6 VH<|Za (Xf W7) VI<|Za (Tt 1 W6 none (some WG) none) VU<|Zp Vv st0<|Zb) Zb))) (Zf (Zp Z6 V6<|Zp VA YU<|Zb) ZT))))⟩
def c64:CF:=⟨[(Va,none)],(Zf (Za (ZI (k .nils)) st2<|Zb) (Zf (Zf (Zp Z6 VS<|Za (Wf V0 (k .nils) kV false) YU<|Zb) (ZH Xo (Zf (Za (ZI (k .nils)) st2<|Zb) ZT) Zb)) (Zf (Za (V5 5 1 0 (List.replicate 0 [(nI .u8 0)]).flatten []) WN<|Zp Z6 Wg<|Za (WM Xi XL 5 1 1) WD<|Zp XE st2<|Zb) ZT)))⟩
def c8:CF:=⟨[(Va,none)],(Zf (Za (ZI (kI 0)) st2<|Zb) (Zf (Zf (Zp Z6 VS<|Za (Yk V0 (kI 0) XF Yt) YU<|Zb) (ZH Xo (Zf (Za (ZI (kI 0)) st2<|Zb) ZT) Zb)) (Zf (Zp Z6 WN<|Za (ux Xi) Wg<|Za (N5 XL (kI 511) SU) WD<|Zp XE st2<|Zb) ZT)))⟩
def yt:D:=(Zf (Zf (Zp XE OK<|Za (YG Xi 1) O8<|Za (YG Nh 5) OM<|Za (ZP QW) ON<|Za (Xf Ni) O9<|Za (Yk Ot RQ XF Yt) Na<|Zp Nj OO<|ZF Q9 true (ZI XE) Nr<|ZF Q9 true (Yk O0 (kI 20) XF Yt) Ns<|Za (Yo Q9 Nk (kB false)) Nt<|Zb) (ZH QX Zb (WK 2))) (Zf (Z2 3 (Zf (Za (YG Xi 1) Mr<|Za (YG RR 5) MQ<|Za (ZP NV) LY<|Zp XE Kr<|Za (Wn NW K0 2) Ks<|Za (UE LD 2) Kt<|Za (VN 44 [(.str []),(.str [])]) Vi<|Za (YB Xt Kk 2) d0<|Zb) (W5 [YT (ZI XL) [(Wg,XL)] LZ 0 0,YT (YG Xt 0) [(Vi,Xt)] Ku 1 0,⟨ZP Kl,none,[(Ku,Kl)],Kv,.read,2,2⟩,YT (YG Xt 0) [(Vi,Xt)] Ju 3 0,⟨ZP K1,none,[(Ju,K1)],In,.read,4,8⟩,YT (Xu Ii) [(In,Ii)] Gf 5 24,YT (SJ false [Ht,(kI 250)]) [(Gf,Ht)] Gg 6 56,YT (Wy M4 none (some LF) none) [(Kv,M4),(Gg,LF)] Io 7 126,YT (YG Xt 1) [(Vi,Xt)] Ip 8 0,⟨ZP Km,none,[(Ip,Km)],Iq,.read,9,256⟩,YT (YG Xt 1) [(Vi,Xt)] Jv 10 0,⟨ZP K2,none,[(Jv,K2)],Jw,.read,11,1024⟩,YT (Xu K3) [(Jw,K3)] L0 12 3072,YT (SJ false [Ql,(kI 700)]) [(L0,Ql)] Jx 13 7168,YT (Wy Ij none (some Mo) none) [(Iq,Ij),(Jx,Mo)] Jy 14 16128,⟨Vx [(.str []),(.str [])] [⟨0,1,LG⟩,⟨1,1,Ik⟩],none,[(Io,LG),(Jy,Ik)],Kw,.free,15,32766⟩,⟨V5 44 2 1 [(.str []),(.str [])] [⟨0,2,Kn⟩],none,[(Kw,Kn)],Kx,.free,16,65534⟩,⟨WM PR M5 44 2 32,none,[(LZ,PR),(Kx,M5)],Ky,.eff,17,131071⟩,⟨ZI Ko,none,[(Ky,Ko)],Wg,.eff,18,262143⟩]))) (Zp XE Mq<|Za (Yz Nl (kI 1)) Me<|Zp Ps WD<|Zb)))
def yu:D:=(Zf (Zf (Zp Xo Ur<|Zp Z6 Xe<|Za (Xf YH) Xw<|Za (Yk Wv Y1 XF Yt) XB<|Zp Y2 Xx<|ZF YS true (ZI Xo) X5<|ZF YS true (Yk Xl (kI 12) XF Yt) X9<|Za (Yo YS Xs (kB false)) X4<|Zb) (ZH Xr Zb (WK 0))) (Zf (Z2 1 (Zf (Zp Z6 WJ<|Zp Xo W0<|Za (Wn X6 WC 9) VD<|Za (UE Vd 9) VG<|Za (VN 34 [(.str []),(nI .i64 0),(nI .u32 0),(nI .u32 0),(nI .u32 0),(nI .i64 0),.nils,.nils,(.str [])]) WN<|Za (YB Xi W6 9) d0<|Zb) (Zf (W5 [YT (YG Xi 0) [(WN,Xi)] VH 0 0,⟨ZP W7,none,[(VH,W7)],VI,.read,1,1⟩,YT (YG Xi 0) [(WN,Xi)] VU 2 0,⟨ZP Vv,none,[(VU,Vv)],V6,.read,3,4⟩,YT (Xu VA) [(V6,VA)] V7 4 12,YT (SJ false [VB,(kI 4100)]) [(V7,VB)] Uj 5 28,YT (Wy WG none (some Vg) none) [(VI,WG),(Uj,Vg)] Uq 6 63,YT (YG Xi 1) [(WN,Xi)] UB 7 0,YT (YG Uv 7) [(UB,Uv)] Tb 8 128,⟨ZP Uw,none,[(Tb,Uw)],Tk,.read,9,384⟩,YT (YG Xi 1) [(WN,Xi)] TA 10 0,YT (YG U6 7) [(TA,U6)] T8 11 1024,⟨ZP U7,none,[(T8,U7)],Sf,.read,12,3072⟩,YT (Xu U8) [(Sf,U8)] SX 13 7168,YT (SJ false [Rc,(kI 4100)]) [(SX,Rc)] SY 14 15360,YT (Wy UU none (some SR) none) [(Tk,UU),(SY,SR)] S7 15 32640,YT (YG Xi 0) [(WN,Xi)] RB 16 8191,⟨YB Sb W8 1,none,[(RB,Sb),(Uq,W8)],d0,.eff,17,73727⟩,YT (YG Xi 1) [(WN,Xi)] RY 18 262143,YT (YG Sn 7) [(RY,Sn)] RC 19 524287,⟨YB SG Sa 1,none,[(RC,SG),(S7,Sa)],d0,.eff,20,1048575⟩]) (Zf (Za (YG Xi 1) RZ<|Za (YG Sc 6) R0<|Za (ZP S4) QY<|Za (YG Xi 1) Pj<|Za (YG Re 6) Pk<|Za (ZP Qc) Pm<|Za (Xf RO) Pw<|Za (SJ false [QV,(kI 1500)]) Px<|Za (Tt 1 So none (some Pq) none) OI<|Za (WM (k .nils) OY 5 1 1) O6<|Za (YG Xi 1) O7<|Za (YG RP 6) OJ<|Za (YB OZ Pr 1) d0<|Zb) (Zf (Za (ZI (k .nils)) Wg<|Zb) (Zf (Zf (Za (ZI (kI 0)) WD<|Zb) (Z2 2 (WL yt))) (Zf (Zp XL Jz<|Za (YG Xi 1) JA<|Za (YG K4 5) Ir<|Za (YB LI LH 1) d0<|Zb) (Zp V0 Gh<|Za (UE Xi 9) FU<|Za (V5 34 9 1 [(.str []),(nI .i64 0),(nI .u32 0),(nI .u32 0),(nI .u32 0),(nI .i64 0),.nils,.nils,(.str [])] [⟨0,9,G4⟩]) FV<|Za (WM Hu G5 34 9 112) EV<|Zp Em VS<|Zb)))))))) (Zp Xo We<|Za (Yz XK (kI 1)) Wk<|Zp X1 YU<|Zb)))
def c4:CF:=⟨[(Va,none)],(Zf (Za (ZI (k .nils)) st2<|Zb) (Zf (Za (ZI (k .nils)) VS<|Zb) (Zf (Zf (Za (ZI (kI 0)) YU<|Zb) (Z2 0 (WL yu))) (Zf (Zp V0 EW<|Zp En st2<|Zb) ZT))))⟩
def tW:D:=(Zf (Za (Yk X1 XK XF Yt) WJ<|Zb) (Zf (ZH X6 Zb (WK 1)) (Zf (Z2 2 (Zf (Za (Wn Xr X1 9) W0<|Za (UE WC 9) VD<|Za (VN 34 [(.str []),(nI .i64 0),(nI .u32 0),(nI .u32 0),(nI .u32 0),(nI .i64 0),.nils,.nils,(.str [])]) Wg<|Za (YB XL Vd 9) d0<|Zb) (Zf (Za (UE XL 9) VH<|Za (Zv 6 [W7]) VI<|Zp WG VG<|Za (Yy W6 0) VU<|Za (Yy W6 1) V6<|Zp Vv WD<|Zp VA Vi<|Zb) (Zf (Zf (Zp Xt V7<|Za (Wf VB (kI 0) WX true) Uj<|Zb) (ZH Vg (Zf (Zp Xt Uq<|Za (ZI (k .nils)) st2<|Zp W8 VS<|Zb) ZT) Zb)) (Zf (W5 [YT (ZI Xo) [(YU,Xo)] UB 0 0,YT (ZI XE) [(WD,XE)] Tb 1 0,YT (YG XL 1) [(Wg,XL)] TA 3 0,YT (YG U6 6) [(TA,U6)] T8 4 8,⟨ZP U7,none,[(T8,U7)],Sf,.read,5,24⟩,YT (YG XL 1) [(Wg,XL)] SY 7 0,YT (YG SR 6) [(SY,SR)] S7 8 128,⟨ZP Sa,none,[(S7,Sa)],RB,.read,9,384⟩,YT (Xf Sb) [(RB,Sb)] RY 10 896,⟨WM Uv Uw 5 1 1,none,[(UB,Uv),(Tb,Uw)],Tk,.eff,2,3⟩,⟨WM UU U8 5 1 1,none,[(Tk,UU),(Sf,U8)],SX,.eff,6,63⟩,⟨Zv 8 [Sn],none,[(RY,Sn)],RC,.eff,11,2047⟩,⟨Oy Rc SG 5 1 1 [(nI .u8 0)],none,[(SX,Rc),(RC,SG)],RZ,.eff,12,4095⟩,⟨ZI Sc,none,[(RZ,Sc)],YU,.eff,13,8191⟩]) (Zf (Zp Xo R0<|Za (Xf S4) QY<|Za (Yk So (kI 67107840) U9 W1) Pj<|Zb) (ZH Re (Zf (Za (ZI (k .nils)) st2<|Za (ZI (kI 3)) VS<|Zb) ZT) Zb))))))) (Za (Yz X1 (kI 1)) Pk<|Zp Qc Wk<|Zb))))
def c5:CF:=⟨[(Va,none),(V0,none)],(Zf (Za (ZI (k .nils)) st2<|Za (ZI (kI 0)) VS<|Zb) (Zf (Z2 0 (Zf (Zp Z6 Xe<|Za (Zv 12 [YH,(k (.func 13 [] []))]) Xw<|Zp Y1 Ur<|Zb) (ZH Wv (Zf (Za (ZI (k .nils)) st2<|Za (ZI (kI 1)) VS<|Zb) ZT) (Zf (Zp Z6 Xx<|Za (Xf YS) X5<|Za (Yk Xl (kI 8192) U9 W1) X9<|Zp Xs XB<|Zb) (ZH Y2 (Zf (Za (ZI (k .nils)) st2<|Za (ZI (kI 42)) VS<|Zb) ZT) Zb))))) (Zf (Za (ZI (k .nils)) YU<|Zb) (Zf (Zf (Zp Z6 X4<|Za (Xf Xr) We<|Za (ZI (kI 0)) Wk<|Zb) (Z2 1 (WL tW))) (Zf (Zp Xo Pm<|Za (Zv 14 []) Pw<|Za (WM RO QV 5 1 1) Px<|Zp Pq st2<|Za (ZI (kI 0)) VS<|Zb) ZT)))))⟩
def c13:CF:=⟨[(Va,none)],(Zf (Za (Jb Z6 34) st1<|Za (ZI (kB false)) st2<|Zb) (Zf (Za (UE Xn 9) VS<|Za (Zv 7 [V0]) YU<|Za (S6 Xo) WN<|Zp Xi st2<|Zb) ZT))⟩
def c12:CF:=⟨[(Xo,none)],(Zf (Za (ZI (kB false)) YU<|Zb) (Zf (Zp Z6 WN<|Zp Xn Wg<|Za (Zv 29 [Xi,XL]) WD<|Za (Yk XE (kI 0) UQ Wd) Vi<|Zp Xt YU<|Zb) ZT))⟩
def Ea:D:=(Zf (Za (Yk Xt XE XF Yt) Ur<|Zb) (Zf (ZH Wv Zb (WK 0)) (Zf (Z2 1 (Zf (Zp Xt Xe<|Zp YH WN<|Zb) (Zf (Zp Xn Xw<|Zp Z6 XB<|Zp Xi Xx<|Za (Wn Y2 YS 9) X5<|Za (UE Xl 9) X9<|Za (N6 Y1 Tryz.prog [Xs]) X4<|Zb) (ZH Xr (Zf (Zp Xi We<|Zp XK YU<|Zb) ZT) Zb)))) (Za (Yz Xt (kI 1)) Wk<|Zp X1 Vi<|Zb))))
def c29:CF:=⟨[(Xo,none)],(Zf (Za (ZI (kI 0)) YU<|Zb) (Zf (Zf (Zp Z6 Wg<|Za (Xf XL) WD<|Za (ZI (kI 0)) Vi<|Zb) (Z2 0 (WL Ea))) (Zf (Za (ZI (k (.int .i64 (.negSucc 0)))) YU<|Zb) ZT)))⟩
def c14:CF:=⟨[(Z6,none)],(Zf (Za (ZI (k .nils)) st0<|Zb) (Zf (Za (Jc 5 1 1 [(nI .u8 0)] (kI 1024) (kI 1024)) st1<|Zp Xn st0<|Zb) ZT))⟩
def c10:CF:=⟨[(Va,some (1,false)),(V0,some (1,false))],(Zf (Za (VN 22 [.nils]) st2<|Za (VN 26 [(nI .i64 0)]) VS<|Zb) (Zf (Za (AB 26 [] [Va,V0]) WN<|Za (AA Xi []) d0<|Zb) (Zf (Zp Z6 Wg<|Za (Vx [.nils,.nils,(.bool false),.nils] [⟨0,1,XL⟩]) WD<|Za (Jb XE 69) Vi<|Zp Xt YU<|Zb) (Zf (Zp Xo Ur<|Za (Zv 27 [Wv]) Xe<|Zb) (Zf (Zp Xo Xw<|Za (Um Y1) XB<|Za (YG Y2 3) Xx<|Za (ZP YS) X5<|Za (YB Va Xl 1) d0<|Za (YB V0 (kI 0) 1) d0<|Zb) ZT)))))⟩
def c26:CF:=⟨[],(Zf (Za (AG) WN<|Zb) (Z2 0 (Zf (Za (Wf Xi (k .nili) (zS true (vK Tryz.prog (Dg Tryz.prog 9))) false) WD<|Zb) (ZH XE (Zp Xi st2<|Zb) (Zf (Za (Cz Xi 26 (nI .i64 0) true) Vi<|Za (Yy Xt 1) Ur<|Za (Yy Xt 0) Xe<|Zb) (ZH Wv (Zf (Zp YH VS<|Zb) (Zp V0 Xw<|Za (YB Z6 (k .nils) 1) d0<|Za (YB Xn Y1 1) d0<|Zb)) (Zf (Zp Xi YU<|Zb) (Zp Xo Wg<|Za (QD XL) d0<|Zb))))))))⟩
def QB:D:=(Z2 1 (Zf (Zp Z6 Vi<|Za (Zv 52 [Xt]) Ur<|Zp Wv st2<|Zb) (Zf (Zf (Zp Va Xe<|Za (Um YH) Xw<|Za (YG Y1 0) XB<|Za (Zv 53 [Y2]) Xx<|Zb) (ZH YS (Zf (Zp Z6 X5<|Za (Zv 52 [Xl]) X9<|Za (Um Xs) X4<|Za (YG Xr 0) We<|Za (Zv 53 [XK]) Wk<|Zp X1 WJ<|ZF X6 true (ZI Z6) W0<|ZF X6 true (Um WC) VD<|ZF X6 true (YG Vd 2) VG<|ZF X6 true (ZP W6) VH<|ZF X6 true (S6 W7) VI<|Za (Yo X6 WG (kB false)) VU<|Za (Zv 54 [Vv,(kI 5)]) V6<|Zb) ZT) Zb)) (Zf (Zp Va V7<|Za (Um VB) Uj<|Za (YG Vg 0) Uq<|Za (Zv 55 [W8]) UB<|Zp Uv VS<|Zb) (Zf (Zp V0 Tb<|Za (Wf Uw (kI 0) WX false) Tk<|Zp V0 TA<|Za (Zv 54 [UU,U6]) T8<|Zb) (Zf (Zp Va SX<|Za (Um Rc) SY<|Za (YG SR 0) S7<|Za (Zv 40 [Sa,(k (.str [116,121,112,101]))]) RB<|Zp Sb Sf<|Za (Yy U8 0) RY<|Za (Yy U8 1) RC<|Zp Sn YU<|Zp SG WN<|Zb) (Zf (W5 [⟨ZP (k (.ptr 2 0)),none,[],R0,.read,0,0⟩,YT (ZI Xo) [(YU,Xo)] QY 1 0,YT (Wn So (kI 0) 1) [(QY,So)] Pj 2 2,⟨ZP Re,none,[(Pj,Re)],Pk,.read,3,6⟩,⟨ME WX (nI .i64 0) true S4 Qc,none,[(R0,S4),(Pk,Qc)],Pm,.read,4,15⟩,YT (ZI RO) [(Pm,RO)] RZ 5 31,YT (Yy Sc 0) [(RZ,Sc)] Pw 6 63,YT (Yy Sc 1) [(RZ,Sc)] Px 7 63,⟨ZI QV,none,[(Pw,QV)],Wg,.eff,8,127⟩,⟨ZI Pq,none,[(Px,Pq)],WD,.eff,9,511⟩]) (Z2 2 (Zf (Zp Xo ON<|Za (Wn Ni (kI 0) 1) O9<|Za (ZP RQ) Na<|Za (Wf Nj (k (nI .u8 120)) WX false) OO<|Zp Q9 OM<|Zb) (ZH QW (Zp Z6 Nr<|Zp Va Ns<|Za (Zv 56 [O0,Nk]) Nt<|Zb) (Zf (Zp XE OI<|Za (Zv 54 [OY,(kI 31)]) O6<|Zb) (Zp Z6 O7<|Zp Va OJ<|Zp XL OK<|Za (Zv 57 [RP,OZ,Ot]) O8<|Zb))))))))))))
def c27:CF:=⟨[],(Z2 0 (WL QB))⟩
def c52:CF:=⟨[(Va,none)],(Zf (Za (ZI (k .nilp)) st2<|Zb) (Zf (Zp Z6 YU<|Za (Um Xo) WN<|Za (YG Xi 0) Wg<|Za (ZP XL) WD<|Za (Xf XE) Vi<|Za (Yk Xt (kI 512) UQ Wd) Ur<|Za (Zv 54 [Wv,(kI 4)]) Xe<|Zb) (Zf (Za (Vx Sg []) Xw<|Za (Jb Y1 54) XB<|Zp Y2 VS<|Zb) (Zf (W5 [YT (ZI V0) [(VS,V0)] Xx 0 0,YT (Um YS) [(Xx,YS)] X5 1 1,YT (YG Xl 0) [(X5,Xl)] X9 2 3,YT (QE 512 1 Xs none none none) [(X9,Xs)] X4 3 7,YT (ZI Z6) [(st0,Z6)] We 4 0,YT (Um XK) [(We,XK)] Wk 5 16,YT (YG X1 0) [(Wk,X1)] WJ 6 48,⟨ZP X6,none,[(WJ,X6)],W0,.read,7,112⟩,⟨Az Xr WC 1,none,[(X4,Xr),(W0,WC)],VD,.eff,8,255⟩]) (Zf (Zp Z6 VG<|Zp Z6 VH<|Za (Um W7) VI<|Za (YG WG 0) VU<|Za (ZP Vv) V6<|Za (Tt 1 VA (some (kI 512)) none none) V7<|Za (Um W6) Uj<|Za (YG Vg 0) Uq<|Za (YB W8 VB 1) d0<|Zb) (Zf (Zp V0 UB<|Zp Uv st2<|Zb) ZT))))))⟩
def c82:CF:=⟨[(Xo,none)],(Zf (Za (ZI (k .nils)) YU<|Zb) (Zf (W5 [YT (ZI Z6) [(st0,Z6)] Wg 0 0,YT (Um XL) [(Wg,XL)] WD 1 1,YT (YG XE 0) [(WD,XE)] Vi 2 3,⟨ZP Xt,none,[(Vi,Xt)],Ur,.read,3,7⟩,YT (Xf Wv) [(Ur,Wv)] Xe 4 15,YT (ZI Xn) [(st1,Xn)] Xw 5 0,YT (ZI Xn) [(st1,Xn)] XB 6 0,⟨Zv 8 [Y2],none,[(XB,Y2)],Xx,.eff,7,64⟩,YT (Yz Y1 YS) [(Xw,Y1),(Xx,YS)] X5 8 224,YT (Yk YH Xl UQ Wd) [(Xe,YH),(X5,Xl)] X9 9 511,⟨Zv 54 [Xs,(kI 4)],none,[(X9,Xs)],X4,.eff,10,1023⟩]) (Zf (Zp Z6 We<|Za (Um XK) Wk<|Za (YG X1 0) WJ<|Za (ZP X6) W0<|Zp Xn VD<|Za (Tt 1 WC none (some Vd) none) VG<|Zp W6 WN<|Zb) (Zf (W5 [YT (ZI Z6) [(st0,Z6)] VH 0 0,YT (ZI Z6) [(st0,Z6)] VI 1 0,YT (Um WG) [(VI,WG)] VU 2 2,YT (YG Vv 0) [(VU,Vv)] V6 3 6,⟨ZP VA,none,[(V6,VA)],V7,.read,4,14⟩,YT (ZI Xn) [(st1,Xn)] Uj 5 0,YT (ZI Xn) [(st1,Xn)] Uq 6 0,⟨Zv 8 [W8],none,[(Uq,W8)],UB,.eff,7,64⟩,YT (Yz Vg Uv) [(Uj,Vg),(UB,Uv)] Tb 8 224,⟨Tt 1 VB (some Uw) none none,none,[(V7,VB),(Tb,Uw)],Tk,.read,9,510⟩,YT (Um W7) [(VH,W7)] TA 10 1023,YT (YG U6 0) [(TA,U6)] T8 11 2047,⟨YB U7 UU 1,none,[(T8,U7),(Tk,UU)],d0,.eff,12,4095⟩]) (Zf (Zp Xi Sf<|Zp U8 YU<|Zb) ZT)))))⟩
def c80:CF:=⟨[(Xo,none)],(Zf (Za (ZI (kI 0)) YU<|Zb) (Zf (Zp Z6 Xe<|Za (Um YH) Xw<|Za (YG Y1 0) XB<|Zp Xn Xx<|Za (Zv 40 [Y2,YS]) X5<|Zp Xl Ur<|Za (Yy Wv 0) X9<|Za (Yy Wv 1) X4<|Zp Xs WN<|Zp Xr Wg<|Zb) (Zf (Zp Xi Wk<|Za (Zv 78 [X1]) WJ<|Zp X6 We<|Za (Yy XK 0) W0<|Za (Yy XK 1) VD<|Zp WC WD<|Zp Vd Vi<|Zb) (Zf (Zp Xt VG<|Za (Wf W6 (kI 0) WX false) VH<|Zp Xt VI<|Za (Zv 54 [W7,WG]) VU<|Zb) (Zf (Zp XE V6<|Zp VA YU<|Zb) ZT)))))⟩
def c56:CF:=⟨[],(Zf (Zp Xn WD<|Za (Zv 80 [XE,(k (.str [115,105,122,101]))]) Vi<|Za (Zv 79 [Xt]) Ur<|Zp Wv YU<|Zb) (Zf (Zp Z6 Xe<|Za (Um YH) Xw<|Za (YG Y1 2) XB<|Za (ZP Y2) Xx<|Za (S6 YS) X5<|Za (Zv 54 [Xl,(kI 5)]) X9<|Zb) (Zf (Zp Z6 We<|Zp Xo Wk<|Za (Zv 82 [XK,X1]) WJ<|Za (Zv 81 [X6]) W0<|Zp WC X4<|Za (Yy Xr 0) VD<|Za (Yy Xr 1) VG<|Zp Vd WN<|Zp W6 Wg<|Zb) (Zf (Zp XL VH<|Za (Wf W7 (kI 0) WX false) VI<|Za (Zv 54 [WG,(kI 5)]) VU<|Zb) (Zp Z6 V6<|Zp Z6 V7<|Zp Xi Uj<|Za (Um VA) Uq<|Za (YG W8 1) UB<|Za (YB Uv Vg 1) d0<|Za (Um VB) Tb<|Za (YG Uw 2) Tk<|Za (YB UU (kB true) 1) d0<|Zb)))))⟩
def c79:CF:=⟨[(Va,none)],(Zf (Za (ZI (kI 0)) st2<|Zb) (Zf (Zp Z6 VS<|Za (Yk V0 (kI 0) UQ Wd) YU<|Za (Zv 54 [Xo,(kI 5)]) WN<|Zb) (Zf (Zp Z6 Wg<|Za (Yk XL (kI 16777216) Ro U5) WD<|Za (Zv 54 [XE,(kI 3)]) Vi<|Zb) (Zf (Zp Z6 Ur<|Zp Wv st2<|Zb) ZT))))⟩
def c54:CF:=⟨[],(Zf (Zp Z6 YU<|Za (S6 Xo) WN<|Zb) (ZH Xi (Zp Xn Wg<|Za (VF XL 26) WD<|Za (QD XE) d0<|Zb) Zb))⟩
def c53:CF:=⟨[(Va,none)],(Zf (Za (ZI (kB false)) st2<|Zb) (Zf (Zp Z6 VS<|Za (Wf V0 (k .nilp) zT true) YU<|Zp Xo WN<|ZF Xi true (ZI Z6) Wg<|ZF Xi true (Um XL) WD<|ZF Xi true (QE 512 1 XE none none none) Vi<|ZF Xi true (Zv 76 [Xt,(k (.func 77 [] []))]) Ur<|ZF Xi true (S6 Wv) Xe<|Za (Yo Xi YH (kB false)) Xw<|Zp Y1 st2<|Zb) ZT))⟩
def c77:CF:=⟨[(Va,none)],(Zf (Za (ZI (kB false)) st2<|Zb) (Zf (Zp Z6 VS<|Za (Wf V0 (k (nI .u8 0)) WX true) YU<|Zp Xo st2<|Zb) ZT))⟩
def c55:CF:=⟨[(Va,none)],(Zf (Za (ZI (kI 0)) st2<|Zb) (Zf (Zf (Zp Z6 Wg<|Za (Wf XL (k .nilp) zT false) WD<|Zb) (ZH XE (Zf (Za (ZI (kI 1)) st2<|Zb) ZT) Zb)) (Zf (Zp Z6 Ur<|Za (Zv 63 [Wv,(k (.str [99,104,107,115,117,109]))]) Xe<|Za (Zv 78 [YH]) Xw<|Zp Y1 Vi<|Za (Yy Xt 0) XB<|Za (Yy Xt 1) Xx<|Zp Y2 VS<|Zp YS YU<|Zb) (Zf (Zp Z6 X5<|Za (Zv 63 [Xl,(k (.str [109,97,103,105,99]))]) X9<|Za (Cg Xs) X4<|Zp Xr WN<|Zb) (Zf (Z2 0 (Zf (Zp Xo Wk<|Za (Wf X1 (kI 0) WX true) WJ<|Zp X6 W0<|ZF WC false (ZI Xi) VD<|ZF WC false (Wf Vd (k (.str [117,115,116,97,114,0])) QJ true) VG<|ZF WC false (ZI W6) VH<|ZF W7 true (ZI Xi) VI<|ZF W7 true (Wf WG (k (.str [117,115,116,97,114,32])) QJ true) VU<|ZF WC false (Yo W7 Vv (kB false)) V6<|Za (Yo WC (kB true) VA) V7<|Zp VB We<|Zb) (ZH XK (Zf (Za (ZI (kI 5)) st2<|Zb) ZT) (Zf (Zp V0 Uq<|Zp Z6 UB<|Za (Zv 43 [Uv]) Tb<|Za (Wf W8 Uw WX true) Tk<|Zp UU Uj<|Zb) (ZH Vg (Zf (Za (ZI (kI 21)) st2<|Zb) ZT) Zb))))) (Zf (Za (ZI (kI 0)) st2<|Zb) ZT))))))⟩
def c76:CF:=⟨[(Xo,none)],(Zf (Za (ZI (kB false)) YU<|Zb) (Zf (Zp Z6 WN<|Zp Xn Wg<|Za (Zv 109 [Xi,XL]) WD<|Za (Yk XE (kI 0) UQ Wd) Vi<|Zp Xt YU<|Zb) ZT))⟩
def JG:D:=(Zf (Za (Yk Xt XE XF Yt) Ur<|Zb) (Zf (ZH Wv Zb (WK 0)) (Zf (Z2 1 (Zf (Zp Xt Xe<|Zp YH WN<|Zb) (Zf (Zp Xn Xw<|Zp Z6 XB<|Zp Xi Xx<|Za (Wn Y2 YS 1) X5<|Za (ZP Xl) X9<|Za (N6 Y1 Tryz.prog [Xs]) X4<|Zb) (ZH Xr (Zf (Zp Xi We<|Zp XK YU<|Zb) ZT) Zb)))) (Za (Yz Xt (kI 1)) Wk<|Zp X1 Vi<|Zb))))
def Zg4:CF:=⟨[(Xo,none)],(Zf (Za (ZI (kI 0)) YU<|Zb) (Zf (Zf (Zp Z6 Wg<|Za (Xf XL) WD<|Za (ZI (kI 0)) Vi<|Zb) (Z2 0 (WL JG))) (Zf (Za (ZI (k (.int .i64 (.negSucc 0)))) YU<|Zb) ZT)))⟩
def c78:CF:=⟨[(Va,none),(V0,none)],(Zf (Za (ZI (kI 0)) st2<|Za (ZI (kI 0)) VS<|Zb) (Zf (Z2 0 (Zf (Zp Z6 WN<|Za (Xf Xi) Wg<|Za (Yk XL (kI 1) XF Yt) WD<|Zp XE Vi<|ZF Xt false (ZI Z6) Ur<|ZF Xt false (Xf Wv) Xe<|ZF Xt false (Yk YH (kI 20) U9 W1) Xw<|Za (Yo Xt (kB true) Y1) XB<|Zp Y2 YU<|Zb) (ZH Xo (Zf (Za (ZI (kI 0)) st2<|Za (ZI (kI 1)) VS<|Zb) ZT) (Zf (Zp Z6 X5<|Za (Wn Xl (kI 0) 1) X9<|Za (ZP Xs) X4<|Za (Yk Xr (k (nI .u8 128)) UQ Wd) We<|Zp XK Xx<|Zb) (ZH YS (Zf (Zp Z6 Wk<|Za (Zv 110 [X1]) WJ<|Za (Yy X6 0) W0<|Za (Yy X6 1) VD<|Zp WC st2<|Zp Vd VS<|Zb) ZT) Zb))))) (Zf (Zp Z6 VG<|Za (Zv 111 [W6]) VH<|Za (Yy W7 0) VI<|Za (Yy W7 1) VU<|Zp WG st2<|Zp Vv VS<|Zb) ZT)))⟩
def GA:D:=(Zf (Za (Yk Y1 YH XF Yt) XB<|Zb) (Zf (ZH Y2 Zb (WK 0)) (Zf (Z2 1 (Zf (Za (Wn Wv Y1 1) Xx<|Za (ZP YS) X5<|Zp Xl Wg<|Zb) (Zf (Z2 2 (Zf (Zp XL X4<|Za (Wf Xr (k (nI .u8 32)) WX false) We<|Zp XK Wk<|ZF X1 false (ZI XL) WJ<|ZF X1 false (Wf X6 (k (nI .u8 0)) WX false) W0<|Za (Yo X1 (kB true) WC) VD<|Zp Vd X9<|Zb) (ZH Xs (Zf (Zp Xo VG<|Zp W6 st2<|Za (ZI (kI 0)) VS<|Zb) ZT) (Zf (Zp XL VI<|Za (Yk WG (k (nI .u8 48)) XF Yt) VU<|Zp Vv V6<|ZF VA false (ZI XL) V7<|ZF VA false (Yk VB (k (nI .u8 55)) U9 W1) Uj<|Za (Yo VA (kB true) Vg) Uq<|Zp W8 VH<|Zb) (ZH W7 (Zf (Za (ZI (kI 0)) st2<|Za (ZI (kI 5)) VS<|Zb) ZT) Zb))))) (Zp Xo UB<|Za (Za9 Uv (k (nI .u64 3))) Tb<|Zp XL Tk<|Za (Vs UU (k (nI .u8 48))) TA<|Za (Tx U6 .i64) T8<|Za (N5 Uw U7 zW) Sf<|Zp U8 YU<|Zb)))) (Za (Yz Y1 (kI 1)) SX<|Zp Rc Xw<|Zb))))
def Zg5:CF:=⟨[(Va,none),(V0,none)],(Zf (Za (ZI (kI 0)) st2<|Za (ZI (kI 0)) VS<|Zb) (Zf (Zp Z6 WD<|Za (Zv 133 [XE,(k (.str [32]))]) Vi<|Zp Xt st0<|Zb) (Zf (Za (ZI (kI 0)) YU<|Zb) (Zf (Zf (Zp Z6 Ur<|Za (Xf Wv) Xe<|Za (ZI (kI 0)) Xw<|Zb) (Z2 0 (WL GA))) (Zf (Zp Xo SY<|Zp SR st2<|Za (ZI (kI 0)) VS<|Zb) ZT)))))⟩
def Zhg:CF:=⟨[(Xo,none)],(Zf (Za (ZI (k .nils)) YU<|Zb) (Zf (Zf (Zp Z6 WD<|Za (Xf XE) Vi<|Za (Wf Xt (kI 0) WX false) Ur<|Zb) (ZH Wv (Zf (Za (ZI (k .nils)) YU<|Zb) ZT) Zb)) (Zf (Zf (Zp Xn Xe<|Za (Wf YH (k (.str [])) QJ false) Xw<|Zb) (ZH Y1 (Zf (Zp Z6 XB<|Zp Y2 YU<|Zb) ZT) Zb)) (Zf (Zf (Zp Xn Xx<|Za (Xu YS) X5<|Za (Wf Xl (kI 1) WX false) X9<|Zp Xs X4<|ZF Xr true (ZI Xn) We<|ZF Xr true (Xj XK (kI 0)) Wk<|ZF Xr true (Yk X1 (k (nI .u8 128)) XF Yt) WJ<|Za (Yo Xr X6 (kB false)) W0<|Zb) (ZH WC (Zf (Zp Z6 VD<|Zp Xn VG<|Za (Xj W6 (kI 0)) VH<|Za (Zv 158 [Vd,W7]) VI<|Zp WG YU<|Zb) ZT) Zb)) (Zf (Zf (Zp Xn V6<|Za (Zv 159 [VA]) V7<|Zp VB VU<|Za (Yy Vv 0) Uj<|Za (Yy Vv 1) Uq<|Za (VN 209 L9) WN<|Za (YB Xi Vg 256) d0<|Zp W8 Wg<|Zb) (Zf (Zp XL UB<|Zb) (ZH Uv (Zf (Zp Z6 Tb<|Za (Zv 160 [Uw,Xi]) Tk<|Zp UU YU<|Zb) ZT) Zb))) (Zf (Zp Z6 TA<|Zp Xn T8<|Za (Zv 161 [U6,U7]) Sf<|Zp U8 YU<|Zb) ZT))))))⟩
def kz:D:=(Zf (Zf (Zp Z6 WN<|Za (Xf Xi) Wg<|Za (Yk XL (kI 0) U9 W1) WD<|Zp XE Vi<|ZF Xt true (ZI Z6) Ur<|ZF Xt true (Wn Wv (kI 0) 1) Xe<|ZF Xt true (ZP YH) Xw<|ZF Xt true (ZI Xn) XB<|ZF Xt true (Wf Y1 Y2 WX false) Xx<|Za (Yo Xt YS (kB false)) X5<|Zb) (ZH Xl Zb (WK 0))) (Z2 1 (Zp Z6 X9<|Za (Tt 1 Xs (some (kI 1)) none none) X4<|Zp Xr st0<|Zb)))
def Zhr:CF:=⟨[(Xo,none)],(Zf (Za (ZI (k .nils)) YU<|Zb) (Zf (Z2 0 (WL kz)) (Zf (Zf (Zp Z6 We<|Za (Xf XK) Wk<|Za (Wf X1 (kI 0) WX false) WJ<|Zb) (ZH X6 (Zf (Za (ZI (k .nils)) YU<|Zb) ZT) Zb)) (Zf (Zp Z6 W0<|Zp WC YU<|Zb) ZT))))⟩
def Bm:D:=(Zf (Zf (Zp Z6 Xw<|Za (Xf Y1) XB<|Za (Yk Y2 (kI 0) U9 W1) Xx<|Zb) (ZH YS Zb (WK 0))) (Z2 1 (Zf (Zp Z6 X9<|Za (Zv 112 [Xs]) X4<|Zp Xr X5<|Za (Yy Xl 0) We<|Za (Yy Xl 1) Wk<|Za (Yy Xl 2) WJ<|Za (VN 73 [(.str []),(.str [])]) WN<|Za (YB Xi XK 2) d0<|Zp X1 Wg<|Zp X6 WD<|Zb) (Zf (Zf (Zp XE W0<|Za (Wf WC (kI 0) WX true) VD<|Zb) (ZH Vd (Zf (Zp XE VG<|Za (ZI (k .nils)) st2<|Zp W6 VS<|Zb) ZT) Zb)) (Zf (Zp Xo VH<|Za (UE Xi 2) VI<|Za (V5 73 2 1 [(.str []),(.str [])] [⟨0,2,WG⟩]) VU<|Za (WM W7 Vv 73 2 32) V6<|Zp VA YU<|Zb) (Zp Z6 V7<|Zp XL Uj<|Za (Tt 1 VB (some Vg) none none) Uq<|Zp W8 st0<|Zb))))))
def c81:CF:=⟨[(Va,none),(V0,none)],(Zf (Za (ZI (k .nils)) st2<|Za (ZI (kI 0)) VS<|Zb) (Zf (Zf (Zp Z6 Vi<|Za (Xf Xt) Ur<|Za (Yk Wv (kI 16777216) U9 W1) Xe<|Zb) (ZH YH (Zf (Za (ZI (k .nils)) st2<|Za (ZI (kI 3)) VS<|Zb) ZT) Zb)) (Zf (Za (ZI (k .nils)) YU<|Zb) (Zf (Z2 0 (WL Bm)) (Zf (Zp Xo UB<|Zp Uv st2<|Za (ZI (kI 0)) VS<|Zb) ZT)))))⟩
def Zg6:CF:=⟨[(Va,some (2,true)),(V0,none),(Xo,none)],(Zf (Za (Jb Z6 23) st1<|Za (VN 73 [(.str []),(.str [])]) st2<|Za (ZI (kI 0)) VS<|Za (ZI (kI 0)) YU<|Zb) (Zf (Za (ZP Xn) X9<|Za (Zv 134 [Xs]) X4<|Zp Xr X5<|Za (Yy Xl 0) We<|Za (Yy Xl 1) Wk<|Zp XK WN<|Zp X1 Wg<|Zb) (Zf (Za (AB 135 [] [Xn]) WJ<|Zp X6 WD<|Zb) (Zf (Zf (Zp Xi W0<|Za (Wf WC (kI 0) WX false) VD<|Zp Vd VG<|ZF W6 false (ZP Xn) VH<|ZF W6 false (Wn W7 (kI 0) 1) VI<|ZF W6 false (ZP WG) VU<|ZF W6 false (Wf Vv (k (nI .u8 48)) WX false) V6<|Za (Yo W6 (kB true) VA) V7<|Zp VB Uj<|ZF Vg false (ZI XL) Uq<|ZF Vg false (Yk W8 (kI 16777216) U9 W1) UB<|Za (Yo Vg (kB true) Uv) Tb<|Zb) (ZH Uw (Zf (Za (Vx [(.str []),(.str [])] []) Tk<|Za (YB Va UU 2) d0<|Za (ZI (kI 0)) VS<|Za (ZI (kI 5)) YU<|Zb) ZT) Zb)) (Zf (Zf (Zp XL TA<|Za (Zv 136 [U6]) T8<|Zp U7 Sf<|ZF U8 true (ZI XL) SX<|ZF U8 true (OC (kI 10) Rc) SY<|ZF U8 true (Yk SR (kI 16777216) U9 W1) S7<|ZF U8 true (ZI Sa) RB<|ZF Sb false (ZI Xi) RY<|ZF Sb false (ZP Xn) RC<|ZF Sb false (Xf SG) RZ<|ZF Sb false (Yk Sn Sc XF Yt) R0<|ZF Sb false (ZI S4) QY<|ZF So true (ZP Xn) Pj<|ZF So true (ZI Xi) Pk<|ZF So true (Wn Re Qc 1) Pm<|ZF So true (ZP RO) Pw<|ZF So true (Wf QV (k (nI .u8 32)) WX false) Px<|ZF Sb false (Yo So Pq (kB false)) OI<|ZF U8 true (Yo Sb (kB true) OY) O6<|Za (Yo U8 Pr (kB false)) O7<|Zb) (ZH RP (Zf (Za (Vx [(.str []),(.str [])] []) OJ<|Za (YB Va OZ 2) d0<|Za (ZI (kI 0)) VS<|Za (ZI (kI 5)) YU<|Zb) ZT) Zb)) (Zf (Zf (Zp Xi OK<|Za (ZP Xn) O8<|Za (Xf Nh) OM<|Za (Wf Ot QW WX false) ON<|Zp Ni O9<|ZF RQ false (ZP Xn) Na<|ZF RQ false (ZI Xi) OO<|ZF RQ false (Wn Nj Q9 1) Nr<|ZF RQ false (ZP O0) Ns<|ZF RQ false (Wf Nk (k (nI .u8 32)) WX true) Nt<|Za (Yo RQ (kB true) QX) Mq<|Zb) (ZH Nl (Zf (Zp XE Me<|Zp Xi Mr<|Za (N6 Ps Tryz.prog [RR]) MQ<|Za (Yy NV 0) LY<|Za (Yy NV 1) Kr<|Za (Yy NV 2) Ks<|Za (YB Va NW 2) d0<|Zp K0 VS<|Zp LD YU<|Zb) ZT) Zb)) (Zf (Za (ZP Xn) Kt<|Zp Xi LZ<|Za (Yz PR (kI 1)) Ku<|Za (Tt 1 Kk (some Kl) none none) Kv<|Zp M4 Vi<|Zb) (Zf (Zp XL Ju<|Zp Xi In<|Za (Vs K1 Ii) Gf<|Za (Vs Ht (kI 1)) Gg<|Zp LF Ur<|Zb) (Zf (Zf (Zp Wv Io<|Za (Yk LG (kI 3) XF Yt) Ip<|Zb) (ZH Km (Zf (Za (Vx [(.str []),(.str [])] []) Iq<|Za (YB Va Ij 2) d0<|Za (ZI (kI 0)) VS<|Za (ZI (kI 5)) YU<|Zb) ZT) Zb)) (Zf (Zp Xt Jv<|Za (Xf K2) Jw<|Zp Wv L0<|Za (Yk K3 Ql UQ Wd) Jx<|Zp Mo Xe<|Zb) (Zf (Zf (Zp YH Jy<|Zb) (ZH Ik (Zp Xt Kw<|Zp Wv Kx<|Za (Tt 1 Kn none (some M5) none) Ky<|Zp Ko Vi<|Zb) Zb)) (Zf (Zp Xt JA<|Za (Cg K4) Ir<|Za (Zv 137 [LI,(k (.str [61]))]) Gh<|Zp Hu Jz<|Za (Yy LH 0) FU<|Za (Yy LH 1) FV<|Za (Yy LH 2) EV<|Zp G4 Xw<|Zp G5 XB<|Zp Em Xx<|Zb) (Zf (Z2 0 (Zf (Zp YS Cj<|Za (S6 Eo) zn<|Zp G6 Jr<|ZF NQ true (ZI YH) Kh<|ZF NQ true (S6 NR) IP<|Za (Yo NQ Q8 (kB false)) IR<|Zp GY IS<|ZF NS true (ZI Y1) FP<|ZF NS true (Xu Kd) FQ<|ZF NS true (ZI Wv) IT<|ZF NS true (Vs M1 (kI 2)) FR<|ZF NS true (Yk KX Do Ro U5) FT<|Za (Yo NS Mx (kB false)) IU<|Zp GZ IV<|ZF My true (ZI Y1) IW<|ZF My true (Wf IA (k (.str [])) QJ false) IX<|ZF My true (ZI IB) IY<|ZF M2 false (ZI Y1) IZ<|ZF M2 false (Vx [(.str []),(.str [])] [⟨0,1,Nd⟩]) I0<|ZF M2 false (Zv 36 [IC]) I1<|ZF My true (Yo M2 (kB true) G0) I2<|Za (Yo My ID (kB false)) I3<|Zp IE EW<|Zb) (ZH En (Zf (Za (Vx [(.str []),(.str [])] []) I4<|Za (YB Va IF 2) d0<|Za (ZI (kI 0)) VS<|Za (ZI (kI 4)) YU<|Zb) ZT) (Zf (Zp YS I6<|Za (S6 G1) Js<|Zp IG Jt<|ZF NU false (ZI Y1) DQ<|ZF NU false (Vx [(.str []),(.str [])] [⟨0,1,KY⟩]) DT<|ZF NU false (Zv 36 [G2]) DU<|ZF NU false (S6 Dp) DV<|Za (Yo NU (kB true) KZ) DW<|Zp Dq DX<|ZF M3 false (ZI Y1) DY<|ZF M3 false (Xu Dr) DZ<|ZF M3 false (ZI Wv) D1<|ZF M3 false (Vs Ds (kI 2)) D2<|ZF M3 false (Yk Mz Dt U9 W1) D3<|Za (Yo M3 (kB true) G3) za<|Zp BM I5<|Zb) (ZH NT (Zf (Za (Vx [(.str []),(.str [])] []) zb<|Za (YB Va BN 2) d0<|Za (ZI (kI 0)) VS<|Za (ZI (kI 5)) YU<|Zb) ZT) (Zf (Zp YH wR<|Za (S6 yY) wS<|Zp yZ wP<|Zb) (ZH yX (Zf (Za (Vx [(.str []),(.str [])] []) wT<|Za (YB Va y4 2) d0<|Za (ZI (kI 0)) VS<|Za (ZI (kI 4)) YU<|Zb) ZT) (Zf (Zp Xt pW<|Zp Wv pX<|Za (Vs sY (kI 1)) wV<|Za (Wn sX y6 1) zd<|Za (ZP BO) ze<|Za (Wf BP (k (nI .u8 10)) WX true) zf<|Zp BQ wU<|Zb) (ZH y5 (Zf (Za (Vx [(.str []),(.str [])] []) zg<|Za (YB Va BR 2) d0<|Za (ZI (kI 0)) VS<|Za (ZI (kI 5)) YU<|Zb) ZT) Zb))))))))) (Zf (Zp Y1 zh<|Zp Y2 zi<|Zp Y2 zj<|Za (Xu BW) zk<|Za (Vs BX (kI 1)) zl<|Za (Wy BU none (some BY) none) zm<|Za (Vx [(.str []),(.str [])] [⟨0,1,BT⟩,⟨1,1,IH⟩]) wW<|Zp XL wX<|Za (YB Va y7 2) d0<|Zp y8 VS<|Za (ZI (kI 0)) YU<|Zb) ZT))))))))))))))⟩
def Zkg:CF:=⟨[(V0,some (2,true)),(Xo,none),(Xi,none)],(Zf (Za (VN 73 [(.str []),(.str [])]) VS<|Za (ZI (kI 0)) YU<|Za (ZI (kI 0)) WN<|Zb) (Zf (Zf (Zp Z6 Wg<|Za (ZP Xn) WD<|Za (Xf XE) Vi<|Za (Wf XL Xt WX false) Ur<|Zb) (ZH Wv (Zf (Za (Vx [(.str []),(.str [])] []) Xe<|Za (YB V0 YH 2) d0<|Za (ZI (kI 0)) YU<|Za (ZI (kI 4)) WN<|Zb) ZT) Zb)) (Zf (Za (Vx [(.str []),(.str [])] []) Xw<|Za (YB V0 Y1 2) d0<|Za (ZI (kI 0)) YU<|Za (ZI (kI 5)) WN<|Zb) ZT)))⟩
def GF:D:=(Zf (Zf (Zp Va YU<|Zp Z6 WN<|Za (Xf Xi) Wg<|Za (Yk Xo XL XF Yt) WD<|Zp XE Vi<|ZF Xt true (ZI Z6) Ur<|ZF Xt true (ZI Va) Xe<|ZF Xt true (Wn Wv YH 1) Xw<|ZF Xt true (ZP Y1) XB<|ZF Xt true (Yk Y2 (k (nI .u8 48)) UQ Wd) Xx<|Za (Yo Xt YS (kB false)) X5<|Zp Xl X9<|ZF Xs true (ZI Z6) X4<|ZF Xs true (ZI Va) We<|ZF Xs true (Wn Xr XK 1) Wk<|ZF Xs true (ZP X1) WJ<|ZF Xs true (Yk X6 (k (nI .u8 57)) Ro U5) W0<|Za (Yo Xs WC (kB false)) VD<|Zp Vd VG<|ZF W6 true (ZI Va) VH<|ZF W6 true (Yk W7 (kI 9) XF Yt) VI<|Za (Yo W6 WG (kB false)) VU<|Zb) (ZH Vv Zb (WK 0))) (Z2 1 (Zf (Zp V0 V6<|Za (OC (kI 10) VA) V7<|Zp Z6 Uj<|Zp Va Uq<|Za (Wn Vg W8 1) UB<|Za (ZP Uv) Tb<|Za (Vs Uw (k (nI .u8 48))) Tk<|Za (Tx UU .i64) TA<|Za (Yz VB U6) T8<|Zp U7 VS<|Zb) (Zp Va Sf<|Za (Yz U8 (kI 1)) SX<|Zp Rc st2<|Zb))))
def Zhh:CF:=⟨[(Va,none),(V0,none)],(Zf (Za (ZI (kI 0)) st2<|Za (ZI (kI 0)) VS<|Zb) (Zf (Z2 0 (WL GF)) (Zf (Zp Va SY<|Zp V0 S7<|Zp SR st2<|Zp Sa VS<|Zb) ZT)))⟩
def JH:D:=(Zf (Zf (Zp Z6 VS<|Za (Yk V0 (kI 10) U9 W1) YU<|Zp Xo WN<|ZF Xi true (ZI Z6) Wg<|ZF Xi true (Cf XL (kI 10)) WD<|ZF Xi true (Wf XE (kI 0) WX false) Vi<|Za (Yo Xi Xt (kB false)) Ur<|Zb) (ZH Wv Zb (WK 0))) (Z2 1 (Zp Z6 Xe<|Za (HU YH (kI 10)) Xw<|Zp Y1 st0<|Zb)))
def Zhi:CF:=⟨[(Va,none)],(Zf (Za (ZI (kB false)) st2<|Zb) (Zf (Z2 0 (WL JH)) (Zf (Zp Z6 XB<|Za (Wf Y2 (kI 10) WX false) Xx<|Zp YS st2<|Zb) ZT)))⟩
def Zhj:CF:=⟨[(Xo,none),(Xi,none),(XL,none)],(Zf (Za (ZI (k (.str []))) YU<|Za (ZI (k (.str []))) WN<|Za (ZI (kB false)) Wg<|Zb) (Zf (Zp Z6 WD<|Zp Xn Vi<|Za (Zv 162 [XE,Xt]) Ur<|Za (Yy Wv 0) Xe<|Za (Yy Wv 1) Xw<|Za (Yy Wv 2) XB<|Zp YH YU<|Zp Y1 WN<|Zp Y2 Wg<|Zb) ZT))⟩
def Zdf:CF:=⟨[(Xo,none),(Xi,none),(XL,none)],(Zf (Za (ZI (k (.str []))) YU<|Za (ZI (k (.str []))) WN<|Za (ZI (kB false)) Wg<|Zb) (Zf (Zf (Zp Z6 Vi<|Zp Xn Ur<|Za (Zv 124 [Xt,Wv]) Xe<|Zp YH WD<|Zb) (Zf (Zp XE Xw<|Za (Yk Y1 (kI 0) UQ Wd) XB<|Zb) (ZH Y2 (Zf (W5 [YT (ZI Z6) [(st0,Z6)] Xx 0 0,YT (ZI XE) [(WD,XE)] X5 1 0,YT (Wy YS none (some Xl) none) [(Xx,YS),(X5,Xl)] X9 2 3,YT (ZI Z6) [(st0,Z6)] X4 3 0,YT (ZI XE) [(WD,XE)] We 4 0,YT (ZI Xn) [(st1,Xn)] Wk 5 0,YT (Xu X1) [(Wk,X1)] WJ 6 32,YT (Yz XK X6) [(We,XK),(WJ,X6)] W0 7 112,YT (Wy Xr (some WC) none none) [(X4,Xr),(W0,WC)] VD 8 248,⟨ZI Xs,none,[(X9,Xs)],YU,.eff,9,7⟩,⟨ZI Vd,none,[(VD,Vd)],WN,.eff,10,1023⟩,⟨ZI (kB true),none,[],Wg,.eff,11,2047⟩]) ZT) Zb))) (Zf (Zp Z6 VG<|Zp W6 YU<|Za (ZI (k (.str []))) WN<|Za (ZI (kB false)) Wg<|Zb) ZT)))⟩
def tV:D:=(Zf (Za (Yk W8 Vg XF Yt) UB<|Zb) (Zf (ZH Uv Zb (WK 0)) (Zf (Z2 1 (Zf (Za (Wn VB W8 9) Tb<|Za (UE Uw 9) Tk<|Za (VN 34 [(.str []),(nI .i64 0),(nI .u32 0),(nI .u32 0),(nI .u32 0),(nI .i64 0),.nils,.nils,(.str [])]) XB<|Za (YB Y2 UU 9) d0<|Zb) (Zf (Za (UE Y2 9) T8<|Za (Zv 6 [U7]) Sf<|Zp U8 TA<|Za (Yy U6 0) SX<|Za (Yy U6 1) SY<|Zp Rc Xx<|Zp SR X5<|Zb) (Zf (Zf (Zp Xl S7<|Za (Wf Sa (kI 0) WX false) RB<|Za (UE Y2 9) RY<|Za (Zv 7 [Sn]) RC<|Za (Wf Sb SG gX true) RZ<|Zp Sc R0<|ZF S4 false (ZI Xl) QY<|ZF S4 false (Wf So (kI 0) WX true) Pj<|ZF S4 false (ZI Re) Pk<|ZF Qc true (ZI Xl) Pm<|ZF Qc true (Wf RO (kI 1) WX true) Pw<|ZF S4 false (Yo Qc QV (kB false)) Px<|Za (Yo S4 (kB true) Pq) OI<|Zb) (ZH OY (Zf (Za (ZI (kB false)) Wg<|Zb) ZT) Zb)) (Zf (Zp Wv O6<|Zp Pr O7<|ZF RP true (ZI Xl) OJ<|ZF RP true (Wf OZ (kI 0) WX false) OK<|Za (Yo RP Ot (kB false)) O8<|Zp Nh Ur<|Zb) (W5 [YT (ZI YH) [(Xe,YH)] OM 0 0,YT (ZI YS) [(Xx,YS)] ON 1 0,YT (YG Y2 1) [(XB,Y2)] Na 3 0,YT (YG Nj 6) [(Na,Nj)] OO 4 8,⟨ZP Q9,none,[(OO,Q9)],Nr,.read,5,24⟩,YT (YG Y2 1) [(XB,Y2)] Nt 7 0,YT (YG QX 6) [(Nt,QX)] Mq 8 128,⟨ZP Nl,none,[(Mq,Nl)],Me,.read,9,384⟩,YT (Xf Ps) [(Me,Ps)] Mr 10 896,⟨WM QW Ni 5 1 1,none,[(OM,QW),(ON,Ni)],O9,.eff,2,3⟩,⟨WM RQ O0 5 1 1,none,[(O9,RQ),(Nr,O0)],Ns,.eff,6,63⟩,⟨Zv 8 [RR],none,[(Mr,RR)],MQ,.eff,11,2047⟩,⟨Oy Nk NV 5 1 1 [(nI .u8 0)],none,[(Ns,Nk),(MQ,NV)],LY,.eff,12,4095⟩,⟨ZI NW,none,[(LY,NW)],Xe,.eff,13,8191⟩])))))) (Za (Yz W8 (kI 1)) Kr<|Zp K0 Uq<|Zb))))
def c3:CF:=⟨[(XL,none)],(Zf (Za (ZI (kB false)) Wg<|Zb) (Zf (Zp Z6 W0<|Za (Zv 4 [WC]) VD<|Zp Vd st0<|Zb) (Zf (Zp Z6 VH<|Za (Zv 5 [W7]) VI<|Zp WG VG<|Za (Yy W6 0) VU<|Za (Yy W6 1) V6<|Zp Vv WD<|Zp VA Vi<|Zb) (Zf (Za (ZI (kB true)) Ur<|Zb) (Zf (Za (ZI (k .nils)) Xe<|Zb) (Zf (Zf (Zp Z6 V7<|Za (Xf VB) Uj<|Za (ZI (kI 0)) Uq<|Zb) (Z2 0 (WL tV))) (Zf (Zf (Zp Wv Ks<|Za (S6 LD) Kt<|Zb) (ZH Kk (Zf (Zp Xt LZ<|Za (Wf PR (kI 1) WX false) Ku<|Zp Kl Kv<|ZF M4 true (ZI XE) Ju<|ZF M4 true (Xf K1) In<|ZF M4 true (Wf Ii (kI 0) WX false) Gf<|Za (Yo M4 Ht (kB false)) Gg<|Zp LF Io<|ZF LG true (Zv 9 []) Ip<|Za (Yo LG Km (kB false)) Iq<|Zp Ij Wg<|Zb) ZT) Zb)) (Zf (Zp YH Jv<|Za (Oy K2 (kI 1024) 5 1 1 [(nI .u8 0)]) Jw<|Zp K3 Xe<|Zb) (Zf (W5 [YT (ZI XE) [(WD,XE)] Jx 0 0,YT (ZI Xn) [(st1,Xn)] Kw 2 0,YT (ZI Xn) [(st1,Xn)] Kx 3 0,YT (Xf M5) [(Kx,M5)] Ky 4 8,YT (SJ false [Ko,(kI 600)]) [(Ky,Ko)] Jz 5 24,⟨Tt 1 Kn none (some LH) none,none,[(Kw,Kn),(Jz,LH)],JA,.read,6,60⟩,⟨WM (k .nils) Mo 5 1 1,none,[(Jx,Mo)],Jy,.eff,1,1⟩,⟨WM Ik K4 5 1 1,none,[(Jy,Ik),(JA,K4)],Ir,.eff,7,127⟩,⟨Zv 10 [LI],none,[(Ir,LI)],Gh,.eff,8,255⟩,YT (ZI Hu) [(Gh,Hu)] L0 9 511,YT (Yy Ql 0) [(L0,Ql)] FU 10 1023,YT (Yy Ql 1) [(L0,Ql)] FV 11 1023,⟨ZI G4,none,[(FU,G4)],X9,.eff,12,2047⟩,⟨ZI G5,none,[(FV,G5)],X4,.eff,13,8191⟩]) (Zf (Zf (Zp Xt EV<|Za (Wf Em (kI 0) WX true) EW<|Zp En Cj<|ZF Eo false (ZI Xr) zn<|ZF Eo false (Wf G6 (kI 0) WX true) Jr<|Za (Yo Eo (kB true) NQ) Kh<|Zp NR IP<|ZF Q8 false (ZI XE) IR<|ZF Q8 false (Cg GY) IS<|ZF Q8 false (ZI YH) FP<|ZF Q8 false (Cg Kd) FQ<|ZF Q8 false (Wf NS KX QJ true) IT<|Za (Yo Q8 (kB true) M1) FR<|Zp Do FT<|ZF Mx false (ZI XE) IU<|ZF Mx false (Xf GZ) IV<|ZF Mx false (Cf My (kI 512)) IW<|ZF Mx false (Wf IA (kI 0) WX true) IX<|Za (Yo Mx (kB true) IB) IY<|Zp M2 IZ<|ZF Nd false (ZI Z6) I0<|ZF Nd false (ZI Xs) I1<|ZF Nd false (Zv 11 [IC,G0]) I2<|ZF Nd false (S6 ID) I3<|Za (Yo Nd (kB true) IE) I4<|Zb) (ZH IF (Zf (Za (ZI (kB false)) Wg<|Zb) ZT) Zb)) (Zf (Zp Va I5<|Za (Tx NT .i64) I6<|Zp XE Js<|Za (Xf IG) Jt<|Za (Cf G1 NU) DQ<|Zp KY We<|Zb) (Zf (Zp XE DU<|Zp XK DV<|Za (Tt 1 Dp none (some KZ) none) DW<|Za (Zv 10 [Dq]) DX<|Zp M3 DT<|Za (Yy G2 0) DY<|Za (Yy G2 1) DZ<|Zp Dr Wk<|Zp Mz WJ<|Zb) (Zf (Zp X6 D1<|Za (Wf Ds (kI 4) WX false) D2<|Zp Dt D3<|ZF G3 true (Zv 9 []) za<|Za (Yo G3 BM (kB false)) zb<|Zp BN Wg<|Zb) ZT)))))))))))))⟩
def c9:CF:=⟨[(Z6,none)],(Zf (Za (ZI (kB false)) st0<|Zb) (Zf (Za (V5 5 1 3 (List.replicate 3 [(nI .u8 0)]).flatten [⟨0,1,(k (nI .u8 97))⟩,⟨1,1,(k (nI .u8 98))⟩,⟨2,1,(k (nI .u8 99))⟩]) Wg<|Za (xQ XL) WD<|Za (Vx [(nI .i64 0),(nI .u32 0),(nI .u32 0),(nI .u32 0),(nI .i64 0),.nils,.nils,(.str [])] [⟨0,1,(kI 2)⟩,⟨6,1,XE⟩]) Vi<|Za (Vx [(.str []),(nI .i64 0),(nI .u32 0),(nI .u32 0),(nI .u32 0),(nI .i64 0),.nils,.nils,(.str [])] [⟨0,1,(k (.str [97]))⟩,⟨1,8,Xt⟩]) Ur<|Za (V5 34 9 1 [(.str []),(nI .i64 0),(nI .u32 0),(nI .u32 0),(nI .u32 0),(nI .i64 0),.nils,.nils,(.str [])] [⟨0,9,Wv⟩]) Xe<|Za (Zv 5 [YH]) Xw<|Zp Y1 WN<|Za (Yy Xi 0) XB<|Za (Yy Xi 1) Xx<|Zp Y2 st1<|Zp YS st2<|Zb) (Zf (Za (Zv 25 [(kI 254)]) X9<|Za (Vx [(nI .i64 0),(nI .u32 0),(nI .u32 0),(nI .u32 0),(nI .i64 0),.nils,.nils,(.str [])] [⟨0,1,(kI 1)⟩]) X4<|Za (Vx [(.str []),(nI .i64 0),(nI .u32 0),(nI .u32 0),(nI .u32 0),(nI .i64 0),.nils,.nils,(.str [])] [⟨0,1,Xs⟩,⟨1,8,Xr⟩]) We<|Za (V5 34 9 1 [(.str []),(nI .i64 0),(nI .u32 0),(nI .u32 0),(nI .u32 0),(nI .i64 0),.nils,.nils,(.str [])] [⟨0,9,XK⟩]) Wk<|Za (Zv 5 [X1]) WJ<|Zp X6 X5<|Za (Yy Xl 0) W0<|Za (Yy Xl 1) VD<|Zp WC VS<|Zp Vd YU<|Zb) (Zf (Zp Va VG<|Za (Wf W6 (kI 0) WX false) VH<|Zp W7 VI<|ZF WG true (ZI Xn) VU<|ZF WG true (Xf Vv) V6<|ZF WG true (Wf VA (kI 2048) WX false) V7<|Za (Yo WG VB (kB false)) Uj<|Zp Vg Uq<|ZF W8 true (ZI Xo) UB<|ZF W8 true (Wf Uv (kI 0) WX false) Tb<|Za (Yo W8 Uw (kB false)) Tk<|Zp UU TA<|ZF U6 true (ZI V0) T8<|ZF U6 true (Xf U7) Sf<|ZF U6 true (Wf U8 (kI 3072) WX false) SX<|Za (Yo U6 Rc (kB false)) SY<|Zp SR st0<|Zb) ZT))))⟩
def Bh:D:=(Zf (Zf (Zp Xo WN<|Zp Z6 Wg<|Za (Yk Xi XL XF Yt) WD<|Zb) (ZH XE Zb (WK 0))) (Zf (Z2 1 (Zp V0 Xe<|Za (Yz YH (k (.str [47,100]))) Xw<|Zp Y1 VS<|Zb)) (Zp Xo Vi<|Za (Yz Xt (kI 1)) Ur<|Zp Wv YU<|Zb)))
def c25:CF:=⟨[(Va,none)],(Zf (Za (ZI (k (.str []))) st2<|Zb) (Zf (Za (ZI (k (.str [100]))) VS<|Zb) (Zf (Zf (Za (ZI (kI 1)) YU<|Zb) (Z2 0 (WL Bh))) (Zf (Zp V0 XB<|Zp Y2 st2<|Zb) ZT))))⟩
def Be:D:=(Zf (Zf (Zp Xi Xw<|Zp Z6 XB<|Za (Xf Y2) Xx<|Za (Yk Y1 YS XF Yt) X5<|Zb) (ZH Xl Zb (WK 0))) (Zf (Z2 1 (Zf (W5 [YT (ZI Z6) [(st0,Z6)] We 0 0,YT (ZI Xi) [(WN,Xi)] Wk 1 0,YT (Wn XK X1 9) [(We,XK),(Wk,X1)] WJ 2 3,⟨UE X6 9,none,[(WJ,X6)],W0,.read,3,7⟩,YT (ZI Xn) [(st1,Xn)] VD 4 0,YT (ZI Xi) [(WN,Xi)] VG 5 0,YT (Wn Vd W6 9) [(VD,Vd),(VG,W6)] VH 6 48,⟨UE W7 9,none,[(VH,W7)],VI,.read,7,112⟩,⟨Zv 28 [WC,WG],none,[(W0,WC),(VI,WG)],VU,.eff,8,255⟩,YT (S6 Vv) [(VU,Vv)] V6 9 511]) (ZH VA (Zf (Za (ZI (kB false)) YU<|Zb) ZT) Zb))) (Zp Xi X9<|Za (Yz Xs (kI 1)) X4<|Zp Xr WN<|Zb)))
def c11:CF:=⟨[(Xo,none)],(Zf (Za (ZI (kB false)) YU<|Zb) (Zf (Zf (Zp Z6 Wg<|Za (Xf XL) WD<|Zp Xn Vi<|Za (Xf Xt) Ur<|Za (Wf XE Wv WX true) Xe<|Zb) (ZH YH (Zf (Za (ZI (kB false)) YU<|Zb) ZT) Zb)) (Zf (Zf (Za (ZI (kI 0)) WN<|Zb) (Z2 0 (WL Be))) (Zf (Za (ZI (kB true)) YU<|Zb) ZT))))⟩
def Bi:D:=(Zf (Zf (Zp XE Ju<|Za (YG Xi 5) In<|Za (ZP Ii) Gf<|Za (Xf Ht) Gg<|Za (Yk K1 LF XF Yt) Io<|Zb) (ZH LG Zb (WK 0))) (Zf (Z2 1 (Zf (W5 [YT (YG Xi 5) [(WN,Xi)] Jv 0 0,⟨ZP K2,none,[(Jv,K2)],Jw,.read,1,1⟩,YT (ZI XE) [(WD,XE)] L0 2 0,YT (Wn K3 Ql 2) [(Jw,K3),(L0,Ql)] Jx 3 7,⟨UE Mo 2,none,[(Jx,Mo)],Jy,.read,4,15⟩,YT (YG XL 5) [(Wg,XL)] Kw 5 0,⟨ZP Kn,none,[(Kw,Kn)],Kx,.read,6,32⟩,YT (ZI XE) [(WD,XE)] Ky 7 0,YT (Wn M5 Ko 2) [(Kx,M5),(Ky,Ko)] Jz 8 224,⟨UE LH 2,none,[(Jz,LH)],JA,.read,9,480⟩,YT (Wf Ik K4 (Dg Tryz.prog 10 44) true) [(Jy,Ik),(JA,K4)] Ir 10 1023]) (ZH LI (Zf (Za (ZI (kB false)) YU<|Zb) ZT) Zb))) (Zp XE Ip<|Za (Yz Km (kI 1)) Iq<|Zp Ij WD<|Zb)))
def c28:CF:=⟨[(Xo,none)],(Zf (Za (Jb Z6 34) st2<|Za (Jb Xn 34) VS<|Za (ZI (kB false)) YU<|Zb) (Zf (Za (YG Va 1) Vi<|Za (UE Xt 8) Ur<|Za (VN 32 [(nI .i64 0),(nI .u32 0),(nI .u32 0),(nI .u32 0),(nI .i64 0),.nils,.nils,(.str [])]) WN<|Za (YB Xi Wv 8) d0<|Zb) (Zf (Za (YG V0 1) Xe<|Za (UE YH 8) Xw<|Za (VN 32 [(nI .i64 0),(nI .u32 0),(nI .u32 0),(nI .u32 0),(nI .i64 0),.nils,.nils,(.str [])]) Wg<|Za (YB XL Y1 8) d0<|Zb) (Zf (Zf (Za (YG Va 0) XB<|Za (ZP Y2) Xx<|Za (YG V0 0) X5<|Za (ZP Xl) X9<|Za (Wf YS Xs QJ true) X4<|Zp Xr We<|ZF XK false (YG Xi 0) Wk<|ZF XK false (ZP X1) WJ<|ZF XK false (YG XL 0) W0<|ZF XK false (ZP WC) VD<|ZF XK false (Wf X6 Vd WX true) VG<|Za (Yo XK (kB true) W6) VH<|Zp W7 VI<|ZF WG false (YG Xi 1) VU<|ZF WG false (ZP Vv) V6<|ZF WG false (YG XL 1) V7<|ZF WG false (ZP VB) Uj<|ZF WG false (Wf VA Vg WX true) Uq<|Za (Yo WG (kB true) W8) UB<|Zp Uv Tb<|ZF Uw false (YG Xi 2) Tk<|ZF Uw false (ZP UU) TA<|ZF Uw false (YG XL 2) T8<|ZF Uw false (ZP U7) Sf<|ZF Uw false (Wf U6 U8 WX true) SX<|Za (Yo Uw (kB true) Rc) SY<|Zp SR S7<|ZF Sa false (YG Xi 3) RB<|ZF Sa false (ZP Sb) RY<|ZF Sa false (YG XL 3) RC<|ZF Sa false (ZP SG) RZ<|ZF Sa false (Wf Sn Sc WX true) R0<|Za (Yo Sa (kB true) S4) QY<|Zp So Pj<|ZF Re false (YG Xi 4) Pk<|ZF Re false (ZP Qc) Pm<|ZF Re false (YG XL 4) Pw<|ZF Re false (ZP QV) Px<|ZF Re false (Wf RO Pq WX true) OI<|Za (Yo Re (kB true) OY) O6<|Zp Pr O7<|ZF RP false (YG Xi 7) OJ<|ZF RP false (ZP OZ) OK<|ZF RP false (YG XL 7) O8<|ZF RP false (ZP Nh) OM<|ZF RP false (Wf Ot QW QJ true) ON<|Za (Yo RP (kB true) Ni) O9<|Zb) (ZH RQ (Zf (Za (ZI (kB false)) YU<|Zb) ZT) Zb)) (Zf (Zf (Za (YG Xi 6) Na<|Za (ZP Nj) OO<|Za (Cg Q9) Nr<|Za (YG XL 6) Ns<|Za (ZP Nk) Nt<|Za (Cg QX) Mq<|Za (Wf O0 Nl QJ true) Me<|Zp Ps Mr<|ZF RR false (YG Xi 5) MQ<|ZF RR false (ZP NV) LY<|ZF RR false (Xf NW) Kr<|ZF RR false (YG XL 5) Ks<|ZF RR false (ZP LD) Kt<|ZF RR false (Xf Kk) LZ<|ZF RR false (Wf K0 PR WX true) Ku<|Za (Yo RR (kB true) Kl) Kv<|Zb) (ZH M4 (Zf (Za (ZI (kB false)) YU<|Zb) ZT) Zb)) (Zf (Zf (Za (ZI (kI 0)) WD<|Zb) (Z2 0 (WL Bi))) (Zf (Za (ZI (kB true)) YU<|Zb) ZT)))))))⟩
def c83:CF:=⟨[(XL,none)],(Zf (Za (ZI (k (nI .u32 0))) Wg<|Zb) (Zf (Zp Z6 Vi<|Zp Xn Ur<|Zp Va Xe<|Za (Zv 84 [Xt,Wv,YH]) Xw<|Zp Y1 WD<|Zb) (Zf (Zp XE XB<|Za (Yk Y2 (kI 0) UQ Wd) Xx<|Zp YS X5<|ZF Xl true (ZI XE) X9<|ZF Xl true (Yk Xs (kI 4294967296) XF Yt) X4<|Za (Yo Xl Xr (kB false)) We<|Za (Zv 54 [XK,(kI 5)]) Wk<|Zb) (Zf (Zp XE WJ<|Za (Tx X6 .u32) W0<|Zp WC Wg<|Zb) ZT))))⟩
def c84:CF:=⟨[(XL,none)],(Zf (Za (ZI (kI 0)) Wg<|Zb) (Zf (Zf (Zp Z6 XB<|Za (Um Y2) Xx<|Za (YG YS 1) X5<|Za (ZP Xl) X9<|Zp Va X4<|Za (Zv 113 [Xs,Xr]) We<|Zp XK Xw<|Za (Yy Y1 0) Wk<|Za (Yy Y1 1) WJ<|Zp X1 WD<|Zp X6 Vi<|Zb) (Zf (Zp Xt W0<|Zb) (ZH WC (Zf (Zp XE VG<|Za (Zv 114 [W6]) VH<|Zp W7 VD<|Za (Yy Vd 0) VI<|Za (Yy Vd 1) VU<|Zp WG Ur<|Zp Vv Xe<|Zb) (Zf (Zp YH V6<|Za (Zv 54 [VA,(kI 5)]) V7<|Zb) (Zf (Zp Wv Uj<|Zp Vg Wg<|Zb) ZT))) Zb))) (Zf (Zp Xn Uq<|Zp Va UB<|Za (Zv 80 [W8,Uv]) Tb<|Zp Uw Wg<|Zb) ZT)))⟩
def c86:CF:=⟨[(XL,none)],(Zf (Za (ZI (k (.str []))) Wg<|Zb) (Zf (Zp Z6 X4<|Zp Xn We<|Za (Zv 87 [Xr,XK,(k (.str [112,97,116,104])),(k (.str [110,97,109,101]))]) Wk<|Zp X1 WD<|Zb) (Zf (Zf (Zp Z6 W0<|Za (Um WC) VD<|Za (YG Vd 1) VG<|Za (ZP W6) VH<|Za (Zv 113 [W7,(k (.str [112,97,116,104]))]) VI<|Zp WG WJ<|Za (Yy X6 0) VU<|Za (Yy X6 1) V6<|Zp Vv Vi<|Zp VA Ur<|Zb) (Zf (Zp Wv V7<|Za (S6 VB) Uj<|Zb) (ZH Vg (Zf (Zp Xn UB<|Za (Um Uv) Tb<|Za (YG Uw 0) Tk<|Za (Zv 40 [UU,(k (.str [112,114,101,102,105,120]))]) TA<|Zp U6 Uq<|Za (Yy W8 0) T8<|Za (Yy W8 1) Sf<|Zp U7 Xe<|Zp U8 Xw<|Zb) (Zf (Zp YH SX<|Za (Zv 115 [Rc]) SY<|Za (Wf SR (k (.str [])) QJ true) S7<|Zb) (ZH Sa (Zp YH RB<|Za (Zv 115 [Sb]) RY<|Za (Yz Sn (k (.str [47]))) RC<|Zp XE RZ<|Za (Yz SG Sc) R0<|Zp S4 WD<|Zb) Zb))) Zb))) (Zf (Zp XE Pj<|Za (Zv 116 [Re]) Pk<|Zp Qc QY<|Za (Yy So 0) Pm<|Za (Yy So 1) Pw<|Zp RO XB<|Zp QV Xx<|Zb) (Zf (Zp YS Px<|Za (Wf Pq (kI 0) WX false) OI<|Zp YS O6<|Za (Zv 54 [OY,Pr]) O7<|Zb) (Zf (Zf (Zp Y2 OJ<|Za (Wf OZ (k (.str [])) QJ false) OK<|Zb) (ZH Ot (Zf (Zp Va O8<|Za (Wf Nh (kI 1) WX false) OM<|Za (Zv 54 [QW,(kI 30)]) ON<|Zb) (Zf (Za (ZI (k (.str []))) Wg<|Zb) ZT)) Zb)) (Zf (Zp Y2 Na<|Za (Zv 22 [Nj]) OO<|Zp Q9 O9<|Za (Yy RQ 0) Nr<|Za (Yy RQ 1) Ns<|Zp O0 X5<|Zp Nk X9<|Zb) (Zf (Zp Xl Nt<|Za (Wf QX (kI 0) WX true) Mq<|Za (Zv 54 [Nl,(kI 32)]) Me<|Zb) (Zf (Zp Y2 Mr<|Zp RR Wg<|Zb) ZT)))))))))⟩
def c87:CF:=⟨[(Xt,none)],(Zf (Za (ZI (k (.str []))) Vi<|Zb) (Zf (Zf (Zp Z6 X5<|Za (Um Xl) X9<|Za (YG Xs 1) X4<|Za (ZP Xr) We<|Zp Va Wk<|Za (Zv 113 [XK,X1]) WJ<|Zp X6 Xx<|Za (Yy YS 0) W0<|Za (Yy YS 1) VD<|Zp WC Ur<|Zp Vd Xe<|Zb) (Zf (Zp YH VG<|Zb) (ZH W6 (Zf (Zp Wv VH<|Zp W7 Vi<|Zb) ZT) Zb))) (Zf (Zp Xn VU<|Za (Um Vv) V6<|Za (YG VA 0) V7<|Zp V0 Uj<|Za (Zv 40 [VB,Vg]) Uq<|Zp W8 VI<|Za (Yy WG 0) UB<|Za (Yy WG 1) Tb<|Zp Uv Xw<|Zp Uw XB<|Zb) (Zf (Zp Y1 Tk<|Za (Zv 115 [UU]) TA<|Zp U6 Vi<|Zb) ZT))))⟩
def Hl:D:=(Zf (Za (Yk XK Xr XF Yt) Wk<|Zb) (Zf (ZH X1 Zb (WK 0)) (Zf (Z2 1 (Zf (Za (Wn Xs XK 2) WJ<|Za (UE X6 2) W0<|Za (VN 73 [(.str []),(.str [])]) WN<|Za (YB Xi WC 2) d0<|Zb) (Zf (Za (YG Xi 0) VG<|Za (ZP W6) VH<|Za (Zv 117 [W7,(k (.str [83,67,72,73,76,89,46,120,97,116,116,114,46]))]) VI<|Zp WG VD<|Za (Yy Vd 0) VU<|Za (Yy Vd 1) V6<|Zp Vv Wg<|Zp VA WD<|Zb) (Zf (Zp XE V7<|Zp VB Uj<|ZF Vg true (ZI XL) Uq<|ZF Vg true (Wf W8 (k (.str [])) QJ true) UB<|Za (Yo Vg Uv (kB false)) Tb<|Zb) (ZH Uw (Zp V0 Tk<|Zp XL TA<|Za (YG Xi 1) T8<|Za (ZP U7) Sf<|Za (Vx [(.str [])] [⟨0,1,U8⟩]) SX<|Za (J2 QJ UU U6 Rc) d0<|Zb) Zb))))) (Za (Yz XK (kI 1)) SY<|Zp SR We<|Zb))))
def Bn:D:=(Zf (Za (Yk Sc SG XF Yt) R0<|Zb) (Zf (ZH S4 Zb (WK 2)) (Zf (Z2 3 (Zf (Za (Wn Sn Sc 1) QY<|Za (ZP So) Pj<|Zp Re Xe<|Zb) (Zp Xt Pk<|Zp YH Pm<|Zp V0 Pw<|Zp YH Px<|Za (ME QJ (.agg [(.str [])]) false QV Pq) OI<|Za (Za7 OY 0) O6<|Za (Vx [(.str []),(.str [])] [⟨0,1,RO⟩,⟨1,1,Pr⟩]) O7<|Za (V5 44 2 1 [(.str []),(.str [])] [⟨0,2,RP⟩]) OJ<|Za (WM Qc OZ 44 2 32) OK<|Zp Ot Vi<|Zb))) (Za (Yz Sc (kI 1)) O8<|Zp Nh RZ<|Zb))))
def c88:CF:=⟨[(Va,none)],(Zf (Za (ZI (k .nils)) st2<|Zb) (Zf (Za (mA) Xw<|Zp Y1 VS<|Zb) (Zf (Zf (Zp Z6 XB<|Za (Um Y2) Xx<|Za (YG YS 1) X5<|Za (ZP Xl) X9<|Za (Xf Xs) X4<|Za (ZI (kI 0)) We<|Zb) (Z2 0 (WL Hl))) (Zf (Za (ZI (k .nils)) Vi<|Zb) (Zf (Zf (Zp V0 S7<|Za (Zv 119 [Sa]) RB<|Za (Zv 118 [Sb]) RY<|Za (Xf Sn) RC<|Za (ZI (kI 0)) RZ<|Zb) (Z2 2 (WL Bn))) (Zf (Zp Xt OM<|Za (Xf QW) ON<|Za (Yk Ni (kI 16) Ro U5) O9<|Za (Zv 54 [RQ,(kI 42)]) Na<|Zb) (Zf (Zp Xt OO<|Zp Q9 st2<|Zb) ZT)))))))⟩
def c57:CF:=⟨[],(Zf (Zp Va Xw<|Za (Vx [(nI .i64 0),(nI .u32 0),(nI .u32 0),(nI .u32 0),(nI .i64 0),.nils,.nils,(.str [])] [⟨0,1,Y1⟩]) XB<|Za (VN 32 [(nI .i64 0),(nI .u32 0),(nI .u32 0),(nI .u32 0),(nI .i64 0),.nils,.nils,(.str [])]) Wg<|Za (YB XL Y2 8) d0<|Zb) (Zf (Zp Xn Xx<|Za (Zv 80 [YS,(k (.str [109,111,100,101]))]) X5<|Zp Xl WD<|Zb) (Zf (Zp XE X9<|Za (Yk Xs (kI 0) UQ Wd) X4<|Za (Zv 54 [Xr,(kI 5)]) We<|Zb) (Zf (Zp XE Wk<|Za (N5 X1 (kI 4095) SU) WJ<|Za (Tx X6 .u32) W0<|Za (YG XL 1) VD<|Za (YB Vd WC 1) d0<|Zb) (Zf (Zp Z6 VG<|Zp Xn VH<|Za (Zv 83 [W6,W7,(k (.str [117,105,100]))]) VI<|Za (YG XL 2) VU<|Za (YB Vv WG 1) d0<|Zb) (Zf (Zp Z6 V6<|Zp Xn V7<|Za (Zv 83 [VA,VB,(k (.str [103,105,100]))]) Uj<|Za (YG XL 3) Uq<|Za (YB W8 Vg 1) d0<|Zb) (Zf (Zp Z6 UB<|Zp Xn Tb<|Za (Zv 84 [Uv,Uw,(k (.str [115,105,122,101]))]) Tk<|Za (Zv 79 [UU]) TA<|Zp U6 Vi<|Zb) (Zf (Zp Z6 T8<|Zp Xn Sf<|Za (Zv 84 [U7,U8,(k (.str [109,116,105,109,101]))]) SX<|Za (YG XL 4) SY<|Za (YB SR Rc 1) d0<|Zb) (Zf (Zf (Zp Z6 S7<|Zp Xt RB<|Za (Zv 82 [Sa,Sb]) RY<|Zp Sn Ur<|Zb) (Zf (Zp Va RC<|Za (Wf SG (kI 2) WX false) RZ<|Zb) (ZH Sc (Zp Wv R0<|Za (Zv 85 [S4]) QY<|Za (YG XL 6) Pj<|Za (YB Re So 1) d0<|Zb) Zb))) (Zf (Zp Z6 Pk<|Zp Xn Pm<|Zp Va Pw<|Za (Zv 86 [Qc,RO,QV]) Px<|Zp Pq Xe<|Zb) (Zf (Zf (Zp Va OI<|Za (Wf OY (kI 3) WX false) O6<|Zp Pr O7<|ZF RP true (ZI YH) OJ<|ZF RP true (Wf OZ (k (.str [])) QJ true) OK<|Za (Yo RP Ot (kB false)) O8<|Zb) (ZH Nh (Zf (Zp Z6 OM<|Zp Xn ON<|Za (Zv 87 [QW,Ni,(k (.str [108,105,110,107,112,97,116,104])),(k (.str [108,105,110,107,110,97,109,101]))]) O9<|Za (YG XL 7) Na<|Za (YB Nj RQ 1) d0<|Zb) (Zf (Za (YG XL 7) OO<|Za (ZP Q9) Nr<|Za (Wf O0 (k (.str [])) QJ true) Ns<|Zp Nk Nt<|ZF QX true (YG XL 7) Mq<|ZF QX true (ZP Nl) Me<|ZF QX true (Zv 51 [Ps,(k (nI .u8 0))]) Mr<|ZF QX true (Yk RR (kI 0) XF Yt) MQ<|Za (Yo QX NV (kB false)) LY<|Za (Zv 54 [NW,(kI 5)]) Kr<|Zb) (Za (YG XL 7) Ks<|Za (ZP LD) Kt<|Za (Xu Kk) LZ<|Za (Yk PR (kI 4096) Ro U5) Ku<|Za (Zv 54 [Kl,(kI 3)]) Kv<|Zb))) Zb)) (Zf (Zf (Zp YH Ju<|Za (Wf K1 (k (.str [])) QJ true) In<|Zb) (ZH Ii (Zf (Zp Z6 Gf<|Za (Zv 88 [Ht]) Gg<|Za (YG XL 5) Io<|Za (YB LG LF 1) d0<|Zb) (Zf (Zp Z6 Ip<|Za (Um Km) Iq<|Za (YG Ij 3) Jv<|Za (ZP K2) Jw<|Za (Xf K3) L0<|Za (Yk Ql (kI 8192) XF Yt) Jx<|Za (Zv 54 [Mo,(kI 42)]) Jy<|Zb) (W5 [YT (ZI Z6) [(st0,Z6)] Kw 0 0,YT (ZI Z6) [(st0,Z6)] Kx 1 0,YT (Um M5) [(Kx,M5)] Ky 2 2,YT (YG Ko 3) [(Ky,Ko)] Jz 3 6,⟨ZP LH,none,[(Jz,LH)],JA,.read,4,14⟩,YT (ZI YH) [(Xe,YH)] Ir 5 0,⟨UE XL 8,none,[(Wg,XL)],Gh,.read,6,0⟩,⟨Vx [(.str []),(nI .i64 0),(nI .u32 0),(nI .u32 0),(nI .u32 0),(nI .i64 0),.nils,.nils,(.str [])] [⟨0,1,LI⟩,⟨1,8,Hu⟩],none,[(Ir,LI),(Gh,Hu)],FU,.free,7,96⟩,⟨V5 34 9 1 [(.str []),(nI .i64 0),(nI .u32 0),(nI .u32 0),(nI .u32 0),(nI .i64 0),.nils,.nils,(.str [])] [⟨0,9,G4⟩],none,[(FU,G4)],FV,.free,8,224⟩,⟨WM K4 G5 34 9 112,none,[(JA,K4),(FV,G5)],EV,.eff,9,510⟩,YT (Um Kn) [(Kw,Kn)] EW 10 1023,YT (YG En 3) [(EW,En)] Cj 11 2047,⟨YB Eo Em 1,none,[(Cj,Eo),(EV,Em)],d0,.eff,12,4095⟩]))) Zb)) (Zp Z6 zn<|Zp Z6 Jr<|Za (Um G6) Kh<|Za (YG NR 1) IP<|Za (YB Q8 (k .nils) 1) d0<|Za (Um NQ) IR<|Za (YG GY 2) IS<|Za (YB NS (kB false) 1) d0<|Zb)))))))))))))⟩
def c85:CF:=⟨[(Va,none)],(Zf (Za (ZI (k .nils)) st2<|Zb) (Zf (Zf (Zp Z6 VS<|Za (Wf V0 (k .nils) kV false) YU<|Zb) (ZH Xo (Zf (Za (ZI (k .nils)) st2<|Zb) ZT) Zb)) (Zf (Za (V5 5 1 0 (List.replicate 0 [(nI .u8 0)]).flatten []) WN<|Zp Z6 Wg<|Za (WM Xi XL 5 1 1) WD<|Zp XE st2<|Zb) ZT)))⟩
def Zg7:CF:=⟨[(Va,none),(V0,none)],(Zf (Za (ZI (kI 0)) st2<|Za (ZI (kB false)) VS<|Zb) (Zf (Zp Z6 WD<|Za (Zv 139 [XE,(kI 10),(kI 64)]) Vi<|Zp Xt Wg<|Za (Yy XL 0) Ur<|Za (Yy XL 1) Xe<|Zp Wv YU<|Zp YH WN<|Zb) (Zf (Zf (Zp Xi Xw<|Za (Wf Y1 (k .nili) (zS true (vK Tryz.prog (Dg Tryz.prog 9))) true) XB<|Zp Y2 Xx<|ZF YS false (ZI Xo) X5<|ZF YS false (Zv 33 [Xl]) X9<|ZF YS false (ZI Z6) X4<|ZF YS false (Wf Xs Xr QJ true) We<|Za (Yo YS (kB true) XK) Wk<|Zb) (ZH X1 (Zf (Za (ZI (kI 0)) st2<|Za (ZI (kB false)) VS<|Zb) ZT) Zb)) (Zf (Zp Xo WJ<|Zp X6 st2<|Za (ZI (kB true)) VS<|Zb) ZT))))⟩
def Zg8:CF:=⟨[(Va,none)],(Zf (Za (ZI (k (.str []))) st2<|Zb) (Zf (Zp Z6 WD<|Za (Cg XE) Vi<|Za (Zv 137 [Xt,(k (.str [0]))]) Ur<|Zp Wv Wg<|Za (Yy XL 0) Xe<|Za (Yy XL 1) Xw<|Za (Yy XL 2) XB<|Zp YH VS<|Zp Y1 YU<|Zp Y2 WN<|Zb) (Zf (Zp V0 Xx<|Zp YS st2<|Zb) ZT)))⟩
def Zc4:CF:=⟨[(Va,none),(V0,none)],(Zf (Za (ZI (k (.str []))) st2<|Za (ZI (kI 0)) VS<|Zb) (Zf (Zp Z6 Wg<|Za (Zv 102 [XL,(k (.str [47]))]) WD<|Zp XE YU<|Zb) (Zf (Zf (Zp Z6 Vi<|Za (Zv 65 [Xt,(k (.str [0]))]) Ur<|Zp Wv Xe<|ZF YH false (ZI Z6) Xw<|ZF YH false (Zv 69 [Y1,(k (.str [47]))]) XB<|Za (Yo YH (kB true) Y2) Xx<|Zp YS X5<|ZF Xl false (ZI Xo) X9<|ZF Xl false (Zv 140 [Xs,(k (.str [46,46]))]) X4<|Za (Yo Xl (kB true) Xr) We<|Zb) (ZH XK (Zf (Za (ZI (k (.str []))) st2<|Za (ZI (kI 30)) VS<|Zb) ZT) Zb)) (Zf (Zp Xo Wk<|Za (Zv 141 [X1,(k (.func 142 [] []))]) WJ<|Zp X6 YU<|Zb) (Zf (Zp Xo W0<|Za (Zv 143 [WC,(k (.str [47]))]) VD<|Zp Vd WN<|Zb) (Zf (Zf (Zp Xo VG<|Za (Xf W6) VH<|Za (Yk W7 (kI 255) U9 W1) VI<|Zp WG VU<|ZF Vv false (ZI Xi) V6<|ZF Vv false (Xu VA) V7<|ZF Vv false (Yk VB (kI 4096) U9 W1) Uj<|Za (Yo Vv (kB true) Vg) Uq<|Zp W8 UB<|ZF Uv false (ZI Xo) Tb<|ZF Uv false (Zv 72 [Uw,(k (.func 144 [] []))]) Tk<|Za (Yo Uv (kB true) UU) TA<|Zb) (ZH U6 (Zf (Za (ZI (k (.str []))) st2<|Za (ZI (kI 3)) VS<|Zb) ZT) Zb)) (Zf (Zp Xi T8<|Zp U7 st2<|Za (ZI (kI 0)) VS<|Zb) ZT)))))))⟩
def Zda:CF:=⟨[(Va,none)],(Zf (Za (ZI (kB false)) st2<|Zb) (Zf (Zp Z6 VS<|Za (Wf V0 (k (.str [])) QJ false) YU<|Zp Xo WN<|ZF Xi false (ZI Z6) Wg<|ZF Xi false (Wf XL (k (.str [46])) QJ false) WD<|Za (Yo Xi (kB true) XE) Vi<|Zp Xt st2<|Zb) ZT))⟩
def Zhm:CF:=⟨[(Va,none)],(Zf (Za (ZI (kB false)) st2<|Zb) (Zf (Zp Z6 VS<|Za (Xu V0) YU<|Za (Yk Xo (kI 255) U9 W1) WN<|Zp Xi st2<|Zb) ZT))⟩
def Zg9:CF:=⟨[(Xo,none),(Xi,none)],(Zf (Za (ZI (k (.str []))) YU<|Za (ZI (kB false)) WN<|Zb) (Zf (Zp Z6 Wg<|Zp Xn WD<|Za (Zv 145 [XL,XE]) Vi<|Za (Yy Xt 0) Ur<|Za (Yy Xt 1) Xe<|Zp Wv YU<|Zp YH WN<|Zb) ZT))⟩
def Zdc:CF:=⟨[(Xo,none),(Xi,none)],(Zf (Za (ZI (k (.str []))) YU<|Za (ZI (kB false)) WN<|Zb) (Zf (Zf (Zp Z6 Wg<|Zp Xn WD<|Za (Zv 100 [XL,XE]) Vi<|Za (S6 Xt) Ur<|Zb) (ZH Wv (Zf (Zp Z6 Xe<|Zp YH YU<|Za (ZI (kB false)) WN<|Zb) ZT) Zb)) (Zf (Zp Z6 Xw<|Zp Xn XB<|Za (Xu Y2) Xx<|Za (Wy Y1 (some YS) none none) X5<|Zp Xl YU<|Za (ZI (kB true)) WN<|Zb) ZT)))⟩
def Zhk:CF:=⟨[(XL,none),(XE,none)],(Zf (Za (ZI (kI 0)) Wg<|Za (ZI (k .nili)) WD<|Zb) (Zf (Zp Z6 Xe<|Zp Xn Xw<|Zp Va XB<|Za (Zv 164 [YH,Y1,Y2]) Xx<|Zp YS Ur<|Za (Yy Wv 0) X5<|Za (Yy Wv 1) X9<|Zp Xl Vi<|Zp Xs WD<|Zb) (Zf (Zf (Zp XE X4<|Za (Wf Xr (k .nili) (zS true (vK Tryz.prog (Dg Tryz.prog 9))) true) We<|Zb) (ZH XK (Zf (Zp Xt Wk<|Zp Z6 WJ<|Zp Xn W0<|Zp Va VD<|Zp XE VG<|Za (Zv 165 [(k (.str [80,97,114,115,101,73,110,116])),X6,WC,Vd,W6]) VH<|Zp X1 Wg<|Zp W7 WD<|Zb) ZT) Zb)) (Zf (Zp Xt VI<|Zp WG Wg<|Za (ZI (k .nili)) WD<|Zb) ZT))))⟩
def zP:CF:=⟨[(XL,none),(XE,none)],(Zf (Za (ZI (kI 0)) Wg<|Za (ZI (k .nili)) WD<|Zb) (Zf (Zf (Zp Z6 XB<|Za (Wf Y2 (k (.str [])) QJ false) Xx<|Zb) (ZH YS (Zf (Za (VF (kI 2) 225) X5<|Za (ZI (kI 0)) Wg<|Zp Xl WD<|Zb) ZT) Zb)) (Zf (Za (ZI (kB false)) Vi<|Zb) (Zf (Zf (Zp Z6 X9<|Za (Xj Xs (kI 0)) X4<|Zb) (Z2 0 (Zf (Za (Wf Xr (k (nI .u8 43)) WX false) Wk<|Zp X1 We<|Zb) (ZH XK (Zp Z6 WJ<|Za (Wy X6 (some (kI 1)) none none) W0<|Zp WC st0<|Zb) (Zf (Za (Wf Xr (k (nI .u8 45)) WX false) VG<|Zp W6 VD<|Zb) (ZH Vd (Zf (Zp Z6 VH<|Za (Wy W7 (some (kI 1)) none none) VI<|Zp WG st0<|Zb) (Za (ZI (kB true)) Vi<|Zb)) Zb)))))) (Zf (Za (ZI (k (nI .u64 0))) Ur<|Zb) (Zf (Zp Z6 V6<|Zp Xn V7<|Zp Va Uj<|Za (Zv 179 [VA,VB,Vg]) Uq<|Zp W8 VU<|Za (Yy Vv 0) UB<|Za (Yy Vv 1) Tb<|Zp Uv Ur<|Zp Uw WD<|Zb) (Zf (Zf (Zp XE Tk<|Za (Wf UU (k .nili) (zS true (vK Tryz.prog (Dg Tryz.prog 9))) true) TA<|Zp U6 T8<|ZF U7 true (ZI XE) Sf<|ZF U7 true (VF (kI 1) 225) SX<|ZF U7 true (Wf U8 Rc (zS false (vK Tryz.prog (Dg Tryz.prog 9))) true) SY<|Za (Yo U7 SR (kB false)) S7<|Zb) (ZH Sa (Zf (Zp XE RB<|Za (ZI (kI 0)) Wg<|Zp Sb WD<|Zb) ZT) Zb)) (Zf (Zf (Zp Va RY<|Za (Wf Sn (kI 0) WX false) RC<|Zb) (ZH SG (Za (ZI (kI 64)) st2<|Zb) Zb)) (Zf (Zp Va RZ<|Za (Vs Sc (kI 1)) R0<|Za (Tx S4 .u64) QY<|Za (Za9 (k (nI .u64 1)) So) Pj<|Zp Re Xe<|Zb) (Zf (Zf (Zp Xt Pk<|Za (S6 Qc) Pm<|Zp RO Pw<|ZF QV true (ZI Wv) Px<|ZF QV true (ZI YH) OI<|ZF QV true (Yk Pq OY UQ Wd) O6<|Za (Yo QV Pr (kB false)) O7<|Zb) (ZH RP (Zf (Zp YH OJ<|Za (Vs OZ (k (nI .u64 1))) OK<|Za (Tx Ot .i64) O8<|Za (VF (kI 1) 225) OM<|Zp Nh Wg<|Zp QW WD<|Zb) ZT) Zb)) (Zf (Zf (Zp Xt ON<|Zp Ni O9<|ZF RQ true (ZI Wv) Na<|ZF RQ true (ZI YH) OO<|ZF RQ true (Yk Nj Q9 U9 W1) Nr<|Za (Yo RQ O0 (kB false)) Ns<|Zb) (ZH Nk (Zf (Zp YH Nt<|Za (Tx QX .i64) Mq<|Za (ux Nl) Me<|Za (VF (kI 1) 225) Mr<|Zp Ps Wg<|Zp RR WD<|Zb) ZT) Zb)) (Zf (Zp Wv MQ<|Za (Tx NV .i64) LY<|Zp NW Xw<|Zb) (Zf (Zf (Zp Xt Kr<|Zb) (ZH K0 (Zp Y1 Ks<|Za (ux LD) Kt<|Zp Kk Xw<|Zb) Zb)) (Zf (Zp Y1 LZ<|Zp PR Wg<|Za (ZI (k .nili)) WD<|Zb) ZT))))))))))))))⟩
def Q7:D:=(Zf (Za (Yk NR NQ XF Yt) IP<|Zb) (Zf (ZH Q8 Zb (WK 3)) (Zf (Z2 4 (Zf (Za (Wn G6 NR 1) IR<|Za (ZP GY) IS<|Zp NS X9<|Zb) (Zf (Za (ZI (k (nI .u8 0))) X4<|Zb) (Zf (Z2 5 (Zf (Zp Xs IT<|Za (Wf M1 (k (nI .u8 95)) WX false) FR<|Zp Do FT<|ZF Mx true (ZI Xt) IU<|Za (Yo Mx GZ (kB false)) IV<|Zp My FQ<|Zb) (ZH KX (Zf (Za (ZI (kB true)) XB<|Zb) (WK 4)) (Zf (Zp Xs IX<|Za (Yk (k (nI .u8 48)) IB Ro U5) IY<|Zp M2 IZ<|ZF Nd true (ZI Xs) I0<|ZF Nd true (Yk IC (k (nI .u8 57)) Ro U5) I1<|Za (Yo Nd G0 (kB false)) I2<|Zp ID IW<|Zb) (ZH IA (Zp Xs I3<|Za (Vs IE (k (nI .u8 48))) I4<|Zp IF X4<|Zb) (Zf (Zp Xs I6<|Za (Zv 196 [G1]) Js<|Za (Yk (k (nI .u8 97)) IG Ro U5) Jt<|Zp NU DQ<|ZF KY true (ZI Xs) DT<|ZF KY true (Zv 196 [G2]) DU<|ZF KY true (Yk Dp (k (nI .u8 122)) Ro U5) DV<|Za (Yo KY KZ (kB false)) DW<|Zp Dq I5<|Zb) (ZH NT (Zp Xs DX<|Za (Zv 196 [M3]) DY<|Za (Vs Dr (k (nI .u8 97))) DZ<|Za (Yz Mz (k (nI .u8 10))) D1<|Zp Ds X4<|Zb) (Zf (Za (VF (kI 2) 225) FP<|Za (ZI (k (nI .u64 0))) Wg<|Zp Kd WD<|Zb) ZT)))))))) (Zf (Zf (Zp Xr D2<|Zp Xn D3<|Za (Tx G3 .u8) za<|Za (Yk Dt BM UQ Wd) zb<|Zb) (ZH BN (Zf (Za (VF (kI 2) 225) wP<|Za (ZI (k (nI .u64 0))) Wg<|Zp yX WD<|Zb) ZT) Zb)) (Zf (Zf (Zp YS wR<|Zp YH wS<|Za (Yk yY yZ UQ Wd) wT<|Zb) (ZH y4 (Zf (Zp Y1 wU<|Za (VF (kI 1) 225) pW<|Zp y5 Wg<|Zp sX WD<|Zb) ZT) Zb)) (Zf (Zp YS pX<|Zp Xn wV<|Za (Tx y6 .u64) zd<|Za (OC sY BO) ze<|Zp BP Xx<|Zb) (Zf (Zp YS zf<|Zp Xr zg<|Za (Tx BR .u64) zh<|Za (Yz BQ BT) zi<|Zp BU We<|Zb) (Zf (Zf (Zp XK zj<|Zp YS zk<|Za (Yk BW BX XF Yt) zl<|Zp BY zm<|ZF IH false (ZI XK) wW<|ZF IH false (ZI Y1) wX<|ZF IH false (Yk y7 y8 U9 W1) iz<|Za (Yo IH (kB true) jk) iA<|Zb) (ZH jl (Zf (Zp Y1 iB<|Za (VF (kI 1) 225) iC<|Zp jm Wg<|Zp jn WD<|Zb) ZT) Zb)) (Zp XK iD<|Zp jo Xx<|Zb)))))))))) (Za (Yz NR (kI 1)) iE<|Zp y9 Kh<|Zb))))
def Zhu:CF:=⟨[(XL,none),(XE,none)],(Zf (Za (ZI (k (nI .u64 0))) Wg<|Za (ZI (k .nili)) WD<|Zb) (Zf (Zf (Zp Z6 Wk<|Za (Wf X1 (k (.str [])) QJ false) WJ<|Zb) (ZH X6 (Zf (Za (VF (kI 2) 225) W0<|Za (ZI (k (nI .u64 0))) Wg<|Zp WC WD<|Zb) ZT) Zb)) (Zf (Zp Xn VD<|Za (Wf Vd (kI 0) WX false) VG<|Zp W6 Vi<|Zb) (Zf (Zp Z6 VH<|Zp W7 Ur<|Zb) (Zf (Z2 0 (Zf (Zp Xn V6<|Za (Yk (kI 2) VA Ro U5) V7<|Zp VB Uj<|ZF Vg true (ZI Xn) Uq<|ZF Vg true (Yk W8 (kI 36) Ro U5) UB<|Za (Yo Vg Uv (kB false)) Tb<|Zp Uw VU<|Zb) (ZH Vv Zb (Zf (Zp Xn TA<|Za (Wf U6 (kI 0) WX false) T8<|Zp U7 Tk<|Zb) (ZH UU (Zf (Za (ZI (kI 10)) st1<|Zb) (Zf (Zp Z6 Sf<|Za (Xj U8 (kI 0)) SX<|Za (Wf Rc (k (nI .u8 48)) WX false) SY<|Zb) (ZH SR (Z2 1 (Zf (Zp Z6 RC<|Za (Xu SG) RZ<|Za (Yk Sc (kI 3) UQ Wd) R0<|Zp S4 QY<|ZF So true (ZI Z6) Pj<|ZF So true (Xj Re (kI 1)) Pk<|ZF So true (Zv 196 [Qc]) Pm<|ZF So true (Wf RO (k (nI .u8 98)) WX false) Pw<|Za (Yo So QV (kB false)) Px<|Zp Pq RY<|Zb) (ZH Sn (Zf (Za (ZI (kI 2)) st1<|Zb) (Zp Z6 OI<|Za (Wy OY (some (kI 2)) none none) O6<|Zp Pr st0<|Zb)) (Zf (Zp Z6 OJ<|Za (Xu OZ) OK<|Za (Yk Ot (kI 3) UQ Wd) O8<|Zp Nh OM<|ZF QW true (ZI Z6) ON<|ZF QW true (Xj Ni (kI 1)) O9<|ZF QW true (Zv 196 [RQ]) Na<|ZF QW true (Wf Nj (k (nI .u8 111)) WX false) OO<|Za (Yo QW Q9 (kB false)) Nr<|Zp O0 O7<|Zb) (ZH RP (Zf (Za (ZI (kI 8)) st1<|Zb) (Zp Z6 Ns<|Za (Wy Nk (some (kI 2)) none none) Nt<|Zp QX st0<|Zb)) (Zf (Zp Z6 Me<|Za (Xu Ps) Mr<|Za (Yk RR (kI 3) UQ Wd) MQ<|Zp NV LY<|ZF NW true (ZI Z6) Kr<|ZF NW true (Xj K0 (kI 1)) Ks<|ZF NW true (Zv 196 [LD]) Kt<|ZF NW true (Wf Kk (k (nI .u8 120)) WX false) LZ<|Za (Yo NW PR (kB false)) Ku<|Zp Kl Mq<|Zb) (ZH Nl (Zf (Za (ZI (kI 16)) st1<|Zb) (Zp Z6 Kv<|Za (Wy M4 (some (kI 2)) none none) Ju<|Zp K1 st0<|Zb)) (Zf (Za (ZI (kI 8)) st1<|Zb) (Zp Z6 S7<|Za (Wy Sa (some (kI 1)) none none) RB<|Zp Sb st0<|Zb))))))))) Zb))) (Zf (Za (VF (kI 3) 225) VI<|Za (ZI (k (nI .u64 0))) Wg<|Zp WG WD<|Zb) ZT)))))) (Zf (Zf (Zp Va In<|Za (Wf Ii (kI 0) WX false) Gf<|Zb) (ZH Ht (Za (ZI (kI 64)) st2<|Zb) (Zf (Zp Va Gg<|Za (Yk LF (kI 0) XF Yt) Io<|Zp LG Ip<|ZF Km false (ZI Va) Iq<|ZF Km false (Yk Ij (kI 64) U9 W1) Jv<|Za (Yo Km (kB true) K2) Jw<|Zb) (ZH K3 (Zf (Za (VF (kI 4) 225) L0<|Za (ZI (k (nI .u64 0))) Wg<|Zp Ql WD<|Zb) ZT) Zb)))) (Zf (Za (ZI (k (nI .u64 0))) Xe<|Zb) (Zf (Zf (Zp Xn Jx<|Zb) (Z2 2 (Zf (Za (Wf Mo (kI 10) WX false) JA<|Zp K4 Jz<|Zb) (ZH LH (Za (ZI (k (nI .u64 1844674407370955162))) Xe<|Zb) (Zf (Za (Wf Mo (kI 16) WX false) Gh<|Zp Hu Ir<|Zb) (ZH LI (Za (ZI (k (nI .u64 1152921504606846976))) Xe<|Zb) (Zp Xn Jy<|Za (Tx Ik .u64) Kw<|Za (HU (k (nI .u64 18446744073709551615)) Kn) Kx<|Za (Yz M5 (k (nI .u64 1))) Ky<|Zp Ko Xe<|Zb))))))) (Zf (Zp Va FU<|Za (Tx G4 .u64) FV<|Za (Za9 (k (nI .u64 1)) G5) EV<|Za (Vs Em (k (nI .u64 1))) EW<|Zp En Xw<|Zb) (Zf (Za (ZI (kB false)) XB<|Zb) (Zf (Za (ZI (k (nI .u64 0))) Xx<|Zb) (Zf (Zf (Zp Z6 Cj<|Za (Ax Eo 5) zn<|Za (Xf G6) Jr<|Za (ZI (kI 0)) Kh<|Zb) (Z2 3 (WL Q7))) (Zf (Zf (Zp Y2 iF<|Zp jp iG<|ZF BZ true (ZI Wv) iH<|ZF BZ true (Zv 197 [jq]) Zca<|ZF BZ true (S6 aT) Zcb<|Za (Yo BZ aU (kB false)) Zcc<|Zb) (ZH aV (Zf (Za (VF (kI 2) 225) Zcd<|Za (ZI (k (nI .u64 0))) Wg<|Zp aW WD<|Zb) ZT) Zb)) (Zf (Zp YS Zce<|Zp aX Wg<|Za (ZI (k .nili)) WD<|Zb) ZT))))))))))))))⟩
def Zkh:CF:=⟨[(YH,none)],(Zf (Za (ZI (k .nili)) Xe<|Zb) (Zf (Zf (Zp Xo Xw<|Zb) (Z2 0 (Zf (Za (VF (kI 2) 225) Xx<|Za (Wf Y1 YS (zS false (vK Tryz.prog (Dg Tryz.prog 9))) false) X5<|Zp Xl XB<|Zb) (ZH Y2 (Zf (Zp Z6 X9<|Zp Xn X4<|Za (Zv 180 [Xs,Xr]) We<|Za (VF XK 228) Wk<|Zp X1 Xe<|Zb) ZT) (Zf (Za (VF (kI 1) 225) W0<|Za (Wf Y1 WC (zS false (vK Tryz.prog (Dg Tryz.prog 9))) false) VD<|Zp Vd WJ<|Zb) (ZH X6 (Zf (Zp Z6 VG<|Zp Xn VH<|Za (Zv 181 [W6,W7]) VI<|Za (VF WG 228) VU<|Zp Vv Xe<|Zb) ZT) (Zf (Za (VF (kI 3) 225) V7<|Za (Wf Y1 VB (zS false (vK Tryz.prog (Dg Tryz.prog 9))) false) Uj<|Zp Vg V6<|Zb) (ZH VA (Zf (Zp Z6 Uq<|Zp Xn UB<|Zp Va Tb<|Za (Zv 182 [W8,Uv,Uw]) Tk<|Za (VF UU 228) TA<|Zp U6 Xe<|Zb) ZT) (Zf (Za (VF (kI 4) 225) Sf<|Za (Wf Y1 U8 (zS false (vK Tryz.prog (Dg Tryz.prog 9))) false) SX<|Zp Rc T8<|Zb) (ZH U7 (Zf (Zp Z6 SY<|Zp Xn S7<|Zp V0 RB<|Za (Zv 183 [SR,Sa,Sb]) RY<|Za (VF Sn 228) RC<|Zp SG Xe<|Zb) ZT) Zb)))))))))) (Zf (Zp Xo RZ<|Zp Sc Xe<|Zb) ZT)))⟩
def Zhl:CF:=⟨[(Xo,none)],(Zf (Za (ZI (kB false)) YU<|Zb) (Zf (Zp Z6 WN<|Zp Xn Wg<|Za (Zv 166 [Xi,XL]) WD<|Za (Yk XE (kI 0) UQ Wd) Vi<|Zp Xt YU<|Zb) ZT))⟩
def GH:D:=(Zf (Za (Yk Xt XE XF Yt) Ur<|Zb) (Zf (ZH Wv Zb (WK 0)) (Zf (Z2 1 (Zf (Zp Xt Xe<|Zp YH WN<|Zb) (Zf (Zp Xn Xw<|Zp Z6 XB<|Zp Xi Xx<|Za (Wn Y2 YS 1) X5<|Za (ZP Xl) X9<|Za (Wf Y1 Xs QJ false) X4<|Zb) (ZH Xr (Zf (Zp Xi We<|Zp XK YU<|Zb) ZT) Zb)))) (Za (Yz Xt (kI 1)) Wk<|Zp X1 Vi<|Zb))))
def Zhs:CF:=⟨[(Xo,none)],(Zf (Za (ZI (kI 0)) YU<|Zb) (Zf (Zf (Zp Z6 Wg<|Za (Xf XL) WD<|Za (ZI (kI 0)) Vi<|Zb) (Z2 0 (WL GH))) (Zf (Za (ZI (k (.int .i64 (.negSucc 0)))) YU<|Zb) ZT)))⟩
def Cr:D:=(Zf (Zf (Zp XL X4<|Zp Z6 We<|Za (Xf XK) Wk<|Za (Yk Xr X1 XF Yt) WJ<|Zb) (ZH X6 Zb (WK 0))) (Zf (Z2 1 (Zf (Zp Z6 VG<|Zp XL VH<|Za (Wn W6 W7 1) VI<|Za (ZP WG) VU<|Zp Vv WD<|Zb) (Zf (Zp Xn V6<|Zp XE V7<|Za (N6 VA Tryz.prog [VB]) Uj<|Za (S6 Vg) Uq<|Zb) (ZH W8 (Zf (Zp Z6 UB<|Zp Xi Tb<|Zp XE Tk<|Za (Wn Uv Uw 1) TA<|Za (YB U6 UU 1) d0<|Zb) (Zp Xi T8<|Za (Yz U7 (kI 1)) Sf<|Zp U8 WN<|Zb)) Zb)))) (Zp XL W0<|Za (Yz WC (kI 1)) VD<|Zp Vd Wg<|Zb)))
def Zc9:CF:=⟨[(Xo,none)],(Zf (Za (ZI (k .nils)) YU<|Zb) (Zf (Zp Z6 Vi<|Zp Xn Ur<|Za (Zv 103 [Xt,Wv]) Xe<|Zp YH WN<|Zb) (Zf (Zf (Zp Xi Xw<|Za (Wf Y1 (k (.int .i64 (.negSucc 0))) WX false) XB<|Zb) (ZH Y2 (Zf (Zp Z6 Xx<|Zp YS YU<|Zb) ZT) Zb)) (Zf (Zf (Zp Xi X5<|Za (Yz Xl (kI 1)) X9<|Zp Xs Wg<|Zb) (Z2 0 (WL Cr))) (Zf (Zp Z6 SX<|Zp Xi SY<|Za (Tt 1 Rc (some SR) none none) S7<|Za (mw Sa 1 [(.str [])]) d0<|Zb) (Zf (Zp Z6 RB<|Zp Xi RY<|Za (Tt 1 Sb none (some Sn) none) RC<|Zp SG YU<|Zb) ZT))))))⟩
def JI:D:=(Zf (Za (Yk SG Sn XF Yt) RZ<|Zb) (Zf (ZH Sc Zb (WK 1)) (Zf (Z2 2 (Zf (Za (Wn Sb SG 1) R0<|Za (ZP S4) QY<|Zp So WD<|Zb) (Zf (Zf (Zp XE Pj<|Za (Xu Re) Pk<|Zp Xi Pm<|Za (Vs (kI 9223372036854775807) RO) Pw<|Za (Yk Qc QV U9 W1) Px<|Zb) (ZH Pq (Za (VF (k (.str Zgd)) 9) OI<|Za (QD OY) d0<|Zb) Zb)) (Zp Xi O6<|Zp XE O7<|Za (Xu RP) OJ<|Za (Yz Pr OZ) OK<|Zp Ot WN<|Zb)))) (Za (Yz SG (kI 1)) O8<|Zp Nh RC<|Zb))))
def GG:D:=(Zf (Za (Yk Ps Nl XF Yt) Mr<|Zb) (Zf (ZH RR Zb (WK 3)) (Zf (Z2 4 (Zf (Za (Wn QX Ps 1) MQ<|Za (ZP NV) LY<|Zp NW Xe<|Zb) (Zf (Zp Xn Kr<|Za (Zv 96 [Xt,K0]) Ks<|Zb) (Zp YH Kt<|Za (Zv 96 [Xt,Kk]) LZ<|Zb)))) (Za (Yz Ps (kI 1)) Ku<|Zp Kl Me<|Zb))))
def Zdb:CF:=⟨[(Xo,none)],(Zf (Za (ZI (k (.str []))) YU<|Zb) (Zf (Zf (Zp Z6 Xw<|Za (Xf Y1) XB<|Zb) (Z2 0 (Zf (Za (Wf Y2 (kI 0) WX false) X5<|Zp Xl Xx<|Zb) (ZH YS (Zf (Za (ZI (k (.str []))) YU<|Zb) ZT) (Zf (Za (Wf Y2 (kI 1) WX false) X4<|Zp Xr X9<|Zb) (ZH Xs (Zf (Zp Z6 We<|Za (Wn XK (kI 0) 1) Wk<|Za (ZP X1) WJ<|Zp X6 YU<|Zb) ZT) Zb)))))) (Zf (Za (ZI (kI 0)) WN<|Zb) (Zf (Zf (Zp Xn W0<|Za (Xu WC) VD<|Za (Yk Vd (kI 0) U9 W1) VG<|Zb) (ZH W6 (Zf (Zf (Zp Xn VH<|Za (Xu W7) VI<|Zp Z6 VU<|Za (Xf Vv) V6<|Za (Vs VA (kI 1)) V7<|Za (HU (kI 9223372036854775807) VB) Uj<|Za (Yk WG Vg UQ Wd) Uq<|Zb) (ZH W8 (Za (VF (k (.str Zgd)) 9) UB<|Za (QD Uv) d0<|Zb) Zb)) (Zp Xi Tb<|Zp Xn Tk<|Za (Xu UU) TA<|Zp Z6 T8<|Za (Xf U7) Sf<|Za (Vs U8 (kI 1)) SX<|Za (OC U6 Rc) SY<|Za (Yz Uw SR) S7<|Zp Sa WN<|Zb)) Zb)) (Zf (Zf (Zp Z6 RB<|Za (Xf Sb) RY<|Za (ZI (kI 0)) RC<|Zb) (Z2 1 (WL JI))) (Zf (Za (VN 141 [.nilp,.nils]) Vi<|Zb) (Zf (Zp Xi OM<|Za (Zv 95 [Xt,QW]) ON<|Zb) (Zf (Zp Z6 O9<|Za (Wn RQ (kI 0) 1) Na<|Za (ZP Nj) OO<|Za (Zv 96 [Xt,Q9]) Nr<|Zb) (Zf (Zf (Zp Z6 Ns<|Za (Tt 1 Nk (some (kI 1)) none none) Nt<|Za (Xf QX) Mq<|Za (ZI (kI 0)) Me<|Zb) (Z2 3 (WL GG))) (Zf (Za (Zv 98 [Xt]) Kv<|Zp M4 YU<|Zb) ZT))))))))))⟩
def c95:CF:=⟨[],(Zf (Zp Z6 YU<|Za (Zv 127 [Xo]) WN<|Zb) (Zf (Zf (Zp Xn Wg<|Za (Yk XL (kI 0) XF Yt) WD<|Zb) (ZH XE (Za (VF (k (.str ZlD)) 9) Vi<|Za (QD Xt) d0<|Zb) Zb)) (Zf (W5 [YT (ZI Z6) [(st0,Z6)] Ur 0 0,YT (Um Wv) [(Ur,Wv)] Xe 1 1,YT (YG YH 1) [(Xe,YH)] Xw 2 3,⟨ZP Y1,none,[(Xw,Y1)],XB,.read,3,7⟩,⟨qz Y2,none,[(XB,Y2)],Xx,.read,4,15⟩,YT (ZI Z6) [(st0,Z6)] X5 5 0,YT (Um Xl) [(X5,Xl)] X9 6 32,YT (YG Xs 1) [(X9,Xs)] X4 7 96,⟨ZP Xr,none,[(X4,Xr)],We,.read,8,224⟩,YT (Xf XK) [(We,XK)] Wk 9 480,YT (Vs YS X1) [(Xx,YS),(Wk,X1)] WJ 10 1023,YT (ZI Xn) [(st1,Xn)] W0 11 0,YT (Yk X6 WC XF Yt) [(WJ,X6),(W0,WC)] VD 12 4095]) (ZH Vd (Zp Z6 VG<|Zp Xn VH<|Za (Zv 128 [W6,W7]) VI<|Zb) Zb))))⟩
def Zhe:CF:=⟨[],(Zf (W5 [YT (ZI Z6) [(st0,Z6)] WN 0 0,YT (Um Xi) [(WN,Xi)] Wg 1 1,YT (YG XL 1) [(Wg,XL)] WD 2 3,⟨ZP XE,none,[(WD,XE)],Vi,.read,3,7⟩,⟨qz Xt,none,[(Vi,Xt)],Ur,.read,4,15⟩,YT (OC (kI 2) Wv) [(Ur,Wv)] Xe 5 31,YT (ZI Xn) [(st1,Xn)] Xw 6 0,YT (Yz YH Y1) [(Xe,YH),(Xw,Y1)] XB 7 127,YT (ZI Z6) [(st0,Z6)] X5 9 0,YT (Um Xl) [(X5,Xl)] X9 10 512,YT (YG Xs 1) [(X9,Xs)] X4 11 1536,⟨ZP Xr,none,[(X4,Xr)],We,.read,12,3584⟩,YT (Xf XK) [(We,XK)] Wk 13 7680,⟨Zv 99 [Y2],none,[(XB,Y2)],Xx,.eff,8,255⟩,⟨Tt 1 YS none (some X1) none,none,[(Xx,YS),(Wk,X1)],WJ,.read,14,16383⟩,⟨ZI X6,none,[(WJ,X6)],YU,.eff,15,32767⟩]) (Zf (Zp Xo W0<|Zp Z6 VD<|Za (Um Vd) VG<|Za (YG W6 1) VH<|Za (ZP W7) VI<|Za (Az WC WG 1) VU<|Zb) (Zp Z6 V6<|Zp Xo V7<|Za (Um VA) Uj<|Za (YG Vg 1) Uq<|Za (YB W8 VB 1) d0<|Zb)))⟩
def Zc8:CF:=⟨[],(Zf (Zp Z6 st2<|Za (Um Va) VS<|Za (YG V0 0) YU<|Za (ZP Xo) WN<|Za (Wf Xi (k .nilp) zT false) Wg<|Zb) (ZH XL (Zp Z6 WD<|Zp Z6 Vi<|Za (qI Xt) Ur<|Za (Zv 155 [Wv]) Xe<|Za (qH YH 141 2) Xw<|Za (Um XE) XB<|Za (YG Y2 0) Xx<|Za (YB YS Y1 1) d0<|Zb) (Zf (Zp Z6 X5<|Za (Um Xl) X9<|Za (YG Xs 0) X4<|Za (ZP Xr) We<|Zp Z6 Wk<|Za (Wf XK X1 zT true) WJ<|Zb) (ZH X6 Qg Zb))))⟩
def c96:CF:=⟨[(Xo,none),(Xi,none)],(Zf (Za (ZI (kI 0)) YU<|Za (ZI (k .nili)) WN<|Zb) (Zf (Zp Z6 Wg<|Za (Zv 127 [XL]) WD<|Zb) (Zf (Zp Z6 Vi<|Zp Z6 Ur<|Za (Um Wv) Xe<|Za (YG YH 1) Xw<|Za (ZP Y1) XB<|Zp Xn Xx<|Za (WM Y2 YS 5 1 1) X5<|Za (Um Xt) X9<|Za (YG Xs 1) X4<|Za (YB Xr Xl 1) d0<|Zb) (Zf (Zp Xn We<|Za (Xu XK) Wk<|Zp X1 YU<|Za (ZI (k .nili)) WN<|Zb) ZT))))⟩
def c97:CF:=⟨[(Va,none)],(Zf (Za (ZI (kI 0)) st2<|Zb) (Zf (Zp Z6 VS<|Za (Um V0) YU<|Za (YG Xo 1) WN<|Za (ZP Xi) Wg<|Za (Xf XL) WD<|Zp XE st2<|Zb) ZT))⟩
def c98:CF:=⟨[(Va,none)],(Zf (Za (ZI (k (.str []))) st2<|Zb) (Zf (W5 [YT (ZI Z6) [(st0,Z6)] VS 0 0,YT (Um V0) [(VS,V0)] YU 1 1,YT (YG Xo 1) [(YU,Xo)] WN 2 3,⟨ZP Xi,none,[(WN,Xi)],Wg,.read,3,7⟩,⟨uy XL,none,[(Wg,XL)],WD,.read,4,15⟩,YT (ZI Z6) [(st0,Z6)] Vi 5 0,YT (Um Xt) [(Vi,Xt)] Ur 6 32,YT (YG Wv 1) [(Ur,Wv)] Xe 7 96,⟨ZP YH,none,[(Xe,YH)],Xw,.read,8,224⟩,YT (Xf Y1) [(Xw,Y1)] XB 9 480,⟨Zba XE Y2 5,none,[(WD,XE),(XB,Y2)],Xx,.eff,10,1023⟩,⟨ZI YS,none,[(Xx,YS)],st2,.eff,11,2047⟩]) ZT))⟩
def Zha:CF:=⟨[(Va,none)],(Zf (Za (Jb Z6 166) st1<|Za (ZI (k .nilf)) st2<|Zb) (Zf (Za (AB 148 [] [Xn]) VS<|Zp V0 st2<|Zb) ZT))⟩
end
section
open Go Go.Proofs
def A0(r:Row):Nat->Nat->Option (List (Zd×Zd))
 |_,0=>some []
 |o,n+1=>match r.get o,r.get (o+1),A0 r (o+2) n with
  |.str a,.str b,some l=>some ((a,b)::l)
  |_,_,_=>none
def EO(H:Heap)(sv:AV):Option (List (Zd×Zd)):=match sv with
 |.nils=>some []
 |.slice b o n _=>match H.t.get b with
  |some (.row r)=>cond (Nat.ble (o+n*2) r.size) (cond (Nat.ble (n*32) 140737488351232) (A0 r o n) none) none
  |_=>none
 |_=>none
def Zay(vs:List AV)(H:Heap):Option CR:=match vs with
 |[sv,.str key]=>match EO H sv with
  |some zs=>some (.ret (.tup [.str (lastR zs key).1,.bool (lastR zs key).2]) H)
  |none=>none
 |_=>none
def Gj:List Ss->Option (List (Zd))
 |[]=>some []
 |e::l=>match e.key,Gj l with
  |.str s,some r=>some (s::r)
  |_,_=>none
def xz(H:Heap)(b:Nat):Option (List (Zd)):=match H.t.get b with
 |some (.map es _)=>match Gj es with
  |some ks=>cond (Nat.ble ks.length 1000) (cond (ks.all λs=>Nat.ble s.length 100000) (cond (decide ks.Nodup) (some ks) none) none) none
  |none=>none
 |_=>none
def Hx(H:Heap)(m:Nat):Option (List (Zd)):=match H.t.get m with
 |some (.row r)=>cond r.exact (cond (Nat.ble 1 r.size) (match r.get 0 with
  |.map b=>xz H b
  |_=>none) none) none
 |_=>none
def QR(l:List (Zd)):List (Zd):=l.mergeSort λx y=>decide (x<=y)
def FO(l:List (Zd)):Obj:=rG 9 1 (l.map .str) 0 false true false
def pQ(g:Nat)(vs:List AV)(H:Heap):Option CR:=match vs with
 |[.func f [] [.ptr m 0]]=>cond (Nat.beq f g) (match Hx H m with
  |some []=>some (.ret .nils H)
  |some (a::l)=>some (.ret (.slice H.nx 0 (l.length+1) none) (H.new (FO (QR (a::l)))))
  |none=>none) none
 |_=>none
end
def Ta:Nat->Nat
 |7=>12
 |8=>1
 |13=>13
 |22=>11
 |23=>6
 |24=>3
 |28=>1
 |31=>4
 |35=>7
 |36=>6
 |45=>3
 |46=>3
 |47=>3
 |48=>10
 |49=>6
 |50=>5
 |51=>2
 |58=>2
 |59=>4
 |65=>4
 |69=>2
 |70=>2
 |73=>7
 |74=>4
 |75=>1
 |77=>1
 |89=>1
 |90=>3
 |93=>3
 |100=>1
 |101=>1
 |104=>3
 |105=>1
 |106=>1
 |107=>1
 |114=>6
 |115=>6
 |116=>12
 |117=>3
 |120=>1
 |121=>2
 |124=>2
 |130=>1
 |134=>1
 |136=>1
 |137=>5
 |139=>4
 |140=>3
 |142=>1
 |143=>4
 |144=>1
 |145=>2
 |149=>1
 |150=>1
 |151=>1
 |157=>1
 |162=>4
 |164=>3
 |166=>2
 |179=>2
 |227=>1
 |228=>1
 |229=>4
 |_=>0
def Se:Lib:=λ_ _ _=>none
abbrev LK(Zq:Lib)(fs:T CF)(Zk k:Nat):Lib:=Et Zq fs Zk Ta Se k
abbrev FX(Zq:Lib)(fs:T CF)(f:Nat)(c:CF):Prop:=fs.get f=some c∧ ∀l H,Zq f l H=none
def Z5{Zq:Lib}{fs:T CF}{Zk k n f:Nat}{args:List AV}{H:Heap}{cf:CF}(h:FX Zq fs f cf)(hr:k<Ta f∨Ta f=0):ZA (LK Zq fs Zk k) fs Zk (n+1) f args H=
  EK (λpn g bs H=>EJ .fail fs g λcg=>AP pn cg.rs (cg.body ⟨ZA (LK Zq fs Zk k) fs Zk n,Qu,RS,Zk,false⟩ (Qb bs) H ⟨[],pn⟩))
   cf.rs (cf.body ⟨ZA (LK Zq fs Zk k) fs Zk n,Qu,RS,Zk,false⟩ (Qb args) H ⟨[],none⟩):=tY (xp h.2 hr _ _) h.1
structure Env(Zq:Lib)(fs:T CF)(Zk:Nat):Prop where
 big:100000<=Zk
 f3:FX Zq fs 3 c3
 f4:FX Zq fs 4 c4
 f5:FX Zq fs 5 c5
 f6:FX Zq fs 6 c6
 f7:FX Zq fs 7 c7
 f8:FX Zq fs 8 c8
 f9:FX Zq fs 9 c9
 f10:FX Zq fs 10 c10
 f11:FX Zq fs 11 c11
 f12:FX Zq fs 12 c12
 f13:FX Zq fs 13 c13
 f14:FX Zq fs 14 c14
 f15:FX Zq fs 15 c15
 f16:FX Zq fs 16 c16
 f17:FX Zq fs 17 c17
 f18:FX Zq fs 18 c18
 f19:FX Zq fs 19 c19
 f20:FX Zq fs 20 c20
 f21:FX Zq fs 21 c21
 f22:FX Zq fs 22 oU
 f23:FX Zq fs 23 c23
 f24:FX Zq fs 24 c24
 f25:FX Zq fs 25 c25
 f26:FX Zq fs 26 c26
 f27:FX Zq fs 27 c27
 f28:FX Zq fs 28 c28
 f29:FX Zq fs 29 c29
 f30:FX Zq fs 30 c30
 f31:FX Zq fs 31 c31
 f32:FX Zq fs 32 c32
 f33:FX Zq fs 33 c33
 f34:FX Zq fs 34 c34
 f35:FX Zq fs 35 c35
 f36:FX Zq fs 36 c36
 f37:FX Zq fs 37 c37
 f38:FX Zq fs 38 c38
 f39:FX Zq fs 39 c39
 f40:FX Zq fs 40 c40
 f41:FX Zq fs 41 c41
 f42:FX Zq fs 42 c42
 f43:FX Zq fs 43 c43
 f44:FX Zq fs 44 c44
 f45:FX Zq fs 45 c45
 f46:FX Zq fs 46 c46
 f47:FX Zq fs 47 c47
 f48:FX Zq fs 48 c48
 f49:FX Zq fs 49 c49
 f50:FX Zq fs 50 c50
 f51:FX Zq fs 51 c51
 f52:FX Zq fs 52 c52
 f53:FX Zq fs 53 c53
 f54:FX Zq fs 54 c54
 f55:FX Zq fs 55 c55
 f56:FX Zq fs 56 c56
 f57:FX Zq fs 57 c57
 f58:FX Zq fs 58 c58
 f59:FX Zq fs 59 c59
 f60:FX Zq fs 60 c60
 f61:FX Zq fs 61 c61
 f62:FX Zq fs 62 c62
 f63:FX Zq fs 63 c63
 f64:FX Zq fs 64 c64
 f65:FX Zq fs 65 c65
 f66:FX Zq fs 66 c66
 f68:FX Zq fs 68 c68
 f69:FX Zq fs 69 c69
 f70:FX Zq fs 70 c70
 f71:FX Zq fs 71 c71
 f72:FX Zq fs 72 c72
 f73:FX Zq fs 73 c73
 f74:FX Zq fs 74 c74
 f75:FX Zq fs 75 c75
 f76:FX Zq fs 76 c76
 f77:FX Zq fs 77 c77
 f78:FX Zq fs 78 c78
 f79:FX Zq fs 79 c79
 f80:FX Zq fs 80 c80
 f81:FX Zq fs 81 c81
 f82:FX Zq fs 82 c82
 f83:FX Zq fs 83 c83
 f84:FX Zq fs 84 c84
 f85:FX Zq fs 85 c85
 f86:FX Zq fs 86 c86
 f87:FX Zq fs 87 c87
 f88:FX Zq fs 88 c88
 f89:FX Zq fs 89 c89
 f90:FX Zq fs 90 c90
 f91:FX Zq fs 91 c91
 f92:FX Zq fs 92 c92
 f93:FX Zq fs 93 c93
 f95:FX Zq fs 95 c95
 f96:FX Zq fs 96 c96
 f97:FX Zq fs 97 c97
 f98:FX Zq fs 98 c98
 f100:FX Zq fs 100 ZcY
 f101:FX Zq fs 101 ZcZ
 f102:FX Zq fs 102 Zg0
 f103:FX Zq fs 103 Zc0
 f104:FX Zq fs 104 oQ
 f105:FX Zq fs 105 Zg1
 f106:FX Zq fs 106 Zg2
 f107:FX Zq fs 107 Zg3
 f109:FX Zq fs 109 Zg4
 f111:FX Zq fs 111 Zg5
 f112:FX Zq fs 112 Zg6
 f114:FX Zq fs 114 Zg7
 f115:FX Zq fs 115 Zg8
 f116:FX Zq fs 116 Zc4
 f117:FX Zq fs 117 Zg9
 f119:FX Zq fs 119 Zha
 f120:FX Zq fs 120 Zc5
 f121:FX Zq fs 121 Zhb
 f122:FX Zq fs 122 Zhc
 f123:FX Zq fs 123 Zhd
 f124:FX Zq fs 124 tU
 f127:FX Zq fs 127 Zc8
 f128:FX Zq fs 128 Zhe
 f129:FX Zq fs 129 Zhf
 f130:FX Zq fs 130 bc
 f133:FX Zq fs 133 Zhg
 f134:FX Zq fs 134 Zhh
 f135:FX Zq fs 135 Zkg
 f136:FX Zq fs 136 Zhi
 f137:FX Zq fs 137 Zhj
 f139:FX Zq fs 139 Zhk
 f140:FX Zq fs 140 Zhl
 f141:FX Zq fs 141 Zc9
 f142:FX Zq fs 142 Zda
 f143:FX Zq fs 143 Zdb
 f144:FX Zq fs 144 Zhm
 f145:FX Zq fs 145 Zdc
 f149:FX Zq fs 149 Zhn
 f150:FX Zq fs 150 zO
 f151:FX Zq fs 151 Zdd
 f152:FX Zq fs 152 Zho
 f153:FX Zq fs 153 Zhp
 f157:FX Zq fs 157 Zhq
 f158:FX Zq fs 158 Zhr
 f162:FX Zq fs 162 Zdf
 f164:FX Zq fs 164 zP
 f165:FX Zq fs 165 Zkh
 f166:FX Zq fs 166 Zhs
 f171:FX Zq fs 171 Zht
 f179:FX Zq fs 179 Zhu
 f227:FX Zq fs 227 Zhv
 f228:FX Zq fs 228 Zhw
 f229:FX Zq fs 229 Zhx
 ix: ∀(s:Zd) (x:Nat) (H:Heap),x<256->Zq 108 [.str s,nI .u8 x] H=some (.ret (.int .i64 (Pb x s 0)) H)
 cn: ∀(s:Zd) (x:Nat) (H:Heap),x<256->Zq 175 [.str s,nI .u8 x] H=some (.ret (nI .i64 (Xv x s 0)) H)
 rz: ∀(x:Nat) (H:Heap),100<=H.nx->x<=20->Zq 67 [.str [48],nI .i64 x] H=some (.ret (.str (List.replicate x 48)) H)
 mz: ∀(x:Nat) (H:Heap),x<=281474976710656->Zq 99 [nI .i64 x] H=some (.ret (.slice H.nx 0 x none) (H.new (.row ⟨5,1,x,.leaf,.unk,0,false,true,false⟩)))
 ml: ∀(H:Heap),100<=H.nx->Zq 94 [nI .u64 1,nI .u64 8] H=some (.ret (.tup [nI .u64 0,nI .u64 8]) H)
 la: ∀(H:Heap) (sv:AV) (key:Zd) (zs:List (Zd×Zd)),EO H sv=some zs->Zq 113 [sv,.str key] H=some (.ret (.tup [.str (Proofs.lastR zs key).1,.bool (Proofs.lastR zs key).2]) H)
 nesc: ∀(x:AV) (H:Heap),Zq 155 [x] H=some (.ret x H)
 so: ∀(H:Heap) (m:Nat),Zq 118 [.func 148 [] [.ptr m 0]] H=pQ 148 [.func 148 [] [.ptr m 0]] H
def il:List UInt64:=[1,10,100,1000,10000,100000,1000000,10000000,100000000,1000000000,10000000000,100000000000,1000000000000,10000000000000,100000000000000,1000000000000000,10000000000000000,100000000000000000,1000000000000000000,10000000000000000000]
def Qw(H:Heap):Prop:=100<=H.nx∧(∃r,H.t.get 5=some (.row r)∧Cells r (il.map Zfn))∧ ∃r,H.t.get 7=some (.row r)∧7<r.size∧r.get 7=nI .u8 3
def Qw.keep{H H':Heap}(g:Qw H){S:List Nat}(k:Zu H H' S)(hS: ∀x∈S,100<=x):Qw H':=by
 obtain⟨h,⟨r,h1,h2⟩,e,h3,h4,h5⟩:=g;exact⟨Yb h k.nx,⟨r,by rw[k.get _ (by omega) (λh=>by have:=hS _ h;omega)];exact h1,h2⟩,e,by rw[k.get _ (by omega) (λh=>by have:=hS _ h;omega)];exact h3,h4,h5⟩
def Qw.put{H:Heap}(g:Qw H){b:Nat}(hb:100<=b)(o:Obj):Qw (H.put b o):=g.keep (S:=[b]) (Zu.put λ_=>by simp) (by simp;exact hb)
def Qw.new{H:Heap}(g:Qw H)(o:Obj):Qw (H.new o):=g.keep (S:=[]) (Zu.new H o _) (by simp)
theorem flat_len{sz:Nat}: ∀{ls:List (List AV)},(∀l∈ls,l.length=sz)->ls.flatten.length=ls.length*sz
 |[],_=>by simp
 |l::ls,h=>by
  rw[XC,Zh,flat_len (λx hx=>h x (ZC _ hx)),h l (Zw ..),ZL,WR];omega
theorem flat_at{sz:Nat}: ∀{ls:List (List AV)} {i:Nat},(∀l∈ls,l.length=sz)->i<ls.length->(ls.flatten.drop (i*sz)).take sz=ls.getD i []
 |l::ls,0,h,_=>by
  rw[Vl,YL,XC,List.take_append_of_le_length (by rw[h l (Zw ..)];exact Zs _),Z1 (by rw[h l (Zw ..)];exact Zs _)];rfl
 |l::ls,i+1,h,hi=>by
  have hl:=h l (Zw ..);have e:(i+1)*sz=l.length+i*sz:=by rw[hl,WR];omega
  rw[XC,e,<-Sj,UY];have:=flat_at (i:=i) (λx hx=>h x (ZC _ hx)) (by simpa using hi);rw[this];rfl
structure zM(H:Heap)(b e sz:Nat)(ls:List (List AV))(r:Row):Prop where
 at_:H.t.get b=some (.row r)
 elem:r.elem=e
 szr:r.sz=sz
 own:r.own=true
 fz:r.fz=0
 sm:r.sm=false
 exact_:r.exact=false
 cells:Cells r ls.flatten
 each: ∀l∈ls,l.length=sz
 ro:H.ro<=b
 low:b<H.nx
def zM.size{H:Heap}{b e sz:Nat}{ls:List (List AV)}{r:Row}(h:zM H b e sz ls r):r.size=ls.length*sz:=by rw[h.cells.size,flat_len h.each]
def zM.moved{H H':Heap}{b e sz:Nat}{ls:List (List AV)}{r:Row}(h:zM H b e sz ls r)(g:H'.t.get b=H.t.get b)(hro:H'.ro=H.ro)(hnx:H.nx<=H'.nx):zM H' b e sz ls r:=
 ⟨g.trans h.at_,h.elem,h.szr,h.own,h.fz,h.sm,h.exact_,h.cells,h.each,by rw[hro];exact h.ro,ZK h.low hnx⟩
def zM.load{H H':Heap}{b e sz:Nat}{ls:List (List AV)}{r:Row}(h:zM H b e sz ls r)(ht:H'.t=H.t){i:Nat}(hi:i<ls.length):jK sz (.ptr b (i*sz)) H'=.val (.agg (ls.getD i [])) H':=by
 have hf:=flat_len h.each;have hm:(i+1)*sz<=ls.length*sz:=Ub _ hi;rw[WR,Rk] at hm;rw[eD (r:=r) (by rw[ht];exact h.at_) h.cells (by omega),flat_at h.each hi]
def fI{n i sz:Nat}(h:i<n)(b o:Nat)(c:Option Nat)(k:IntKind)(H:Heap):Dv sz (.slice b o n c) (nI k i) H=.val (.ptr b (o+i*sz)) H:=by
 show ZJ (Nat.ble (Nat.succ i) n) (OR.val (.ptr b (Nat.add o (Nat.mul i sz))) H)=_;rw[Zj (show Nat.succ i<=n from h)];rfl
def TZ(H:Heap)(v:AV)(e sz:Nat)(ls:List (List AV))(lo:Nat):Prop:=(ls=[]∧v=.nils)∨(ls≠[]∧ ∃b r,v=.slice b 0 ls.length none∧zM H b e sz ls r∧lo<=b)
def dC{H:Heap}{v:AV}{e sz bytes:Nat}{ls:List (List AV)}{lo:Nat}(h:TZ H v e sz ls lo)(hsz:1<=sz)(hby:1<=bytes)(hl:(ls.length+1)*bytes<=140737488355328)(hro:H.ro<=H.nx)(hlo:lo<=H.nx){x:List AV}(hx:x.length=sz):
  ∃v' H',TH e sz bytes v (.slice H.nx 0 1 none) (H.newRow e sz x true)=.val v' H'∧TZ H' v' e sz (ls++[x]) lo∧Below lo H H':=by
 generalize hH1:H.newRow e sz x true=H1;have NB:H1.nx=H.nx+1:=by rw[<-hH1];rfl
 have k1:Zu H H1 []:=by rw[<-hH1];exact Zu.new H _ []
 have b1:Below lo H H1:=by rw[<-hH1];exact Below.new lo H _
 have gx:H1.t.get H.nx=some (.row ⟨e,sz,YN x,T.ofList x,.unk,0,false,true,true⟩):=by rw[<-hH1,EA,MD,if_pos rfl]
 have cx:=Cells.new e sz x 0 false true true;have src: ∀k:Nat->List AV->OR,(ub (.slice H.nx 0 1 none) λn=>Ww H1 sz (.slice H.nx 0 1 none) n λnew=>k n new)=k 1 x:=by
  intro k;show(Ww H1 sz (.slice H.nx 0 1 none) 1 λnew=>k 1 new)=_;generalize(⟨e,sz,YN x,T.ofList x,.unk,0,false,true,true⟩:Row)=r0 at gx cx;unfold Ww Yx;simp only[gx];show ZJ (Nat.ble (0+1*sz) r0.size) (k 1 (Vw r0 0 (1*sz)))=_;rw[Rk,cx.size,hx,Zj (show 0+sz<=sz by omega)];have:=cx.load (o:=0) (n:=sz) (by omega);rw[this,YL,Z1 (by omega)];rfl
 have ap: ∀a,TH e sz bytes a (.slice H.nx 0 1 none) H1=Oh a e sz bytes H1 1 x:=by
  intro a;show ZJ (Nat.ble 1 sz) (ZJ (Nat.ble 1 bytes) _)=_;rw[Zj hsz,Zj hby];exact src λn new=>Oh a e sz bytes H1 n new
 rw[ap];rcases h with⟨rfl,rfl⟩|⟨hne,b,r,rfl,g,hb⟩
 ·refine⟨.slice H1.nx 0 1 none,H1.newRow e sz x false,?_,.inr ⟨by simp,H1.nx,_,rfl,⟨by rw[EA,MD,if_pos rfl],rfl,rfl,rfl,rfl,rfl,rfl,by simpa using Cells.new e sz x 0 false true false,λl hm=>by simp at hm;rw[hm];exact hx,by show H1.ro<=H1.nx;rw[k1.ro];omega,ZU _⟩,by omega⟩,b1.trans (Below.new lo H1 _)⟩
  show ZJ (Nat.ble (1*bytes) 140737488355328) (OR.val (.slice H1.nx 0 1 none) (H1.newRow e sz x false))=_;rw[Zj (by simpa using hl)];rfl
 ·have g1:zM H1 b e sz ls r:=g.moved (k1.get b g.low (by simp)) k1.ro (by omega)
  have hs:=g1.size;have hcap:Wa r 0 none=ls.length:=by
   show cond (Nat.beq r.sz 1) (r.size - 0) ((r.size - 0)/r.sz)=_;rw[g1.szr,hs,RK]
   by_cases h1:sz=1
   ·subst h1;show ls.length*1=_;omega
   ·rw[Yl,Zc h1]
    exact Nat.mul_div_cancel _ (by omega)
  have S5:H1.may r b=true:=by unfold Heap.may;rw[g1.own,Zj g1.ro];rfl
  have hlen:(ls.length+1)*sz=ls.length*sz+sz:=by rw[WR];omega
  refine⟨.slice H1.nx 0 (ls++[x]).length none,⟨Nat.succ H1.nx,(H1.t.del b).set H1.nx (.row ⟨r.elem,sz,(ls.length+1)*sz,XV r.cells (ls.length*sz) x,r.dflt,r.fz,r.sm,true,false⟩),H1.ro⟩,?_,.inr ⟨by simp,H1.nx,⟨r.elem,sz,(ls.length+1)*sz,XV r.cells (ls.length*sz) x,r.dflt,r.fz,r.sm,true,false⟩,rfl,⟨by rw[T.get_set,if_pos rfl],g1.elem,rfl,rfl,g1.fz,g1.sm,rfl,?_,?_,Yb g1.ro (QH g1.low),ZU _⟩,by omega⟩,b1.trans ⟨Ve _,rfl,λc hc hn=>?_⟩⟩
  ·show Yx H1 b _=_
   unfold Yx;simp only[g1.at_];have h1:Oa r sz none=true:=by show Nat.beq r.sz sz=true;rw[g1.szr,YD]
   have h2:Nat.ble (Nat.add ls.length 1) (Wa r 0 none)=false:=by
    rw[hcap];cases h:Nat.ble (Nat.add ls.length 1) ls.length with
    |false=>rfl
    |true=>have:=ZS h;have:ls.length+1<=ls.length:=this;omega
   rw[h1,h2];show ZJ (Nat.ble ((ls.length+1)*bytes) 140737488355328) (ZJ (Nat.ble (0+ls.length*sz) r.size) (cond r.exact _ (F5 H1 e b 0 ls.length 1 sz r x)))=_;rw[Zj hl,hs,Zl,Zj (Zs _),g1.exact_];show ZJ (Nat.beq r.elem e) (ZJ (H1.may r b) (ZJ (Nat.ble r.fz (ls.length*sz)) (ZJ (Nat.beq (ls.length*sz) r.size) (ZJ (Nat.beq 0 0) _))))=_;rw[g1.elem,YD,S5,g1.fz,Zj (ZN _),hs,YD];show OR.val (.slice H1.nx 0 (ls.length+1) none) _=_;rw[Zh];rfl
  ·have hf:=flat_len g1.each
   refine⟨by show(ls.length+1)*sz=_;rw[UA,Zh,hf];simp[hx];omega,λi hi=>?_⟩;rw[UA,Zh,hf] at hi;have e1:[x].flatten=x:=by simp
   rw[e1] at hi;rw[Row.get_eq];show((XV r.cells (ls.length*sz) x).get i).getD r.dflt=_;rw[SM,Ze,UA,e1]
   by_cases h1:ls.length*sz<=i
   ·rw[if_pos ⟨h1,by omega⟩,Z0 (by omega),hf,Zm (show i - ls.length*sz<x.length by omega)];rfl
   ·rw[if_neg (by omega),ZW (by omega)]
    have:=g1.cells.get i (by omega);rw[Row.get_eq,Ze] at this;exact this
  ·intro l hm
   rcases Zt.1 hm with hm|hm
   ·exact g1.each l hm
   ·simp at hm;rw[hm];exact hx
  ·show((H1.t.del b).set H1.nx _).get c=_
   rw[T.get_set,if_neg (by omega),T.get_del,if_neg (by omega)]
def TZ.below{H H':Heap}{v:AV}{e sz:Nat}{ls:List (List AV)}{lo:Nat}(h:TZ H v e sz ls lo)(hp: ∀c,lo<=c->c<H.nx->H'.t.get c=H.t.get c)(hro:H'.ro=H.ro)(hnx:H.nx<=H'.nx):TZ H' v e sz ls lo:=by
 rcases h with h|⟨hne,b,r,rfl,g,hb⟩
 ·exact .inl h
 ·exact .inr ⟨hne,b,r,rfl,g.moved (hp b hb g.low) hro hnx,hb⟩
def TZ.len{H:Heap}{v:AV}{e sz:Nat}{ls:List (List AV)}{lo:Nat}(h:TZ H v e sz ls lo)(G:Heap):Kq v G=.val (nI .i64 ls.length) G:=by
 rcases h with⟨rfl,rfl⟩|⟨_,b,r,rfl,_⟩
 ·exact N0 G
 ·exact WH ..
def TZ.low{H:Heap}{v:AV}{e sz:Nat}{ls:List (List AV)}{lo:Nat}(h:TZ H v e sz ls lo){n:Nat}(hn:H.nx<=n):WZ n v=true:=by
 rcases h with⟨_,rfl⟩|⟨_,b,r,rfl,g,_⟩
 ·rfl
 ·exact Vh (ZK g.low hn) _ _ _
def TZ.same{H:Heap}{v:AV}{e sz:Nat}{ls:List (List AV)}{lo:Nat}(h:TZ H v e sz ls lo)(n:Nat)(t:T Obj):Vo (.val v ⟨n,t,n⟩) v n=true:=by
 rcases h with⟨_,rfl⟩|⟨_,b,r,rfl,_⟩
 ·exact Sw n t
 ·exact V3 _ _ _ _ _ _
def vL(a b:Zd):QJ (.str a) (.str b)=some (decide (a=b)):=by
 show some (Mf a b)=_;rw[SZ]
 congr 1
 by_cases h:a=b<;>simp[h]
def Seen(es:List Ss)(ks:List (Zd)):Prop:=es.map (λe=>(e.key,e.val))=ks.map λk=>(AV.str k,nI .i64 1)
def Seen.nil:Seen [] []:=rfl
def Seen.push{es:List Ss}{ks:List (Zd)}(h:Seen es ks)(k:Zd)(c:Nat):Seen (es++[⟨.str k,nI .i64 1,c⟩]) (ks++[k]):=by
 unfold Seen at*;rw[Xg,Xg,h];rfl
def ZaJ(eq:AV->AV->Option Bool)(zv:AV)(ok:Bool)(m k:AV)(H:Heap):OR:=DH m (found ok H zv false) λb=>Fw H b λo=>oM o λes=>V4 eq k (found ok H zv false) (λv=>found ok H v true) es
def YM(eq:AV->AV->Option Bool)(zv:AV)(ok:Bool)(m k:WI)(tm:TM)(H:Heap):ME eq zv ok m k tm H=ZaJ eq zv ok (m tm) (k tm) H:=rfl
def ZjC(eq:AV->AV->Option Bool)(m k v:AV)(H:Heap):OR:=DH m .fail λb=>Fw H b λo=>tG o λes clock=>
 ZJ (Nat.ble H.ro b) (N1 eq k v clock (λes c=>.val Y9 (H.put b (.map es c))) es)
def my(eq:AV->AV->Option Bool)(m k v:WI)(tm:TM)(H:Heap):J2 eq m k v tm H=ZjC eq (m tm) (k tm) (v tm) H:=rfl
def eO(tm:TM)(H:Heap):mA tm H=.val (.map H.nx) (H.new (.map [] 0)):=rfl
def lkO(eq:AV->AV->Option Bool)(zv:AV)(ok:Bool)(x:Option Obj)(k:AV)(H:Heap):OR:=match x with|some o=>oM o λes=>V4 eq k (found ok H zv false) (λv=>found ok H v true) es|none=>.fail
def Xz(eq:AV->AV->Option Bool)(zv:AV)(ok:Bool)(b:Nat)(k:AV)(H:Heap):ZaJ eq zv ok (.map b) k H=lkO eq zv ok (H.t.get b) k H:=rfl
def upO(eq:AV->AV->Option Bool)(x:Option Obj)(b:Nat)(k v:AV)(H:Heap):OR:=match x with|some o=>tG o λes clock=>ZJ (Nat.ble H.ro b) (N1 eq k v clock (λes c=>.val Y9 (H.put b (.map es c))) es)|none=>.fail
def Zfp(eq:AV->AV->Option Bool)(b:Nat)(k v:AV)(H:Heap):ZjC eq (.map b) k v H=upO eq (H.t.get b) b k v H:=rfl
structure Sl(H:Heap)(sz:Nat)(v:AV)(ls:List (List AV)):Prop where
 each: ∀l∈ls,l.length=sz
 here:(ls=[]∧v=.nils)∨ ∃b o c,v=.slice b o ls.length c∧b<H.nx∧(ls≠[]-> ∃r,H.t.get b=some (.row r)∧o+ls.length*sz<=r.size∧ ∀i,i<ls.length*sz->r.get (o+i)=ls.flatten.getD i .unk)
def Sl.nil(H:Heap)(sz:Nat):Sl H sz .nils []:=⟨λ_ h=>(by cases h),.inl ⟨rfl,rfl⟩⟩
def Sl.keep{H H':Heap}{sz:Nat}{v:AV}{ls:List (List AV)}{S:List Nat}(h:Sl H sz v ls)(k:Zu H H' S)(hS: ∀b o n c,v=.slice b o n c->b∉S):Sl H' sz v ls:=by
 refine⟨h.each,?_⟩;rcases h.here with h1|⟨b,o,c,rfl,hb,h2⟩
 ·exact .inl h1
 ·refine .inr ⟨b,o,c,rfl,ZK hb k.nx,λhne=>?_⟩
  obtain⟨r,h3,h4⟩:=h2 hne;exact⟨r,by rw[k.get b hb (hS _ _ _ _ rfl)];exact h3,h4⟩
def Sl.keep0{H H':Heap}{sz:Nat}{v:AV}{ls:List (List AV)}(h:Sl H sz v ls)(k:Zu H H' []):Sl H' sz v ls:=h.keep k (by simp)
def Sl.len{H:Heap}{sz:Nat}{v:AV}{ls:List (List AV)}(h:Sl H sz v ls)(G:Heap):Kq v G=.val (nI .i64 ls.length) G:=by
 rcases h.here with⟨rfl,rfl⟩|⟨b,o,c,rfl,_⟩
 ·rfl
 ·exact WH ..
def Sl.low{H:Heap}{sz:Nat}{v:AV}{ls:List (List AV)}(h:Sl H sz v ls){n:Nat}(hn:H.nx<=n):WZ n v=true:=by
 rcases h.here with⟨rfl,rfl⟩|⟨b,o,c,rfl,hb,_⟩
 ·rfl
 ·exact Vh (by omega) ..
def Sl.same{H:Heap}{sz:Nat}{v:AV}{ls:List (List AV)}(h:Sl H sz v ls)(n:Nat)(t:T Obj):Vo (.val v ⟨n,t,n⟩) v n=true:=by
 rcases h.here with⟨rfl,rfl⟩|⟨b,o,c,rfl,_⟩
 ·exact Sw ..
 ·exact V3 ..
def Sl.cells{H:Heap}{sz:Nat}{v:AV}{ls:List (List AV)}(h:Sl H sz v ls):v.cells=[v]:=by
 rcases h.here with⟨rfl,rfl⟩|⟨b,o,c,rfl,_⟩<;>rfl
def Sl.at_{H:Heap}{sz:Nat}{v:AV}{ls:List (List AV)}(h:Sl H sz v ls){i:Nat}(hi:i<ls.length):
  ∃b o r,(∀(k:IntKind) (G:Heap),Dv sz v (nI k i) G=.val (.ptr b o) G)∧b<H.nx∧H.t.get b=some (.row r)∧(∀G:Heap,zI sz (some (.row r)) o G=.val (.agg (ls.getD i [])) G)∧ ∀(j:Nat) (G:Heap),j<sz->ld1 (some (.row r)) (o+j) G=.val ((ls.getD i []).getD j .unk) G:=by
 have hne:ls≠[]:=by intro e;subst e;cases hi
 rcases h.here with⟨rfl,_⟩|⟨b,o,c,rfl,hb,h2⟩
 ·exact absurd rfl hne
 ·obtain⟨r,h3,h4,h5⟩:=h2 hne
  have hm:(i+1)*sz<=ls.length*sz:=Ub _ hi;rw[WR,Rk] at hm;have hf:=flat_len h.each;have hg:=flat_at h.each hi;refine⟨b,o+i*sz,r,λk G=>fI hi b o c k G,hb,h3,λG=>?_,λj G hj=>?_⟩
  ·show ZJ (Nat.ble (Nat.add (o+i*sz) sz) r.size) (OR.val (.agg (Vw r (o+i*sz) sz)) G)=_
   rw[Zj (show Nat.add (o+i*sz) sz<=r.size by show o+i*sz+sz<=_;omega)];show OR.val (.agg (Vw r (o+i*sz) sz)) G=_
   congr 2
   rw[<-hg];apply Y7;intro j
   by_cases hj:j<sz
   ·rw[Sp _ _ _ _ hj,Yu hj,Y8]
    have:=h5 (i*sz+j) (by omega);rw[<-XT,Ze,Zm (by omega)] at this;rw[Zm (by omega),this];rfl
   ·rw[Z8 (by rw[UV];omega),Z8 (by rw[Zy];omega)]
  ·rw[Qt (by omega)]
   congr 1
   rw[<-hg,XT,h5 _ (by omega),Ze,Ze,Yu hj,Y8]
def Sl.of_recs{H:Heap}{b e sz:Nat}{ls:List (List AV)}{r:Row}(h:zM H b e sz ls r)(c:Option Nat):Sl H sz (.slice b 0 ls.length c) ls:=
 ⟨h.each,.inr ⟨b,0,c,rfl,h.low,λ_=>⟨r,h.at_,by rw[h.size];omega,λi hi=>by rw[Zl];exact h.cells.get i (by rw[flat_len h.each];exact hi)⟩⟩⟩
def Sl.of_buf{H:Heap}{v:AV}{e sz:Nat}{ls:List (List AV)}{lo:Nat}(h:TZ H v e sz ls lo):Sl H sz v ls:=by
 rcases h with⟨rfl,rfl⟩|⟨_,b,r,rfl,h,_⟩
 ·exact Sl.nil ..
 ·exact Sl.of_recs h _
def TL{n b:Nat}{l vs:List AV}{H:Heap}(hl:l.length=n)(hv:vs.length=n)(hn:1<=n)(hro:H.ro<=b)(e sz:Nat)(sm ex:Bool):F3 n (some (rG e sz l 0 sm true ex)) b 0 (.agg vs) H=.val Y9 (H.put b (rG e sz vs 0 sm true ex)):=by
 rw[lG hn (by exact hv) (by omega) hro (ZN _)]
 congr 3
 rw[Ad _ _ _ (by show 0+vs.length<=_;omega)];show []++(vs++l.drop (0+vs.length))=vs;rw[Uz (by omega)];simp
end
end Go.AI
