/- The functions that the law comes to, as the interpreter's code: printed by a program of mine; the text behind proves that each is what compF makes of the program's function. -/
import Derived.Test.YtbmjgbajoemnaaaGreatDoorP5
import Derived.Test.YtbmjgbajoemnaaaGreatDoorProg
import Derived.KernelRfl
set_option maxRecDepth 1000000
set_option maxHeartbeats 0
set_option linter.unusedVariables false
set_option linter.unusedSimpArgs false
namespace Go.AI
open Go.Proofs N8
noncomputable section
def c17:CF:=⟨[(Ys,none)],(Zj (Zc (Z0 (k (.bool false))) st0<|Zd) (Zj (Zc (Vw [(.str []),(.str []),.nils] []) V3<|Zc (ZI 12 [WN]) VZ<|Zc (Z0 WB) Vs<|Zc (XR X5 0) Vt<|Zc (XR X5 1) V2<|Zc (Z0 Wc) st1<|Zc (Z0 Wv) st2<|Zd) (Zj (Zc (Vw [.nils] []) XE<|Zc (ZI 10 [Xc]) XL<|Zc (Z0 Xq) XJ<|Zc (XR Xg 0) Wo<|Zc (XR Xg 1) WA<|Zc (Z0 XH) Vk<|Zc (Z0 Wk) Xz<|Zd) (Zj (Zc (Z0 Xy) WZ<|Zc (UQ Wy (k (nI .i64 0)) Sn false) W0<|Zc (Z0 Wu) Vx<|Ya WJ true (Z0 Y2) Vn<|Ya WJ true (KF Wx) VJ<|Ya WJ true (UQ W5 (k (.str [123,34,97,114,99,104,105,116,101,99,116,117,114,101,34,58,34,34,44,34,111,115,34,58,34,34,44,34,114,111,111,116,102,115,34,58,123,34,100,105,102,102,95,105,100,115,34,58,91,93,44,34,116,121,112,101,34,58,34,108,97,121,101,114,115,34,125,125])) Nc false) V1<|Zc (YN WJ W1 (k (.bool false))) Us<|Zc (Z0 WH) Uw<|Ya Vf true (Z0 Xf) UC<|Ya Vf true (UQ Vu (k (nI .i64 0)) Sn false) UO<|Zc (YN Vf UU (k (.bool false))) U4<|Zc (Z0 Uq) TB<|Ya UK true (Z0 XK) To<|Ya UK true (KF Uh) U9<|Ya UK true (UQ Uy (k (.str [123,34,109,97,110,105,102,101,115,116,115,34,58,91,93,44,34,109,101,100,105,97,84,121,112,101,34,58,34,97,112,112,108,105,99,97,116,105,111,110,47,118,110,100,46,111,99,105,46,105,109,97,103,101,46,105,110,100,101,120,46,118,49,43,106,115,111,110,34,44,34,115,99,104,101,109,97,86,101,114,115,105,111,110,34,58,50,125])) Nc false) Tp<|Zc (YN UK UL (k (.bool false))) Tw<|Zc (Z0 Ui) st0<|Zd) Yv))))⟩
end
end Go.AI
