/- The document's example (wakes), evaluated by the interpreter, is true: proved whatever numbers the types of the variables' rows have. -/
import Derived.Test.YthhmkldnnnajhaaGreatDoorBN
set_option maxRecDepth 1000000
set_option maxHeartbeats 0
set_option linter.unusedVariables false
set_option linter.unusedSimpArgs false
namespace Go.AI
open Go Go.Proofs Go.Proofs.YthhmkldnnnajhaaGreatDoor
noncomputable section
theorem rj(e:Nat->Nat):lj (.bool true) (Xd (vq gs0 Z7 []) fs 100000 1000 18 [] (H0 e))=true:=by kernel_rfl
theorem ri:RF Tryz.prog (Xd (vq gs0 Z7 []) fs 100000 1000):=GX rH (xu xq [] nv) Cn 100000 1000
end
end Go.AI
