/- The chapter's rows (tells), evaluated by the interpreter, is true: proved whatever numbers the types of the variables' rows have. -/
import Derived.Test.YtoihnnkidhmfeaaGreatDoorBN
set_option maxRecDepth 1000000
set_option maxHeartbeats 0
set_option linter.unusedVariables false
set_option linter.unusedSimpArgs false
namespace Go.AI
open Go Go.Proofs Go.Proofs.YtoihnnkidhmfeaaGreatDoor
noncomputable section
theorem ky(e:Nat->Nat):bD (.bool true) (Yo (oA gs0 ZM []) fs 100000 1000 8 [] (H0 e))=true:=by kernel_rfl
theorem kx:SS Tryz.prog (Yo (oA gs0 ZM []) fs 100000 1000):=HP qK (qG xj [] fO) DU 100000 1000
end
end Go.AI
