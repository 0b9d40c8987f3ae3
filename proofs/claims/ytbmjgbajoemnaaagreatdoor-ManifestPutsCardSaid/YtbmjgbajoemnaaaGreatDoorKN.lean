/- The chapter's rows (tells), evaluated by the interpreter, is true: proved whatever numbers the types of the variables' rows have. -/
import Derived.Test.YtbmjgbajoemnaaaGreatDoorBN
set_option maxRecDepth 1000000
set_option maxHeartbeats 0
set_option linter.unusedVariables false
set_option linter.unusedSimpArgs false
namespace Go.AI
open Go Go.Proofs Go.Proofs.YtbmjgbajoemnaaaGreatDoor
noncomputable section
theorem j8(e:Nat->Nat):Zar (.bool true) (ZJ (nz gs0 Zp []) fs 100000 1000 17 [] (H0 e))=true:=by kernel_rfl
theorem j7:SD Tryz.prog (ZJ (nz gs0 Zp []) fs 100000 1000):=D3 iA (pc q9 [] bg) yJ 100000 1000
end
end Go.AI
