/- The document's example (wakes), evaluated by the interpreter, is true: proved whatever numbers the types of the variables' rows have. -/
import Derived.Test.YtlaambpobnkkbaaGreatDoorBN
set_option maxRecDepth 1000000
set_option maxHeartbeats 0
set_option linter.unusedVariables false
set_option linter.unusedSimpArgs false
namespace Go.AI
open Go Go.Proofs Go.Proofs.YtlaambpobnkkbaaGreatDoor
noncomputable section
theorem fp(e:Nat->Nat):Zdf (.bool true) (ZU (mz gs0 Zr []) fs 100000 1000 10 [] (H0 e))=true:=by kernel_rfl
theorem fo:SE Tryz.prog (ZU (mz gs0 Zr []) fs 100000 1000):=Hn pT (pP xo [] Zbo) Cu 100000 1000
end
end Go.AI
