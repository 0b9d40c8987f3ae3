/- The chapter's rows (wakes), evaluated by the interpreter, is true: proved whatever numbers the types of the variables' rows have. -/
import Derived.Test.YtobbpmaeiiblaaaGreatDoorBG
set_option maxRecDepth 1000000
set_option maxHeartbeats 0
set_option linter.unusedVariables false
set_option linter.unusedSimpArgs false
namespace Go.AI
open Go Go.Proofs Go.Proofs.YtobbpmaeiiblaaaGreatDoor
noncomputable section
theorem Ztd(e:Nat→Nat):ZBd (.bool true) (ZQ (ZtR gs0 Zk []) fs 100000 1000 35 [] (H0 e))=true:=by kernel_rfl
theorem Zvr:Uw Tryz.prog (ZQ (ZtR gs0 Zk []) fs 100000 1000):=ZkX Zvp (ZsE Zse [] Zy7) Zni 100000 1000
end
end Go.AI
