/- The chapter's rows (wakes), evaluated, are true: proved. -/
import Derived.Test.YtmnmknjlgpjcbaaGreatDoorBZ
set_option maxRecDepth 1000000
set_option maxHeartbeats 0
set_option linter.unusedVariables false
set_option linter.unusedSimpArgs false
namespace Go.AI
open Go Go.Proofs Go.Proofs.YtmnmknjlgpjcbaaGreatDoor
noncomputable section
theorem kh(e:Nat->Nat):Zel (.bool true) (ZG (ko gs0 Zo []) fs 100000 1000 12 [] (H0 e))=true:=by kernel_rfl
theorem dD:SL Tryz.prog (ZG (ko gs0 Zo []) fs 100000 1000):=DX dV (nz nw [] ZcA) xn 100000 1000
end
end Go.AI
