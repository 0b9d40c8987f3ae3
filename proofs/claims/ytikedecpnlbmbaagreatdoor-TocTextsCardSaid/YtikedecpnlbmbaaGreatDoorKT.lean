/- The chapter's rows (wakes), evaluated by the interpreter, is true: proved whatever numbers the types of the variables' rows have. -/
import Derived.Test.YtikedecpnlbmbaaGreatDoorXT2
set_option maxRecDepth 1000000
set_option linter.unusedVariables false
set_option linter.unusedSimpArgs false
set_option maxRecDepth 1000000
set_option maxHeartbeats 0
namespace Go.AI
open Go Go.Proofs Go.Proofs.YtikedecpnlbmbaaGreatDoor
noncomputable section
theorem known (e : Nat → Nat) : isTrue (callN (libT gs0 lib0 tab8) fs 100000 1000 9 [] (H0 e)) = true := by kernel_rfl
theorem known_ok : CallOk Tryz.prog (callN (libT gs0 lib0 tab8) fs 100000 1000) := calls_ok mixed (libT_ok lib0_ok tab8 tab8_ok) fs_get 100000 1000
end
end Go.AI
