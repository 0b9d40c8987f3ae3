/- ManifestKnown, evaluated by the interpreter, is true: proved whatever numbers the types of the variables' rows have. -/
import Derived.Test.YtfipbmnpbadcnaaGreatDoorXM5
set_option linter.unusedVariables false
set_option linter.unusedSimpArgs false
set_option maxRecDepth 1000000
set_option maxHeartbeats 0
namespace Go.AI
open Go Go.Proofs Go.Proofs.YtfipbmnpbadcnaaGreatDoor
noncomputable section
theorem known (e : Nat → Nat) : isTrue (callN (libT gs0 lib0 tab29) fs 100000 1000 10 [] (H0 e)) = true := by kernel_rfl
theorem known_ok : CallOk Tryz.prog (callN (libT gs0 lib0 tab29) fs 100000 1000) := calls_ok mixed (libT_ok lib0_ok tab29 tab29_ok) fs_get 100000 1000
end
end Go.AI
