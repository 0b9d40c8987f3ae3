/- The chapter's rows (wakes), and a text repeated, evaluated by the interpreter, is true: proved whatever numbers the types of the variables' rows have. -/
import Derived.Test.YtobbpmaeiiblaaaGreatDoorBG
set_option maxRecDepth 1000000
set_option maxHeartbeats 0
set_option linter.unusedVariables false
set_option linter.unusedSimpArgs false
namespace Go.AI
open Go Go.Proofs Go.Proofs.YtobbpmaeiiblaaaGreatDoor
noncomputable section
theorem known_wak (e : Nat → Nat) : isRet (.bool true) (callN (libT gs0 lib0 []) fs 100000 1000 35 [] (H0 e)) = true := by kernel_rfl
theorem known_rep (e : Nat → Nat) : isRet (.str (List.replicate 20 48)) (callN (libT gs0 lib0 []) fs 100000 1000 47 [.str [48], nI .i64 20] (H0 e)) = true := by kernel_rfl
theorem known_ok : CallOk Tryz.prog (callN (libT gs0 lib0 []) fs 100000 1000) := calls_ok mixed (libT_ok lib0_ok [] none_ok) fs_get 100000 1000
end
end Go.AI
