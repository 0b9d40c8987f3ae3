/- The chapter's rows (wakes), and two small calls, evaluated by the interpreter, is true: proved whatever numbers the types of the variables' rows have. -/
import Derived.Test.YtikedecpnlbmbaaGreatDoorXG1
set_option maxRecDepth 1000000
set_option linter.unusedVariables false
set_option linter.unusedSimpArgs false
set_option maxRecDepth 1000000
set_option maxHeartbeats 0
namespace Go.AI
open Go Go.Proofs Go.Proofs.YtikedecpnlbmbaaGreatDoor
noncomputable section
theorem known (e : Nat → Nat) : isRet (.bool true) (callN (libT gs0 lib0 tab1) fs 100000 1000 9 [] (H0 e)) = true := by kernel_rfl
theorem known_cls (e : Nat → Nat) : isRet (.tup [nI .i64 1, .str [102]]) (callN (libT gs0 lib0 tab1) fs 100000 1000 47 [.str [102]] (H0 e)) = true := by kernel_rfl
theorem known_tm (e : Nat → Nat) : isRet (.bool true) (callN (libT gs0 lib0 tab1) fs 100000 1000 48 [.agg [.str [102], nI .i64 2, nI .u32 0, nI .u32 0, nI .u32 0, nI .i64 0, .nils, .nils, .str []]] (H0 e)) = true := by kernel_rfl
theorem known_ok : CallOk Tryz.prog (callN (libT gs0 lib0 tab1) fs 100000 1000) := calls_ok mixed (libT_ok lib0_ok tab1 tab1_ok) fs_get 100000 1000
end
end Go.AI
