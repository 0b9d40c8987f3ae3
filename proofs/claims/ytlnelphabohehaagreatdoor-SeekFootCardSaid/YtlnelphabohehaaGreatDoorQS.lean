/- The closed facts of the row of SeekFoot: each by the kernel; no conditions. -/
import Derived.Test.YtlnelphabohehaaGreatDoorLS
set_option maxRecDepth 1000000
set_option maxHeartbeats 0
set_option linter.unusedVariables false
set_option linter.unusedSimpArgs false
namespace Go.Proofs.YtlnelphabohehaaGreatDoor
open Go.ChangeShapes Go.WideShapes Go.ChangeAt Go.RowKit Go.AI
theorem and_i {a b : Bool} (ha : a = true) (hb : b = true) : (a && b) = true := by rw [ha, hb]; rfl
theorem law_closed : joinedFacts Tryz.prog 4 Tryz.f4 Rows.seekFootSpec Rows.seekFootRow = true := by
  unfold joinedFacts
  repeat' with_reducible apply and_i
  all_goals as_aux_lemma => kernel_rfl
end Go.Proofs.YtlnelphabohehaaGreatDoor
