/- The closed facts of the row of TocRange: each by the kernel; no conditions. -/
import Derived.Test.YtikedecpnlbmbaaGreatDoorLG
set_option maxRecDepth 1000000
set_option linter.unusedVariables false
set_option linter.unusedSimpArgs false
set_option maxRecDepth 1000000
set_option maxHeartbeats 0
namespace Go.Proofs.YtikedecpnlbmbaaGreatDoor
open Go.ChangeShapes Go.WideShapes Go.ChangeAt Go.RowKit Go.AI
theorem and_i {a b : Bool} (ha : a = true) (hb : b = true) : (a && b) = true := by rw [ha, hb]; rfl
theorem law_closed : joinedFacts Tryz.prog 4 Tryz.f4 Rows.tocRangeSpec Rows.tocRangeRow = true := by
  unfold joinedFacts
  repeat' with_reducible apply and_i
  all_goals as_aux_lemma => kernel_rfl
end Go.Proofs.YtikedecpnlbmbaaGreatDoor
