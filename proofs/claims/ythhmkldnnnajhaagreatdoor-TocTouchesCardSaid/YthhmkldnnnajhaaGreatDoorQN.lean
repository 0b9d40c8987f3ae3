/- The closed facts of the row of TocTouches: each by the kernel; no conditions. -/
import Derived.Test.YthhmkldnnnajhaaGreatDoorLN
set_option maxRecDepth 1000000
set_option maxHeartbeats 0
set_option linter.unusedVariables false
set_option linter.unusedSimpArgs false
namespace Go.Proofs.YthhmkldnnnajhaaGreatDoor
open Go.ChangeShapes Go.WideShapes Go.ChangeAt Go.RowKit Go.AI
theorem iM{a b:Bool}(ha:a=true)(hb:b=true):(a&&b)=true:=by rw[ha,hb];rfl
theorem zI:joinedFacts Tryz.prog 4 Tryz.f4 Rows.tocTouchesSpec Rows.tocTouchesRow=true:=by
 unfold joinedFacts
 repeat' with_reducible apply iM
 all_goals as_aux_lemma=>kernel_rfl
end Go.Proofs.YthhmkldnnnajhaaGreatDoor
