/- The closed facts of the row of JsonPuts: each by the kernel; no conditions. -/
import Derived.Test.YtobbpmaeiiblaaaGreatDoorLG
set_option maxRecDepth 1000000
set_option maxHeartbeats 0
set_option linter.unusedVariables false
set_option linter.unusedSimpArgs false
namespace Go.Proofs.YtobbpmaeiiblaaaGreatDoor
open Go.ChangeShapes Go.WideShapes Go.ChangeAt Go.RowKit Go.AI
theorem ZFJ{a b:Bool}(ha:a=true)(hb:b=true):(a&&b)=true:=by rw[ha,hb];rfl
theorem ZsL:joinedFacts Tryz.prog 5 Tryz.f5 Rows.jsonPutsSpec Rows.jsonPutsRow=true:=by
 unfold joinedFacts
 repeat' with_reducible apply ZFJ
 all_goals as_aux_lemma=>kernel_rfl
end Go.Proofs.YtobbpmaeiiblaaaGreatDoor
