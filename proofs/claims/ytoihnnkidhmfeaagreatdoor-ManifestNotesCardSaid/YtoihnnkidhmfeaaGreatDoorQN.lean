/- The closed facts of the row of ManifestNotes: each by the kernel; no conditions. -/
import Derived.Test.YtoihnnkidhmfeaaGreatDoorLN
set_option maxRecDepth 1000000
set_option maxHeartbeats 0
set_option linter.unusedVariables false
set_option linter.unusedSimpArgs false
namespace Go.Proofs.YtoihnnkidhmfeaaGreatDoor
open Go.ChangeShapes Go.WideShapes Go.ChangeAt Go.RowKit Go.AI
theorem ZcB{a b:Bool}(ha:a=true)(hb:b=true):(a&&b)=true:=by rw[ha,hb];rfl
theorem tW:joinedFacts Tryz.prog 3 Tryz.f3 Rows.manifestNotesSpec Rows.manifestNotesRow=true:=by
 unfold joinedFacts
 repeat' with_reducible apply ZcB
 all_goals as_aux_lemma=>kernel_rfl
end Go.Proofs.YtoihnnkidhmfeaaGreatDoor
