/- The closed facts of the row of ManifestPuts: each by the kernel; no conditions. -/
import Derived.Test.YtbmjgbajoemnaaaGreatDoorLN
set_option maxRecDepth 1000000
set_option maxHeartbeats 0
set_option linter.unusedVariables false
set_option linter.unusedSimpArgs false
namespace Go.Proofs.YtbmjgbajoemnaaaGreatDoor
open Go.ChangeShapes Go.WideShapes Go.ChangeAt Go.RowKit Go.AI
theorem Zdq{a b:Bool}(ha:a=true)(hb:b=true):(a&&b)=true:=by rw[ha,hb];rfl
theorem tX:joinedFacts Tryz.prog 3 Tryz.f3 Rows.manifestPutsSpec Rows.manifestPutsRow=true:=by
 unfold joinedFacts
 repeat' with_reducible apply Zdq
 all_goals as_aux_lemma=>kernel_rfl
end Go.Proofs.YtbmjgbajoemnaaaGreatDoor
