/- The closed facts of the row of ChunkChecks: each by the kernel; no conditions. -/
import Derived.Test.YtlaambpobnkkbaaGreatDoorLN
set_option maxRecDepth 1000000
set_option maxHeartbeats 0
set_option linter.unusedVariables false
set_option linter.unusedSimpArgs false
namespace Go.Proofs.YtlaambpobnkkbaaGreatDoor
open Go.ChangeShapes Go.WideShapes Go.ChangeAt Go.RowKit Go.AI
theorem Zg8{a b:Bool}(ha:a=true)(hb:b=true):(a&&b)=true:=by rw[ha,hb];rfl
theorem sW:joinedFacts Tryz.prog 3 Tryz.f3 Rows.chunkChecksSpec Rows.chunkChecksRow=true:=by
 unfold joinedFacts
 repeat' with_reducible apply Zg8
 all_goals as_aux_lemma=>kernel_rfl
end Go.Proofs.YtlaambpobnkkbaaGreatDoor
