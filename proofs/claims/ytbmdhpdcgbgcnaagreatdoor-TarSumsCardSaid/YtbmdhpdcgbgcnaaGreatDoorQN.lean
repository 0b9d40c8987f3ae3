/- The closed facts of the row of TarSums: each by the kernel; no conditions. -/
import Derived.Test.YtbmdhpdcgbgcnaaGreatDoorLN
set_option maxRecDepth 1000000
set_option maxHeartbeats 0
set_option linter.unusedVariables false
set_option linter.unusedSimpArgs false
namespace Go.Proofs.YtbmdhpdcgbgcnaaGreatDoor
open Go.ChangeShapes Go.WideShapes Go.ChangeAt Go.RowKit Go.AI
theorem Zds{a b:Bool}(ha:a=true)(hb:b=true):(a&&b)=true:=by rw[ha,hb];rfl
theorem ug:joinedFacts Tryz.prog 3 Tryz.f3 Rows.tarSumsSpec Rows.tarSumsRow=true:=by
 unfold joinedFacts
 repeat' with_reducible apply Zds
 all_goals as_aux_lemma=>kernel_rfl
end Go.Proofs.YtbmdhpdcgbgcnaaGreatDoor
