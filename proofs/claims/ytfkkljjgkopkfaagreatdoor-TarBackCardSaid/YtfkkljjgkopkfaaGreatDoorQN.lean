/- The closed facts of the row of TarBack: each by the kernel; no conditions. -/
import Derived.Test.YtfkkljjgkopkfaaGreatDoorLN
set_option maxRecDepth 1000000
set_option maxHeartbeats 0
set_option linter.all false
namespace Go.Proofs.YtfkkljjgkopkfaaGreatDoor
open Go.ChangeShapes Go.WideShapes Go.ChangeAt Go.RowKit Go.AI
def Zj9{a b:Bool}(ha:a=true)(hb:b=true):(a&&b)=true:=by rw[ha,hb];rfl
def nY:joinedFacts Tryz.prog 3 Tryz.f3 Rows.tarBackSpec Rows.tarBackRow=true:=by
 unfold joinedFacts
 repeat' with_reducible apply Zj9
 all_goals as_aux_lemma=>kernel_rfl
end Go.Proofs.YtfkkljjgkopkfaaGreatDoor
