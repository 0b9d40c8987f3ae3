/- A member of gzip put around a foot's field, its bytes read, texts repeated: evaluated, whatever sixteen bytes stand in the field: proved whatever numbers the types of the variables' rows have. -/
import Derived.Test.YtlnelphabohehaaGreatDoorXS4
import Derived.Test.YtlnelphabohehaaGreatDoorP7
set_option maxRecDepth 1000000
set_option maxHeartbeats 0
set_option linter.unusedVariables false
set_option linter.unusedSimpArgs false
namespace Go.AI
open Go Go.Proofs Go.Proofs.YtlnelphabohehaaGreatDoor
noncomputable section
abbrev libE : Lib := libT gs0 lib0 tab7
theorem known_ok : CallOk Tryz.prog (callN libE fs 100000 1000) := calls_ok mixed (libT_ok lib0_ok tab7 tab7_ok) fs_get 100000 1000
theorem known_put (e z : Nat → Nat) : outB (callN libE fs 100000 1000 29 (putA (.slice 100 0 26 none)) (rowH (H0 e).t 5 (cellsX z))) = some (5, 1, 48, false, true, false, cellsF z, nI .i64 0, 48) := by kernel_rfl
def subs : List SubE := [⟨28, [.str [48], nI .i64 13], .str (List.replicate 13 48)⟩, ⟨28, [.str [48], nI .i64 14], .str (List.replicate 14 48)⟩, ⟨28, [.str [48], nI .i64 15], .str (List.replicate 15 48)⟩, ⟨132, [nI .i64 16], .bool true⟩, ⟨133, [nI .u64 16], nI .i64 4⟩]
theorem known_subs (e : Nat → Nat) : (subs.all fun x => isRet x.v (callN libE fs 100000 1000 x.f x.args (H0 e))) = true := by kernel_rfl
end
end Go.AI
