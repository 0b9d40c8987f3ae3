/- The document's example (tells), evaluated by the interpreter, is true: proved whatever numbers the types of the variables' rows have. -/
import Derived.Test.YtfkkljjgkopkfaaGreatDoorBN
set_option maxRecDepth 1000000
set_option maxHeartbeats 0
set_option linter.all false
namespace Go.AI
open Go Go.Proofs Go.Proofs.YtfkkljjgkopkfaaGreatDoor
noncomputable section
def fR:((List.range 21).all λx=>Zar (.str (List.replicate x 48)) (ZA Zq fs 100000 1000 67 [.str [48],nI .i64 x] ⟨100,.leaf,100⟩))=true:=by kernel_rfl
def fQ:Zar (.tup [nI .u64 0,nI .u64 8]) (ZA Zq fs 100000 1000 94 [nI .u64 1,nI .u64 8] ⟨100,.leaf,100⟩)=true:=by kernel_rfl
end
end Go.AI
