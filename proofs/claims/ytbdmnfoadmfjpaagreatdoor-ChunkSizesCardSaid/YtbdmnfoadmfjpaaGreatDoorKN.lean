/- The document's example (wakes), evaluated by the interpreter, is true: proved whatever numbers the types of the variables' rows have. -/
import Derived.Test.YtbdmnfoadmfjpaaGreatDoorBN
set_option maxRecDepth 1000000
set_option maxHeartbeats 0
set_option linter.unusedVariables false
set_option linter.unusedSimpArgs false
namespace Go.AI
open Go Go.Proofs Go.Proofs.YtbdmnfoadmfjpaaGreatDoor
noncomputable section
theorem bU(e:Nat->Nat):mJ (.bool true) (Z8 (j7 gs0 Zo []) fs 100000 1000 7 [] (H0 e))=true:=by kernel_rfl
theorem bT:SC Tryz.prog (Z8 (j7 gs0 Zo []) fs 100000 1000):=Gw mY (mR vf [] ZdY) BM 100000 1000
theorem jT:((List.range 21).all λx=>mJ (.str (List.replicate x 48)) (Z8 Zo fs 100000 1000 67 [.str [48],nI .i64 x] ⟨100,.leaf,100⟩))=true:=by kernel_rfl
theorem jS:mJ (.tup [nI .u64 0,nI .u64 8]) (Z8 Zo fs 100000 1000 83 [nI .u64 1,nI .u64 8] ⟨100,.leaf,100⟩)=true:=by kernel_rfl
end
end Go.AI
