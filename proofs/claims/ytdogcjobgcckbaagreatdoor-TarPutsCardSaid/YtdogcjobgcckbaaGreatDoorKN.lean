/- The document's example (tells), evaluated by the interpreter, is true: proved whatever numbers the types of the variables' rows have. -/
import Derived.Test.YtdogcjobgcckbaaGreatDoorBN
set_option maxRecDepth 1000000
set_option maxHeartbeats 0
set_option linter.unusedVariables false
set_option linter.unusedSimpArgs false
namespace Go.AI
open Go Go.Proofs Go.Proofs.YtdogcjobgcckbaaGreatDoor
noncomputable section
theorem fX(e:Nat->Nat):pZ (.bool true) (ZE (lf gs0 Zn []) fs 100000 1000 15 [] (H0 e))=true:=by kernel_rfl
theorem fW:Si Tryz.prog (ZE (lf gs0 Zn []) fs 100000 1000):=Hx oi (oe xi [] ZbC) Co 100000 1000
theorem mV:((List.range 21).all λx=>pZ (.str (List.replicate x 48)) (ZE Zn fs 100000 1000 79 [.str [48],nI .i64 x] ⟨100,.leaf,100⟩))=true:=by kernel_rfl
theorem mU:pZ (.tup [nI .u64 0,nI .u64 8]) (ZE Zn fs 100000 1000 95 [nI .u64 1,nI .u64 8] ⟨100,.leaf,100⟩)=true:=by kernel_rfl
end
end Go.AI
