/- The document's example (tells), evaluated by the interpreter, is true: proved whatever numbers the types of the variables' rows have. -/
import Derived.Test.YtbmdhpdcgbgcnaaGreatDoorBN
set_option maxRecDepth 1000000
set_option maxHeartbeats 0
set_option linter.unusedVariables false
set_option linter.unusedSimpArgs false
namespace Go.AI
open Go Go.Proofs Go.Proofs.YtbmdhpdcgbgcnaaGreatDoor
noncomputable section
theorem kG(e:Nat->Nat):rh (.bool true) (Z7 (pF gs0 Zx []) fs 100000 1000 6 [] (H0 e))=true:=by kernel_rfl
theorem kF:Sa Tryz.prog (Z7 (pF gs0 Zx []) fs 100000 1000):=JE ru (rn zu [] ca) EP 100000 1000
theorem pw:((List.range 21).all λx=>rh (.str (List.replicate x 48)) (Z7 Zx fs 100000 1000 65 [.str [48],nI .i64 x] ⟨100,.leaf,100⟩))=true:=by kernel_rfl
theorem pv:rh (.tup [nI .u64 0,nI .u64 8]) (Z7 Zx fs 100000 1000 92 [nI .u64 1,nI .u64 8] ⟨100,.leaf,100⟩)=true:=by kernel_rfl
end
end Go.AI
