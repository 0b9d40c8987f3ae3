/- The chapter's rows (wakes), evaluated by the interpreter, is true: proved whatever numbers the types of the variables' rows have. -/
import Derived.Test.YtobbpmaeiiblaaaGreatDoorBG
import Derived.Test.YtobbpmaeiiblaaaGreatDoorPE
import Derived.Test.YtobbpmaeiiblaaaGreatDoorPA
set_option maxRecDepth 1000000
set_option maxHeartbeats 0
set_option linter.unusedVariables false
set_option linter.unusedSimpArgs false
namespace Go.AI
open Go Go.Proofs Go.Proofs.YtobbpmaeiiblaaaGreatDoor
noncomputable section
theorem ZtJ(e:Nat→Nat):Zs6 (.bool true) (ZR (Zp3 gs0 Zm []) fs 100000 1000 35 [] (H0 e))=true:=by kernel_rfl
theorem ZtK(e:Nat→Nat):(Zfy.all fun s=>Zs6 (.bool (vu s)) (ZR (Zp3 gs0 Zm []) fs 100000 1000 126 [.str s] (H0 e)))=true:=by kernel_rfl
theorem ZtL(e:Nat→Nat):(Zfy.all fun s=>Zs6 (.str (quo s)) (ZR (Zp3 gs0 Zm []) fs 100000 1000 119 [.str s] (H0 e)))=true:=by kernel_rfl
theorem Zku:Qd Tryz.prog (ZR (Zp3 gs0 Zm []) fs 100000 1000):=Zli ZvX (Zta ZsM [] Zy4) ZnP 100000 1000
end
end Go.AI
