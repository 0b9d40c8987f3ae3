/- The law JsonBlanks returns true, and its card holds: proved; the package-level variables that its row lists hold what the program's text lays. -/
import Derived.Test.YtmnmknjlgpjcbaaGreatDoorRZ
set_option maxRecDepth 1000000
set_option maxHeartbeats 0
set_option linter.unusedVariables false
set_option linter.unusedSimpArgs false
namespace Go.Proofs.YtmnmknjlgpjcbaaGreatDoor
open Go.ChangeShapes Go.WideShapes Go.ChangeAt Go.RowKit Go.AI
theorem jsonBlanks_card:Rows.JsonBlanksCardSaid:=
 Claim7.holds_tied_plain_at .later [] [.data,.data,.data,.data,.sentinel,.sentinel,.pinned] true (true, "3c3a2cbdebc59740ef53db91b7579f71afbe3d7e6a6b84454bc7eebcd3d457d2") true
  kl (λ_ h=>by cases h) (by as_aux_lemma=>kernel_rfl) (λ_ h=>by cases h) jsonBlanks_row_tie rfl ⟨rfl,rfl⟩ (by as_aux_lemma=>kernel_rfl) rfl
  (λf fn hf rI=>by
   obtain rfl:f=3:=Option.some.inj ((show Tryz.prog.funcNamed "portolan/portolanlaw13.JsonBlanks" =some 3 by as_aux_lemma=>kernel_rfl).symm.trans hf)|>.symm
   obtain rfl:fn=Tryz.f3:=(Option.some.inj (Tryz.func3.symm.trans rI)).symm
   exact⟨by as_aux_lemma=>kernel_rfl,λj t ht=>by
    rw[Tryz.params3] at ht
    have hm:t∈[22,23]:=by simpa using W0 ht
    have MR:([22,23].all λu=>!Tryz.prog.wantsStandIn u)=true:=by as_aux_lemma=>kernel_rfl
    exact(show Tryz.prog.wantsStandIn t=false by simpa using Y7.1 MR t hm)⟩)
  (by as_aux_lemma=>kernel_rfl)
#print axioms jsonBlanks_card
end Go.Proofs.YtmnmknjlgpjcbaaGreatDoor
