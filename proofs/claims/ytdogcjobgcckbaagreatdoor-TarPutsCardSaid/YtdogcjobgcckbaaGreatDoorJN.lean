/- The law TarPuts returns true, and its card holds: proved; the package-level variables that its row lists hold what the program's text lays. -/
import Derived.Test.YtdogcjobgcckbaaGreatDoorRN
set_option maxRecDepth 1000000
set_option maxHeartbeats 0
set_option linter.unusedVariables false
set_option linter.unusedSimpArgs false
namespace Go.Proofs.YtdogcjobgcckbaaGreatDoor
open Go.ChangeShapes Go.WideShapes Go.ChangeAt Go.RowKit Go.AI
theorem tarPuts_card:Rows.TarPutsCardSaid:=
 Claim7.holds_tied_plain_at .later [] [.data,.data,.data,.data,.mapped,.funcs,.mapped,.pinned] true (true, "133b907ff4835cda581dedcda6c016ed807405a3df4a13b59b86f85103265528") false
  m6 (λ_ h=>by cases h) (by as_aux_lemma=>kernel_rfl) (λ_ h=>by cases h) tarPuts_row_tie rfl ⟨rfl,rfl⟩ (by as_aux_lemma=>kernel_rfl) rfl
  (λf fn hf hfn=>by
   obtain rfl:f=3:=Option.some.inj ((show Tryz.prog.funcNamed "portolan/portolanlaw12.TarPuts" =some 3 by as_aux_lemma=>kernel_rfl).symm.trans hf)|>.symm
   obtain rfl:fn=Tryz.f3:=(Option.some.inj (Tryz.func3.symm.trans hfn)).symm
   exact⟨by as_aux_lemma=>kernel_rfl,λj t ht=>by
    rw[Tryz.params3] at ht
    have hm:t∈[22,3]:=by simpa using Vo ht
    have hall:([22,3].all λu=>!Tryz.prog.wantsStandIn u)=true:=by as_aux_lemma=>kernel_rfl
    exact(show Tryz.prog.wantsStandIn t=false by simpa using Yo.1 hall t hm)⟩)
  (by as_aux_lemma=>kernel_rfl)
#print axioms tarPuts_card
end Go.Proofs.YtdogcjobgcckbaaGreatDoor
