/- The law TocTouches returns true, and its card holds: proved; the package-level variables that its row lists hold what the program's text lays. -/
import Derived.Test.YthhmkldnnnajhaaGreatDoorRN
set_option maxRecDepth 1000000
set_option maxHeartbeats 0
set_option linter.unusedVariables false
set_option linter.unusedSimpArgs false
namespace Go.Proofs.YthhmkldnnnajhaaGreatDoor
open Go.ChangeShapes Go.WideShapes Go.ChangeAt Go.RowKit Go.AI
theorem tocTouches_card:Rows.TocTouchesCardSaid:=
 Claim7.holds_tied_plain_at .later [] [.data,.data,.data,.data,.sentinel,.sentinel,.funcs,.mapped,.widerDeep,.pinned] true (true, "138bb9c91e11e0e00e56d714ccd1bc9c5cbd65b1a51a66b194941474bc6fd0fd") true
  vm (λ_ h=>by cases h) (by as_aux_lemma=>kernel_rfl) (λ_ h=>by cases h) tocTouches_row_tie rfl ⟨rfl,rfl⟩ (by as_aux_lemma=>kernel_rfl) rfl
  (λf fn hf hfn=>by
   obtain rfl:f=4:=Option.some.inj ((show Tryz.prog.funcNamed "portolan/portolanlaw15.TocTouches" =some 4 by as_aux_lemma=>kernel_rfl).symm.trans hf)|>.symm
   obtain rfl:fn=Tryz.f4:=(Option.some.inj (Tryz.func4.symm.trans hfn)).symm
   exact⟨by as_aux_lemma=>kernel_rfl,λj t ht=>by
    rw[Tryz.params4] at ht
    have hm:t∈[47,3,3]:=by simpa using Ux ht
    have hall:([47,3,3].all λu=>!Tryz.prog.wantsStandIn u)=true:=by as_aux_lemma=>kernel_rfl
    exact(show Tryz.prog.wantsStandIn t=false by simpa using Xw.1 hall t hm)⟩)
  (by as_aux_lemma=>kernel_rfl)
#print axioms tocTouches_card
end Go.Proofs.YthhmkldnnnajhaaGreatDoor
