/- The law TarBack returns true, and its card holds: proved; the package-level variables that its row lists hold what the program's text lays. -/
import Derived.Test.YtfkkljjgkopkfaaGreatDoorRN
set_option maxRecDepth 1000000
set_option maxHeartbeats 0
set_option linter.all false
namespace Go.Proofs.YtfkkljjgkopkfaaGreatDoor
open Go.ChangeShapes Go.WideShapes Go.ChangeAt Go.RowKit Go.AI
theorem tarBack_card:Rows.TarBackCardSaid:=
 Claim7.holds_tied_plain_at .later [] [.data,.data,.data,.data,.sentinel,.sentinel,.mapped,.funcs,.mapped,.mapped,.pinned] true (true, "442cc87fd5291c6d9ca960542249a48e586aea8f4e1d3c02f198b9f7532460a2") true
  fW (λ_ h=>by cases h) (by as_aux_lemma=>kernel_rfl) (λ_ h=>by cases h) tarBack_row_tie rfl ⟨rfl,rfl⟩ (by as_aux_lemma=>kernel_rfl) rfl
  (λf fn hf hfn=>by
   obtain rfl:f=3:=Option.some.inj ((show Tryz.prog.funcNamed "portolan/portolanlaw12.TarBack" =some 3 by as_aux_lemma=>kernel_rfl).symm.trans hf)|>.symm
   obtain rfl:fn=Tryz.f3:=(Option.some.inj (Tryz.func3.symm.trans hfn)).symm
   exact⟨by as_aux_lemma=>kernel_rfl,λj t ht=>by
    rw[Tryz.params3] at ht
    have hm:t∈[22,23,24]:=by simpa using Vf ht
    have hall:([22,23,24].all λu=>!Tryz.prog.wantsStandIn u)=true:=by as_aux_lemma=>kernel_rfl
    exact(show Tryz.prog.wantsStandIn t=false by simpa using Ya.1 hall t hm)⟩)
  (by as_aux_lemma=>kernel_rfl)
#print axioms tarBack_card
end Go.Proofs.YtfkkljjgkopkfaaGreatDoor
