/- The law TarSums returns true, and its card holds: proved; the package-level variables that its row lists hold what the program's text lays. -/
import Derived.Test.YtbmdhpdcgbgcnaaGreatDoorRN
set_option maxRecDepth 1000000
set_option maxHeartbeats 0
set_option linter.unusedVariables false
set_option linter.unusedSimpArgs false
namespace Go.Proofs.YtbmdhpdcgbgcnaaGreatDoor
open Go.ChangeShapes Go.WideShapes Go.ChangeAt Go.RowKit Go.AI
theorem tarSums_card:Rows.TarSumsCardSaid:=
 Claim7.holds_tied_plain_at .later [] [.data,.data,.data,.data,.sentinel,.sentinel,.mapped,.funcs,.mapped,.mapped,.pinned] true (true, "d8f1a97594e6347d9fe1b2dde0777830b77e62986146bced833f72bc87ae643e") true
  pA (λ_ h=>by cases h) (by as_aux_lemma=>kernel_rfl) (λ_ h=>by cases h) tarSums_row_tie rfl ⟨rfl,rfl⟩ (by as_aux_lemma=>kernel_rfl) rfl
  (λf fn hf hfn=>by
   obtain rfl:f=3:=Option.some.inj ((show Tryz.prog.funcNamed "portolan/portolanlaw12.TarSums" =some 3 by as_aux_lemma=>kernel_rfl).symm.trans hf)|>.symm
   obtain rfl:fn=Tryz.f3:=(Option.some.inj (Tryz.func3.symm.trans hfn)).symm
   exact⟨by as_aux_lemma=>kernel_rfl,λj t ht=>by
    rw[Tryz.params3] at ht
    have hm:t∈[28,29,5]:=by simpa using Vo ht
    have hall:([28,29,5].all λu=>!Tryz.prog.wantsStandIn u)=true:=by as_aux_lemma=>kernel_rfl
    exact(show Tryz.prog.wantsStandIn t=false by simpa using Y2.1 hall t hm)⟩)
  (by as_aux_lemma=>kernel_rfl)
#print axioms tarSums_card
end Go.Proofs.YtbmdhpdcgbgcnaaGreatDoor
