/- The law JsonOrder returns true, and its card holds: proved; the package-level variables that its row lists hold what the program's text lays. -/
import Derived.Test.YtobbpmaeiiblaaaGreatDoorRG
set_option maxRecDepth 1000000
set_option maxHeartbeats 0
set_option linter.unusedVariables false
set_option linter.unusedSimpArgs false
namespace Go.Proofs.YtobbpmaeiiblaaaGreatDoor
open Go.ChangeShapes Go.WideShapes Go.ChangeAt Go.RowKit Go.AI
theorem jsonOrder_card:Rows.JsonOrderCardSaid:=
 Claim7.holds_tied_plain_at .later [] [.data, .data, .data, .data, .sentinel, .sentinel, .pinned] true (true, "bada83085b14660ae1c61c3c672d92e6ab9df93b3cce39117ad8be2b66f6af56") true
  Zvo (fun _ h=>by cases h) (by as_aux_lemma=>kernel_rfl) (fun _ h=>by cases h) jsonOrder_row_tie rfl ⟨rfl,rfl⟩ (by as_aux_lemma=>kernel_rfl) rfl
  (fun f fn hf hfn=>by
   obtain rfl:f=7:=Option.some.inj ((show Tryz.prog.funcNamed "portolan/portolanlaw13.JsonOrder" =some 7 by as_aux_lemma=>kernel_rfl).symm.trans hf)|>.symm
   obtain rfl:fn=Tryz.f7:=(Option.some.inj (Tryz.func7.symm.trans hfn)).symm
   exact⟨by as_aux_lemma=>kernel_rfl,fun j t ht=>by
    rw[Tryz.params7] at ht
    have hm:t∈[68,9]:=by simpa using Array.mem_of_getElem? ht
    have hall:([68,9].all fun u=>!Tryz.prog.wantsStandIn u)=true:=by as_aux_lemma=>kernel_rfl
    exact(show Tryz.prog.wantsStandIn t=false by simpa using List.all_eq_true.1 hall t hm)⟩)
  (by as_aux_lemma=>kernel_rfl)
#print axioms jsonOrder_card
end Go.Proofs.YtobbpmaeiiblaaaGreatDoor
