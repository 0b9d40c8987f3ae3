/- The law ChunkChecks returns true, and its card holds: proved; the package-level variables that its row lists hold what the program's text lays. -/
import Derived.Test.YtlaambpobnkkbaaGreatDoorRN
set_option maxRecDepth 1000000
set_option maxHeartbeats 0
set_option linter.unusedVariables false
set_option linter.unusedSimpArgs false
namespace Go.Proofs.YtlaambpobnkkbaaGreatDoor
open Go.ChangeShapes Go.WideShapes Go.ChangeAt Go.RowKit Go.AI
theorem chunkChecks_card:Rows.ChunkChecksCardSaid:=
 Claim7.holds_tied_plain_at .later [] [.data,.data,.data,.data,.mapped,.funcs,.data,.data,.mapped,.pinned] true (true, "bc9364845746e0bc14893f15404bef2cae019ffa1f30dccb4d1369ab247d6fcd") false
  mw (λ_ h=>by cases h) (by as_aux_lemma=>kernel_rfl) (λ_ h=>by cases h) chunkChecks_row_tie rfl ⟨rfl,rfl⟩ (by as_aux_lemma=>kernel_rfl) rfl
  (λf fn hf hfn=>by
   obtain rfl:f=3:=Option.some.inj ((show Tryz.prog.funcNamed "portolan/portolanlaw21.ChunkChecks" =some 3 by as_aux_lemma=>kernel_rfl).symm.trans hf)|>.symm
   obtain rfl:fn=Tryz.f3:=(Option.some.inj (Tryz.func3.symm.trans hfn)).symm
   exact⟨by as_aux_lemma=>kernel_rfl,λj t ht=>by
    rw[Tryz.params3] at ht
    have hm:t∈[31,3,24]:=by simpa using Vx ht
    have hall:([31,3,24].all λu=>!Tryz.prog.wantsStandIn u)=true:=by as_aux_lemma=>kernel_rfl
    exact(show Tryz.prog.wantsStandIn t=false by simpa using YH.1 hall t hm)⟩)
  (by as_aux_lemma=>kernel_rfl)
#print axioms chunkChecks_card
end Go.Proofs.YtlaambpobnkkbaaGreatDoor
