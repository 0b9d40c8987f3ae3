/- The law ChunkSizes returns true, and its card holds: proved; the package-level variables that its row lists hold what the program's text lays. -/
import Derived.Test.YtbdmnfoadmfjpaaGreatDoorRN
set_option maxRecDepth 1000000
set_option maxHeartbeats 0
set_option linter.unusedVariables false
set_option linter.unusedSimpArgs false
namespace Go.Proofs.YtbdmnfoadmfjpaaGreatDoor
open Go.ChangeShapes Go.WideShapes Go.ChangeAt Go.RowKit Go.AI
theorem chunkSizes_card:Rows.ChunkSizesCardSaid:=
 Claim7.holds_tied_plain_at .later [] [.data,.data,.data,.data,.mapped,.funcs,.data,.data,.mapped,.pinned] true (true, "13ed593c1e6a91a53dcf5e0e8068f517c7e545ff0394d5b22fc12415b266af84") false
  jX (λ_ h=>by cases h) (by as_aux_lemma=>kernel_rfl) (λ_ h=>by cases h) chunkSizes_row_tie rfl ⟨rfl,rfl⟩ (by as_aux_lemma=>kernel_rfl) rfl
  (λf fn hf hfn=>by
   obtain rfl:f=3:=Option.some.inj ((show Tryz.prog.funcNamed "portolan/portolanlaw21.ChunkSizes" =some 3 by as_aux_lemma=>kernel_rfl).symm.trans hf)|>.symm
   obtain rfl:fn=Tryz.f3:=(Option.some.inj (Tryz.func3.symm.trans hfn)).symm
   exact⟨by as_aux_lemma=>kernel_rfl,λj t ht=>by
    rw[Tryz.params3] at ht
    have hm:t∈[22,5,5]:=by simpa using Vs ht
    have hall:([22,5,5].all λu=>!Tryz.prog.wantsStandIn u)=true:=by as_aux_lemma=>kernel_rfl
    exact(show Tryz.prog.wantsStandIn t=false by simpa using Y6.1 hall t hm)⟩)
  (by as_aux_lemma=>kernel_rfl)
#print axioms chunkSizes_card
end Go.Proofs.YtbdmnfoadmfjpaaGreatDoor
