/- The law TocRange returns true, and its card holds: proved; the package-level variables that its row lists hold what the program's text lays. -/
import Derived.Test.YtikedecpnlbmbaaGreatDoorRG
set_option maxRecDepth 1000000
set_option linter.unusedVariables false
set_option linter.unusedSimpArgs false
set_option maxRecDepth 1000000
set_option maxHeartbeats 0
namespace Go.Proofs.YtikedecpnlbmbaaGreatDoor
open Go.ChangeShapes Go.WideShapes Go.ChangeAt Go.RowKit Go.AI
theorem tocRange_card : Rows.TocRangeCardSaid :=
  Claim7.holds_tied_plain_at .later [] [.data, .data, .data, .data, .sentinel, .sentinel, .funcs, .data, .data, .mapped, .widerDeep, .pinned] true (true, "4a12dcd7f943c74e5a37cae399a20392f8e9018027706bda56b3f83f40ae0ce9") true
    law_holds (fun _ h => by cases h) (by as_aux_lemma => kernel_rfl) (fun _ h => by cases h) tocRange_row_tie rfl ⟨rfl, rfl⟩ (by as_aux_lemma => kernel_rfl) rfl
    (fun f fn hf hfn => by
      obtain rfl : f = 4 := Option.some.inj ((show Tryz.prog.funcNamed "portolan/portolanlaw15.TocRange" = some 4 by as_aux_lemma => kernel_rfl).symm.trans hf) |>.symm
      obtain rfl : fn = Tryz.f4 := (Option.some.inj (Tryz.func4.symm.trans hfn)).symm
      exact ⟨by as_aux_lemma => kernel_rfl, fun j t ht => by
        rw [Tryz.params4] at ht
        have hm : t ∈ [29, 5, 31] := by simpa using Array.mem_of_getElem? ht
        have hall : ([29, 5, 31].all fun u => !Tryz.prog.wantsStandIn u) = true := by as_aux_lemma => kernel_rfl
        exact (show Tryz.prog.wantsStandIn t = false by simpa using List.all_eq_true.1 hall t hm)⟩)
    (by as_aux_lemma => kernel_rfl)
#print axioms tocRange_card
end Go.Proofs.YtikedecpnlbmbaaGreatDoor
