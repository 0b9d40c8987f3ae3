/- Calls that were evaluated by themselves, printed by a program of mine: each is proved to come out so, whatever numbers the types of the variables' rows have. -/
import Derived.Test.YtlnelphabohehaaGreatDoorBS
set_option maxRecDepth 1000000
set_option maxHeartbeats 0
set_option linter.unusedVariables false
set_option linter.unusedSimpArgs false
namespace Go.AI
open Go Go.Proofs Go.Proofs.YtlnelphabohehaaGreatDoor
noncomputable section
def x0 : Nat × CE := (142, ⟨[.nils, .nils, (.bool true)], 107, 101, [], (.ptr 109 0), 247, [(108, (.row 301 4 (iL .i64 [0, 256, 0, 0]) 0 false true false)), (109, (.row 270 1 [.nils, .nils, (.slice 108 0 1 none), (.bool true), (.slice 114 0 257 none), (.slice 117 0 1 none), (.slice 127 0 4 none), (.slice 139 0 19 none)] 0 false true true)), (114, (.row 3 1 (iL .i64 [0, 0, 0, 0, 0, 0, 0, 0, 0, 0, 0, 0, 0, 0, 0, 0, 0, 0, 0, 0, 0, 0, 0, 0, 0, 0, 0, 0, 0, 0, 0, 0, 0, 0, 0, 0, 0, 0, 0, 0, 0, 0, 0, 0, 0, 0, 0, 0, 0, 0, 0, 0, 0, 0, 0, 0, 0, 0, 0, 0, 0, 0, 0, 0, 0, 0, 0, 0, 0, 0, 0, 0, 0, 0, 0, 0, 0, 0, 0, 0, 0, 0, 0, 0, 0, 0, 0, 0, 0, 0, 0, 0, 0, 0, 0, 0, 0, 0, 0, 0, 0, 0, 0, 0, 0, 0, 0, 0, 0, 0, 0, 0, 0, 0, 0, 0, 0, 0, 0, 0, 0, 0, 0, 0, 0, 0, 0, 0, 0, 0, 0, 0, 0, 0, 0, 0, 0, 0, 0, 0, 0, 0, 0, 0, 0, 0, 0, 0, 0, 0, 0, 0, 0, 0, 0, 0, 0, 0, 0, 0, 0, 0, 0, 0, 0, 0, 0, 0, 0, 0, 0, 0, 0, 0, 0, 0, 0, 0, 0, 0, 0, 0, 0, 0, 0, 0, 0, 0, 0, 0, 0, 0, 0, 0, 0, 0, 0, 0, 0, 0, 0, 0, 0, 0, 0, 0, 0, 0, 0, 0, 0, 0, 0, 0, 0, 0, 0, 0, 0, 0, 0, 0, 0, 0, 0, 0, 0, 0, 0, 0, 0, 0, 0, 0, 0, 0, 0, 0, 0, 0, 0, 0, 0, 0, 0, 0, 0, 0, 0, 0, 0, 0, 0, 0, 0, 0, 1, 0, 0, 0, 0, 0, 0, 0, 0, 0, 0, 0, 0, 0, 0, 0, 0, 0, 0, 0, 0, 0, 0, 0, 0, 0, 0, 0, 0, 0]) 0 false true true)), (117, (.row 3 1 (List.replicate 30 (nI .i64 0)) 0 false true true)), (127, (.row 301 4 (iL .i64 [0, 18, 7, 127, 0, 18, 7, 107, 0, 1, 0, 0, 0, 0, 0, 0]) 0 false true false)), (139, (.row 3 1 (iL .i64 [2, 2, 0, 0, 0, 0, 0, 0, 0, 0, 0, 0, 0, 0, 0, 0, 0, 0, 1]) 0 false true true))], []⟩)
theorem x0_ok : EntOk Tryz.prog gs0 x0 := ent_ok none_ok (by kernel_rfl) (fun e => by kernel_rfl)
def tab0 : List (Nat × CE) := x0 :: []
theorem tab0_ok : ∀ x ∈ tab0, EntOk Tryz.prog gs0 x := List.forall_mem_cons.2 ⟨x0_ok, none_ok⟩
def x1 : Nat × CE := (213, ⟨[], 256, 101, [], (.agg [(.slice 833 0 288 none), (.slice 897 0 32 none)]), 898, [(833, (.row 3 1 (iL .i64 [8, 8, 8, 8, 8, 8, 8, 8, 8, 8, 8, 8, 8, 8, 8, 8, 8, 8, 8, 8, 8, 8, 8, 8, 8, 8, 8, 8, 8, 8, 8, 8, 8, 8, 8, 8, 8, 8, 8, 8, 8, 8, 8, 8, 8, 8, 8, 8, 8, 8, 8, 8, 8, 8, 8, 8, 8, 8, 8, 8, 8, 8, 8, 8, 8, 8, 8, 8, 8, 8, 8, 8, 8, 8, 8, 8, 8, 8, 8, 8, 8, 8, 8, 8, 8, 8, 8, 8, 8, 8, 8, 8, 8, 8, 8, 8, 8, 8, 8, 8, 8, 8, 8, 8, 8, 8, 8, 8, 8, 8, 8, 8, 8, 8, 8, 8, 8, 8, 8, 8, 8, 8, 8, 8, 8, 8, 8, 8, 8, 8, 8, 8, 8, 8, 8, 8, 8, 8, 8, 8, 8, 8, 8, 8, 9, 9, 9, 9, 9, 9, 9, 9, 9, 9, 9, 9, 9, 9, 9, 9, 9, 9, 9, 9, 9, 9, 9, 9, 9, 9, 9, 9, 9, 9, 9, 9, 9, 9, 9, 9, 9, 9, 9, 9, 9, 9, 9, 9, 9, 9, 9, 9, 9, 9, 9, 9, 9, 9, 9, 9, 9, 9, 9, 9, 9, 9, 9, 9, 9, 9, 9, 9, 9, 9, 9, 9, 9, 9, 9, 9, 9, 9, 9, 9, 9, 9, 9, 9, 9, 9, 9, 9, 9, 9, 9, 9, 9, 9, 9, 9, 9, 9, 9, 9, 9, 9, 9, 9, 9, 9, 9, 9, 9, 9, 9, 9, 7, 7, 7, 7, 7, 7, 7, 7, 7, 7, 7, 7, 7, 7, 7, 7, 7, 7, 7, 7, 7, 7, 7, 7, 8, 8, 8, 8, 8, 8, 8, 8]) 0 false true false)), (897, (.row 3 1 (List.replicate 32 (nI .i64 5)) 0 false true false))], []⟩)
theorem x1_ok : EntOk Tryz.prog gs0 x1 := ent_ok tab0_ok (by kernel_rfl) (fun e => by kernel_rfl)
def tab1 : List (Nat × CE) := x1 :: tab0
theorem tab1_ok : ∀ x ∈ tab1, EntOk Tryz.prog gs0 x := List.forall_mem_cons.2 ⟨x1_ok, tab0_ok⟩
end
end Go.AI
