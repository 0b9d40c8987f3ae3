/- Calls that were evaluated by themselves, printed by a program of mine: each is proved to come out so, whatever numbers the types of the variables' rows have. -/
import Derived.Test.YtlnelphabohehaaGreatDoorXQ5
set_option maxRecDepth 1000000
set_option maxHeartbeats 0
set_option linter.unusedVariables false
set_option linter.unusedSimpArgs false
namespace Go.AI
open Go Go.Proofs Go.Proofs.YtlnelphabohehaaGreatDoor
noncomputable section
def x15 : Nat × CE := (122, ⟨[(.ptr 6112 0), (.slice 6209 0 64 none)], 6210, 100, (pre0 ++ [(6112, (.row 208 1 [(nI .u32 1779033703), (nI .u32 3144134277), (nI .u32 1013904242), (nI .u32 2773480762), (nI .u32 1359893119), (nI .u32 2600822924), (nI .u32 528734635), (nI .u32 1541459225), .nils, (nI .u64 0), (.bool true)] 0 false true true)), (6209, (.row 5 1 (iL .u8 [48, 49, 50, 51, 52, 53, 54, 55, 56, 57, 97, 98, 99, 100, 101, 102, 128, 0, 0, 0, 0, 0, 0, 0, 0, 0, 0, 0, 0, 0, 0, 0, 0, 0, 0, 0, 0, 0, 0, 0, 0, 0, 0, 0, 0, 0, 0, 0, 0, 0, 0, 0, 0, 0, 0, 0, 0, 0, 0, 0, 0, 0, 0, 128]) 0 false true false))]), (.tup []), 6214, [(6112, (.row 208 1 [(nI .u32 2678018321), (nI .u32 4155669112), (nI .u32 522132957), (nI .u32 3857433309), (nI .u32 729377788), (nI .u32 1936050626), (nI .u32 2337574486), (nI .u32 1098289823), .nils, (nI .u64 0), (.bool true)] 0 false true true))], []⟩)
theorem x15_ok : EntOk Tryz.prog gs0 x15 := ent_ok tab14_ok (by kernel_rfl) (fun e => by kernel_rfl)
def tab15 : List (Nat × CE) := x15 :: tab14
theorem tab15_ok : ∀ x ∈ tab15, EntOk Tryz.prog gs0 x := List.forall_mem_cons.2 ⟨x15_ok, tab14_ok⟩
def x16 : Nat × CE := (122, ⟨[(.ptr 6228 0), (.slice 6349 0 64 none)], 6350, 100, (pre0 ++ [(6228, (.row 208 1 [(nI .u32 1779033703), (nI .u32 3144134277), (nI .u32 1013904242), (nI .u32 2773480762), (nI .u32 1359893119), (nI .u32 2600822924), (nI .u32 528734635), (nI .u32 1541459225), .nils, (nI .u64 0), (.bool true)] 0 false true true)), (6349, (.row 5 1 (iL .u8 [103, 104, 105, 106, 128, 0, 0, 0, 0, 0, 0, 0, 0, 0, 0, 0, 0, 0, 0, 0, 0, 0, 0, 0, 0, 0, 0, 0, 0, 0, 0, 0, 0, 0, 0, 0, 0, 0, 0, 0, 0, 0, 0, 0, 0, 0, 0, 0, 0, 0, 0, 0, 0, 0, 0, 0, 0, 0, 0, 0, 0, 0, 0, 32]) 0 false true false))]), (.tup []), 6354, [(6228, (.row 208 1 [(nI .u32 2539431723), (nI .u32 1809780371), (nI .u32 2345410887), (nI .u32 667498999), (nI .u32 4234416286), (nI .u32 3908127453), (nI .u32 1163535204), (nI .u32 3906028831), .nils, (nI .u64 0), (.bool true)] 0 false true true))], []⟩)
theorem x16_ok : EntOk Tryz.prog gs0 x16 := ent_ok tab15_ok (by kernel_rfl) (fun e => by kernel_rfl)
def tab16 : List (Nat × CE) := x16 :: tab15
theorem tab16_ok : ∀ x ∈ tab16, EntOk Tryz.prog gs0 x := List.forall_mem_cons.2 ⟨x16_ok, tab15_ok⟩
def x17 : Nat × CE := (10, ⟨[], 6008, 100, pre0, .bool true, 6357, [], []⟩)
theorem x17_ok : EntOk Tryz.prog gs0 x17 := ent_ok tab16_ok (by kernel_rfl) (fun e => by kernel_rfl)
def tab17 : List (Nat × CE) := x17 :: tab16
theorem tab17_ok : ∀ x ∈ tab17, EntOk Tryz.prog gs0 x := List.forall_mem_cons.2 ⟨x17_ok, tab16_ok⟩
end
end Go.AI
