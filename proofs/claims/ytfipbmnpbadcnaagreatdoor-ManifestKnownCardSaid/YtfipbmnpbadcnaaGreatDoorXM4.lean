/- Calls that were evaluated by themselves, printed by a program of mine: each is proved to come out so, whatever numbers the types of the variables' rows have. -/
import Derived.Test.YtfipbmnpbadcnaaGreatDoorXM3
set_option linter.unusedVariables false
set_option linter.unusedSimpArgs false
set_option maxRecDepth 1000000
set_option maxHeartbeats 0
namespace Go.AI
open Go Go.Proofs Go.Proofs.YtfipbmnpbadcnaaGreatDoor
noncomputable section
def x18 : Nat × CE := (231, ⟨[(.slice 4564 0 88 none), (.func 232 [] [])], 4739, 100, [(4564, (.row 5 1 (iL .u8 [123, 34, 109, 97, 110, 105, 102, 101, 115, 116, 115, 34, 58, 123, 125, 44, 34, 109, 101, 100, 105, 97, 84, 121, 112, 101, 34, 58, 34, 97, 112, 112, 108, 105, 99, 97, 116, 105, 111, 110, 47, 118, 110, 100, 46, 111, 99, 105, 46, 105, 109, 97, 103, 101, 46, 105, 110, 100, 101, 120, 46, 118, 49, 43, 106, 115, 111, 110, 34, 44, 34, 115, 99, 104, 101, 109, 97, 86, 101, 114, 115, 105, 111, 110, 34, 58, 50, 125]) 0 true true false))], (.tup [(.agg [(.str []), (.str []), .nils]), (nI .i64 5)]), 4920, [], []⟩)
theorem x18_ok : EntOk Tryz.prog gs0 x18 := ent_ok tab17_ok (by kernel_rfl) (fun e => by kernel_rfl)
def tab18 : List (Nat × CE) := x18 :: tab17
theorem tab18_ok : ∀ x ∈ tab18, EntOk Tryz.prog gs0 x := List.forall_mem_cons.2 ⟨x18_ok, tab17_ok⟩
def x19 : Nat × CE := (60, ⟨[(.slice 4564 0 88 none)], 4565, 100, [(4564, (.row 5 1 (iL .u8 [123, 34, 109, 97, 110, 105, 102, 101, 115, 116, 115, 34, 58, 123, 125, 44, 34, 109, 101, 100, 105, 97, 84, 121, 112, 101, 34, 58, 34, 97, 112, 112, 108, 105, 99, 97, 116, 105, 111, 110, 47, 118, 110, 100, 46, 111, 99, 105, 46, 105, 109, 97, 103, 101, 46, 105, 110, 100, 101, 120, 46, 118, 49, 43, 106, 115, 111, 110, 34, 44, 34, 115, 99, 104, 101, 109, 97, 86, 101, 114, 115, 105, 111, 110, 34, 58, 50, 125]) 0 true true false))], (.str []), 5079, [], []⟩)
theorem x19_ok : EntOk Tryz.prog gs0 x19 := ent_ok tab18_ok (by kernel_rfl) (fun e => by kernel_rfl)
def tab19 : List (Nat × CE) := x19 :: tab18
theorem tab19_ok : ∀ x ∈ tab19, EntOk Tryz.prog gs0 x := List.forall_mem_cons.2 ⟨x19_ok, tab18_ok⟩
def x20 : Nat × CE := (60, ⟨[(.slice 5079 0 34 none)], 5080, 100, [(5079, (.row 5 1 (iL .u8 [123, 34, 109, 97, 110, 105, 102, 101, 115, 116, 115, 34, 58, 91, 93, 44, 34, 115, 99, 104, 101, 109, 97, 86, 101, 114, 115, 105, 111, 110, 34, 58, 50, 125]) 0 true true false))], (.str []), 5387, [], []⟩)
theorem x20_ok : EntOk Tryz.prog gs0 x20 := ent_ok tab19_ok (by kernel_rfl) (fun e => by kernel_rfl)
def tab20 : List (Nat × CE) := x20 :: tab19
theorem tab20_ok : ∀ x ∈ tab20, EntOk Tryz.prog gs0 x := List.forall_mem_cons.2 ⟨x20_ok, tab19_ok⟩
def x21 : Nat × CE := (226, ⟨[(.slice 5387 0 94 none), (.func 227 [] [])], 5389, 100, [(5387, (.row 5 1 (iL .u8 [123, 34, 109, 97, 110, 105, 102, 101, 115, 116, 115, 34, 58, 91, 93, 44, 34, 109, 101, 100, 105, 97, 84, 121, 112, 101, 34, 58, 34, 97, 112, 112, 108, 105, 99, 97, 116, 105, 111, 110, 47, 118, 110, 100, 46, 111, 99, 105, 46, 105, 109, 97, 103, 101, 46, 105, 110, 100, 101, 120, 46, 118, 49, 43, 106, 115, 111, 110, 34, 44, 34, 115, 99, 104, 101, 109, 97, 86, 101, 114, 115, 105, 111, 110, 34, 58, 50, 44, 34, 120, 34, 58, 49, 125]) 0 true true false))], (.tup [(.agg [(.str []), (nI .u8 0), (nI .u8 0), (nI .u8 0), (nI .u8 0), (nI .u8 0), (nI .u8 0), (nI .u8 0), (nI .u8 0), (nI .u8 0), (nI .u8 0), (nI .u8 0), (nI .u8 0), (nI .u8 0), (nI .u8 0), (nI .u8 0), (nI .u8 0), (nI .u8 0), (nI .u8 0), (nI .u8 0), (nI .u8 0), (nI .u8 0), (nI .u8 0), (nI .u8 0), (nI .u8 0), (nI .u8 0), (nI .u8 0), (nI .u8 0), (nI .u8 0), (nI .u8 0), (nI .u8 0), (nI .u8 0), (nI .u8 0), (nI .i64 0), .nils, .nils]), (nI .i64 5)]), 5569, [], []⟩)
theorem x21_ok : EntOk Tryz.prog gs0 x21 := ent_ok tab20_ok (by kernel_rfl) (fun e => by kernel_rfl)
def tab21 : List (Nat × CE) := x21 :: tab20
theorem tab21_ok : ∀ x ∈ tab21, EntOk Tryz.prog gs0 x := List.forall_mem_cons.2 ⟨x21_ok, tab20_ok⟩
def x22 : Nat × CE := (231, ⟨[(.slice 5387 0 94 none), (.func 232 [] [])], 5571, 100, [(5387, (.row 5 1 (iL .u8 [123, 34, 109, 97, 110, 105, 102, 101, 115, 116, 115, 34, 58, 91, 93, 44, 34, 109, 101, 100, 105, 97, 84, 121, 112, 101, 34, 58, 34, 97, 112, 112, 108, 105, 99, 97, 116, 105, 111, 110, 47, 118, 110, 100, 46, 111, 99, 105, 46, 105, 109, 97, 103, 101, 46, 105, 110, 100, 101, 120, 46, 118, 49, 43, 106, 115, 111, 110, 34, 44, 34, 115, 99, 104, 101, 109, 97, 86, 101, 114, 115, 105, 111, 110, 34, 58, 50, 44, 34, 120, 34, 58, 49, 125]) 0 true true false))], (.tup [(.agg [(.str []), (.str []), .nils]), (nI .i64 5)]), 5746, [], []⟩)
theorem x22_ok : EntOk Tryz.prog gs0 x22 := ent_ok tab21_ok (by kernel_rfl) (fun e => by kernel_rfl)
def tab22 : List (Nat × CE) := x22 :: tab21
theorem tab22_ok : ∀ x ∈ tab22, EntOk Tryz.prog gs0 x := List.forall_mem_cons.2 ⟨x22_ok, tab21_ok⟩
def x23 : Nat × CE := (234, ⟨[(.slice 5387 0 94 none), (.func 235 [] [])], 5748, 100, [(5387, (.row 5 1 (iL .u8 [123, 34, 109, 97, 110, 105, 102, 101, 115, 116, 115, 34, 58, 91, 93, 44, 34, 109, 101, 100, 105, 97, 84, 121, 112, 101, 34, 58, 34, 97, 112, 112, 108, 105, 99, 97, 116, 105, 111, 110, 47, 118, 110, 100, 46, 111, 99, 105, 46, 105, 109, 97, 103, 101, 46, 105, 110, 100, 101, 120, 46, 118, 49, 43, 106, 115, 111, 110, 34, 44, 34, 115, 99, 104, 101, 109, 97, 86, 101, 114, 115, 105, 111, 110, 34, 58, 50, 44, 34, 120, 34, 58, 49, 125]) 0 true true false))], (.tup [(.agg [.nils]), (nI .i64 5)]), 5893, [], []⟩)
theorem x23_ok : EntOk Tryz.prog gs0 x23 := ent_ok tab22_ok (by kernel_rfl) (fun e => by kernel_rfl)
def tab23 : List (Nat × CE) := x23 :: tab22
theorem tab23_ok : ∀ x ∈ tab23, EntOk Tryz.prog gs0 x := List.forall_mem_cons.2 ⟨x23_ok, tab22_ok⟩
end
end Go.AI
