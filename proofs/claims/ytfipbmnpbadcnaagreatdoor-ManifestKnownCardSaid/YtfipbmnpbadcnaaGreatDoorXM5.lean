/- Calls that were evaluated by themselves, printed by a program of mine: each is proved to come out so, whatever numbers the types of the variables' rows have. -/
import Derived.Test.YtfipbmnpbadcnaaGreatDoorXM4
set_option linter.unusedVariables false
set_option linter.unusedSimpArgs false
set_option maxRecDepth 1000000
set_option maxHeartbeats 0
namespace Go.AI
open Go Go.Proofs Go.Proofs.YtfipbmnpbadcnaaGreatDoor
noncomputable section
def x24 : Nat × CE := (231, ⟨[(.slice 5894 0 79 none), (.func 232 [] [])], 6063, 100, [(5894, (.row 5 1 (iL .u8 [123, 34, 97, 114, 99, 104, 105, 116, 101, 99, 116, 117, 114, 101, 34, 58, 34, 34, 44, 34, 111, 115, 34, 58, 34, 34, 44, 34, 114, 111, 111, 116, 102, 115, 34, 58, 123, 34, 100, 105, 102, 102, 95, 105, 100, 115, 34, 58, 91, 34, 115, 104, 97, 50, 53, 54, 58, 48, 48, 34, 93, 44, 34, 116, 121, 112, 101, 34, 58, 34, 108, 97, 121, 101, 114, 115, 34, 125, 125]) 0 true true false))], (.tup [(.agg [(.str []), (.str []), .nils]), (nI .i64 5)]), 6413, [], []⟩)
theorem x24_ok : EntOk Tryz.prog gs0 x24 := ent_ok tab23_ok (by kernel_rfl) (fun e => by kernel_rfl)
def tab24 : List (Nat × CE) := x24 :: tab23
theorem tab24_ok : ∀ x ∈ tab24, EntOk Tryz.prog gs0 x := List.forall_mem_cons.2 ⟨x24_ok, tab23_ok⟩
def x25 : Nat × CE := (60, ⟨[(.slice 5894 0 79 none)], 5895, 100, [(5894, (.row 5 1 (iL .u8 [123, 34, 97, 114, 99, 104, 105, 116, 101, 99, 116, 117, 114, 101, 34, 58, 34, 34, 44, 34, 111, 115, 34, 58, 34, 34, 44, 34, 114, 111, 111, 116, 102, 115, 34, 58, 123, 34, 100, 105, 102, 102, 95, 105, 100, 115, 34, 58, 91, 34, 115, 104, 97, 50, 53, 54, 58, 48, 48, 34, 93, 44, 34, 116, 121, 112, 101, 34, 58, 34, 108, 97, 121, 101, 114, 115, 34, 125, 125]) 0 true true false))], (.str []), 6566, [], []⟩)
theorem x25_ok : EntOk Tryz.prog gs0 x25 := ent_ok tab24_ok (by kernel_rfl) (fun e => by kernel_rfl)
def tab25 : List (Nat × CE) := x25 :: tab24
theorem tab25_ok : ∀ x ∈ tab25, EntOk Tryz.prog gs0 x := List.forall_mem_cons.2 ⟨x25_ok, tab24_ok⟩
def x26 : Nat × CE := (60, ⟨[(.slice 6566 0 70 none)], 6567, 100, [(6566, (.row 5 1 (iL .u8 [123, 34, 97, 114, 99, 104, 105, 116, 101, 99, 116, 117, 114, 101, 34, 58, 34, 34, 44, 34, 111, 115, 34, 58, 110, 117, 108, 108, 44, 34, 114, 111, 111, 116, 102, 115, 34, 58, 123, 34, 100, 105, 102, 102, 95, 105, 100, 115, 34, 58, 91, 93, 44, 34, 116, 121, 112, 101, 34, 58, 34, 108, 97, 121, 101, 114, 115, 34, 125, 125]) 0 true true false))], (.str []), 7031, [], []⟩)
theorem x26_ok : EntOk Tryz.prog gs0 x26 := ent_ok tab25_ok (by kernel_rfl) (fun e => by kernel_rfl)
def tab26 : List (Nat × CE) := x26 :: tab25
theorem tab26_ok : ∀ x ∈ tab26, EntOk Tryz.prog gs0 x := List.forall_mem_cons.2 ⟨x26_ok, tab25_ok⟩
def x27 : Nat × CE := (231, ⟨[(.slice 7036 0 92 none), (.func 232 [] [])], 7209, 100, [(7036, (.row 5 1 (iL .u8 [123, 34, 115, 99, 104, 101, 109, 97, 86, 101, 114, 115, 105, 111, 110, 34, 58, 50, 44, 32, 34, 109, 101, 100, 105, 97, 84, 121, 112, 101, 34, 58, 34, 97, 112, 112, 108, 105, 99, 97, 116, 105, 111, 110, 47, 118, 110, 100, 46, 111, 99, 105, 46, 105, 109, 97, 103, 101, 46, 105, 110, 100, 101, 120, 46, 118, 49, 43, 106, 115, 111, 110, 34, 44, 32, 34, 109, 97, 110, 105, 102, 101, 115, 116, 115, 34, 32, 58, 32, 91, 93, 125]) 0 true true true))], (.tup [(.agg [(.str []), (.str []), .nils]), (nI .i64 5)]), 7390, [], []⟩)
theorem x27_ok : EntOk Tryz.prog gs0 x27 := ent_ok tab26_ok (by kernel_rfl) (fun e => by kernel_rfl)
def tab27 : List (Nat × CE) := x27 :: tab26
theorem tab27_ok : ∀ x ∈ tab27, EntOk Tryz.prog gs0 x := List.forall_mem_cons.2 ⟨x27_ok, tab26_ok⟩
def x28 : Nat × CE := (234, ⟨[(.slice 7036 0 92 none), (.func 235 [] [])], 7392, 100, [(7036, (.row 5 1 (iL .u8 [123, 34, 115, 99, 104, 101, 109, 97, 86, 101, 114, 115, 105, 111, 110, 34, 58, 50, 44, 32, 34, 109, 101, 100, 105, 97, 84, 121, 112, 101, 34, 58, 34, 97, 112, 112, 108, 105, 99, 97, 116, 105, 111, 110, 47, 118, 110, 100, 46, 111, 99, 105, 46, 105, 109, 97, 103, 101, 46, 105, 110, 100, 101, 120, 46, 118, 49, 43, 106, 115, 111, 110, 34, 44, 32, 34, 109, 97, 110, 105, 102, 101, 115, 116, 115, 34, 32, 58, 32, 91, 93, 125]) 0 true true true))], (.tup [(.agg [.nils]), (nI .i64 0)]), 7562, [], []⟩)
theorem x28_ok : EntOk Tryz.prog gs0 x28 := ent_ok tab27_ok (by kernel_rfl) (fun e => by kernel_rfl)
def tab28 : List (Nat × CE) := x28 :: tab27
theorem tab28_ok : ∀ x ∈ tab28, EntOk Tryz.prog gs0 x := List.forall_mem_cons.2 ⟨x28_ok, tab27_ok⟩
def x29 : Nat × CE := (30, ⟨[], 7563, 100, [], (.bool true), 8051, [], []⟩)
theorem x29_ok : EntOk Tryz.prog gs0 x29 := ent_ok tab28_ok (by kernel_rfl) (fun e => by kernel_rfl)
def tab29 : List (Nat × CE) := x29 :: tab28
theorem tab29_ok : ∀ x ∈ tab29, EntOk Tryz.prog gs0 x := List.forall_mem_cons.2 ⟨x29_ok, tab28_ok⟩
end
end Go.AI
