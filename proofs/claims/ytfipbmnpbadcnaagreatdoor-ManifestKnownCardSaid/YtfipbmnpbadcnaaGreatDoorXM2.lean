/- Calls that were evaluated by themselves, printed by a program of mine: each is proved to come out so, whatever numbers the types of the variables' rows have. -/
import Derived.Test.YtfipbmnpbadcnaaGreatDoorXM1
set_option linter.unusedVariables false
set_option linter.unusedSimpArgs false
set_option maxRecDepth 1000000
set_option maxHeartbeats 0
namespace Go.AI
open Go Go.Proofs Go.Proofs.YtfipbmnpbadcnaaGreatDoor
noncomputable section
def x6 : Nat × CE := (313, ⟨[(.ptr 1613 0), (.slice 1741 0 64 none)], 1742, 100, [(1613, (.row 354 1 [(nI .u32 1779033703), (nI .u32 3144134277), (nI .u32 1013904242), (nI .u32 2773480762), (nI .u32 1359893119), (nI .u32 2600822924), (nI .u32 528734635), (nI .u32 1541459225), .nils, (nI .u64 0), (.bool true)] 0 false true true)), (1741, (.row 5 1 (iL .u8 [128, 0, 0, 0, 0, 0, 0, 0, 0, 0, 0, 0, 0, 0, 0, 0, 0, 0, 0, 0, 0, 0, 0, 0, 0, 0, 0, 0, 0, 0, 0, 0, 0, 0, 0, 0, 0, 0, 0, 0, 0, 0, 0, 0, 0, 0, 0, 0, 0, 0, 0, 0, 0, 0, 0, 0, 0, 0, 0, 0, 0, 0, 0, 0]) 0 false true false))], (.tup []), 1746, [(1613, (.row 354 1 [(nI .u32 3820012610), (nI .u32 2566659092), (nI .u32 2600203464), (nI .u32 2574235940), (nI .u32 665731556), (nI .u32 1687917388), (nI .u32 2761267483), (nI .u32 2018687061), .nils, (nI .u64 0), (.bool true)] 0 false true true))], []⟩)
theorem x6_ok : EntOk Tryz.prog gs0 x6 := ent_ok tab5_ok (by kernel_rfl) (fun e => by kernel_rfl)
def tab6 : List (Nat × CE) := x6 :: tab5
theorem tab6_ok : ∀ x ∈ tab6, EntOk Tryz.prog gs0 x := List.forall_mem_cons.2 ⟨x6_ok, tab5_ok⟩
def x7 : Nat × CE := (313, ⟨[(.ptr 1761 0), (.slice 1889 0 64 none)], 1890, 100, [(1761, (.row 354 1 [(nI .u32 1779033703), (nI .u32 3144134277), (nI .u32 1013904242), (nI .u32 2773480762), (nI .u32 1359893119), (nI .u32 2600822924), (nI .u32 528734635), (nI .u32 1541459225), .nils, (nI .u64 0), (.bool true)] 0 false true true)), (1889, (.row 5 1 (iL .u8 [128, 0, 0, 0, 0, 0, 0, 0, 0, 0, 0, 0, 0, 0, 0, 0, 0, 0, 0, 0, 0, 0, 0, 0, 0, 0, 0, 0, 0, 0, 0, 0, 0, 0, 0, 0, 0, 0, 0, 0, 0, 0, 0, 0, 0, 0, 0, 0, 0, 0, 0, 0, 0, 0, 0, 0, 0, 0, 0, 0, 0, 0, 0, 0]) 0 false true false))], (.tup []), 1894, [(1761, (.row 354 1 [(nI .u32 3820012610), (nI .u32 2566659092), (nI .u32 2600203464), (nI .u32 2574235940), (nI .u32 665731556), (nI .u32 1687917388), (nI .u32 2761267483), (nI .u32 2018687061), .nils, (nI .u64 0), (.bool true)] 0 false true true))], []⟩)
theorem x7_ok : EntOk Tryz.prog gs0 x7 := ent_ok tab6_ok (by kernel_rfl) (fun e => by kernel_rfl)
def tab7 : List (Nat × CE) := x7 :: tab6
theorem tab7_ok : ∀ x ∈ tab7, EntOk Tryz.prog gs0 x := List.forall_mem_cons.2 ⟨x7_ok, tab6_ok⟩
def x8 : Nat × CE := (313, ⟨[(.ptr 1909 0), (.slice 2037 0 64 none)], 2038, 100, [(1909, (.row 354 1 [(nI .u32 1779033703), (nI .u32 3144134277), (nI .u32 1013904242), (nI .u32 2773480762), (nI .u32 1359893119), (nI .u32 2600822924), (nI .u32 528734635), (nI .u32 1541459225), .nils, (nI .u64 0), (.bool true)] 0 false true true)), (2037, (.row 5 1 (iL .u8 [128, 0, 0, 0, 0, 0, 0, 0, 0, 0, 0, 0, 0, 0, 0, 0, 0, 0, 0, 0, 0, 0, 0, 0, 0, 0, 0, 0, 0, 0, 0, 0, 0, 0, 0, 0, 0, 0, 0, 0, 0, 0, 0, 0, 0, 0, 0, 0, 0, 0, 0, 0, 0, 0, 0, 0, 0, 0, 0, 0, 0, 0, 0, 0]) 0 false true false))], (.tup []), 2042, [(1909, (.row 354 1 [(nI .u32 3820012610), (nI .u32 2566659092), (nI .u32 2600203464), (nI .u32 2574235940), (nI .u32 665731556), (nI .u32 1687917388), (nI .u32 2761267483), (nI .u32 2018687061), .nils, (nI .u64 0), (.bool true)] 0 false true true))], []⟩)
theorem x8_ok : EntOk Tryz.prog gs0 x8 := ent_ok tab7_ok (by kernel_rfl) (fun e => by kernel_rfl)
def tab8 : List (Nat × CE) := x8 :: tab7
theorem tab8_ok : ∀ x ∈ tab8, EntOk Tryz.prog gs0 x := List.forall_mem_cons.2 ⟨x8_ok, tab7_ok⟩
def x9 : Nat × CE := (313, ⟨[(.ptr 2056 0), (.slice 2184 0 64 none)], 2185, 100, [(2056, (.row 354 1 [(nI .u32 1779033703), (nI .u32 3144134277), (nI .u32 1013904242), (nI .u32 2773480762), (nI .u32 1359893119), (nI .u32 2600822924), (nI .u32 528734635), (nI .u32 1541459225), .nils, (nI .u64 0), (.bool true)] 0 false true true)), (2184, (.row 5 1 (iL .u8 [128, 0, 0, 0, 0, 0, 0, 0, 0, 0, 0, 0, 0, 0, 0, 0, 0, 0, 0, 0, 0, 0, 0, 0, 0, 0, 0, 0, 0, 0, 0, 0, 0, 0, 0, 0, 0, 0, 0, 0, 0, 0, 0, 0, 0, 0, 0, 0, 0, 0, 0, 0, 0, 0, 0, 0, 0, 0, 0, 0, 0, 0, 0, 0]) 0 false true false))], (.tup []), 2189, [(2056, (.row 354 1 [(nI .u32 3820012610), (nI .u32 2566659092), (nI .u32 2600203464), (nI .u32 2574235940), (nI .u32 665731556), (nI .u32 1687917388), (nI .u32 2761267483), (nI .u32 2018687061), .nils, (nI .u64 0), (.bool true)] 0 false true true))], []⟩)
theorem x9_ok : EntOk Tryz.prog gs0 x9 := ent_ok tab8_ok (by kernel_rfl) (fun e => by kernel_rfl)
def tab9 : List (Nat × CE) := x9 :: tab8
theorem tab9_ok : ∀ x ∈ tab9, EntOk Tryz.prog gs0 x := List.forall_mem_cons.2 ⟨x9_ok, tab8_ok⟩
def x10 : Nat × CE := (313, ⟨[(.ptr 2203 0), (.slice 2331 0 64 none)], 2332, 100, [(2203, (.row 354 1 [(nI .u32 1779033703), (nI .u32 3144134277), (nI .u32 1013904242), (nI .u32 2773480762), (nI .u32 1359893119), (nI .u32 2600822924), (nI .u32 528734635), (nI .u32 1541459225), .nils, (nI .u64 0), (.bool true)] 0 false true true)), (2331, (.row 5 1 (iL .u8 [128, 0, 0, 0, 0, 0, 0, 0, 0, 0, 0, 0, 0, 0, 0, 0, 0, 0, 0, 0, 0, 0, 0, 0, 0, 0, 0, 0, 0, 0, 0, 0, 0, 0, 0, 0, 0, 0, 0, 0, 0, 0, 0, 0, 0, 0, 0, 0, 0, 0, 0, 0, 0, 0, 0, 0, 0, 0, 0, 0, 0, 0, 0, 0]) 0 false true false))], (.tup []), 2336, [(2203, (.row 354 1 [(nI .u32 3820012610), (nI .u32 2566659092), (nI .u32 2600203464), (nI .u32 2574235940), (nI .u32 665731556), (nI .u32 1687917388), (nI .u32 2761267483), (nI .u32 2018687061), .nils, (nI .u64 0), (.bool true)] 0 false true true))], []⟩)
theorem x10_ok : EntOk Tryz.prog gs0 x10 := ent_ok tab9_ok (by kernel_rfl) (fun e => by kernel_rfl)
def tab10 : List (Nat × CE) := x10 :: tab9
theorem tab10_ok : ∀ x ∈ tab10, EntOk Tryz.prog gs0 x := List.forall_mem_cons.2 ⟨x10_ok, tab9_ok⟩
def x11 : Nat × CE := (313, ⟨[(.ptr 2350 0), (.slice 2478 0 64 none)], 2479, 100, [(2350, (.row 354 1 [(nI .u32 1779033703), (nI .u32 3144134277), (nI .u32 1013904242), (nI .u32 2773480762), (nI .u32 1359893119), (nI .u32 2600822924), (nI .u32 528734635), (nI .u32 1541459225), .nils, (nI .u64 0), (.bool true)] 0 false true true)), (2478, (.row 5 1 (iL .u8 [128, 0, 0, 0, 0, 0, 0, 0, 0, 0, 0, 0, 0, 0, 0, 0, 0, 0, 0, 0, 0, 0, 0, 0, 0, 0, 0, 0, 0, 0, 0, 0, 0, 0, 0, 0, 0, 0, 0, 0, 0, 0, 0, 0, 0, 0, 0, 0, 0, 0, 0, 0, 0, 0, 0, 0, 0, 0, 0, 0, 0, 0, 0, 0]) 0 false true false))], (.tup []), 2483, [(2350, (.row 354 1 [(nI .u32 3820012610), (nI .u32 2566659092), (nI .u32 2600203464), (nI .u32 2574235940), (nI .u32 665731556), (nI .u32 1687917388), (nI .u32 2761267483), (nI .u32 2018687061), .nils, (nI .u64 0), (.bool true)] 0 false true true))], []⟩)
theorem x11_ok : EntOk Tryz.prog gs0 x11 := ent_ok tab10_ok (by kernel_rfl) (fun e => by kernel_rfl)
def tab11 : List (Nat × CE) := x11 :: tab10
theorem tab11_ok : ∀ x ∈ tab11, EntOk Tryz.prog gs0 x := List.forall_mem_cons.2 ⟨x11_ok, tab10_ok⟩
end
end Go.AI
