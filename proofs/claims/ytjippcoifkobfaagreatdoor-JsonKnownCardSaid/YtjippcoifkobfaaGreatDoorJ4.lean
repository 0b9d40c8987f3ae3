/- JsonKnown, evaluated by the interpreter, is true: proved whatever numbers the types of the variables' rows have. -/
import Derived.Test.YtjippcoifkobfaaGreatDoorJ3
import Derived.Test.YtjippcoifkobfaaGreatDoorRows
/- JsonKnown, evaluated: true, whatever numbers the types of the variables' rows have. -/
set_option maxRecDepth 1000000
namespace Go.AI
open Go Go.Proofs Go.Proofs.YtjippcoifkobfaaGreatDoor
noncomputable section
def rows0 (e : Nat → Nat) : List (Nat × Nat × List AV) := [(0, e 0, litAV Rows.laid_unicode_utf8_first), (1, e 1, litAV Rows.laid_unicode_utf8_acceptRanges), (4, e 4, litAV Rows.laid_internal_strconv_uint64pow10),
  (6, e 6, [.iface 245 (.ptr 10 0)]), (7, e 7, [.iface 245 (.ptr 11 0)])]
def H0 (e : Nat → Nat) : Heap := ⟨12, putRows (rows0 e) .leaf, 0⟩
def lib (f : Nat) (args : List AV) (H : Heap) : Option CR :=
  cond (Nat.beq f 137) (match args with | [.str s, .int .u8 (.ofNat c)] => cond (Nat.ble c 255) (some (.ret (.int .i64 (idxByte c s 0)) H)) none | _ => none)
  (cond (Nat.beq f 106) (match args with | [x] => some (.ret x H) | _ => none)
  (cond (Nat.beq f 107) (match args with | [.int .i64 (.ofNat n)] => cond (Nat.ble n 281474976710656) (some (.ret (.slice H.nx 0 n none) (H.new (.row ⟨5, 1, n, .leaf, .unk, 0, false, true, false⟩)))) none | _ => none) none))
theorem known (e : Nat → Nat) : isTrue (callN lib fs 100000 1000 3 [] (H0 e)) = true := by kernel_rfl
end
end Go.AI
