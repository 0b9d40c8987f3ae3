/- What is found last among records of a key: a definition. -/
set_option maxRecDepth 1000000
set_option maxHeartbeats 0
set_option linter.all false
namespace Go.Proofs
def lastR (zs : List (List UInt8 × List UInt8)) (key : List UInt8) : List UInt8 × Bool := match zs.reverse.find? (fun z => z.1 == key) with | some z => (z.2, true) | none => ([], false)
end Go.Proofs
