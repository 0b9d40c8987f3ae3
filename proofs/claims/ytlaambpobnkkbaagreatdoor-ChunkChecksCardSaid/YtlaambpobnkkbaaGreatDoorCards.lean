/-
  DERIVED. GIVEN WITH THE SEED: THE CARDS: each row of YtlaambpobnkkbaaGreatDoorRows.lean that lists a variable, with what it lists TIED to the program's text (the seventh form; the later family's looks); each row that meets fmt, with fmt's text TOLD by the authors' own Lean function (tested against real Go, not proved from fmt's source: count such statements apart). THE CARD IS WHAT COUNTS. Prove the row's statement (the work); the ties are given (YtlaambpobnkkbaaGreatDoorTie.lean); close each card by the builder's one call (the guide's Derived/Test/ToyasCard.lean, 'card_holds'). Laid BY PROGRAM, IN A SANDBOX (cutbox-door.mjs). By AI agents, Wed Nov 11 2026. No macro, syntax, notation, axiom, sorry.
-/
import Derived.Test.YtlaambpobnkkbaaGreatDoorRows
import GoSem.ClaimSeven
namespace Go.Proofs.YtlaambpobnkkbaaGreatDoor
namespace Rows

/-- THE TIED CARD OF 'portolanlaw21.ChunkChecks'. -/
def chunkChecksCard : Claim7 := { stood := { row := chunkChecksRow, standIns := [], harness := (true, "bc9364845746e0bc14893f15404bef2cae019ffa1f30dccb4d1369ab247d6fcd"), looks := false }, kinds := [], alts := [], laidByText := true, laidKinds := [.data, .data, .data, .data, .mapped, .funcs, .data, .data, .mapped, .pinned], laidTests := true, laidLooks := .later }
def ChunkChecksCardSaid : Prop := Claim7.holds Tryz.pinned (.plain (OpenSpec.ofChange chunkChecksSpec)) chunkChecksCard

/-- THE SECOND FORM's CARD OF 'portolanlaw21.ChunkChecks'. -/
def chunkChecksUptoCard : Claim7 := { stood := { row := chunkChecksUptoRow, standIns := [], harness := (true, "bc9364845746e0bc14893f15404bef2cae019ffa1f30dccb4d1369ab247d6fcd"), looks := false }, kinds := [], alts := [], laidByText := true, laidKinds := [.data, .data, .data, .data, .mapped, .funcs, .data, .data, .mapped, .pinned], laidTests := true, laidLooks := .later }
def ChunkChecksUptoCardSaid : Prop := Claim7.holds Tryz.pinned (.plain (OpenSpec.upto chunkChecksSpec)) chunkChecksUptoCard
end Rows
end Go.Proofs.YtlaambpobnkkbaaGreatDoor
