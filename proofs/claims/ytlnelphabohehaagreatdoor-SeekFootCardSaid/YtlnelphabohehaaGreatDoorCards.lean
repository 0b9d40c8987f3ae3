/-
  DERIVED. GIVEN WITH THE SEED: THE CARDS: each row of YtlnelphabohehaaGreatDoorRows.lean that lists a variable, with what it lists TIED to the program's text (the seventh form; the later family's looks); each row that meets fmt, with fmt's text TOLD by the authors' own Lean function (tested against real Go, not proved from fmt's source: count such statements apart). THE CARD IS WHAT COUNTS. Prove the row's statement (the work); the ties are given (YtlnelphabohehaaGreatDoorTie.lean); close each card by the builder's one call (the guide's Derived/Test/ToyasCard.lean, 'card_holds'). Laid BY PROGRAM, IN A SANDBOX (cutbox-door.mjs). By AI agents, Wed Nov 11 2026. No macro, syntax, notation, axiom, sorry.
-/
import Derived.Test.YtlnelphabohehaaGreatDoorRows
import GoSem.ClaimSeven
namespace Go.Proofs.YtlnelphabohehaaGreatDoor
namespace Rows

/-- THE TIED CARD OF 'portolanlaw21.ChunkKnown'. -/
def chunkKnownCard : Claim7 := { stood := { row := chunkKnownRow, standIns := [], harness := (true, "91b4cf1d0d2f419e72c8c62bb194542768b57e63e67f1fe62cf91d6b81a7d6c2"), looks := true }, kinds := [], alts := [], laidByText := true, laidKinds := [.data, .data, .data, .data, .mapped, .funcs, .data, .data, .mapped, .pinned], laidTests := true, laidLooks := .later }
def ChunkKnownCardSaid : Prop := Claim7.holds Tryz.pinned (.plain (OpenSpec.ofChange chunkKnownSpec)) chunkKnownCard

/-- THE TIED CARD OF 'portolanlaw22.SeekFoot'. -/
def seekFootCard : Claim7 := { stood := { row := seekFootRow, standIns := [], harness := (true, "91b4cf1d0d2f419e72c8c62bb194542768b57e63e67f1fe62cf91d6b81a7d6c2"), looks := true }, kinds := [], alts := [], laidByText := true, laidKinds := [.data, .data, .data, .data, .sentinel, .sentinel, .widerDeep, .widerDeep, .widerDeep, .widerDeep, .widerDeep, .widerDeep], laidTests := true, laidLooks := .later }
def SeekFootCardSaid : Prop := Claim7.holds Tryz.pinned (.plain (OpenSpec.ofChange seekFootSpec)) seekFootCard

/-- THE SECOND FORM's CARD OF 'portolanlaw21.ChunkKnown'. -/
def chunkKnownUptoCard : Claim7 := { stood := { row := chunkKnownUptoRow, standIns := [], harness := (true, "91b4cf1d0d2f419e72c8c62bb194542768b57e63e67f1fe62cf91d6b81a7d6c2"), looks := true }, kinds := [], alts := [], laidByText := true, laidKinds := [.data, .data, .data, .data, .mapped, .funcs, .data, .data, .mapped, .pinned], laidTests := true, laidLooks := .later }
def ChunkKnownUptoCardSaid : Prop := Claim7.holds Tryz.pinned (.plain (OpenSpec.upto chunkKnownSpec)) chunkKnownUptoCard

/-- THE SECOND FORM's CARD OF 'portolanlaw22.SeekFoot'. -/
def seekFootUptoCard : Claim7 := { stood := { row := seekFootUptoRow, standIns := [], harness := (true, "91b4cf1d0d2f419e72c8c62bb194542768b57e63e67f1fe62cf91d6b81a7d6c2"), looks := true }, kinds := [], alts := [], laidByText := true, laidKinds := [.data, .data, .data, .data, .sentinel, .sentinel, .widerDeep, .widerDeep, .widerDeep, .widerDeep, .widerDeep, .widerDeep], laidTests := true, laidLooks := .later }
def SeekFootUptoCardSaid : Prop := Claim7.holds Tryz.pinned (.plain (OpenSpec.upto seekFootSpec)) seekFootUptoCard
end Rows
end Go.Proofs.YtlnelphabohehaaGreatDoor
