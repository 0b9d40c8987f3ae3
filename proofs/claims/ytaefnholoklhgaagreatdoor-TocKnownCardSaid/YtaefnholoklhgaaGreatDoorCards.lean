/-
  DERIVED. GIVEN WITH THE SEED: THE CARDS: each row of YtaefnholoklhgaaGreatDoorRows.lean that lists a variable, with what it lists TIED to the program's text (the seventh form; the later family's looks); each row that meets fmt, with fmt's text TOLD by the authors' own Lean function (tested against real Go, not proved from fmt's source: count such statements apart). THE CARD IS WHAT COUNTS. Prove the row's statement (the work); the ties are given (YtaefnholoklhgaaGreatDoorTie.lean); close each card by the builder's one call (the guide's Derived/Test/ToyasCard.lean, 'card_holds'). Laid BY PROGRAM, IN A SANDBOX (cutbox-door.mjs). By AI agents, Wed Nov 11 2026. No macro, syntax, notation, axiom, sorry.
-/
import Derived.Test.YtaefnholoklhgaaGreatDoorRows
import GoSem.ClaimSeven
namespace Go.Proofs.YtaefnholoklhgaaGreatDoor
namespace Rows

/-- THE TIED CARD OF 'portolanlaw21.ChunkKnown'. -/
def chunkKnownCard : Claim7 := { stood := { row := chunkKnownRow, standIns := [], harness := (true, "66fb17b35c813c041d7d35d6969ceb556ad1816c2a68b40988abedbfe349eb45"), looks := true }, kinds := [], alts := [], laidByText := true, laidKinds := [.data, .data, .data, .data, .mapped, .funcs, .data, .data, .mapped, .pinned], laidTests := true, laidLooks := .later }
def ChunkKnownCardSaid : Prop := Claim7.holds Tryz.pinned (.plain (OpenSpec.ofChange chunkKnownSpec)) chunkKnownCard

/-- THE TIED CARD OF 'portolanlaw15.TocKnown'. -/
def tocKnownCard : Claim7 := { stood := { row := tocKnownRow, standIns := [], harness := (true, "66fb17b35c813c041d7d35d6969ceb556ad1816c2a68b40988abedbfe349eb45"), looks := true }, kinds := [], alts := [], laidByText := true, laidKinds := [.data, .data, .data, .data, .sentinel, .sentinel, .funcs, .mapped, .widerDeep, .pinned], laidTests := true, laidLooks := .later }
def TocKnownCardSaid : Prop := Claim7.holds Tryz.pinned (.plain (OpenSpec.ofChange tocKnownSpec)) tocKnownCard

/-- THE TIED CARD OF 'portolanlaw12.TarKnown'. -/
def tarKnownCard : Claim7 := { stood := { row := tarKnownRow, standIns := [], harness := (true, "66fb17b35c813c041d7d35d6969ceb556ad1816c2a68b40988abedbfe349eb45"), looks := true }, kinds := [], alts := [], laidByText := true, laidKinds := [.data, .data, .data, .data, .sentinel, .sentinel, .mapped, .funcs, .mapped, .mapped, .pinned], laidTests := true, laidLooks := .later }
def TarKnownCardSaid : Prop := Claim7.holds Tryz.pinned (.plain (OpenSpec.ofChange tarKnownSpec)) tarKnownCard

/-- THE SECOND FORM's CARD OF 'portolanlaw21.ChunkKnown'. -/
def chunkKnownUptoCard : Claim7 := { stood := { row := chunkKnownUptoRow, standIns := [], harness := (true, "66fb17b35c813c041d7d35d6969ceb556ad1816c2a68b40988abedbfe349eb45"), looks := true }, kinds := [], alts := [], laidByText := true, laidKinds := [.data, .data, .data, .data, .mapped, .funcs, .data, .data, .mapped, .pinned], laidTests := true, laidLooks := .later }
def ChunkKnownUptoCardSaid : Prop := Claim7.holds Tryz.pinned (.plain (OpenSpec.upto chunkKnownSpec)) chunkKnownUptoCard

/-- THE SECOND FORM's CARD OF 'portolanlaw15.TocKnown'. -/
def tocKnownUptoCard : Claim7 := { stood := { row := tocKnownUptoRow, standIns := [], harness := (true, "66fb17b35c813c041d7d35d6969ceb556ad1816c2a68b40988abedbfe349eb45"), looks := true }, kinds := [], alts := [], laidByText := true, laidKinds := [.data, .data, .data, .data, .sentinel, .sentinel, .funcs, .mapped, .widerDeep, .pinned], laidTests := true, laidLooks := .later }
def TocKnownUptoCardSaid : Prop := Claim7.holds Tryz.pinned (.plain (OpenSpec.upto tocKnownSpec)) tocKnownUptoCard

/-- THE SECOND FORM's CARD OF 'portolanlaw12.TarKnown'. -/
def tarKnownUptoCard : Claim7 := { stood := { row := tarKnownUptoRow, standIns := [], harness := (true, "66fb17b35c813c041d7d35d6969ceb556ad1816c2a68b40988abedbfe349eb45"), looks := true }, kinds := [], alts := [], laidByText := true, laidKinds := [.data, .data, .data, .data, .sentinel, .sentinel, .mapped, .funcs, .mapped, .mapped, .pinned], laidTests := true, laidLooks := .later }
def TarKnownUptoCardSaid : Prop := Claim7.holds Tryz.pinned (.plain (OpenSpec.upto tarKnownSpec)) tarKnownUptoCard
end Rows
end Go.Proofs.YtaefnholoklhgaaGreatDoor
