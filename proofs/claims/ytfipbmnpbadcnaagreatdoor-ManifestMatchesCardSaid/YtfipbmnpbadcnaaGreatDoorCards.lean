/-
  DERIVED. GIVEN WITH THE SEED: THE CARDS: each row of YtfipbmnpbadcnaaGreatDoorRows.lean that lists a variable, with what it lists TIED to the program's text (the seventh form; the later family's looks); each row that meets fmt, with fmt's text TOLD by the authors' own Lean function (tested against real Go, not proved from fmt's source: count such statements apart). THE CARD IS WHAT COUNTS. Prove the row's statement (the work); the ties are given (YtfipbmnpbadcnaaGreatDoorTie.lean); close each card by the builder's one call (the guide's Derived/Test/ToyasCard.lean, 'card_holds'). Laid BY PROGRAM, IN A SANDBOX (cutbox-door.mjs). By AI agents, Wed Nov 11 2026. No macro, syntax, notation, axiom, sorry.
-/
import Derived.Test.YtfipbmnpbadcnaaGreatDoorRows
import GoSem.ClaimSeven
namespace Go.Proofs.YtfipbmnpbadcnaaGreatDoor
namespace Rows

/-- THE TIED CARD OF 'portolanlaw25.SquashMerges'. -/
def squashMergesCard : Claim7 := { stood := { row := squashMergesRow, standIns := [], harness := (true, "b67b1753b196b5ff2e8a0f94b29850e1da4ba0c302781ad049724ba938c47c7a"), looks := true }, kinds := [], alts := [], laidByText := true, laidKinds := [.data, .funcs, .mapped, .funcs, .pinned], laidTests := true, laidLooks := .later }
def SquashMergesCardSaid : Prop := Claim7.holds Tryz.pinned (.plain (OpenSpec.ofChange squashMergesSpec)) squashMergesCard

/-- THE TIED CARD OF 'portolanlaw14.ManifestPuts'. -/
def manifestPutsCard : Claim7 := { stood := { row := manifestPutsRow, standIns := [], harness := (true, "b67b1753b196b5ff2e8a0f94b29850e1da4ba0c302781ad049724ba938c47c7a"), looks := true }, kinds := [], alts := [], laidByText := true, laidKinds := [.data, .data, .data, .data, .pinned], laidTests := true, laidLooks := .later }
def ManifestPutsCardSaid : Prop := Claim7.holds Tryz.pinned (.plain (OpenSpec.ofChange manifestPutsSpec)) manifestPutsCard

/-- THE TIED CARD OF 'portolanlaw14.ManifestMatches'. -/
def manifestMatchesCard : Claim7 := { stood := { row := manifestMatchesRow, standIns := [], harness := (true, "b67b1753b196b5ff2e8a0f94b29850e1da4ba0c302781ad049724ba938c47c7a"), looks := true }, kinds := [], alts := [], laidByText := true, laidKinds := [.data, .data, .data, .data, .data, .data, .pinned], laidTests := true, laidLooks := .later }
def ManifestMatchesCardSaid : Prop := Claim7.holds Tryz.pinned (.plain (OpenSpec.ofChange manifestMatchesSpec)) manifestMatchesCard

/-- THE TIED CARD OF 'portolanlaw14.ManifestNotes'. -/
def manifestNotesCard : Claim7 := { stood := { row := manifestNotesRow, standIns := [], harness := (true, "b67b1753b196b5ff2e8a0f94b29850e1da4ba0c302781ad049724ba938c47c7a"), looks := true }, kinds := [], alts := [], laidByText := true, laidKinds := [.data, .data, .data, .data, .data, .data, .pinned], laidTests := true, laidLooks := .later }
def ManifestNotesCardSaid : Prop := Claim7.holds Tryz.pinned (.plain (OpenSpec.ofChange manifestNotesSpec)) manifestNotesCard

/-- THE TIED CARD OF 'portolanlaw12.TarPuts'. -/
def tarPutsCard : Claim7 := { stood := { row := tarPutsRow, standIns := [], harness := (true, "b67b1753b196b5ff2e8a0f94b29850e1da4ba0c302781ad049724ba938c47c7a"), looks := true }, kinds := [], alts := [], laidByText := true, laidKinds := [.data, .data, .data, .data, .mapped, .funcs, .mapped, .pinned], laidTests := true, laidLooks := .later }
def TarPutsCardSaid : Prop := Claim7.holds Tryz.pinned (.plain (OpenSpec.ofChange tarPutsSpec)) tarPutsCard

/-- THE TIED CARD OF 'portolanlaw21.ChunkSizes'. -/
def chunkSizesCard : Claim7 := { stood := { row := chunkSizesRow, standIns := [], harness := (true, "b67b1753b196b5ff2e8a0f94b29850e1da4ba0c302781ad049724ba938c47c7a"), looks := true }, kinds := [], alts := [], laidByText := true, laidKinds := [.data, .data, .data, .data, .mapped, .funcs, .data, .data, .mapped, .pinned], laidTests := true, laidLooks := .later }
def ChunkSizesCardSaid : Prop := Claim7.holds Tryz.pinned (.plain (OpenSpec.ofChange chunkSizesSpec)) chunkSizesCard

/-- THE TIED CARD OF 'portolanlaw13.JsonNumbers'. -/
def jsonNumbersCard : Claim7 := { stood := { row := jsonNumbersRow, standIns := [], harness := (true, "b67b1753b196b5ff2e8a0f94b29850e1da4ba0c302781ad049724ba938c47c7a"), looks := true }, kinds := [], alts := [], laidByText := true, laidKinds := [.data, .data, .data, .data, .sentinel, .sentinel, .pinned], laidTests := true, laidLooks := .later }
def JsonNumbersCardSaid : Prop := Claim7.holds Tryz.pinned (.plain (OpenSpec.ofChange jsonNumbersSpec)) jsonNumbersCard

/-- THE TIED CARD OF 'portolanlaw14.ManifestKnown'. -/
def manifestKnownCard : Claim7 := { stood := { row := manifestKnownRow, standIns := [], harness := (true, "b67b1753b196b5ff2e8a0f94b29850e1da4ba0c302781ad049724ba938c47c7a"), looks := true }, kinds := [], alts := [], laidByText := true, laidKinds := [.data, .data, .data, .data, .sentinel, .sentinel, .data, .data, .pinned], laidTests := true, laidLooks := .later }
def ManifestKnownCardSaid : Prop := Claim7.holds Tryz.pinned (.plain (OpenSpec.ofChange manifestKnownSpec)) manifestKnownCard

/-- THE SECOND FORM's CARD OF 'portolanlaw25.SquashMerges'. -/
def squashMergesUptoCard : Claim7 := { stood := { row := squashMergesUptoRow, standIns := [], harness := (true, "b67b1753b196b5ff2e8a0f94b29850e1da4ba0c302781ad049724ba938c47c7a"), looks := true }, kinds := [], alts := [], laidByText := true, laidKinds := [.data, .funcs, .mapped, .funcs, .pinned], laidTests := true, laidLooks := .later }
def SquashMergesUptoCardSaid : Prop := Claim7.holds Tryz.pinned (.plain (OpenSpec.upto squashMergesSpec)) squashMergesUptoCard

/-- THE SECOND FORM's CARD OF 'portolanlaw14.ManifestPuts'. -/
def manifestPutsUptoCard : Claim7 := { stood := { row := manifestPutsUptoRow, standIns := [], harness := (true, "b67b1753b196b5ff2e8a0f94b29850e1da4ba0c302781ad049724ba938c47c7a"), looks := true }, kinds := [], alts := [], laidByText := true, laidKinds := [.data, .data, .data, .data, .pinned], laidTests := true, laidLooks := .later }
def ManifestPutsUptoCardSaid : Prop := Claim7.holds Tryz.pinned (.plain (OpenSpec.upto manifestPutsSpec)) manifestPutsUptoCard

/-- THE SECOND FORM's CARD OF 'portolanlaw14.ManifestMatches'. -/
def manifestMatchesUptoCard : Claim7 := { stood := { row := manifestMatchesUptoRow, standIns := [], harness := (true, "b67b1753b196b5ff2e8a0f94b29850e1da4ba0c302781ad049724ba938c47c7a"), looks := true }, kinds := [], alts := [], laidByText := true, laidKinds := [.data, .data, .data, .data, .data, .data, .pinned], laidTests := true, laidLooks := .later }
def ManifestMatchesUptoCardSaid : Prop := Claim7.holds Tryz.pinned (.plain (OpenSpec.upto manifestMatchesSpec)) manifestMatchesUptoCard

/-- THE SECOND FORM's CARD OF 'portolanlaw14.ManifestNotes'. -/
def manifestNotesUptoCard : Claim7 := { stood := { row := manifestNotesUptoRow, standIns := [], harness := (true, "b67b1753b196b5ff2e8a0f94b29850e1da4ba0c302781ad049724ba938c47c7a"), looks := true }, kinds := [], alts := [], laidByText := true, laidKinds := [.data, .data, .data, .data, .data, .data, .pinned], laidTests := true, laidLooks := .later }
def ManifestNotesUptoCardSaid : Prop := Claim7.holds Tryz.pinned (.plain (OpenSpec.upto manifestNotesSpec)) manifestNotesUptoCard

/-- THE SECOND FORM's CARD OF 'portolanlaw12.TarPuts'. -/
def tarPutsUptoCard : Claim7 := { stood := { row := tarPutsUptoRow, standIns := [], harness := (true, "b67b1753b196b5ff2e8a0f94b29850e1da4ba0c302781ad049724ba938c47c7a"), looks := true }, kinds := [], alts := [], laidByText := true, laidKinds := [.data, .data, .data, .data, .mapped, .funcs, .mapped, .pinned], laidTests := true, laidLooks := .later }
def TarPutsUptoCardSaid : Prop := Claim7.holds Tryz.pinned (.plain (OpenSpec.upto tarPutsSpec)) tarPutsUptoCard

/-- THE SECOND FORM's CARD OF 'portolanlaw21.ChunkSizes'. -/
def chunkSizesUptoCard : Claim7 := { stood := { row := chunkSizesUptoRow, standIns := [], harness := (true, "b67b1753b196b5ff2e8a0f94b29850e1da4ba0c302781ad049724ba938c47c7a"), looks := true }, kinds := [], alts := [], laidByText := true, laidKinds := [.data, .data, .data, .data, .mapped, .funcs, .data, .data, .mapped, .pinned], laidTests := true, laidLooks := .later }
def ChunkSizesUptoCardSaid : Prop := Claim7.holds Tryz.pinned (.plain (OpenSpec.upto chunkSizesSpec)) chunkSizesUptoCard

/-- THE SECOND FORM's CARD OF 'portolanlaw13.JsonNumbers'. -/
def jsonNumbersUptoCard : Claim7 := { stood := { row := jsonNumbersUptoRow, standIns := [], harness := (true, "b67b1753b196b5ff2e8a0f94b29850e1da4ba0c302781ad049724ba938c47c7a"), looks := true }, kinds := [], alts := [], laidByText := true, laidKinds := [.data, .data, .data, .data, .sentinel, .sentinel, .pinned], laidTests := true, laidLooks := .later }
def JsonNumbersUptoCardSaid : Prop := Claim7.holds Tryz.pinned (.plain (OpenSpec.upto jsonNumbersSpec)) jsonNumbersUptoCard

/-- THE SECOND FORM's CARD OF 'portolanlaw14.ManifestKnown'. -/
def manifestKnownUptoCard : Claim7 := { stood := { row := manifestKnownUptoRow, standIns := [], harness := (true, "b67b1753b196b5ff2e8a0f94b29850e1da4ba0c302781ad049724ba938c47c7a"), looks := true }, kinds := [], alts := [], laidByText := true, laidKinds := [.data, .data, .data, .data, .sentinel, .sentinel, .data, .data, .pinned], laidTests := true, laidLooks := .later }
def ManifestKnownUptoCardSaid : Prop := Claim7.holds Tryz.pinned (.plain (OpenSpec.upto manifestKnownSpec)) manifestKnownUptoCard
end Rows
end Go.Proofs.YtfipbmnpbadcnaaGreatDoor
