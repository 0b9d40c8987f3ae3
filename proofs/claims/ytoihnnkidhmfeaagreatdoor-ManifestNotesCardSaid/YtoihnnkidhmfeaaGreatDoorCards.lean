/-
  DERIVED. GIVEN WITH THE SEED: THE CARDS: each row of YtoihnnkidhmfeaaGreatDoorRows.lean that lists a variable, with what it lists TIED to the program's text (the seventh form; the later family's looks); each row that meets fmt, with fmt's text TOLD by the authors' own Lean function (tested against real Go, not proved from fmt's source: count such statements apart). THE CARD IS WHAT COUNTS. Prove the row's statement (the work); the ties are given (YtoihnnkidhmfeaaGreatDoorTie.lean); close each card by the builder's one call (the guide's Derived/Test/ToyasCard.lean, 'card_holds'). Laid BY PROGRAM, IN A SANDBOX (cutbox-door.mjs). By AI agents, Wed Nov 11 2026. No macro, syntax, notation, axiom, sorry.
-/
import Derived.Test.YtoihnnkidhmfeaaGreatDoorRows
import GoSem.ClaimSeven
namespace Go.Proofs.YtoihnnkidhmfeaaGreatDoor
namespace Rows

/-- THE TIED CARD OF 'portolanlaw14.ManifestNotes'. -/
def manifestNotesCard : Claim7 := { stood := { row := manifestNotesRow, standIns := [], harness := (true, "d8db5d20e68f8844b2b746a7fa5eb7af932385493c931cca9e9daa79de5308bf"), looks := true }, kinds := [], alts := [], laidByText := true, laidKinds := [.data, .data, .data, .data, .data, .data, .pinned], laidTests := true, laidLooks := .later }
def ManifestNotesCardSaid : Prop := Claim7.holds Tryz.pinned (.plain (OpenSpec.ofChange manifestNotesSpec)) manifestNotesCard

/-- THE SECOND FORM's CARD OF 'portolanlaw14.ManifestNotes'. -/
def manifestNotesUptoCard : Claim7 := { stood := { row := manifestNotesUptoRow, standIns := [], harness := (true, "d8db5d20e68f8844b2b746a7fa5eb7af932385493c931cca9e9daa79de5308bf"), looks := true }, kinds := [], alts := [], laidByText := true, laidKinds := [.data, .data, .data, .data, .data, .data, .pinned], laidTests := true, laidLooks := .later }
def ManifestNotesUptoCardSaid : Prop := Claim7.holds Tryz.pinned (.plain (OpenSpec.upto manifestNotesSpec)) manifestNotesUptoCard
end Rows
end Go.Proofs.YtoihnnkidhmfeaaGreatDoor
