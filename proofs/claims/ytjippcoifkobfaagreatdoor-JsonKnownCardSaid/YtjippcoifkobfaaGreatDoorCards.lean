/-
  DERIVED. GIVEN WITH THE SEED: THE CARDS: each row of YtjippcoifkobfaaGreatDoorRows.lean that lists a variable, with what it lists TIED to the program's text (the seventh form; the later family's looks); each row that meets fmt, with fmt's text TOLD by the authors' own Lean function (tested against real Go, not proved from fmt's source: count such statements apart). THE CARD IS WHAT COUNTS. Prove the row's statement (the work); the ties are given (YtjippcoifkobfaaGreatDoorTie.lean); close each card by the builder's one call (the guide's Derived/Test/ToyasCard.lean, 'card_holds'). Laid BY PROGRAM, IN A SANDBOX (cutbox-door.mjs). By AI agents, Wed Nov 11 2026. No macro, syntax, notation, axiom, sorry.
-/
import Derived.Test.YtjippcoifkobfaaGreatDoorRows
import GoSem.ClaimSeven
namespace Go.Proofs.YtjippcoifkobfaaGreatDoor
namespace Rows

/-- THE TIED CARD OF 'portolanlaw13.JsonKnown'. -/
def jsonKnownCard : Claim7 := { stood := { row := jsonKnownRow, standIns := [], harness := (true, "71ad87de063f82b458e47dfdcc6a8e321496c2af68f0538d7aebfec3b8ae071a"), looks := true }, kinds := [], alts := [], laidByText := true, laidKinds := [.data, .data, .data, .data, .sentinel, .sentinel, .pinned], laidTests := true, laidLooks := .later }
def JsonKnownCardSaid : Prop := Claim7.holds Tryz.pinned (.plain (OpenSpec.ofChange jsonKnownSpec)) jsonKnownCard

/-- THE TIED CARD OF 'portolanlaw14.ManifestKnown'. -/
def manifestKnownCard : Claim7 := { stood := { row := manifestKnownRow, standIns := [], harness := (true, "71ad87de063f82b458e47dfdcc6a8e321496c2af68f0538d7aebfec3b8ae071a"), looks := true }, kinds := [], alts := [], laidByText := true, laidKinds := [.data, .data, .data, .data, .sentinel, .sentinel, .data, .data, .pinned], laidTests := true, laidLooks := .later }
def ManifestKnownCardSaid : Prop := Claim7.holds Tryz.pinned (.plain (OpenSpec.ofChange manifestKnownSpec)) manifestKnownCard

/-- THE SECOND FORM's CARD OF 'portolanlaw13.JsonKnown'. -/
def jsonKnownUptoCard : Claim7 := { stood := { row := jsonKnownUptoRow, standIns := [], harness := (true, "71ad87de063f82b458e47dfdcc6a8e321496c2af68f0538d7aebfec3b8ae071a"), looks := true }, kinds := [], alts := [], laidByText := true, laidKinds := [.data, .data, .data, .data, .sentinel, .sentinel, .pinned], laidTests := true, laidLooks := .later }
def JsonKnownUptoCardSaid : Prop := Claim7.holds Tryz.pinned (.plain (OpenSpec.upto jsonKnownSpec)) jsonKnownUptoCard

/-- THE SECOND FORM's CARD OF 'portolanlaw14.ManifestKnown'. -/
def manifestKnownUptoCard : Claim7 := { stood := { row := manifestKnownUptoRow, standIns := [], harness := (true, "71ad87de063f82b458e47dfdcc6a8e321496c2af68f0538d7aebfec3b8ae071a"), looks := true }, kinds := [], alts := [], laidByText := true, laidKinds := [.data, .data, .data, .data, .sentinel, .sentinel, .data, .data, .pinned], laidTests := true, laidLooks := .later }
def ManifestKnownUptoCardSaid : Prop := Claim7.holds Tryz.pinned (.plain (OpenSpec.upto manifestKnownSpec)) manifestKnownUptoCard
end Rows
end Go.Proofs.YtjippcoifkobfaaGreatDoor
