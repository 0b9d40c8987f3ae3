/-
  DERIVED. GIVEN WITH THE SEED: THE CARDS: each row of YtikedecpnlbmbaaGreatDoorRows.lean that lists a variable, with what it lists TIED to the program's text (the seventh form; the later family's looks); each row that meets fmt, with fmt's text TOLD by the authors' own Lean function (tested against real Go, not proved from fmt's source: count such statements apart). THE CARD IS WHAT COUNTS. Prove the row's statement (the work); the ties are given (YtikedecpnlbmbaaGreatDoorTie.lean); close each card by the builder's one call (the guide's Derived/Test/ToyasCard.lean, 'card_holds'). Laid BY PROGRAM, IN A SANDBOX (cutbox-door.mjs). By AI agents, Wed Nov 11 2026. No macro, syntax, notation, axiom, sorry.
-/
import Derived.Test.YtikedecpnlbmbaaGreatDoorRows
import GoSem.ClaimSeven
namespace Go.Proofs.YtikedecpnlbmbaaGreatDoor
namespace Rows

/-- THE TIED CARD OF 'portolanlaw15.TocTexts'. -/
def tocTextsCard : Claim7 := { stood := { row := tocTextsRow, standIns := [], harness := (true, "4a12dcd7f943c74e5a37cae399a20392f8e9018027706bda56b3f83f40ae0ce9"), looks := true }, kinds := [], alts := [], laidByText := true, laidKinds := [.data, .data, .data, .data, .sentinel, .sentinel, .funcs, .mapped, .widerDeep, .pinned], laidTests := true, laidLooks := .later }
def TocTextsCardSaid : Prop := Claim7.holds Tryz.pinned (.plain (OpenSpec.ofChange tocTextsSpec)) tocTextsCard

/-- THE TIED CARD OF 'portolanlaw15.TocRange'. -/
def tocRangeCard : Claim7 := { stood := { row := tocRangeRow, standIns := [], harness := (true, "4a12dcd7f943c74e5a37cae399a20392f8e9018027706bda56b3f83f40ae0ce9"), looks := true }, kinds := [], alts := [], laidByText := true, laidKinds := [.data, .data, .data, .data, .sentinel, .sentinel, .funcs, .data, .data, .mapped, .widerDeep, .pinned], laidTests := true, laidLooks := .later }
def TocRangeCardSaid : Prop := Claim7.holds Tryz.pinned (.plain (OpenSpec.ofChange tocRangeSpec)) tocRangeCard

/-- THE SECOND FORM's CARD OF 'portolanlaw15.TocTexts'. -/
def tocTextsUptoCard : Claim7 := { stood := { row := tocTextsUptoRow, standIns := [], harness := (true, "4a12dcd7f943c74e5a37cae399a20392f8e9018027706bda56b3f83f40ae0ce9"), looks := true }, kinds := [], alts := [], laidByText := true, laidKinds := [.data, .data, .data, .data, .sentinel, .sentinel, .funcs, .mapped, .widerDeep, .pinned], laidTests := true, laidLooks := .later }
def TocTextsUptoCardSaid : Prop := Claim7.holds Tryz.pinned (.plain (OpenSpec.upto tocTextsSpec)) tocTextsUptoCard

/-- THE SECOND FORM's CARD OF 'portolanlaw15.TocRange'. -/
def tocRangeUptoCard : Claim7 := { stood := { row := tocRangeUptoRow, standIns := [], harness := (true, "4a12dcd7f943c74e5a37cae399a20392f8e9018027706bda56b3f83f40ae0ce9"), looks := true }, kinds := [], alts := [], laidByText := true, laidKinds := [.data, .data, .data, .data, .sentinel, .sentinel, .funcs, .data, .data, .mapped, .widerDeep, .pinned], laidTests := true, laidLooks := .later }
def TocRangeUptoCardSaid : Prop := Claim7.holds Tryz.pinned (.plain (OpenSpec.upto tocRangeSpec)) tocRangeUptoCard
end Rows
end Go.Proofs.YtikedecpnlbmbaaGreatDoor
