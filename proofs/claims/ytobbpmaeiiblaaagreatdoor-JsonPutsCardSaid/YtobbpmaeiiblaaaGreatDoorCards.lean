/-
  DERIVED. GIVEN WITH THE SEED: THE CARDS: each row of YtobbpmaeiiblaaaGreatDoorRows.lean that lists a variable, with what it lists TIED to the program's text (the seventh form; the later family's looks); each row that meets fmt, with fmt's text TOLD by the authors' own Lean function (tested against real Go, not proved from fmt's source: count such statements apart). THE CARD IS WHAT COUNTS. Prove the row's statement (the work); the ties are given (YtobbpmaeiiblaaaGreatDoorTie.lean); close each card by the builder's one call (the guide's Derived/Test/ToyasCard.lean, 'card_holds'). Laid BY PROGRAM, IN A SANDBOX (cutbox-door.mjs). By AI agents, Wed Nov 11 2026. No macro, syntax, notation, axiom, sorry.
-/
import Derived.Test.YtobbpmaeiiblaaaGreatDoorRows
import GoSem.ClaimSeven
namespace Go.Proofs.YtobbpmaeiiblaaaGreatDoor
namespace Rows

/-- THE TIED CARD OF 'portolanlaw14.ManifestPuts'. -/
def manifestPutsCard : Claim7 := { stood := { row := manifestPutsRow, standIns := [], harness := (true, "bada83085b14660ae1c61c3c672d92e6ab9df93b3cce39117ad8be2b66f6af56"), looks := true }, kinds := [], alts := [], laidByText := true, laidKinds := [.data, .data, .data, .data, .pinned], laidTests := true, laidLooks := .later }
def ManifestPutsCardSaid : Prop := Claim7.holds Tryz.pinned (.plain (OpenSpec.ofChange manifestPutsSpec)) manifestPutsCard

/-- THE TIED CARD OF 'portolanlaw14.ManifestNotes'. -/
def manifestNotesCard : Claim7 := { stood := { row := manifestNotesRow, standIns := [], harness := (true, "bada83085b14660ae1c61c3c672d92e6ab9df93b3cce39117ad8be2b66f6af56"), looks := true }, kinds := [], alts := [], laidByText := true, laidKinds := [.data, .data, .data, .data, .data, .data, .pinned], laidTests := true, laidLooks := .later }
def ManifestNotesCardSaid : Prop := Claim7.holds Tryz.pinned (.plain (OpenSpec.ofChange manifestNotesSpec)) manifestNotesCard

/-- THE TIED CARD OF 'portolanlaw13.JsonPuts'. -/
def jsonPutsCard : Claim7 := { stood := { row := jsonPutsRow, standIns := [], harness := (true, "bada83085b14660ae1c61c3c672d92e6ab9df93b3cce39117ad8be2b66f6af56"), looks := true }, kinds := [], alts := [], laidByText := true, laidKinds := [.data, .data, .data, .data, .sentinel, .sentinel, .pinned], laidTests := true, laidLooks := .later }
def JsonPutsCardSaid : Prop := Claim7.holds Tryz.pinned (.plain (OpenSpec.ofChange jsonPutsSpec)) jsonPutsCard

/-- THE TIED CARD OF 'portolanlaw13.JsonBlanks'. -/
def jsonBlanksCard : Claim7 := { stood := { row := jsonBlanksRow, standIns := [], harness := (true, "bada83085b14660ae1c61c3c672d92e6ab9df93b3cce39117ad8be2b66f6af56"), looks := true }, kinds := [], alts := [], laidByText := true, laidKinds := [.data, .data, .data, .data, .sentinel, .sentinel, .pinned], laidTests := true, laidLooks := .later }
def JsonBlanksCardSaid : Prop := Claim7.holds Tryz.pinned (.plain (OpenSpec.ofChange jsonBlanksSpec)) jsonBlanksCard

/-- THE TIED CARD OF 'portolanlaw13.JsonOrder'. -/
def jsonOrderCard : Claim7 := { stood := { row := jsonOrderRow, standIns := [], harness := (true, "bada83085b14660ae1c61c3c672d92e6ab9df93b3cce39117ad8be2b66f6af56"), looks := true }, kinds := [], alts := [], laidByText := true, laidKinds := [.data, .data, .data, .data, .sentinel, .sentinel, .pinned], laidTests := true, laidLooks := .later }
def JsonOrderCardSaid : Prop := Claim7.holds Tryz.pinned (.plain (OpenSpec.ofChange jsonOrderSpec)) jsonOrderCard

/-- THE TIED CARD OF 'portolanlaw13.JsonNumbers'. -/
def jsonNumbersCard : Claim7 := { stood := { row := jsonNumbersRow, standIns := [], harness := (true, "bada83085b14660ae1c61c3c672d92e6ab9df93b3cce39117ad8be2b66f6af56"), looks := true }, kinds := [], alts := [], laidByText := true, laidKinds := [.data, .data, .data, .data, .sentinel, .sentinel, .pinned], laidTests := true, laidLooks := .later }
def JsonNumbersCardSaid : Prop := Claim7.holds Tryz.pinned (.plain (OpenSpec.ofChange jsonNumbersSpec)) jsonNumbersCard

/-- THE SECOND FORM's CARD OF 'portolanlaw14.ManifestPuts'. -/
def manifestPutsUptoCard : Claim7 := { stood := { row := manifestPutsUptoRow, standIns := [], harness := (true, "bada83085b14660ae1c61c3c672d92e6ab9df93b3cce39117ad8be2b66f6af56"), looks := true }, kinds := [], alts := [], laidByText := true, laidKinds := [.data, .data, .data, .data, .pinned], laidTests := true, laidLooks := .later }
def ManifestPutsUptoCardSaid : Prop := Claim7.holds Tryz.pinned (.plain (OpenSpec.upto manifestPutsSpec)) manifestPutsUptoCard

/-- THE SECOND FORM's CARD OF 'portolanlaw14.ManifestNotes'. -/
def manifestNotesUptoCard : Claim7 := { stood := { row := manifestNotesUptoRow, standIns := [], harness := (true, "bada83085b14660ae1c61c3c672d92e6ab9df93b3cce39117ad8be2b66f6af56"), looks := true }, kinds := [], alts := [], laidByText := true, laidKinds := [.data, .data, .data, .data, .data, .data, .pinned], laidTests := true, laidLooks := .later }
def ManifestNotesUptoCardSaid : Prop := Claim7.holds Tryz.pinned (.plain (OpenSpec.upto manifestNotesSpec)) manifestNotesUptoCard

/-- THE SECOND FORM's CARD OF 'portolanlaw13.JsonPuts'. -/
def jsonPutsUptoCard : Claim7 := { stood := { row := jsonPutsUptoRow, standIns := [], harness := (true, "bada83085b14660ae1c61c3c672d92e6ab9df93b3cce39117ad8be2b66f6af56"), looks := true }, kinds := [], alts := [], laidByText := true, laidKinds := [.data, .data, .data, .data, .sentinel, .sentinel, .pinned], laidTests := true, laidLooks := .later }
def JsonPutsUptoCardSaid : Prop := Claim7.holds Tryz.pinned (.plain (OpenSpec.upto jsonPutsSpec)) jsonPutsUptoCard

/-- THE SECOND FORM's CARD OF 'portolanlaw13.JsonBlanks'. -/
def jsonBlanksUptoCard : Claim7 := { stood := { row := jsonBlanksUptoRow, standIns := [], harness := (true, "bada83085b14660ae1c61c3c672d92e6ab9df93b3cce39117ad8be2b66f6af56"), looks := true }, kinds := [], alts := [], laidByText := true, laidKinds := [.data, .data, .data, .data, .sentinel, .sentinel, .pinned], laidTests := true, laidLooks := .later }
def JsonBlanksUptoCardSaid : Prop := Claim7.holds Tryz.pinned (.plain (OpenSpec.upto jsonBlanksSpec)) jsonBlanksUptoCard

/-- THE SECOND FORM's CARD OF 'portolanlaw13.JsonOrder'. -/
def jsonOrderUptoCard : Claim7 := { stood := { row := jsonOrderUptoRow, standIns := [], harness := (true, "bada83085b14660ae1c61c3c672d92e6ab9df93b3cce39117ad8be2b66f6af56"), looks := true }, kinds := [], alts := [], laidByText := true, laidKinds := [.data, .data, .data, .data, .sentinel, .sentinel, .pinned], laidTests := true, laidLooks := .later }
def JsonOrderUptoCardSaid : Prop := Claim7.holds Tryz.pinned (.plain (OpenSpec.upto jsonOrderSpec)) jsonOrderUptoCard

/-- THE SECOND FORM's CARD OF 'portolanlaw13.JsonNumbers'. -/
def jsonNumbersUptoCard : Claim7 := { stood := { row := jsonNumbersUptoRow, standIns := [], harness := (true, "bada83085b14660ae1c61c3c672d92e6ab9df93b3cce39117ad8be2b66f6af56"), looks := true }, kinds := [], alts := [], laidByText := true, laidKinds := [.data, .data, .data, .data, .sentinel, .sentinel, .pinned], laidTests := true, laidLooks := .later }
def JsonNumbersUptoCardSaid : Prop := Claim7.holds Tryz.pinned (.plain (OpenSpec.upto jsonNumbersSpec)) jsonNumbersUptoCard
end Rows
end Go.Proofs.YtobbpmaeiiblaaaGreatDoor
