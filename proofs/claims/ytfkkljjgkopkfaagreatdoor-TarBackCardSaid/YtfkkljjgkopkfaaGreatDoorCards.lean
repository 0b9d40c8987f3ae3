/-
  DERIVED. GIVEN WITH THE SEED: THE CARDS: each row of YtfkkljjgkopkfaaGreatDoorRows.lean that lists a variable, with what it lists TIED to the program's text (the seventh form; the later family's looks); each row that meets fmt, with fmt's text TOLD by the authors' own Lean function (tested against real Go, not proved from fmt's source: count such statements apart). THE CARD IS WHAT COUNTS. Prove the row's statement (the work); the ties are given (YtfkkljjgkopkfaaGreatDoorTie.lean); close each card by the builder's one call (the guide's Derived/Test/ToyasCard.lean, 'card_holds'). Laid BY PROGRAM, IN A SANDBOX (cutbox-door.mjs). By AI agents, Wed Nov 11 2026. No macro, syntax, notation, axiom, sorry.
-/
import Derived.Test.YtfkkljjgkopkfaaGreatDoorRows
import GoSem.ClaimSeven
namespace Go.Proofs.YtfkkljjgkopkfaaGreatDoor
namespace Rows

/-- THE TIED CARD OF 'portolanlaw12.TarBack'. -/
def tarBackCard : Claim7 := { stood := { row := tarBackRow, standIns := [], harness := (true, "442cc87fd5291c6d9ca960542249a48e586aea8f4e1d3c02f198b9f7532460a2"), looks := true }, kinds := [], alts := [], laidByText := true, laidKinds := [.data, .data, .data, .data, .sentinel, .sentinel, .mapped, .funcs, .mapped, .mapped, .pinned], laidTests := true, laidLooks := .later }
def TarBackCardSaid : Prop := Claim7.holds Tryz.pinned (.plain (OpenSpec.ofChange tarBackSpec)) tarBackCard

/-- THE SECOND FORM's CARD OF 'portolanlaw12.TarBack'. -/
def tarBackUptoCard : Claim7 := { stood := { row := tarBackUptoRow, standIns := [], harness := (true, "442cc87fd5291c6d9ca960542249a48e586aea8f4e1d3c02f198b9f7532460a2"), looks := true }, kinds := [], alts := [], laidByText := true, laidKinds := [.data, .data, .data, .data, .sentinel, .sentinel, .mapped, .funcs, .mapped, .mapped, .pinned], laidTests := true, laidLooks := .later }
def TarBackUptoCardSaid : Prop := Claim7.holds Tryz.pinned (.plain (OpenSpec.upto tarBackSpec)) tarBackUptoCard
end Rows
end Go.Proofs.YtfkkljjgkopkfaaGreatDoor
