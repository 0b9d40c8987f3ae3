/-
  DERIVED. GIVEN WITH THE SEED: THE CARDS: each row of YtbmdhpdcgbgcnaaGreatDoorRows.lean that lists a variable, with what it lists TIED to the program's text (the seventh form; the later family's looks); each row that meets fmt, with fmt's text TOLD by the authors' own Lean function (tested against real Go, not proved from fmt's source: count such statements apart). THE CARD IS WHAT COUNTS. Prove the row's statement (the work); the ties are given (YtbmdhpdcgbgcnaaGreatDoorTie.lean); close each card by the builder's one call (the guide's Derived/Test/ToyasCard.lean, 'card_holds'). Laid BY PROGRAM, IN A SANDBOX (cutbox-door.mjs). By AI agents, Wed Nov 11 2026. No macro, syntax, notation, axiom, sorry.
-/
import Derived.Test.YtbmdhpdcgbgcnaaGreatDoorRows
import GoSem.ClaimSeven
namespace Go.Proofs.YtbmdhpdcgbgcnaaGreatDoor
namespace Rows

/-- THE TIED CARD OF 'portolanlaw12.TarSums'. -/
def tarSumsCard : Claim7 := { stood := { row := tarSumsRow, standIns := [], harness := (true, "d8f1a97594e6347d9fe1b2dde0777830b77e62986146bced833f72bc87ae643e"), looks := true }, kinds := [], alts := [], laidByText := true, laidKinds := [.data, .data, .data, .data, .sentinel, .sentinel, .mapped, .funcs, .mapped, .mapped, .pinned], laidTests := true, laidLooks := .later }
def TarSumsCardSaid : Prop := Claim7.holds Tryz.pinned (.plain (OpenSpec.ofChange tarSumsSpec)) tarSumsCard

/-- THE SECOND FORM's CARD OF 'portolanlaw12.TarSums'. -/
def tarSumsUptoCard : Claim7 := { stood := { row := tarSumsUptoRow, standIns := [], harness := (true, "d8f1a97594e6347d9fe1b2dde0777830b77e62986146bced833f72bc87ae643e"), looks := true }, kinds := [], alts := [], laidByText := true, laidKinds := [.data, .data, .data, .data, .sentinel, .sentinel, .mapped, .funcs, .mapped, .mapped, .pinned], laidTests := true, laidLooks := .later }
def TarSumsUptoCardSaid : Prop := Claim7.holds Tryz.pinned (.plain (OpenSpec.upto tarSumsSpec)) tarSumsUptoCard
end Rows
end Go.Proofs.YtbmdhpdcgbgcnaaGreatDoor
