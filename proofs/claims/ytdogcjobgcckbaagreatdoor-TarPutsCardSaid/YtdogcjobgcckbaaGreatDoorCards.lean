/-
  DERIVED. GIVEN WITH THE SEED: THE CARDS: each row of YtdogcjobgcckbaaGreatDoorRows.lean that lists a variable, with what it lists TIED to the program's text (the seventh form; the later family's looks); each row that meets fmt, with fmt's text TOLD by the authors' own Lean function (tested against real Go, not proved from fmt's source: count such statements apart). THE CARD IS WHAT COUNTS. Prove the row's statement (the work); the ties are given (YtdogcjobgcckbaaGreatDoorTie.lean); close each card by the builder's one call (the guide's Derived/Test/ToyasCard.lean, 'card_holds'). Laid BY PROGRAM, IN A SANDBOX (cutbox-door.mjs). By AI agents, Wed Nov 11 2026. No macro, syntax, notation, axiom, sorry.
-/
import Derived.Test.YtdogcjobgcckbaaGreatDoorRows
import GoSem.ClaimSeven
namespace Go.Proofs.YtdogcjobgcckbaaGreatDoor
namespace Rows

/-- THE TIED CARD OF 'portolanlaw12.TarPuts'. -/
def tarPutsCard : Claim7 := { stood := { row := tarPutsRow, standIns := [], harness := (true, "133b907ff4835cda581dedcda6c016ed807405a3df4a13b59b86f85103265528"), looks := false }, kinds := [], alts := [], laidByText := true, laidKinds := [.data, .data, .data, .data, .mapped, .funcs, .mapped, .pinned], laidTests := true, laidLooks := .later }
def TarPutsCardSaid : Prop := Claim7.holds Tryz.pinned (.plain (OpenSpec.ofChange tarPutsSpec)) tarPutsCard

/-- THE SECOND FORM's CARD OF 'portolanlaw12.TarPuts'. -/
def tarPutsUptoCard : Claim7 := { stood := { row := tarPutsUptoRow, standIns := [], harness := (true, "133b907ff4835cda581dedcda6c016ed807405a3df4a13b59b86f85103265528"), looks := false }, kinds := [], alts := [], laidByText := true, laidKinds := [.data, .data, .data, .data, .mapped, .funcs, .mapped, .pinned], laidTests := true, laidLooks := .later }
def TarPutsUptoCardSaid : Prop := Claim7.holds Tryz.pinned (.plain (OpenSpec.upto tarPutsSpec)) tarPutsUptoCard
end Rows
end Go.Proofs.YtdogcjobgcckbaaGreatDoor
