/-
  DERIVED. GIVEN WITH THE SEED: THE CARDS: each row of YtmnmknjlgpjcbaaGreatDoorRows.lean that lists a variable, with what it lists TIED to the program's text (the seventh form; the later family's looks); each row that meets fmt, with fmt's text TOLD by the authors' own Lean function (tested against real Go, not proved from fmt's source: count such statements apart). THE CARD IS WHAT COUNTS. Prove the row's statement (the work); the ties are given (YtmnmknjlgpjcbaaGreatDoorTie.lean); close each card by the builder's one call (the guide's Derived/Test/ToyasCard.lean, 'card_holds'). Laid BY PROGRAM, IN A SANDBOX (cutbox-door.mjs). By AI agents, Wed Nov 11 2026. No macro, syntax, notation, axiom, sorry.
-/
import Derived.Test.YtmnmknjlgpjcbaaGreatDoorRows
import GoSem.ClaimSeven
namespace Go.Proofs.YtmnmknjlgpjcbaaGreatDoor
namespace Rows

/-- THE TIED CARD OF 'portolanlaw13.JsonBlanks'. -/
def jsonBlanksCard : Claim7 := { stood := { row := jsonBlanksRow, standIns := [], harness := (true, "3c3a2cbdebc59740ef53db91b7579f71afbe3d7e6a6b84454bc7eebcd3d457d2"), looks := true }, kinds := [], alts := [], laidByText := true, laidKinds := [.data, .data, .data, .data, .sentinel, .sentinel, .pinned], laidTests := true, laidLooks := .later }
def JsonBlanksCardSaid : Prop := Claim7.holds Tryz.pinned (.plain (OpenSpec.ofChange jsonBlanksSpec)) jsonBlanksCard

/-- THE TIED CARD OF 'portolanlaw13.JsonBack'. -/
def jsonBackCard : Claim7 := { stood := { row := jsonBackRow, standIns := [], harness := (true, "3c3a2cbdebc59740ef53db91b7579f71afbe3d7e6a6b84454bc7eebcd3d457d2"), looks := true }, kinds := [], alts := [], laidByText := true, laidKinds := [.data, .data, .data, .data, .sentinel, .sentinel, .pinned], laidTests := true, laidLooks := .later }
def JsonBackCardSaid : Prop := Claim7.holds Tryz.pinned (.plain (OpenSpec.ofChange jsonBackSpec)) jsonBackCard

/-- THE TIED CARD OF 'portolanlaw14.ManifestPuts'. -/
def manifestPutsCard : Claim7 := { stood := { row := manifestPutsRow, standIns := [], harness := (true, "3c3a2cbdebc59740ef53db91b7579f71afbe3d7e6a6b84454bc7eebcd3d457d2"), looks := true }, kinds := [], alts := [], laidByText := true, laidKinds := [.data, .data, .data, .data, .pinned], laidTests := true, laidLooks := .later }
def ManifestPutsCardSaid : Prop := Claim7.holds Tryz.pinned (.plain (OpenSpec.ofChange manifestPutsSpec)) manifestPutsCard

/-- THE TIED CARD OF 'portolanlaw14.ManifestNotes'. -/
def manifestNotesCard : Claim7 := { stood := { row := manifestNotesRow, standIns := [], harness := (true, "3c3a2cbdebc59740ef53db91b7579f71afbe3d7e6a6b84454bc7eebcd3d457d2"), looks := true }, kinds := [], alts := [], laidByText := true, laidKinds := [.data, .data, .data, .data, .data, .data, .pinned], laidTests := true, laidLooks := .later }
def ManifestNotesCardSaid : Prop := Claim7.holds Tryz.pinned (.plain (OpenSpec.ofChange manifestNotesSpec)) manifestNotesCard

/-- THE TIED CARD OF 'portolanlaw14.ManifestGets'. -/
def manifestGetsCard : Claim7 := { stood := { row := manifestGetsRow, standIns := [], harness := (true, "3c3a2cbdebc59740ef53db91b7579f71afbe3d7e6a6b84454bc7eebcd3d457d2"), looks := true }, kinds := [], alts := [], laidByText := true, laidKinds := [.data, .data, .data, .data, .sentinel, .sentinel, .pinned], laidTests := true, laidLooks := .later }
def ManifestGetsCardSaid : Prop := Claim7.holds Tryz.pinned (.plain (OpenSpec.ofChange manifestGetsSpec)) manifestGetsCard

/-- THE TIED CARD OF 'portolanlaw14.ManifestOnce'. -/
def manifestOnceCard : Claim7 := { stood := { row := manifestOnceRow, standIns := [], harness := (true, "3c3a2cbdebc59740ef53db91b7579f71afbe3d7e6a6b84454bc7eebcd3d457d2"), looks := true }, kinds := [], alts := [], laidByText := true, laidKinds := [.data, .data, .data, .data, .sentinel, .sentinel, .pinned], laidTests := true, laidLooks := .later }
def ManifestOnceCardSaid : Prop := Claim7.holds Tryz.pinned (.plain (OpenSpec.ofChange manifestOnceSpec)) manifestOnceCard

/-- THE TIED CARD OF 'portolanlaw14.ManifestBack'. -/
def manifestBackCard : Claim7 := { stood := { row := manifestBackRow, standIns := [], harness := (true, "3c3a2cbdebc59740ef53db91b7579f71afbe3d7e6a6b84454bc7eebcd3d457d2"), looks := true }, kinds := [], alts := [], laidByText := true, laidKinds := [.data, .data, .data, .data, .sentinel, .sentinel, .data, .data, .pinned], laidTests := true, laidLooks := .later }
def ManifestBackCardSaid : Prop := Claim7.holds Tryz.pinned (.plain (OpenSpec.ofChange manifestBackSpec)) manifestBackCard

/-- THE SECOND FORM's CARD OF 'portolanlaw13.JsonBlanks'. -/
def jsonBlanksUptoCard : Claim7 := { stood := { row := jsonBlanksUptoRow, standIns := [], harness := (true, "3c3a2cbdebc59740ef53db91b7579f71afbe3d7e6a6b84454bc7eebcd3d457d2"), looks := true }, kinds := [], alts := [], laidByText := true, laidKinds := [.data, .data, .data, .data, .sentinel, .sentinel, .pinned], laidTests := true, laidLooks := .later }
def JsonBlanksUptoCardSaid : Prop := Claim7.holds Tryz.pinned (.plain (OpenSpec.upto jsonBlanksSpec)) jsonBlanksUptoCard

/-- THE SECOND FORM's CARD OF 'portolanlaw13.JsonBack'. -/
def jsonBackUptoCard : Claim7 := { stood := { row := jsonBackUptoRow, standIns := [], harness := (true, "3c3a2cbdebc59740ef53db91b7579f71afbe3d7e6a6b84454bc7eebcd3d457d2"), looks := true }, kinds := [], alts := [], laidByText := true, laidKinds := [.data, .data, .data, .data, .sentinel, .sentinel, .pinned], laidTests := true, laidLooks := .later }
def JsonBackUptoCardSaid : Prop := Claim7.holds Tryz.pinned (.plain (OpenSpec.upto jsonBackSpec)) jsonBackUptoCard

/-- THE SECOND FORM's CARD OF 'portolanlaw14.ManifestPuts'. -/
def manifestPutsUptoCard : Claim7 := { stood := { row := manifestPutsUptoRow, standIns := [], harness := (true, "3c3a2cbdebc59740ef53db91b7579f71afbe3d7e6a6b84454bc7eebcd3d457d2"), looks := true }, kinds := [], alts := [], laidByText := true, laidKinds := [.data, .data, .data, .data, .pinned], laidTests := true, laidLooks := .later }
def ManifestPutsUptoCardSaid : Prop := Claim7.holds Tryz.pinned (.plain (OpenSpec.upto manifestPutsSpec)) manifestPutsUptoCard

/-- THE SECOND FORM's CARD OF 'portolanlaw14.ManifestNotes'. -/
def manifestNotesUptoCard : Claim7 := { stood := { row := manifestNotesUptoRow, standIns := [], harness := (true, "3c3a2cbdebc59740ef53db91b7579f71afbe3d7e6a6b84454bc7eebcd3d457d2"), looks := true }, kinds := [], alts := [], laidByText := true, laidKinds := [.data, .data, .data, .data, .data, .data, .pinned], laidTests := true, laidLooks := .later }
def ManifestNotesUptoCardSaid : Prop := Claim7.holds Tryz.pinned (.plain (OpenSpec.upto manifestNotesSpec)) manifestNotesUptoCard

/-- THE SECOND FORM's CARD OF 'portolanlaw14.ManifestGets'. -/
def manifestGetsUptoCard : Claim7 := { stood := { row := manifestGetsUptoRow, standIns := [], harness := (true, "3c3a2cbdebc59740ef53db91b7579f71afbe3d7e6a6b84454bc7eebcd3d457d2"), looks := true }, kinds := [], alts := [], laidByText := true, laidKinds := [.data, .data, .data, .data, .sentinel, .sentinel, .pinned], laidTests := true, laidLooks := .later }
def ManifestGetsUptoCardSaid : Prop := Claim7.holds Tryz.pinned (.plain (OpenSpec.upto manifestGetsSpec)) manifestGetsUptoCard

/-- THE SECOND FORM's CARD OF 'portolanlaw14.ManifestOnce'. -/
def manifestOnceUptoCard : Claim7 := { stood := { row := manifestOnceUptoRow, standIns := [], harness := (true, "3c3a2cbdebc59740ef53db91b7579f71afbe3d7e6a6b84454bc7eebcd3d457d2"), looks := true }, kinds := [], alts := [], laidByText := true, laidKinds := [.data, .data, .data, .data, .sentinel, .sentinel, .pinned], laidTests := true, laidLooks := .later }
def ManifestOnceUptoCardSaid : Prop := Claim7.holds Tryz.pinned (.plain (OpenSpec.upto manifestOnceSpec)) manifestOnceUptoCard

/-- THE SECOND FORM's CARD OF 'portolanlaw14.ManifestBack'. -/
def manifestBackUptoCard : Claim7 := { stood := { row := manifestBackUptoRow, standIns := [], harness := (true, "3c3a2cbdebc59740ef53db91b7579f71afbe3d7e6a6b84454bc7eebcd3d457d2"), looks := true }, kinds := [], alts := [], laidByText := true, laidKinds := [.data, .data, .data, .data, .sentinel, .sentinel, .data, .data, .pinned], laidTests := true, laidLooks := .later }
def ManifestBackUptoCardSaid : Prop := Claim7.holds Tryz.pinned (.plain (OpenSpec.upto manifestBackSpec)) manifestBackUptoCard
end Rows
end Go.Proofs.YtmnmknjlgpjcbaaGreatDoor
