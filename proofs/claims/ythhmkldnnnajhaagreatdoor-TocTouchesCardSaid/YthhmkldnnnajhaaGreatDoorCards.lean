/-
  DERIVED. GIVEN WITH THE SEED: THE CARDS: each row of YthhmkldnnnajhaaGreatDoorRows.lean that lists a variable, with what it lists TIED to the program's text (the seventh form; the later family's looks); each row that meets fmt, with fmt's text TOLD by the authors' own Lean function (tested against real Go, not proved from fmt's source: count such statements apart). THE CARD IS WHAT COUNTS. Prove the row's statement (the work); the ties are given (YthhmkldnnnajhaaGreatDoorTie.lean); close each card by the builder's one call (the guide's Derived/Test/ToyasCard.lean, 'card_holds'). Laid BY PROGRAM, IN A SANDBOX (cutbox-door.mjs). By AI agents, Wed Nov 11 2026. No macro, syntax, notation, axiom, sorry.
-/
import Derived.Test.YthhmkldnnnajhaaGreatDoorRows
import GoSem.ClaimSeven
namespace Go.Proofs.YthhmkldnnnajhaaGreatDoor
namespace Rows

/-- THE TIED CARD OF 'portolanlaw21.ChunkChecks'. -/
def chunkChecksCard : Claim7 := { stood := { row := chunkChecksRow, standIns := [], harness := (true, "138bb9c91e11e0e00e56d714ccd1bc9c5cbd65b1a51a66b194941474bc6fd0fd"), looks := true }, kinds := [], alts := [], laidByText := true, laidKinds := [.data, .data, .data, .data, .mapped, .funcs, .data, .data, .mapped, .pinned], laidTests := true, laidLooks := .later }
def ChunkChecksCardSaid : Prop := Claim7.holds Tryz.pinned (.plain (OpenSpec.ofChange chunkChecksSpec)) chunkChecksCard

/-- THE TIED CARD OF 'portolanlaw15.TocTouches'. -/
def tocTouchesCard : Claim7 := { stood := { row := tocTouchesRow, standIns := [], harness := (true, "138bb9c91e11e0e00e56d714ccd1bc9c5cbd65b1a51a66b194941474bc6fd0fd"), looks := true }, kinds := [], alts := [], laidByText := true, laidKinds := [.data, .data, .data, .data, .sentinel, .sentinel, .funcs, .mapped, .widerDeep, .pinned], laidTests := true, laidLooks := .later }
def TocTouchesCardSaid : Prop := Claim7.holds Tryz.pinned (.plain (OpenSpec.ofChange tocTouchesSpec)) tocTouchesCard

/-- THE TIED CARD OF 'portolanlaw21.ChunkSizes'. -/
def chunkSizesCard : Claim7 := { stood := { row := chunkSizesRow, standIns := [], harness := (true, "138bb9c91e11e0e00e56d714ccd1bc9c5cbd65b1a51a66b194941474bc6fd0fd"), looks := true }, kinds := [], alts := [], laidByText := true, laidKinds := [.data, .data, .data, .data, .mapped, .funcs, .data, .data, .mapped, .pinned], laidTests := true, laidLooks := .later }
def ChunkSizesCardSaid : Prop := Claim7.holds Tryz.pinned (.plain (OpenSpec.ofChange chunkSizesSpec)) chunkSizesCard

/-- THE TIED CARD OF 'portolanlaw12.TarSums'. -/
def tarSumsCard : Claim7 := { stood := { row := tarSumsRow, standIns := [], harness := (true, "138bb9c91e11e0e00e56d714ccd1bc9c5cbd65b1a51a66b194941474bc6fd0fd"), looks := true }, kinds := [], alts := [], laidByText := true, laidKinds := [.data, .data, .data, .data, .sentinel, .sentinel, .mapped, .funcs, .mapped, .mapped, .pinned], laidTests := true, laidLooks := .later }
def TarSumsCardSaid : Prop := Claim7.holds Tryz.pinned (.plain (OpenSpec.ofChange tarSumsSpec)) tarSumsCard

/-- THE TIED CARD OF 'portolanlaw12.TarPuts'. -/
def tarPutsCard : Claim7 := { stood := { row := tarPutsRow, standIns := [], harness := (true, "138bb9c91e11e0e00e56d714ccd1bc9c5cbd65b1a51a66b194941474bc6fd0fd"), looks := true }, kinds := [], alts := [], laidByText := true, laidKinds := [.data, .data, .data, .data, .mapped, .funcs, .mapped, .pinned], laidTests := true, laidLooks := .later }
def TarPutsCardSaid : Prop := Claim7.holds Tryz.pinned (.plain (OpenSpec.ofChange tarPutsSpec)) tarPutsCard

/-- THE TIED CARD OF 'portolanlaw21.ChunkParts'. -/
def chunkPartsCard : Claim7 := { stood := { row := chunkPartsRow, standIns := [], harness := (true, "138bb9c91e11e0e00e56d714ccd1bc9c5cbd65b1a51a66b194941474bc6fd0fd"), looks := true }, kinds := [], alts := [], laidByText := true, laidKinds := [.data, .data, .data, .data, .mapped, .funcs, .data, .data, .mapped, .pinned], laidTests := true, laidLooks := .later }
def ChunkPartsCardSaid : Prop := Claim7.holds Tryz.pinned (.plain (OpenSpec.ofChange chunkPartsSpec)) chunkPartsCard

/-- THE SECOND FORM's CARD OF 'portolanlaw21.ChunkChecks'. -/
def chunkChecksUptoCard : Claim7 := { stood := { row := chunkChecksUptoRow, standIns := [], harness := (true, "138bb9c91e11e0e00e56d714ccd1bc9c5cbd65b1a51a66b194941474bc6fd0fd"), looks := true }, kinds := [], alts := [], laidByText := true, laidKinds := [.data, .data, .data, .data, .mapped, .funcs, .data, .data, .mapped, .pinned], laidTests := true, laidLooks := .later }
def ChunkChecksUptoCardSaid : Prop := Claim7.holds Tryz.pinned (.plain (OpenSpec.upto chunkChecksSpec)) chunkChecksUptoCard

/-- THE SECOND FORM's CARD OF 'portolanlaw15.TocTouches'. -/
def tocTouchesUptoCard : Claim7 := { stood := { row := tocTouchesUptoRow, standIns := [], harness := (true, "138bb9c91e11e0e00e56d714ccd1bc9c5cbd65b1a51a66b194941474bc6fd0fd"), looks := true }, kinds := [], alts := [], laidByText := true, laidKinds := [.data, .data, .data, .data, .sentinel, .sentinel, .funcs, .mapped, .widerDeep, .pinned], laidTests := true, laidLooks := .later }
def TocTouchesUptoCardSaid : Prop := Claim7.holds Tryz.pinned (.plain (OpenSpec.upto tocTouchesSpec)) tocTouchesUptoCard

/-- THE SECOND FORM's CARD OF 'portolanlaw21.ChunkSizes'. -/
def chunkSizesUptoCard : Claim7 := { stood := { row := chunkSizesUptoRow, standIns := [], harness := (true, "138bb9c91e11e0e00e56d714ccd1bc9c5cbd65b1a51a66b194941474bc6fd0fd"), looks := true }, kinds := [], alts := [], laidByText := true, laidKinds := [.data, .data, .data, .data, .mapped, .funcs, .data, .data, .mapped, .pinned], laidTests := true, laidLooks := .later }
def ChunkSizesUptoCardSaid : Prop := Claim7.holds Tryz.pinned (.plain (OpenSpec.upto chunkSizesSpec)) chunkSizesUptoCard

/-- THE SECOND FORM's CARD OF 'portolanlaw12.TarSums'. -/
def tarSumsUptoCard : Claim7 := { stood := { row := tarSumsUptoRow, standIns := [], harness := (true, "138bb9c91e11e0e00e56d714ccd1bc9c5cbd65b1a51a66b194941474bc6fd0fd"), looks := true }, kinds := [], alts := [], laidByText := true, laidKinds := [.data, .data, .data, .data, .sentinel, .sentinel, .mapped, .funcs, .mapped, .mapped, .pinned], laidTests := true, laidLooks := .later }
def TarSumsUptoCardSaid : Prop := Claim7.holds Tryz.pinned (.plain (OpenSpec.upto tarSumsSpec)) tarSumsUptoCard

/-- THE SECOND FORM's CARD OF 'portolanlaw12.TarPuts'. -/
def tarPutsUptoCard : Claim7 := { stood := { row := tarPutsUptoRow, standIns := [], harness := (true, "138bb9c91e11e0e00e56d714ccd1bc9c5cbd65b1a51a66b194941474bc6fd0fd"), looks := true }, kinds := [], alts := [], laidByText := true, laidKinds := [.data, .data, .data, .data, .mapped, .funcs, .mapped, .pinned], laidTests := true, laidLooks := .later }
def TarPutsUptoCardSaid : Prop := Claim7.holds Tryz.pinned (.plain (OpenSpec.upto tarPutsSpec)) tarPutsUptoCard

/-- THE SECOND FORM's CARD OF 'portolanlaw21.ChunkParts'. -/
def chunkPartsUptoCard : Claim7 := { stood := { row := chunkPartsUptoRow, standIns := [], harness := (true, "138bb9c91e11e0e00e56d714ccd1bc9c5cbd65b1a51a66b194941474bc6fd0fd"), looks := true }, kinds := [], alts := [], laidByText := true, laidKinds := [.data, .data, .data, .data, .mapped, .funcs, .data, .data, .mapped, .pinned], laidTests := true, laidLooks := .later }
def ChunkPartsUptoCardSaid : Prop := Claim7.holds Tryz.pinned (.plain (OpenSpec.upto chunkPartsSpec)) chunkPartsUptoCard
end Rows
end Go.Proofs.YthhmkldnnnajhaaGreatDoor
