/- The law ChunkKnown returns true: proved, under its row's condition. -/
import Derived.Test.YtlnelphabohehaaGreatDoorSQ
set_option maxRecDepth 1000000
set_option maxHeartbeats 0
set_option linter.unusedVariables false
set_option linter.unusedSimpArgs false
namespace Go.Proofs.YtlnelphabohehaaGreatDoor
open Go.ChangeShapes Go.WideShapes Go.ChangeAt Go.RowKit Go.AI
/-- a world in which the listed maps stand -/
noncomputable def mapWorld (os : Os) : World := let w := World.holding Tryz.prog os ⟨#[], #[], []⟩; let n := w.heap.size
  { w with heap := ⟨Lay.setRows w.heap.toList [(0, [.map (some (n + 0))]), (1, [.map (some (n + 1))]), (8, [.map (some (n + 2))])] ++ [.map #[⟨.int .i64 1, .func (.func 297) #[] #[], 0⟩, ⟨.int .i64 2, .func (.func 298) #[] #[], 1⟩, ⟨.int .i64 3, .func (.func 299) #[] #[], 2⟩] 3, .map #[⟨.int .i64 1, .int .u8 53, 0⟩, ⟨.int .i64 2, .int .u8 48, 1⟩, ⟨.int .i64 3, .int .u8 50, 2⟩, ⟨.int .i64 4, .int .u8 54, 3⟩] 4, .map #[⟨.string ⟨#[99, 104, 107, 115, 117, 109]⟩, .agg #[.int .i64 148, .int .i64 8], 0⟩, ⟨.string ⟨#[100, 101, 118, 109, 97, 106, 111, 114]⟩, .agg #[.int .i64 329, .int .i64 8], 1⟩, ⟨.string ⟨#[100, 101, 118, 109, 105, 110, 111, 114]⟩, .agg #[.int .i64 337, .int .i64 8], 2⟩, ⟨.string ⟨#[103, 105, 100]⟩, .agg #[.int .i64 116, .int .i64 8], 3⟩, ⟨.string ⟨#[103, 110, 97, 109, 101]⟩, .agg #[.int .i64 297, .int .i64 32], 4⟩, ⟨.string ⟨#[108, 105, 110, 107, 110, 97, 109, 101]⟩, .agg #[.int .i64 157, .int .i64 100], 5⟩, ⟨.string ⟨#[109, 97, 103, 105, 99]⟩, .agg #[.int .i64 257, .int .i64 6], 6⟩, ⟨.string ⟨#[109, 111, 100, 101]⟩, .agg #[.int .i64 100, .int .i64 8], 7⟩, ⟨.string ⟨#[109, 116, 105, 109, 101]⟩, .agg #[.int .i64 136, .int .i64 12], 8⟩, ⟨.string ⟨#[110, 97, 109, 101]⟩, .agg #[.int .i64 0, .int .i64 100], 9⟩, ⟨.string ⟨#[112, 114, 101, 102, 105, 120]⟩, .agg #[.int .i64 345, .int .i64 155], 10⟩, ⟨.string ⟨#[115, 105, 122, 101]⟩, .agg #[.int .i64 124, .int .i64 12], 11⟩, ⟨.string ⟨#[116, 121, 112, 101]⟩, .agg #[.int .i64 156, .int .i64 1], 12⟩, ⟨.string ⟨#[117, 105, 100]⟩, .agg #[.int .i64 108, .int .i64 8], 13⟩, ⟨.string ⟨#[117, 110, 97, 109, 101]⟩, .agg #[.int .i64 265, .int .i64 32], 14⟩, ⟨.string ⟨#[118, 101, 114, 115, 105, 111, 110]⟩, .agg #[.int .i64 263, .int .i64 2], 15⟩] 16]⟩ }
noncomputable abbrev great : List String := ["math/bits.deBruijn32tab", "math/bits.deBruijn64tab", "internal/strconv.uint64pow10", "unicode/utf8.acceptRanges", "portolan/sha.constants", "portolan/sha.beginning", "unicode/utf8.first"]
noncomputable def laidWorld (os : Os) : World := (mapWorld os).layVars Tryz.prog (Rows.chunkKnownRow.laid.filter fun x => great.contains x.1)
theorem laid_met (os : Os) (args : Array Value) : laidMetH Tryz.prog Rows.chunkKnownRow.laid ((laidWorld os).forCall (fun _ _ => 0) ⟨#[], args, []⟩).memory := by
  have hw : ((laidWorld os).forCall (fun _ _ => 0) ⟨#[], args, []⟩).memory.heap = (laidWorld os).heap := by simp [World.memory, World.forCall, Input.heap]
  refine laidMetH_of_parts3 (fuel := 12) ?_ (by kernel_rfl) (by kernel_rfl)
  refine (laidMet_layVars (P := Tryz.prog) (laid := (Rows.chunkKnownRow.laid.filter fun x => x.2.handleName?.isNone)) (w0 := mapWorld os) (w' := laidWorld os) great [1, ((mapWorld os).heap.size - 2), 8, ((mapWorld os).heap.size - 1)] ?_ (by kernel_rfl) (by kernel_rfl) (LaidIn.of_run [1, ((mapWorld os).heap.size - 2), 8, ((mapWorld os).heap.size - 1)] 12 (by kernel_rfl) (by kernel_rfl) (by kernel_rfl) (by kernel_rfl))).of_heap hw.symm
  kernel_rfl
/-- the call -/
theorem law_calls {W : World} (hL : laidMetH Tryz.prog Rows.chunkKnownRow.laid W) :
    Calls Tryz.prog 3 #[] W fun e W' => e = .returned (.bool true) ∧ W'.os = W.os ∧ W'.output = W.output ∧ ∀ i, i < W.heap.size → W'.heap[i]? = W.heap[i]? := by
  obtain ⟨σ, e, hs⟩ := start_of hL
  obtain ⟨fn, h1, h2, h3, _⟩ := fs_get 3 c3 (by kernel_rfl)
  obtain ⟨c, hc⟩ := Option.isSome_iff_exists.1 h3
  exact closed_true known_ok h1 h2 hc hs (begin_shut hs) (known e)
theorem own : ownKnob Tryz.prog.godebug = none := by kernel_rfl
theorem lifted (os : Os) (started : os.Started) (H : Type) (enc : TypeId × Value → H) :
    ReturnsInHanded {} Tryz.checked os 3 .any (fun w args => (Rows.chunkKnownSpec.pre enc Tryz.prog Tryz.f3 [] false w args ∧ laidMetH Tryz.prog Rows.chunkKnownRow.laid w) ∧ sizedMet enc Tryz.prog Tryz.f3 (OpenSpec.ofChange Rows.chunkKnownSpec) false w args)
      (Rows.chunkKnownSpec.post enc Tryz.prog Tryz.f3 false true false false) := by
  refine returnsInHanded_of_change_and (C := Tryz.checked) (X := fun w _ => laidMetH Tryz.prog Rows.chunkKnownRow.laid w) (fun _ _ _ hh h => h.of_heap hh) own started (by kernel_rfl) Tryz.func3
    (ChangeSpec.witness_shaped (enc := enc) (C := Tryz.checked) (os := os) (X := fun w _ => laidMetH Tryz.prog Rows.chunkKnownRow.laid w) false (laidWorld os) #[] 8 rfl
      (World.shaped_of_ZipB (by kernel_rfl) (by kernel_rfl)) (by kernel_rfl) (by kernel_rfl) (by kernel_rfl)
      (laid_met os _)) ?_
  intro W base args ds gs before _ hW _ _ hL _
  have hW' := hW
  obtain ⟨p, q, hA0, hV, rfl, _, _⟩ := hW
  have hA : DataW.TrodAll enc Tryz.prog W 0 (fun _ => true) true Tryz.f3.params.toList args.toList ds p := hA0
  rw [Tryz.params3] at hA
  obtain ⟨rfl, rfl, rfl⟩ := trodAll_none hA
  obtain ⟨rfl, rfl⟩ := trodVars_none hV
  refine (law_calls hL).mono fun e W' ⟨he, h1, h2, h3⟩ => ?_
  subst he
  refine ⟨_, rfl, [], [], _, [], [], [], hW', trodAll_mk1 (shut_bool Tryz.underlying4 _), ?_, rfl, kept_of_same h1 h2 h3, fun h => by cases h⟩
  show DataW.TrodAll enc Tryz.prog W' 0 _ true Tryz.f3.params.toList [] [] []
  rw [Tryz.params3]
  exact trodAll_mk0
end Go.Proofs.YtlnelphabohehaaGreatDoor
