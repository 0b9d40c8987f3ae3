/- The law TocKnown returns true: proved, under its row's condition. -/
import Derived.Test.YtaefnholoklhgaaGreatDoorSO
set_option linter.unusedVariables false
set_option linter.unusedSimpArgs false
set_option maxRecDepth 1000000
set_option maxHeartbeats 0
namespace Go.Proofs.YtaefnholoklhgaaGreatDoor
open Go.ChangeShapes Go.WideShapes Go.ChangeAt Go.RowKit Go.AI
/-- a world in which the listed maps stand -/
noncomputable def mapWorld (os : Os) : World := let w := World.holding Tryz.prog os ⟨#[], #[], []⟩; let n := w.heap.size
  { w with heap := ⟨Lay.setRows w.heap.toList [(0, [.map (some (n + 0))]), (3, [.map (some (n + 1))])] ++ [.map #[⟨.int .i64 1, .int .u8 53, 0⟩, ⟨.int .i64 2, .int .u8 48, 1⟩, ⟨.int .i64 3, .int .u8 50, 2⟩, ⟨.int .i64 4, .int .u8 54, 3⟩] 4, .map #[⟨.int .i64 1, .func (.func 369) #[] #[], 0⟩, ⟨.int .i64 2, .func (.func 370) #[] #[], 1⟩, ⟨.int .i64 3, .func (.func 371) #[] #[], 2⟩] 3]⟩ }
noncomputable abbrev great : List String := ["math/bits.deBruijn32tab", "math/bits.deBruijn64tab", "internal/strconv.uint64pow10", "unicode/utf8.acceptRanges", "strconv.ErrRange", "strconv.ErrSyntax", "portolan/toc.kinds", "unicode/utf8.first"]
noncomputable def laidWorld (os : Os) : World := (mapWorld os).layVars Tryz.prog (Rows.tocKnownRow.laid.filter fun x => great.contains x.1)
theorem laid_met (os : Os) (args : Array Value) : laidMetH Tryz.prog Rows.tocKnownRow.laid ((laidWorld os).forCall (fun _ _ => 0) ⟨#[], args, []⟩).memory := by
  have hw : ((laidWorld os).forCall (fun _ _ => 0) ⟨#[], args, []⟩).memory.heap = (laidWorld os).heap := by simp [World.memory, World.forCall, Input.heap]
  refine laidMetH_of_parts3 (fuel := 12) ?_ (by kernel_rfl) (by kernel_rfl)
  refine (laidMet_layVars (P := Tryz.prog) (laid := (Rows.tocKnownRow.laid.filter fun x => x.2.handleName?.isNone)) (w0 := mapWorld os) (w' := laidWorld os) great [0, ((mapWorld os).heap.size - 2)] ?_ (by kernel_rfl) (by kernel_rfl) (LaidIn.of_run [0, ((mapWorld os).heap.size - 2)] 12 (by kernel_rfl) (by kernel_rfl) (by kernel_rfl) (by kernel_rfl))).of_heap hw.symm
  kernel_rfl
/-- the call -/
theorem law_calls {W : World} (hL : laidMetH Tryz.prog Rows.tocKnownRow.laid W) :
    Calls Tryz.prog 4 #[] W fun e W' => e = .returned (.bool true) ∧ W'.os = W.os ∧ W'.output = W.output ∧ ∀ i, i < W.heap.size → W'.heap[i]? = W.heap[i]? := by
  obtain ⟨σ, e, hs⟩ := start_of hL
  obtain ⟨fn, h1, h2, h3, _⟩ := fs_get 4 c4 (by kernel_rfl)
  obtain ⟨c, hc⟩ := Option.isSome_iff_exists.1 h3
  exact closed_true known_ok h1 h2 hc hs (begin_shut hs) (known e)
theorem own : ownKnob Tryz.prog.godebug = none := by kernel_rfl
theorem lifted (os : Os) (started : os.Started) (H : Type) (enc : TypeId × Value → H) :
    ReturnsInHanded {} Tryz.checked os 4 .any (fun w args => (Rows.tocKnownSpec.pre enc Tryz.prog Tryz.f4 [] false w args ∧ laidMetH Tryz.prog Rows.tocKnownRow.laid w) ∧ sizedMet enc Tryz.prog Tryz.f4 (OpenSpec.ofChange Rows.tocKnownSpec) false w args)
      (Rows.tocKnownSpec.post enc Tryz.prog Tryz.f4 false true false false) := by
  refine returnsInHanded_of_change_and (C := Tryz.checked) (X := fun w _ => laidMetH Tryz.prog Rows.tocKnownRow.laid w) (fun _ _ _ hh h => h.of_heap hh) own started (by kernel_rfl) Tryz.func4
    (ChangeSpec.witness_shaped (enc := enc) (C := Tryz.checked) (os := os) (X := fun w _ => laidMetH Tryz.prog Rows.tocKnownRow.laid w) false (laidWorld os) #[] 8 rfl
      (World.shaped_of_ZipB (by kernel_rfl) (by kernel_rfl)) (by kernel_rfl) (by kernel_rfl) (by kernel_rfl)
      (laid_met os _)) ?_
  intro W base args ds gs before _ hW _ _ hL _
  have hW' := hW
  obtain ⟨p, q, hA0, hV, rfl, _, _⟩ := hW
  have hA : DataW.TrodAll enc Tryz.prog W 0 (fun _ => true) true Tryz.f4.params.toList args.toList ds p := hA0
  rw [Tryz.params4] at hA
  obtain ⟨rfl, rfl, rfl⟩ := trodAll_none hA
  obtain ⟨rfl, rfl⟩ := trodVars_none hV
  refine (law_calls hL).mono fun e W' ⟨he, h1, h2, h3⟩ => ?_
  subst he
  refine ⟨_, rfl, [], [], _, [], [], [], hW', trodAll_mk1 (shut_bool Tryz.underlying4 _), ?_, rfl, kept_of_same h1 h2 h3, fun h => by cases h⟩
  show DataW.TrodAll enc Tryz.prog W' 0 _ true Tryz.f4.params.toList [] [] []
  rw [Tryz.params4]
  exact trodAll_mk0
end Go.Proofs.YtaefnholoklhgaaGreatDoor
