/- The memory is kept: so the arguments read as they did. -/
import Derived.Test.YtlnelphabohehaaGreatDoorP6
import Derived.WideKeyArgs
import Derived.OpenShut
import Derived.ProofKit
set_option maxRecDepth 1000000
set_option maxHeartbeats 0
set_option linter.unusedVariables false
set_option linter.unusedSimpArgs false
namespace Go.AI
open Go Go.ChangeShapes Go.WideShapes Go.ChangeAt Go.RowKit
section
variable {H : Type} {enc : TypeId × Value → H} {P : Program}
theorem same_at {W W' : World} (h : ∀ i, i < W.heap.size → W'.heap[i]? = W.heap[i]?) {p : MemPlace} (hp : p.block < W.heap.size) : W.sameAt W' p := by
  cases p with
  | cell b off =>
    show W'.cell? ⟨b, off, none⟩ = W.cell? ⟨b, off, none⟩
    unfold World.cell?
    rw [h b hp]
  | map b => exact h b hp
theorem trodAll_kept (hl : laidOutB P = true) {W W' : World} {sp : Nat → Bool} (h : ∀ i, i < W.heap.size → W'.heap[i]? = W.heap[i]?) : ∀ {ts : List TypeId} {vs : List Value} {ds : List (DataW H)} {ps : List MemPlace},
    (∀ t ∈ ts, P.readableRec t = true ∧ t < P.types.size) → DataW.TrodAll enc P W 0 (fun _ => true) true ts vs ds ps → (∀ p ∈ ps, p.block < W.heap.size ∧ sp p.block = true) → DataW.TrodAll enc P W' 0 sp true ts vs ds ps
  | [], [], [], ps, _, ht, _ => ht
  | t :: ts, v :: vs, d :: ds, ps, hts, ht, hp => by
    obtain ⟨p, q, h1, h2, rfl⟩ := ht
    obtain ⟨r1, r2⟩ := hts t (List.mem_cons_self ..)
    refine ⟨p, q, WideElems.Trod_stays hl r1 r2 h1 (fun x hx => same_at h (hp x (List.mem_append.2 (.inl hx))).1) (fun x hx => (hp x (List.mem_append.2 (.inl hx))).2), ?_, rfl⟩
    exact trodAll_kept hl h (fun t ht => hts t (List.mem_cons_of_mem _ ht)) h2 fun x hx => hp x (List.mem_append.2 (.inr hx))
  | [], _ :: _, _, _, _, ht, _ => ht.elim
  | [], [], _ :: _, _, _, ht, _ => ht.elim
  | _ :: _, [], _, _, _, ht, _ => ht.elim
  | _ :: _, _ :: _, [], _, _, ht, _ => ht.elim
/-- a law that answers true, and leaves the memory as it was -/
theorem law_post {fn : Func} {s : ChangeSpec} {W W' : World} {args : Array Value} {ds gs : List (DataW H)} {before : List MemPlace} {tb : TypeId} (hl : laidOutB P = true) (hts : ∀ t ∈ fn.params.toList, P.readableRec t = true ∧ t < P.types.size)
    (hv : s.vars = []) (hr : fn.resultTypes = #[tb]) (htb : P.underlying tb = some .bool) (hW : DataW.Whole enc P fn.params.toList s.vars false W args.toList ds gs before)
    (hres : (s.fn H (ds ++ gs)).results = [.lit (.bool true)]) (hargs : (s.fn H (ds ++ gs)).args = ds) (hvars : (s.fn H (ds ++ gs)).vars = [])
    (h1 : W'.os = W.os) (h2 : W'.output = W.output) (h3 : ∀ i, i < W.heap.size → W'.heap[i]? = W.heap[i]?) : s.post enc P fn false true false false W args (.bool true) W' := by
  have hlt := hW.lt
  have hW' := hW
  obtain ⟨p, q, hA, hV, rfl, _, _⟩ := hW
  rw [hv] at hV
  obtain ⟨rfl, rfl⟩ := trodVars_none hV
  refine ⟨ds, [], p ++ [], [], p, [], hW', ?_, ?_, ?_, World.keptBut_mono (fun x hx => hx.elim) (kept_of_same (may := fun _ => False) h1 h2 h3), fun h => by cases h⟩
  · rw [hres, hr]
    exact trodAll_mk1 (shut_bool htb _)
  · rw [hargs]
    exact trodAll_kept hl h3 hts hA fun x hx => ⟨hlt x (by simpa using hx), by simpa using hlt x (by simpa using hx)⟩
  · rw [hvars, hv]
    rfl
end
end Go.AI
