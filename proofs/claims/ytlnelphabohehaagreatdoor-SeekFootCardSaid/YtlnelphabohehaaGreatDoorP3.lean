/- Every operation of the interpreter's does what the model's does: proved for every world that is told. -/
import Derived.Test.YtlnelphabohehaaGreatDoorP2
import Derived.Laws.BytesString
import Derived.Laws.Append
import Derived.Laws.StructEq
set_option maxRecDepth 1000000
set_option maxHeartbeats 0
set_option linter.unusedVariables false
set_option linter.unusedSimpArgs false
namespace Go.AI
open Go
noncomputable section
section
variable {P : Program} {σ : Mp} {H : Heap} {w : World} {tm : TM} {ρ : Operand → Value}
theorem mapB_eq : ∀ s : List UInt8, mapB s = s.map fun b => AV.int .u8 (.ofNat b.toNat)
  | [] => rfl
  | b :: s => by simp [mapB, mapB_eq s]
theorem mapB_rel (σ : Mp) : ∀ s : List UInt8, RelL σ (mapB s) (s.map fun b => Value.int .u8 b.toNat)
  | [] => relL_nil
  | b :: s => relL_cons (by simp [Rel]) (mapB_rel σ s)
theorem mapB_one (s : List UInt8) : ∀ v ∈ s.map (fun b => Value.int .u8 b.toNat), v.oneCell' = true := by
  intro v hv
  obtain ⟨b, _, rfl⟩ := List.mem_map.1 hv
  rfl
def byteI (n : Int) : UInt8 := UInt8.ofNat n.toNat
/-- the cells of bytes, read as a text -/
theorem good_toBytes {r : Result Next} {f : List UInt8 → OR} : ∀ (as : List AV) (vs : List Value), RelL σ as vs → (∀ ns : List Int, vs = ns.map (Value.int .u8) → Good P σ H w r (f (ns.map byteI))) → Good P σ H w r (toBytes f as)
  | [], vs, h, g => g [] (by rw [h.nil_inv]; rfl)
  | a :: as, vs, h, g => by
    obtain ⟨v, vs', h1, h2, rfl⟩ := h.cons_inv
    unfold toBytes
    split
    · rename_i n
      have h1 := rel_int h1
      subst h1
      exact good_toBytes as vs' h2 fun ns hs => g (.ofNat n :: ns) (by rw [hs]; rfl)
    · trivial
theorem fold_push : ∀ (ns : List Int) (s : ByteArray), ns.foldl (fun r n => r.push (UInt8.ofNat n.toNat)) s = ⟨(s.data.toList ++ ns.map byteI).toArray⟩
  | [], s => by
    apply ByteArray.ext
    apply Array.ext'
    simp
  | n :: ns, s => by
    rw [List.foldl_cons, fold_push ns]
    simp [byteI]
theorem Tr.drew (hs : Sim P σ H w) : Tr P σ H w σ H w.drew :=
  ⟨Ext.refl σ, ⟨hs.dom, hs.low, hs.alive, hs.inj, hs.glob, hs.ro⟩, Nat.le_refl _, fun _ _ _ => rfl, fun b l hw hl _ => ⟨b, l, hw, hl, rfl⟩, Nat.le_refl _, rfl, fun _ _ => rfl, rfl, rfl, rfl, fun _ _ h => ⟨rfl, h⟩⟩
theorem Sim.drew (hs : Sim P σ H w) : Sim P σ H w.drew := (Tr.drew hs).sim
theorem freeze_new (w : World) (c : Array Value) (e n : Nat) : (w.alloc (.cells c e)).freeze ⟨w.heap.size, n, none⟩ 1 = w.alloc (.cells c e (n, n + 1)) := by
  unfold World.freeze
  rw [if_neg (by decide)]
  have : (w.alloc (.cells c e)).heap.modify w.heap.size (fun
      | .cells c elem (lo, hi) => .cells c elem (if lo == hi then (n, n + 1) else (min lo n, max hi (n + 1)))
      | o => o) = (w.alloc (.cells c e (n, n + 1))).heap := by
    apply Array.ext_getElem?
    intro i
    rw [Array.getElem?_modify]
    by_cases h : w.heap.size = i
    · subst h; rw [if_pos rfl, heap_push_new, heap_push_new]; rfl
    · rw [if_neg h]
      by_cases h2 : i < w.heap.size
      · rw [heap_push_old h2, heap_push_old h2]
      · rw [Array.getElem?_eq_none (by simp; omega), Array.getElem?_eq_none (by simp; omega)]
  exact (congrArg (fun hp => ({ heap := hp, tape := w.tape, drawn := w.drawn, os := w.os, output := w.output } : World)) this).trans rfl
theorem freeze_fr {w : World} {g n : Nat} {cs : Array Value} {t : TypeId} {fr : Nat × Nat} (h : w.heap[g]? = some (.cells cs t fr)) (hf : fr.1 = fr.2) :
    Wrote w (w.freeze ⟨g, n, none⟩ 1) g (.cells cs t (n, n + 1)) := by
  obtain ⟨a, b⟩ := fr
  simp only at hf
  subst hf
  refine ⟨by simp [World.freeze], ?_, fun k hk => ?_, rfl, rfl, rfl⟩
  · simp only [World.freeze, Nat.one_ne_zero, if_false, Array.getElem?_modify]
    rw [h]; simp
  · simp only [World.freeze, Nat.one_ne_zero, if_false, Array.getElem?_modify]
    rw [if_neg (fun e => hk e.symm)]
theorem row_at {f : TypeId → Bool} {e count off n d : Nat} (h1 : 1 ≤ P.cellsOf e) (h2 : off % P.cellsOf e = 0) (h3 : off / P.cellsOf e + n ≤ count) (hf : f e = true) : rowAt P f (d + 1) e count off n = true := by
  unfold rowAt
  have q4 : ¬ (P.cellsOf e = 0) := by omega
  simp only [if_neg q4, h2, beq_self_eq_true, Bool.true_and, hf, Bool.and_true, decide_eq_true h3, Bool.true_or]
theorem same_self (d u : Nat) : sameLayout P (d + 1) u u = true := by unfold sameLayout; simp
theorem lies_at {e count off n : Nat} (h1 : 1 ≤ P.cellsOf e) (h2 : off % P.cellsOf e = 0) (h3 : off / P.cellsOf e + n ≤ count) : liesAt P P.depth e count off e n = true := by
  have hd : ∃ d, P.depth = d + 1 := ⟨2 * (P.types.size + Made.depth) + 1, rfl⟩
  obtain ⟨d, hd⟩ := hd
  rw [hd]
  unfold liesAt
  rw [hd, row_at (f := fun x => sameLayout P (d + 1) x e) h1 h2 h3 (same_self d e)]
  rfl
theorem choose_cap (need old e : Nat) (w : World) : ∃ k, (choose (.appendCap need old e)).run P w = .ok (need + k) w.drew := by
  refine ⟨w.tape w.drawn (.appendCap need old e) % (2 ^ 63 - need), ?_⟩
  simp [Question.forced, Question.cut]
theorem shape_of {w : World} {g : Nat} {cs : Array Value} {t : TypeId} {fr : Nat × Nat} (h : w.heap[g]? = some (.cells cs t fr)) : w.shape? g = some (t, cs.size) := by
  unfold World.shape?; rw [h]
theorem ok_convert (hs : Sim P σ H w) (hρ : Ops P σ tm ρ) {o : Oper} {s d : TypeId} {x : Operand} (ho : o.op = .convert s d x) : OpOk P σ H w tm ρ o := by
  unfold OpOk; rw [ho]
  refine good_onUnd fun ds hus => good_onUnd fun dd hud => ?_
  have h1 := hρ x
  have hr : ∀ {v : Value} {w' : World}, (convert s d (ρ x)).run P w = .ok v w' → (execOp ρ o).run P w = .ok (.value v) w' := fun h => by
    simp only [execOp, ho]; exact run_v h
  show Good P σ H w _ (convD P s d (argE P x) ds dd tm H)
  cases ds <;> cases dd <;> try exact trivial
  case int.int k1 k =>
    refine good_int fun j n hx => ?_
    rw [hx] at h1
    have h1 := rel_int h1
    refine good_valI hs (hr ?_)
    rw [h1]
    simp [convert, run_underlying hus, run_underlying hud, Conv.intToInt]
  case int.string k1 =>
    refine good_int fun j n hx => ?_
    rw [hx] at h1
    have h1 := rel_int h1
    refine good_val hs (x := .string (Utf8.encode n)) (hr ?_) (by simp [Rel])
    rw [h1]
    simp [convert, run_underlying hus, run_underlying hud, Conv.intToString]
  case string.string =>
    refine good_str fun t hx => ?_
    rw [hx] at h1
    have h0 := h1
    have h1 := rel_str h1
    refine good_val hs (x := ρ x) (hr ?_) h0
    rw [h1]
    simp [convert, run_underlying hus, run_underlying hud]
  case string.slice e =>
    refine good_onUnd fun de hue => good_tU8 fun hde => good_str fun t hx => ?_
    subst hde
    rw [hx] at h1
    have h1 := rel_str h1
    obtain ⟨k, hk⟩ := choose_cap (P := P) t.length 0 e w
    have hrun : (execOp ρ o).run P w = .ok (.value (.slice (some ⟨w.heap.size, 0, none⟩) t.length (t.length + k))) (w.drew.alloc (.cells ⟨t.map (fun b => Value.int .u8 b.toNat) ++ List.replicate k (.int .u8 0)⟩ e (t.length + k, t.length + k + 1))) := by
      refine hr ?_
      rw [h1]
      simp only [convert, Sem.run_bind, run_underlying hus, run_underlying hud, run_underlying hue, Result.andThen_ok, Conv.stringToBytes, size_mk, hk]
      have hc : ((t.toArray.map fun b => Value.int .u8 b.toNat) ++ Array.replicate (t.length + k - t.length) (Value.int .u8 0)) = ⟨t.map (fun b => Value.int .u8 b.toNat) ++ List.replicate k (.int .u8 0)⟩ := by
        apply Array.ext'
        simp
      simp only [hc, newRow, Sem.run_bind, run_newObj, Result.andThen_ok, World.alloc_eq, Sem.run_pure, markStringish, run_shape]
      have hsh : (w.drew.alloc (.cells ⟨t.map (fun b => Value.int .u8 b.toNat) ++ List.replicate k (.int .u8 0)⟩ e)).shape? w.drew.heap.size = some (e, t.length + k) := by
        unfold World.shape?
        rw [heap_push_new]
        simp
      simp only [hsh, run_freeze, Result.andThen_ok]
      rw [freeze_new]
      rfl
    refine good_new ((Tr.drew hs).trans (Tr.alloc hs.drew (.row ⟨e, 1, lenL t, T.ofList (mapB t), .unk, 0, true, true, false⟩) _ ⟨w.heap.size, 0, t.length + k, 1⟩ rfl ⟨_, _, rfl, ?_⟩)) hrun ?_
    · have hl : (mapB t).length = t.length := by rw [mapB_eq]; simp
      have := rowRel_new (σ := σ.put H.nx ⟨w.heap.size, 0, t.length + k, 1⟩) (e := e) (sz := 1) (tot := t.length + k) (sm := true) (exact := false) (blk := w.heap.size) (fr := (t.length + k, t.length + k + 1)) (rest := List.replicate k (.int .u8 0)) (mapB_rel _ t)
        (fun v hv => by
          rcases List.mem_append.1 hv with hv | hv
          · exact mapB_one t v hv
          · rw [List.eq_of_mem_replicate hv]; rfl) (Nat.le_refl _) (by rw [hl]; omega) (by simp) (fun h => by cases h) (by simp)
      have e1 : lenL (mapB t) = lenL t := by rw [lenL_eq, lenL_eq, hl]
      rw [e1] at this
      exact this
    · rw [lenL_eq]; exact rel_newSlice (l := ⟨w.heap.size, 0, t.length + k, 1⟩) rfl
  case slice.string e =>
    refine good_onUnd fun de hue => good_tU8 fun hde => ?_
    subst hde
    refine good_slice (fun hx => ?_) fun b off len cap hx => good_cond (fun hn => ?_) fun hn => good_row fun r hr' => good_if fun hle => ?_
    · rw [hx] at h1
      have h1 : ρ x = .slice none 0 0 := by simpa only [Rel] using h1
      refine good_val hs (x := .string .empty) (hr ?_) (by simp only [Rel]; rfl)
      rw [h1, run_convert_bytes_string w s d e none 0 0 hus hue hud]
      simp [Conv.bytesToString]
    · rw [hx] at h1
      obtain ⟨l, hl, e1⟩ := rel_slice h1
      rw [beq_nat] at hn
      have hn : len = 0 := of_decide_eq_true hn
      refine good_val hs (x := .string .empty) (hr ?_) (by simp only [Rel]; rfl)
      rw [e1, run_convert_bytes_string w s d e _ _ _ hus hue hud, run_bytesToString w _ _ _ [] (by rw [hn]; rfl)]
      rfl
    · rw [hx] at h1
      obtain ⟨l, hl, e1⟩ := rel_slice h1
      obtain ⟨cs, fr, hc, hrr⟩ := hs.row hr' hl
      rw [ble_nat] at hle
      have hle : off + len ≤ r.size := of_decide_eq_true hle
      obtain ⟨vs, h2, h3, h4, h5⟩ := loadN_rel hrr len off hle
      refine good_toBytes _ vs h2 fun ns hns => ?_
      have hload := run_loadCells' (P := P) hc vs (o := l.base + off) h4
      rw [h3, hns] at hload
      refine good_val hs (hr (v := .string ⟨(ns.map byteI).toArray⟩) ?_) (by simp [Rel])
      rw [e1, run_convert_bytes_string w s d e _ _ _ hus hue hud, run_bytesToString w _ _ _ ns hload, fold_push]
      simp
  case pointer.unsafePointer u =>
    refine good_onInfo fun i hi => good_condF (fun h3 => ?_) fun _ => good_bad
    rw [ble_nat] at h3
    have h3 : 1 ≤ i.size := of_decide_eq_true h3
    show Good P σ H w _ (oPtrU (argE P x) tm H)
    unfold oPtrU
    split
    · rename_i hx
      rw [hx] at h1
      have h1 : ρ x = .pointer none := by simpa only [Rel] using h1
      refine good_val hs (x := .pointer none) (hr ?_) (by simp [Rel])
      rw [h1]
      simp [convert, run_underlying hus, run_underlying hud, Conv.unsafePointer]
    · rename_i b off hx
      refine good_row fun r hr' => good_if fun hle => ?_
      rw [hx] at h1
      obtain ⟨l, hl, e1⟩ := rel_ptr h1
      obtain ⟨cs, fr, hc, hrr⟩ := hs.row hr' hl
      rw [ble_nat] at hle
      have hle : off + 1 ≤ r.size := of_decide_eq_true hle
      have q1 := hrr.fits
      have q2 := hrr.room
      refine good_val hs (hr ?_) (rel_ptr' hl)
      rw [e1]
      have hsh := shape_of hc
      simp only [convert, Sem.run_bind, run_underlying hus, run_underlying hud, Result.andThen_ok, Conv.unsafePointer, Conv.seenAt, viewAt, run_shape, hsh, Option.isSome_some, if_true, Sem.run_pure, cellsIn, size_info hi]
      have q3 : ¬ (l.base + off ≥ cs.size) := by omega
      have q4 : ¬ (i.size = 0) := by omega
      simp [q3, q4]
    · trivial
  case unsafePointer.pointer u =>
    refine good_onInfo fun i hi => good_condF (fun h3 => ?_) fun _ => good_bad
    rw [ble_nat] at h3
    have h3 : 1 ≤ i.size := of_decide_eq_true h3
    show Good P σ H w _ (oPtrP (argE P x) u i.size tm H)
    unfold oPtrP
    split
    · rename_i hx
      rw [hx] at h1
      have h1 : ρ x = .pointer none := by simpa only [Rel] using h1
      refine good_val hs (x := .pointer none) (hr ?_) (by simp [Rel])
      rw [h1]
      simp [convert, run_underlying hus, run_underlying hud, Conv.unsafePointer]
    · rename_i b off hx
      refine good_row fun r hr' => good_if fun hex => good_if fun hel => good_if fun h0 => good_if fun hle => ?_
      rw [hx] at h1
      obtain ⟨l, hl, e1⟩ := rel_ptr h1
      obtain ⟨cs, fr, hc, hrr⟩ := hs.row hr' hl
      rw [ble_nat] at hle
      rw [beq_nat] at hel h0
      have hle : i.size ≤ r.size := of_decide_eq_true hle
      have hel : r.elem = u := of_decide_eq_true hel
      have h0 : off = 0 := of_decide_eq_true h0
      obtain ⟨x1, x2, x3⟩ := hrr.exact hex
      refine good_val hs (hr ?_) (rel_ptr' hl)
      rw [e1]
      have hsh := shape_of hc
      have q4 : ¬ (i.size = 0) := by omega
      have hcell : P.cellsOf u = i.size := by simp [Program.cellsOf, hi]
      have hlies : liesAt P P.depth r.elem (cs.size / P.cellsOf r.elem) (l.base + off) u 1 = true := by
        rw [hel, hcell, x2, h0]
        refine lies_at (by rw [hcell]; omega) (by rw [hcell]; rfl) ?_
        rw [hcell, Nat.zero_div, Nat.zero_add, Nat.le_div_iff_mul_le (by omega)]; omega
      simp only [convert, Sem.run_bind, run_underlying hus, run_underlying hud, Result.andThen_ok, Conv.unsafePointer, Conv.seenAt, viewAt, run_shape, hsh, Option.isSome_some, if_true, Sem.run_pure, size_info hi, variablesAt, run_program, hlies]
      simp [hlies]
    · trivial
  case slice.slice e1 e2 =>
    refine good_condF (fun hsd => good_onUnd fun de hue => good_tU8 fun hde => ?_) fun _ => good_bad
    subst hde
    rw [beq_nat] at hsd
    have hsd : s = d := of_decide_eq_true hsd
    refine good_slice (fun _ => trivial) fun b off len cap hx => good_row fun r hr' => good_if fun hmay => good_if fun hfz => ?_
    have h0 := h1
    rw [hx] at h1
    obtain ⟨l, hl, e3⟩ := rel_slice h1
    obtain ⟨cs, fr, hc, hrr⟩ := hs.row hr' hl
    have hmay' : r.sm = false ∧ H.may r b = true := by
      cases hsm : r.sm with
      | true => rw [hsm] at hmay; cases hmay
      | false => rw [hsm] at hmay; exact ⟨rfl, hmay⟩
    obtain ⟨hwr, hown⟩ := Wr.of_may hmay'.2 hr'
    rw [beq_nat] at hfz
    have hfz : r.fz = 0 := of_decide_eq_true hfz
    have hfr : fr.1 = fr.2 := by
      rcases hrr.frs hown hmay'.1 with h | h
      · exact h
      · omega
    have hrun : (execOp ρ o).run P w = .ok (.value (ρ x)) (w.freeze ⟨l.blk, cs.size, none⟩ 1) := by
      refine hr ?_
      rw [e3]
      have hsd' : (s == d) = true := by simp [hsd]
      have hsh := shape_of hc
      simp only [convert, Sem.run_bind, run_underlying hus, run_underlying hud, run_underlying hue, Result.andThen_ok, hsd', markStringish, run_shape, hsh, run_freeze, Sem.run_pure]
    have hfz' := freeze_fr (n := cs.size) hc hfr
    refine good_new (Tr.write hs hr' hl hwr hfz'.size hfz'.new hfz'.old ⟨cs, _, rfl, ?_⟩ hfz'.tape hfz'.os hfz'.out) hrun (by rw [hx]; rw [hx] at h0; exact h0)
    have q1 := hrr.room
    refine ⟨hrr.sz, hrr.sz1, hrr.fits, hrr.room, hrr.exact, ?_, hrr.one, ?_, fun _ h => by cases h⟩
    · intro i hi
      exact hrr.cell i hi
    · intro _ i _ hi
      simp only
      omega
theorem run_builtin {o : Oper} {c : Call} {b : Builtin} (ho : o.op = .call c) (hc : c.callee = .builtin b) :
    ∃ cs, (execOp ρ o).run P w = (builtin b c.argTypes o.type cs (c.args.map ρ)).run P w := by
  refine ⟨c.args.map fun | .const _ => true | _ => false, ?_⟩
  simp only [execOp, ho, resolve, hc, Sem.run_bind, Sem.run_pure, Result.andThen_ok, invoke]
  rfl
theorem call_builtin {o : Oper} {xs : List Operand} {ts : List TypeId} {b : Builtin} (ho : o.op = .call ⟨.builtin b, ⟨xs⟩, ⟨ts⟩⟩)
    (h : ∀ cs, Good P σ H w ((builtin b ⟨ts⟩ o.type cs ⟨xs.map ρ⟩).run P w) (callB P b xs ts tm H)) : OpOk P σ H w tm ρ o := by
  unfold OpOk
  obtain ⟨cs, h2⟩ := run_builtin (P := P) (w := w) (ρ := ρ) ho rfl
  rw [h2, ho]
  have h3 := h cs
  have e : Array.map ρ ⟨xs⟩ = ⟨xs.map ρ⟩ := by simp
  show Good P σ H w ((builtin b ⟨ts⟩ o.type cs (Array.map ρ ⟨xs⟩)).run P w) (callB P b xs ts tm H)
  rw [e]; exact h3
theorem capOf_exact {r : Row} {l : Loc} {cs : Array Value} {fr : Nat × Nat} (hr : RowRel σ r l cs fr) (hex : r.exact = true) {o : Nat} (ho : o % l.sz = 0) : capOf r o none = l.tot - o / l.sz := by
  show cond (Nat.beq r.sz 1) (r.size - o) ((r.size - o) / r.sz) = _
  obtain ⟨h1, _, _⟩ := hr.exact hex
  have h2 := hr.sz
  have h3 := hr.sz1
  have key : (r.size - o) / l.sz = l.tot - o / l.sz := by
    have hd := Nat.div_add_mod o l.sz
    rw [ho, Nat.add_zero] at hd
    have e : r.size - o = (l.tot - o / l.sz) * l.sz := by rw [Nat.sub_mul, ← h1, Nat.mul_comm (o / l.sz), hd]
    rw [e, Nat.mul_div_cancel _ (by omega)]
  rw [beq_nat]
  by_cases e : r.sz = 1
  · rw [decide_eq_true e]
    have e2 : l.sz = 1 := by omega
    rw [e2] at key ⊢
    simpa using key
  · rw [decide_eq_false e, ← h2]; exact key
theorem run_objM {b : Nat} {es : Array MapEntry} {c : Nat} (h : w.heap[b]? = some (.map es c)) : (getObj b).run P w = .ok (.map es c) w := by simp [getObj, Sem.run, h]
theorem run_len {t : TypeId} {x : Value} {d : TypeDesc} {y : Value} {cs : Array Bool} {ty : TypeId} (hu : P.underlying t = some d) (h : (Builtin.len_ #[t] ty #[x]).run P w = .ok y w) :
    (builtin .len ⟨[t]⟩ ty cs ⟨[x]⟩).run P w = .ok (.value y) w := run_v h
theorem ok_len (hs : Sim P σ H w) (hρ : Ops P σ tm ρ) {o : Oper} {xs : List Operand} {ts : List TypeId} (ho : o.op = .call ⟨.builtin .len, ⟨xs⟩, ⟨ts⟩⟩) : OpOk P σ H w tm ρ o := by
  refine call_builtin ho fun cs => ?_
  rcases xs with _ | ⟨x, _ | ⟨_, _⟩⟩ <;> try exact trivial
  rcases ts with _ | ⟨t, _ | ⟨_, _⟩⟩ <;> try exact trivial
  refine good_onUnd fun d hu => ?_
  have g := hρ x
  cases d <;> try exact trivial
  case string =>
    refine good_str fun s hx => good_forceN ?_
    rw [hx] at g
    have g := rel_str g
    refine good_val hs (x := .int .i64 s.length) (run_len hu ?_) (by rw [lenL_eq]; simp [Rel])
    rw [g]
    simp [Builtin.len_, run_underlying hu, goInt, size_mk]
  case slice e =>
    refine good_slice (fun hx => ?_) fun b off n c hx => good_forceN ?_
    · rw [hx] at g
      have g : ρ x = .slice none 0 0 := by simpa only [Rel] using g
      refine good_val hs (x := .int .i64 0) (run_len hu ?_) (by simp [Rel])
      rw [g]
      simp [Builtin.len_, run_underlying hu, goInt]
    · rw [hx] at g
      obtain ⟨l, hl, e1⟩ := rel_slice g
      refine good_val hs (x := .int .i64 n) (run_len hu ?_) (by simp [Rel])
      rw [e1]
      simp [Builtin.len_, run_underlying hu, goInt]
  case map kt e =>
    refine good_map (fun hx => ?_) fun b hx => good_obj fun ob hob => ?_
    · rw [hx] at g
      have g : ρ x = .map none := by simpa only [Rel] using g
      refine good_val hs (x := .int .i64 0) (run_len hu ?_) (by simp [Rel])
      rw [g]
      simp [Builtin.len_, run_underlying hu, goInt]
    · rw [hx] at g
      have g : ∃ l, σ b = some l ∧ ρ x = .map (some l.blk) := by simpa only [Rel] using g
      obtain ⟨l, hl, e1⟩ := g
      cases ob <;> try exact trivial
      case map es clock =>
        obtain ⟨c, hc, ho'⟩ := hs.alive b _ l hob hl
        obtain ⟨ents, rfl, hr, _⟩ := ho'
        have hlen : es.length = ents.size := by
          have : ∀ (es : List Ent) (l : List MapEntry), EntsRel σ es l → es.length = l.length := by
            intro es
            induction es with
            | nil => intro l h; simp only [EntsRel] at h; subst h; rfl
            | cons a es ih => intro l h; simp only [EntsRel] at h; obtain ⟨e, es', _, h2, rfl⟩ := h; simp [ih _ h2]
          rw [this _ _ hr]; simp
        refine good_val hs (x := .int .i64 ents.size) (run_len hu ?_) (by rw [lenL_eq, hlen]; simp [Rel])
        rw [e1]
        simp [Builtin.len_, run_underlying hu, goInt, run_objM hc]
theorem ok_cap (hs : Sim P σ H w) (hρ : Ops P σ tm ρ) {o : Oper} {xs : List Operand} {ts : List TypeId} (ho : o.op = .call ⟨.builtin .cap, ⟨xs⟩, ⟨ts⟩⟩) : OpOk P σ H w tm ρ o := by
  refine call_builtin ho fun cs => ?_
  rcases xs with _ | ⟨x, _ | ⟨_, _⟩⟩ <;> try exact trivial
  rcases ts with _ | ⟨t, _ | ⟨_, _⟩⟩ <;> try exact trivial
  refine good_onUnd fun d hu => ?_
  have g := hρ x
  have hr : ∀ {y : Value}, (Builtin.cap_ #[t] o.type #[ρ x]).run P w = .ok y w → (builtin .cap ⟨[t]⟩ o.type cs ⟨[ρ x]⟩).run P w = .ok (.value y) w := fun h => run_v h
  cases d <;> try exact trivial
  case slice e =>
    refine good_slice (fun hx => ?_) fun b off n c hx => ?_
    · rw [hx] at g
      have g : ρ x = .slice none 0 0 := by simpa only [Rel] using g
      refine good_val hs (x := .int .i64 0) (hr ?_) (by simp [Rel])
      rw [g]
      simp [Builtin.cap_, run_underlying hu, goInt]
    · rw [hx] at g
      obtain ⟨l, hl, e1⟩ := rel_slice g
      cases c with
      | some c =>
        refine good_val hs (x := .int .i64 c) (hr ?_) (by simp [Rel])
        rw [e1]
        simp [Builtin.cap_, run_underlying hu, goInt]
      | none =>
        refine good_row fun r hr' => good_if fun hex => good_if fun hmod => ?_
        rw [beq_nat] at hmod
        have hmod : off % r.sz = 0 := of_decide_eq_true hmod
        obtain ⟨cs', fr, hc, hrr⟩ := hs.row hr' hl
        refine good_val hs (x := .int .i64 (l.tot - off / l.sz : Nat)) (hr ?_) ?_
        · rw [e1]
          simp [Builtin.cap_, run_underlying hu, goInt]
        · simp only [Rel]
          congr 1
          have := capOf_exact hrr hex (o := off) (by rw [hrr.sz]; exact hmod)
          simp [this]
theorem usd_nil (ts : Array TypeId) (t : TypeId) (n c : Nat) : Builtin.unsafeSliceData_ ts t #[.slice none n c] = pure (.pointer none) := rfl
theorem usd_some (ts : Array TypeId) (t : TypeId) (a : Addr) (n c : Nat) (h : c ≠ 0) : (Builtin.unsafeSliceData_ ts t #[.slice (some a) n c]).run P w = .ok (.pointer (some a)) w := by
  show (if c ≠ 0 then pure (Value.pointer (some a)) else _ : Sem Value).run P w = _
  rw [if_pos h]; rfl
theorem ok_usdata (hs : Sim P σ H w) (hρ : Ops P σ tm ρ) {o : Oper} {xs : List Operand} {ts : List TypeId} (ho : o.op = .call ⟨.builtin .unsafeSliceData, ⟨xs⟩, ⟨ts⟩⟩) : OpOk P σ H w tm ρ o := by
  refine call_builtin ho fun cs => ?_
  rcases xs with _ | ⟨x, _ | ⟨_, _⟩⟩ <;> try exact trivial
  have g := hρ x
  refine good_slice (fun hx => ?_) fun b off n c hx => ?_
  · rw [hx] at g
    have g : ρ x = .slice none 0 0 := by simpa only [Rel] using g
    refine good_val hs (x := .pointer none) ?_ (by simp [Rel])
    refine run_v ?_
    show (Builtin.unsafeSliceData_ ⟨ts⟩ o.type #[ρ x]).run P w = _
    rw [g]
    exact congrArg (fun s => s.run P w) (usd_nil _ _ _ _)
  · rw [hx] at g
    obtain ⟨l, hl, e1⟩ := rel_slice g
    have fin : c.getD (l.tot - off / l.sz) ≠ 0 → Good P σ H w ((builtin .unsafeSliceData ⟨ts⟩ o.type cs ⟨[ρ x]⟩).run P w) (.val (.ptr b off) H) := fun h => by
      refine good_val hs ?_ (rel_ptr' hl)
      refine run_v ?_
      show (Builtin.unsafeSliceData_ ⟨ts⟩ o.type #[ρ x]).run P w = _
      rw [e1]
      exact usd_some _ _ _ _ _ h
    cases c with
    | some c =>
      refine good_if fun h => fin ?_
      rw [ble_nat] at h
      have h : 1 ≤ c := of_decide_eq_true h
      simp only [Option.getD_some]; omega
    | none =>
      refine good_row fun r hr' => good_if fun h => fin ?_
      obtain ⟨cs', fr, hc, hrr⟩ := hs.row hr' hl
      rw [ble_nat] at h
      have h : off + 1 ≤ r.size := of_decide_eq_true h
      have h1 := hrr.fits
      have h2 := hrr.sz1
      simp only [Option.getD_none]
      have : off / l.sz < l.tot := by rw [Nat.div_lt_iff_lt_mul (by omega)]; omega
      omega
/-- a value with so many elements -/
def LenIs (v : AV) (m : Nat) : Prop := (v = .nils ∧ m = 0) ∨ (∃ b o c, v = .slice b o m c) ∨ ∃ s, v = .str s ∧ m = s.length
theorem good_lenA {r : Result Next} {v : AV} {k : Nat → OR} (h : ∀ m, LenIs v m → Good P σ H w r (k m)) : Good P σ H w r (lenA v k) := by
  unfold lenA
  split
  · exact h 0 (.inl ⟨rfl, rfl⟩)
  · exact h _ (.inr (.inl ⟨_, _, _, rfl⟩))
  · rw [lenL_eq]; exact h _ (.inr (.inr ⟨_, rfl, rfl⟩))
  · trivial
theorem run_lenOf {v : AV} {m : Nat} {x : Value} (h : LenIs v m) (hr : Rel σ v x) (w' : World) : (Builtin.lenOf x).run P w' = .ok m w' := by
  rcases h with ⟨rfl, rfl⟩ | ⟨b, o, c, rfl⟩ | ⟨s, rfl, rfl⟩
  · have : x = .slice none 0 0 := by simpa only [Rel] using hr
    rw [this]; rfl
  · obtain ⟨l, _, rfl⟩ := rel_slice hr; rfl
  · rw [rel_str hr]; simp [Builtin.lenOf, size_mk]
/-- the first elements of a value -/
structure First (P : Program) (σ : Mp) (w : World) (sz n : Nat) (x : Value) (as : List AV) (vs : List Value) : Prop where
  rel : RelL σ as vs
  one : ∀ u ∈ vs, u.oneCell' = true
  len : vs.length = n * sz
  run : ∀ w' : World, w'.heap = w.heap → (Builtin.firstCells sz n x).run P w' = .ok ⟨vs⟩ w'
theorem first_zero {v : AV} {x : Value} (hx : Rel σ v x) {sz m : Nat} (hm : LenIs v m) : First P σ w sz 0 x [] [] := by
  refine ⟨relL_nil, by simp, by simp, fun w' _ => ?_⟩
  rcases hm with ⟨rfl, rfl⟩ | ⟨b, o, c, rfl⟩ | ⟨s, rfl, rfl⟩
  · have : x = .slice none 0 0 := by simpa only [Rel] using hx
    rw [this]; rfl
  · obtain ⟨l, _, rfl⟩ := rel_slice hx
    simp only [Builtin.firstCells, Nat.zero_mul]; rfl
  · rw [rel_str hx]
    simp [Builtin.firstCells]
theorem good_contents {r : Result Next} (hs : Sim P σ H w) {v : AV} {x : Value} (hx : Rel σ v x) {sz n m : Nat} {k : List AV → OR} (hm : LenIs v m) (hn : n ≤ m)
    (h : ∀ as vs, First P σ w sz n x as vs → Good P σ H w r (k as)) : Good P σ H w r (contents H sz v n k) := by
  unfold contents
  refine good_cond (fun h0 => ?_) fun _ => ?_
  · rw [beq_nat] at h0
    have h0 : n = 0 := of_decide_eq_true h0
    subst h0
    exact h [] [] (first_zero hx hm)
  · rcases hm with ⟨rfl, rfl⟩ | ⟨b, o, c, rfl⟩ | ⟨s, rfl, rfl⟩
    · trivial
    · refine good_row fun rr hrr => good_if fun hle => ?_
      rw [ble_nat] at hle
      have hle : o + n * sz ≤ rr.size := of_decide_eq_true hle
      obtain ⟨l, hl, rfl⟩ := rel_slice hx
      obtain ⟨cs, fr, hc, hrow⟩ := hs.row hrr hl
      obtain ⟨vs, h2, h3, h4, h5⟩ := loadN_rel hrow (n * sz) o hle
      refine h _ vs ⟨h2, h5, h3, fun w' hw => ?_⟩
      have hc' : w'.heap[l.blk]? = some (.cells cs rr.elem fr) := by rw [hw]; exact hc
      have := run_loadCells' (P := P) hc' vs (o := l.base + o) h4
      rw [h3] at this
      exact this
    · refine good_if fun h1 => ?_
      rw [beq_nat] at h1
      have h1 : sz = 1 := of_decide_eq_true h1
      subst h1
      rw [takeB_eq]
      refine h _ _ ⟨mapB_rel σ _, mapB_one _, by simp; omega, fun w' _ => ?_⟩
      rw [rel_str hx]
      simp only [Builtin.firstCells, Sem.run_pure, Result.ok.injEq, and_true]
      apply Array.ext'
      simp [List.extract_eq_take_drop]
theorem minN_eq (a b : Nat) : minN a b = Nat.min a b := by
  unfold minN
  rw [ble_nat]
  by_cases h : a ≤ b
  · rw [decide_eq_true h]; exact (Nat.min_eq_left h).symm
  · rw [decide_eq_false h]; exact (Nat.min_eq_right (Nat.le_of_lt (Nat.lt_of_not_le h))).symm
theorem ok_copy (hs : Sim P σ H w) (hρ : Ops P σ tm ρ) {o : Oper} {xs : List Operand} {ts : List TypeId} (ho : o.op = .call ⟨.builtin .copy, ⟨xs⟩, ⟨ts⟩⟩) : OpOk P σ H w tm ρ o := by
  refine call_builtin ho fun cs => ?_
  rcases xs with _ | ⟨x, _ | ⟨y, _ | ⟨_, _⟩⟩⟩ <;> try exact trivial
  rcases ts with _ | ⟨t, _ | ⟨t2, _ | ⟨_, _⟩⟩⟩ <;> try exact trivial
  refine good_onUnd fun d hu => good_tSlice fun e hd => good_onInfo fun i hi => good_lenA fun sn hsn => ?_
  subst hd
  have g := hρ x
  have step : ∀ (base : Option Addr) (dn cp : Nat) (vs : List Value), ρ x = .slice base dn cp → (Builtin.firstCells i.size (Nat.min dn sn) (ρ y)).run P w = .ok ⟨vs⟩ w →
      (Builtin.copy_ ⟨[t, t2]⟩ o.type ⟨[ρ x, ρ y]⟩).run P w = (do (match base with | some a => storeCells a vs | none => pure ()); pure (goInt (Nat.min dn sn)) : Sem Value).run P w := by
    intro base dn cp vs e1 hr
    have hl := run_lenOf (P := P) hsn (hρ y) w
    rw [show Nat.min dn sn = Nat.min sn dn from Nat.min_comm _ _] at hr ⊢
    simp only [Builtin.copy_, List.getElem?_toArray, List.getElem?_cons_zero, List.getElem?_cons_succ, Sem.run_bind, run_underlying hu, Result.andThen_ok, e1, hl, size_info hi, hr]
    cases base with
    | none => rfl
    | some a => simp
  refine good_slice (fun hx => ?_) fun b off dn c hx => good_forceN ?_
  · rw [hx] at g
    have g : ρ x = .slice none 0 0 := by simpa only [Rel] using g
    refine good_val hs (x := .int .i64 0) ?_ (by simp [Rel])
    refine run_v ?_
    refine (step none 0 0 [] g ?_).trans ?_
    · rw [show Nat.min 0 sn = 0 from Nat.zero_min sn]
      exact (first_zero (w := w) (hρ y) hsn).run w rfl
    · rw [show Nat.min 0 sn = 0 from Nat.zero_min sn]; rfl
  · rw [minN_eq]
    have hmin : Nat.min dn sn ≤ sn := Nat.min_le_right _ _
    rw [hx] at g
    obtain ⟨l, hl, e1⟩ := rel_slice g
    refine good_contents hs (hρ y) hsn hmin fun as vs hf => good_cond (fun h0 => ?_) fun h0 => good_row fun r hr => good_if fun hmay => good_if fun hfz => good_if fun hle => ?_
    · rw [beq_nat] at h0
      have h0 : Nat.min dn sn = 0 := of_decide_eq_true h0
      have hv : vs = [] := by have := hf.len; rw [h0, Nat.zero_mul] at this; exact List.length_eq_zero_iff.1 this
      refine good_val hs (x := .int .i64 0) ?_ (by simp [Rel])
      refine run_v ?_
      refine (step _ _ _ vs e1 (hf.run w rfl)).trans ?_
      rw [hv, h0]
      simp [goInt, storeCells]
    · rw [ble_nat] at hfz hle
      have hfz : r.fz ≤ off := of_decide_eq_true hfz
      have hle : off + Nat.min dn sn * i.size ≤ r.size := of_decide_eq_true hle
      obtain ⟨w', hrun, htr⟩ := row_write hs hr hl hmay hf.rel hf.one (o := off) (by rw [hf.len]; exact hle) hfz
      refine good_new htr (x := .int .i64 (Nat.min dn sn : Nat)) ?_ (by simp [Rel])
      refine run_v ?_
      refine (step _ _ _ vs e1 (hf.run w rfl)).trans ?_
      simp [hrun, goInt]
def app (e : TypeId) (i : TypeInfo) (z : Value) (base : Option Addr) (sLen sCap n : Nat) (news : Sem (Array Value)) : Sem Value :=
  if sLen + n ≤ sCap then do
    let new ← news
    if let some a := base then storeCells (a.add (sLen * i.size)) new.toList
    pure (.slice base (sLen + n) sCap)
  else do
    let newCap ← choose (.appendCap (sLen + n) sCap e)
    let old ← Builtin.firstCells i.size sLen (.slice base sLen sCap)
    let new ← news
    let a ← newRow e (old ++ new ++ Builtin.zeroCells z.cells (newCap - (sLen + n)))
    pure (.slice (some a) (sLen + n) newCap)
/-- new cells of nothing -/
def newsN (i : TypeInfo) (z : Value) (n : Nat) : Sem (Array Value) := if n * i.size = 0 then pure #[] else pure (Builtin.zeroCells z.cells n)
theorem run_app {t u ty e : TypeId} {i : TypeInfo} {z x : Value} {d : TypeDesc} (ht : P.underlying t = some (.slice e)) (hu : P.underlying u = some d) (hd : ∀ k, d ≠ .int k) (hi : P.info? e = some i) (hz : i.zero = some z)
    {base : Option Addr} {sLen sCap n : Nat} (hn : (Builtin.lenOf x).run P w = .ok n w) (hb : 1 ≤ i.bytes) (hfit : (sLen + n) * i.bytes ≤ 140737488355328 ∨ sLen + n ≤ sCap) :
    (Builtin.append_ ⟨[t, u]⟩ ty ⟨[.slice base sLen sCap, x]⟩).run P w = (app e i z base sLen sCap n (Builtin.firstCells i.size n x)).run P w := by
  unfold app
  simp only [Builtin.append_, Sem.run_bind, List.getElem?_toArray, List.getElem?_cons_zero, List.getElem?_cons_succ, run_underlying ht, run_underlying hu, Result.andThen_ok, size_info hi, Sem.run_pure, Bool.false_eq_true, if_false, hn, Bool.not_false, if_true]
  by_cases h : sLen + n ≤ sCap
  · rw [if_pos h, if_pos h]
    simp only [Sem.run_bind]
    congr 1
  · rw [if_neg h, if_neg h]
    have h5 : sLen + n ≤ 140737488355328 := by
      rcases hfit with h1 | h1
      · exact Nat.le_trans (Nat.le_mul_of_pos_right _ hb) h1
      · exact absurd h1 h
    have h3 : Builtin.nextslicecap (sLen + n) sCap * i.bytes ≤ 281474976710656 := growslice_fits (Nat.lt_of_not_le h) (by rcases hfit with h1 | h1; exact h1; exact absurd h1 h)
    have h4 : ¬ (Builtin.nextslicecap (sLen + n) sCap * i.bytes > 2 ^ 48) := Nat.not_lt.2 h3
    have h6 : ¬ (((sLen + n : Nat) : Int) > IntKind.i64.max ∧ (False ∨ i.bytes = 0)) := fun q => by
      rcases q.2 with q | q
      · exact q
      · rw [q] at hb; exact absurd hb (by decide)
    have hti : ∀ w' : World, (typeInfo e).run P w' = .ok i w' := fun w' => by simp [typeInfo, hi]
    have hzv : ∀ w' : World, (zeroValue e).run P w' = .ok z w' := fun w' => run_zeroV hi hz
    simp only [Sem.run_bind, hti, hzv, run_askRoom, Result.andThen_ok, if_neg h6, if_neg h4, Sem.run_pure]
theorem run_appN {t u ty e : TypeId} {i : TypeInfo} {z : Value} {k k' : IntKind} (ht : P.underlying t = some (.slice e)) (hu : P.underlying u = some (.int k)) (hi : P.info? e = some i) (hz : i.zero = some z)
    {base : Option Addr} {sLen sCap n : Nat} (hb : 1 ≤ i.bytes) (hn : n * i.bytes ≤ 140737488355328) (hfit : (sLen + n) * i.bytes ≤ 140737488355328 ∨ sLen + n ≤ sCap) :
    (Builtin.append_ ⟨[t, u]⟩ ty ⟨[.slice base sLen sCap, .int k' (n : Nat)]⟩).run P w = (app e i z base sLen sCap n (newsN i z n)).run P w := by
  unfold app newsN
  have hn1 : n ≤ 140737488355328 := Nat.le_trans (Nat.le_mul_of_pos_right _ hb) hn
  have hw : IntKind.i64.wrap (n : Int) = n := by
    exact wrap64_id (by omega) (by omega)
  have hti : ∀ w' : World, (typeInfo e).run P w' = .ok i w' := fun w' => by simp [typeInfo, hi]
  have hzv : ∀ w' : World, (zeroValue e).run P w' = .ok z w' := fun w' => run_zeroV hi hz
  have q1 : ¬ ((n : Int) < 0) := by omega
  have q2 : ¬ ((n : Int) * (i.bytes : Int) > 2 ^ 48) := by
    have h7 : ((n * i.bytes : Nat) : Int) ≤ ((140737488355328 : Nat) : Int) := Int.ofNat_le.2 hn
    rw [Int.natCast_mul] at h7
    have h8 : (2 : Int) ^ 48 = 281474976710656 := by decide
    rw [h8]
    omega
  simp only [Builtin.append_, Sem.run_bind, List.getElem?_toArray, List.getElem?_cons_zero, List.getElem?_cons_succ, run_underlying ht, run_underlying hu, Result.andThen_ok, size_info hi, Sem.run_pure, if_true, asInt, asIntOf, hw, if_neg q1, hti, if_neg q2, Int.toNat_natCast, Bool.not_true, Bool.false_eq_true, if_false]
  by_cases h : sLen + n ≤ sCap
  · rw [if_pos h, if_pos h]
    simp only [Sem.run_bind]
    by_cases h0 : n * i.size = 0
    · rw [if_pos h0, if_pos h0]
      cases base <;> rfl
    · rw [if_neg h0, if_neg h0]
      simp only [Sem.run_bind, hzv, Result.andThen_ok, Sem.run_pure]
      cases base <;> rfl
  · rw [if_neg h, if_neg h]
    have h5 : sLen + n ≤ 140737488355328 := by
      rcases hfit with h1 | h1
      · exact Nat.le_trans (Nat.le_mul_of_pos_right _ hb) h1
      · exact absurd h1 h
    have h3 : Builtin.nextslicecap (sLen + n) sCap * i.bytes ≤ 281474976710656 := growslice_fits (Nat.lt_of_not_le h) (by rcases hfit with h1 | h1; exact h1; exact absurd h1 h)
    have h4 : ¬ (Builtin.nextslicecap (sLen + n) sCap * i.bytes > 2 ^ 48) := Nat.not_lt.2 h3
    have h6 : ¬ (((sLen + n : Nat) : Int) > IntKind.i64.max ∧ (True ∨ i.bytes = 0)) := fun q => by
      have h7 := q.1
      have h8 : IntKind.i64.max = 9223372036854775807 := by decide
      rw [h8] at h7
      omega
    by_cases h0 : n * i.size = 0
    · simp only [Sem.run_bind, hti, hzv, run_askRoom, Result.andThen_ok, if_neg h6, if_neg h4, Sem.run_pure, if_pos h0]
    · simp only [Sem.run_bind, hti, hzv, run_askRoom, Result.andThen_ok, if_neg h6, if_neg h4, Sem.run_pure, if_neg h0]
/-- a block is no more told of -/
theorem Tr.del (hs : Sim P σ H w) {b : Nat} {lb : Loc} (hlb : σ b = some lb) (hb : H.ro ≤ b) : Tr P σ H w σ ⟨H.nx, H.t.del b, H.ro⟩ w := by
  have g : ∀ c o, (H.t.del b).get c = some o → H.t.get c = some o := by
    intro c o h
    rw [T.get_del] at h
    by_cases e : b = c
    · rw [if_pos e] at h; cases h
    · rw [if_neg e] at h; exact h
  refine ⟨Ext.refl σ, ⟨hs.dom, fun c o h => hs.low c o (g c o h), fun c o l h hl => hs.alive c o l (g c o h) hl, fun c c' o o' l l' h h' => hs.inj c c' o o' l l' (g _ _ h) (g _ _ h'), hs.glob, hs.ro⟩, Nat.le_refl _, fun _ _ _ => rfl, ?_, Nat.le_refl _, rfl, ?_, rfl, rfl, rfl, fun c _ hn => ⟨by show (H.t.del b).get c = H.t.get c; rw [T.get_del, if_neg (fun e => by subst e; rw [hlb] at hn; cases hn)], hn⟩⟩
  · intro c l hw hl _
    obtain ⟨h1, o, h2, h3⟩ := hw
    exact ⟨c, l, ⟨h1, o, g c o h2, h3⟩, hl, rfl⟩
  · intro c hc
    show (H.t.del b).get c = H.t.get c
    have hc : c < H.ro := hc
    rw [T.get_del, if_neg (by omega)]
/-- A block that may be written is written, and told of by another number -/
theorem Tr.move {w' : World} (h : Sim P σ H w) {b : Nat} {o o' : Obj} {l : Loc} {c' : Go.Obj}
    (hb : H.t.get b = some o) (hl : σ b = some l) (hw : Wr H b)
    (hsize : w'.heap.size = w.heap.size) (hnew : w'.heap[l.blk]? = some c') (hold : ∀ k, k ≠ l.blk → w'.heap[k]? = w.heap[k]?)
    (ho : ObjRel (σ.put H.nx l) o' l c') (ht : w'.tape = w.tape) (hos : w'.os = w.os) (hout : w'.output = w.output) :
    Tr P σ H w (σ.put H.nx l) ⟨Nat.succ H.nx, (H.t.del b).set H.nx o', H.ro⟩ w' := by
  have hlt : b < H.nx := h.dom b l hl
  have hro := h.ro
  have hext : Ext σ (σ.put H.nx l) := Mp.put_ext l (h.fresh (Nat.le_refl _))
  have get : ∀ c x, ((H.t.del b).set H.nx o').get c = some x → (c = H.nx ∧ x = o') ∨ (c ≠ H.nx ∧ c ≠ b ∧ H.t.get c = some x) := by
    intro c x hx
    rw [T.get_set] at hx
    by_cases e : H.nx = c
    · rw [if_pos e] at hx; cases hx; exact .inl ⟨e.symm, rfl⟩
    · rw [if_neg e, T.get_del] at hx
      by_cases e2 : b = c
      · rw [if_pos e2] at hx; cases hx
      · rw [if_neg e2] at hx; exact .inr ⟨fun z => e z.symm, fun z => e2 z.symm, hx⟩
  refine ⟨hext, ⟨?_, ?_, ?_, ?_, ?_, ?_⟩, by omega, ?_, ?_, Nat.le_succ _, rfl, ?_, ht, hos, hout, fun c hc hn => ⟨by show ((H.t.del b).set H.nx o').get c = H.t.get c; rw [T.get_set, if_neg (by omega), T.get_del, if_neg (fun e => by subst e; rw [hl] at hn; cases hn)], by unfold Mp.put; rw [if_neg (by omega)]; exact hn⟩⟩
  · intro c m hm
    show c < H.nx + 1
    unfold Mp.put at hm
    by_cases e : c = H.nx
    · omega
    · rw [if_neg e] at hm; have := h.dom c m hm; omega
  · intro c x hx
    show c < H.nx + 1
    rcases get c x hx with ⟨rfl, _⟩ | ⟨h1, h2, h3⟩
    · omega
    · have := h.low c x h3; omega
  · intro c x l1 hx hl1
    rcases get c x hx with ⟨rfl, rfl⟩ | ⟨h1, h2, h3⟩
    · rw [Mp.put_same] at hl1; cases hl1
      exact ⟨c', hnew, ho⟩
    · rw [Mp.put_old h1] at hl1
      obtain ⟨c1, hc1, hr⟩ := h.alive c x l1 h3 hl1
      refine ⟨c1, ?_, hr.mono hext⟩
      rw [hold l1.blk ?_]; exact hc1
      intro e
      exact h2 (h.alone h3 hb hl1 hl e fun s => hw.hard hb s.2)
  · intro c1 c2 x1 x2 l1 l2 h1 h2 k1 k2 e
    rcases get c1 x1 h1 with ⟨rfl, rfl⟩ | ⟨p1, p2, p3⟩ <;> rcases get c2 x2 h2 with ⟨q0, rfl⟩ | ⟨q1, q2, q3⟩
    · exact .inl q0.symm
    · exfalso
      rw [Mp.put_same] at k1; cases k1
      rw [Mp.put_old q1] at k2
      exact q2 (h.alone q3 hb k2 hl e.symm fun s => hw.hard hb s.2)
    · exfalso
      rw [q0, Mp.put_same] at k2; cases k2
      rw [Mp.put_old p1] at k1
      exact p2 (h.alone p3 hb k1 hl e fun s => hw.hard hb s.2)
    · rw [Mp.put_old p1] at k1
      rw [Mp.put_old q1] at k2
      exact h.inj c1 c2 x1 x2 l1 l2 p3 q3 k1 k2 e
  · intro g hg
    obtain ⟨lg, h1, h2⟩ := h.glob g hg
    exact ⟨lg, hext g lg h1, h2⟩
  · show H.ro ≤ H.nx + 1; omega
  · intro k hk hn
    exact hold k fun e => hn b l hw hl e.symm
  · intro c m hwc hlc hlt'
    obtain ⟨r1, x, r2, r3⟩ := hwc
    rcases get c x r2 with ⟨rfl, rfl⟩ | ⟨p1, p2, p3⟩
    · rw [Mp.put_same] at hlc; cases hlc
      exact ⟨b, l, hw, hl, rfl⟩
    · rw [Mp.put_old p1] at hlc
      exact ⟨c, m, ⟨r1, x, p3, r3⟩, hlc, rfl⟩
  · intro c hc
    have hc : c < H.ro := hc
    show ((H.t.del b).set H.nx o').get c = H.t.get c
    rw [T.get_set, if_neg (by omega), T.get_del, if_neg (by have := hw.1; omega)]
theorem zeros_cells {z : Array Value} (hone : ∀ v ∈ z.toList, v.oneCell' = true) (k : Nat) : (Builtin.zeroCells z k).size = k * z.size ∧ ∀ v ∈ (Builtin.zeroCells z k).toList, v.oneCell' = true := by
  constructor
  · simp [Builtin.zeroCells]
  · intro v hv
    simp only [Builtin.zeroCells, Array.toList_map, Array.toList_range, List.mem_map, List.mem_range] at hv
    obtain ⟨i, hi, rfl⟩ := hv
    have hz : 0 < z.size := by
      rcases Nat.eq_zero_or_pos z.size with h | h
      · rw [h, Nat.mul_zero] at hi; omega
      · exact h
    rw [getElem!_pos z _ (Nat.mod_lt _ hz)]
    exact hone _ (Array.getElem_mem_toList _)
theorem app_new {e : TypeId} {i : TypeInfo} {z : Value} {base : Option Addr} {sLen sCap n : Nat} {news : Sem (Array Value)} {vo vn : List Value}
    (hone : ∀ v ∈ z.cells.toList, v.oneCell' = true) (hg : ¬ (sLen + n ≤ sCap))
    (ho : ∀ w' : World, w'.heap = w.heap → (Builtin.firstCells i.size sLen (.slice base sLen sCap)).run P w' = .ok ⟨vo⟩ w') (hn : ∀ w' : World, w'.heap = w.heap → news.run P w' = .ok ⟨vn⟩ w') :
    ∃ k rest, (app e i z base sLen sCap n news).run P w = .ok (.slice (some ⟨w.heap.size, 0, none⟩) (sLen + n) (sLen + n + k)) (w.drew.alloc (.cells ⟨(vo ++ vn) ++ rest⟩ e)) ∧
      rest.length = k * z.cells.size ∧ ∀ v ∈ rest, v.oneCell' = true := by
  obtain ⟨k, hk⟩ := choose_cap (P := P) (sLen + n) sCap e w
  obtain ⟨h1, h2⟩ := zeros_cells hone k
  refine ⟨k, (Builtin.zeroCells z.cells k).toList, ?_, by simpa using h1, h2⟩
  unfold app
  rw [if_neg hg]
  simp only [Sem.run_bind, hk, Result.andThen_ok, ho w.drew rfl, hn w.drew rfl, Nat.add_sub_cancel_left, newRow, run_newObj, Sem.run_pure, World.alloc_eq]
  congr 3
  have e1 : (⟨vo⟩ : Array Value) ++ ⟨vn⟩ ++ Builtin.zeroCells z.cells k = ⟨(vo ++ vn) ++ (Builtin.zeroCells z.cells k).toList⟩ := by
    apply Array.ext'
    simp
  rw [e1]
/-- a new row that holds olds and news -/
theorem good_appNew {r : Result Next} (hs : Sim P σ H w) {e sz need k : Nat} {as : List AV} {vs rest : List Value} (hr : r = .ok (.value (.slice (some ⟨w.heap.size, 0, none⟩) need (need + k))) (w.drew.alloc (.cells ⟨vs ++ rest⟩ e)))
    (hrel : RelL σ as vs) (hone : ∀ v ∈ vs, v.oneCell' = true) (hrest : ∀ v ∈ rest, v.oneCell' = true) (hsz : 1 ≤ sz) (hlen : vs.length = need * sz) (hrl : rest.length = k * sz) :
    Good P σ H w r (.val (.slice H.nx 0 need none) (H.newRow e sz as false)) := by
  have hl := hrel.length
  refine good_new ((Tr.drew hs).trans (Tr.alloc hs.drew _ _ ⟨w.heap.size, 0, need + k, sz⟩ rfl ⟨_, (0, 0), rfl, ?_⟩)) hr (rel_newSlice (l := ⟨w.heap.size, 0, need + k, sz⟩) rfl)
  refine rowRel_new (hrel.mono (Mp.put_ext _ (hs.drew.fresh (Nat.le_refl _)))) (fun v hv => ?_) hsz ?_ ?_ (fun h => by cases h) rfl
  · rcases List.mem_append.1 hv with hv | hv
    · exact hone v hv
    · exact hrest v hv
  · rw [hl, hlen, Nat.add_mul]; omega
  · rw [List.length_append, hlen, hrl, Nat.add_mul]; omega
theorem loadN_get (r : Row) : ∀ (n o j : Nat), j < n → (loadN r o n)[j]? = some (r.get (o + j))
  | 0, o, j, h => by omega
  | n + 1, o, 0, _ => rfl
  | n + 1, o, j + 1, h => by
    show (loadN r (o + 1) n)[j]? = _
    rw [loadN_get r n (o + 1) j (by omega)]
    congr 2; omega
theorem stored_get (r : Row) (sz size o : Nat) (as : List AV) {j : Nat} (hj : j < o + as.length) :
    (j < o ∧ (⟨r.elem, sz, size, storeN r.cells o as, r.dflt, r.fz, r.sm, true, false⟩ : Row).get j = r.get j) ∨
    (∃ a, o ≤ j ∧ as[j - o]? = some a ∧ (⟨r.elem, sz, size, storeN r.cells o as, r.dflt, r.fz, r.sm, true, false⟩ : Row).get j = a) := by
  by_cases h : j < o
  · refine .inl ⟨h, ?_⟩
    rw [Row.get_eq, Row.get_eq]
    show ((storeN r.cells o as).get j).getD r.dflt = _
    rw [storeN_get, if_neg (by omega)]
  · refine .inr ⟨as[j - o]'(by omega), by omega, List.getElem?_eq_getElem (by omega), ?_⟩
    rw [Row.get_eq]
    show ((storeN r.cells o as).get j).getD r.dflt = _
    rw [storeN_get, if_pos (by omega), List.getElem?_eq_getElem (by omega)]
    rfl
/-- new cells -/
structure News (P : Program) (σ : Mp) (w : World) (sz n : Nat) (news : Sem (Array Value)) (as : List AV) (vs : List Value) : Prop where
  rel : RelL σ as vs
  one : ∀ u ∈ vs, u.oneCell' = true
  len : vs.length = n * sz
  run : ∀ w' : World, w'.heap = w.heap → news.run P w' = .ok ⟨vs⟩ w'
theorem good_appX (hs : Sim P σ H w) {va : AV} {x : Value} (g : Rel σ va x) {e n : Nat} {i : TypeInfo} {z : Value} {news : Sem (Array Value)} {as : List AV} {vs : List Value} {q : Result Next}
    (hsz : 1 ≤ i.size) (hzone : ∀ v ∈ z.cells.toList, v.oneCell' = true) (hzsize : z.cells.size = i.size) (hf : News P σ w i.size n news as vs)
    (run : ∀ {base : Option Addr} {sLen sCap : Nat} {v : Value} {w' : World}, x = .slice base sLen sCap → ((sLen + n) * i.bytes ≤ 140737488355328 ∨ sLen + n ≤ sCap) → (app e i z base sLen sCap n news).run P w = .ok v w' → q = .ok (.value v) w') :
    Good P σ H w q (appX va e i.size i.bytes H n as) := by
  refine good_slice (fun hx => ?_) fun b off len cap hx => ?_
  · rw [hx] at g
    have g : x = .slice none 0 0 := by simpa only [Rel] using g
    refine good_cond (fun h0 => ?_) fun h0 => good_if fun hfit => ?_
    · rw [beq_nat] at h0
      have h0 : n = 0 := of_decide_eq_true h0
      subst h0
      refine good_val hs (x := .slice none 0 0) (run g (.inr (Nat.le_refl _)) ?_) (by simp [Rel])
      simp [app, hf.run w rfl]
    · rw [beq_nat] at h0
      rw [ble_nat] at hfit
      have h0 : n ≠ 0 := of_decide_eq_false h0
      have hfit : n * i.bytes ≤ 140737488355328 := of_decide_eq_true hfit
      obtain ⟨k, rest, k1, k2, k3⟩ := app_new (P := P) (w := w) (e := e) (i := i) (z := z) (base := none) (sLen := 0) (sCap := 0) (n := n) (vo := []) (vn := vs) hzone (by omega) (fun w' _ => by rfl) hf.run
      rw [Nat.zero_add] at k1
      exact good_appNew hs (run g (.inl (by rw [Nat.zero_add]; exact hfit)) k1) hf.rel hf.one k3 hsz hf.len (by rw [k2, hzsize])
  · rw [hx] at g
    have g0 := g
    obtain ⟨l, hl, e1⟩ := rel_slice g
    refine good_row fun r hr => good_if fun hszok => ?_
    obtain ⟨cs', fr, hc, hrr⟩ := hs.row hr hl
    have hcap := capOf_le hrr off cap
    refine good_cond (fun hin => ?_) fun hout => ?_
    · rw [ble_nat] at hin
      have hin : len + n ≤ capOf r off cap := of_decide_eq_true hin
      have hin' : len + n ≤ cap.getD (l.tot - off / l.sz) := Nat.le_trans hin hcap
      refine good_cond (fun h0 => ?_) fun h0 => good_if fun hmay => good_if fun hle => good_if fun hfz => ?_
      · rw [beq_nat] at h0
        have h0 : n = 0 := of_decide_eq_true h0
        subst h0
        have hv : vs = [] := by have := hf.len; rw [Nat.zero_mul] at this; exact List.length_eq_zero_iff.1 this
        refine good_val hs (x := x) (run e1 (.inr hin') ?_) (by rw [hx]; exact g0)
        simp only [app, if_pos hin', Sem.run_bind, hf.run w rfl, Result.andThen_ok, hv]
        rw [e1]
        simp [storeCells]
      · rw [ble_nat] at hle hfz
        have hle : off + (len + n) * i.size ≤ r.size := of_decide_eq_true hle
        have hfz : r.fz ≤ off + len * i.size := of_decide_eq_true hfz
        obtain ⟨w', hrun, htr⟩ := row_write hs hr hl hmay hf.rel hf.one (o := off + len * i.size) (by rw [hf.len]; rw [Nat.add_mul] at hle; omega) hfz
        refine good_new htr (run e1 (.inr hin') ?_) (rel_slice' hl)
        simp only [app, if_pos hin', Sem.run_bind, hf.run w rfl, Result.andThen_ok, add_addr]
        rw [Nat.add_assoc, hrun]
        rfl
    · rw [ble_nat] at hout
      have hout : ¬ (len + n ≤ capOf r off cap) := of_decide_eq_false hout
      refine good_if fun hfit => good_if fun hle => ?_
      rw [ble_nat] at hfit hle
      have hfit : (len + n) * i.bytes ≤ 140737488355328 := of_decide_eq_true hfit
      have hle : off + len * i.size ≤ r.size := of_decide_eq_true hle
      obtain ⟨vo, o2, o3, o4, o5⟩ := loadN_rel hrr (len * i.size) off hle
      have hfo : ∀ c, ∀ w' : World, w'.heap = w.heap → (Builtin.firstCells i.size len (.slice (some ⟨l.blk, l.base + off, none⟩) len c)).run P w' = .ok ⟨vo⟩ w' := by
        intro c w' hw
        have hc' : w'.heap[l.blk]? = some (.cells cs' r.elem fr) := by rw [hw]; exact hc
        have := run_loadCells' (P := P) hc' vo (o := l.base + off) o4
        rw [o3] at this
        exact this
      have grown : ¬ (len + n ≤ cap.getD (l.tot - off / l.sz)) → Good P σ H w q (.val (.slice H.nx 0 (len + n) none) (H.newRow e i.size (loadN r off (len * i.size) ++ as) false)) := by
        intro hg
        obtain ⟨k, rest, k1, k2, k3⟩ := app_new (P := P) (w := w) (e := e) (i := i) (z := z) hzone hg (hfo _) hf.run
        refine good_appNew hs (run e1 (.inl hfit) k1) (o2.append hf.rel) (fun v hv => ?_) k3 hsz (by rw [List.length_append, o3, hf.len, Nat.add_mul]) (by rw [k2, hzsize])
        rcases List.mem_append.1 hv with hv | hv
        · exact o5 v hv
        · exact hf.one v hv
      cases cap with
      | some c => exact grown hout
      | none =>
        have hszr : r.sz = i.size := by
          have : Nat.beq r.sz i.size = true := hszok
          rw [beq_nat] at this
          exact of_decide_eq_true this
        refine good_cond (fun hex => good_if fun hmod => ?_) fun hex => ?_
        · rw [beq_nat] at hmod
          have hmod : off % i.size = 0 := of_decide_eq_true hmod
          refine grown ?_
          rw [capOf_exact hrr hex (by rw [hrr.sz, hszr]; exact hmod)] at hout
          exact hout
        · refine good_if fun hel => good_if fun hmay => good_if fun hfz => good_if fun hsize => good_if fun h0 => ?_
          rw [beq_nat] at hel hsize h0
          rw [ble_nat] at hfz
          have hel : r.elem = e := of_decide_eq_true hel
          have hsize : len * i.size = r.size := of_decide_eq_true hsize
          have h0 : off = 0 := of_decide_eq_true h0
          have hfz : r.fz ≤ len * i.size := of_decide_eq_true hfz
          subst h0
          obtain ⟨hwr, hown⟩ := Wr.of_may hmay hr
          have hlsz : l.sz = i.size := by rw [hrr.sz, hszr]
          have hal : as.length = n * i.size := by rw [hf.rel.length]; exact hf.len
          have hvl := hf.len
          have hsum : (len + n) * i.size = len * i.size + n * i.size := Nat.add_mul _ _ _
          have hcell := fun j (hj : j < len * i.size + as.length) => stored_get r i.size ((len + n) * i.size) (len * i.size) as hj
          by_cases hin : len + n ≤ l.tot
          · have hin' : len + n ≤ (none : Option Nat).getD (l.tot - 0 / l.sz) := by rw [Nat.zero_div]; exact hin
            have hmul : (len + n) * i.size ≤ l.tot * i.size := Nat.mul_le_mul_right _ hin
            have q1 := hrr.room
            rw [hlsz] at q1
            obtain ⟨w', hrun, hw⟩ := run_storeCells' (P := P) (o := l.base + len * i.size) vs 0 w cs' hc (by omega) hf.one (fun j hj => by
              have := hrr.frz hown (len * i.size + j) (by omega) (by rw [hlsz]; omega)
              rwa [show l.base + len * i.size + 0 + j = l.base + (len * i.size + j) by omega])
            refine good_new (Tr.move hs hr hl hwr hw.size hw.new hw.old ⟨_, fr, rfl, ?_⟩ hw.tape hw.os hw.out) (run e1 (.inr hin') ?_) (by simp only [Rel]; exact ⟨l, Mp.put_same _ _ _, rfl⟩)
            · have ext := Mp.put_ext l (hs.fresh (Nat.le_refl H.nx))
              refine ⟨hlsz, by omega, by rw [hlsz]; exact hmul, by rw [writeAll_size]; exact hrr.room, (fun h => by cases h), ?_, ?_, fun _ => hrr.frz hown, fun _ => hrr.frs hown⟩
              · intro j hj
                have hj : j < (len + n) * i.size := hj
                show ∃ v, _ ∧ Rel _ ((⟨r.elem, i.size, (len + n) * i.size, storeN r.cells (len * i.size) as, r.dflt, r.fz, r.sm, true, false⟩ : Row).get j) v
                rw [writeAll_get _ _ _ _ (by omega)]
                rcases hcell j (by omega) with ⟨h1, h2⟩ | ⟨a, h1, h2, h3⟩
                · rw [h2, if_neg (by omega)]
                  obtain ⟨v, hv, hrel⟩ := hrr.cell j (by omega)
                  exact ⟨v, hv, hrel.mono ext⟩
                · obtain ⟨v, hv, hrel⟩ := hf.rel.get h2
                  rw [h3, if_pos (by omega)]
                  refine ⟨v, ?_, hrel.mono ext⟩
                  rw [show l.base + j - (l.base + len * i.size + 0) = j - len * i.size by omega]; exact hv
              · intro j v hj hv
                have hj : j < (len + n) * i.size := hj
                rw [writeAll_get _ _ _ _ (by omega)] at hv
                split at hv
                · exact hf.one v (List.mem_of_getElem? hv)
                · exact hrr.one j v (by omega) hv
            · simp only [app, if_pos hin', Sem.run_bind, hf.run w rfl, Result.andThen_ok, add_addr]
              rw [Nat.add_zero, hrun]
              rfl
          · have hg : ¬ (len + n ≤ (none : Option Nat).getD (l.tot - 0 / l.sz)) := by rw [Nat.zero_div]; exact hin
            obtain ⟨k, rest, k1, k2, k3⟩ := app_new (P := P) (w := w) (e := e) (i := i) (z := z) hzone hg (hfo _) hf.run
            have td := Tr.del (P := P) (b := b) hs.drew hl hwr.1
            refine good_new (((Tr.drew hs).trans td).trans (Tr.alloc td.sim (.row ⟨r.elem, i.size, (len + n) * i.size, storeN r.cells (len * i.size) as, r.dflt, r.fz, r.sm, true, false⟩) _ ⟨w.heap.size, 0, len + n + k, i.size⟩ rfl ⟨_, (0, 0), by rw [hel], ?_⟩)) (run e1 (.inl hfit) k1) (rel_newSlice (l := ⟨w.heap.size, 0, len + n + k, i.size⟩) rfl)
            have ext := Mp.put_ext ⟨w.heap.size, 0, len + n + k, i.size⟩ (hs.fresh (Nat.le_refl H.nx))
            rw [hzsize] at k2
            have hsum2 : (len + n + k) * i.size = (len + n) * i.size + k * i.size := Nat.add_mul _ _ _
            refine ⟨rfl, hsz, by rw [hsum2]; exact Nat.le_add_right _ _, ?_, (fun h => by cases h), ?_, ?_, ?_, fun _ _ => .inl rfl⟩
            · simp only [List.size_toArray, List.length_append, o3, hvl, k2]
              rw [hsum2]; omega
            · intro j hj
              have hj : j < (len + n) * i.size := hj
              simp only [Nat.zero_add, List.getElem?_toArray]
              rcases hcell j (by omega) with ⟨h1, h2⟩ | ⟨a, h1, h2, h3⟩
              · rw [h2]
                obtain ⟨v, hv, hrel⟩ := o2.get (loadN_get r (len * i.size) 0 j h1)
                rw [Nat.zero_add] at hrel
                refine ⟨v, ?_, hrel.mono ext⟩
                rw [List.getElem?_append_left (by rw [List.length_append]; omega), List.getElem?_append_left (by omega)]
                exact hv
              · obtain ⟨v, hv, hrel⟩ := hf.rel.get h2
                rw [h3]
                refine ⟨v, ?_, hrel.mono ext⟩
                rw [List.getElem?_append_left (by rw [List.length_append]; omega), List.getElem?_append_right (by omega), o3]
                exact hv
            · intro j v _ hv
              simp only [Nat.zero_add, List.getElem?_toArray] at hv
              have := List.mem_of_getElem? hv
              rcases List.mem_append.1 this with h | h
              · rcases List.mem_append.1 h with h | h
                · exact o5 v h
                · exact hf.one v h
              · exact k3 v h
            · intro _ j _ _
              simp only; omega
theorem ok_append (hs : Sim P σ H w) (hρ : Ops P σ tm ρ) {o : Oper} {xs : List Operand} {ts : List TypeId} (ho : o.op = .call ⟨.builtin .append, ⟨xs⟩, ⟨ts⟩⟩) : OpOk P σ H w tm ρ o := by
  refine call_builtin ho fun cs => ?_
  rcases xs with _ | ⟨x, _ | ⟨y, _ | ⟨_, _⟩⟩⟩ <;> try exact trivial
  rcases ts with _ | ⟨t, _ | ⟨t2, _ | ⟨_, _⟩⟩⟩ <;> try exact trivial
  refine good_onUnd fun d hu => good_tSlice fun e hd => good_onInfo fun i hi => good_onSome' fun z hz => good_condF (fun hzl => good_onUnd fun d2 hu2 => ?_) fun _ => good_bad
  subst hd
  have happ : ∀ {n : Nat} {news : Sem (Array Value)} {as : List AV} {vs : List Value} (_ : 1 ≤ i.size) (hf : News P σ w i.size n news as vs)
      (h : ∀ {base : Option Addr} {sLen sCap : Nat}, ρ x = .slice base sLen sCap → ((sLen + n) * i.bytes ≤ 140737488355328 ∨ sLen + n ≤ sCap) → (Builtin.append_ ⟨[t, t2]⟩ o.type ⟨[.slice base sLen sCap, ρ y]⟩).run P w = (app e i z base sLen sCap n news).run P w),
      Good P σ H w ((builtin .append ⟨[t, t2]⟩ o.type cs ⟨[ρ x, ρ y]⟩).run P w) (appX (argE P x tm) e i.size i.bytes H n as) := by
    intro n news as vs hsz hf h
    rw [beq_nat, lenL_eq] at hzl
    have hzl : (constA z).cells.length = i.size := of_decide_eq_true hzl
    obtain ⟨hzr, hzone⟩ := const_cells (σ := σ) z (by omega)
    have hzsize : z.cells.size = i.size := by rw [← hzl, hzr.length]; simp
    refine good_appX hs (hρ x) hsz hzone hzsize hf fun {base sLen sCap v w'} e1 e2 e3 => run_v ?_
    rw [e1]
    exact (h e1 e2).trans e3
  have hd2 : (∃ k, d2 = .int k) ∨ ∀ k, d2 ≠ .int k := by
    cases d2 <;> first
      | exact .inl ⟨_, rfl⟩
      | exact .inr (fun k h => by cases h)
  rcases hd2 with ⟨k, rfl⟩ | hd2
  · refine good_if fun hsz => good_if fun hb => good_nat fun k' n hy => good_if fun hn => ?_
    rw [ble_nat] at hsz hb hn
    have hsz : 1 ≤ i.size := of_decide_eq_true hsz
    have hb : 1 ≤ i.bytes := of_decide_eq_true hb
    have hn : n * i.bytes ≤ 140737488355328 := of_decide_eq_true hn
    have hy2 : ρ y = .int k' (n : Nat) := by
      have := hρ y
      rw [hy] at this
      have this : ρ y = .int k' (Int.ofNat n) := by simpa only [Rel] using this
      rw [this]; rfl
    rw [beq_nat, lenL_eq] at hzl
    have hzl' : (constA z).cells.length = i.size := of_decide_eq_true hzl
    obtain ⟨hzr, hzone⟩ := const_cells (σ := σ) z (by omega)
    have hzsize : z.cells.size = i.size := by rw [← hzl', hzr.length]; simp
    refine happ (vs := (Builtin.zeroCells z.cells n).toList) (news := newsN i z n) hsz ⟨?_, (zeros_cells hzone n).2, by simpa [hzsize] using (zeros_cells hzone n).1, fun w' _ => ?_⟩ fun {base sLen sCap} e1 e2 => ?_
    · have := (zeros_rel (σ := σ) hzr (fun v hv => hzone v hv) (by omega) n).1
      rw [hzl', ← hzsize] at this
      exact this
    · unfold newsN
      split
      · next h0 =>
        have : Builtin.zeroCells z.cells n = #[] := by
          apply Array.ext'
          have := (zeros_cells hzone n).1
          rw [hzsize, h0] at this
          exact List.length_eq_zero_iff.1 (by simpa using this)
        simp [this]
      · simp
    · rw [hy2]
      exact run_appN hu hu2 hi hz hb hn e2
  have hno : tAppend (oAppendN (argE P x) (argE P y) e i.size i.bytes (constA z).cells) (oAppend (argE P x) (argE P y) e i.size i.bytes) d2 = oAppend (argE P x) (argE P y) e i.size i.bytes := by
    cases d2 <;> first | rfl | exact absurd rfl (hd2 _)
  rw [hno]
  refine good_if fun hsz => good_if fun hb => good_lenA fun n hn => good_contents hs (hρ y) hn (Nat.le_refl _) fun as vs hf => ?_
  rw [ble_nat] at hsz hb
  have hsz : 1 ≤ i.size := of_decide_eq_true hsz
  have hb : 1 ≤ i.bytes := of_decide_eq_true hb
  have hlenOf := run_lenOf (P := P) hn (hρ y) w
  exact happ hsz ⟨hf.rel, hf.one, hf.len, hf.run⟩ fun e1 e2 => run_app hu hu2 hd2 hi hz hlenOf hb e2
def mm (mx : Bool) : Value → Value → Sem Value := if mx then Builtin.max2 else Builtin.min2
theorem good_min2 {r : Result Next} (hs : Sim P σ H w) {mx : Bool} {k : IntKind} : ∀ (as : List AV) (vs : List Value) (a : Int), RelL σ as vs →
    (∀ v, (vs.foldlM (mm mx) (.int k a) : Sem Value).run P w = .ok v w → r = .ok (.value v) w) → Good P σ H w r (min2 mx k a H as)
  | [], vs, a, h, g => by
    rw [h.nil_inv] at g
    exact good_val hs (x := .int k a) (g _ rfl) (by simp [Rel])
  | x :: as, vs, a, h, g => by
    obtain ⟨v, vs', h1, h2, rfl⟩ := h.cons_inv
    unfold min2
    split
    · rename_i j b
      refine good_if fun hk => ?_
      have := kEq_true hk; subst this
      have h1 := rel_int h1
      subst h1
      refine good_min2 hs as vs' _ h2 fun v hv => g v ?_
      rw [List.foldlM_cons]
      cases mx with
      | true =>
        simp only [mm, if_true, Builtin.max2, Sem.run_bind, Sem.run_pure, Result.andThen_ok]
        rw [← hv]
        congr 2
        by_cases hh : a < b
        · simp [hh, ilt_eq]
        · simp [hh, ilt_eq]
      | false =>
        simp only [mm, Bool.false_eq_true, if_false, Builtin.min2, Sem.run_bind, Sem.run_pure, Result.andThen_ok]
        rw [← hv]
        congr 2
        by_cases hh : b < a
        · simp [hh, ilt_eq]
        · simp [hh, ilt_eq]
    · trivial
theorem ok_minmax (hs : Sim P σ H w) (hρ : Ops P σ tm ρ) {o : Oper} {mx : Bool} {xs : List Operand} {ts : List TypeId} (ho : o.op = .call ⟨.builtin (if mx then .max else .min), ⟨xs⟩, ⟨ts⟩⟩) : OpOk P σ H w tm ρ o := by
  refine call_builtin ho fun cs => ?_
  have key : ∀ r, (∀ v, (match xs.map ρ with | [] => .halt (.stuck "") | x :: rest => rest.foldlM (mm mx) x : Sem Value).run P w = .ok v w → r = .ok (.value v) w) → Good P σ H w r (oMinMax mx (xs.map (argE P)) tm H) := by
    intro r hrr
    unfold oMinMax
    have hr := relL_evs hρ xs
    split
    · rename_i k a l he
      rw [he] at hr
      obtain ⟨v, vs, h1, h2, h3⟩ := hr.cons_inv
      have h1 := rel_int h1
      subst h1
      exact good_min2 hs l vs a h2 fun v hv => hrr v (by rw [h3]; exact hv)
    · trivial
  cases mx with
  | true =>
    refine key _ fun v hv => run_v (s := Builtin.max_ ⟨ts⟩ o.type ⟨xs.map ρ⟩) ?_
    simp only [Builtin.max_]
    cases hl : xs.map ρ with
    | nil => rw [hl] at hv; cases hv
    | cons x l => rw [hl] at hv; exact hv
  | false =>
    refine key _ fun v hv => run_v (s := Builtin.min_ ⟨ts⟩ o.type ⟨xs.map ρ⟩) ?_
    simp only [Builtin.min_]
    cases hl : xs.map ρ with
    | nil => rw [hl] at hv; cases hv
    | cons x l => rw [hl] at hv; exact hv
theorem run_loadBytes {g : Nat} {cs : Array Value} {t : TypeId} {fr : Nat × Nat} (h : w.heap[g]? = some (.cells cs t fr)) : ∀ (ns : List Int) (o : Nat) (acc : ByteArray),
    (∀ (j : Nat) (v : Value), (ns.map (Value.int .u8))[j]? = some v → cs[o + j]? = some v) → (loadBytes ⟨g, o, none⟩ acc ns.length).run P w = .ok (ns.foldl (fun r n => r.push (UInt8.ofNat n.toNat)) acc) w
  | [], o, acc, _ => rfl
  | n :: ns, o, acc, hv => by
    have h0 := hv 0 (.int .u8 n) rfl
    simp only [List.length_cons, loadBytes, Sem.run_bind, run_load, cell_of h, Nat.add_zero] at h0 ⊢
    rw [h0]
    simp only [Result.andThen_ok, add_addr]
    exact run_loadBytes h ns (o + 1) _ fun j v hj => by
      have := hv (j + 1) v (by simpa using hj)
      rw [← this]; congr 1; omega
theorem freeze_wrote {w : World} {g o n : Nat} {cs : Array Value} {t : TypeId} {fr : Nat × Nat} (h : w.heap[g]? = some (.cells cs t fr)) (hn : n ≠ 0) :
    Wrote w (w.freeze ⟨g, o, none⟩ n) g (.cells cs t (if fr.1 = fr.2 then (o, o + n) else (min fr.1 o, max fr.2 (o + n)))) := by
  obtain ⟨a, b⟩ := fr
  refine ⟨by simp [World.freeze, hn], ?_, fun k hk => ?_, by simp [World.freeze, hn], by simp [World.freeze, hn], by simp [World.freeze, hn]⟩
  · simp only [World.freeze, hn, if_false, Array.getElem?_modify]
    rw [h]; simp
  · simp only [World.freeze, hn, if_false, Array.getElem?_modify]
    rw [if_neg (fun e => hk e.symm)]
theorem run_asInt (k : IntKind) (n : Int) : (asInt (.int k n)).run P w = .ok n w := rfl
theorem ustr_zero (pt ty : TypeId) (rest : List TypeId) (k : IntKind) (p : Option Addr) : (Builtin.unsafeString_ ⟨pt :: rest⟩ ty #[.pointer p, .int k 0]).run P w = .ok (.string .empty) w := by
  show ((asInt (.int k 0)) >>= _ : Sem Value).run P w = _
  rw [Sem.run_bind, run_asInt]
  cases p <;> rfl
theorem ustr_some {pt ty e : TypeId} (rest : List TypeId) {k : IntKind} {n : Nat} {a : Addr} {s : ByteArray} (hu : P.underlying pt = some (.pointer e)) (h0 : n ≠ 0) (hn : n ≤ 140737488355328)
    (hv : (variablesAt a e n).run P w = .ok true w) (hl : (loadBytes a .empty n).run P w = .ok s w) :
    (Builtin.unsafeString_ ⟨pt :: rest⟩ ty #[.pointer (some a), .int k (n : Int)]).run P w = .ok (.string s) (w.freeze a n) := by
  show ((asInt (.int k (n : Int))) >>= _ : Sem Value).run P w = _
  have p1 : ¬ ((n : Int) < 0) := by omega
  have p2 : ¬ ((n : Int) > IntKind.i64.max) := by
    have : IntKind.i64.max = 9223372036854775807 := by decide
    omega
  have p3 : ¬ ((n : Int) = 0) := by omega
  rw [Sem.run_bind, run_asInt]
  simp only [Result.andThen_ok, List.getElem?_toArray, List.getElem?_cons_zero, p1, if_false, p2, p3, Sem.run_bind, elemOf, run_underlying hu, Sem.run_pure, Int.toNat_natCast, hv, if_true, hl, run_freeze]
theorem ok_ustr (hs : Sim P σ H w) (hρ : Ops P σ tm ρ) {o : Oper} {xs : List Operand} {ts : List TypeId} (ho : o.op = .call ⟨.builtin .unsafeString, ⟨xs⟩, ⟨ts⟩⟩) : OpOk P σ H w tm ρ o := by
  refine call_builtin ho fun cs => ?_
  rcases xs with _ | ⟨x, _ | ⟨y, _ | ⟨_, _⟩⟩⟩ <;> try exact trivial
  rcases ts with _ | ⟨t, _ | ⟨t2, _ | ⟨_, _⟩⟩⟩ <;> try exact trivial
  refine good_onUnd fun d hu => good_tPtr fun e hd => good_onInfo fun i hi => good_condF (fun hsz => ?_) fun _ => good_bad
  subst hd
  rw [beq_nat] at hsz
  have hsz : i.size = 1 := of_decide_eq_true hsz
  refine good_nat fun k n hn => ?_
  have g1 := hρ x
  have g2 := hρ y
  rw [hn] at g2
  have g2 := rel_int g2
  refine good_cond (fun h0 => ?_) fun h0 => good_if fun hmax => good_ptr fun b off hx => good_row fun r hr => good_if fun hel => good_if fun hmay => good_if fun hle => ?_
  · rw [beq_nat] at h0
    have h0 : n = 0 := of_decide_eq_true h0
    subst h0
    have fin : ∀ p, ρ x = .pointer p → Good P σ H w ((builtin .unsafeString ⟨[t, t2]⟩ o.type cs ⟨[ρ x, ρ y]⟩).run P w) (.val (.str []) H) := by
      intro p e1
      refine good_val hs (x := .string .empty) ?_ (by simp only [Rel]; rfl)
      refine run_v (s := Builtin.unsafeString_ ⟨[t, t2]⟩ o.type #[ρ x, ρ y]) ?_
      rw [e1, g2]
      exact ustr_zero _ _ _ _ _
    split
    · rename_i hx
      rw [hx] at g1
      exact fin none (by simpa only [Rel] using g1)
    · rename_i b off hx
      rw [hx] at g1
      obtain ⟨l, _, e1⟩ := rel_ptr g1
      exact fin _ e1
    · trivial
  · rw [hx] at g1
    obtain ⟨l, hl, e1⟩ := rel_ptr g1
    obtain ⟨cs', fr, hc, hrr⟩ := hs.row hr hl
    have hmay' : r.sm = false ∧ H.may r b = true := by
      cases hsm : r.sm with
      | true => rw [hsm] at hmay; cases hmay
      | false => rw [hsm] at hmay; exact ⟨rfl, hmay⟩
    obtain ⟨hwr, hown⟩ := Wr.of_may hmay'.2 hr
    rw [beq_nat] at h0 hel
    rw [ble_nat] at hmax hle
    have h0 : n ≠ 0 := of_decide_eq_false h0
    have hel : r.elem = e := of_decide_eq_true hel
    have hmax : n ≤ 140737488355328 := of_decide_eq_true hmax
    have hle : off + n ≤ r.size := of_decide_eq_true hle
    have q1 := hrr.fits
    have q2 := hrr.room
    obtain ⟨vs, h2, h3, h4, h5⟩ := loadN_rel hrr n off hle
    refine good_toBytes _ vs h2 fun ns hns => ?_
    subst hns
    have hnl : ns.length = n := by simpa using h3
    have hcell : P.cellsOf e = 1 := by simp [Program.cellsOf, hi, hsz]
    have hw := freeze_wrote (o := l.base + off) (n := n) hc h0
    refine good_new (Tr.write hs hr hl hwr hw.size hw.new hw.old ⟨_, _, rfl, ?_⟩ hw.tape hw.os hw.out) (x := .string ⟨(ns.map byteI).toArray⟩) ?_ (by simp [Rel])
    · have hfz : (cond (Nat.ble r.fz (Nat.add off n)) (Nat.add off n) r.fz) = max r.fz (off + n) := by
        rw [ble_nat]
        show cond _ (off + n) r.fz = _
        by_cases hh : r.fz ≤ off + n
        · rw [show decide (r.fz ≤ Nat.add off n) = true from decide_eq_true hh]; simp only [cond_true]; omega
        · rw [show decide (r.fz ≤ Nat.add off n) = false from decide_eq_false hh]; simp only [cond_false]; omega
      rw [hfz]
      refine ⟨hrr.sz, hrr.sz1, hrr.fits, hrr.room, hrr.exact, hrr.cell, hrr.one, ?_, ?_⟩
      · intro _ j hj hj2
        have hj : max r.fz (off + n) ≤ j := hj
        have := hrr.frs hown hmay'.1
        split
        · simp only; omega
        · simp only; omega
      · intro _ _
        have := hrr.frs hown hmay'.1
        right
        split
        · simp only; omega
        · simp only; omega
    · refine run_v (s := Builtin.unsafeString_ ⟨[t, t2]⟩ o.type #[ρ x, ρ y]) ?_
      rw [e1, g2]
      have hsh := shape_of hc
      have hlies : liesAt P P.depth r.elem (cs'.size / P.cellsOf r.elem) (l.base + off) e n = true := by
        rw [hel]
        refine lies_at (by omega) (by rw [hcell]; omega) ?_
        rw [hcell, Nat.div_one, Nat.div_one]; omega
      have hld := run_loadBytes (P := P) hc ns (l.base + off) .empty h4
      rw [hnl, fold_push] at hld
      exact ustr_some _ hu h0 hmax (by simp only [variablesAt, Sem.run_bind, run_program, Result.andThen_ok, run_shape, hsh, hlies, Sem.run_pure]) (by simpa using hld)
/-- an equality that is told well, of a type -/
def EqOk (P : Program) (σ : Mp) (D : Nat) (t : Nat) (f : AV → AV → Option Bool) : Prop :=
  ∀ (a b : AV) (x y : Value) (r : Bool) (w : World), Rel σ a x → Rel σ b y → f a b = some r → (Op.equalIn D t x y).run P w = .ok r w
theorem eqB_ok {t D : Nat} (hu : P.underlying t = some .bool) : EqOk P σ (D + 1) t eqB := by
  intro a b x y r w ha hb h
  unfold eqB at h
  split at h
  · cases h
    rw [rel_bool ha, rel_bool hb, run_equalIn_bool w D t _ _ hu]
    rename_i p q
    cases p <;> cases q <;> rfl
  · cases h
theorem eqI_ok {t D : Nat} {k' : IntKind} (hu : P.underlying t = some (.int k')) : EqOk P σ (D + 1) t eqI := by
  intro a b x y r w ha hb h
  unfold eqI at h
  split at h
  · rename_i j p k q
    cases hk : kEq j k with
    | false => rw [hk] at h; cases h
    | true =>
      rw [hk] at h
      have := kEq_true hk; subst this
      cases h
      rw [rel_int ha, rel_int hb, run_equalIn_int w D t _ _ _ _ hu, ieq_eq]
  · cases h
theorem eqS_ok {t D : Nat} (hu : P.underlying t = some .string) : EqOk P σ (D + 1) t eqS := by
  intro a b x y r w ha hb h
  unfold eqS at h
  split at h
  · cases h
    rw [rel_str ha, rel_str hb, run_equalIn_string w D t _ _ hu, strEq_eq, toList_mk, toList_mk]
  · cases h
theorem rel_nilp {v : Value} (h : Rel σ .nilp v) : v = .pointer none := by simpa [Rel] using h
theorem rel_nils {v : Value} (h : Rel σ .nils v) : v = .slice none 0 0 := by simpa [Rel] using h
theorem rel_nilm {v : Value} (h : Rel σ .nilm v) : v = .map none := by simpa [Rel] using h
theorem rel_nilf {v : Value} (h : Rel σ .nilf v) : v = .nilFunc := by simpa [Rel] using h
theorem rel_nili {v : Value} (h : Rel σ .nili v) : v = .nilIface := by simpa [Rel] using h
theorem rel_map {b : Nat} {v : Value} (h : Rel σ (.map b) v) : ∃ l, σ b = some l ∧ v = .map (some l.blk) := by simpa only [Rel] using h
theorem rel_func {f : Nat} {a b : List AV} {v : Value} (h : Rel σ (.func f a b) v) : ∃ x y, RelL σ a x ∧ RelL σ b y ∧ v = .func (.func f) ⟨x⟩ ⟨y⟩ := by simpa only [Rel] using h
theorem rel_iface {t : Nat} {a : AV} {v : Value} (h : Rel σ (.iface t a) v) : ∃ x, Rel σ a x ∧ v = .iface t x := by simpa only [Rel] using h
theorem rel_agg {cs : List AV} {v : Value} (h : Rel σ (.agg cs) v) : ∃ vs, RelL σ cs vs ∧ (∀ x ∈ vs, x.oneCell' = true) ∧ v = .agg ⟨vs⟩ := by simpa only [Rel] using h
theorem eqP_ok {t D e : Nat} {i : TypeInfo} (hu : P.underlying t = some (.pointer e)) (hi : P.info? e = some i) (h0 : i.size ≠ 0) : EqOk P σ (D + 1) t eqP := by
  intro a b x y r w ha hb h
  unfold eqP at h
  split at h
  · cases h; rw [rel_nilp ha, rel_nilp hb]; simp [Op.equalIn, run_underlying hu]
  · cases h; obtain ⟨l, _, e1⟩ := rel_ptr hb; rw [rel_nilp ha, e1]; simp [Op.equalIn, run_underlying hu]
  · cases h; obtain ⟨l, _, e1⟩ := rel_ptr ha; rw [rel_nilp hb, e1]; simp [Op.equalIn, run_underlying hu]
  · rename_i b o c p
    rw [beq_nat, beq_nat] at h
    by_cases hbc : b = c
    · subst hbc
      rw [decide_eq_true rfl] at h
      cases h
      obtain ⟨l, hl, e1⟩ := rel_ptr ha
      obtain ⟨l2, hl2, e2⟩ := rel_ptr hb
      rw [hl] at hl2; cases hl2
      rw [e1, e2]
      simp only [Op.equalIn, Sem.run_bind, run_underlying hu, Result.andThen_ok, size_info hi, sameAddr]
      rw [if_pos h0]
      simp only [beq_self_eq_true, if_true, Sem.run_pure, Result.ok.injEq, and_true]
      by_cases hop : o = p
      · subst hop; simp
      · rw [decide_eq_false hop]
        rw [beq_eq_false_iff_ne]
        intro he
        have := congrArg Addr.off he
        simp only at this
        omega
    · rw [decide_eq_false hbc] at h; cases h
  · cases h
theorem eqL_ok {t D e : Nat} (hu : P.underlying t = some (.slice e)) : EqOk P σ (D + 1) t eqL := by
  intro a b x y r w ha hb h
  unfold eqL at h
  split at h
  · cases h; rw [rel_nils ha, rel_nils hb]; simp [Op.equalIn, run_underlying hu]
  · cases h; obtain ⟨l, _, e1⟩ := rel_slice hb; rw [rel_nils ha, e1]; simp [Op.equalIn, run_underlying hu]
  · cases h; obtain ⟨l, _, e1⟩ := rel_slice ha; rw [rel_nils hb, e1]; simp [Op.equalIn, run_underlying hu]
  · cases h
theorem eqM_ok {t D k e : Nat} (hu : P.underlying t = some (.map k e)) : EqOk P σ (D + 1) t eqM := by
  intro a b x y r w ha hb h
  unfold eqM at h
  split at h
  · cases h; rw [rel_nilm ha, rel_nilm hb]; simp [Op.equalIn, run_underlying hu]
  · cases h; obtain ⟨l, _, e1⟩ := rel_map hb; rw [rel_nilm ha, e1]; simp [Op.equalIn, run_underlying hu]
  · cases h; obtain ⟨l, _, e1⟩ := rel_map ha; rw [rel_nilm hb, e1]; simp [Op.equalIn, run_underlying hu]
  · cases h
theorem eqN_ok {t D : Nat} {p q : Array TypeId} {v : Bool} (hu : P.underlying t = some (.func p q v)) : EqOk P σ (D + 1) t eqN := by
  intro a b x y r w ha hb h
  unfold eqN at h
  split at h
  · cases h; rw [rel_nilf ha, rel_nilf hb]; simp [Op.equalIn, run_underlying hu]
  · cases h; obtain ⟨_, _, _, _, e1⟩ := rel_func hb; rw [rel_nilf ha, e1]; simp [Op.equalIn, run_underlying hu]
  · cases h; obtain ⟨_, _, _, _, e1⟩ := rel_func ha; rw [rel_nilf hb, e1]; simp [Op.equalIn, run_underlying hu]
  · cases h
theorem eqF_ok {t D : Nat} {ms : Array (String × TypeId)} {lit : Bool} {g : Nat → AV → AV → Option Bool} (hu : P.underlying t = some (.interface ms)) (hg : ∀ t, EqOk P σ D t (g t)) : EqOk P σ (D + 1) t (eqF lit (eqC P g)) := by
  intro a b x y r w ha hb h
  unfold eqF at h
  split at h
  · cases lit
    · cases h
    · cases h; rw [rel_nili ha, rel_nili hb]; simp [Op.equalIn, run_underlying hu]
  · cases h; obtain ⟨_, _, e1⟩ := rel_iface hb; rw [rel_nili ha, e1]; simp [Op.equalIn, run_underlying hu]
  · cases h; obtain ⟨_, _, e1⟩ := rel_iface ha; rw [rel_nili hb, e1]; simp [Op.equalIn, run_underlying hu]
  · rename_i t1 v1 t2 v2
    obtain ⟨x1, h1, e1⟩ := rel_iface ha
    obtain ⟨y1, h2, e2⟩ := rel_iface hb
    rw [e1, e2]
    rw [beq_nat] at h
    by_cases ht : t1 = t2
    · subst ht
      rw [decide_eq_true rfl] at h
      have h : eqC P g t1 v1 v2 = some r := h
      unfold eqC at h
      split at h
      · rename_i i hi
        cases hc : i.comparable with
        | false => rw [hc] at h; cases h
        | true =>
          rw [hc] at h
          have hti : (typeInfo t1).run P w = .ok i w := by simp [typeInfo, hi]
          simp only [Op.equalIn, Sem.run_bind, run_underlying hu, Result.andThen_ok, ne_eq, not_true_eq_false, if_false, hti, hc, Bool.not_true, Bool.false_eq_true]
          exact hg t1 v1 v2 x1 y1 r w h1 h2 h
      · cases h
    · rw [decide_eq_false ht] at h
      cases h
      simp [Op.equalIn, run_underlying hu, ht]
  · cases h
theorem aggT_eq {t : Nat} {ag : Bool} (h : aggT P t = some ag) : ∃ d, P.underlying t = some d ∧ isAggT P t = ag := by
  unfold aggT at h
  unfold isAggT
  split at h <;> rename_i e <;> cases h
  · rw [e]; exact ⟨_, rfl, rfl⟩
  · rw [e]; exact ⟨_, rfl, rfl⟩
  · rename_i d h1 h2
    rw [e]
    refine ⟨d, rfl, ?_⟩
    cases d <;> first | rfl | exact absurd rfl (h1 _) | exact absurd rfl (h2 _ _)
theorem partA_ok {t : Nat} {cs : List AV} {vs : List Value} {off : Nat} {k : AV → Option Bool} {r : Bool} (hr : RelL σ cs vs) (hone : ∀ x ∈ vs, x.oneCell' = true) (h : partA P t cs off k = some r) :
    ∃ a x, Rel σ a x ∧ k a = some r ∧ ∀ w : World, (part t ⟨vs⟩ off).run P w = .ok x w := by
  unfold partA at h
  split at h
  · rename_i i ag hi hag
    obtain ⟨d, hu, hia⟩ := aggT_eq hag
    cases ag with
    | true =>
      have h : k (.agg (takeL i.size (dropL off cs))) = some r := h
      rw [takeL_eq, dropL_eq] at h
      refine ⟨_, .agg ⟨(vs.drop off).take i.size⟩, ?_, h, fun w => ?_⟩
      · simp only [Rel]
        exact ⟨_, (hr.drop _).take _, fun y hy => hone y (List.mem_of_mem_drop (List.mem_of_mem_take hy)), rfl⟩
      · simp only [part, Sem.run_bind, run_isAgg' (w := w) hu, hia, Result.andThen_ok, if_true, size_info hi, Sem.run_pure]
        congr 2
        apply Array.ext'
        simp [List.extract_eq_take_drop]
    | false =>
      have h : (match nthL cs off with | some v => k v | none => none) = some r := h
      rw [nthL_eq] at h
      split at h
      · rename_i v hv
        obtain ⟨x, hx, hrel⟩ := hr.get hv
        refine ⟨v, x, hrel, h, fun w => ?_⟩
        simp only [part, Sem.run_bind, run_isAgg' (w := w) hu, hia, Result.andThen_ok, Bool.false_eq_true, if_false]
        simp [hx]
      · cases h
  · cases h
theorem eqItemsA_ok {e c D : Nat} {f : AV → AV → Option Bool} (hf : EqOk P σ D e f) {l m : List AV} {xs ys : List Value} (hl : RelL σ l xs) (hm : RelL σ m ys) (hlo : ∀ x ∈ xs, x.oneCell' = true) (hmo : ∀ x ∈ ys, x.oneCell' = true) :
    ∀ (is : List Nat) (r : Bool) (w : World), eqItemsA P f e c l m is = some r → (Op.eqItems D e c ⟨xs⟩ ⟨ys⟩ is).run P w = .ok r w
  | [], r, w, h => by cases h; rfl
  | i :: is, r, w, h => by
    unfold eqItemsA at h
    obtain ⟨a, x, h1, h2, h3⟩ := partA_ok hl hlo h
    obtain ⟨b, y, g1, g2, g3⟩ := partA_ok hm hmo h2
    unfold andO at g2
    split at g2
    · rename_i t ht
      have he := hf a b x y t w h1 g1 ht
      simp only [Op.eqItems, Sem.run_bind, h3 w, g3 w, he, Result.andThen_ok]
      cases t with
      | true => simpa using eqItemsA_ok hf hl hm hlo hmo is r w g2
      | false => cases g2; simp
    · cases g2
theorem eqFieldsA_ok {D : Nat} {g : Nat → AV → AV → Option Bool} (hf : ∀ t, EqOk P σ D t (g t)) {l m : List AV} {xs ys : List Value} (hl : RelL σ l xs) (hm : RelL σ m ys) (hlo : ∀ x ∈ xs, x.oneCell' = true) (hmo : ∀ x ∈ ys, x.oneCell' = true) :
    ∀ (fs : List Field) (r : Bool) (w : World), eqFieldsA P g l m fs = some r → (Op.eqFields D ⟨xs⟩ ⟨ys⟩ fs).run P w = .ok r w
  | [], r, w, h => by cases h; rfl
  | f :: fs, r, w, h => by
    unfold eqFieldsA at h
    unfold Op.eqFields
    cases hn : f.name == "_" with
    | true =>
      rw [hn] at h
      rw [if_neg (by simpa using hn)]
      exact eqFieldsA_ok hf hl hm hlo hmo fs r w h
    | false =>
      rw [hn] at h
      simp only [cond_false] at h
      rw [if_pos (by simpa using hn)]
      obtain ⟨a, x, h1, h2, h3⟩ := partA_ok hl hlo h
      obtain ⟨b, y, g1, g2, g3⟩ := partA_ok hm hmo h2
      unfold andO at g2
      split at g2
      · rename_i t ht
        have he := hf f.type a b x y t w h1 g1 ht
        simp only [Sem.run_bind, h3 w, g3 w, he, Result.andThen_ok]
        cases t with
        | true => simpa using eqFieldsA_ok hf hl hm hlo hmo fs r w g2
        | false => cases g2; simp
      · cases g2
theorem eqD_ok {t D : Nat} {lit : Bool} {g : Nat → AV → AV → Option Bool} {d : TypeDesc} (hu : P.underlying t = some d) (hg : ∀ t, EqOk P σ D t (g t)) : EqOk P σ (D + 1) t (fun a b => eqD P lit g t a b d) := by
  intro a b x y r w ha hb h
  cases d <;> simp only [eqD] at h <;> first
    | cases h; done
    | exact eqB_ok hu a b x y r w ha hb h
    | exact eqI_ok hu a b x y r w ha hb h
    | exact eqS_ok hu a b x y r w ha hb h
    | exact eqL_ok hu a b x y r w ha hb h
    | exact eqM_ok hu a b x y r w ha hb h
    | exact eqN_ok hu a b x y r w ha hb h
    | exact eqF_ok hu hg a b x y r w ha hb h
    | skip
  case pointer e =>
    split at h
    · rename_i i hi
      rw [beq_nat] at h
      by_cases h0 : i.size = 0
      · rw [decide_eq_true h0] at h; cases h
      · rw [decide_eq_false h0] at h
        exact eqP_ok hu hi h0 a b x y r w ha hb h
    · cases h
  case array n e =>
    unfold agg2 at h
    split at h
    · split at h
      · rename_i i hi
        obtain ⟨xs, h1, h2, e1⟩ := rel_agg ha
        obtain ⟨ys, g1, g2, e2⟩ := rel_agg hb
        have := eqItemsA_ok (hg e) h1 g1 h2 g2 (List.range n) r w h
        rw [e1, e2, run_equalIn_array w D ⟨xs⟩ ⟨ys⟩ hu hi]
        rw [show P.cellsOf e = i.size by simp [Program.cellsOf, hi]]
        exact this
      · cases h
    · cases h
  case struct fs =>
    cases hst : P.stoodInHeld t with
    | true => rw [hst] at h; cases h
    | false =>
      rw [hst] at h
      have h : agg2 a b (fun l m => eqFieldsA P g l m fs.toList) = some r := h
      unfold agg2 at h
      split at h
      · obtain ⟨xs, h1, h2, e1⟩ := rel_agg ha
        obtain ⟨ys, g1, g2, e2⟩ := rel_agg hb
        have := eqFieldsA_ok hg h1 g1 h2 g2 fs.toList r w h
        have hfs : P.fieldsOf t = fs := by simp [Program.fieldsOf, hu]
        rw [e1, e2, run_equalIn_struct w D t ⟨xs⟩ ⟨ys⟩ (by rw [hfs]; exact hu) hst, hfs]
        exact this
      · cases h
theorem eqT_ok : ∀ (d D t : Nat), d ≤ D → EqOk P σ D t (eqT P d t)
  | 0, D, t, _ => by intro a b x y r w ha hb h; cases h
  | d + 1, D, t, hD => by
    obtain ⟨D', rfl⟩ : ∃ D', D = D' + 1 := ⟨D - 1, by omega⟩
    intro a b x y r w ha hb h
    unfold eqT at h
    split at h
    · rename_i u hu
      exact eqD_ok (lit := true) hu (fun t => eqT_ok d D' t (by omega)) a b x y r w ha hb h
    · cases h
def TopOk (P : Program) (σ : Mp) (t : Nat) (X Y : Operand) (f : AV → AV → Option Bool) : Prop :=
  ∀ (a b : AV) (x y : Value) (r : Bool) (w : World), Rel σ a x → Rel σ b y → f a b = some r →
    (∀ op, (eqGuard op t X Y x y).run P w = .ok () w) ∧ (binOp .eql t x y).run P w = .ok (.bool r) w ∧ (binOp .neq t x y).run P w = .ok (.bool (!r)) w
def notNum (v : Value) : Bool := match v with | .int .. | .float .. | .complex .. | .string _ => false | _ => true
theorem bin_eql {t : TypeId} {x y : Value} (h : notNum x = true) : binOp .eql t x y = (do pure (.bool (← Op.equal t x y))) := by
  cases x <;> first | (cases h; done) | (unfold binOp; rfl)
theorem bin_neq {t : TypeId} {x y : Value} (h : notNum x = true) : binOp .neq t x y = (do pure (.bool (!(← Op.equal t x y)))) := by
  cases x <;> first | (cases h; done) | (unfold binOp; rfl)
theorem top_of {t : TypeId} {X Y : Operand} {x y : Value} {r : Bool} (h : notNum x = true) (hg : ∀ op, (eqGuard op t X Y x y).run P w = .ok () w) (he : (Op.equalIn 10000 t x y).run P w = .ok r w) :
    (∀ op, (eqGuard op t X Y x y).run P w = .ok () w) ∧ (binOp .eql t x y).run P w = .ok (.bool r) w ∧ (binOp .neq t x y).run P w = .ok (.bool (!r)) w := by
  have he : (Op.equal t x y).run P w = .ok r w := he
  refine ⟨hg, ?_, ?_⟩
  · rw [bin_eql h]; simp [he]
  · rw [bin_neq h]; simp [he]
theorem guard_plain {t : TypeId} {X Y : Operand} {x y : Value} (h1 : ∀ v, x ≠ .agg v) (h2 : x ≠ .nilIface ∨ y ≠ .nilIface) (op : BinOp) : (eqGuard op t X Y x y).run P w = .ok () w := by
  cases op <;> simp only [eqGuard] <;> first
    | rfl
    | (cases x <;> first
        | rfl
        | exact absurd rfl (h1 _)
        | (cases y <;> first
            | rfl
            | (rcases h2 with h2 | h2 <;> exact absurd rfl h2)))
theorem topB {t : TypeId} {X Y : Operand} (hu : P.underlying t = some .bool) : TopOk P σ t X Y eqB := by
  intro a b x y r w ha hb h
  have he := eqB_ok (D := 9999) hu a b x y r w ha hb h
  unfold eqB at h
  split at h
  · have ha := rel_bool ha; subst ha
    exact top_of rfl (guard_plain (fun _ h => by cases h) (.inl fun h => by cases h)) he
  · cases h
theorem topP {t e : TypeId} {X Y : Operand} {i : TypeInfo} (hu : P.underlying t = some (.pointer e)) (hi : P.info? e = some i) (h0 : i.size ≠ 0) : TopOk P σ t X Y eqP := by
  intro a b x y r w ha hb h
  have he := eqP_ok (D := 9999) hu hi h0 a b x y r w ha hb h
  have : ∃ p, x = .pointer p := by
    unfold eqP at h
    split at h
    · exact ⟨_, rel_nilp ha⟩
    · exact ⟨_, rel_nilp ha⟩
    · obtain ⟨_, _, e1⟩ := rel_ptr ha; exact ⟨_, e1⟩
    · obtain ⟨_, _, e1⟩ := rel_ptr ha; exact ⟨_, e1⟩
    · cases h
  obtain ⟨p, rfl⟩ := this
  exact top_of rfl (guard_plain (fun _ h => by cases h) (.inl fun h => by cases h)) he
theorem topL {t e : TypeId} {X Y : Operand} (hu : P.underlying t = some (.slice e)) : TopOk P σ t X Y eqL := by
  intro a b x y r w ha hb h
  have he := eqL_ok (D := 9999) hu a b x y r w ha hb h
  have : ∃ p n c, x = .slice p n c := by
    unfold eqL at h
    split at h
    · exact ⟨_, _, _, rel_nils ha⟩
    · exact ⟨_, _, _, rel_nils ha⟩
    · obtain ⟨_, _, e1⟩ := rel_slice ha; exact ⟨_, _, _, e1⟩
    · cases h
  obtain ⟨p, n, c, rfl⟩ := this
  exact top_of rfl (guard_plain (fun _ h => by cases h) (.inl fun h => by cases h)) he
theorem topM {t k e : TypeId} {X Y : Operand} (hu : P.underlying t = some (.map k e)) : TopOk P σ t X Y eqM := by
  intro a b x y r w ha hb h
  have he := eqM_ok (D := 9999) hu a b x y r w ha hb h
  have : ∃ p, x = .map p := by
    unfold eqM at h
    split at h
    · exact ⟨_, rel_nilm ha⟩
    · exact ⟨_, rel_nilm ha⟩
    · obtain ⟨_, _, e1⟩ := rel_map ha; exact ⟨_, e1⟩
    · cases h
  obtain ⟨p, rfl⟩ := this
  exact top_of rfl (guard_plain (fun _ h => by cases h) (.inl fun h => by cases h)) he
theorem topN {t : TypeId} {p q : Array TypeId} {v : Bool} {X Y : Operand} (hu : P.underlying t = some (.func p q v)) : TopOk P σ t X Y eqN := by
  intro a b x y r w ha hb h
  have he := eqN_ok (D := 9999) hu a b x y r w ha hb h
  have : x = .nilFunc ∨ ∃ f m n, x = .func f m n := by
    unfold eqN at h
    split at h
    · exact .inl (rel_nilf ha)
    · exact .inl (rel_nilf ha)
    · obtain ⟨_, _, _, _, e1⟩ := rel_func ha; exact .inr ⟨_, _, _, e1⟩
    · cases h
  rcases this with rfl | ⟨f, m, n, rfl⟩
  · exact top_of rfl (guard_plain (fun _ h => by cases h) (.inl fun h => by cases h)) he
  · exact top_of rfl (guard_plain (fun _ h => by cases h) (.inl fun h => by cases h)) he
theorem guard_nil {t : TypeId} {X Y : Operand} (h : (isLit X || isLit Y) = true) (op : BinOp) : (eqGuard op t X Y .nilIface .nilIface).run P w = .ok () w := by
  have hc : ((X matches .const _) || (Y matches .const _)) = true := by
    cases X <;> cases Y <;> first | rfl | cases h
  cases op <;> simp only [eqGuard] <;> first
    | rfl
    | (cases X <;> cases Y <;> first | rfl | cases h)
theorem topF {t : TypeId} {ms : Array (String × TypeId)} {X Y : Operand} (hu : P.underlying t = some (.interface ms)) : TopOk P σ t X Y (eqF (isLit X || isLit Y) (eqC P (eqT P 9))) := by
  intro a b x y r w ha hb h
  have he := eqF_ok (D := 9999) hu (fun t => eqT_ok 9 9999 t (by omega)) a b x y r w ha hb h
  unfold eqF at h
  split at h
  · cases hl : (isLit X || isLit Y) with
    | false => rw [hl] at h; cases h
    | true =>
      have ha := rel_nili ha; subst ha
      have hb := rel_nili hb; subst hb
      exact top_of rfl (guard_nil hl) he
  · have ha := rel_nili ha; subst ha
    obtain ⟨_, _, rfl⟩ := rel_iface hb
    exact top_of rfl (guard_plain (fun _ h => by cases h) (.inr fun h => by cases h)) he
  · obtain ⟨_, _, rfl⟩ := rel_iface ha
    exact top_of rfl (guard_plain (fun _ h => by cases h) (.inl fun h => by cases h)) he
  · obtain ⟨_, _, rfl⟩ := rel_iface ha
    exact top_of rfl (guard_plain (fun _ h => by cases h) (.inl fun h => by cases h)) he
  · cases h
theorem topA {t : TypeId} {X Y : Operand} (hag : (∃ n e, P.underlying t = some (.array n e)) ∨ ∃ fs, P.underlying t = some (.struct fs)) (hg : P.eqGuardType P.depth t = false) : TopOk P σ t X Y (eqT P 10 t) := by
  intro a b x y r w ha hb h
  have he := eqT_ok 10 10000 t (by omega) a b x y r w ha hb h
  have hab : (∃ l, a = .agg l) ∧ ∃ m, b = .agg m := by
    unfold eqT at h
    have agg : ∀ {k : List AV → List AV → Option Bool}, agg2 a b k = some r → (∃ l, a = .agg l) ∧ ∃ m, b = .agg m := by
      intro k h
      unfold agg2 at h
      split at h
      · exact ⟨⟨_, rfl⟩, ⟨_, rfl⟩⟩
      · cases h
    rcases hag with ⟨n, e, hu⟩ | ⟨fs, hu⟩
    · rw [hu] at h
      exact agg h
    · rw [hu] at h
      simp only [eqD] at h
      cases hst : P.stoodInHeld t with
      | true => rw [hst] at h; cases h
      | false => rw [hst] at h; exact agg h
  obtain ⟨⟨l, rfl⟩, ⟨m, rfl⟩⟩ := hab
  obtain ⟨xs, _, _, rfl⟩ := rel_agg ha
  obtain ⟨ys, _, _, rfl⟩ := rel_agg hb
  exact top_of rfl (fun op => run_eqGuard_agg w op t X Y _ _ hg) he
theorem topI {t : TypeId} {X Y : Operand} : TopOk P σ t X Y eqI := by
  intro a b x y r w ha hb h
  unfold eqI at h
  split at h
  · rename_i j p k q
    cases hk : kEq j k with
    | false => rw [hk] at h; cases h
    | true =>
      rw [hk] at h
      have := kEq_true hk; subst this
      have h : some (ieq p q) = some r := h
      cases h
      have ha := rel_int ha; subst ha
      have hb := rel_int hb; subst hb
      rw [ieq_eq]
      exact ⟨guard_plain (fun _ h => by cases h) (.inl fun h => by cases h), by simp [binOp, Op.intCmp], by simp [binOp, Op.intCmp, bne]⟩
  · cases h
theorem topS {t : TypeId} {X Y : Operand} : TopOk P σ t X Y eqS := by
  intro a b x y r w ha hb h
  unfold eqS at h
  split at h
  · rename_i p q
    cases h
    have ha := rel_str ha; subst ha
    have hb := rel_str hb; subst hb
    refine ⟨guard_plain (fun _ h => by cases h) (.inl fun h => by cases h), ?_, ?_⟩
    · simp [binOp, Op.stringOp, strEq_eq]
    · simp [binOp, Op.stringOp, bne, strEq_eq]
  · cases h
theorem ok_eqF (hs : Sim P σ H w) (hρ : Ops P σ tm ρ) {o : Oper} {neg : Bool} {t u : TypeId} {x y : Operand} {f : AV → AV → Option Bool} (ho : o.op = .binOp (if neg then .neq else .eql) t x y u) (hf : TopOk P σ t x y f) :
    Good P σ H w ((execOp ρ o).run P w) (oEq (argE P x) (argE P y) f neg tm H) := by
  refine good_some fun r hr => ?_
  obtain ⟨h1, h2, h3⟩ := hf _ _ _ _ r w (hρ x) (hρ y) hr
  refine good_vBool hs ?_
  simp only [execOp, ho]
  refine run_v ?_
  rw [Sem.run_bind, h1]
  cases neg
  · exact h2
  · simp only [Result.andThen_ok]
    refine h3.trans ?_
    cases r <;> rfl
theorem ok_eqK (hs : Sim P σ H w) (hρ : Ops P σ tm ρ) {o : Oper} {neg : Bool} {t u : TypeId} {x y : Operand} (ho : o.op = .binOp (if neg then .neq else .eql) t x y u) :
    Good P σ H w ((execOp ρ o).run P w) (onUnd P t (eqK P t (isLit x || isLit y) neg (argE P x) (argE P y)) tm H) := by
  refine good_onUnd fun d hu => ?_
  cases d <;> try exact trivial
  case bool => exact ok_eqF hs hρ ho (topB hu)
  case int k => exact ok_eqF hs hρ ho topI
  case string => exact ok_eqF hs hρ ho topS
  case pointer e =>
    show Good P σ H w _ ((match P.info? e with | some i => cond (Nat.beq i.size 0) oBad (oEq (argE P x) (argE P y) eqP neg) | none => oBad) tm H)
    cases hi : P.info? e with
    | none => exact trivial
    | some i =>
      refine good_condF (fun _ => good_bad) fun h0 => ?_
      rw [beq_nat] at h0
      exact ok_eqF hs hρ ho (topP hu hi (of_decide_eq_false h0))
  case slice e => exact ok_eqF hs hρ ho (topL hu)
  case map k e => exact ok_eqF hs hρ ho (topM hu)
  case func p q v => exact ok_eqF hs hρ ho (topN hu)
  case interface ms => exact ok_eqF hs hρ ho (topF hu)
  case array n e => exact good_condF (fun _ => good_bad) fun h0 => ok_eqF hs hρ ho (topA (.inl ⟨n, e, hu⟩) h0)
  case struct fs => exact good_condF (fun _ => good_bad) fun h0 => ok_eqF hs hρ ho (topA (.inr ⟨fs, hu⟩) h0)
theorem ok_eql (hs : Sim P σ H w) (hρ : Ops P σ tm ρ) {o : Oper} {t u : TypeId} {x y : Operand} (ho : o.op = .binOp .eql t x y u) : OpOk P σ H w tm ρ o := by
  unfold OpOk
  have := ok_eqK (neg := false) hs hρ ho
  rw [ho]
  exact this
theorem ok_neq (hs : Sim P σ H w) (hρ : Ops P σ tm ρ) {o : Oper} {t u : TypeId} {x y : Operand} (ho : o.op = .binOp .neq t x y u) : OpOk P σ H w tm ρ o := by
  unfold OpOk
  have := ok_eqK (neg := true) hs hρ ho
  rw [ho]
  exact this
theorem EntsRel.length : ∀ {es : List Ent} {l : List MapEntry}, EntsRel σ es l → es.length = l.length
  | [], l, h => by simp only [EntsRel] at h; subst h; rfl
  | a :: es, l, h => by simp only [EntsRel] at h; obtain ⟨e, es', _, h2, rfl⟩ := h; simp [h2.length]
theorem entsRel_nil : EntsRel σ [] [] := by simp [EntsRel]
theorem entsRel_cons {a : Ent} {as : List Ent} {e : MapEntry} {es : List MapEntry} (h : EntRel σ a e) (h' : EntsRel σ as es) : EntsRel σ (a :: as) (e :: es) := by
  simp only [EntsRel]; exact ⟨e, es, h, h', rfl⟩
theorem EntsRel.cons_inv {a : Ent} {as : List Ent} {l : List MapEntry} (h : EntsRel σ (a :: as) l) : ∃ e es, EntRel σ a e ∧ EntsRel σ as es ∧ l = e :: es := by simpa [EntsRel] using h
/-- the kinds of keys -/
structure KeyOk (P : Program) (σ : Mp) (kt : TypeId) (kd : TypeDesc) (eq : AV → AV → Option Bool) : Prop where
  und : P.underlying kt = some kd
  check : ∀ (b : Bool) (x : Value) (w : World), (Instr.checkKey b 10000 kt x).run P w = .ok () w
  now : ∀ (a b : AV) (x y : Value) (r : Bool), Rel σ a x → Rel σ b y → eq a b = some r → Instr.sameNow kd x y = some r
  bits : ∀ (a b : AV) (x y : Value), Rel σ a x → Rel σ b y → eq a b = some true → Instr.sameBits 10000 y x = true
  apart : ∀ (k a b : AV) (t : Bool), apartK a b = true → eq k a = some t → ∃ u, eq k b = some u ∧ (t = true → u = false)
theorem check_plain {kt : TypeId} {kd : TypeDesc} (hu : P.underlying kt = some kd) (hk : (match kd with | .string | .int _ | .bool => true | _ => false) = true) (b : Bool) (x : Value) (w : World) : (Instr.checkKey b 10000 kt x).run P w = .ok () w := by
  cases kd <;> first | (cases hk; done) | skip
  all_goals
    unfold Instr.checkKey
    simp [run_underlying hu]
theorem keyS {kt : TypeId} (hu : P.underlying kt = some .string) : KeyOk P σ kt .string eqS := by
  refine ⟨hu, fun b x w => check_plain hu rfl b x w, ?_, ?_, ?_⟩
  · intro a b x y r ha hb h
    unfold eqS at h
    split at h
    · cases h
      rw [rel_str ha, rel_str hb, strEq_eq]
      show some (ByteArray.mk _ == ByteArray.mk _) = _
      rw [beq_toListBytes, toList_mk, toList_mk]
    · cases h
  · intro a b x y ha hb h
    unfold eqS at h
    split at h
    · rename_i p q
      rw [strEq_eq] at h
      have h : p = q := by simpa using h
      subst h
      rw [rel_str ha, rel_str hb]
      show (ByteArray.mk _ == ByteArray.mk _) = true
      rw [beq_toListBytes]
      simp
    · cases h
  · intro k a b t hab h
    unfold apartK at hab
    split at hab
    · rename_i p q
      cases k <;> try (cases h; done)
      rename_i s
      refine ⟨strEq s q, rfl, fun ht => ?_⟩
      subst ht
      have h : some (strEq s p) = some true := h
      rw [strEq_eq] at h hab ⊢
      have h : s = p := by simpa using h
      subst h
      simpa using hab
    · cases k <;> cases h
    · cases hab
theorem keyI {kt : TypeId} {k : IntKind} (hu : P.underlying kt = some (.int k)) : KeyOk P σ kt (.int k) eqI := by
  refine ⟨hu, fun b x w => check_plain hu rfl b x w, ?_, ?_, ?_⟩
  · intro a b x y r ha hb h
    unfold eqI at h
    split at h
    · rename_i j p k q
      cases hk : kEq j k with
      | false => rw [hk] at h; cases h
      | true =>
        rw [hk] at h
        have := kEq_true hk; subst this
        cases h
        rw [rel_int ha, rel_int hb, ieq_eq]
        simp [Instr.sameNow]
    · cases h
  · intro a b x y ha hb h
    unfold eqI at h
    split at h
    · rename_i j p k q
      cases hk : kEq j k with
      | false => rw [hk] at h; cases h
      | true =>
        rw [hk] at h
        have := kEq_true hk; subst this
        have h : some (ieq p q) = some true := h
        rw [ieq_eq] at h
        have h : p = q := by simpa using h
        subst h
        rw [rel_int ha, rel_int hb]
        simp [Instr.sameBits]
    · cases h
  · intro k a b t hab h
    unfold apartK at hab
    split at hab
    · cases k <;> cases h
    · rename_i j1 p j2 q
      cases k <;> try (cases h; done)
      rename_i j3 s
      obtain ⟨h1, h2⟩ := Bool.and_eq_true_iff.1 hab
      have := kEq_true h1; subst this
      unfold eqI at h ⊢
      cases hk : kEq j3 j1 with
      | false => simp [hk] at h
      | true =>
        simp only [hk, cond_true, Option.some.injEq] at h ⊢
        refine ⟨_, rfl, fun ht => ?_⟩
        subst ht
        rw [ieq_eq] at h h2 ⊢
        have h : s = p := by simpa using h
        subst h
        simpa using h2
    · cases hab
theorem keyB {kt : TypeId} (hu : P.underlying kt = some .bool) : KeyOk P σ kt .bool eqB := by
  refine ⟨hu, fun b x w => check_plain hu rfl b x w, ?_, ?_, ?_⟩
  · intro a b x y r ha hb h
    unfold eqB at h
    split at h
    · rename_i p q
      cases h
      rw [rel_bool ha, rel_bool hb]
      cases p <;> cases q <;> rfl
    · cases h
  · intro a b x y ha hb h
    unfold eqB at h
    split at h
    · rename_i p q
      rw [rel_bool ha, rel_bool hb]
      cases p <;> cases q <;> first | rfl | cases h
    · cases h
  · intro k a b t hab h
    unfold apartK at hab
    split at hab
    · cases k <;> cases h
    · cases k <;> cases h
    · cases hab
theorem good_keyK {r : Result Next} {kt : TypeId} {f : (AV → AV → Option Bool) → OpF} (h : ∀ kd eq, KeyOk P σ kt kd eq → Good P σ H w r (f eq tm H)) : Good P σ H w r (onUnd P kt (keyK f) tm H) := by
  refine good_onUnd fun d hu => ?_
  cases d <;> try exact trivial
  case string => exact h _ _ (keyS hu)
  case int k => exact h _ _ (keyI hu)
  case bool => exact h _ _ (keyB hu)
/-- a key looked for -/
theorem good_find {r : Result Next} {kt : TypeId} {kd : TypeDesc} {eq : AV → AV → Option Bool} (hk : KeyOk P σ kt kd eq) {k : AV} {kv : Value} (hkr : Rel σ k kv) {no : OR} {yes : AV → OR} : ∀ (es : List Ent) (l : List MapEntry) (i : Nat), EntsRel σ es l →
    (Instr.findNow kd kv l i = some none → Good P σ H w r no) → (∀ j a v, Rel σ a v → Instr.findNow kd kv l i = some (some (j, v)) → Good P σ H w r (yes a)) → Good P σ H w r (mapFind eq k no yes es)
  | [], l, i, h, h1, h2 => by
    simp only [EntsRel] at h; subst h
    exact h1 rfl
  | e :: es, l, i, h, h1, h2 => by
    obtain ⟨m, ms, g1, g2, rfl⟩ := h.cons_inv
    unfold mapFind
    cases he : eq k e.key with
    | none => exact trivial
    | some t =>
      have hn := hk.now _ _ _ _ t hkr g1.1 he
      cases t with
      | true => exact h2 i e.val m.val g1.2.1 (by simp only [Instr.findNow, hn])
      | false =>
        refine good_find hk hkr es ms (i + 1) g2 (fun q => h1 ?_) (fun j a v ha q => h2 j a v ha ?_)
        · simp only [Instr.findNow, hn]; exact q
        · simp only [Instr.findNow, hn]; exact q
/-- entries in another order -/
theorem mapFind_strip {eq : AV → AV → Option Bool} {k : AV} {no : OR} {yes : AV → OR} : ∀ {es fs : List Ent}, es.map strip = fs.map strip → mapFind eq k no yes es = mapFind eq k no yes fs
  | [], [], _ => rfl
  | [], _ :: _, h => by cases h
  | _ :: _, [], h => by cases h
  | e :: es, f :: fs, h => by
    simp only [List.map_cons, List.cons.injEq] at h
    obtain ⟨h1, h2⟩ := h
    simp only [strip, Prod.mk.injEq] at h1
    unfold mapFind
    rw [h1.1, h1.2, mapFind_strip h2]
noncomputable def findP (eq : AV → AV → Option Bool) (k : AV) (no : OR) (yes : AV → OR) (l : List (AV × AV)) : OR := mapFind eq k no yes (l.map fun p => ⟨p.1, p.2, 0⟩)
theorem findP_map {eq : AV → AV → Option Bool} {k : AV} {no : OR} {yes : AV → OR} (es : List Ent) : findP eq k no yes (es.map strip) = mapFind eq k no yes es := by
  unfold findP
  refine mapFind_strip ?_
  rw [List.map_map, List.map_map]
  rfl
theorem findP_cons {eq : AV → AV → Option Bool} {k : AV} {no : OR} {yes : AV → OR} (p : AV × AV) (l : List (AV × AV)) {t : Bool} (h : eq k p.1 = some t) : findP eq k no yes (p :: l) = cond t (yes p.2) (findP eq k no yes l) := by
  show mapFind eq k no yes (⟨p.1, p.2, 0⟩ :: l.map fun p => ⟨p.1, p.2, 0⟩) = _
  unfold mapFind
  rw [show eq k (⟨p.1, p.2, 0⟩ : Ent).key = some t from h]
  rfl
theorem findP_perm {eq : AV → AV → Option Bool} {k : AV} {no : OR} {yes : AV → OR} {l m : List (AV × AV)} (hp : l.Perm m) (ha : ∀ p ∈ l, ∃ t, eq k p.1 = some t) (hu : l.Pairwise fun p q => eq k p.1 = some true → eq k q.1 = some true → False) :
    findP eq k no yes l = findP eq k no yes m := by
  induction hp with
  | nil => rfl
  | cons p _ ih =>
    obtain ⟨t, ht⟩ := ha p (List.mem_cons_self ..)
    rw [findP_cons _ _ ht, findP_cons _ _ ht, ih (fun q hq => ha q (List.mem_cons_of_mem _ hq)) (List.pairwise_cons.1 hu).2]
  | swap p q l =>
    obtain ⟨t, ht⟩ := ha q (List.mem_cons_self ..)
    obtain ⟨u, hu'⟩ := ha p (List.mem_cons_of_mem _ (List.mem_cons_self ..))
    rw [findP_cons _ _ ht, findP_cons _ _ hu', findP_cons _ _ hu', findP_cons _ _ ht]
    cases t <;> cases u <;> try rfl
    exact ((List.pairwise_cons.1 hu).1 p (List.mem_cons_self ..) ht hu').elim
  | trans h1 _ ih1 ih2 =>
    rw [ih1 ha hu]
    exact ih2 (fun q hq => ha q (h1.mem_iff.2 hq)) ((h1.pairwise_iff (fun h a b => h b a)).1 hu)
theorem mapFind_perm {kt : TypeId} {kd : TypeDesc} {eq : AV → AV → Option Bool} (hk : KeyOk P σ kt kd eq) {k : AV} {no : OR} {yes : AV → OR} {es fs : List Ent} (hp : (fs.map strip).Perm (es.map strip)) (ha : es.Pairwise apartE) :
    mapFind eq k no yes es = .fail ∨ mapFind eq k no yes es = mapFind eq k no yes fs := by
  cases es with
  | nil =>
    rw [List.map_nil] at hp
    have := List.Perm.eq_nil hp
    cases fs with
    | nil => exact .inr rfl
    | cons f fs => cases this
  | cons e es =>
    cases he : eq k e.key with
    | none =>
      left
      unfold mapFind
      rw [he]
    | some t =>
      right
      have hall : ∀ f ∈ e :: es, ∃ u, eq k f.key = some u := by
        intro f hf
        rcases List.mem_cons.1 hf with rfl | hf
        · exact ⟨t, he⟩
        · obtain ⟨u, hu, _⟩ := hk.apart k e.key f.key t ((List.pairwise_cons.1 ha).1 f hf).1 he
          exact ⟨u, hu⟩
      rw [← findP_map (e :: es), ← findP_map fs]
      refine (findP_perm hp.symm (fun p hp => ?_) ?_)
      · obtain ⟨f, hf, rfl⟩ := List.mem_map.1 hp
        exact hall f hf
      · rw [List.pairwise_map]
        refine ha.imp fun {a b} hab h1 h2 => ?_
        obtain ⟨u, h3, h4⟩ := hk.apart k a.key b.key true hab.1 h1
        have h2 : eq k b.key = some true := h2
        rw [h3, h4 rfl] at h2
        cases h2
theorem run_findKey {kt : TypeId} {kd : TypeDesc} (hu : P.underlying kt = some kd) {kv : Value} {l : List MapEntry} {r : Option (Nat × Value)} (h : Instr.findNow kd kv l 0 = some r) : (Instr.findKey kt kv l).run P w = .ok r w := by
  simp only [Instr.findKey, Sem.run_bind, run_underlying hu, Result.andThen_ok, h, Sem.run_pure]
theorem ok_lookup (hs : Sim P σ H w) (hρ : Ops P σ tm ρ) {o : Oper} {t : TypeId} {m k : Operand} {ok : Bool} (ho : o.op = .lookup t m k ok) : OpOk P σ H w tm ρ o := by
  unfold OpOk; rw [ho]
  refine good_onUnd fun d hu => ?_
  cases d <;> try exact trivial
  case map kt e =>
    refine good_keyK fun kd eq hk => good_onInfo fun i hi => good_onSome' fun z hz => ?_
    have g := hρ m
    have hfound : ∀ {a : AV} {v : Value} {b : Bool}, Rel σ a v → (execOp ρ o).run P w = .ok (.value (if ok then .tuple #[v, .bool b] else v)) w → Good P σ H w ((execOp ρ o).run P w) (found ok H a b) := by
      intro a v b ha hr
      unfold found
      cases ok with
      | true =>
        refine good_val hs hr ?_
        simp only [Rel]
        exact ⟨[v, .bool b], relL_cons ha (relL_one (by simp [Rel])), rfl⟩
      | false => exact good_val hs hr ha
    have hexec : ∀ {v : Value}, (Instr.lookup t (ρ m) (ρ k) ok).run P w = .ok v w → (execOp ρ o).run P w = .ok (.value v) w := fun h => by
      simp only [execOp, ho]; exact run_v h
    refine good_map (fun hx => ?_) fun b hx => good_obj fun ob hob => ?_
    · rw [hx] at g
      refine hfound (constA_rel σ z) (hexec ?_)
      rw [rel_nilm g]
      have hf := run_findKey (w := w) (kv := ρ k) (l := (#[] : Array MapEntry).toList) hk.und (r := none) rfl
      simp only [Instr.lookup, Sem.run_bind, run_underlying hu, Result.andThen_ok, Sem.run_pure, hk.check, hf, run_zeroV hi hz]
    · rw [hx] at g
      obtain ⟨l, hl, e1⟩ := rel_map g
      cases ob <;> try exact trivial
      case map es clock =>
        obtain ⟨c, hc, ho'⟩ := hs.alive b _ l hob hl
        obtain ⟨ents, rfl, hr, _⟩ := ho'
        refine good_find hk (hρ k) es ents.toList 0 hr (fun q => ?_) fun j a v ha q => ?_
        · refine hfound (constA_rel σ z) (hexec ?_)
          rw [e1]
          have hf := run_findKey (w := w) hk.und q
          simp only [Instr.lookup, Sem.run_bind, run_underlying hu, Result.andThen_ok, run_objM hc, Sem.run_pure, hk.check, hf, run_zeroV hi hz]
        · refine hfound ha (hexec ?_)
          rw [e1]
          have hf := run_findKey (w := w) hk.und q
          simp only [Instr.lookup, Sem.run_bind, run_underlying hu, Result.andThen_ok, run_objM hc, Sem.run_pure, hk.check, hf]
      case cmap es =>
        obtain ⟨c, hc, ho'⟩ := hs.alive b _ l hob hl
        obtain ⟨ents, clock, fs, rfl, hr, hp, ha⟩ := ho'
        show Good P σ H w _ (mapFind _ _ _ _ es)
        rcases mapFind_perm hk hp ha with hx2 | hx2
        · rw [hx2]; exact trivial
        rw [hx2]
        refine good_find hk (hρ k) fs ents.toList 0 hr (fun q => ?_) fun j a v ha q => ?_
        · refine hfound (constA_rel σ z) (hexec ?_)
          rw [e1]
          have hf := run_findKey (w := w) hk.und q
          simp only [Instr.lookup, Sem.run_bind, run_underlying hu, Result.andThen_ok, run_objM hc, Sem.run_pure, hk.check, hf, run_zeroV hi hz]
        · refine hfound ha (hexec ?_)
          rw [e1]
          have hf := run_findKey (w := w) hk.und q
          simp only [Instr.lookup, Sem.run_bind, run_underlying hu, Result.andThen_ok, run_objM hc, Sem.run_pure, hk.check, hf]
theorem ok_makeMap (hs : Sim P σ H w) {o : Oper} {t : TypeId} {r : Option Operand} (ho : o.op = .makeMap t r) : OpOk P σ H w tm ρ o := by
  unfold OpOk; rw [ho]
  cases r with
  | some r => exact trivial
  | none =>
    refine good_new (Tr.alloc hs (.map [] 0) (.map #[] 0) ⟨w.heap.size, 0, 0, 1⟩ rfl ⟨#[], rfl, entsRel_nil, by simp [Rising]⟩) (x := .map (some w.heap.size)) ?_ ?_
    · simp only [execOp, ho]
      refine run_v ?_
      simp [Instr.makeMap]
    · simp only [Rel]; exact ⟨_, Mp.put_same _ _ _, rfl⟩
/-- what a map comes to -/
theorem good_set {r : Result Next} {kt : TypeId} {kd : TypeDesc} {eq : AV → AV → Option Bool} (hk : KeyOk P σ kt kd eq) {k v : AV} {kv vv : Value} (hkr : Rel σ k kv) (hvr : Rel σ v vv) {clock : Nat} : ∀ (es : List Ent) (l : List MapEntry) (i : Nat) (done : List Ent → Nat → OR), EntsRel σ es l →
    (Instr.findNow kd kv l i = some none → (∀ e ∈ es, True) → Good P σ H w r (done (es ++ [⟨k, v, clock⟩]) (clock + 1))) →
    (∀ j a m u, es[j]? = some a → l[j]? = some m → EntRel σ a m → Instr.sameBits 10000 m.key kv = true → Instr.findNow kd kv l i = some (some (i + j, u)) → Good P σ H w r (done (es.set j ⟨k, v, a.born⟩) clock)) →
    Good P σ H w r (mapSet eq k v clock done es)
  | [], l, i, done, h, h1, h2 => by
    simp only [EntsRel] at h; subst h
    exact h1 rfl (by simp)
  | e :: es, l, i, done, h, h1, h2 => by
    obtain ⟨m, ms, g1, g2, rfl⟩ := h.cons_inv
    unfold mapSet
    cases he : eq k e.key with
    | none => exact trivial
    | some t =>
      have hn := hk.now _ _ _ _ t hkr g1.1 he
      cases t with
      | true =>
        have hb := hk.bits _ _ _ _ hkr g1.1 he
        exact h2 0 e m m.val rfl rfl g1 hb (by simp only [Instr.findNow, hn, Nat.add_zero])
      | false =>
        refine good_set hk hkr hvr es ms (i + 1) (fun l' c => done (e :: l') c) g2 (fun q _ => h1 ?_ (by simp)) (fun j a m' u q1 q2 q3 q4 q5 => h2 (j + 1) a m' u (by simpa using q1) (by simpa using q2) q3 q4 ?_)
        · simp only [Instr.findNow, hn]; exact q
        · simp only [Instr.findNow, hn]; rw [q5, show i + 1 + j = i + (j + 1) by omega]
theorem EntsRel.append : ∀ {es es2 : List Ent} {l l2 : List MapEntry}, EntsRel σ es l → EntsRel σ es2 l2 → EntsRel σ (es ++ es2) (l ++ l2)
  | [], es2, l, l2, h, h' => by simp only [EntsRel] at h; subst h; exact h'
  | a :: es, es2, l, l2, h, h' => by
    obtain ⟨m, ms, g1, g2, rfl⟩ := h.cons_inv
    exact entsRel_cons g1 (g2.append h')
theorem EntsRel.set {a : Ent} {m : MapEntry} (hm : EntRel σ a m) : ∀ {es : List Ent} {l : List MapEntry} (j : Nat), EntsRel σ es l → EntsRel σ (es.set j a) (l.set j m)
  | [], l, j, h => by simp only [EntsRel] at h; subst h; simpa using entsRel_nil
  | e :: es, l, 0, h => by
    obtain ⟨m', ms, g1, g2, rfl⟩ := h.cons_inv
    exact entsRel_cons hm g2
  | e :: es, l, j + 1, h => by
    obtain ⟨m', ms, g1, g2, rfl⟩ := h.cons_inv
    exact entsRel_cons g1 (g2.set hm j)
theorem rising_set {es : List Ent} {c j : Nat} {a : Ent} {k v : AV} (h : Rising es c) (ha : es[j]? = some a) : Rising (es.set j ⟨k, v, a.born⟩) c := by
  have key : (es.set j ⟨k, v, a.born⟩).map (·.born) = es.map (·.born) := by
    apply List.ext_getElem?
    intro i
    simp only [List.getElem?_map, List.getElem?_set]
    by_cases hij : j = i
    · subst hij
      have hlt : j < es.length := by
        rcases Nat.lt_or_ge j es.length with h | h
        · exact h
        · rw [List.getElem?_eq_none h] at ha; cases ha
      rw [if_pos rfl, if_pos hlt, ha]
      rfl
    · simp [hij]
  obtain ⟨h1, h2⟩ := h
  constructor
  · have : ((es.set j ⟨k, v, a.born⟩).map (·.born)).Pairwise (· < ·) := by rw [key]; exact List.pairwise_map.2 h1
    exact List.pairwise_map.1 this
  · intro e he
    have : e.born ∈ (es.set j ⟨k, v, a.born⟩).map (·.born) := List.mem_map_of_mem he
    rw [key] at this
    obtain ⟨e', he', h3⟩ := List.mem_map.1 this
    rw [← h3]; exact h2 e' he'
theorem rising_push {es : List Ent} {c : Nat} {k v : AV} (h : Rising es c) : Rising (es ++ [⟨k, v, c⟩]) (c + 1) := by
  obtain ⟨h1, h2⟩ := h
  constructor
  · rw [List.pairwise_append]
    refine ⟨h1, by simp, fun a ha b hb => ?_⟩
    rw [List.mem_singleton] at hb; subst hb
    exact h2 a ha
  · intro e he
    rcases List.mem_append.1 he with he | he
    · have := h2 e he; omega
    · rw [List.mem_singleton] at he; subst he; exact Nat.lt_succ_self c
theorem setObj_wrote {g : Nat} {es : Array MapEntry} {c : Nat} (ob : Go.Obj) (h : w.heap[g]? = some (.map es c)) : ∃ w', (setObj g ob).run P w = .ok () w' ∧ Wrote w w' g ob := by
  refine ⟨{ w with heap := w.heap.setIfInBounds g ob }, by simp [setObj, Sem.run, h], ⟨by simp, ?_, fun k hk => ?_, rfl, rfl, rfl⟩⟩
  · have : g < w.heap.size := (Array.getElem?_eq_some_iff.1 h).1
    simp [Array.getElem?_setIfInBounds, this]
  · simp only [Array.getElem?_setIfInBounds]
    rw [if_neg (fun e => hk e.symm)]
theorem good_mapUpd (hs : Sim P σ H w) (hρ : Ops P σ tm ρ) {o : Oper} {t kt e : TypeId} {m k x : Operand} {kd : TypeDesc} {eq : AV → AV → Option Bool} (hu : P.underlying t = some (.map kt e)) (hk : KeyOk P σ kt kd eq)
    (hex : ∀ w', (Instr.mapUpdate t (ρ m) (ρ k) (ρ x)).run P w = .ok () w' → (execOp ρ o).run P w = .ok .skip w') :
    Good P σ H w ((execOp ρ o).run P w) (oMapUpd eq (argE P m) (argE P k) (argE P x) tm H) := by
  have g := hρ m
  refine good_map (fun _ => trivial) fun b hx => good_obj fun ob hob => ?_
  rw [hx] at g
  obtain ⟨l, hl, e1⟩ := rel_map g
  cases ob <;> try exact trivial
  case map es clock =>
    refine good_if fun hro => ?_
    have hwr : Wr H b := ⟨Nat.le_of_ble_eq_true hro, _, hob, (fun r h => by cases h), fun h => by cases h⟩
    obtain ⟨c, hc, ho'⟩ := hs.alive b _ l hob hl
    obtain ⟨ents, rfl, hr, hris⟩ := ho'
    refine good_set hk (hρ k) (hρ x) es ents.toList 0 _ hr (fun q _ => ?_) fun j a mm u q1 q2 q3 q4 q5 => ?_
    · obtain ⟨w', hrun, hw⟩ := setObj_wrote (P := P) (.map (ents.push { key := ρ k, val := ρ x, born := clock }) (clock + 1)) hc
      refine ⟨σ, w', undef, .inr ⟨hex w' ?_, rfl⟩, by simp [undefA, undef, Rel, RelL], Tr.write hs hob hl hwr hw.size hw.new hw.old ⟨_, rfl, ?_, rising_push hris⟩ hw.tape hw.os hw.out⟩
      · rw [e1]
        have hf := run_findKey (w := w) hk.und q
        simp only [Instr.mapUpdate, Sem.run_bind, run_underlying hu, Result.andThen_ok, run_objM hc, hk.check, hf, hrun]
      · rw [Array.toList_push]
        exact hr.append (entsRel_cons ⟨hρ k, hρ x, rfl⟩ entsRel_nil)
    · obtain ⟨w', hrun, hw⟩ := setObj_wrote (P := P) (.map (ents.modify j fun e => { e with key := ρ k, val := ρ x }) clock) hc
      refine ⟨σ, w', undef, .inr ⟨hex w' ?_, rfl⟩, by simp [undefA, undef, Rel, RelL], Tr.write hs hob hl hwr hw.size hw.new hw.old ⟨_, rfl, ?_, rising_set hris q1⟩ hw.tape hw.os hw.out⟩
      · rw [e1]
        have hf := run_findKey (w := w) hk.und q5
        rw [Nat.zero_add] at hf
        have hej : ents[j]? = some mm := by rw [← Array.getElem?_toList]; exact q2
        simp only [Instr.mapUpdate, Sem.run_bind, run_underlying hu, Result.andThen_ok, run_objM hc, hk.check, hf, hej, Option.map_some, Option.getD_some, Instr.keyThatStays, q4, if_true, Sem.run_pure, hrun]
      · have e2 : (ents.modify j fun e => { e with key := ρ k, val := ρ x }).toList = ents.toList.set j { mm with key := ρ k, val := ρ x } := by
          apply List.ext_getElem?
          intro i
          rw [Array.getElem?_toList, Array.getElem?_modify, List.getElem?_set]
          by_cases hij : j = i
          · subst hij
            have hlt : j < ents.toList.length := by
              rcases Nat.lt_or_ge j ents.toList.length with h | h
              · exact h
              · rw [List.getElem?_eq_none h] at q2; cases q2
            have hej : ents[j]? = some mm := by rw [← Array.getElem?_toList]; exact q2
            rw [if_pos rfl, if_pos rfl, if_pos hlt, hej]; rfl
          · rw [if_neg hij, if_neg hij, Array.getElem?_toList]
        rw [e2]
        exact EntsRel.set (a := ⟨argE P k tm, argE P x tm, a.born⟩) (m := { mm with key := ρ k, val := ρ x }) ⟨hρ k, hρ x, q3.2.2⟩ j hr
theorem ok_mapUpdate (hs : Sim P σ H w) (hρ : Ops P σ tm ρ) {o : Oper} {t : TypeId} {m k x : Operand} (ho : o.op = .mapUpdate t m k x ∨ o.op = .insert t m k x) : OpOk P σ H w tm ρ o := by
  have hex : ∀ w', (Instr.mapUpdate t (ρ m) (ρ k) (ρ x)).run P w = .ok () w' → (execOp ρ o).run P w = .ok .skip w' := by
    intro w' h
    rcases ho with ho | ho <;> simp [execOp, ho, h]
  have key : Good P σ H w ((execOp ρ o).run P w) (onUnd P t (fun d => match d with | .map kt _ => onUnd P kt <| keyK fun eq => oMapUpd eq (argE P m) (argE P k) (argE P x) | _ => oBad) tm H) := by
    refine good_onUnd fun d hu => ?_
    cases d <;> try exact trivial
    case map kt e => exact good_keyK fun kd eq hk => good_mapUpd hs hρ hu hk hex
  unfold OpOk
  rcases ho with ho | ho
  · rw [ho]; exact key
  · rw [ho]; exact key
theorem ok_range (hs : Sim P σ H w) (hρ : Ops P σ tm ρ) {o : Oper} {t : TypeId} {x : Operand} (ho : o.op = .range t x) : OpOk P σ H w tm ρ o := by
  unfold OpOk; rw [ho]
  refine good_onUnd fun d hu => ?_
  have g := hρ x
  have hex : ∀ {v : Value} {w' : World}, (Instr.range t (ρ x)).run P w = .ok v w' → (execOp ρ o).run P w = .ok (.value v) w' := fun h => by
    simp only [execOp, ho]; exact run_v h
  cases d <;> try exact trivial
  case string =>
    refine good_str fun s hx => ?_
    rw [hx] at g
    refine good_new (Tr.alloc hs (.siter s 0) (.stringIter ⟨s.toArray⟩ 0) ⟨w.heap.size, 0, 0, 1⟩ rfl ⟨rfl, rfl⟩) (hex ?_) (rel_new rfl)
    rw [rel_str g]
    simp [Instr.range, run_underlying hu]
  case map kt e =>
    refine good_map (fun hx => ?_) fun b hx => good_obj fun ob hob => ?_
    · rw [hx] at g
      refine good_new (Tr.alloc hs (.miter none 0 none) (.mapIter none 0 #[] 0) ⟨w.heap.size, 0, 0, 1⟩ rfl ⟨#[], 0, rfl, (fun _ h => by cases h), rfl, rfl, rfl⟩) (hex ?_) (rel_new rfl)
      rw [rel_nilm g]
      simp [Instr.range, run_underlying hu]
    · rw [hx] at g
      obtain ⟨l, hl, e1⟩ := rel_map g
      cases ob <;> try exact trivial
      case map es clock =>
        obtain ⟨c, hc, ho'⟩ := hs.alive b _ l hob hl
        obtain ⟨ents, rfl, hr, _⟩ := ho'
        have hlt := hs.dom b l hl
        have hput : (σ.put H.nx ⟨w.heap.size, 0, 0, 1⟩) b = some l := by rw [Mp.put_old (by omega)]; exact hl
        refine good_new (Tr.alloc hs (.miter (some b) clock none) (.mapIter (some l.blk) clock #[] clock) ⟨w.heap.size, 0, 0, 1⟩ rfl ⟨#[], clock, ?_, ?_, rfl, rfl, rfl⟩) (hex ?_) (rel_new rfl)
        · simp [hput]
        · intro b' hb'; cases hb'; rw [hput]; rfl
        · rw [e1]
          simp [Instr.range, run_underlying hu, run_objM hc]
theorem run_objS {b : Nat} {s : ByteArray} {c : Nat} (h : w.heap[b]? = some (.stringIter s c)) : (getObj b).run P w = .ok (.stringIter s c) w := by simp [getObj, Sem.run, h]
theorem run_objI {b : Nat} {m : Option Nat} {a : Nat} {s : Array Nat} {c : Nat} (h : w.heap[b]? = some (.mapIter m a s c)) : (getObj b).run P w = .ok (.mapIter m a s c) w := by simp [getObj, Sem.run, h]
theorem setObjS_wrote {g : Nat} {s : ByteArray} {c : Nat} (ob : Go.Obj) (h : w.heap[g]? = some (.stringIter s c)) : ∃ w', (setObj g ob).run P w = .ok () w' ∧ Wrote w w' g ob := by
  refine ⟨{ w with heap := w.heap.setIfInBounds g ob }, by simp [setObj, Sem.run, h], ⟨by simp, ?_, fun k hk => ?_, rfl, rfl, rfl⟩⟩
  · have : g < w.heap.size := (Array.getElem?_eq_some_iff.1 h).1
    simp [Array.getElem?_setIfInBounds, this]
  · simp only [Array.getElem?_setIfInBounds]
    rw [if_neg (fun e => hk e.symm)]
theorem ok_next (hs : Sim P σ H w) (hρ : Ops P σ tm ρ) {o : Oper} {x : Operand} {b : Bool} (ho : o.op = .next x b) : OpOk P σ H w tm ρ o := by
  unfold OpOk; rw [ho]
  refine good_condF (fun hb => ?_) fun _ => good_bad
  subst hb
  have g := hρ x
  refine good_ptr fun b off hx => good_if fun h0 => good_if fun hro => good_obj fun ob hob => ?_
  rw [hx] at g
  obtain ⟨l, hl, e1⟩ := rel_ptr g
  rw [beq_nat] at h0
  have h0 : off = 0 := of_decide_eq_true h0
  subst h0
  cases ob <;> try exact trivial
  case siter s pos =>
    have hwr : Wr H b := ⟨Nat.le_of_ble_eq_true hro, _, hob, (fun r h => by cases h), fun h => by cases h⟩
    obtain ⟨c, hc, ho'⟩ := hs.alive b _ l hob hl
    obtain ⟨rfl, hbase⟩ := ho'
    rw [hbase] at e1
    have hex : ∀ {v : Value} {w' : World}, (Instr.next (ρ x) true o.type).run P w = .ok v w' → (execOp ρ o).run P w = .ok (.value v) w' := fun h => by
      simp only [execOp, ho]; exact run_v h
    have hsz : (ByteArray.mk s.toArray).size = s.length := size_mk s
    refine good_cond (fun hlt => ?_) fun hlt => ?_
    · rw [ble_nat, lenL_eq] at hlt
      have hlt : pos < s.length := of_decide_eq_true hlt
      cases hdec : Utf8.decode ⟨s.toArray⟩ pos with
      | mk ch wd =>
      obtain ⟨w', hrun, hw⟩ := setObjS_wrote (P := P) (.stringIter ⟨s.toArray⟩ (pos + wd)) hc
      refine good_new (Tr.write hs hob hl hwr hw.size hw.new hw.old ⟨rfl, hbase⟩ hw.tape hw.os hw.out) (x := .tuple #[.bool true, goInt pos, .int .i32 ch]) (hex ?_) ?_
      · rw [e1]
        simp only [Instr.next, Nat.zero_add, Sem.run_bind, run_objS hc, Result.andThen_ok, hsz, if_pos hlt, hdec, hrun, Sem.run_pure]
      · simp only [Rel]
        exact ⟨[.bool true, goInt pos, .int .i32 ch], relL_cons (by simp [Rel]) (relL_cons (by simp [Rel, goInt]) (relL_one (by simp [Rel]))), rfl⟩
    · rw [ble_nat, lenL_eq] at hlt
      have hlt : ¬ (pos < s.length) := of_decide_eq_false hlt
      refine good_val hs (x := .tuple #[.bool false]) (hex ?_) ?_
      · rw [e1]
        simp only [Instr.next, Nat.zero_add, Sem.run_bind, run_objS hc, Result.andThen_ok, hsz, if_neg hlt, Sem.run_pure]
      · simp only [Rel]
        exact ⟨[.bool false], relL_one (by simp [Rel]), rfl⟩
theorem good_born {r : Result Next} {n : Nat} {k : Ent → OR} : ∀ (es : List Ent) (l : List MapEntry), EntsRel σ es l → (∀ a m, EntRel σ a m → l.find? (·.born == n) = some m → Good P σ H w r (k a)) → Good P σ H w r (entBorn n k es)
  | [], l, h, g => trivial
  | a :: es, l, h, g => by
    obtain ⟨m, ms, h1, h2, rfl⟩ := h.cons_inv
    refine good_cond (fun he => g a m h1 ?_) fun he => good_born es ms h2 fun a' m' h3 h4 => g a' m' h3 ?_
    · rw [beq_nat] at he
      have he : a.born = n := of_decide_eq_true he
      rw [List.find?_cons_of_pos (by simp [← h1.2.2, he])]
    · rw [beq_nat] at he
      have he : ¬ a.born = n := of_decide_eq_false he
      rw [List.find?_cons_of_neg (by simp [← h1.2.2, he])]
      exact h4
theorem ok_entry (hs : Sim P σ H w) (hρ : Ops P σ tm ρ) {o : Oper} {x : Operand} (ho : o.op = .entry x) : OpOk P σ H w tm ρ o := by
  unfold OpOk; rw [ho]
  have g := hρ x
  refine good_ptr fun b off hx => good_if fun h0 => good_obj fun ob hob => ?_
  rw [hx] at g
  obtain ⟨l, hl, e1⟩ := rel_ptr g
  rw [beq_nat] at h0
  have h0 : off = 0 := of_decide_eq_true h0
  subst h0
  show Good P σ H w _ (asMiter ob _)
  unfold asMiter
  split
  · rename_i m since n st
    obtain ⟨c, hc, ho'⟩ := hs.alive b _ l hob hl
    obtain ⟨seen, st', rfl, hm, hbase, hback, rfl⟩ := ho'
    rw [hbase] at e1
    refine good_obj fun om hom => ?_
    cases om <;> try exact trivial
    case map es clock =>
      refine good_if fun hcl => ?_
      rw [beq_nat] at hcl
      have hcl : clock = st' := of_decide_eq_true hcl
      subst hcl
      obtain ⟨lm, hlm⟩ := Option.isSome_iff_exists.1 (hm m rfl)
      obtain ⟨cm, hcm, hom'⟩ := hs.alive m _ lm hom hlm
      obtain ⟨ents, rfl, hr, _⟩ := hom'
      refine good_born es ents.toList hr fun a me hae hf => ?_
      refine good_val hs (x := .tuple #[me.key, me.val]) ?_ ?_
      · simp only [execOp, ho]
        refine run_v ?_
        rw [e1]
        have hf' : ents.find? (fun x => x.born == n) = some me := by rw [← Array.find?_toList]; exact hf
        simp only [Option.bind_some, hlm, Option.map_some] at hc
        simp only [Instr.entry, Nat.zero_add, Sem.run_bind, run_objI hc, Result.andThen_ok, hback, run_objM hcm, bne_self_eq_false, Bool.false_eq_true, if_false, hf', Sem.run_pure]
      · simp only [Rel]
        exact ⟨[me.key, me.val], relL_cons hae.1 (relL_one hae.2.1), rfl⟩
  · trivial
theorem ok_assertT (hs : Sim P σ H w) (hρ : Ops P σ tm ρ) {o : Oper} {x : Operand} {xt t : TypeId} {ok : Bool} (ho : o.op = .typeAssert x xt t ok) : OpOk P σ H w tm ρ o := by
  unfold OpOk; rw [ho]
  refine good_onInfo fun i hi => good_onSome' fun z hz => good_onUnd fun d hu => ?_
  have g := hρ x
  have hex : ∀ {v : Value} {w' : World}, (Instr.typeAssert (ρ x) xt t ok).run P w = .ok v w' → (execOp ρ o).run P w = .ok (.value v) w' := fun h => by
    simp only [execOp, ho]; exact run_v h
  have hzero := run_zeroV (w := w) hi hz
  have no : (∀ (h : ok = true), (Instr.typeAssert (ρ x) xt t ok).run P w = .ok (.tuple #[z, .bool false]) w) → Good P σ H w ((execOp ρ o).run P w) (asserted (constA z) ok H none) := by
    intro h
    cases ok with
    | false => exact trivial
    | true =>
      refine good_val hs (hex (h rfl)) ?_
      simp only [Rel]
      exact ⟨[z, .bool false], relL_cons (constA_rel σ z) (relL_one (by simp [Rel])), rfl⟩
  have yes : ∀ {a : AV} {v : Value}, Rel σ a v → (Instr.typeAssert (ρ x) xt t ok).run P w = .ok (if ok then .tuple #[v, .bool true] else v) w → Good P σ H w ((execOp ρ o).run P w) (asserted (constA z) ok H (some a)) := by
    intro a v ha h
    cases ok with
    | false => exact good_val hs (hex h) ha
    | true =>
      refine good_val hs (hex h) ?_
      simp only [Rel]
      exact ⟨[v, .bool true], relL_cons ha (relL_one (by simp [Rel])), rfl⟩
  by_cases hd : ∃ ms, d = .interface ms
  · obtain ⟨ms, rfl⟩ := hd
    show Good P σ H w _ (oAssertI (argE P x) P (msOf P t) (constA z) ok tm H)
    have hms : msOf P t = ms := by unfold msOf; rw [hu]
    rw [hms]
    refine good_iface (fun hx => ?_) fun u v hx => good_some fun iu hiu => ?_
    · rw [hx] at g
      have g := rel_nili g
      refine no fun h => ?_
      rw [g]
      simp [Instr.typeAssert, run_underlying hu, h, hzero]
    · rw [hx] at g
      obtain ⟨y, hy, e1⟩ := rel_iface g
      have hti : (typeInfo u).run P w = .ok iu w := by simp [typeInfo, hiu]
      cases hmm : Instr.missingMethod ms iu.methods with
      | none =>
        refine yes (v := ρ x) (by rw [← hx]; exact hρ x) ?_
        rw [e1]
        simp [Instr.typeAssert, run_underlying hu, hti, hmm]
      | some m =>
        refine no fun h => ?_
        rw [e1]
        simp [Instr.typeAssert, run_underlying hu, hti, hmm, h, hzero]
  · have hd : ∀ ms, d ≠ .interface ms := fun ms h => hd ⟨ms, h⟩
    have key : Good P σ H w ((execOp ρ o).run P w) (oAssert (argE P x) t (constA z) ok tm H) := by
      refine good_iface (fun hx => ?_) fun u v hx => ?_
      · rw [hx] at g
        have g := rel_nili g
        refine no fun h => ?_
        rw [g]
        cases d <;> first
          | exact absurd rfl (hd _)
          | simp [Instr.typeAssert, run_underlying hu, h, hzero]
      · rw [hx] at g
        obtain ⟨y, hy, e1⟩ := rel_iface g
        rw [beq_nat]
        by_cases hut : u = t
        · rw [decide_eq_true hut]
          refine yes hy ?_
          rw [e1]
          cases d <;> first
            | exact absurd rfl (hd _)
            | simp [Instr.typeAssert, run_underlying hu, hut]
        · rw [decide_eq_false hut]
          refine no fun h => ?_
          rw [e1]
          cases d <;> first
            | exact absurd rfl (hd _)
            | simp [Instr.typeAssert, run_underlying hu, hut, h, hzero]
    cases d <;> first
      | exact absurd rfl (hd _)
      | exact key
theorem relL_args (hρ : Ops P σ tm ρ) (l : Array Operand) : RelL σ (evs tm (args P l)) (l.map ρ).toList := by
  have := relL_evs hρ l.toList
  unfold args
  simpa using this
theorem good_callF {r : Result Next} {f : Nat} {as : List AV} {vs : List Value} (hr : RelL σ as vs) (h : r = (callFunc f ⟨vs⟩).run P w) : Good P σ H w r (.oth (.call f as H)) := ⟨rfl, vs, hr, h⟩
/-- a method by name -/
theorem good_methodA {r : Result Next} {name : String} {u : Nat} {k : Nat → OR}
    (h : ∀ g, (∀ (n : Nat) (v : Value), (method (n + 1) u v name).run P w = .ok (g, v) w) → Good P σ H w r (k g)) : Good P σ H w r (methodA P name u k) := by
  refine good_some fun i hi => good_some fun m hm => good_if fun hp => ?_
  have hti : (typeInfo u).run P w = .ok i w := by simp [typeInfo, hi]
  have hpl : m.path.toList = [] := by
    have : m.path = #[] := by simpa using hp
    rw [this]
  cases hf : m.func with
  | none => exact trivial
  | some q =>
    obtain ⟨g, ptr⟩ := q
    show Good P σ H w r (match P.underlying u with
      | some (.pointer _) => onIf ptr (k g)
      | some _ => cond ptr .fail (k g)
      | none => .fail)
    cases hu : P.underlying u with
    | none => exact trivial
    | some d =>
      have base : ∀ (n : Nat) (v : Value), (method (n + 1) u v name).run P w = (do pure (g, ← receiverAt u (.val v) ptr (if m.path.isEmpty then some ((name.splitOn ".").getLastD name) else none)) : Sem (FuncId × Value)).run P w := by
        intro n v
        simp only [method, Sem.run_bind, hti, Result.andThen_ok, hm, hpl, follow, Sem.run_pure, hf]
      cases d <;> first
        | (refine good_if fun hptr => h g fun n v => ?_
           subst hptr
           rw [base]
           simp [receiverAt, run_underlying hu, Place.get]
           done)
        | (cases ptr with
           | true => exact trivial
           | false =>
             refine h g fun n v => ?_
             rw [base]
             simp [receiverAt, run_underlying hu, Place.get])
theorem run_callMethod {name : String} {u g : Nat} {v : Value} {args : Array Value} (h : ∀ (n : Nat) (v : Value), (method (n + 1) u v name).run P w = .ok (g, v) w) : (callMethod (.iface u v) name args).run P w = (callFunc g (#[v] ++ args)).run P w := by
  have : (P.types.size + Made.depth) = (P.types.size + Made.depth - 1) + 1 := by
    have : 0 < Made.depth := by decide
    omega
  simp only [callMethod, Sem.run_bind, run_program, Result.andThen_ok]
  rw [this, h]
  rfl
theorem good_invoke {r : Result Next} {n : String} {u : Nat} {a : AV} {x : Value} {as : List AV} {vs : List Value} (ha : Rel σ a x) (hr : RelL σ as vs) (h : r = (callMethod (.iface u x) n ⟨vs⟩).run P w) :
    Good P σ H w r (methodA P n u fun g => .oth (.call g (a :: as) H)) := by
  refine good_methodA fun g hm => good_callF (vs := x :: vs) (relL_cons ha hr) ?_
  rw [h, run_callMethod hm]
  congr 2
  apply Array.ext'
  simp
theorem invoke_meth (name : String) (cap : Array Value) (r : Value) (as : Array Value) : invoke (.fn (.method name) cap) (#[r] ++ as) = callMethod r name ⟨as.toList⟩ := by
  have h1 : (#[r] ++ as)[0]? = some r := by rw [Array.getElem?_append_left (by simp)]; rfl
  have h2 : (#[r] ++ as).extract 1 (#[r] ++ as).size = ⟨as.toList⟩ := by
    apply Array.ext'
    simp [List.extract_eq_take_drop]
  simp only [invoke, h1, h2]
theorem ok_call (hs : Sim P σ H w) (hρ : Ops P σ tm ρ) {o : Oper} {c : Call} (ho : o.op = .call c) (hb : ∀ b, c.callee ≠ .builtin b) : OpOk P σ H w tm ρ o := by
  unfold OpOk; rw [ho]
  have hargs := relL_args hρ c.args
  have hex : (execOp ρ o).run P w = (do let d ← resolve ρ c o.type; invoke d.target d.args : Sem Next).run P w := by simp only [execOp, ho]
  rw [hex]
  show Good P σ H w _ (callC P c tm H)
  unfold callC
  cases hc : c.callee with
  | builtin b => exact absurd hc (hb b)
  | invoke rv name =>
    have g := hρ rv
    refine good_iface (fun _ => trivial) fun u a hx => ?_
    rw [hx] at g
    obtain ⟨x, hx', e1⟩ := rel_iface g
    refine good_invoke hx' hargs ?_
    simp only [resolve, hc, Sem.run_bind, Sem.run_pure, Result.andThen_ok, invoke_meth, e1]
  | value f =>
    have gen : Good P σ H w ((do let d ← resolve ρ c o.type; invoke d.target d.args : Sem Next).run P w) (oCall (argE P f) P (args P c.args) tm H) := by
      have g := hρ f
      unfold oCall
      split
      · rename_i fn a b hx
        rw [hx] at g
        obtain ⟨x, y, h1, h2, e1⟩ := rel_func g
        refine good_callF (h1.append (hargs.append h2)) ?_
        simp only [resolve, hc, e1, Deferred.ofValue, Sem.run_bind, Sem.run_pure, Result.andThen_ok, invoke]
        congr 2
        apply Array.ext'
        simp
      · rename_i n rv hx
        rw [hx] at g
        simp only [Rel] at g
        obtain ⟨x, h1, e1⟩ := g
        refine good_iface (fun _ => trivial) fun u a hrv => ?_
        rw [hrv] at h1
        obtain ⟨y, hy, e2⟩ := rel_iface h1
        refine good_invoke hy hargs ?_
        simp only [resolve, hc, e1, Deferred.ofValue, Sem.run_bind, Sem.run_pure, Result.andThen_ok, e2]
        exact congrArg (fun s => s.run P w) (invoke_meth n #[] (.iface u y) (Array.map ρ c.args))
      · rename_i b hx
        rw [hx] at g
        simp only [Rel] at g
        obtain ⟨l, hl, e1⟩ := g
        refine ⟨rfl, l, _, hl, hargs, ?_⟩
        simp only [resolve, hc, e1, Deferred.ofValue, Sem.run_bind, Sem.run_pure, Result.andThen_ok, invoke]
        congr 2
        apply Array.ext'
        simp
      · trivial
    cases f with
    | func fn =>
      have g := hρ (.func fn)
      have g : Rel σ (.func fn [] []) (ρ (.func fn)) := g
      obtain ⟨x, y, h1, h2, e1⟩ := rel_func g
      have h1 := h1.nil_inv
      have h2 := h2.nil_inv
      subst h1; subst h2
      refine good_callF hargs ?_
      simp only [resolve, hc, e1, Deferred.ofValue, Sem.run_bind, Sem.run_pure, Result.andThen_ok, invoke]
      congr 2
      apply Array.ext'
      simp
    | tmp t => exact gen
    | const v => exact gen
    | global v => exact gen
theorem good_panic {r : Result Next} {a : AV} {x : Value} (ha : Rel σ a x) (h : ∀ v, (Instr.panic x).run P w = .halt v w → r = .halt v w) : Good P σ H w r (onIface a .fail fun _ _ => .oth (.pan a H)) := by
  refine good_iface (fun _ => trivial) fun u b hx => ?_
  rw [hx] at ha
  obtain ⟨y, hy, e1⟩ := rel_iface ha
  refine ⟨rfl, x, by rw [hx]; exact ha, h _ ?_⟩
  rw [e1]
  rfl
theorem ok_panic (hs : Sim P σ H w) (hρ : Ops P σ tm ρ) {o : Oper} {x : Operand} (ho : o.op = .panic x) : OpOk P σ H w tm ρ o := by
  unfold OpOk; rw [ho]
  refine good_panic (hρ x) fun v h => ?_
  simp only [execOp, ho]
  simp [h]
theorem ok_panicB (hs : Sim P σ H w) (hρ : Ops P σ tm ρ) {o : Oper} {xs : List Operand} {ts : List TypeId} (ho : o.op = .call ⟨.builtin .panic, ⟨xs⟩, ⟨ts⟩⟩) : OpOk P σ H w tm ρ o := by
  refine call_builtin ho fun cs => ?_
  rcases xs with _ | ⟨x, _ | ⟨_, _⟩⟩ <;> try exact trivial
  refine good_panic (hρ x) fun v h => ?_
  show ((do pure (Next.value (← Instr.panic (ρ x)))) : Sem Next).run P w = _
  simp [h]
theorem ok_recover (hs : Sim P σ H w) (hρ : Ops P σ tm ρ) {o : Oper} {xs : List Operand} {ts : List TypeId} (ho : o.op = .call ⟨.builtin .recover, ⟨xs⟩, ⟨ts⟩⟩) : OpOk P σ H w tm ρ o := by
  refine call_builtin ho fun cs => ?_
  rfl
theorem ok_defer (hs : Sim P σ H w) (hρ : Ops P σ tm ρ) {o : Oper} {c : Call} (ho : o.op = .defer c) : OpOk P σ H w tm ρ o := by
  unfold OpOk; rw [ho]
  show Good P σ H w _ ((match c.callee with | .value f => oDefer (argE P f) (args P c.args) | _ => oBad) tm H)
  cases hc : c.callee with
  | builtin b => exact trivial
  | invoke rv name => exact trivial
  | value f =>
    intro g a b hx
    have g1 := hρ f
    rw [hx] at g1
    obtain ⟨x, y, h1, h2, e1⟩ := rel_func g1
    refine ⟨x, _, y, h1, relL_args hρ c.args, h2, ?_⟩
    simp only [execOp, ho, resolve, hc, e1, Deferred.ofValue, Sem.run_bind, Sem.run_pure, Result.andThen_ok]
    congr 3
    apply Array.ext'
    simp
/-- every operation is compiled well -/
theorem compOp_ok (hs : Sim P σ H w) (hρ : Ops P σ tm ρ) (o : Oper) : OpOk P σ H w tm ρ o := by
  cases ho : o.op with
  | move x => exact ok_move hs hρ ho
  | assign x => exact ok_assign hs hρ ho
  | pick c a b => exact ok_pick hs hρ ho
  | alloc t => exact ok_alloc hs ho
  | box t x => exact ok_box hs hρ ho
  | build t ps => exact ok_build hs hρ ho
  | buildSlice t n ps => exact ok_bslice hs hρ ho
  | load t a => exact ok_load hs hρ ho
  | store t a x => exact ok_store hs hρ ho
  | nilCheck x => exact ok_nil hs hρ ho
  | binOp op t x y u => cases op with
    | add => exact ok_add hs hρ ho
    | sub => exact ok_sub hs hρ ho
    | mul => exact ok_mul hs hρ ho
    | quo => exact ok_quo hs hρ ho
    | rem => exact ok_rem hs hρ ho
    | and => unfold OpOk; have h := ok_bits (f := landF) hs hρ ho (.inl ⟨rfl, rfl⟩); rw [ho]; exact h
    | or => unfold OpOk; have h := ok_bits (f := lorF) hs hρ ho (.inr (.inl ⟨rfl, rfl⟩)); rw [ho]; exact h
    | xor => unfold OpOk; have h := ok_bits (f := xorF) hs hρ ho (.inr (.inr (.inl ⟨rfl, rfl⟩))); rw [ho]; exact h
    | andNot => unfold OpOk; have h := ok_bits (f := andNotF) hs hρ ho (.inr (.inr (.inr ⟨rfl, rfl⟩))); rw [ho]; exact h
    | shl => exact ok_shl hs hρ ho
    | shr => exact ok_shr hs hρ ho
    | eql => exact ok_eql hs hρ ho
    | neq => exact ok_neq hs hρ ho
    | lss => exact ok_lss hs hρ ho
    | gtr => exact ok_gtr hs hρ ho
    | leq => exact ok_leq hs hρ ho
    | geq => exact ok_geq hs hρ ho
  | unOp op t x => exact ok_un hs hρ ho
  | convert s d x => exact ok_convert hs hρ ho
  | makeInterface t x =>
    unfold OpOk; rw [ho]
    refine good_onUnd fun d hu => ?_
    have h := fun hd => ok_mkif hs hρ ho hu hd
    cases d <;> first
      | exact trivial
      | exact h rfl
  | makeFunc fn a b => exact ok_mkfunc hs hρ ho
  | makeMap t r => exact ok_makeMap hs ho
  | mapUpdate t m k x => exact ok_mapUpdate hs hρ (.inl ho)
  | insert t m k x => exact ok_mapUpdate hs hρ (.inr ho)
  | lookup t m k ok => exact ok_lookup hs hρ ho
  | makeSlice t l c => exact ok_mkslice hs hρ ho
  | slice t x lo hi mx => exact ok_slice hs hρ ho
  | fieldAddr t x f => exact ok_fieldAddr hs hρ ho
  | field t x f => exact ok_field hs hρ ho
  | indexAddr t x i => exact ok_indexAddr hs hρ ho
  | index t x i => exact ok_index hs hρ ho
  | typeAssert x xt t ok => exact ok_assertT hs hρ ho
  | extract x i => exact ok_extract hs hρ ho
  | call c =>
    by_cases hb : ∃ b, c.callee = .builtin b
    · obtain ⟨b, hb⟩ := hb
      obtain ⟨callee, ⟨xs⟩, ⟨ts⟩⟩ := c
      subst hb
      cases b with
      | append => exact ok_append hs hρ ho
      | copy => exact ok_copy hs hρ ho
      | len => exact ok_len hs hρ ho
      | cap => exact ok_cap hs hρ ho
      | min => exact ok_minmax (mx := false) hs hρ ho
      | max => exact ok_minmax (mx := true) hs hρ ho
      | unsafeString => exact ok_ustr hs hρ ho
      | unsafeSliceData => exact ok_usdata hs hρ ho
      | panic => exact ok_panicB hs hρ ho
      | recover => exact ok_recover hs hρ ho
      | _ => unfold OpOk; rw [ho]; exact trivial
    · exact ok_call hs hρ ho fun b h => hb ⟨b, h⟩
  | defer c => exact ok_defer hs hρ ho
  | panic x => exact ok_panic hs hρ ho
  | range t x => exact ok_range hs hρ ho
  | next x b => exact ok_next hs hρ ho
  | entry x => exact ok_entry hs hρ ho
  | _ => unfold OpOk; rw [ho]; exact trivial
end
end
end Go.AI
