/- pax.Last on the machine. -/
import Derived.Test.YtfkkljjgkopkfaaGreatDoorZzA
import Derived.Test.YtfkkljjgkopkfaaGreatDoorZzD
set_option maxRecDepth 1000000
set_option maxHeartbeats 0
set_option linter.all false
namespace Go.Proofs
open Go.RowKit Go.Shelf
attribute [local go_sem] Oper.semAt_some

theorem cell_pair (W : World) (cs : Array Value) (t : Nat) (i : Nat) (v : Value) (h : cs[i]? = some v) : (W.alloc (.cells cs t)).cell? ⟨W.heap.size, i, none⟩ = some v := by
  have hn : (W.alloc (.cells cs t)).heap[W.heap.size]? = some (.cells cs t) := World.alloc_heap_new W _
  unfold World.cell?
  rw [hn]
  simpa using h
theorem bkU_map (zs : List (List UInt8 × List UInt8)) {k : Nat} (hk : k ≤ zs.length) : (bkU zs k).map (·.2) = zs.reverse.take k := by
  apply List.ext_getElem
  · simp [bkU]; omega
  · intro i h1 h2
    have h3 : i < k := by simpa [bkU] using h1
    simp only [bkU, bkN, List.map_map, List.getElem_map, List.getElem_range, Function.comp, List.getElem_take, List.getElem_reverse]
    rw [List.getElem?_eq_getElem (by omega)]
    rfl
theorem lastR_none {zs : List (List UInt8 × List UInt8)} {key : List UInt8} (h : ∀ p ∈ bkU zs zs.length, p.2.1 ≠ key) : lastR zs key = ([], false) := by
  have e := bkU_map zs (Nat.le_refl _)
  rw [List.take_of_length_le (by simp)] at e
  unfold lastR
  rw [← e, List.find?_eq_none.2]
  intro x hx
  obtain ⟨p, hp, rfl⟩ := List.mem_map.1 hx
  simpa using h p hp
theorem lastR_some {zs : List (List UInt8 × List UInt8)} {key : List UInt8} {k : Nat} (hk : k ≤ zs.length) {ini : List BkE} {last : BkE} (e : bkU zs k = ini ++ [last]) (h : ∀ p ∈ ini, p.2.1 ≠ key) (hl : last.2.1 = key) : lastR zs key = (last.2.2, true) := by
  have e2 := bkU_map zs hk
  rw [e, List.map_append] at e2
  unfold lastR
  rw [← List.take_append_drop k zs.reverse, ← e2, List.find?_append, List.find?_append, List.find?_eq_none.2]
  · simp [hl]
  · intro x hx
    obtain ⟨p, hp, rfl⟩ := List.mem_map.1 hx
    simpa using h p hp

set_option maxRecDepth 100000 in
set_option maxHeartbeats 4000000 in
theorem last_in (F : Fence) (n : Nat) (h4 : F.fn 113) (h6 : F.fn 138) (h8 : F.fn 163) (hro : F.round = none) (hn : 3 ≤ n) (a : Option Addr) (len cap : Nat) (key : List UInt8) (zs : List (List UInt8 × List UInt8)) (hreach : zs.length * 32 ≤ 140737488351232) (w : World) (hI : RecsAt w.heap.size w (.slice a len cap) zs) :
    CallsIn F n Tryz.prog 113 #[.slice a len cap, encStr key] w fun e W' => e = .returned (.tuple #[encStr (lastR zs key).1, .bool (lastR zs key).2]) ∧ Below w.heap.size w W' := by
  have h1 : 1 ≤ n := by omega
  refine callsIn_of_wp_marks Tryz.func113 rfl h4 ?_ hro
  simp only [Tryz.ntmps113, List.size_toArray, List.length_cons, List.length_nil, Nat.reduceAdd, Nat.reduceSub, Array.replicate_succ, Array.replicate_zero, List.push_toArray, List.append_toArray, List.nil_append, List.cons_append]
  gi_wp2_with (gi_at_call 138; refine (bk_in F (n - 1) h6 hro _ _ _ _).mono ?_; rintro e w' ⟨rfl, rfl⟩)
  have bK := (((Boxed.new w 9 (encStr key)).alloc (.cells #[.string { data := #[] }] 9)).alloc (.cells #[.bool false] 4)).alloc (.cells #[.slice a len cap] 48)
  have bV := ((Boxed.new (w.alloc (.cells #[encStr key] 9)) 9 (.string { data := #[] })).alloc (.cells #[.bool false] 4)).alloc (.cells #[.slice a len cap] 48)
  have bB := (Boxed.new ((w.alloc (.cells #[encStr key] 9)).alloc (.cells #[.string { data := #[] }] 9)) 4 (.bool false)).alloc (.cells #[.slice a len cap] 48)
  have bN := Boxed.new (((w.alloc (.cells #[encStr key] 9)).alloc (.cells #[.string { data := #[] }] 9)).alloc (.cells #[.bool false] 4)) 48 (.slice a len cap)
  have hB0 : Below w.heap.size w ((((w.alloc (.cells #[encStr key] 9)).alloc (.cells #[.string { data := #[] }] 9)).alloc (.cells #[.bool false] 4)).alloc (.cells #[.slice a len cap] 48)) :=
    ((((Below.refl _ w).alloc (Nat.le_refl _) _).alloc (by simp) _).alloc (by simp; omega) _).alloc (by simp; omega) _
  have hsz : ((((w.alloc (.cells #[encStr key] 9)).alloc (.cells #[.string { data := #[] }] 9)).alloc (.cells #[.bool false] 4)).alloc (.cells #[.slice a len cap] 48)).heap.size = w.heap.size + 1 + 1 + 1 + 1 := by simp
  simp only [World.size_alloc] at bV bB bN
  obtain ⟨W0, hW0⟩ : ∃ W0, (((w.alloc (.cells #[encStr key] 9)).alloc (.cells #[.string { data := #[] }] 9)).alloc (.cells #[.bool false] 4)).alloc (.cells #[.slice a len cap] 48) = W0 := ⟨_, rfl⟩
  rw [hW0] at bK bV bB bN hB0 hsz ⊢
  clear hW0
  refine wpIn_rangeFunc_ownH hro h1 (gf := 163) (lb := #[.pointer (some ⟨w.heap.size + 1 + 1 + 1, 0, none⟩)]) rfl h8 (enters_of Tryz.func163 (by kernel_rfl) rfl)
    (bk_stops F (n - 1) h8 hro (by omega) (w.heap.size + 1 + 1 + 1) w.heap.size _ zs hreach W0 (by omega) (by omega) bN.cell (hI.below hB0)) KpB.trans (fun W l o o' hl ho hc _ => ⟨belowK_b (w := W0) (by omega) W l o o' hl ho hc (by assumption), fun v e => ?kb⟩) (Below.refl _ _) (fun _ => rfl)
    (fun pre W => ((((∀ p ∈ pre, p.2.1 ≠ key) ∧ Boxed W w.heap.size 9 (encStr key)) ∧ Boxed W (w.heap.size + 1) 9 (.string { data := #[] })) ∧ Boxed W (w.heap.size + 1 + 1) 4 (.bool false)) ∧ Below w.heap.size w W)
    (fun c pre W => (((c = .ret ∧ ∃ ini last, pre = ini ++ [last] ∧ (∀ p ∈ ini, p.2.1 ≠ key) ∧ last.2.1 = key ∧ Boxed W (w.heap.size + 1) 9 (encStr last.2.2)) ∧ Boxed W (w.heap.size + 1 + 1) 4 (.bool true))) ∧ Below w.heap.size w W)
    (OwnFrom.and (OwnFrom.and (OwnFrom.and (OwnFrom.and (fun _ _ _ _ hs _ _ => hs) (Own.from (boxed_own _ _ _) _)) (Own.from (boxed_own _ _ _) _)) (Own.from (boxed_own _ _ _) _)) (ownFrom_below (Nat.le_refl _) (by omega)))
    (fun c => OwnFrom.and (OwnFrom.and (fun s A B row hs hg hr => by obtain ⟨h1, ini, last, e1, e2, e3, e4⟩ := hs; exact ⟨h1, ini, last, e1, e2, e3, boxed_own _ _ (fun (_ : Unit) => encStr last.2.2) () A B row e4 hg (fun r e => (hr r e).2)⟩) (Own.from (boxed_own _ _ _) _)) (ownFrom_below (Nat.le_refl _) (by omega)))
    ⟨⟨⟨⟨by simp, bK⟩, bV⟩, bB⟩, hB0⟩
    (fun x a' W => ∃ Bx, w.heap.size + 1 + 1 < Bx ∧ W.cell? ⟨Bx, 0, none⟩ = some (encStr x.2.1) ∧ W.cell? ⟨Bx, 1, none⟩ = some (encStr x.2.2) ∧
      a' = { tmps := #[.slice a len cap, encStr key, undef, .pointer (some ⟨w.heap.size, 0, none⟩), .pointer (some ⟨w.heap.size + 1, 0, none⟩), .pointer (some ⟨w.heap.size + 1 + 1, 0, none⟩), undef, .pointer (some ⟨Bx, 0, none⟩), .slice a len cap, .func (.func 163) #[] #[.pointer (some ⟨w.heap.size + 1 + 1 + 1, 0, none⟩)], .int .i64 (x.1 : Int), .agg #[encStr x.2.1, encStr x.2.2], undef, undef, undef, undef, undef, undef], defers := [] })
    (fun x a' _ X Y row hs hg hr => by obtain ⟨Bx, h1, h2, h3, h4⟩ := hs; exact ⟨Bx, h1, cell_kept h2 hg (fun r e => (hr r e).2), cell_kept h3 hg (fun r e => (hr r e).2), h4⟩)
    ?assign ?body ?done ?stop
  case kb =>
    obtain ⟨o2, ho2, hc2⟩ := cells_of_cell e
    have hne : (w.heap.size + 1 + 1 + 1) ≠ l := by
      intro h
      have ho3 : W.heap[l]? = some o2 := by rw [← h]; exact ho2
      rw [ho] at ho3; cases ho3; rw [hc] at hc2; cases hc2
    exact (World.cell?_of_block (World.putObj_heap_other hne)).trans e
  case assign =>
    rintro l pre x W K ⟨⟨⟨⟨hp, bK1⟩, bV1⟩, bB1⟩, hB1⟩ hK
    gi_wp2
    have hlt1 := bB1.lt
    refine hK _ _ ((KeepsOthers.alloc _ _).from _) ⟨(Below.refl _ W).alloc hB1.size _, fun v e => cell_kept e (World.grownBy_alloc W _ none) (by simp)⟩ ⟨⟨⟨⟨hp, bK1.alloc _⟩, bV1.alloc _⟩, bB1.alloc _⟩, hB1.alloc hB1.size _⟩ ⟨W.heap.size, hlt1, ?_, ?_, rfl⟩
    · exact cell_pair W _ _ 0 _ rfl
    · exact cell_pair W _ _ 1 _ rfl
  case body =>
    rintro l pre x a' W hl ⟨r, hr⟩ ⟨⟨⟨⟨hp, bK1⟩, bV1⟩, bB1⟩, hB1⟩ ⟨Bx, hBx, c0, c1, rfl⟩ hlt
    have cK := bK1.cell
    have cV := bV1.cell
    have fV := bV1.frozen
    have cB := bB1.cell
    have fB := bB1.frozen
    gi_wp2
    · have hx : x.2.1 = key := by have h : (x.2.1 == key) = true := by assumption
                                  simpa using h
      exact ⟨((KeepsOthers.setCell _ _ _).trans (KeepsOthers.setCell _ _ _)).from _, ⟨⟨rfl, pre, x, rfl, hp, hx, (bV1.set _).other (by omega) _⟩, (bB1.other (by omega) _).set _⟩,
        (hB1.setCell (p := ⟨w.heap.size + 1, 0, none⟩) (by simp) _).setCell (p := ⟨w.heap.size + 1 + 1, 0, none⟩) (by simp; omega) _⟩
    · have hx : x.2.1 ≠ key := by have h : (x.2.1 == key) = false := by assumption
                                  simpa using h
      exact ⟨KeepsFrom.refl _ _, KpB.refl _ _ _, ⟨⟨⟨fun p hp' => (List.mem_append.1 hp').elim (hp p) (fun e => by simp at e; subst e; exact hx), bK1⟩, bV1⟩, bB1⟩, hB1⟩
  case done =>
    rintro D ys W hD rfl ⟨⟨⟨⟨hp, bK1⟩, bV1⟩, bB1⟩, hB1⟩ hK
    have cV := bV1.cell
    have fV := bV1.frozen
    have cB := bB1.cell
    have fB := bB1.frozen
    gi_wp2
    have hK' := ((KeepsOthers.setCell W ⟨w.heap.size + 1, 0, none⟩ (.string { data := #[] })).trans (KeepsOthers.setCell _ ⟨w.heap.size + 1 + 1, 0, none⟩ (.bool false))).same D _ hK rfl
    refine ⟨by simp, .inl ⟨_, _, rfl, run_takeDeferred hK', ?_⟩⟩
    have c5 := cell_kept ((bV1.set (.string { data := #[] })).other (B' := w.heap.size + 1 + 1) (by omega) (.bool false)).cell (grownBy_putObj' _ D (.deferred none)) (fun r e => by cases e; exact ⟨_, hK', rfl⟩)
    have c6 := cell_kept ((bB1.other (B' := w.heap.size + 1) (by omega) (.string { data := #[] })).set (.bool false)).cell (grownBy_putObj' _ D (.deferred none)) (fun r e => by cases e; exact ⟨_, hK', rfl⟩)
    rw [lastR_none hp]
    refine ⟨.tuple #[.string { data := #[] }, .bool false], ?_, rfl, ((hB1.setCell (p := ⟨w.heap.size + 1, 0, none⟩) (by simp) _).setCell (p := ⟨w.heap.size + 1 + 1, 0, none⟩) (by simp; omega) _).trans (belowK_b (w := w) (Nat.le_refl _) _ D _ _ (by omega) hK' rfl rfl)⟩
    simp [results, Tryz.f113, go_sem, c5, c6]
  case stop =>
    rintro D c pre W hD ⟨k, hk, rfl⟩ ⟨⟨⟨rfl, ini, last, e1, e2, e3, bV1⟩, bB1⟩, hB1⟩ hK
    gi_wp2
    refine ⟨by simp, .inl ⟨_, _, rfl, run_takeDeferred hK, ?_⟩⟩
    have c5 := cell_kept bV1.cell (grownBy_putObj' _ D (.deferred none)) (fun r e => by cases e; exact ⟨_, hK, rfl⟩)
    have c6 := cell_kept bB1.cell (grownBy_putObj' _ D (.deferred none)) (fun r e => by cases e; exact ⟨_, hK, rfl⟩)
    rw [lastR_some hk e1 e2 e3]
    refine ⟨.tuple #[encStr last.2.2, .bool true], ?_, rfl, hB1.trans (belowK_b (w := w) (Nat.le_refl _) W D _ _ (by omega) hK rfl rfl)⟩
    simp [results, Tryz.f113, go_sem, c5, c6]
end Go.Proofs
