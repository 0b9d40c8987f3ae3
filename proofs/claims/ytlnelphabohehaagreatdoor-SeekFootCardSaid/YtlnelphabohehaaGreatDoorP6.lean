/- Calls that have been evaluated by themselves may be looked up; memory that is kept; arguments that are numbers: proved for every world that is told. -/
import Derived.Test.YtlnelphabohehaaGreatDoorP5
import Derived.WideShapes
import Derived.WideKeyElems2
import Derived.ChangeShapes
set_option maxRecDepth 1000000
set_option maxHeartbeats 0
set_option linter.unusedVariables false
set_option linter.unusedSimpArgs false
namespace Go.AI
open Go
noncomputable section
section
variable {P : Program}
noncomputable def memoRow (e : Nat) (l : List AV) : Obj := .row ⟨e, 1, lenL l, T.ofList l, .unk, 0, false, false, false⟩
noncomputable def putM (e : Nat → Nat) : List (Nat × List AV) → T Obj → T Obj
  | [], t => t
  | (g, l) :: gs, t => putM e gs (t.set g (memoRow (e g) l))
noncomputable def gsOk (H : Heap) (gs : List (Nat × List AV)) : Bool := List.rec true (fun x _ ih => cond (match H.t.get x.1 with | some (.row r) => cond (Nat.beq r.sz 1) (cond (Nat.ble (lenL x.2) r.size) (sameL (loadN r 0 (lenL x.2)) x.2) false) false | _ => false) ih false) gs
noncomputable def isRet (v : AV) (r : CR) : Bool := match r with | .ret u _ => same u v | _ => false
theorem putM_get (e : Nat → Nat) : ∀ (gs : List (Nat × List AV)) (t : T Obj) (b : Nat) (o : Obj), (putM e gs t).get b = some o → (∃ l, (b, l) ∈ gs ∧ o = memoRow (e b) l) ∨ t.get b = some o
  | [], t, b, o, h => .inr h
  | (g, l) :: gs, t, b, o, h => by
    rcases putM_get e gs _ b o h with ⟨l2, h1, h2⟩ | h1
    · exact .inl ⟨l2, List.mem_cons_of_mem _ h1, h2⟩
    · rw [T.get_set] at h1
      by_cases e3 : g = b
      · rw [if_pos e3] at h1; cases h1; subst e3; exact .inl ⟨l, List.mem_cons_self .., rfl⟩
      · rw [if_neg e3] at h1; exact .inr h1
theorem gsOk_mem {H : Heap} : ∀ {gs : List (Nat × List AV)}, gsOk H gs = true → ∀ x ∈ gs, ∃ r, H.t.get x.1 = some (.row r) ∧ r.sz = 1 ∧ lenL x.2 ≤ r.size ∧ loadN r 0 (lenL x.2) = x.2
  | [], _, x, hx => by cases hx
  | y :: gs, h, x, hx => by
    obtain ⟨h1, h2⟩ := cond_true_iff (a := match H.t.get y.1 with | some (.row r) => cond (Nat.beq r.sz 1) (cond (Nat.ble (lenL y.2) r.size) (sameL (loadN r 0 (lenL y.2)) y.2) false) false | _ => false) (b := gsOk H gs) h
    rcases List.mem_cons.1 hx with rfl | hx
    · cases hg : H.t.get x.1 with
      | none => rw [hg] at h1; cases h1
      | some o =>
        rw [hg] at h1
        cases o with
        | row r =>
          obtain ⟨h3, h4⟩ := cond_true_iff h1
          obtain ⟨h4, h5⟩ := cond_true_iff h4
          exact ⟨r, rfl, Nat.eq_of_beq_eq_true h3, Nat.le_of_ble_eq_true h4, sameL_eq _ _ h5⟩
        | _ => cases h1
    · exact gsOk_mem h2 x hx
/-- a part of a row, by itself -/
theorem rowRel_part {σ σ' : Mp} {r : Row} {l : Loc} {cs : Array Value} {fr : Nat × Nat} (h : RowRel σ r l cs fr) (hsz : r.sz = 1) {o : Nat} {key : List AV} (hk : loadN r o (lenL key) = key) (hle : o + lenL key ≤ r.size)
    (hlow : lowL 0 key = true) {tot : Nat} (h1 : lenL key ≤ tot) (h2 : l.base + o + tot ≤ cs.size) (e : Nat) : RowRel σ' ⟨e, 1, lenL key, T.ofList key, .unk, 0, false, false, false⟩ ⟨l.blk, l.base + o, tot, 1⟩ cs fr := by
  obtain ⟨vs, h3, _, h5, _⟩ := loadN_rel h (lenL key) o hle
  rw [hk] at h3
  have h6 : RelL σ' key vs := by
    have := RelL.cut (n := 0) hlow h3
    exact RelL.mono (fun b l hb => by have := (Mp.cut_some hb).1; omega) this
  refine ⟨rfl, Nat.le_refl _, by show lenL key ≤ tot * 1; omega, by show l.base + o + tot * 1 ≤ cs.size; omega, (fun h => by cases h), fun i hi => ?_, fun i v hi hv => h.one (o + i) v (by have hi : i < lenL key := hi; omega) (by rw [← Nat.add_assoc]; exact hv), (fun h => by cases h), (fun h => by cases h)⟩
  have hi : i < lenL key := hi
  have hi' : i < key.length := by rw [lenL_eq] at hi; exact hi
  obtain ⟨v, h7, h8⟩ := h6.get (i := i) (a := key[i]) (List.getElem?_eq_getElem hi')
  refine ⟨v, ?_, ?_⟩
  · exact h5 i v h7
  · rw [Row.get_eq]
    show Rel σ' (((T.ofList key).get i).getD .unk) v
    rw [T.get_ofList, List.getElem?_eq_getElem hi']
    exact h8

end

/-! ### Objects as they are written down -/
inductive LO where
  | row (elem sz : Nat) (l : List AV) (fz : Nat) (sm own exact : Bool)
  | map (es : List Ent) (clock : Nat)
  | cmap (es : List Ent)
def LO.obj : LO → Obj
  | .row e sz l fz sm own exact => .row ⟨e, sz, lenL l, T.ofList l, .unk, fz, sm, own, exact⟩
  | .map es c => .map es c
  | .cmap es => .cmap es
def sameU (a b : AV) : Bool := match a with | .unk => (match b with | .unk => true | _ => false) | a => same a b
def sameUL : List AV → List AV → Bool
  | [], [] => true
  | a :: as, b :: bs => cond (sameU a b) (sameUL as bs) false
  | _, _ => false
def sameB (a b : Bool) : Bool := cond a b (cond b false true)
def sameE : List Ent → List Ent → Bool
  | [], [] => true
  | a :: as, b :: bs => cond (Nat.beq a.born b.born) (cond (same a.key b.key) (cond (same a.val b.val) (sameE as bs) false) false) false
  | _, _ => false
def isO (o : Obj) (x : LO) : Bool := match o, x with
  | .row r, .row e sz l fz sm own exact => cond (Nat.beq r.elem e) (cond (Nat.beq r.sz sz) (cond (Nat.beq r.size (lenL l)) (cond (Nat.beq r.fz fz) (cond (sameB r.sm sm) (cond (sameB r.own own) (cond (sameB r.exact exact)
      (sameUL (loadN r 0 r.size) l) false) false) false) false) false) false) false
  | .map es c, .map fs d => cond (Nat.beq c d) (sameE es fs) false
  | .cmap es, .cmap fs => sameE es fs
  | _, _ => false
theorem sameU_eq {a b : AV} (h : sameU a b = true) : a = b := by
  unfold sameU at h
  split at h
  · split at h
    · rfl
    · cases h
  · exact same_eq _ _ h
theorem sameUL_eq : ∀ {a b : List AV}, sameUL a b = true → a = b
  | [], [], _ => rfl
  | [], _ :: _, h => by cases h
  | _ :: _, [], h => by cases h
  | a :: as, b :: bs, h => by
    obtain ⟨h1, h2⟩ := cond_true_iff (a := sameU a b) (b := sameUL as bs) h
    rw [sameU_eq h1, sameUL_eq h2]
theorem sameB_eq {a b : Bool} (h : sameB a b = true) : a = b := by
  cases a <;> cases b <;> first | rfl | cases h
theorem sameE_eq : ∀ {a b : List Ent}, sameE a b = true → a = b
  | [], [], _ => rfl
  | [], _ :: _, h => by cases h
  | _ :: _, [], h => by cases h
  | a :: as, b :: bs, h => by
    obtain ⟨h1, h2⟩ := cond_true_iff (a := Nat.beq a.born b.born) (b := cond (same a.key b.key) (cond (same a.val b.val) (sameE as bs) false) false) h
    obtain ⟨h2, h3⟩ := cond_true_iff h2
    obtain ⟨h3, h4⟩ := cond_true_iff h3
    have e1 := Nat.eq_of_beq_eq_true h1
    have e2 := same_eq _ _ h2
    have e3 := same_eq _ _ h3
    rw [sameE_eq h4]
    cases a; cases b
    simp only at e1 e2 e3
    rw [e1, e2, e3]
/-- two objects of which the same is told -/
structure Alike (o p : Obj) : Prop where
  to : ∀ σ l c, ObjRel σ o l c → ObjRel σ p l c
  of : ∀ σ l c, ObjRel σ p l c → ObjRel σ o l c
  wr : wrO o = wrO p
  soft : Soft o ↔ Soft p
theorem rowRel_alike {σ : Mp} {r q : Row} {l : Loc} {cs : Array Value} {fr : Nat × Nat} (h1 : r.sz = q.sz) (h2 : r.size = q.size) (h3 : r.fz = q.fz) (h4 : r.sm = q.sm) (h5 : r.own = q.own) (h6 : r.exact = q.exact)
    (h7 : ∀ i, i < r.size → r.get i = q.get i) (h : RowRel σ r l cs fr) : RowRel σ q l cs fr := by
  refine ⟨h.sz.trans h1, h.sz1, by rw [← h2]; exact h.fits, h.room, ?_, ?_, by rw [← h2]; exact h.one, ?_, ?_⟩
  · rw [← h6, ← h2]; exact h.exact
  · intro i hi
    rw [← h2] at hi
    rw [← h7 i hi]; exact h.cell i hi
  · rw [← h5, ← h3]; exact h.frz
  · rw [← h5, ← h4, ← h3]; exact h.frs
theorem isO_alike {o : Obj} {x : LO} (h : isO o x = true) : Alike o x.obj := by
  unfold isO at h
  split at h
  · rename_i r e sz l fz sm own exact
    obtain ⟨a1, h⟩ := cond_true_iff h
    obtain ⟨a2, h⟩ := cond_true_iff h
    obtain ⟨a3, h⟩ := cond_true_iff h
    obtain ⟨a4, h⟩ := cond_true_iff h
    obtain ⟨a5, h⟩ := cond_true_iff h
    obtain ⟨a6, h⟩ := cond_true_iff h
    obtain ⟨a7, h⟩ := cond_true_iff h
    have a1 := Nat.eq_of_beq_eq_true a1
    have a2 := Nat.eq_of_beq_eq_true a2
    have a3 := Nat.eq_of_beq_eq_true a3
    have a4 := Nat.eq_of_beq_eq_true a4
    have a5 := sameB_eq a5
    have a6 := sameB_eq a6
    have a7 := sameB_eq a7
    have a8 := sameUL_eq h
    have hget : ∀ i, i < r.size → r.get i = (⟨e, sz, lenL l, T.ofList l, .unk, fz, sm, own, exact⟩ : Row).get i := by
      intro i hi
      have g1 := loadN_get r r.size 0 i hi
      rw [a8, Nat.zero_add] at g1
      rw [Row.get_eq ⟨e, sz, lenL l, T.ofList l, .unk, fz, sm, own, exact⟩]
      show _ = ((T.ofList l).get i).getD .unk
      rw [T.get_ofList, g1]
      rfl
    refine ⟨fun σ l' c hr => ?_, fun σ l' c hr => ?_, ?_, fun ⟨r', e', h'⟩ => by cases e'; exact ⟨_, rfl, a6.symm.trans h'⟩, fun ⟨r', e', h'⟩ => by cases e'; exact ⟨_, rfl, a6.trans h'⟩⟩
    · obtain ⟨cs, fr, rfl, hr⟩ := hr
      exact ⟨cs, fr, by rw [a1], rowRel_alike a2 a3 a4 a5 a6 a7 hget hr⟩
    · obtain ⟨cs, fr, rfl, hr⟩ := hr
      exact ⟨cs, fr, by rw [a1], rowRel_alike a2.symm a3.symm a4.symm a5.symm a6.symm a7.symm (fun i hi => (hget i (by rw [a3]; exact hi)).symm) hr⟩
    · show r.own = own
      exact a6
  · rename_i es c fs d
    obtain ⟨a1, a2⟩ := cond_true_iff h
    have a1 := Nat.eq_of_beq_eq_true a1
    have a2 := sameE_eq a2
    subst a1; subst a2
    exact ⟨fun _ _ _ h => h, fun _ _ _ h => h, rfl, Iff.rfl⟩
  · rename_i es fs
    have a2 := sameE_eq h
    subst a2
    exact ⟨fun _ _ _ h => h, fun _ _ _ h => h, rfl, Iff.rfl⟩
  · cases h
/-! ### Entries -/
structure CE where
  args : List AV
  nx : Nat
  ro : Nat
  pre : List (Nat × LO)
  v : AV
  nx2 : Nat
  post : List (Nat × LO)
  dead : List Nat
def putO : List (Nat × LO) → T Obj → T Obj
  | [], t => t
  | x :: l, t => (putO l t).set x.1 x.2.obj
def delO : List Nat → T Obj → T Obj
  | [], t => t
  | b :: l, t => (delO l t).del b
def findO (b : Nat) : List (Nat × LO) → Option LO
  | [] => none
  | x :: l => cond (Nat.beq x.1 b) (some x.2) (findO b l)
def memN (b : Nat) : List Nat → Bool
  | [] => false
  | x :: l => cond (Nat.beq x b) true (memN b l)
/-- the part of the heap that it sees -/
def CE.heap (x : CE) (gs : List (Nat × List AV)) (e : Nat → Nat) : Heap := ⟨x.nx, putO x.pre (putM e gs .leaf), x.ro⟩
def CE.after (x : CE) (H : Heap) : Heap := ⟨x.nx2, putO x.post (delO x.dead H.t), H.ro⟩
def hasO (H : Heap) (b : Nat) (o : LO) : Bool := match H.t.get b with | some p => isO p o | none => false
def hasAll (H : Heap) (l : List (Nat × LO)) : Bool := List.rec true (fun x _ ih => cond (hasO H x.1 x.2) ih false) l
def noneAll (H : Heap) (l : List Nat) : Bool := List.rec true (fun b _ ih => cond (match H.t.get b with | none => true | _ => false) ih false) l
def keepAll (H : Heap) (x : CE) (l : List (Nat × LO)) : Bool := List.rec true (fun y _ ih => cond (cond (memN y.1 x.dead) true (match findO y.1 x.post with | some _ => true | none => hasO H y.1 y.2)) ih false) l
/-- does it come out so? -/
def CE.out (x : CE) (r : CR) : Bool := match r with
  | .ret v H => cond (same v x.v) (cond (Nat.beq H.nx x.nx2) (cond (hasAll H x.post) (cond (keepAll H x x.pre) (noneAll H x.dead) false) false) false) false
  | _ => false
/-- what is put is new, or was there and was other -/
def newAll (x : CE) (l : List (Nat × LO)) : Bool := List.rec true (fun y _ ih => cond (Nat.ble x.ro y.1) (cond (memN y.1 x.dead) false
  (cond (match findO y.1 x.pre with | some p => cond (isO p.obj y.2) false true | none => cond (Nat.ble x.nx y.1) (wrO y.2.obj) false) ih false)) false) l
def deadAll (x : CE) (l : List Nat) : Bool := List.rec true (fun b _ ih => cond (Nat.ble x.ro b) (match findO b x.pre with | some _ => ih | none => false) false) l
def hardAll (l : List (Nat × LO)) : Bool := List.rec true (fun y _ ih => cond (wrO y.2.obj) ih false) l
def CE.wf (x : CE) : Bool := cond (newAll x x.post) (cond (deadAll x x.dead) (hardAll x.pre) false) false
def CE.is (x : CE) (gs : List (Nat × List AV)) (args : List AV) (H : Heap) : Bool := cond (Nat.beq H.nx x.nx) (cond (Nat.beq H.ro x.ro) (cond (sameL args x.args) (cond (gsOk H gs) (hasAll H x.pre) false) false) false) false
def findC (gs : List (Nat × List AV)) (args : List AV) (H : Heap) (l : List CE) : Option CR := List.rec none (fun x _ ih => cond (x.is gs args H) (some (.ret x.v (x.after H))) ih) l

theorem findO_put (e : Nat → Nat) (gs : List (Nat × List AV)) : ∀ (l : List (Nat × LO)) (t : T Obj) (b : Nat), (putO l t).get b = match findO b l with | some o => some o.obj | none => t.get b
  | [], t, b => rfl
  | x :: l, t, b => by
    show ((putO l t).set x.1 x.2.obj).get b = match cond (Nat.beq x.1 b) (some x.2) (findO b l) with | some o => some o.obj | none => t.get b
    rw [T.get_set, beq_nat]
    by_cases h : x.1 = b
    · rw [if_pos h, decide_eq_true h]; rfl
    · rw [if_neg h, decide_eq_false h]; exact findO_put e gs l t b
theorem memN_del : ∀ (l : List Nat) (t : T Obj) (b : Nat), (delO l t).get b = cond (memN b l) none (t.get b)
  | [], t, b => rfl
  | x :: l, t, b => by
    show ((delO l t).del x).get b = cond (cond (Nat.beq x b) true (memN b l)) none (t.get b)
    rw [T.get_del, beq_nat]
    by_cases h : x = b
    · rw [if_pos h, decide_eq_true h]; rfl
    · rw [if_neg h, decide_eq_false h]; exact memN_del l t b
theorem findO_mem {b : Nat} {o : LO} : ∀ {l : List (Nat × LO)}, findO b l = some o → (b, o) ∈ l
  | [], h => by cases h
  | x :: l, h => by
    have h : cond (Nat.beq x.1 b) (some x.2) (findO b l) = some o := h
    cases e : Nat.beq x.1 b with
    | true =>
      rw [e] at h; cases h
      have := Nat.eq_of_beq_eq_true e
      subst this
      exact List.mem_cons_self ..
    | false => rw [e] at h; exact List.mem_cons_of_mem _ (findO_mem h)
theorem memN_mem {b : Nat} : ∀ {l : List Nat}, memN b l = true → b ∈ l
  | [], h => by cases h
  | x :: l, h => by
    have h : cond (Nat.beq x b) true (memN b l) = true := h
    cases e : Nat.beq x b with
    | true =>
      have := Nat.eq_of_beq_eq_true e
      subst this
      exact List.mem_cons_self ..
    | false => rw [e] at h; exact List.mem_cons_of_mem _ (memN_mem h)
theorem hasAll_mem {H : Heap} : ∀ {l : List (Nat × LO)}, hasAll H l = true → ∀ x ∈ l, ∃ o, H.t.get x.1 = some o ∧ Alike o x.2.obj ∧ isO o x.2 = true
  | [], _, x, hx => by cases hx
  | y :: l, h, x, hx => by
    obtain ⟨h1, h2⟩ := cond_true_iff (a := hasO H y.1 y.2) (b := hasAll H l) h
    rcases List.mem_cons.1 hx with rfl | hx
    · unfold hasO at h1
      split at h1
      · rename_i p hp
        exact ⟨p, hp, isO_alike h1, h1⟩
      · cases h1
    · exact hasAll_mem h2 x hx
theorem noneAll_mem {H : Heap} : ∀ {l : List Nat}, noneAll H l = true → ∀ b ∈ l, H.t.get b = none
  | [], _, x, hx => by cases hx
  | y :: l, h, x, hx => by
    obtain ⟨h1, h2⟩ := cond_true_iff (a := match H.t.get y with | none => true | _ => false) (b := noneAll H l) h
    rcases List.mem_cons.1 hx with rfl | hx
    · split at h1
      · assumption
      · cases h1
    · exact noneAll_mem h2 x hx
theorem keepAll_mem {H : Heap} {x : CE} : ∀ {l : List (Nat × LO)}, keepAll H x l = true → ∀ y ∈ l, memN y.1 x.dead = true ∨ (∃ o, findO y.1 x.post = some o) ∨ ∃ o, H.t.get y.1 = some o ∧ Alike o y.2.obj
  | [], _, x, hx => by cases hx
  | z :: l, h, y, hy => by
    obtain ⟨h1, h2⟩ := cond_true_iff (a := cond (memN z.1 x.dead) true (match findO z.1 x.post with | some _ => true | none => hasO H z.1 z.2)) (b := keepAll H x l) h
    rcases List.mem_cons.1 hy with rfl | hy
    · cases e : memN y.1 x.dead with
      | true => exact .inl rfl
      | false =>
        rw [e] at h1
        cases e2 : findO y.1 x.post with
        | some o => exact .inr (.inl ⟨o, rfl⟩)
        | none =>
          rw [e2] at h1
          have h1 : hasO H y.1 y.2 = true := h1
          unfold hasO at h1
          split at h1
          · rename_i p hp
            exact .inr (.inr ⟨p, hp, isO_alike h1⟩)
          · cases h1
    · exact keepAll_mem h2 y hy
theorem newAll_mem {x : CE} : ∀ {l : List (Nat × LO)}, newAll x l = true → ∀ y ∈ l, x.ro ≤ y.1 ∧ memN y.1 x.dead = false ∧ ((∃ p, findO y.1 x.pre = some p ∧ isO p.obj y.2 = false) ∨ (x.nx ≤ y.1 ∧ wrO y.2.obj = true))
  | [], _, x, hx => by cases hx
  | z :: l, h, y, hy => by
    obtain ⟨h1, h⟩ := cond_true_iff (a := Nat.ble x.ro z.1) (b := cond (memN z.1 x.dead) false
  (cond (match findO z.1 x.pre with | some p => cond (isO p.obj z.2) false true | none => cond (Nat.ble x.nx z.1) (wrO z.2.obj) false) (newAll x l) false)) h
    cases e : memN z.1 x.dead with
    | true => rw [e] at h; cases h
    | false =>
      rw [e] at h
      obtain ⟨h2, h3⟩ := cond_true_iff (a := match findO z.1 x.pre with | some p => cond (isO p.obj z.2) false true | none => cond (Nat.ble x.nx z.1) (wrO z.2.obj) false) (b := newAll x l) h
      rcases List.mem_cons.1 hy with rfl | hy
      · refine ⟨Nat.le_of_ble_eq_true h1, e, ?_⟩
        split at h2
        · rename_i p hp
          refine .inl ⟨p, hp, ?_⟩
          cases e3 : isO p.obj y.2 with
          | true => rw [e3] at h2; cases h2
          | false => rfl
        · obtain ⟨h4, h5⟩ := cond_true_iff h2
          exact .inr ⟨Nat.le_of_ble_eq_true h4, h5⟩
      · exact newAll_mem h3 y hy
theorem deadAll_mem {x : CE} : ∀ {l : List Nat}, deadAll x l = true → ∀ b ∈ l, x.ro ≤ b ∧ ∃ p, findO b x.pre = some p
  | [], _, x, hx => by cases hx
  | z :: l, h, b, hb => by
    obtain ⟨h1, h⟩ := cond_true_iff (a := Nat.ble x.ro z) (b := match findO z x.pre with | some _ => deadAll x l | none => false) h
    split at h
    · rename_i p hp
      rcases List.mem_cons.1 hb with rfl | hb
      · exact ⟨Nat.le_of_ble_eq_true h1, p, hp⟩
      · exact deadAll_mem h b hb
    · cases h
theorem findC_mem {gs : List (Nat × List AV)} {args : List AV} {H : Heap} {r : CR} : ∀ {l : List CE}, findC gs args H l = some r → ∃ x ∈ l, x.is gs args H = true ∧ r = .ret x.v (x.after H)
  | [], h => by cases h
  | x :: l, h => by
    have h : cond (x.is gs args H) (some (.ret x.v (x.after H))) (findC gs args H l) = some r := h
    cases e : x.is gs args H with
    | true => rw [e] at h; cases h; exact ⟨x, List.mem_cons_self .., e, rfl⟩
    | false =>
      rw [e] at h
      obtain ⟨y, hy, h1⟩ := findC_mem h
      exact ⟨y, List.mem_cons_of_mem _ hy, h1⟩
section
variable {P : Program}
theorem hardAll_mem : ∀ {l : List (Nat × LO)}, hardAll l = true → ∀ y ∈ l, wrO y.2.obj = true
  | [], _, _, hy => by cases hy
  | z :: l, h, y, hy => by
    obtain ⟨h1, h2⟩ := cond_true_iff (a := wrO z.2.obj) (b := hardAll l) h
    rcases List.mem_cons.1 hy with rfl | hy
    · exact h1
    · exact hardAll_mem h2 y hy
theorem Soft.wrO {o : Obj} (h : Soft o) : wrO o = false := by
  obtain ⟨r, rfl, e⟩ := h
  exact e
theorem wr_wrO {H : Heap} {b : Nat} (h : Wr H b) : H.ro ≤ b ∧ ∃ o, H.t.get b = some o ∧ wrO o = true := by
  obtain ⟨h1, o, h2, h3, h4⟩ := h
  refine ⟨h1, o, h2, ?_⟩
  cases o with
  | row r => exact h3 r rfl
  | loop => exact absurd rfl h4
  | _ => rfl
theorem cut_ok {call : Nat → List AV → Heap → CR} (hcall : CallOk P call) {f : FuncId} {tab : List CE} {gs : List (Nat × List AV)}
    (htab : ∀ x ∈ tab, x.wf = true ∧ ∀ e, x.out (call f x.args (x.heap gs e)) = true)
    {args : List AV} {H : Heap} {r : CR} (h : findC gs args H tab = some r) {σ : Mp} {w : World} {vs : List Value} (hs : Sim P σ H w) (hv : RelL σ args vs) : CROk P σ H w r ((callFunc f ⟨vs⟩).run P w) := by
  obtain ⟨x, hx, his, rfl⟩ := findC_mem h
  obtain ⟨hwf, hout⟩ := htab x hx
  obtain ⟨i1, his⟩ := cond_true_iff his
  obtain ⟨i2, his⟩ := cond_true_iff his
  obtain ⟨i3, his⟩ := cond_true_iff his
  obtain ⟨i4, i5⟩ := cond_true_iff his
  have i1 : H.nx = x.nx := Nat.eq_of_beq_eq_true i1
  have i2 : H.ro = x.ro := Nat.eq_of_beq_eq_true i2
  have i3 := sameL_eq _ _ i3
  have hpre := hasAll_mem i5
  obtain ⟨w1, w2⟩ := cond_true_iff hwf
  have hnew := newAll_mem w1
  obtain ⟨w2, w3⟩ := cond_true_iff w2
  have hdead := deadAll_mem w2
  have hhard := hardAll_mem w3
  subst i3
  let e : Nat → Nat := fun y => match H.t.get y with | some (.row q) => q.elem | _ => 0
  have hcr0 := hout e
  -- the part
  have hget : ∀ y o, (x.heap gs e).t.get y = some o → (∃ p, findO y x.pre = some p ∧ o = p.obj) ∨ (findO y x.pre = none ∧ ∃ l, (y, l) ∈ gs ∧ o = memoRow (e y) l) := by
    intro y o hy
    have hy : (putO x.pre (putM e gs .leaf)).get y = some o := hy
    rw [findO_put e gs] at hy
    cases hf : findO y x.pre with
    | some p => rw [hf] at hy; cases hy; exact .inl ⟨p, rfl, rfl⟩
    | none =>
      rw [hf] at hy
      rcases putM_get e gs .leaf y o hy with h | h
      · exact .inr ⟨rfl, h⟩
      · rw [T.get_leaf] at h; cases h
  have inH : ∀ y o, (x.heap gs e).t.get y = some o → ∃ o', H.t.get y = some o' ∧ (∀ l c, ObjRel σ o' l c → ObjRel σ o l c) ∧ (wrO o = true → wrO o' = true) ∧ (Soft o' → Soft o) := by
    intro y o hy
    rcases hget y o hy with ⟨p, hp, rfl⟩ | ⟨_, l, hl, rfl⟩
    · obtain ⟨o', h1, h2, _⟩ := hpre _ (findO_mem hp)
      exact ⟨o', h1, h2.to σ, fun h => h2.wr.trans h, h2.soft.1⟩
    · obtain ⟨q, g3, g4, g5, g6⟩ := gsOk_mem i4 _ hl
      have g5 : lenL l ≤ q.size := g5
      have g6 : loadN q 0 (lenL l) = l := g6
      have g3 : H.t.get y = some (.row q) := g3
      refine ⟨_, g3, fun l' c hc => ?_, (fun h => by cases h), fun _ => ⟨_, rfl, rfl⟩⟩
      obtain ⟨cs, fr, rfl, hr⟩ := hc
      have hey : e y = q.elem := by show (match H.t.get y with | some (.row q) => q.elem | _ => 0) = _; rw [g3]
      refine ⟨cs, fr, by rw [hey], ?_⟩
      have gsz : l'.sz = 1 := by rw [hr.sz, g4]
      refine ⟨gsz, hr.sz1, by have := hr.fits; show lenL l ≤ _; omega, hr.room, (fun h => by cases h), fun i hi => ?_, fun i v hi hv => hr.one i v (Nat.lt_of_lt_of_le hi g5) hv, (fun h => by cases h), (fun h => by cases h)⟩
      have hi : i < lenL l := hi
      obtain ⟨v, h7, h8⟩ := hr.cell i (by omega)
      refine ⟨v, h7, ?_⟩
      have g7 := loadN_get q (lenL l) 0 i hi
      rw [g6, Nat.zero_add] at g7
      rw [Row.get_eq]
      show Rel σ (((T.ofList l).get i).getD .unk) v
      rw [T.get_ofList, g7]
      exact h8
  have hsim : Sim P σ (x.heap gs e) w := by
    refine ⟨fun y l hy => by show y < x.nx; rw [← i1]; exact hs.dom y l hy, fun y o hy => ?_, fun y o l hy hl => ?_, fun y y' o o' l l' hy hy' hl hl' he => ?_, hs.glob, by show x.ro ≤ x.nx; rw [← i1, ← i2]; exact hs.ro⟩
    · obtain ⟨o', h1, _⟩ := inH y o hy
      show y < x.nx
      rw [← i1]; exact hs.low y o' h1
    · obtain ⟨o', h1, h2, _⟩ := inH y o hy
      obtain ⟨c, hc, hr⟩ := hs.alive y o' l h1 hl
      exact ⟨c, hc, h2 l c hr⟩
    · obtain ⟨o1, h1, _, _, s1⟩ := inH y o hy
      obtain ⟨o2, h2, _, _, s2⟩ := inH y' o' hy'
      exact (hs.inj y y' o1 o2 l l' h1 h2 hl hl' he).imp_right fun s => ⟨s1 s.1, s2 s.2⟩
  have wrH : ∀ y, Wr (x.heap gs e) y → Wr H y ∧ ∃ p, findO y x.pre = some p := by
    intro y hy
    obtain ⟨h1, o, h2, h3⟩ := wr_wrO hy
    obtain ⟨o', g1, g2, g3, _⟩ := inH y o h2
    refine ⟨wrO_wr g1 (by rw [i2]; exact h1) (g3 h3), ?_⟩
    rcases hget y o h2 with ⟨p, hp, _⟩ | ⟨_, l, _, rfl⟩
    · exact ⟨p, hp⟩
    · cases h3
  have hcr := hcall f x.args (x.heap gs e) σ w vs hsim hv
  generalize call f x.args (x.heap gs e) = res at hcr hcr0
  cases res with
  | fail => cases hcr0
  | pan _ _ => cases hcr0
  | ret v H' =>
    obtain ⟨o1, hcr0⟩ := cond_true_iff hcr0
    obtain ⟨o2, hcr0⟩ := cond_true_iff hcr0
    obtain ⟨o3, hcr0⟩ := cond_true_iff hcr0
    obtain ⟨o4, o5⟩ := cond_true_iff hcr0
    have o1 := same_eq _ _ o1
    subst o1
    have o2 : H'.nx = x.nx2 := Nat.eq_of_beq_eq_true o2
    have hpost := hasAll_mem o3
    have hkeep := keepAll_mem o4
    have hnone := noneAll_mem o5
    refine Ends.mono (fun u' w' hx => ?_) (fun _ _ hx => hx) hcr
    obtain ⟨σ', hr, t⟩ := hx
    refine ⟨σ', hr, ?_⟩
    have tnx : x.nx ≤ H'.nx := t.nx
    -- what is told afterwards
    have hafter : ∀ b o, (x.after H).t.get b = some o →
        (∃ o', H'.t.get b = some o' ∧ Alike o o' ∧ ((∃ p, findO b x.pre = some p) ∨ (x.nx ≤ b ∧ x.ro ≤ b ∧ wrO o = true)))
        ∨ (findO b x.pre = none ∧ H.t.get b = some o) := by
      intro b o hb
      have hb : (putO x.post (delO x.dead H.t)).get b = some o := hb
      rw [findO_put e gs] at hb
      cases hp : findO b x.post with
      | some p =>
        rw [hp] at hb; cases hb
        obtain ⟨o', h1, h2, h3⟩ := hpost _ (findO_mem hp)
        obtain ⟨n1, n2, n3⟩ := hnew _ (findO_mem hp)
        refine .inl ⟨o', h1, ⟨h2.of, h2.to, h2.wr.symm, h2.soft.symm⟩, ?_⟩
        rcases n3 with ⟨p', n4, _⟩ | ⟨n4, n5⟩
        · exact .inl ⟨p', n4⟩
        · exact .inr ⟨n4, n1, n5⟩
      | none =>
        rw [hp] at hb
        have hb : (delO x.dead H.t).get b = some o := hb
        rw [memN_del] at hb
        cases hd : memN b x.dead with
        | true => rw [hd] at hb; cases hb
        | false =>
          rw [hd] at hb
          have hb : H.t.get b = some o := hb
          cases hq : findO b x.pre with
          | none => exact .inr ⟨rfl, hb⟩
          | some p =>
            rcases hkeep _ (findO_mem hq) with k | ⟨_, k⟩ | ⟨o', k1, k2⟩
            · have k : memN b x.dead = true := k
              rw [hd] at k; cases k
            · have k : findO b x.post = _ := k
              rw [hp] at k; cases k
            · obtain ⟨o'', q1, q2, _⟩ := hpre _ (findO_mem hq)
              have q1 : H.t.get b = some o'' := q1
              rw [hb] at q1; cases q1
              exact .inl ⟨o', k1, ⟨fun σ l c h => k2.of σ l c (q2.to σ l c h), fun σ l c h => q2.of σ l c (k2.to σ l c h), q2.wr.trans k2.wr.symm, q2.soft.trans k2.soft.symm⟩, .inl ⟨p, rfl⟩⟩
    -- of what the call did not see
    have hold : ∀ b o l, findO b x.pre = none → H.t.get b = some o → σ' b = some l → σ b = some l := by
      intro b o l _ hb hl
      have hlt := hs.low b o hb
      cases hσ : σ b with
      | none =>
        have := (t.pend b (by show b < x.nx; omega) hσ).2
        rw [this] at hl; cases hl
      | some l0 => rw [t.ext b l0 hσ] at hl; exact hl
    have hpre2 : ∀ b p, findO b x.pre = some p → ∃ o, H.t.get b = some o ∧ b < x.nx := by
      intro b p hp
      obtain ⟨o, q1, _⟩ := hpre _ (findO_mem hp)
      exact ⟨o, q1, by rw [← i1]; exact hs.low b o q1⟩
    have hold2 : ∀ b l, b < x.nx → σ' b = some l → (∃ o, H'.t.get b = some o) → σ b = some l := by
      intro b l hlt hl _
      cases hσ : σ b with
      | none =>
        have := (t.pend b hlt hσ).2
        rw [this] at hl; cases hl
      | some l0 => rw [t.ext b l0 hσ] at hl; exact hl
    have hfar : ∀ b o l y l', findO b x.pre = none → H.t.get b = some o → σ b = some l → Wr (x.heap gs e) y → σ y = some l' → l'.blk = l.blk → False := by
      intro b o l y l' hb ho hl hw hy he
      obtain ⟨h1, p, hp⟩ := wrH y hw
      obtain ⟨_, oy, h2, h3⟩ := wr_wrO h1
      have := hs.alone h2 ho hy hl he fun s => by rw [s.1.wrO] at h3; cases h3
      subst this
      rw [hb] at hp; cases hp
    have hmix : ∀ b o l b' l' o1, findO b x.pre = none → H.t.get b = some o → σ' b = some l → H'.t.get b' = some o1 → σ' b' = some l' → l.blk = l'.blk →
        ((∃ p, findO b' x.pre = some p) ∨ (x.nx ≤ b' ∧ x.ro ≤ b' ∧ wrO o1 = true)) → b = b' := by
      intro b o l b' l' o1 hb ho hl ho1 hl' he hor
      have hl0 := hold b o l hb ho hl
      rcases hor with ⟨p, hp⟩ | ⟨n1, n2, n3⟩
      · obtain ⟨o2, q1, q2⟩ := hpre2 b' p hp
        refine hs.alone ho q1 hl0 (hold2 b' l' q2 hl' ⟨o1, ho1⟩) he fun s => ?_
        obtain ⟨o3, g1, g2, _⟩ := hpre _ (findO_mem hp)
        have g1 : H.t.get b' = some o3 := g1
        rw [q1] at g1; cases g1
        have := hhard _ (findO_mem hp)
        rw [← g2.wr, s.2.wrO] at this; cases this
      · exfalso
        obtain ⟨c, hc, _⟩ := hs.alive b o l ho hl0
        have hlt : l'.blk < w.heap.size := by rw [← he]; exact (Array.getElem?_eq_some_iff.1 hc).1
        have hro : H'.ro ≤ b' := by rw [t.ro]; exact n2
        obtain ⟨b0, l0, h1, h2, h3⟩ := t.wr b' l' (wrO_wr ho1 hro n3) hl' hlt
        exact hfar b o l b0 l0 hb ho hl0 h1 h2 (h3.trans he.symm)
    refine ⟨t.ext, ⟨?_, ?_, ?_, ?_, t.sim.glob, ?_⟩, t.size, ?_, ?_, ?_, rfl, ?_, t.tape, t.os, t.out, ?_⟩
    · intro b l hb
      show b < x.nx2
      rw [← o2]; exact t.sim.dom b l hb
    · intro b o hb
      show b < x.nx2
      rw [← o2]
      rcases hafter b o hb with ⟨o', h1, _⟩ | ⟨_, h1⟩
      · exact t.sim.low b o' h1
      · have := hs.low b o h1; omega
    · intro b o l hb hl
      rcases hafter b o hb with ⟨o', h1, h2, _⟩ | ⟨h0, h1⟩
      · obtain ⟨c, hc, hrel⟩ := t.sim.alive b o' l h1 hl
        exact ⟨c, hc, h2.of σ' l c hrel⟩
      · have hl0 := hold b o l h0 h1 hl
        obtain ⟨c, hc, hrel⟩ := hs.alive b o l h1 hl0
        refine ⟨c, ?_, hrel.mono t.ext⟩
        rw [t.frame l.blk (Array.getElem?_eq_some_iff.1 hc).1 fun y ly hw hy he => hfar b o l y ly h0 h1 hl0 hw hy he]
        exact hc
    · intro b b' o o' l l' hb hb' hl hl' he
      rcases hafter b o hb with ⟨p, h1, h2, h3⟩ | ⟨h0, h1⟩ <;> rcases hafter b' o' hb' with ⟨p', h1', h2', h3'⟩ | ⟨h0', h1'⟩
      · exact (t.sim.inj b b' p p' l l' h1 h1' hl hl' he).imp_right fun s => ⟨h2.soft.2 s.1, h2'.soft.2 s.2⟩
      · exact .inl (hmix b' o' l' b l p h0' h1' hl' h1 hl he.symm (h3.imp_right fun ⟨a, b, c⟩ => ⟨a, b, by rw [← h2.wr]; exact c⟩)).symm
      · exact .inl <| hmix b o l b' l' p' h0 h1 hl h1' hl' he (h3'.imp_right fun ⟨a, b, c⟩ => ⟨a, b, by rw [← h2'.wr]; exact c⟩)
      · exact hs.inj b b' o o' l l' h1 h1' (hold b o l h0 h1 hl) (hold b' o' l' h0' h1' hl') he
    · show H.ro ≤ x.nx2
      have := hs.ro
      omega
    · intro k hk hn
      exact t.frame k hk fun y l hw hl => hn y l (wrH y hw).1 hl
    · intro b l hw hl hlt
      obtain ⟨hro, o, ho, hwo⟩ := wr_wrO hw
      rcases hafter b o ho with ⟨o', h1, h2, _⟩ | ⟨h0, h1⟩
      · obtain ⟨b0, l0, g1, g2, g3⟩ := t.wr b l (wrO_wr h1 (by rw [t.ro]; show x.ro ≤ b; rw [← i2]; exact hro) (by rw [← h2.wr]; exact hwo)) hl hlt
        exact ⟨b0, l0, (wrH b0 g1).1, g2, g3⟩
      · exact ⟨b, l, wrO_wr h1 hro hwo, hold b o l h0 h1 hl, rfl⟩
    · show H.nx ≤ x.nx2
      omega
    · intro b hb
      show (putO x.post (delO x.dead H.t)).get b = H.t.get b
      rw [findO_put e gs]
      cases hp : findO b x.post with
      | some p =>
        have := (hnew _ (findO_mem hp)).1
        have : x.ro ≤ b := this
        omega
      | none =>
        show (delO x.dead H.t).get b = _
        rw [memN_del]
        cases hd : memN b x.dead with
        | true =>
          have := (hdead _ (memN_mem hd)).1
          omega
        | false => rfl
    · intro b hb hσ
      obtain ⟨p1, p2⟩ := t.pend b (by show b < x.nx; omega) hσ
      refine ⟨?_, p2⟩
      show (putO x.post (delO x.dead H.t)).get b = H.t.get b
      rw [findO_put e gs]
      cases hp : findO b x.post with
      | some p =>
        exfalso
        obtain ⟨n1, n2, n3⟩ := hnew _ (findO_mem hp)
        obtain ⟨o', h1, h2, h3⟩ := hpost _ (findO_mem hp)
        have h1 : H'.t.get b = some o' := h1
        rcases n3 with ⟨q, n4, n5⟩ | ⟨n4, _⟩
        · have n4 : findO b x.pre = some q := n4
          have : (x.heap gs e).t.get b = some q.obj := by
            show (putO x.pre (putM e gs .leaf)).get b = _
            rw [findO_put e gs, n4]
          rw [← p1, h1] at this
          cases this
          rw [h3] at n5; cases n5
        · have n4 : x.nx ≤ b := n4
          omega
      | none =>
        show (delO x.dead H.t).get b = _
        rw [memN_del]
        cases hd : memN b x.dead with
        | true =>
          exfalso
          obtain ⟨_, q, n4⟩ := hdead _ (memN_mem hd)
          have : (x.heap gs e).t.get b = some q.obj := by
            show (putO x.pre (putM e gs .leaf)).get b = _
            rw [findO_put e gs, n4]
          rw [← p1, hnone _ (memN_mem hd)] at this
          cases this
        | false => rfl
end

section
variable {P : Program}
/-! ### Keys and values -/
/-! ### The beginning -/
noncomputable def putMaps : List (Nat × List Ent) → T Obj → T Obj
  | [], t => t
  | x :: l, t => putMaps l (t.set x.1 (.cmap x.2))
theorem putMaps_get : ∀ (ms : List (Nat × List Ent)) (t : T Obj) (b : Nat) (o : Obj), (putMaps ms t).get b = some o → (∃ es, (b, es) ∈ ms ∧ o = .cmap es) ∨ t.get b = some o
  | [], t, b, o, h => .inr h
  | (b', es) :: ms, t, b, o, h => by
    rcases putMaps_get ms _ b o h with ⟨es2, h1, h2⟩ | h1
    · exact .inl ⟨es2, List.mem_cons_of_mem _ h1, h2⟩
    · rw [T.get_set] at h1
      by_cases e3 : b' = b
      · rw [if_pos e3] at h1; cases h1; subst e3; exact .inl ⟨es, List.mem_cons_self .., rfl⟩
      · rw [if_neg e3] at h1; exact .inr h1
noncomputable def beginH (n : Nat) (rs : List (Nat × Nat × List AV)) (ms : List (Nat × List Ent)) : Heap := ⟨n, putRows rs (putMaps ms .leaf), n⟩
theorem begin_sim {W : World} {rs : List (Nat × Nat × List AV)} {ms : List (Nat × List Ent)} {n : Nat} {σ : Mp} (hσ : ∀ g, g < P.globals.size → ∃ l, σ g = some l ∧ l.blk = g ∧ l.base = 0) (hdom : ∀ b l, σ b = some l → b < n)
    (hr : ∀ b e l, (b, e, l) ∈ rs → ∃ cs fr, σ b = some ⟨b, 0, lenL l, 1⟩ ∧ W.heap[b]? = some (.cells cs e fr) ∧ RelL σ l cs.toList ∧ ∀ v ∈ cs, v.oneCell' = true)
    (hm : ∀ b es, (b, es) ∈ ms → ∃ l ents clock fs, σ b = some l ∧ W.heap[l.blk]? = some (.map ents clock) ∧ EntsRel σ fs ents.toList ∧ (fs.map strip).Perm (es.map strip) ∧ es.Pairwise apartE)
    (hi : ∀ b es b' es' l l', (b, es) ∈ ms → (b', es') ∈ ms → σ b = some l → σ b' = some l' → l.blk = l'.blk → b = b') : Sim P σ (beginH n rs ms) W := by
  have hget : ∀ b o, (beginH n rs ms).t.get b = some o → (∃ e l, (b, e, l) ∈ rs ∧ o = .row ⟨e, 1, lenL l, T.ofList l, .unk, 0, false, false, true⟩) ∨ ∃ es, (b, es) ∈ ms ∧ o = .cmap es := by
    intro b o h
    rcases putRows_get rs _ b o h with h | h
    · exact .inl h
    · rcases putMaps_get ms _ b o h with h | h
      · exact .inr h
      · rw [T.get_leaf] at h; cases h
  refine ⟨hdom, fun b o h => ?_, fun b o l h hl => ?_, fun b b' o o' l l' h h' hl hl' e => ?_, hσ, Nat.le_refl _⟩
  · rcases hget b o h with ⟨e, l, h1, _⟩ | ⟨es, h1, _⟩
    · obtain ⟨cs, fr, h2, _⟩ := hr b e l h1
      exact hdom b _ h2
    · obtain ⟨l, _, _, _, h2, _⟩ := hm b es h1
      exact hdom b _ h2
  · rcases hget b o h with ⟨e, l', h1, rfl⟩ | ⟨es, h1, rfl⟩
    · obtain ⟨cs, fr, h2, h3, h4, h5⟩ := hr b e l' h1
      rw [h2] at hl; cases hl
      refine ⟨_, h3, cs, fr, rfl, ?_⟩
      have hlen : cs.size = lenL l' := by rw [lenL_eq, h4.length]; simp
      refine ⟨rfl, Nat.le_refl _, by show lenL l' ≤ lenL l' * 1; omega, by show 0 + lenL l' * 1 ≤ cs.size; omega, fun _ => ⟨by show lenL l' = lenL l' * 1; omega, rfl, hlen⟩, fun i hi => ?_, fun i v _ hv => h5 v (Array.mem_of_getElem? hv), (fun h => by cases h), (fun h => by cases h)⟩
      have hi : i < lenL l' := hi
      have hi' : i < l'.length := by rw [lenL_eq] at hi; exact hi
      obtain ⟨v, h6, h7⟩ := h4.get (i := i) (a := l'[i]) (List.getElem?_eq_getElem hi')
      refine ⟨v, by rw [Nat.zero_add, ← Array.getElem?_toList]; exact h6, ?_⟩
      have : (⟨e, 1, lenL l', T.ofList l', .unk, 0, false, false, true⟩ : Row).get i = l'[i] := by
        rw [Row.get_eq]
        show ((T.ofList l').get i).getD .unk = _
        rw [T.get_ofList, List.getElem?_eq_getElem hi']; rfl
      rw [this]
      exact h7
    · obtain ⟨l2, ents, clock, fs, h2, h3, h4, h5, h6⟩ := hm b es h1
      rw [h2] at hl; cases hl
      exact ⟨_, h3, ents, clock, fs, rfl, h4, h5, h6⟩
  · rcases hget b o h with ⟨e1, l1, h1, _⟩ | ⟨es, h1, _⟩ <;> rcases hget b' o' h' with ⟨e2, l2, h2, _⟩ | ⟨es', h2, _⟩
    · obtain ⟨_, _, h3, _⟩ := hr b e1 l1 h1
      obtain ⟨_, _, h4, _⟩ := hr b' e2 l2 h2
      rw [h3] at hl; rw [h4] at hl'
      cases hl; cases hl'
      exact .inl e
    · exfalso
      obtain ⟨_, _, h3, h5, _⟩ := hr b e1 l1 h1
      obtain ⟨_, _, _, _, h4, h6, _⟩ := hm b' es' h2
      rw [h3] at hl; rw [h4] at hl'
      cases hl; cases hl'
      have e : b = _ := e
      rw [← e, h5] at h6
      cases h6
    · exfalso
      obtain ⟨_, _, h3, h5, _⟩ := hr b' e2 l2 h2
      obtain ⟨_, _, _, _, h4, h6, _⟩ := hm b es h1
      rw [h3] at hl'; rw [h4] at hl
      cases hl; cases hl'
      have e : _ = b' := e
      rw [e, h5] at h6
      cases h6
    · exact .inl <| hi b es b' es' l l' h1 h2 hl hl' e
/-! ### What the rows list -/
theorem laidMetH_data {l : List (String × DataW Unit)} {w : World} (h : laidMetH P l w) : laidMet P (l.filter fun x => x.2.handleName?.isNone) w := by
  unfold laidMetH at h
  generalize hfl : (l.filter fun x => x.2.handleName?.isSome) = fl at h
  cases fl with
  | nil =>
    have e : (l.filter fun x => x.2.handleName?.isNone) = l := by
      rw [List.filter_eq_self]
      intro x hx
      have := (List.filter_eq_nil_iff.1 hfl) x hx
      cases hn : x.2.handleName? with
      | none => rfl
      | some s => rw [hn] at this; exact absurd rfl this
    rw [e]
    exact h
  | cons a as => exact h.1
/-- the listed variables, each with its places -/
theorem laid_places {W : World} : ∀ {l : List (String × DataW Unit)} {ps : List MemPlace}, DataW.LaidVars P W l ps → ∃ pf : Nat → List MemPlace,
    (∀ i n d, l[i]? = some (n, d) → ∃ g t cs fuel, P.globalNamed n = some g ∧ (P.globals[g]?).map (·.type) = some t ∧ W.var? P n = some cs ∧ DataW.trod (fun _ => ()) P W 0 (fun _ => true) false fuel t cs.toList = some (d, pf i) ∧ ∀ x ∈ MemPlace.row ⟨g, 0, none⟩ cs.size, x ∈ ps) ∧
    (∀ i x, i < l.length → x ∈ pf i → x ∈ ps) ∧ (ps.Nodup → ∀ i j x, i < j → j < l.length → x ∈ pf i → x ∈ pf j → False)
  | [], _, _ => ⟨fun _ => [], (fun i n d h => by simp at h), (fun i x h => by simp at h), (fun _ i j x _ h => by simp at h)⟩
  | (n', d') :: r, ps, h => by
    obtain ⟨g, t, cs, fuel, p, q, h1, h2, h3, h4, h5, rfl⟩ := h
    obtain ⟨pf, k1, k2, k3⟩ := laid_places h5
    refine ⟨fun i => match i with | 0 => p | i + 1 => pf i, fun i n d hi => ?_, fun i x hi hx => ?_, fun hnd i j x hij hj hx hx' => ?_⟩
    · cases i with
      | zero =>
        simp only [List.getElem?_cons_zero, Option.some.injEq, Prod.mk.injEq] at hi
        obtain ⟨rfl, rfl⟩ := hi
        exact ⟨g, t, cs, fuel, h1, h2, h3, h4, fun x hx => List.mem_append.2 (.inl (List.mem_append.2 (.inl hx)))⟩
      | succ i =>
        simp only [List.getElem?_cons_succ] at hi
        obtain ⟨g', t', cs', fuel', m1, m2, m3, m4, m5⟩ := k1 i n d hi
        exact ⟨g', t', cs', fuel', m1, m2, m3, m4, fun x hx => List.mem_append.2 (.inr (m5 x hx))⟩
    · cases i with
      | zero => exact List.mem_append.2 (.inl (List.mem_append.2 (.inr hx)))
      | succ i => exact List.mem_append.2 (.inr (k2 i x (by simpa using hi) hx))
    · obtain ⟨n1, n2, n3⟩ := List.nodup_append.1 hnd
      cases j with
      | zero => omega
      | succ j =>
        have hj' : j < r.length := by simpa using hj
        cases i with
        | zero => exact n3 x (List.mem_append.2 (.inr hx)) x (k2 j x hj' hx') rfl
        | succ i => exact k3 n2 i j x (by omega) hj' hx hx'
end

def iL (k : IntKind) : List Nat → List AV
  | [] => []
  | n :: l => .int k (.ofNat n) :: iL k l
def libT (gs : List (Nat × List AV)) (base : Nat → List AV → Heap → Option CR) : List (Nat × CE) → Nat → List AV → Heap → Option CR
  | [], f, args, H => base f args H
  | x :: l, f, args, H => cond (Nat.beq x.1 f) (cond (x.2.is gs args H) (some (.ret x.2.v (x.2.after H))) (libT gs base l f args H)) (libT gs base l f args H)
section
variable {P : Program}
/-- an entry is as it was evaluated -/
def EntOk (P : Program) (gs : List (Nat × List AV)) (x : Nat × CE) : Prop := ∃ call, CallOk P call ∧ x.2.wf = true ∧ ∀ e, x.2.out (call x.1 x.2.args (x.2.heap gs e)) = true
theorem libT_ok {gs : List (Nat × List AV)} {base : Nat → List AV → Heap → Option CR} (hb : LibOk P base) : ∀ l : List (Nat × CE), (∀ x ∈ l, EntOk P gs x) → LibOk P (libT gs base l)
  | [], _ => hb
  | x :: l, h => by
    intro f args H r hr σ w vs hs hv
    have ih := libT_ok hb l (fun y hy => h y (List.mem_cons_of_mem _ hy))
    unfold libT at hr
    cases h1 : Nat.beq x.1 f with
    | false => rw [h1] at hr; exact ih f args H r hr σ w vs hs hv
    | true =>
      rw [h1] at hr
      cases h2 : x.2.is gs args H with
      | false => rw [h2] at hr; exact ih f args H r hr σ w vs hs hv
      | true =>
        rw [h2] at hr
        have h1 := Nat.eq_of_beq_eq_true h1
        subst h1
        obtain ⟨call, hcall, hwf, hout⟩ := h x (List.mem_cons_self ..)
        refine cut_ok (P := P) hcall (f := x.1) (tab := [x.2]) (gs := gs) (fun y hy => ?_) (args := args) (H := H) ?_ hs hv
        · rcases List.mem_cons.1 hy with rfl | hy
          · exact ⟨hwf, hout⟩
          · cases hy
        · show cond (x.2.is gs args H) (some (.ret x.2.v (x.2.after H))) none = some r
          rw [h2]
          exact hr
end

section
variable {P : Program}
/-- a told part of a block: where it lies, its block's element type, its cells -/
structure Win where
  loc : Loc
  elem : Nat
  cells : List AV
def Win.row (x : Win) : Row := ⟨x.elem, 1, lenL x.cells, T.ofList x.cells, .unk, 0, false, false, false⟩
def findW (b : Nat) : List (Nat × Win) → Option Win
  | [] => none
  | y :: l => if y.1 = b then some y.2 else findW b l
theorem findW_mem {b : Nat} {x : Win} : ∀ {l : List (Nat × Win)}, findW b l = some x → (b, x) ∈ l
  | [], h => by cases h
  | y :: l, h => by
    unfold findW at h
    split at h
    · rename_i e; cases h; rw [← e]; exact List.mem_cons_self ..
    · exact List.mem_cons_of_mem _ (findW_mem h)
theorem findW_at {b : Nat} {x : Win} : ∀ {l : List (Nat × Win)}, (b, x) ∈ l → (l.map (·.1)).Nodup → findW b l = some x
  | y :: l, h, nd => by
    rw [List.map_cons, List.nodup_cons] at nd
    unfold findW
    rcases List.mem_cons.1 h with rfl | h
    · rw [if_pos rfl]
    · rw [if_neg (fun e => nd.1 (by rw [e]; exact List.mem_map_of_mem (f := Prod.fst) h))]
      exact findW_at h nd.2
/-- a part that is told rightly -/
structure WinOk (W : World) (σ : Mp) (x : Win) : Prop where
  sz : x.loc.sz = 1
  fits : x.cells.length ≤ x.loc.tot
  cells : ∃ cs fr, W.heap[x.loc.blk]? = some (.cells cs x.elem fr) ∧ x.loc.base + x.loc.tot ≤ cs.size ∧ ∀ (i : Nat) (a : AV), x.cells[i]? = some a → ∃ v, cs[x.loc.base + i]? = some v ∧ Rel σ a v ∧ v.oneCell' = true
theorem Win.get_row {x : Win} {i : Nat} {a : AV} (h : x.cells[i]? = some a) : x.row.get i = a := by
  rw [Row.get_eq]
  show ((T.ofList x.cells).get i).getD .unk = a
  rw [T.get_ofList, h]; rfl
/-- of a call that is told to hand back true -/
theorem open_true {call : Nat → List AV → Heap → CR} (hcall : CallOk P call) {f : FuncId} {fn : Func} {c : Code} (hf : P.funcs[f]? = some fn) (hname : fn.name ≠ "runtime.NumGoroutine") (hb : fn.body = some c)
    {σ : Mp} {H H' : Heap} {W : World} (hs : Sim P σ H W) (hw : ∀ b, ¬ Wr H b) {as : List AV} {vs : List Value} (ha : RelL σ as vs) (hr : call f as H = .ret (.bool true) H') :
    Calls P f ⟨vs⟩ W fun e W' => e = .returned (.bool true) ∧ W'.os = W.os ∧ W'.output = W.output ∧ ∀ i, i < W.heap.size → W'.heap[i]? = W.heap[i]? := by
  have h := hcall f as H σ W vs hs ha
  rw [hr, run_callFunc_own hf hname hb] at h
  refine Calls.mono h fun e W' he => ?_
  cases e with
  | returned v =>
    obtain ⟨σ', h1, t⟩ := he
    exact ⟨by rw [rel_bool h1], t.os, t.out, fun i hi => t.frame i hi fun b _ hb => absurd hb (hw b)⟩
  | panicked ch => obtain ⟨_, _, h⟩ := he; exact h.elim
  | outgrown => exact he.elim
/-- what is told refers to nothing above -/
def lowO (n : Nat) : Obj → Prop
  | .row r => ∀ i, i < r.size → lowV n (r.get i) = true
  | .cmap es => ∀ x ∈ es, lowV n x.key = true ∧ lowV n x.val = true
  | _ => False
theorem EntsRel.cutE {σ : Mp} {n : Nat} : ∀ {es : List Ent} {l : List MapEntry}, (∀ x ∈ es, lowV n x.key = true ∧ lowV n x.val = true) → EntsRel σ es l → EntsRel (σ.cut n) es l
  | [], l, _, r => by simpa [EntsRel] using r
  | x :: es, l, h, r => by
    simp only [EntsRel] at r ⊢
    obtain ⟨e, l', h1, h2, h3⟩ := r
    obtain ⟨k1, k2⟩ := h x (List.mem_cons_self ..)
    exact ⟨e, l', ⟨Rel.cut k1 h1.1, Rel.cut k2 h1.2.1, h1.2.2⟩, EntsRel.cutE (fun y hy => h y (List.mem_cons_of_mem _ hy)) h2, h3⟩
theorem ObjRel.cutO {σ : Mp} {n : Nat} {o : Obj} {l : Loc} {c : Go.Obj} (h : lowO n o) (r : ObjRel σ o l c) : ObjRel (σ.cut n) o l c := by
  cases o with
  | row q =>
    obtain ⟨cs, fr, rfl, r⟩ := r
    refine ⟨cs, fr, rfl, r.sz, r.sz1, r.fits, r.room, r.exact, fun i hi => ?_, r.one, r.frz, r.frs⟩
    obtain ⟨v, h1, h2⟩ := r.cell i hi
    exact ⟨v, h1, Rel.cut (h i hi) h2⟩
  | cmap es =>
    obtain ⟨ents, clock, fs, h1, h2, h3, h4⟩ := r
    refine ⟨ents, clock, fs, h1, EntsRel.cutE (fun x hx => ?_) h2, h3, h4⟩
    have hm : strip x ∈ es.map strip := h3.subset (List.mem_map_of_mem (f := strip) hx)
    obtain ⟨y, hy, e⟩ := List.mem_map.1 hm
    have hk : y.key = x.key := congrArg Prod.fst e
    have hv : y.val = x.val := congrArg Prod.snd e
    rw [← hk, ← hv]
    exact h y hy
  | _ => exact h.elim
theorem Sim.cutTo {σ : Mp} {H : Heap} {w : World} {n : Nat} {t : T Obj} (hs : Sim P σ H w) (hn : P.globals.size ≤ n) (ht : ∀ b o, t.get b = some o → b < n ∧ H.t.get b = some o ∧ lowO n o) : Sim P (σ.cut n) ⟨n, t, n⟩ w := by
  refine ⟨fun b l h => (Mp.cut_some h).1, fun b o h => (ht b o h).1, fun b o l h hl => ?_, fun b b' o o' l l' h h' hl hl' e => ?_, fun g hg => ?_, Nat.le_refl _⟩
  · obtain ⟨_, h1, h2⟩ := ht b o h
    obtain ⟨c, h3, h4⟩ := hs.alive b o l h1 (Mp.cut_some hl).2
    exact ⟨c, h3, h4.cutO h2⟩
  · exact hs.inj b b' o o' l l' (ht b o h).2.1 (ht b' o' h').2.1 (Mp.cut_some hl).2 (Mp.cut_some hl').2 e
  · obtain ⟨l, h1, h2⟩ := hs.glob g hg
    exact ⟨l, by rw [Mp.cut_lt (by omega)]; exact h1, h2⟩
/-- a heap that bears another below a number -/
def Bears (n : Nat) (t : T Obj) (H : Heap) : Prop := n ≤ H.nx ∧ ∀ b o, t.get b = some o → H.t.get b = some o
theorem Bears.keep {n : Nat} {t : T Obj} {H H' : Heap} (h : Bears n t H) (hlt : ∀ b o, t.get b = some o → b < n) (hnx : H.nx ≤ H'.nx) (hk : ∀ c, c < H.nx → H'.t.get c = H.t.get c) : Bears n t H' :=
  ⟨Nat.le_trans h.1 hnx, fun b o hb => (hk b (Nat.lt_of_lt_of_le (hlt b o hb) h.1)).trans (h.2 b o hb)⟩
/-- a closed call, looked up: over a heap that bears the one in which it was evaluated -/
structure SubE where
  f : Nat
  args : List AV
  v : AV
def subLib (n : Nat) (t : (Nat → Nat) → T Obj) (base : Nat → List AV → Heap → Option CR) : List SubE → Nat → List AV → Heap → Option CR
  | [], f, args, H => base f args H
  | x :: l, f, args, H => cond (Nat.beq x.f f) (open Classical in if args = x.args ∧ ∃ e, Bears n (t e) H then some (.ret x.v H) else subLib n t base l f args H) (subLib n t base l f args H)
theorem subLib_ok {n : Nat} {t : (Nat → Nat) → T Obj} (hn : P.globals.size ≤ n) (ht : ∀ e b o, (t e).get b = some o → b < n ∧ lowO n o ∧ (Soft o ∨ ∃ es, o = .cmap es)) {base : Nat → List AV → Heap → Option CR} (hb : LibOk P base) : ∀ l : List SubE,
    (∀ x ∈ l, ∃ call, CallOk P call ∧ lowL 0 x.args = true ∧ lowV 0 x.v = true ∧ ∀ e, isRet x.v (call x.f x.args ⟨n, t e, n⟩) = true) → LibOk P (subLib n t base l)
  | [], _ => hb
  | x :: l, hl => by
    intro f args H r h σ w vs hs hv
    have ih := subLib_ok hn ht hb l fun y hy => hl y (List.mem_cons_of_mem _ hy)
    unfold subLib at h
    cases hf : Nat.beq x.f f with
    | false => rw [hf] at h; exact ih f args H r h σ w vs hs hv
    | true =>
      have := Nat.eq_of_beq_eq_true hf
      subst this
      rw [hf, cond_true] at h
      split at h
      · rename_i hc
        obtain ⟨rfl, e, hle, hbear⟩ := hc
        cases h
        obtain ⟨call, hcall, hlowa, hlowv, hev⟩ := hl x (List.mem_cons_self ..)
        have hsim : Sim P (σ.cut n) ⟨n, t e, n⟩ w := hs.cutTo hn fun b o hb => ⟨(ht e b o hb).1, hbear b o hb, (ht e b o hb).2.1⟩
        have hnowr : ∀ y, ¬ Wr (⟨n, t e, n⟩ : Heap) y := by
          rintro y ⟨h1, ob, h2, _⟩
          have h1 : n ≤ y := h1
          have := (ht e y ob h2).1
          omega
        have hrel : RelL (σ.cut n) x.args vs := RelL.mono (fun b l hb => by have := (Mp.cut_some hb).1; omega) (RelL.cut (n := 0) hlowa hv)
        have hcr := hcall x.f x.args ⟨n, t e, n⟩ (σ.cut n) w vs hsim hrel
        have hret := hev e
        generalize call x.f x.args ⟨n, t e, n⟩ = res at hcr hret
        cases res with
        | fail => cases hret
        | pan _ _ => cases hret
        | ret v' H'' =>
          have := same_eq _ _ hret
          subst this
          refine Ends.mono (fun u' w' hx => ?_) (fun _ _ hx => hx) hcr
          obtain ⟨σ2, h1, t'⟩ := hx
          have hfr : ∀ j, j < w.heap.size → w'.heap[j]? = w.heap[j]? := fun j hj => t'.frame j hj fun y _ hy _ => absurd hy (hnowr y)
          refine ⟨σ, ?_, (TrW.mem (Ext.refl σ) t'.size hfr (fun _ _ _ _ h _ => h) t'.tape t'.os t'.out).full (hs.grow hfr) fun _ _ hx => ⟨rfl, hx⟩⟩
          exact (Rel.cut hlowv h1).mono fun y _ hy => by have := (Mp.cut_some hy).1; omega
      · exact ih _ _ _ _ h σ w vs hs hv
theorem subLib_hit {n : Nat} {t : (Nat → Nat) → T Obj} {base : Nat → List AV → Heap → Option CR} {H : Heap} {e : Nat → Nat} (hb : Bears n (t e) H) : ∀ {l : List SubE} {x : SubE}, x ∈ l → (∀ y ∈ l, y.f = x.f → y.args = x.args → y.v = x.v) → subLib n t base l x.f x.args H = some (.ret x.v H)
  | y :: l, x, hx, hu => by
    unfold subLib
    by_cases hf : y.f = x.f
    · rw [hf, show Nat.beq x.f x.f = true from Nat.beq_refl _, cond_true]
      by_cases ha : y.args = x.args
      · rw [if_pos ⟨ha.symm, e, hb⟩, hu y (List.mem_cons_self ..) hf ha]
      · rw [if_neg fun h => ha h.1.symm]
        rcases List.mem_cons.1 hx with rfl | hx
        · exact absurd rfl ha
        · exact subLib_hit hb hx fun z hz => hu z (List.mem_cons_of_mem _ hz)
    · have : Nat.beq y.f x.f = false := by rw [beq_nat]; exact decide_eq_false hf
      rw [this]
      rcases List.mem_cons.1 hx with rfl | hx
      · exact absurd rfl hf
      · exact subLib_hit hb hx fun z hz => hu z (List.mem_cons_of_mem _ hz)
/-! ### Parts more -/
def addT (t : T Obj) : List (Nat × Win) → T Obj
  | [] => t
  | x :: l => (addT t l).set x.1 (.row x.2.row)
def addM (σ : Mp) (ws : List (Nat × Win)) : Mp := fun b => match findW b ws with
  | some x => some x.loc
  | none => σ b
theorem addT_get (t : T Obj) : ∀ (l : List (Nat × Win)) (b : Nat) (o : Obj), (addT t l).get b = some o → (∃ x, (b, x) ∈ l ∧ o = .row x.row) ∨ t.get b = some o
  | [], _, _, h => .inr h
  | y :: l, b, o, h => by
    have h : ((addT t l).set y.1 (.row y.2.row)).get b = some o := h
    rw [T.get_set] at h
    by_cases e : y.1 = b
    · rw [if_pos e] at h; cases h; subst e; exact .inl ⟨y.2, List.mem_cons_self .., rfl⟩
    · rw [if_neg e] at h
      rcases addT_get t l b o h with ⟨x, h1, h2⟩ | h1
      · exact .inl ⟨x, List.mem_cons_of_mem _ h1, h2⟩
      · exact .inr h1
theorem findW_none {b : Nat} : ∀ {l : List (Nat × Win)}, (∀ x, (b, x) ∉ l) → findW b l = none
  | [], _ => rfl
  | y :: l, h => by
    unfold findW
    rw [if_neg fun e => h y.2 (by rw [← e]; exact List.mem_cons_self ..)]
    exact findW_none fun x hx => h x (List.mem_cons_of_mem _ hx)
theorem Sim.add {σ : Mp} {H : Heap} {W : World} (hs : Sim P σ H W) {n : Nat} {ws : List (Nat × Win)} (hn : H.nx ≤ n) (nd : (ws.map (·.1)).Nodup) (hlt : ∀ b x, (b, x) ∈ ws → H.nx ≤ b ∧ b < n)
    (hsoft : ∀ b o, H.t.get b = some o → Soft o ∨ ∃ es, o = .cmap es) (hw : ∀ b x, (b, x) ∈ ws → WinOk W (addM σ ws) x) : Sim P (addM σ ws) ⟨n, addT H.t ws, n⟩ W := by
  have old : ∀ b, b < H.nx → addM σ ws b = σ b := fun b hb => by
    unfold addM
    rw [findW_none fun x hx => by have := (hlt b x hx).1; omega]
  have ext : Ext σ (addM σ ws) := fun b l h => by rw [old b (hs.dom b l h)]; exact h
  have wat : ∀ b x, (b, x) ∈ ws → addM σ ws b = some x.loc := fun b x h => by unfold addM; rw [findW_at h nd]
  have wal : ∀ b x, (b, x) ∈ ws → ∃ c, W.heap[x.loc.blk]? = some c ∧ ObjRel (addM σ ws) (.row x.row) x.loc c := by
    intro b x h1
    obtain ⟨h2, h3, cs, fr, h4, h5, h6⟩ := hw b x h1
    refine ⟨_, h4, cs, fr, rfl, ?_⟩
    have key : ∀ i, i < lenL x.cells → ∃ a, x.cells[i]? = some a := fun i hi => by
      rw [lenL_eq] at hi
      exact ⟨_, List.getElem?_eq_getElem hi⟩
    refine ⟨h2, by omega, by rw [h2]; show lenL x.cells ≤ x.loc.tot * 1; rw [lenL_eq]; omega, by rw [h2]; omega, (fun h => by cases h), fun i hi => ?_, fun i v hi hv => ?_, (fun h => by cases h), (fun h => by cases h)⟩
    · obtain ⟨a, ha⟩ := key i hi
      obtain ⟨v, h7, h8, _⟩ := h6 i a ha
      rw [Win.get_row ha]
      exact ⟨v, h7, h8⟩
    · obtain ⟨a, ha⟩ := key i hi
      obtain ⟨v', h7, _, h8⟩ := h6 i a ha
      rw [hv] at h7; cases h7; exact h8
  have all : ∀ b o l, (addT H.t ws).get b = some o → addM σ ws b = some l → (∃ c, W.heap[l.blk]? = some c ∧ ObjRel (addM σ ws) o l c) ∧ ((∃ r, o = .row r ∧ r.own = false) ∨ (H.t.get b = some o ∧ σ b = some l ∧ ∃ es, o = .cmap es)) := by
    intro b o l h hl
    rcases addT_get H.t ws b o h with ⟨x, h1, rfl⟩ | h1
    · rw [wat b x h1] at hl; cases hl
      exact ⟨wal b x h1, .inl ⟨_, rfl, rfl⟩⟩
    · have hb := hs.low b o h1
      rw [old b hb] at hl
      obtain ⟨c, h2, h3⟩ := hs.alive b o l h1 hl
      refine ⟨⟨c, h2, h3.mono ext⟩, ?_⟩
      rcases hsoft b o h1 with h4 | h4
      · exact .inl h4
      · exact .inr ⟨h1, hl, h4⟩
  refine ⟨fun b l h => ?_, fun b o h => ?_, fun b o l h hl => (all b o l h hl).1, fun b b' o o' l l' h h' hl hl' e => ?_, fun g hg => ?_, Nat.le_refl _⟩
  · show b < n
    unfold addM at h
    split at h
    · rename_i x hx; exact (hlt b x (findW_mem hx)).2
    · exact Nat.lt_of_lt_of_le (hs.dom b l h) hn
  · show b < n
    rcases addT_get H.t ws b o h with ⟨x, h1, _⟩ | h1
    · exact (hlt b x h1).2
    · exact Nat.lt_of_lt_of_le (hs.low b o h1) hn
  · obtain ⟨⟨c, c1, c2⟩, a1⟩ := all b o l h hl
    obtain ⟨⟨c', c3, c4⟩, a2⟩ := all b' o' l' h' hl'
    rcases a1 with a1 | ⟨g1, g2, es, rfl⟩ <;> rcases a2 with a2 | ⟨g3, g4, es', rfl⟩
    · exact .inr ⟨a1, a2⟩
    · exfalso
      obtain ⟨r, rfl, _⟩ := a1
      obtain ⟨_, _, rfl, _⟩ := c2
      obtain ⟨_, _, _, rfl, _⟩ := c4
      rw [e, c3] at c1; cases c1
    · exfalso
      obtain ⟨r, rfl, _⟩ := a2
      obtain ⟨_, _, rfl, _⟩ := c4
      obtain ⟨_, _, _, rfl, _⟩ := c2
      rw [e, c3] at c1; cases c1
    · rcases hs.inj b b' _ _ l l' g1 g3 g2 g4 e with h | ⟨⟨_, h, _⟩, _⟩
      · exact .inl h
      · cases h
  · obtain ⟨l, h1, h2⟩ := hs.glob g hg
    exact ⟨l, ext g l h1, h2⟩
end

section
variable {P : Program} {H : Type} {enc : TypeId × Value → H}
theorem trodAll_three {w : World} {base : Nat} {spare : Nat → Bool} {held : Bool} {t t' t2 : TypeId} {args : Array Value} {ds : List (DataW H)} {ps : List MemPlace} (h : DataW.TrodAll enc P w base spare held [t, t', t2] args.toList ds ps) :
    ∃ v v' v2 d d' d2 p p' p2, args = #[v, v', v2] ∧ ds = [d, d', d2] ∧ ps = p ++ (p' ++ p2) ∧ DataW.Trod enc P w base spare held t v d p ∧ DataW.Trod enc P w base spare held t' v' d' p' ∧ DataW.Trod enc P w base spare held t2 v2 d2 p2 := by
  obtain ⟨v, vs, d, ds', p, q, hargs, rfl, rfl, hd, hrest⟩ := Go.ChangeShapes.trodAll_cons h
  obtain ⟨v', vs', d', ds'', p', q', rfl, rfl, rfl, hd', hrest'⟩ := Go.ChangeShapes.trodAll_cons hrest
  obtain ⟨v2, vs2, d2, ds2, p2, q2, rfl, rfl, rfl, hd2, hrest2⟩ := Go.ChangeShapes.trodAll_cons hrest'
  obtain ⟨rfl, rfl, rfl⟩ := Go.ChangeShapes.trodAll_nil hrest2
  exact ⟨v, v', v2, d, d', d2, p, p', p2, by cases args; simp_all, rfl, by simp, hd, hd', hd2⟩
/-- a number of the world -/
theorem int_cell {W : World} {r : Reach} {base : Nat} {t : TypeId} {v : Value} {k : IntKind} (ht : P.underlying t = some (.int k)) (hok : Cell.okWide P W r base t v) : ∃ n, v = .int k n ∧ k.has n := by
  have hk : Cell.ok P W r base t v := by
    unfold Cell.okWide at hok
    rw [ht] at hok
    simpa using hok
  unfold Cell.ok at hk
  rw [ht] at hk
  cases v with
  | int k' n => exact ⟨n, by rw [hk.1], hk.2⟩
  | _ => simp at hk
theorem int_arg {W : World} {r : Reach} {base : Nat} {t : TypeId} {v : Value} {k : IntKind} (ht : P.underlying t = some (.int k)) (hok : Value.okWide P W r base t v) : ∃ n, v = .int k n ∧ k.has n := by
  unfold Value.okWide at hok
  rw [ht] at hok
  exact int_cell ht hok
/-! the beginning -/
theorem lowL_mem {n : Nat} {x : AV} : ∀ {l : List AV}, lowL n l = true → x ∈ l → lowV n x = true
  | y :: l, h, hx => by
    have h : cond (lowV n y) (lowL n l) false = true := h
    cases hy : lowV n y with
    | false => rw [hy] at h; cases h
    | true =>
      rw [hy] at h
      rcases List.mem_cons.1 hx with rfl | hx
      · exact hy
      · exact lowL_mem h hx
theorem begin_parts {n : Nat} {rs : List (Nat × Nat × List AV)} {ms : List (Nat × List Ent)} (hr : (rs.all fun x => Nat.ble (Nat.succ x.1) n && lowL n x.2.2) = true) (hm : (ms.all fun x => Nat.ble (Nat.succ x.1) n && x.2.all fun y => lowV n y.key && lowV n y.val) = true) {b : Nat} {o : Obj}
    (h : (beginH n rs ms).t.get b = some o) : b < n ∧ lowO n o ∧ (Soft o ∨ ∃ es, o = .cmap es) := by
  rcases putRows_get rs _ b o h with ⟨e, l, hin, rfl⟩ | h
  · have h2 := List.all_eq_true.1 hr _ hin
    rw [Bool.and_eq_true] at h2
    refine ⟨Nat.le_of_ble_eq_true h2.1, fun i hi => ?_, .inl ⟨_, rfl, rfl⟩⟩
    have hi : i < l.length := by rw [← lenL_eq]; exact hi
    have e1 : (⟨e, 1, lenL l, T.ofList l, .unk, 0, false, false, true⟩ : Row).get i = l[i] := by
      rw [Row.get_eq]
      show ((T.ofList l).get i).getD .unk = _
      rw [T.get_ofList, List.getElem?_eq_getElem hi]; rfl
    rw [e1]
    exact lowL_mem h2.2 (List.getElem_mem hi)
  · rcases putMaps_get ms _ b o h with ⟨es, hin, rfl⟩ | h
    · have h2 := List.all_eq_true.1 hm _ hin
      rw [Bool.and_eq_true] at h2
      refine ⟨Nat.le_of_ble_eq_true h2.1, fun x hx => ?_, .inr ⟨es, rfl⟩⟩
      have h3 := List.all_eq_true.1 h2.2 x hx
      rw [Bool.and_eq_true] at h3
      exact h3
    · rw [T.get_leaf] at h; cases h
theorem shut_of {σ : Mp} {H : Heap} {W : World} (hs : Sim P σ H W) (h : H.nx ≤ H.ro) (b : Nat) : ¬ Wr H b := by
  rintro ⟨h1, o, h2, _⟩
  have := hs.low b o h2
  omega
end
end
end Go.AI
