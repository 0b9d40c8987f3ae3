/- Calls, rounds, ranges and functions without a body of the interpreter's do what the machine does: proved for every world that is told. -/
import Derived.Test.YtlnelphabohehaaGreatDoorP4
import Derived.RangeFuncLeaves
import Derived.RangeFuncRecord
import Derived.Laws.NewFold
import Derived.Laws.StandIn
import Derived.Lib.Bytealg
import Derived.OpenShut
import Derived.ChangeArms
import Derived.ChangeMade
import GoSem.ClaimJoined
set_option maxRecDepth 1000000
set_option maxHeartbeats 0
set_option linter.unusedVariables false
set_option linter.unusedSimpArgs false
namespace Go.AI
open Go
noncomputable section
section
variable {P : Program} {σ : Mp} {H : Heap} {w : World} {N : Nat} {tm : TM} {t : Array Value}
/-! ### Results -/
def resC (P : Program) (r : ResultVar) : EvF × Option (Nat × Bool) := match r with | .tmp n => (argE P (.tmp n), none) | .cell a u => (argE P (.tmp a), some (P.cellsOf u, isAggT P u))
def resS (t : Array Value) (r : ResultVar) : Sem Value := match r with
  | .tmp n => pure (t.getD n undef)
  | .cell a u => do loadVar u (← asAddr (t.getD a undef))
theorem resV_ok (hs : Sim P σ H w) (ht : TRel σ N tm t) {r : ResultVar} (hr : resOk P r = true) {kk : AV → CR} {o : CR}
    (h : resV tm H (resC P r) kk = o) (ho : o ≠ .fail) : ∃ v u, kk v = o ∧ Rel σ v u ∧ (resS t r).run P w = .ok u w := by
  have hρ := ops_of (a := { tmps := t, defers := [] }) hs ht
  cases r with
  | tmp n => exact ⟨_, t.getD n undef, h, hρ (.tmp n), rfl⟩
  | cell a u =>
    have g := hρ (.tmp a)
    simp only [resV, resC] at h
    generalize hp : argE P (.tmp a) tm = p at h g
    cases p with
    | ptr b off =>
      simp only at h
      cases hb : H.t.get b with
      | none => rw [hb] at h; exact absurd h.symm ho
      | some ob =>
        rw [hb] at h
        cases ob with
        | row r =>
          simp only at h
          cases hle : Nat.ble (Nat.add off (P.cellsOf u)) r.size with
          | false => rw [hle] at h; exact absurd h.symm ho
          | true =>
            rw [hle] at h
            have hle : off + P.cellsOf u ≤ r.size := Nat.le_of_ble_eq_true hle
            simp only [resOk, Bool.and_eq_true, Option.isSome_iff_exists] at hr
            obtain ⟨⟨⟨i, hi⟩, ⟨d, hu⟩⟩, hn1⟩ := hr
            have hn1 : 1 ≤ P.cellsOf u := Nat.le_of_ble_eq_true hn1
            obtain ⟨l, hl, e⟩ := rel_ptr g
            have e : t.getD a undef = _ := e
            obtain ⟨cs, fr, hc, hrr⟩ := hs.row hb hl
            have hag := run_isAgg' (w := w) hu
            have hsz : P.cellsOf u = i.size := by simp [Program.cellsOf, hi]
            cases h1 : isAggT P u with
            | true =>
              rw [h1] at h hag
              obtain ⟨vs, h2, h3, h4, h5⟩ := loadN_rel hrr (P.cellsOf u) off hle
              refine ⟨_, .agg ⟨vs⟩, h, by simp only [Rel]; exact ⟨vs, h2, h5, rfl⟩, ?_⟩
              have := run_loadCells' (P := P) hc vs (o := l.base + off) h4
              rw [h3] at this
              show (do loadVar u (← asAddr (t.getD a undef)) : Sem Value).run P w = _
              rw [e]
              simp only [asAddr, Sem.run_bind, Sem.run_pure, Result.andThen_ok, loadVar, hag, if_true, size_info hi, ← hsz, this]
            | false =>
              rw [h1] at h hag
              obtain ⟨v, hv, hrel⟩ := hrr.cell off (by omega)
              refine ⟨_, v, h, hrel, ?_⟩
              show (do loadVar u (← asAddr (t.getD a undef)) : Sem Value).run P w = _
              rw [e]
              simp only [asAddr, Sem.run_bind, Sem.run_pure, Result.andThen_ok, loadVar, hag, Bool.false_eq_true, if_false, run_load, cell_of hc, hv]
        | _ => exact absurd h.symm ho
    | _ => exact absurd h.symm ho

theorem resVs_ok (hs : Sim P σ H w) (ht : TRel σ N tm t) {o : CR} (ho : o ≠ .fail) : ∀ (l : List ResultVar) (kk : List AV → CR), l.all (resOk P) = true → resVs tm H kk (l.map (resC P)) = o →
    ∃ vs us, kk vs = o ∧ RelL σ vs us ∧ (l.mapM (resS t)).run P w = .ok us w
  | [], kk, _, h => ⟨[], [], h, relL_nil, rfl⟩
  | r :: l, kk, hr, h => by
    simp only [List.all_cons, Bool.and_eq_true] at hr
    obtain ⟨v, u, h1, h2, h3⟩ := resV_ok (r := r) hs ht hr.1 (kk := fun v => resVs tm H (fun vs => kk (v :: vs)) (l.map (resC P))) h ho
    obtain ⟨vs, us, h4, h5, h6⟩ := resVs_ok hs ht ho l _ hr.2 h1
    refine ⟨v :: vs, u :: us, h4, relL_cons h2 h5, ?_⟩
    have h3 : (resS t r).run P w = .ok u w := h3
    rw [List.mapM_cons]
    simp only [Sem.run_bind, h3, Result.andThen_ok, h6, Sem.run_pure]
theorem results_ok (hs : Sim P σ H w) (ht : TRel σ N tm t) {fn : Func} (hr : fn.results.toList.all (resOk P) = true) {r : CR} (h : AI.results (fn.results.toList.map (resC P)) tm H = r) (ho : r ≠ .fail) :
    ∃ v u, r = .ret v H ∧ Rel σ v u ∧ (Go.results fn t).run P w = .ok u w := by
  obtain ⟨vs, us, h1, h2, h3⟩ := resVs_ok hs ht ho fn.results.toList _ hr h
  have hm : (fn.results.mapM (resS t)).run P w = .ok us.toArray w := by
    rw [Array.mapM_eq_mapM_toList]
    show ((fn.results.toList.mapM (resS t)) >>= fun l => pure l.toArray).run P w = _
    rw [Sem.run_bind, h3]; rfl
  have hrun : ∀ u, (if h : us.toArray.size = 1 then us.toArray[0] else .tuple us.toArray) = u → (Go.results fn t).run P w = .ok u w := by
    intro u hu
    unfold Go.results
    rw [Sem.run_bind]
    show Result.andThen ((fn.results.mapM (resS t)).run P w) _ = _
    rw [hm]
    show Result.ok _ w = _
    rw [← hu]
  have hlen := h2.length
  match vs, us, h1, h2, hlen, hrun with
  | [v], [u], h1, h2, _, hrun =>
    obtain ⟨v', vs', h4, _, h6⟩ := h2.cons_inv
    cases h6
    exact ⟨v, u, h1.symm, h4, hrun u rfl⟩
  | [], [], h1, h2, _, hrun => exact ⟨.tup [], .tuple #[], h1.symm, by simp [Rel, RelL], hrun _ rfl⟩
  | v1 :: v2 :: vs, u1 :: u2 :: us, h1, h2, _, hrun =>
    refine ⟨.tup (v1 :: v2 :: vs), .tuple (u1 :: u2 :: us).toArray, h1.symm, by simp only [Rel]; exact ⟨_, h2, rfl⟩, hrun _ ?_⟩
    rw [dif_neg (by simp)]
/-! ### Arguments -/
theorem params_eq : params = (List.range' 0 16).map setT := rfl
theorem setAll_rel {σ : Mp} {t : Array Value} : ∀ (m k : Nat) (tm : TM) (vs : List AV), k + m ≤ 512 → (∀ n, n < 512 → Rel σ (evT n tm) (t.getD n undef)) → (∀ i v, vs[i]? = some v → Rel σ v (t.getD (k + i) undef)) →
    ∀ n, n < 512 → Rel σ (evT n (setAll tm ((List.range' k m).map setT) vs)) (t.getD n undef)
  | 0, k, tm, vs, _, h, _, n, hn => by cases vs <;> exact h n hn
  | m + 1, k, tm, [], _, h, _, n, hn => by rw [List.range'_succ]; exact h n hn
  | m + 1, k, tm, v :: vs, hk, h, hv, n, hn => by
    rw [List.range'_succ]
    show Rel σ (evT n (setAll (setT k tm v) ((List.range' (k + 1) m).map setT) vs)) _
    refine setAll_rel m (k + 1) (setT k tm v) vs (by omega) (fun j hj => ?_) (fun i u hi => ?_) n hn
    · rw [evT_setT j k hj (by omega)]
      by_cases e : j = k
      · subst e; rw [if_pos rfl]; exact hv 0 v rfl
      · rw [if_neg e]; exact h j hj
    · have := hv (i + 1) u (by simpa using hi)
      rw [show k + (i + 1) = k + 1 + i by omega] at this
      exact this
theorem args_rel {σ : Mp} {as : List AV} {vs : List Value} (h : RelL σ as vs) (N : Nat) : TRel σ N (argsT as) ((⟨vs⟩ : Array Value) ++ Array.replicate (N - (⟨vs⟩ : Array Value).size) undef) := by
  refine ⟨by simp; omega, ?_⟩
  unfold argsT
  rw [params_eq]
  refine setAll_rel 16 0 tm0 as (by decide) (fun n hn => ?_) (fun i v hi => ?_)
  · rw [evT_tm0]; simp [Rel]
  · obtain ⟨u, hu, hr⟩ := h.get hi
    have : ((⟨vs⟩ : Array Value) ++ Array.replicate (N - (⟨vs⟩ : Array Value).size) undef).getD (0 + i) undef = u := by
      have hlt : i < vs.length := (List.getElem?_eq_some_iff.1 hu).1
      have hlt' : i < (⟨vs⟩ : Array Value).size := hlt
      rw [Nat.zero_add, Array.getD_eq_getD_getElem?, Array.getElem?_append_left hlt']
      have : (⟨vs⟩ : Array Value)[i]? = vs[i]? := by simp
      rw [this, hu]; rfl
    rw [this]; exact hr
end

section
variable {P : Program}
theorem dark_not {σ : Mp} {H : Heap} {w : World} (hs : Sim P σ H w) {b : Nat} {o : Obj} {l : Loc} (hb : H.t.get b = some o) (hl : σ b = some l) {x : Option (List Deferred)} (hx : w.heap[l.blk]? = some (.deferred x)) : False := by
  obtain ⟨c, hc, hr⟩ := hs.alive b o l hb hl
  rw [hx] at hc
  cases hc
  cases o with
  | row r => obtain ⟨_, _, h, _⟩ := hr; cases h
  | map es cl => obtain ⟨_, h, _⟩ := hr; cases h
  | siter s p => obtain ⟨h, _⟩ := hr; cases h
  | cmap es => obtain ⟨_, _, _, h, _⟩ := hr; cases h
  | miter m s q => obtain ⟨_, _, h, _⟩ := hr; cases h
  | loop => obtain ⟨_, h⟩ := hr; cases h
/-- a block of deferred calls is written -/
theorem Tr.take {σ0 σ : Mp} {H0 H : Heap} {w0 w : World} (t : Tr P σ0 H0 w0 σ H w) {r : Nat} {x : Option (List Deferred)} (y : Option (List Deferred)) (hr : w.heap[r]? = some (.deferred x)) (hlo : w0.heap.size ≤ r) :
    Tr P σ0 H0 w0 σ H (w.putObj r (.deferred y)) := by
  refine ⟨t.ext, ⟨t.sim.dom, t.sim.low, fun b o l hb hl => ?_, t.sim.inj, t.sim.glob, t.sim.ro⟩, by simpa using t.size, fun k hk hn => ?_, t.wr, t.nx, t.ro, t.low, t.tape, t.os, t.out, t.pend⟩
  · obtain ⟨c, hc, h⟩ := t.sim.alive b o l hb hl
    refine ⟨c, ?_, h⟩
    rw [World.putObj_heap_other fun e => dark_not t.sim hb hl (x := x) (by rw [e]; exact hr)]
    exact hc
  · rw [World.putObj_heap_other (by omega)]
    exact t.frame k hk hn
theorem DefRel.take {σ : Mp} {w : World} {lo r : Nat} {y : Option (List Deferred)} {l : List (AV × List AV)} {ds : List Deferred} (h : DefRel σ w lo l ds) (hn : ∀ d ∈ ds, ∀ r', d.target = .collected r' → r' ≠ r) : DefRel σ (w.putObj r (.deferred y)) lo l ds := by
  induction h with
  | nil => exact .nil
  | call h1 h2 h3 _ ih => exact .call h1 h2 h3 (ih fun d hd => hn d (List.mem_cons_of_mem _ hd))
  | mark h1 h2 h3 _ ih => exact .mark h1 (by rw [World.putObj_heap_other (hn _ (List.mem_cons_self ..) _ rfl)]; exact h2) h3 (ih fun d hd => hn d (List.mem_cons_of_mem _ hd))
theorem run_callFunc_own {f : FuncId} {fn : Func} {c : Code} {args : Array Value} {w : World} (hf : P.funcs[f]? = some fn) (hname : fn.name ≠ "runtime.NumGoroutine") (hb : fn.body = some c) : (callFunc f args).run P w = .ok (.enter f args) w := by
  simp [callFunc, hf, hname, hb]

def ModeRel (σ : Mp) (pn : Option AV) (u : FrameMode) : Prop := match pn with
  | none => u = .returning
  | some v => ∃ x, Rel σ v x ∧ u = .panicking [{ v := x, recovered := false }]
/-- deferred calls do what they are told to do -/
def DOk (P : Program) (dcall : Option AV → Nat → List AV → Heap → DR) : Prop :=
  ∀ (pn : Option AV) (g : Nat) (args : List AV) (H : Heap) (v : AV) (H' : Heap) (rec : Bool), dcall pn g args H = .ret v H' rec →
  ∀ (σ : Mp) (w : World) (vs : List Value) (c : Frame) (cs : List Frame), Sim P σ H w → RelL σ args vs → ModeRel σ pn c.mode →
    (callFunc g ⟨vs⟩).run P w = .ok (.enter g ⟨vs⟩) w ∧ (rec = true → pn.isSome = true) ∧
    ∃ σ' w', Tr P σ H w σ' H' w' ∧ Steps P (lone (Frame.enter P g ⟨vs⟩ .deferred) (c :: cs) w) (lone { c with mode := if rec then .returning else c.mode } cs w')
/-- what a function's end is -/
def EndR (P : Program) (σ0 : Mp) (H0 : Heap) (w0 : World) (r : CR) (e : Ending) (w : World) : Prop := match r with
  | .fail => False
  | .ret v H' => ∃ u σ', e = .returned u ∧ Rel σ' v u ∧ Tr P σ0 H0 w0 σ' H' w
  | .pan v H' => ∃ u σ', e = .panicked [{ v := u, recovered := false }] ∧ Rel σ' v u ∧ Tr P σ0 H0 w0 σ' H' w
theorem unwind_sound {dcall : Option AV → Nat → List AV → Heap → DR} (hD : DOk P dcall) {f : FuncId} {fn : Func} (hf : P.funcs[f]? = some fn) (hr : fn.results.toList.all (resOk P) = true) {N : Nat} {σ0 : Mp} {H0 : Heap} {w0 : World} {tm : TM} {tms : Array Value} :
    ∀ (ds : List Deferred) (σ : Mp) (H : Heap) (w : World) (l : List (AV × List AV)) (pn : Option AV) (fr : Frame) (cs : List Frame) (r : CR), fr.defers = ds → fr.fn = f → fr.kind = .normal → fr.tmps = tms →
    Tr P σ0 H0 w0 σ H w → TRel σ N tm tms → DefRel σ w w0.heap.size l ds → ModeRel σ pn fr.mode → deferred dcall (fn.results.toList.map (resC P)) tm l pn H = r → r ≠ .fail →
    ∃ e w' fr', EndR P σ0 H0 w0 r e w' ∧ Steps P (lone fr cs w) (lone fr' cs w') ∧ fr'.fn = f ∧ fr'.leaving P w' e := by
  intro ds
  induction ds with
  | nil =>
    intro σ H w l pn fr cs r hds hfn hk htm t ht hd hm he hne
    cases hd
    cases pn with
    | none =>
      obtain ⟨v, u, rfl, h1, h2⟩ := results_ok t.sim ht hr he hne
      exact ⟨.returned u, w, fr, ⟨u, σ, rfl, h1, t⟩, Steps.refl P _, hfn, hm, hds, hk, fn, by rw [hfn]; exact hf, by rw [htm]; exact h2⟩
    | some v =>
      obtain ⟨x, hx, hm⟩ := hm
      have he : CR.pan v H = r := he
      subst he
      exact ⟨_, w, fr, ⟨x, σ, rfl, hx, t⟩, Steps.refl P _, hfn, hm, hds, fn, by rw [hfn]; exact hf⟩
  | cons d ds ih =>
    intro σ H w l pn fr cs r hds hfn hk htm t ht hd hm he hne
    have hrun : fr.mode ≠ .run := by
      cases pn with
      | none => intro e; rw [show fr.mode = .returning from hm] at e; cases e
      | some v => obtain ⟨x, _, hm⟩ := hm; intro e; rw [hm] at e; cases e
    cases hd with
    | mark h1 h2 h3 h4 =>
      have hst := step_collected (P := P) (cs := cs) hrun hds rfl (run_takeDeferred h2)
      obtain ⟨e, w', fr', g1, g2, g3, g4⟩ := ih σ H (w.putObj _ (.deferred none)) l pn { fr with defers := [] ++ ds } cs r rfl hfn hk htm (t.take none h2 h1) ht (h4.take h3) hm he hne
      exact ⟨e, w', fr', g1, .head hst g2, g3, g4⟩
    | @call g p q args x y z l' _ h1 h2 h3 h4 =>
      have he : (match dcall pn g (p ++ (args ++ q)) H with | .ret _ H' rec => deferred dcall (fn.results.toList.map (resC P)) tm l' (cond rec none pn) H' | _ => .fail) = r := he
      cases hdc : dcall pn g (p ++ (args ++ q)) H with
      | fail => rw [hdc] at he; exact absurd he.symm hne
      | pan v H' rec => rw [hdc] at he; exact absurd he.symm hne
      | ret v H' rec =>
        rw [hdc] at he
        have he : deferred dcall (fn.results.toList.map (resC P)) tm l' (cond rec none pn) H' = r := he
        obtain ⟨k1, k2, σ1, w1, t1, k3⟩ := hD pn g _ H v H' rec hdc σ w (x ++ (y ++ z)) { fr with defers := ds } cs t.sim (h1.append (h2.append h3)) hm
        have hinv : (invoke (.fn (.func g) ⟨z⟩) ⟨x ++ y⟩).run P w = .ok (.enter g ⟨x ++ (y ++ z)⟩) w := by
          have : (⟨x ++ y⟩ : Array Value) ++ (⟨z⟩ : Array Value) = ⟨x ++ (y ++ z)⟩ := by simp
          simp only [invoke, this]
          exact k1
        have hst := step_defer (P := P) (cs := cs) hrun hds (fv := .func g) (cap := ⟨z⟩) rfl hinv
        have hm' : ModeRel σ1 (cond rec none pn) (if rec then FrameMode.returning else fr.mode) := by
          cases rec with
          | true => rfl
          | false =>
            cases pn with
            | none => exact hm
            | some v => obtain ⟨x, hx, hm⟩ := hm; exact ⟨x, hx.mono t1.ext, hm⟩
        obtain ⟨e, w', fr', g1, g2, g3, g4⟩ := ih σ1 H' w1 l' (cond rec none pn) { { fr with defers := ds } with mode := if rec then FrameMode.returning else fr.mode } cs r rfl hfn hk htm (t.trans t1) (ht.mono t1.ext) (h4.tr t.sim t1) hm' he hne
        exact ⟨e, w', fr', g1, .head hst (k3.trans g2), g3, g4⟩
/-- a function of the interpreter's is one of the program's -/
def FnOk (P : Program) (f : Nat) (cf : CF) : Prop :=
  ∃ fn c ds, P.funcs[f]? = some fn ∧ fn.name ≠ "runtime.NumGoroutine" ∧ fn.body = some c ∧ cf.rs = fn.results.toList.map (resC P) ∧
    (cf.body = badD ∨ (fn.results.toList.all (resOk P) = true ∧ Sound P fn.ntmps cf.body [.code c] ds))
theorem enter_eq {f : FuncId} {fn : Func} {c : Code} {args : Array Value} {kd : CallKind} (hf : P.funcs[f]? = some fn) (hb : fn.body = some c) :
    Frame.enter P f args kd = ({ (default : Frame) with fn := f, kind := kd } : Frame).atR { tmps := args ++ Array.replicate (fn.ntmps - args.size) undef, defers := [] } ([.code c] ++ []) := by
  simp [Frame.enter, Frame.atR, hf, hb]
  rfl
theorem rcRel_normal (σ : Mp) (cs : List Frame) : RcRel σ .normal (fun _ => cs) none := by
  refine ⟨fun fr h => ?_, fun v h => by cases h⟩
  unfold tryRecover
  rw [h]
/-- a call of a function with a body -/
theorem fun_sound {dcall : Option AV → Nat → List AV → Heap → DR} (hD : DOk P dcall) {f : Nat} {cf : CF} (h : FnOk P f cf) {c : Ctx} {args : List AV} {H : Heap} {σ : Mp} {w : World} {vs : List Value} (hs : Sim P σ H w) (hv : RelL σ args vs)
    (hc : CtxOk P c ({ (default : Frame) with fn := f, kind := .normal } : Frame) σ H w) : CROk P σ H w (outF dcall cf.rs (cf.body c (argsT args) H ⟨[], none⟩)) (.ok (.enter f ⟨vs⟩) w) := by
  obtain ⟨fn, code, ds, hf, hname, hb, hrs, hbody⟩ := h
  rcases hbody with hbad | ⟨hres, hsound⟩
  · rw [hbad]; exact trivial
  · rw [hrs]
    generalize he : cf.body c (argsT args) H ⟨[], none⟩ = res
    generalize hr : outF dcall (fn.results.toList.map (resC P)) res = r
    -- the end of the call
    have key : r ≠ .fail → ∀ cs, ∃ e w' fr', EndR P σ H w r e w' ∧ Steps P (lone (Frame.enter P f ⟨vs⟩ .normal) cs w) (lone fr' cs w') ∧ fr'.fn = f ∧ fr'.leaving P w' e := by
      intro hne cs
      cases res with
      | fail => exact absurd hr.symm hne
      | ok o tm' H' x' =>
        have hst : St P σ ({ (default : Frame) with fn := f, kind := .normal } : Frame) (fun _ => cs) fn.ntmps w.heap.size (argsT args) H ⟨[], none⟩ { tmps := (⟨vs⟩ : Array Value) ++ Array.replicate (fn.ntmps - (⟨vs⟩ : Array Value).size) undef, defers := [] } w :=
          ⟨hs, args_rel hv fn.ntmps, .nil, rcRel_normal σ cs, Nat.le_refl _⟩
        obtain ⟨σ1, a1, w1, t1, s1, _, arr⟩ := hsound c _ (fun _ => cs) w.heap.size σ _ H ⟨[], none⟩ _ w [] o tm' H' x' hc hst he
        rw [← enter_eq hf hb] at arr
        have go : ∀ (pn : Option AV) (fr : Frame), Steps P (lone (Frame.enter P f ⟨vs⟩ .normal) cs w) (lone fr cs w1) → fr.defers = a1.defers → fr.fn = f → fr.kind = .normal → fr.tmps = a1.tmps → ModeRel σ1 pn fr.mode →
            deferred dcall (fn.results.toList.map (resC P)) tm' x'.df pn H' = r → ∃ e w' fr', EndR P σ H w r e w' ∧ Steps P (lone (Frame.enter P f ⟨vs⟩ .normal) cs w) (lone fr' cs w') ∧ fr'.fn = f ∧ fr'.leaving P w' e := by
          intro pn fr hsteps h1 h2 h3 h4 h5 h6
          obtain ⟨e, w', fr', g1, g2, g3, g4⟩ := unwind_sound hD hf hres a1.defers σ1 H' w1 x'.df pn fr cs r h1 h2 h3 h4 t1 s1.tm s1.df h5 h6 hne
          exact ⟨e, w', fr', g1, hsteps.trans g2, g3, g4⟩
        have hdf : ∀ pn : Option AV, (match x'.df with | [] => (match pn with | none => AI.results (fn.results.toList.map (resC P)) tm' H' | some v => .pan v H') | df => deferred dcall (fn.results.toList.map (resC P)) tm' df pn H') = deferred dcall (fn.results.toList.map (resC P)) tm' x'.df pn H' := by
          intro pn
          cases x'.df with
          | nil => cases pn <;> rfl
          | cons d l => rfl
        cases o with
        | normal =>
          exact go none _ (Steps.trans arr (.one (stepR_end rfl))) rfl rfl rfl rfl rfl ((hdf none).symm.trans hr)
        | ret =>
          obtain ⟨todo, hs'⟩ := arr rfl
          exact go none _ hs' rfl rfl rfl rfl rfl ((hdf none).symm.trans hr)
        | pan v =>
          obtain ⟨todo, u, hu, hs'⟩ := arr
          exact go (some v) _ hs' rfl rfl rfl rfl ⟨u, hu, rfl⟩ ((hdf (some v)).symm.trans hr)
        | exit i => exact absurd hr.symm hne
    cases r with
    | fail => exact trivial
    | ret v H' =>
      intro cs
      obtain ⟨e, w', fr', ⟨u, σ', rfl, h1, h2⟩, g2, g3, g4⟩ := key (by simp) cs
      exact ⟨.returned u, w', fr', ⟨σ', h1, h2⟩, g2, g3, g4⟩
    | pan v H' =>
      intro cs
      obtain ⟨e, w', fr', ⟨u, σ', rfl, h1, h2⟩, g2, g3, g4⟩ := key (by simp) cs
      exact ⟨.panicked [{ v := u, recovered := false }], w', fr', ⟨u, rfl, σ', h1, h2⟩, g2, g3, g4⟩
theorem marks_sound {σ0 : Mp} {H0 : Heap} {w0 : World} : ∀ (ds : List Deferred) (σ : Mp) (H : Heap) (w : World) (fr : Frame) (cs : List Frame), fr.defers = ds → fr.mode ≠ .run → Tr P σ0 H0 w0 σ H w → DefRel σ w w0.heap.size [] ds →
    ∃ w', Steps P (lone fr cs w) (lone { fr with defers := [] } cs w') ∧ Tr P σ0 H0 w0 σ H w' := by
  intro ds
  induction ds with
  | nil =>
    intro σ H w fr cs hds hm t hd
    refine ⟨w, ?_, t⟩
    have : ({ fr with defers := [] } : Frame) = fr := by rw [← hds]
    rw [this]
    exact Steps.refl P _
  | cons d ds ih =>
    intro σ H w fr cs hds hm t hd
    cases hd with
    | mark h1 h2 h3 h4 =>
      have hst := step_collected (P := P) (cs := cs) hm hds rfl (run_takeDeferred h2)
      obtain ⟨w', g1, g2⟩ := ih σ H (w.putObj _ (.deferred none)) { fr with defers := [] ++ ds } cs rfl hm (t.take none h2 h1) (h4.take h3)
      exact ⟨w', .head hst g1, g2⟩
def FsOk (P : Program) (fs : T CF) : Prop := ∀ f cf, fs.get f = some cf → FnOk P f cf
def LibOk (P : Program) (lib : Nat → List AV → Heap → Option CR) : Prop :=
  ∀ f args H r, lib f args H = some r → ∀ σ w vs, Sim P σ H w → RelL σ args vs → CROk P σ H w r ((callFunc f ⟨vs⟩).run P w)
noncomputable def dcallN (fs : T CF) (fuel : Nat) (ih : Nat → List AV → Heap → CR) : Option AV → Nat → List AV → Heap → DR :=
  fun pn g as H => onCF .fail fs g fun cg => outD pn cg.rs (cg.body ⟨ih, noYield, noRange, fuel, false⟩ (argsT as) H ⟨[], pn⟩)
theorem onCF_get {α : Type} {d : α} {fs : T CF} {f : Nat} {k : CF → α} {r : α} (h : onCF d fs f k = r) (hr : r ≠ d) : ∃ cf, fs.get f = some cf ∧ k cf = r := by
  unfold onCF at h
  split at h
  · rename_i cf hcf; exact ⟨cf, hcf, h⟩
  · exact absurd h.symm hr
theorem ctx_plain {call : Nat → List AV → Heap → CR} (hcall : CallOk P call) {rng : AV → (List AV → Heap → CR) → TM → Heap → X → Res} (hrng : RngOk P rng) (fuel : Nat) {b : Frame} (hb : b.roundOf = none) (σ : Mp) (H : Heap) (w : World) : CtxOk P ⟨call, noYield, rng, fuel, false⟩ b σ H w :=
  ⟨hcall, yldOk_no σ H w, fun _ => hb, hrng, fun h => absurd hb h⟩
theorem dok_N {fs : T CF} (hfs : FsOk P fs) (fuel : Nat) {ih : Nat → List AV → Heap → CR} (hcall : CallOk P ih) : DOk P (dcallN fs fuel ih) := by
  intro pn g args H v H' rec he σ w vs c cs hs hv hm
  obtain ⟨cf, hcf, he⟩ := onCF_get he (by simp)
  obtain ⟨fn, code, ds, hf, hname, hb, hrs, hbody⟩ := hfs g cf hcf
  rcases hbody with hbad | ⟨hres, hsound⟩
  · rw [hbad] at he; cases he
  rw [hrs] at he
  generalize hbd : cf.body ⟨ih, noYield, noRange, fuel, false⟩ (argsT args) H ⟨[], pn⟩ = res at he
  -- the callers, before and after recover
  obtain ⟨K, hK1, hK2, hKr⟩ : ∃ K : Bool → List Frame, K pn.isSome = c :: cs ∧
      (∀ x' : X, ∃ c', K x'.rc.isSome = c' :: cs ∧ ({ c' with mode := settle c'.mode } : Frame) = { c with mode := if recd pn x' then .returning else c.mode }) ∧ RcRel σ .deferred K pn := by
    cases pn with
    | none =>
      have hm : c.mode = .returning := hm
      refine ⟨fun _ => c :: cs, rfl, fun x' => ⟨c, rfl, ?_⟩, ⟨fun fr hfr => ?_, fun v h => by cases h⟩⟩
      · show ({ c with mode := settle c.mode } : Frame) = { c with mode := c.mode }
        rw [show settle c.mode = c.mode by rw [hm]; rfl]
      · rw [tryRecover_deferred hfr]; simp [recoverD, hm]
    | some y =>
      obtain ⟨x, hx, hm⟩ := hm
      refine ⟨fun un => (if un then c else { c with mode := .panicking [{ v := x, recovered := true }] }) :: cs, rfl, fun x' => ?_, ⟨fun fr hfr => ?_, fun v h => ?_⟩⟩
      · cases hrc : x'.rc with
        | none =>
          refine ⟨_, rfl, ?_⟩
          have : recd (some y) x' = true := by unfold recd; rw [hrc]
          rw [this]
          rfl
        | some z =>
          refine ⟨_, rfl, ?_⟩
          have : recd (some y) x' = false := by unfold recd; rw [hrc]
          rw [this]
          show ({ c with mode := settle c.mode } : Frame) = { c with mode := c.mode }
          rw [show settle c.mode = c.mode by rw [hm]; rfl]
      · rw [tryRecover_deferred hfr]; simp [recoverD]
      · cases h
        refine ⟨x, hx, fun fr hfr => ?_⟩
        rw [tryRecover_deferred hfr]
        simp [recoverD, hm]
  have hst : St P σ ({ (default : Frame) with fn := g, kind := .deferred } : Frame) K fn.ntmps w.heap.size (argsT args) H ⟨[], pn⟩ { tmps := (⟨vs⟩ : Array Value) ++ Array.replicate (fn.ntmps - (⟨vs⟩ : Array Value).size) undef, defers := [] } w :=
    ⟨hs, args_rel hv fn.ntmps, .nil, hKr, Nat.le_refl _⟩
  refine ⟨run_callFunc_own hf hname hb, ?_, ?_⟩
  · intro hrec
    cases pn with
    | some _ => rfl
    | none =>
      exfalso
      subst hrec
      -- with nothing to recover nothing is recovered
      cases res with
      | fail => cases he
      | ok o tm' H1 x' =>
        have h0 : recd none x' = false := rfl
        cases o with
        | normal =>
          simp only [outD] at he
          split at he
          · cases he
          · cases he
        | ret =>
          simp only [outD] at he
          split at he
          · cases he
          · cases he
        | pan v => simp only [outD] at he; split at he <;> cases he
        | exit i => cases he
  · cases res with
    | fail => cases he
    | ok o tm' H1 x' =>
      obtain ⟨σ1, a1, w1, t1, s1, _, arr⟩ := hsound ⟨ih, noYield, noRange, fuel, false⟩ _ K w.heap.size σ _ H ⟨[], pn⟩ _ w [] o tm' H1 x' (ctx_plain hcall (rngOk_no P) fuel rfl σ H w) hst hbd
      rw [← enter_eq hf hb] at arr
      rw [hK1] at arr
      obtain ⟨c', hc', hset⟩ := hK2 x'
      have go : ∀ fr : Frame, Steps P (lone (Frame.enter P g ⟨vs⟩ .deferred) (c :: cs) w) (lone fr (c' :: cs) w1) → fr.defers = a1.defers → fr.fn = g → fr.kind = .deferred → fr.tmps = a1.tmps → fr.mode = .returning →
          (match x'.df, AI.results (fn.results.toList.map (resC P)) tm' H1 with | [], .ret v H => DR.ret v H (recd pn x') | _, _ => .fail) = .ret v H' rec →
          ∃ σ' w', Tr P σ H w σ' H' w' ∧ Steps P (lone (Frame.enter P g ⟨vs⟩ .deferred) (c :: cs) w) (lone { c with mode := if rec then .returning else c.mode } cs w') := by
        intro fr hsteps h1 h2 h3 h4 h5 h6
        split at h6
        · rename_i v' H2 hdf hrr
          cases h6
          obtain ⟨v2, u, e2, h7, h8⟩ := results_ok s1.sim s1.tm hres hrr (by simp)
          cases e2
          have hd := s1.df
          rw [hdf] at hd
          obtain ⟨w2, g1, g2⟩ := marks_sound a1.defers σ1 _ w1 fr (c' :: cs) h1 (by rw [h5]; intro e; cases e) t1 hd
          obtain ⟨v3, u3, e3, _, h9⟩ := results_ok g2.sim s1.tm hres hrr (by simp)
          have hgo : ({ fr with defers := [] } : Frame).going P w2 (.returned u3) := ⟨h5, rfl, fn, by rw [show ({ fr with defers := [] } : Frame).fn = g from h2]; exact hf, by rw [show ({ fr with defers := [] } : Frame).tmps = a1.tmps from h4]; exact h9⟩
          have hst2 := step_going_returned (P := P) (c := c') (cs := cs) (fr := { fr with defers := [] }) h3 hgo
          rw [hset] at hst2
          exact ⟨σ1, w2, g2, hsteps.trans (g1.trans (.one hst2))⟩
        · cases h6
      cases o with
      | normal =>
        have arr : Steps P _ _ := arr
        rw [hc'] at arr
        exact go _ (arr.trans (.one (stepR_end rfl))) rfl rfl rfl rfl rfl he
      | ret =>
        obtain ⟨todo, hs'⟩ := arr rfl
        rw [hc'] at hs'
        exact go _ hs' rfl rfl rfl rfl rfl he
      | pan v => simp only [outD] at he; split at he <;> cases he
      | exit i => cases he
/-- all calls -/
theorem callN_ok {lib : Nat → List AV → Heap → Option CR} {fs : T CF} (hlib : LibOk P lib) (hfs : FsOk P fs) (fuel : Nat) (hrng : ∀ call, CallOk P call → RngOk P (rangeK fs fuel call)) : ∀ n, CallOk P (callN lib fs fuel n)
  | 0 => fun _ _ _ _ _ _ _ _ => trivial
  | n + 1 => by
    have ih := callN_ok hlib hfs fuel hrng n
    intro f args H σ w vs hs hv
    show CROk P σ H w (libOr (lib f args H) (onCF .fail fs f fun cf => outF (dcallN fs fuel (callN lib fs fuel n)) cf.rs (cf.body ⟨callN lib fs fuel n, noYield, rangeK fs fuel (callN lib fs fuel n), fuel, false⟩ (argsT args) H ⟨[], none⟩))) _
    cases hl : lib f args H with
    | some r => exact hlib f args H r hl σ w vs hs hv
    | none =>
      show CROk P σ H w (onCF .fail fs f _) _
      unfold onCF
      cases hg : fs.get f with
      | none => exact trivial
      | some cf =>
        have hfn := hfs f cf hg
        have hrun : (callFunc f ⟨vs⟩).run P w = .ok (.enter f ⟨vs⟩) w := by
          obtain ⟨fn, code, ds, hf, hname, hb, _⟩ := hfn
          exact run_callFunc_own hf hname hb
        rw [hrun]
        exact fun_sound (dok_N hfs fuel ih) hfn hs hv (ctx_plain ih (hrng _ ih) fuel rfl σ H w)
/-- a loop's block is written -/
theorem Sim.loop {σ : Mp} {H : Heap} {w : World} (hs : Sim P σ H w) {l : Nat} {r0 : Loop} (hl : w.heap[l]? = some (.loop r0)) (r1 : Loop) : Sim P σ H (w.putObj l (.loop r1)) := by
  have hlt : l < w.heap.size := (Array.getElem?_eq_some_iff.1 hl).1
  refine ⟨hs.dom, hs.low, fun b o L hb hL => ?_, hs.inj, hs.glob, hs.ro⟩
  obtain ⟨c, hc, hr⟩ := hs.alive b o L hb hL
  by_cases e : L.blk = l
  · rw [e, hl] at hc
    cases hc
    refine ⟨.loop r1, by rw [e]; exact World.putObj_heap_same hlt, ?_⟩
    cases o with
    | row r => obtain ⟨_, _, h, _⟩ := hr; cases h
    | map es cl => obtain ⟨_, h, _⟩ := hr; cases h
    | siter s p => obtain ⟨h, _⟩ := hr; cases h
    | cmap es => obtain ⟨_, _, _, h, _⟩ := hr; cases h
    | miter m s q => obtain ⟨_, _, h, _⟩ := hr; cases h
    | loop => exact ⟨r1, rfl⟩
  · exact ⟨c, by rw [World.putObj_heap_other e]; exact hc, hr⟩
/-- while a loop's block is changed and changed back -/
theorem Tr.mask {σ σ' : Mp} {H H' : Heap} {w w' : World} {l : Nat} {r0 r1 : Loop} (hs : Sim P σ H w) (hl : w.heap[l]? = some (.loop r0)) (t : Tr P σ H (w.putObj l (.loop r1)) σ' H' w') : Tr P σ H w σ' H' (w'.putObj l (.loop r0)) := by
  have hlt : l < w.heap.size := (Array.getElem?_eq_some_iff.1 hl).1
  have hl' : w'.heap[l]? = some (.loop r1) := t.dark (hs.loop hl r1) (World.putObj_heap_same hlt) trivial
  have hz : w.heap.size ≤ w'.heap.size := by have := t.size; simpa using this
  refine ⟨t.ext, t.sim.loop hl' r0, by simpa using hz, fun k hk hn => ?_, fun b L hw hL hlt' => t.wr b L hw hL (by simpa using hlt'), t.nx, t.ro, t.low, t.tape, t.os, t.out, t.pend⟩
  by_cases e : k = l
  · subst e
    rw [World.putObj_heap_same (by omega), hl]
  · rw [World.putObj_heap_other e, t.frame k (by simpa using hk) hn, World.putObj_heap_other e]
theorem Tr.putLoop {σ0 σ : Mp} {H0 H : Heap} {w0 w : World} (t : Tr P σ0 H0 w0 σ H w) {l : Nat} {r0 : Loop} (r1 : Loop) (hl : w.heap[l]? = some (.loop r0)) (hlo : w0.heap.size ≤ l) : Tr P σ0 H0 w0 σ H (w.putObj l (.loop r1)) :=
  ⟨t.ext, t.sim.loop hl r1, by simpa using t.size, fun k hk hn => by rw [World.putObj_heap_other (by omega)]; exact t.frame k hk hn, t.wr, t.nx, t.ro, t.low, t.tape, t.os, t.out, t.pend⟩
theorem DefRel.putLoop {σ : Mp} {w : World} {lo l : Nat} {r0 : Loop} (r1 : Loop) (hl : w.heap[l]? = some (.loop r0)) {ls : List (AV × List AV)} {ds : List Deferred} (h : DefRel σ w lo ls ds) : DefRel σ (w.putObj l (.loop r1)) lo ls ds :=
  h.mono (Ext.refl σ) fun r x hr => by
    rw [World.putObj_heap_other fun e => by rw [e, hl] at hr; cases hr]; exact hr
theorem foldl_set {σ : Mp} {N : Nat} : ∀ (ps : List Nat) (ys : List AV) (vs : List Value) (tm : TM) (t : Array Value), TRel σ N tm t → RelL σ ys vs → ps.length = vs.length → (ps.all fun p => okT N (some p)) = true →
    TRel σ N (setAll tm (ps.map fun p => dstC (some p)) ys) ((ps.zip vs).foldl (fun t (p, v) => t.setIfInBounds p v) t)
  | [], ys, vs, tm, t, h, hr, hl, _ => by cases ys <;> simpa [setAll] using h
  | p :: ps, [], vs, tm, t, h, hr, hl, _ => by rw [hr.nil_inv] at hl; cases hl
  | p :: ps, y :: ys, vs, tm, t, h, hr, hl, hp => by
    obtain ⟨v, vs', h1, h2, rfl⟩ := hr.cons_inv
    simp only [List.all_cons, Bool.and_eq_true] at hp
    have := h.set (a := y) (v := v) (Nat.le_of_ble_eq_true hp.1) h1
    exact foldl_set ps ys vs' _ _ this h2 (by simpa using hl) hp.2
theorem roundR_ok {r : Res} {c : CR} (h : roundR r = c) (hc : c ≠ .fail) : ∃ tm H x, r = .ok .normal tm H x ∧ c = .ret (.bool true) H := by
  unfold roundR at h
  split at h
  · exact ⟨_, _, _, rfl, h.symm⟩
  · exact absurd h.symm hc
/-- one round -/
theorem round_ok {N : Nat} {da db : D} {asg body : Code} {ds1 ds2 : List Nat} (ha : Sound P N da [.code asg] ds1) (hb : Sound P N db [.code body] ds2) {ps : Array Tmp} (hps : (ps.toList.all fun t => okT N (some t)) = true)
    {call : Nat → List AV → Heap → CR} (hcall : CallOk P call) (fuel : Nat) {σ : Mp} {tm : TM} {t : Array Value} (ht : TRel σ N tm t) {fn : FuncId}
    {σ1 : Mp} {H1 : Heap} {w1 : World} {l df : Nat} {ys : List AV} {vs : List Value} (he : Ext σ σ1) (hs : Sim P σ1 H1 w1)
    (hl : w1.heap[l]? = some (.loop { state := .ready, pending := none, fn := fn, tmps := t, params := ps, assign := asg, body := body, defers := df })) (hv : RelL σ1 ys vs) :
    CROk P σ1 H1 w1 (cond (Nat.beq (lenL ys) (lenL (ps.toList.map fun p => dstC (some p)))) (roundR (seqD da db ⟨call, noYield, noRange, fuel, true⟩ (setAll tm (ps.toList.map fun p => dstC (some p)) ys) H1 ⟨[], none⟩)) .fail) ((Instr.yield l ⟨vs⟩).run P w1) := by
  cases hlen : Nat.beq (lenL ys) (lenL (ps.toList.map fun p => dstC (some p))) with
  | false => exact trivial
  | true =>
    show CROk P σ1 H1 w1 (roundR _) _
    generalize hr : roundR (seqD da db ⟨call, noYield, noRange, fuel, true⟩ (setAll tm (ps.toList.map fun p => dstC (some p)) ys) H1 ⟨[], none⟩) = c
    cases c with
    | fail => exact trivial
    | pan v H => obtain ⟨_, _, _, _, h⟩ := roundR_ok hr (by simp); cases h
    | ret v H =>
      obtain ⟨tm', H', x', hrun, hc⟩ := roundR_ok hr (by simp)
      cases hc
      have hlen := Nat.eq_of_beq_eq_true hlen
      rw [lenL_eq, lenL_eq, List.length_map, hv.length] at hlen
      have hsz : (⟨vs⟩ : Array Value).size = ps.size := by simpa using hlen
      rw [run_yield hl hsz]
      intro fr cs
      let b : Frame := { (default : Frame) with fn := fn, kind := .normal, roundOf := some l }
      let t1 : Array Value := (ps.zip ⟨vs⟩).foldl (fun tmps (t, a) => tmps.setIfInBounds t a) t
      have hb0 : Frame.round l fn t1 asg body .normal = b.atR { tmps := t1, defers := [] } ([.code asg] ++ [.beginRound, .code body]) := by simp [Frame.round, Frame.atR, b]
      have htl : t1 = (ps.toList.zip vs).foldl (fun t (p, v) => t.setIfInBounds p v) t := by
        show (ps.zip ⟨vs⟩).foldl _ t = _
        rw [← Array.foldl_toList, Array.toList_zip]
      have ht1 : TRel σ1 N (setAll tm (ps.toList.map fun p => dstC (some p)) ys) t1 := by
        rw [htl]
        exact foldl_set ps.toList ys vs tm t (ht.mono he) hv (by simpa using hlen.symm) hps
      have ctx : ∀ (σ : Mp) (H : Heap) (w : World), CtxOk P ⟨call, noYield, noRange, fuel, true⟩ b σ H w := fun σ H w => ⟨hcall, yldOk_no σ H w, (fun h => by cases h), rngOk_no P, fun _ => rfl⟩
      have hst : St P σ1 b (fun _ => fr :: cs) N w1.heap.size (setAll tm (ps.toList.map fun p => dstC (some p)) ys) H1 ⟨[], none⟩ { tmps := t1, defers := [] } w1 :=
        ⟨hs, ht1, .nil, rcRel_normal σ1 _, Nat.le_refl _⟩
      obtain ⟨o1, tm1, H2, x1, h1, h2⟩ := thenR_ok hrun
      rcases h2 with ⟨rfl, h2⟩ | ⟨hne, h3, _⟩
      · obtain ⟨σ2, a2, w2, tr1, s1, _, arr1⟩ := ha _ b (fun _ => fr :: cs) w1.heap.size σ1 _ H1 ⟨[], none⟩ _ w1 [.beginRound, .code body] .normal tm1 H2 x1 (ctx _ _ _) hst h1
        have hl2 := tr1.dark hs hl trivial
        have hbr := run_beginRound (P := P) hl2 rfl
        have s2 : St P σ2 b (fun _ => fr :: cs) N w1.heap.size tm1 H2 x1 a2 (w2.putObj l (.loop { state := .busy, pending := none, fn := fn, tmps := t, params := ps, assign := asg, body := body, defers := df })) :=
          ⟨s1.sim.loop hl2 _, s1.tm, s1.df.putLoop _ hl2, s1.rc, by simpa using s1.lo⟩
        obtain ⟨σ3, a3, w3, tr2, s3, _, arr2⟩ := hb _ b (fun _ => fr :: cs) w1.heap.size σ2 tm1 H2 x1 a2 _ [] .normal tm' H x' (ctx _ _ _) s2 h2
        have hl3 : w3.heap[l]? = some (.loop { state := .busy, pending := none, fn := fn, tmps := t, params := ps, assign := asg, body := body, defers := df }) :=
          tr2.dark s2.sim (World.putObj_heap_same (Array.getElem?_eq_some_iff.1 hl2).1) trivial
        have hend := run_endRound (P := P) none hl3
        have tr := tr1.trans (Tr.mask s1.sim hl2 tr2)
        refine ⟨.bool true, _, ⟨σ3, by simp [Rel], tr⟩, ?_⟩
        rw [hb0]
        have arr1 : Steps P _ _ := arr1
        have arr2 : Steps P _ _ := arr2
        exact arr1.trans (.head (stepR_beginRound rfl hbr) (arr2.trans (.one (stepR_round_end rfl rfl hend))))
      · exact absurd h3 hne
/-- the statement -/
theorem sound_range {N : Nat} {da db : D} {asg body : Code} {ds1 ds2 : List Nat} (ha : Sound P N da [.code asg] ds1) (hb : Sound P N db [.code body] ds2) {g : Operand} {ps : Array Tmp} (hps : (ps.toList.all fun t => okT N (some t)) = true) :
    Sound P N (rangeD (argE P g) (ps.toList.map fun t => dstC (some t)) (seqD da db)) [.code (.rangeFunc g ps asg body)] [] := by
  intro c b K lo σ tm H x a w k o tm' H' x' hc hs he
  have he : c.rng (argE P g tm) (fun ys H => cond (Nat.beq (lenL ys) (lenL (ps.toList.map fun t => dstC (some t)))) (roundR (seqD da db ⟨c.call, noYield, noRange, c.fuel, true⟩ (setAll tm (ps.toList.map fun t => dstC (some t)) ys) H ⟨[], none⟩)) .fail) tm H x = .ok o tm' H' x' := he
  by_cases hb0 : b.roundOf = none
  · obtain ⟨σ', a', w', h1, h2, h3, h4⟩ := hc.rng _ _ tm H x o tm' H' x' he σ w b K N lo a k g ps asg body hs hb0 (ops_of hs.sim hs.tm g) (fun σ1 H1 w1 l df ys vs h1 h2 h3 h4 => round_ok ha hb hps hc.call c.fuel hs.tm h1 h2 h3 h4)
    exact ⟨σ', a', w', h1, h2, fun n _ => by rw [h3], h4⟩
  · rw [hc.rngN hb0] at he
    cases he
theorem DefRel.lt {σ : Mp} {w : World} {lo : Nat} {l : List (AV × List AV)} {ds : List Deferred} (h : DefRel σ w lo l ds) : ∀ d ∈ ds, ∀ r, d.target = .collected r → r < w.heap.size := by
  induction h with
  | nil => intro d hd; cases hd
  | call _ _ _ _ ih =>
    intro d hd r hr
    rcases List.mem_cons.1 hd with rfl | hd
    · cases hr
    · exact ih d hd r hr
  | mark _ h2 _ _ ih =>
    intro d hd r hr
    rcases List.mem_cons.1 hd with rfl | hd
    · cases hr; exact (Array.getElem?_eq_some_iff.1 h2).1
    · exact ih d hd r hr
theorem Tr.block {σ : Mp} {H : Heap} {w : World} (hs : Sim P σ H w) (c : Go.Obj) : Tr P σ H w σ H (w.alloc c) := by
  have hf : ∀ k, k < w.heap.size → (w.alloc c).heap[k]? = w.heap[k]? := fun k hk => heap_push_old hk
  exact ⟨Ext.refl σ, hs.grow hf, by simp, fun k hk _ => hf k hk, fun b l hw hl _ => ⟨b, l, hw, hl, rfl⟩, Nat.le_refl _, rfl, fun _ _ => rfl, rfl, rfl, rfl, fun _ _ h => ⟨rfl, h⟩⟩
theorem callR_ok {r : CR} {tm : TM} {x : X} {o : Out} {tm' : TM} {H' : Heap} {x' : X} (h : callR r tm x = .ok o tm' H' x') : tm' = tm ∧ x' = x ∧ ((∃ v, r = .ret v H' ∧ o = .normal) ∨ ∃ v, r = .pan v H' ∧ o = .pan v) := by
  cases r with
  | fail => cases h
  | ret v H => cases h; exact ⟨rfl, rfl, .inl ⟨v, rfl, rfl⟩⟩
  | pan v H => cases h; exact ⟨rfl, rfl, .inr ⟨v, rfl, rfl⟩⟩
theorem rngOk_range {fs : T CF} (hfs : FsOk P fs) (fuel : Nat) {call : Nat → List AV → Heap → CR} (hcall : CallOk P call) : RngOk P (rangeK fs fuel call) := by
  intro f round tm H x o tm' H' x' he σ w b K N lo a k g ps asg body hs hb hf hround
  cases f with
  | func fg p q =>
    simp only [rangeK] at he
    obtain ⟨cf, hcf, he⟩ := onCF_get he (by simp)
    obtain ⟨rfl, rfl, hout⟩ := callR_ok he
    simp only [Rel] at hf
    obtain ⟨xs, zs, hxs, hzs, hfv⟩ := hf
    let lp : Loop := { state := .ready, pending := none, fn := b.fn, tmps := a.tmps, params := ps, assign := asg, body := body, defers := w.heap.size }
    let wd : World := w.alloc (.deferred (some []))
    let w2 : World := wd.alloc (.loop lp)
    let l : Nat := w.heap.size + 1
    have hwd : wd.heap.size = l := by simp [wd, l]
    let L : Loc := ⟨l, 0, 0, 0⟩
    have t1 : Tr P σ H w σ H wd := Tr.block hs.sim _
    have t2 : Tr P σ H wd (σ.put H.nx L) (H.new .loop) w2 := Tr.alloc t1.sim .loop (.loop lp) L (by simp [L, hwd]) ⟨lp, rfl⟩
    have tt := t1.trans t2
    have hl2 : w2.heap[l]? = some (.loop lp) := by rw [← hwd]; exact heap_push_new wd _
    have hr2 : w2.heap[w.heap.size]? = some (.deferred (some [])) := by
      have : wd.heap[w.heap.size]? = some (.deferred (some [])) := heap_push_new w _
      rw [heap_push_old (by rw [hwd]; exact Nat.lt_succ_self _)]; exact this
    have hLput : (σ.put H.nx L) H.nx = some L := Mp.put_same _ _ _
    -- the call
    have hvs : RelL (σ.put H.nx L) (p ++ (.yield H.nx :: q)) (xs ++ (.func (.yield l) #[] #[] :: zs)) :=
      (RelL.mono tt.ext hxs).append (relL_cons (by simp only [Rel]; exact ⟨L, hLput, rfl⟩) (RelL.mono tt.ext hzs))
    have hfn := hfs fg cf hcf
    have ctx : CtxOk P ⟨call, fun bk ys H' => cond (Nat.beq bk H.nx) (round ys H') .fail, noRange, fuel, false⟩ ({ (default : Frame) with fn := fg, kind := .normal } : Frame) (σ.put H.nx L) (H.new .loop) w2 := by
      refine ⟨hcall, fun bk args Hy σy wy ly vsy ty hbk hvy => ?_, fun _ => rfl, rngOk_no P, fun h => absurd rfl h⟩
      show CROk P σy Hy wy (cond (Nat.beq bk H.nx) (round args Hy) .fail) _
      cases e : Nat.beq bk H.nx with
      | false => exact trivial
      | true =>
        have e := Nat.eq_of_beq_eq_true e
        subst e
        have h1 := ty.ext _ _ hLput
        rw [h1] at hbk
        cases hbk
        exact hround σy Hy wy l w.heap.size args vsy (tt.ext.trans ty.ext) ty.sim (ty.dark t2.sim hl2 trivial) hvy
    have hcr := fun_sound (dcall := fun _ _ _ _ => .fail) (fun _ _ _ _ _ _ _ h => by cases h) hfn tt.sim hvs ctx
    have henter := run_enterLoop_outer (P := P) (w := w) b.fn a.tmps ps asg body
    have hres : (resolve a.eval (rangeCall g l) 0).run P w2 = .ok { target := .fn (.func fg) ⟨zs⟩, args := ⟨xs ++ [.func (.yield l) #[] #[]]⟩ } w2 := by
      simp only [resolve, hfv, Deferred.ofValue, Sem.run_pure]
      congr 3
      apply Array.ext'
      simp [Act.eval]
    have hcf2 : (callFunc fg ⟨xs ++ (.func (.yield l) #[] #[] :: zs)⟩).run P w2 = .ok (.enter fg ⟨xs ++ (.func (.yield l) #[] #[] :: zs)⟩) w2 := by
      obtain ⟨fn, code, ds, h1, h2, h3, _⟩ := hfn
      exact run_callFunc_own h1 h2 h3
    have hinv : (invoke (.fn (.func fg) ⟨zs⟩) ⟨xs ++ [.func (.yield l) #[] #[]]⟩).run P w2 = .ok (.enter fg ⟨xs ++ (.func (.yield l) #[] #[] :: zs)⟩) w2 := by
      have : (⟨xs ++ [.func (.yield l) #[] #[]]⟩ : Array Value) ++ (⟨zs⟩ : Array Value) = ⟨xs ++ (.func (.yield l) #[] #[] :: zs)⟩ := by simp
      simp only [invoke, this]
      exact hcf2
    have hstep := stepR_rangeFunc (P := P) (b := b) (a := a) (k := k) (cs := K x'.rc.isSome) (w := w) (g := g) (ps := ps) (assign := asg) (body := body) (by rw [hb]; exact henter) hres hinv
    -- the deferred calls, with the mark
    have hdf : ∀ (σ3 : Mp) (H3 : Heap) (w3 : World), Tr P (σ.put H.nx L) (H.new .loop) w2 σ3 H3 w3 → DefRel σ3 w3 lo x'.df ({ target := .collected w.heap.size, args := #[] } :: a.defers) := by
      intro σ3 H3 w3 t3
      refine .mark hs.lo (t3.dark t2.sim hr2 trivial) (fun d hd r' hr' => ?_) ((hs.df.tr hs.sim tt).tr t2.sim t3)
      have := hs.df.lt d hd r' hr'
      omega
    rcases hout with ⟨v, hr, rfl⟩ | ⟨v, hr, rfl⟩
    · rw [hr] at hcr
      obtain ⟨e, w3, fr3, hR, hsteps, hfn3, hleave⟩ := hcr (b.atR { a with defers := { target := .collected w.heap.size, args := #[] } :: a.defers } (.inRangeFunc l :: k) :: K x'.rc.isSome)
      cases e with
      | outgrown => exact hR.elim
      | panicked chain => obtain ⟨_, _, h⟩ := hR; exact h.elim
      | returned u =>
        obtain ⟨σ3, _, t3⟩ := hR
        have hl3 := t3.dark t2.sim hl2 trivial
        have hend := run_endLoop (P := P) hl3 (by simp [lp])
        have t4 := Tr.putLoop (tt.trans t3) { lp with state := .exhausted } hl3 (Nat.le_succ _)
        have hback := step_leave_returned (c := b.atR { a with defers := { target := .collected w.heap.size, args := #[] } :: a.defers } (.inRangeFunc l :: k)) (cs := K x'.rc.isSome) hleave
        rw [finish_atR_inRangeFunc] at hback
        refine ⟨σ3, { a with defers := { target := .collected w.heap.size, args := #[] } :: a.defers }, _, t4, ⟨t4.sim, hs.tm.mono t4.ext, (hdf σ3 H' w3 t3).putLoop _ hl3, hs.rc.mono t4.ext, by have := t4.size; exact Nat.le_trans hs.lo this⟩, rfl, ?_⟩
        exact .head hstep (hsteps.trans (.head hback (.one (stepR_endRangeFunc hend))))
    · rw [hr] at hcr
      obtain ⟨e, w3, fr3, hR, hsteps, hfn3, hleave⟩ := hcr (b.atR { a with defers := { target := .collected w.heap.size, args := #[] } :: a.defers } (.inRangeFunc l :: k) :: K x'.rc.isSome)
      cases e with
      | outgrown => exact hR.elim
      | returned u => exact hR.elim
      | panicked chain =>
        obtain ⟨u, rfl, σ3, hu, t3⟩ := hR
        have t4 := tt.trans t3
        have hback := step_leave_panicked (c := b.atR { a with defers := { target := .collected w.heap.size, args := #[] } :: a.defers } (.inRangeFunc l :: k)) (cs := K x'.rc.isSome) hleave
        refine ⟨σ3, { a with defers := { target := .collected w.heap.size, args := #[] } :: a.defers }, w3, t4, ⟨t4.sim, hs.tm.mono t4.ext, hdf σ3 H' w3 t3, hs.rc.mono t4.ext, Nat.le_trans hs.lo t4.size⟩, rfl, .inRangeFunc l :: k, u, hu, ?_⟩
        rw [← Frame.raise_atR]
        exact .head hstep (hsteps.trans (.one hback))
  | _ => cases he
end

section
variable {P : Program} {N : Nat}
/-! ### The first operation of a round -/
def restItems : Code → List Item
  | .seq a b => restItems a ++ [.code b]
  | .region _ ops _ => [.inRegion ops (List.range' 1 (ops.size - 1))]
  | _ => []
theorem mnext_enter : ∀ (c : Code) {q : Operand} {t : Option Nat}, mnextOf c = some (q, t) →
    ∃ ops tl o, restItems c = .inRegion ops (List.range' 1 (ops.size - 1)) :: tl ∧ ops[0]? = some o ∧ o.op = .next q false ∧ o.guard = none ∧ o.dst = t ∧
      ∀ (b : Frame) (a : Act) (k : List Item) (cs : List Frame) (w : World), Steps P (lone (b.atR a (.code c :: k)) cs w) (lone (b.atR a (.inRegion ops (0 :: List.range' 1 (ops.size - 1)) :: (tl ++ k))) cs w)
  | .seq x y, q, t, h => by
    obtain ⟨ops, tl, o, h1, h2, h3, h4, h5, h6⟩ := mnext_enter x (q := q) (t := t) h
    refine ⟨ops, tl ++ [.code y], o, by show restItems x ++ [.code y] = _; rw [h1]; rfl, h2, h3, h4, h5, fun b a k cs w => .head stepR_seq ?_⟩
    have := h6 b a (.code y :: k) cs w
    simpa using this
  | .region id ops d, q, t, h => by
    cases d with
    | true => cases h
    | false =>
      unfold mnextOf at h
      cases hl : ops.toList with
      | nil => rw [hl] at h; cases h
      | cons o l =>
        rw [hl] at h
        simp only at h
        split at h
        · rename_i x hop hg
          cases h
          have h0 : ops[0]? = some o := by rw [← Array.getElem?_toList, hl]; rfl
          refine ⟨ops, [], o, rfl, h0, hop, hg, rfl, fun b a k cs w => .one ?_⟩
          have hsz : 0 < ops.size := (Array.getElem?_eq_some_iff.1 h0).1
          have hr : List.range ops.size = 0 :: List.range' 1 (ops.size - 1) := by
            rw [List.range_eq_range', show ops.size = (ops.size - 1) + 1 by omega, List.range'_succ]
            simp
          rw [← hr]
          exact stepR_region
        · cases h
  | .skip, _, _, h => by cases h
  | .cond _ _ _, _, _, h => by cases h
  | .block _ _, _, _, h => by cases h
  | .loop _, _, _, h => by cases h
  | .rangeFunc _ _ _ _, _, _, h => by cases h
  | .exit _, _, _, h => by cases h
  | .scope _, _, _, h => by cases h
  | .label _, _, _, h => by cases h
  | .goto _, _, _, h => by cases h
  | .ret, _, _, h => by cases h
  | .refuse _, _, _, h => by cases h
theorem noNorm_ok {r : Res} {o : Out} {tm : TM} {H : Heap} {x : X} (h : noNorm r = .ok o tm H x) : r = .ok o tm H x ∧ o ≠ .normal := by
  unfold noNorm at h
  split at h
  · cases h
  · rename_i hne
    exact ⟨h, fun e => by subst e; exact hne tm H x h⟩
theorem choose_map (n : Nat) (w : World) : ∃ i w', (choose (.mapNext n)).run P w = .ok i w' ∧ (n ≠ 0 → i < n) ∧ (w' = w ∨ w' = w.drew) := by
  rw [run_choose_drew]
  by_cases h : n ≤ 1
  · refine ⟨0, w, by simp [Question.forced, h], fun h0 => by omega, .inl rfl⟩
  · refine ⟨(Question.mapNext n).cut (w.tape w.drawn (.mapNext n)), w.drew, by simp [Question.forced, h], fun h0 => ?_, .inr rfl⟩
    show _ % n < n
    exact Nat.mod_lt _ (by omega)
/-- one step of the iterator -/
theorem run_next {lb m since : Nat} {seen : Array Nat} {es : Array MapEntry} {w : World} (h1 : w.heap[lb]? = some (.mapIter (some m) since seen since)) (h2 : w.heap[m]? = some (.map es since)) (hr : ∀ e ∈ es, e.born < since) (ty : TypeId) :
    ((es.filter fun e => !seen.contains e.born) = #[] ∧ ∃ w', (Instr.next (.pointer (some ⟨lb, 0, none⟩)) false ty).run P w = .ok (.tuple #[.bool false]) w' ∧ (w' = w ∨ w' = w.drew)) ∨
    (∃ e ∈ es, seen.contains e.born = false ∧ ∃ w0, (w0 = w ∨ w0 = w.drew) ∧ (Instr.next (.pointer (some ⟨lb, 0, none⟩)) false ty).run P w = .ok (.tuple #[.bool true, e.key, e.val]) { w0 with heap := w0.heap.setIfInBounds lb (.mapIter (some m) since (seen.push e.born) since) }) := by
  have g1 : (getObj lb).run P w = .ok (.mapIter (some m) since seen since) w := run_objI h1
  have g2 : (getObj m).run P w = .ok (.map es since) w := by simp [getObj, Sem.run, h2]
  have hun : ¬ ((!seen.isEmpty && !es.isEmpty && es.all (fun e => decide (e.born ≥ since))) = true) := by
    intro h
    simp only [Bool.and_eq_true, Bool.not_eq_true'] at h
    obtain ⟨⟨_, h3⟩, h4⟩ := h
    cases hes : es.toList with
    | nil => simp [Array.isEmpty, ← Array.length_toList, hes] at h3
    | cons e l =>
      have he : e ∈ es := by rw [← Array.mem_toList_iff, hes]; exact List.mem_cons_self ..
      have h5 := Array.all_eq_true_iff_forall_mem.1 h4 e he
      have := hr e he
      simp at h5
      omega
  let left := es.filter fun e => !seen.contains e.born
  have hold : left.filter (fun e => decide (e.born < since)) = left := by
    apply Array.filter_eq_self.2
    intro e he
    have : e ∈ es := (Array.mem_filter.1 he).1
    simpa using hr e this
  have hnew : left.filter (fun e => decide (e.born ≥ since)) = #[] := by
    apply Array.filter_eq_empty_iff.2
    intro e he
    have : e ∈ es := (Array.mem_filter.1 he).1
    have := hr e this
    simp; omega
  have hrun : (Instr.next (.pointer (some ⟨lb, 0, none⟩)) false ty).run P w = ((do
      match ((if left.isEmpty then #[none] else #[]) ++ (left ++ #[]).map some)[← choose (.mapNext ((if left.isEmpty then (#[none] : Array (Option MapEntry)) else #[]) ++ (left ++ #[]).map some).size)]? with
      | some (some e) =>
        setObj lb (.mapIter (some m) since (seen.push e.born) since)
        pure (.tuple #[.bool true, e.key, e.val])
      | some none => pure (.tuple #[.bool false])
      | none => stuck "Next: no such candidate") : Sem Value).run P w := by
    have hold' : Array.filter (fun e => decide (e.born < since)) (Array.filter (fun e => !seen.contains e.born) es) = left := hold
    have hnew' : Array.filter (fun e => decide (e.born ≥ since)) (Array.filter (fun e => !seen.contains e.born) es) = #[] := hnew
    simp only [Instr.next, Sem.run_bind, g1, g2, Result.andThen_ok, if_neg hun, Sem.run_pure, hold', hnew']
    rfl
  rw [hrun]
  by_cases hle : left = #[]
  · left
    refine ⟨hle, ?_⟩
    obtain ⟨i, w', hc, hi, hw⟩ := choose_map (P := P) 1 w
    have hi0 : i = 0 := by have := hi (by decide); omega
    subst hi0
    refine ⟨w', ?_, hw⟩
    rw [hle]
    have : ((if (#[] : Array MapEntry).isEmpty then (#[none] : Array (Option MapEntry)) else #[]) ++ ((#[] : Array MapEntry) ++ #[]).map some) = #[none] := by simp
    simp only [this, Sem.run_bind]
    have hsz : (#[none] : Array (Option MapEntry)).size = 1 := rfl
    rw [hsz, hc]
    rfl
  · right
    have hne : left.isEmpty = false := by simpa [Array.isEmpty_iff] using hle
    obtain ⟨i, w', hc, hi, hw⟩ := choose_map (P := P) left.size w
    have hs0 : left.size ≠ 0 := fun h => hle (Array.eq_empty_of_size_eq_zero h)
    have hilt := hi hs0
    have hmem : left[i] ∈ left := Array.getElem_mem hilt
    obtain ⟨m1, m2⟩ := Array.mem_filter.1 hmem
    refine ⟨left[i], m1, by simpa using m2, w', hw, ?_⟩
    have : ((if left.isEmpty then (#[none] : Array (Option MapEntry)) else #[]) ++ (left ++ #[]).map some) = left.map some := by rw [hne]; simp
    simp only [this, Sem.run_bind, Array.size_map]
    rw [hc]
    have hg : (left.map some)[i]? = some (some left[i]) := by simp [hilt]
    have hhp : w'.heap = w.heap := by rcases hw with rfl | rfl <;> rfl
    simp only [Result.andThen_ok, hg, Sem.run_bind]
    simp [setObj, Sem.run, hhp, h1]
theorem DefRel.any {σ σ' : Mp} {w : World} {lo : Nat} {ds : List Deferred} (h : DefRel σ w lo [] ds) : DefRel σ' w lo [] ds := by
  generalize hl : ([] : List (AV × List AV)) = l at h
  induction h with
  | nil => exact .nil
  | call _ _ _ _ => cases hl
  | mark h1 h2 h3 _ ih => exact .mark h1 h2 h3 (ih hl)
theorem RcRel.any {σ σ' : Mp} {kd : CallKind} {K : Bool → List Frame} (h : RcRel σ kd K none) : RcRel σ' kd K none := ⟨h.no, fun v hv => by cases hv⟩
theorem plainX_ok {x : X} {r s : Res} (h : plainX x r = s) (hs : s ≠ .fail) : x = ⟨[], none⟩ ∧ r = s := by
  obtain ⟨df, rc⟩ := x
  cases df with
  | cons a l => exact absurd h.symm hs
  | nil =>
    cases rc with
    | some v => exact absurd h.symm hs
    | none => exact ⟨rfl, h⟩
theorem okRound_ok {r : Res} {k : Bool} (h : okRound r k = true) : ∃ tm H, r = .ok .normal tm H ⟨[], none⟩ ∧ k = true := by
  unfold okRound at h
  split at h
  · rename_i tm H y
    obtain ⟨df, rc⟩ := y
    cases df with
    | cons a l => cases h
    | nil =>
      cases rc with
      | some v => cases h
      | none => obtain ⟨_, h2⟩ := cond_true_iff h; exact ⟨tm, H, rfl, h2⟩
  · cases h
theorem rounds_ok {body : TM → Heap → X → Res} {b m since : Nat} {dst : SetF} {tm : TM} {H : Heap} : ∀ {es : List Ent}, rounds body b m since dst tm H es = true → ∀ e ∈ es,
    ∃ tm' H', body (dst tm (.tup [.bool true, e.key, e.val])) ⟨H.nx, H.t.set b (.miter (some m) since (some (e.born, since))), H.nx⟩ ⟨[], none⟩ = .ok .normal tm' H' ⟨[], none⟩
  | [], _, e, he => by cases he
  | a :: es, h, e, he => by
    have h : okRound _ (rounds body b m since dst tm H es) = true := h
    obtain ⟨tm', H', h1, h2⟩ := okRound_ok h
    rcases List.mem_cons.1 he with rfl | he
    · exact ⟨tm', H', h1⟩
    · exact rounds_ok h2 e he
theorem EntsRel.mem {σ : Mp} : ∀ {es : List Ent} {l : List MapEntry}, EntsRel σ es l → ∀ m ∈ l, ∃ a ∈ es, EntRel σ a m
  | [], l, h, m, hm => by simp only [EntsRel] at h; subst h; cases hm
  | a :: es, l, h, m, hm => by
    obtain ⟨e, l', h1, h2, rfl⟩ := h.cons_inv
    rcases List.mem_cons.1 hm with rfl | hm
    · exact ⟨a, List.mem_cons_self .., h1⟩
    · obtain ⟨a', h3, h4⟩ := EntsRel.mem h2 m hm
      exact ⟨a', List.mem_cons_of_mem _ h3, h4⟩
theorem EntsRel.below {σ : Mp} {c : Nat} : ∀ {es : List Ent} {l : List MapEntry}, EntsRel σ es l → (∀ e ∈ es, e.born < c) → ∀ m ∈ l, m.born < c := by
  intro es l h hb m hm
  obtain ⟨a, h1, h2⟩ := h.mem m hm
  rw [← h2.2.2]; exact hb a h1
theorem filter_le {α : Type} {p q : α → Bool} (h : ∀ x, p x = true → q x = true) : ∀ l : List α, (l.filter p).length ≤ (l.filter q).length
  | [] => Nat.le_refl _
  | y :: l => by
    have ih := filter_le h l
    rw [List.filter_cons, List.filter_cons]
    cases hp : p y with
    | true => rw [h y hp]; simpa using ih
    | false =>
      cases q y with
      | true => simp; omega
      | false => simpa using ih
theorem filter_lt {α : Type} {p q : α → Bool} (h : ∀ x, p x = true → q x = true) {e : α} (he : q e = true) (hn : p e = false) : ∀ l : List α, e ∈ l → (l.filter p).length < (l.filter q).length
  | [], hm => by cases hm
  | y :: l, hm => by
    rw [List.filter_cons, List.filter_cons]
    rcases List.mem_cons.1 hm with rfl | hm
    · rw [he, hn]
      have := filter_le h l
      simp; omega
    · have ih := filter_lt h he hn l hm
      cases hp : p y with
      | true => rw [h y hp]; simpa using ih
      | false =>
        cases q y with
        | true => simp; omega
        | false => simpa using ih
/-- how many entries have not been seen -/
def unseen (es : List Ent) (seen : Array Nat) : Nat := (es.filter fun e => !seen.contains e.born).length
theorem unseen_lt {es : List Ent} {seen : Array Nat} {e : Ent} (he : e ∈ es) (hn : seen.contains e.born = false) : unseen es (seen.push e.born) < unseen es seen := by
  refine filter_lt (fun x hx => ?_) (e := e) (by rw [hn]; rfl) ?_ es he
  · cases h : seen.contains x.born with
    | false => rfl
    | true =>
      have : (seen.push e.born).contains x.born = true := by
        rw [Array.contains_iff_mem] at h ⊢
        exact Array.mem_push.2 (.inl h)
      rw [this] at hx; cases hx
  · have : (seen.push e.born).contains e.born = true := by rw [Array.contains_iff_mem]; exact Array.mem_push.2 (.inr rfl)
    rw [this]; rfl
theorem trel_dead {σ : Mp} {tm : TM} {t t' : Array Value} {ds : List Nat} (h : TRel σ N (delAll tm (ds.map fun t => dstC (some t))) t) (hz : N ≤ t'.size) (hold : ∀ n, n ∉ ds → t'[n]? = t[n]?) : TRel σ N (delAll tm (ds.map fun t => dstC (some t))) t' := by
  refine ⟨hz, fun n hn => ?_⟩
  have e : (ds.map fun t => dstC (some t)) = (ds.map some).map dstC := by rw [List.map_map]; rfl
  have h1 := h.get n hn
  rw [e, evT_delAll hn] at h1 ⊢
  by_cases hm : some n ∈ ds.map some
  · rw [if_pos hm]; simp [Rel]
  · rw [if_neg hm] at h1 ⊢
    have : n ∉ ds := fun h => hm (List.mem_map.2 ⟨n, h, rfl⟩)
    rw [Array.getD_eq_getD_getElem?, hold n this, ← Array.getD_eq_getD_getElem?]
    exact h1
theorem trel_del {σ : Mp} {tm : TM} {t : Array Value} {ds : List Nat} (h : TRel σ N tm t) : TRel σ N (delAll tm (ds.map fun t => dstC (some t))) t := by
  refine ⟨h.size, fun n hn => ?_⟩
  have e : (ds.map fun t => dstC (some t)) = (ds.map some).map dstC := by rw [List.map_map]; rfl
  rw [e, evT_delAll hn]
  split
  · simp [Rel]
  · exact h.get n hn
/-- the loop -/
theorem sound_mloop {body : Code} {q : Operand} {t : Option Nat} {a : D} {ds : List Nat} (hm : mnextOf body = some (q, t)) (ht : ∀ d, t = some d → d ∈ ds) (htN : okT N t = true) (ha : Sound P N a (restItems body) ds) :
    Sound P N (mloopD (argE P q) (dstC t) (ds.map fun t => dstC (some t)) a) [.code (.loop body)] ds := by
  intro c b K lo σ tm H x act w k o tm' H' x' hc hs he
  obtain ⟨ops, tl, op, hri, hop, hopn, hopg, hopd, henter⟩ := mnext_enter body hm
  let tm0 := delAll tm (ds.map fun t => dstC (some t))
  have htm0 : TRel σ N tm0 act.tmps := trel_del hs.tm
  have hs0 : St P σ b K N lo tm0 H x act w := hs.step (Tr.refl hs.sim) htm0 rfl
  have he : mloopK (a ⟨c.call, noYield, noRange, c.fuel, true⟩) (a c) (argE P q) (dstC t) tm0 H x = .ok o tm' H' x' := he
  unfold mloopK at he
  have hq := ops_of hs.sim htm0 q
  generalize hqv : argE P q tm0 = qv at he hq
  cases qv with
  | ptr ib io =>
    simp only [onPR] at he
    cases h0 : Nat.beq io 0 with
    | false => rw [h0] at he; cases he
    | true =>
    rw [h0] at he
    have h0 := Nat.eq_of_beq_eq_true h0
    subst h0
    cases hro : Nat.ble H.ro ib with
    | false => rw [hro] at he; cases he
    | true =>
    rw [hro] at he
    have hro : H.ro ≤ ib := Nat.le_of_ble_eq_true hro
    obtain ⟨L, hL, hqe⟩ := rel_ptr hq
    -- the machine at the step
    have hwant : ∀ a' : Act, Region.wanted op (yielded ops a'.tmps) = true := fun a' => by unfold Region.wanted; rw [hopg]
    have hnd : ∀ c, op.op ≠ .defer c := fun c h => by rw [hopn] at h; cases h
    have hrunop : ∀ (a' : Act) (w1 : World) (v : Value) (w2 : World), a'.eval q = .pointer (some ⟨L.blk, L.base + 0, none⟩) → (Instr.next (.pointer (some ⟨L.blk, L.base + 0, none⟩)) false op.type).run P w1 = .ok v w2 → (execOp a'.eval op).run P w1 = .ok (.value v) w2 := by
      intro a' w1 v w2 h1 h2
      simp only [execOp, hopn, h1]
      exact run_v h2
    -- to the step, from the loop's head
    have hhead : ∀ (a' : Act) (w1 : World) (cs : List Frame), Steps P (lone (b.atR a' (.code body :: .inLoop body :: k)) cs w1) (lone (b.atR a' (.inRegion ops (0 :: List.range' 1 (ops.size - 1)) :: (tl ++ .inLoop body :: k))) cs w1) := fun a' w1 cs => henter b a' (.inLoop body :: k) cs w1
    -- the last round
    have final : ∀ (Hd : Heap) (w1 w2 : World) (a' : Act) (tt : Tr P σ H w σ Hd w2), St P σ b K N lo tm0 Hd x a' w2 → (∀ n, n ∉ ds → a'.tmps[n]? = act.tmps[n]?) → a'.eval q = .pointer (some ⟨L.blk, L.base + 0, none⟩) →
        (Instr.next (.pointer (some ⟨L.blk, L.base + 0, none⟩)) false op.type).run P w1 = .ok (.tuple #[.bool false]) w2 → noNorm (a c (dstC t tm0 (.tup [.bool false])) Hd x) = .ok o tm' H' x' →
        ∃ σ' a'' w', Tr P σ H w σ' H' w' ∧ St P σ' b K N lo tm' H' x' a'' w' ∧ (∀ n, n ∉ ds → a''.tmps[n]? = act.tmps[n]?) ∧
          Arr P (lone (b.atR a' (.code body :: .inLoop body :: k)) (K x.rc.isSome) w1) b k (K x'.rc.isSome) σ' o a'' w' := by
      intro Hd w1 w2 a' tt hst hold hev hrun hfin
      obtain ⟨hfin, hne⟩ := noNorm_ok hfin
      have hstep := value_steps (b := b) (k := tl ++ .inLoop body :: k) (cs := K x.rc.isSome) (rest := List.range' 1 (ops.size - 1)) hop (hwant a') hnd (.inl (hrunop a' w1 _ w2 hev hrun))
      have hr : Rel σ (.tup [.bool false]) (.tuple #[.bool false]) := by simp only [Rel]; exact ⟨[.bool false], relL_one (by simp [Rel]), rfl⟩
      have s1 : St P σ b K N lo (dstC t tm0 (.tup [.bool false])) Hd x (a'.put op.dst (.tuple #[.bool false])) w2 := by
        refine hst.step (Tr.refl hst.sim) ?_ (put_defers _ _ _)
        rw [hopd]
        exact hst.tm.put htN hr
      obtain ⟨σ', a'', w', t1, s2, u2, arr⟩ := ha c b K lo σ _ Hd x _ w2 (.inLoop body :: k) o tm' H' x' (hc.tr tt) s1 hfin
      refine ⟨σ', a'', w', tt.trans t1, s2, fun n hn => ?_, .of_steps ((hhead a' w1 _).trans hstep) ?_⟩
      · rw [u2 n hn, put_old a' op.dst _ fun d hd e => hn (by rw [e]; exact ht d (by rw [← hopd]; exact hd)), hold n hn]
      · rw [hri] at arr
        exact Arr.pass (y := .inLoop body) rfl hne (by simpa using arr)
    have hev0 : act.eval q = .pointer (some ⟨L.blk, L.base + 0, none⟩) := hqe
    cases hob : H.t.get ib with
    | none => rw [hob] at he; cases he
    | some ob =>
      rw [hob] at he
      cases ob with
      | miter mm since cur =>
        cases cur with
        | some z => cases mm <;> cases he
        | none =>
          obtain ⟨cobj, hcobj, hrel⟩ := hs.sim.alive ib _ L hob hL
          obtain ⟨seen, st, hce, hmsome, hbase, hcur⟩ := hrel
          obtain ⟨hseen, hstt⟩ := hcur
          subst hseen; subst hstt
          have hb0 : L.base + 0 = 0 := by rw [hbase]
          cases mm with
          | none =>
            -- over no map
            have he : noNorm (a c (dstC t tm0 (.tup [.bool false])) H x) = .ok o tm' H' x' := he
            have hrun : (Instr.next (.pointer (some ⟨L.blk, L.base + 0, none⟩)) false op.type).run P w = .ok (.tuple #[.bool false]) w := by
              rw [hb0]
              have hg := run_objI (P := P) (m := none) (a := st) (s := #[]) (c := st) (hcobj.trans (by rw [hce]; rfl))
              simp only [Instr.next, Sem.run_bind, hg, Result.andThen_ok, Sem.run_pure]
            obtain ⟨σ', a'', w', g1, g2, g3, g4⟩ := final H w w act (Tr.refl hs.sim) hs0 (fun _ _ => rfl) hev0 hrun he
            exact ⟨σ', a'', w', g1, g2, g3, .of_steps (.one stepR_loop) g4⟩
          | some mb =>
            have he : onEs (H.t.get mb) st (fun es => plainX x (cond (rounds (a ⟨c.call, noYield, noRange, c.fuel, true⟩) ib mb st (dstC t) tm0 H es) (noNorm (a c (dstC t tm0 (.tup [.bool false])) ⟨H.nx, H.t.del ib, H.ro⟩ x)) .fail)) = .ok o tm' H' x' := he
            cases hmo : H.t.get mb with
            | none => rw [hmo] at he; cases he
            | some mo =>
              rw [hmo] at he
              cases mo with
              | map es clock =>
                have he : cond (Nat.beq clock st) _ .fail = Res.ok o tm' H' x' := he
                cases hck : Nat.beq clock st with
                | false => rw [hck] at he; cases he
                | true =>
                rw [hck] at he
                have hck := Nat.eq_of_beq_eq_true hck
                subst hck
                obtain ⟨hx, he⟩ := plainX_ok he (by simp)
                subst hx
                cases hrd : rounds (a ⟨c.call, noYield, noRange, c.fuel, true⟩) ib mb clock (dstC t) tm0 H es with
                | false => rw [hrd] at he; cases he
                | true =>
                rw [hrd] at he
                have he : noNorm (a c (dstC t tm0 (.tup [.bool false])) ⟨H.nx, H.t.del ib, H.ro⟩ ⟨[], none⟩) = .ok o tm' H' x' := he
                have hrounds := rounds_ok hrd
                -- the map's block
                cases hLm : σ mb with
                | none => have := hmsome mb rfl; rw [hLm] at this; cases this
                | some Lm =>
                obtain ⟨mobj, hmobj, ents, hme, hents, hris⟩ := hs.sim.alive mb _ Lm hmo hLm
                have hmb : mb ≠ ib := fun e => by rw [e, hob] at hmo; cases hmo
                have hce : cobj = .mapIter (some Lm.blk) clock #[] clock := by rw [hce]; simp [hLm]
                subst hce; subst hme
                have hbelow := hents.below hris.2
                have hbelow' : ∀ e ∈ ents, e.born < clock := fun e he' => hbelow e (Array.mem_toList_iff.2 he')
                let Hd : Heap := ⟨H.nx, H.t.del ib, H.ro⟩
                have hdget : ∀ y ob, Hd.t.get y = some ob → y ≠ ib ∧ H.t.get y = some ob := by
                  intro y ob hy
                  have hy : (H.t.del ib).get y = some ob := hy
                  rw [T.get_del] at hy
                  by_cases e : ib = y
                  · rw [if_pos e] at hy; cases hy
                  · rw [if_neg e] at hy; exact ⟨fun z => e z.symm, hy⟩
                have hother : ∀ y ob ly, Hd.t.get y = some ob → σ y = some ly → ly.blk ≠ L.blk := by
                  intro y ob ly hy hly e
                  obtain ⟨h1, h2⟩ := hdget y ob hy
                  exact h1 (hs.sim.alone h2 hob hly hL e (by rintro ⟨_, _, h, _⟩; cases h))
                -- the state between the rounds
                have loop : ∀ (n : Nat) (a' : Act) (w1 : World) (seen : Array Nat), unseen es seen = n → Tr P σ H w σ Hd w1 → St P σ b K N lo tm0 Hd ⟨[], none⟩ a' w1 → (∀ n, n ∉ ds → a'.tmps[n]? = act.tmps[n]?) →
                    w1.heap[L.blk]? = some (.mapIter (some Lm.blk) clock seen clock) → a'.eval q = .pointer (some ⟨L.blk, L.base + 0, none⟩) →
                    ∃ σ' a'' w', Tr P σ H w σ' H' w' ∧ St P σ' b K N lo tm' H' x' a'' w' ∧ (∀ n, n ∉ ds → a''.tmps[n]? = act.tmps[n]?) ∧
                      Arr P (lone (b.atR a' (.code body :: .inLoop body :: k)) (K (none : Option AV).isSome) w1) b k (K x'.rc.isSome) σ' o a'' w' := by
                  intro n
                  induction n using Nat.strongRecOn with
                  | _ n ih =>
                    intro a' w1 seen hn tt hst hold hit hev
                    have hdm : Hd.t.get mb = some (.map es clock) := by
                      show (H.t.del ib).get mb = _
                      rw [T.get_del, if_neg fun e => hmb e.symm]; exact hmo
                    obtain ⟨mobj1, hmobj1, ents1, hme1, hents1, hris1⟩ := hst.sim.alive mb _ Lm hdm hLm
                    subst hme1
                    have hbelow1 : ∀ e ∈ ents1, e.born < clock := fun e he' => hents1.below hris1.2 e (Array.mem_toList_iff.2 he')
                    rcases run_next (P := P) hit hmobj1 hbelow1 op.type with ⟨_, w2, hrun, hw2⟩ | ⟨e, hem, hens, w0, hw0, hrun⟩
                    · -- no more
                      rw [← hb0] at hrun
                      have hst2 : St P σ b K N lo tm0 Hd ⟨[], none⟩ a' w2 := by rcases hw2 with rfl | rfl; exact hst; exact hst.drew
                      have tt2 : Tr P σ H w σ Hd w2 := by rcases hw2 with rfl | rfl; exact tt; exact tt.trans (Tr.drew hst.sim)
                      exact final Hd w1 w2 a' tt2 hst2 hold hev hrun he
                    · -- one more round
                      rw [← hb0] at hrun
                      let w2 : World := { w0 with heap := w0.heap.setIfInBounds L.blk (.mapIter (some Lm.blk) clock (seen.push e.born) clock) }
                      have hh0 : w0.heap = w1.heap := by rcases hw0 with rfl | rfl <;> rfl
                      have hLlt : L.blk < w1.heap.size := (Array.getElem?_eq_some_iff.1 hit).1
                      have hz2 : w2.heap.size = w1.heap.size := by simp [w2, hh0]
                      have hnew2 : w2.heap[L.blk]? = some (.mapIter (some Lm.blk) clock (seen.push e.born) clock) := by simp [w2, hh0, hLlt]
                      have hold2 : ∀ j, j ≠ L.blk → w2.heap[j]? = w1.heap[j]? := by
                        intro j hj
                        show (w0.heap.setIfInBounds L.blk _)[j]? = _
                        rw [Array.getElem?_setIfInBounds_ne (Ne.symm hj), hh0]
                      have htp : w2.tape = w1.tape ∧ w2.os = w1.os ∧ w2.output = w1.output := by rcases hw0 with rfl | rfl <;> exact ⟨rfl, rfl, rfl⟩
                      obtain ⟨ea, hea, hear⟩ := hents1.mem e (Array.mem_toList_iff.2 hem)
                      have hLd : L.blk < w.heap.size := (Array.getElem?_eq_some_iff.1 hcobj).1
                      have hwrib : Wr H ib := ⟨hro, _, hob, (fun r h => by cases h), (fun h => by cases h)⟩
                      have hlt_ib : ib < H.nx := hs.sim.low ib _ hob
                      -- without the iterator
                      have hsd2 : Sim P σ Hd w2 := by
                        refine ⟨hst.sim.dom, hst.sim.low, fun y ob ly hy hly => ?_, hst.sim.inj, hst.sim.glob, hst.sim.ro⟩
                        obtain ⟨cy, h1, h2⟩ := hst.sim.alive y ob ly hy hly
                        exact ⟨cy, by rw [hold2 _ (hother y ob ly hy hly)]; exact h1, h2⟩
                      have tt2 : Tr P σ H w σ Hd w2 := by
                        refine ⟨tt.ext, hsd2, by rw [hz2]; exact tt.size, fun j hj hn => ?_, tt.wr, tt.nx, tt.ro, tt.low, htp.1.trans tt.tape, htp.2.1.trans tt.os, htp.2.2.trans tt.out, tt.pend⟩
                        rw [hold2 j fun e => hn ib L hwrib hL e.symm]
                        exact tt.frame j hj hn
                      -- with it, for the round
                      let Hr : Heap := ⟨H.nx, H.t.set ib (.miter (some mb) clock (some (ea.born, clock))), H.nx⟩
                      have hrget : ∀ y ob, Hr.t.get y = some ob → (y = ib ∧ ob = .miter (some mb) clock (some (ea.born, clock))) ∨ Hd.t.get y = some ob := by
                        intro y ob hy
                        have hy : (H.t.set ib _).get y = some ob := hy
                        rw [T.get_set] at hy
                        by_cases e' : ib = y
                        · rw [if_pos e'] at hy; cases hy; exact .inl ⟨e'.symm, rfl⟩
                        · rw [if_neg e'] at hy
                          refine .inr ?_
                          show (H.t.del ib).get y = _
                          rw [T.get_del, if_neg e']; exact hy
                      have hsr : Sim P σ Hr w2 := by
                        refine ⟨hst.sim.dom, fun y ob hy => ?_, fun y ob ly hy hly => ?_, fun y y' o1 o2 l1 l2 hy hy' hl1 hl2 e' => ?_, hst.sim.glob, Nat.le_refl _⟩
                        · rcases hrget y ob hy with ⟨rfl, _⟩ | h
                          · exact hlt_ib
                          · exact hst.sim.low y ob h
                        · rcases hrget y ob hy with ⟨rfl, rfl⟩ | h
                          · rw [hL] at hly; cases hly
                            refine ⟨_, hnew2, seen.push e.born, clock, by simp [hLm], (fun b' hb' => by cases hb'; rw [hLm]; rfl), hbase, ?_, rfl⟩
                            rw [hear.2.2]; simp
                          · exact hsd2.alive y ob ly h hly
                        · rcases hrget y o1 hy with ⟨rfl, rfl⟩ | h <;> rcases hrget y' o2 hy' with ⟨rfl, rfl⟩ | h'
                          · exact .inl rfl
                          · rw [hL] at hl1; cases hl1; exact absurd e'.symm (hother y' o2 l2 h' hl2)
                          · rw [hL] at hl2; cases hl2; exact absurd e' (hother y o1 l1 h hl1)
                          · exact hsd2.inj y y' o1 o2 l1 l2 h h' hl1 hl2 e'
                      have hstep := value_steps (b := b) (k := tl ++ .inLoop body :: k) (cs := K (none : Option AV).isSome) (rest := List.range' 1 (ops.size - 1)) hop (hwant a') hnd (.inl (hrunop a' w1 _ w2 hev hrun))
                      have hr : Rel σ (.tup [.bool true, ea.key, ea.val]) (.tuple #[.bool true, e.key, e.val]) := by
                        simp only [Rel]
                        exact ⟨[.bool true, e.key, e.val], relL_cons (by simp [Rel]) (relL_cons hear.1 (relL_one hear.2.1)), rfl⟩
                      have hdf2 : DefRel σ w2 lo [] a'.defers := by
                        refine hst.df.mono (Ext.refl σ) fun r y hr' => ?_
                        rw [hold2 r fun e' => by rw [e', hit] at hr'; cases hr']; exact hr'
                      have s1 : St P σ b K N lo (dstC t tm0 (.tup [.bool true, ea.key, ea.val])) Hr ⟨[], none⟩ (a'.put op.dst (.tuple #[.bool true, e.key, e.val])) w2 := by
                        refine ⟨hsr, ?_, by rw [put_defers]; exact hdf2, hst.rc, by rw [hz2]; exact hst.lo⟩
                        rw [hopd]
                        exact hst.tm.put htN hr
                      obtain ⟨tmr, Hr', hbody⟩ := hrounds ea hea
                      have hctx : CtxOk P ⟨c.call, noYield, noRange, c.fuel, true⟩ b σ Hr w2 := ⟨hc.call, yldOk_no σ Hr w2, (fun h => by cases h), rngOk_no P, fun _ => rfl⟩
                      obtain ⟨σ3, a3, w3, t3, s3, u3, arr3⟩ := ha _ b K lo σ _ Hr ⟨[], none⟩ _ w2 (.inLoop body :: k) .normal tmr Hr' ⟨[], none⟩ hctx s1 hbody
                      have hnowr : ∀ y, ¬ Wr Hr y := by
                        intro y hy
                        obtain ⟨h1, ob, h2, _⟩ := hy
                        have h1 : H.nx ≤ y := h1
                        have := hsr.low y ob h2
                        have this : y < H.nx := this
                        omega
                      have hfr3 : ∀ j, j < w2.heap.size → w3.heap[j]? = w2.heap[j]? := fun j hj => t3.frame j hj fun y ly hy _ => absurd hy (hnowr y)
                      have hsd3 : Sim P σ Hd w3 := hsd2.grow hfr3
                      have tt3 : Tr P σ H w σ Hd w3 := by
                        refine ⟨tt.ext, hsd3, Nat.le_trans tt2.size t3.size, fun j hj hn => ?_, tt.wr, tt.nx, tt.ro, tt.low, t3.tape.trans tt2.tape, t3.os.trans tt2.os, t3.out.trans tt2.out, tt.pend⟩
                        rw [hfr3 j (Nat.lt_of_lt_of_le hj tt2.size)]
                        exact tt2.frame j hj hn
                      have hold3 : ∀ n, n ∉ ds → a3.tmps[n]? = act.tmps[n]? := by
                        intro n hn
                        rw [u3 n hn, put_old a' op.dst _ fun d hd e' => hn (by rw [e']; exact ht d (by rw [← hopd]; exact hd)), hold n hn]
                      have st3 : St P σ b K N lo tm0 Hd ⟨[], none⟩ a3 w3 := by
                        refine ⟨hsd3, trel_dead hst.tm s3.tm.size (fun n hn => ?_), s3.df.any, hst.rc, s3.lo⟩
                        rw [hold3 n hn, hold n hn]
                      have hit3 : w3.heap[L.blk]? = some (.mapIter (some Lm.blk) clock (seen.push e.born) clock) := by rw [hfr3 _ (by rw [hz2]; exact hLlt)]; exact hnew2
                      have hlt : unseen es (seen.push e.born) < n := by
                        rw [← hn, ← hear.2.2]
                        exact unseen_lt hea (by rw [hear.2.2]; exact hens)
                      have hev3 : a3.eval q = .pointer (some ⟨L.blk, L.base + 0, none⟩) := by
                        have := ops_of hsd3 st3.tm q
                        rw [hqv] at this
                        obtain ⟨L', hL', h⟩ := rel_ptr this
                        rw [hL] at hL'; cases hL'
                        exact h
                      obtain ⟨σ4, a4, w4, g1, g2, g3, g4⟩ := ih _ hlt a3 w3 (seen.push e.born) rfl tt3 st3 hold3 hit3 hev3
                      refine ⟨σ4, a4, w4, g1, g2, g3, .of_steps ((hhead a' w1 _).trans (hstep.trans ?_)) g4⟩
                      rw [hri] at arr3
                      have arr3 : Steps P _ (lone (b.atR a3 (.inLoop body :: k)) _ w3) := arr3
                      refine Steps.trans ?_ (Steps.one stepR_inLoop)
                      simpa using arr3
                have hst0 : St P σ b K N lo tm0 Hd ⟨[], none⟩ act w := ⟨(Tr.del hs.sim hL hro).sim, htm0, hs.df, hs.rc, hs.lo⟩
                obtain ⟨σ4, a4, w4, g1, g2, g3, g4⟩ := loop _ act w #[] rfl (Tr.del hs.sim hL hro) hst0 (fun _ _ => rfl) hcobj hev0
                exact ⟨σ4, a4, w4, g1, g2, g3, .of_steps (.one stepR_loop) g4⟩
              | _ => cases he
      | _ => cases he
  | _ => cases he
theorem comp2_sound (hm : P.follows .mixedOrders = true) : ∀ c : Code, codeOk N c = true → Sound P N (comp2 P c).1 [.code c] (dsts c) ∧ ((mnextOf c).isSome = true → Sound P N (comp2 P c).2 (restItems c) (dsts c))
  | .skip, _ => ⟨sound_skip _, fun h => by cases h⟩
  | .region id ops d, h => by
    have h : ops.toList.all (fun o => okT N o.dst) = true := h
    cases d with
    | true => exact ⟨sound_drawn hm h, fun h => by cases h⟩
    | false =>
      refine ⟨sound_region h, fun _ => ?_⟩
      have := sound_ops (P := P) (N := N) (ops := ops) (ds := ops.toList.filterMap (·.dst)) ops.toList.tail 1 (fun i => by
        rw [← Array.getElem?_toList]
        cases ops.toList with
        | nil => simp
        | cons a l => rw [show 1 + i = i + 1 by omega]; simp) (fun o ho => ⟨List.all_eq_true.1 h o (List.mem_of_mem_tail ho), fun t ht => List.mem_filterMap.2 ⟨o, List.mem_of_mem_tail ho, ht⟩⟩)
      show Sound P N (opsD P ops ops.toList.tail) [.inRegion ops (List.range' 1 (ops.size - 1))] _
      have e : ops.toList.tail.length = ops.size - 1 := by simp
      rw [e] at this
      exact this
  | .seq a b, h => by
    obtain ⟨h1, h2⟩ := cond_true_iff (a := codeOk N a) (b := codeOk N b) h
    have ha := comp2_sound hm a h1
    have hb := comp2_sound hm b h2
    refine ⟨sound_seqC ha.1 hb.1, fun hn => ?_⟩
    exact sound_seq (i1 := restItems a) (i2 := [.code b]) (by simp [Item.plain]) (ha.2 hn) hb.1
  | .cond q a b, h => by
    obtain ⟨h1, h2⟩ := cond_true_iff (a := codeOk N a) (b := codeOk N b) h
    exact ⟨sound_cond (comp2_sound hm a h1).1 (comp2_sound hm b h2).1, fun h => by cases h⟩
  | .block id a, h => ⟨sound_block (comp2_sound hm a h).1, fun h => by cases h⟩
  | .loop b, h => by
    have hb := comp2_sound hm b h
    refine ⟨?_, fun h => by cases h⟩
    show Sound P N (match mnextOf b with | some (x, t) => mloopD (argE P x) (dstC t) ((dsts b).map fun t => dstC (some t)) (comp2 P b).2 | none => loopD (comp2 P b).1) [.code (.loop b)] (dsts b)
    cases hmn : mnextOf b with
    | none => exact sound_loop hb.1
    | some y =>
      obtain ⟨x, t⟩ := y
      have hmem : ∀ (b : Code) {x : Operand} {t : Option Nat}, mnextOf b = some (x, t) → codeOk N b = true → okT N t = true ∧ ∀ d, t = some d → d ∈ dsts b := by
        intro b
        induction b with
        | seq a c ih _ =>
          intro x t hh hk
          obtain ⟨h1, h2⟩ := cond_true_iff (a := codeOk N a) (b := codeOk N c) hk
          obtain ⟨g1, g2⟩ := ih hh h1
          exact ⟨g1, fun d hd => List.mem_append.2 (.inl (g2 d hd))⟩
        | region id ops dr =>
          intro x t hh hk
          have hk : ops.toList.all (fun o => okT N o.dst) = true := hk
          cases dr with
          | true => cases hh
          | false =>
            unfold mnextOf at hh
            cases hl : ops.toList with
            | nil => rw [hl] at hh; cases hh
            | cons o l =>
              rw [hl] at hh
              simp only at hh
              split at hh
              · cases hh
                have ho : o ∈ ops.toList := by rw [hl]; exact List.mem_cons_self ..
                exact ⟨List.all_eq_true.1 hk o ho, fun d hd => List.mem_filterMap.2 ⟨o, ho, hd⟩⟩
              · cases hh
        | _ => intro x t hh; cases hh
      obtain ⟨g1, g2⟩ := hmem b hmn h
      exact sound_mloop hmn g2 g1 (hb.2 (by rw [hmn]; rfl))
  | .rangeFunc f ps a b, h => by
    obtain ⟨h0, h3⟩ := cond_true_iff (a := ps.toList.all fun t => okT N (some t)) (b := cond (codeOk N a) (codeOk N b) false) h
    obtain ⟨h1, h2⟩ := cond_true_iff h3
    exact ⟨sound_range (comp2_sound hm a h1).1 (comp2_sound hm b h2).1 h0, fun h => by cases h⟩
  | .exit id, _ => ⟨sound_exit _, fun h => by cases h⟩
  | .scope a, h => ⟨sound_scope (comp2_sound hm a h).1, fun h => by cases h⟩
  | .label l, _ => ⟨sound_label l _, fun h => by cases h⟩
  | .goto l, _ => ⟨sound_bad _ _, fun h => by cases h⟩
  | .ret, _ => ⟨sound_ret _, fun h => by cases h⟩
  | .refuse l, _ => ⟨sound_bad _ _, fun h => by cases h⟩
/-- a function of the program's, compiled -/
theorem fnOk_comp (hm : P.follows .mixedOrders = true) {f : Nat} {fn : Func} {c : Code} (hf : P.funcs[f]? = some fn) (hname : fn.name ≠ "runtime.NumGoroutine") (hb : fn.body = some c) : FnOk P f (compF P fn) := by
  refine ⟨fn, c, dsts c, hf, hname, hb, ?_, ?_⟩
  · show fn.results.toList.map _ = fn.results.toList.map _
    refine List.map_congr_left fun r _ => ?_
    cases r <;> rfl
  · have hbd : (compF P fn).body = cond (fn.results.toList.all (resOk P)) (cond (codeOk fn.ntmps c) (comp P c) badD) badD := by
      unfold compF; rw [hb]
    rw [hbd]
    cases h1 : fn.results.toList.all (resOk P) with
    | false => exact .inl rfl
    | true =>
      cases h2 : codeOk fn.ntmps c with
      | false => exact .inl rfl
      | true => exact .inr ⟨rfl, (comp2_sound hm c h2).1⟩
/-- all calls of a table of the program's functions, compiled -/
theorem calls_ok (hm : P.follows .mixedOrders = true) {lib : Nat → List AV → Heap → Option CR} (hlib : LibOk P lib) {fs : T CF} (hfs : ∀ f cf, fs.get f = some cf → ∃ fn, P.funcs[f]? = some fn ∧ fn.name ≠ "runtime.NumGoroutine" ∧ fn.body.isSome = true ∧ cf = compF P fn) (fuel n : Nat) :
    CallOk P (callN lib fs fuel n) := by
  have hfs' : FsOk P fs := by
    intro f cf h
    obtain ⟨fn, h1, h2, h3, rfl⟩ := hfs f cf h
    obtain ⟨c, hc⟩ := Option.isSome_iff_exists.1 h3
    exact fnOk_comp hm h1 h2 hc
  exact callN_ok hlib hfs' fuel (fun call hcall => rngOk_range hfs' fuel hcall) n
end

section
variable {P : Program}
theorem lib_noEscape {f : FuncId} {fn : Func} (hf : P.funcs[f]? = some fn) (hname : (fn.name == "runtime.NumGoroutine") = false) (hb : fn.body.isNone = true) (hn : Extern.findNext fn = none) (he : Extern.find fn = some Extern.AbiNoEscape.same)
    {x : AV} {H : Heap} {σ : Mp} {w : World} {vs : List Value} (hs : Sim P σ H w) (hv : RelL σ [x] vs) : CROk P σ H w (.ret x H) ((callFunc f ⟨vs⟩).run P w) := by
  obtain ⟨v, l, h1, h2, rfl⟩ := hv.cons_inv
  rw [h2.nil_inv, run_callFunc_extern hf hname hb hn he]
  exact ⟨σ, h1, Tr.refl hs⟩
noncomputable def idxByte (c : Nat) : List UInt8 → Nat → Int
  | [], _ => -1
  | b :: l, i => cond (Nat.beq b.toNat c) (.ofNat i) (idxByte c l (Nat.succ i))
theorem idxByte_eq {c : Nat} (hc : c ≤ 255) : ∀ (suf pre : List UInt8) (s : ByteArray), s.data.toList = pre ++ suf →
    (match (List.range' pre.length suf.length).find? fun i => s[i]! == (c.toUInt8) with | some i => (i : Int) | none => -1) = idxByte c suf pre.length
  | [], pre, s, _ => rfl
  | b :: suf, pre, s, hs => by
    have hget : s[pre.length]! = b := by
      have h1 : s.data[pre.length]? = some b := by rw [← Array.getElem?_toList, hs]; simp
      have h2 : pre.length < s.size := by
        show pre.length < s.data.size
        exact (Array.getElem?_eq_some_iff.1 h1).1
      rw [getElem!_pos s pre.length h2]
      obtain ⟨h3, h4⟩ := Array.getElem?_eq_some_iff.1 h1
      exact h4
    have hcb : (b == c.toUInt8) = Nat.beq b.toNat c := by
      rw [beq_nat]
      have h1 : (c.toUInt8).toNat = c := by
        show c % 256 = c
        omega
      by_cases e : b.toNat = c
      · rw [decide_eq_true e]
        have : b = c.toUInt8 := UInt8.toNat.inj (by rw [h1]; exact e)
        simp [this]
      · rw [decide_eq_false e]
        have : b ≠ c.toUInt8 := fun h => e (by rw [h, h1])
        simpa using this
    show (match (List.range' pre.length (suf.length + 1)).find? _ with | some i => (i : Int) | none => -1) = _
    rw [List.range'_succ, List.find?_cons, hget, hcb]
    unfold idxByte
    cases Nat.beq b.toNat c with
    | true => rfl
    | false =>
      have := idxByte_eq hc suf (pre ++ [b]) s (by rw [hs]; simp)
      rw [List.length_append] at this
      exact this
theorem lib_index {f : FuncId} {fn : Func} (hf : P.funcs[f]? = some fn) (hname : (fn.name == "runtime.NumGoroutine") = false) (hb : fn.body.isNone = true) (hn : Extern.findNext fn = none) (he : Extern.find fn = some Extern.BytealgIndexByte.indexByte)
    {s : List UInt8} {c : Nat} (hc : Nat.ble c 255 = true) {H : Heap} {σ : Mp} {w : World} {vs : List Value} (hs : Sim P σ H w) (hv : RelL σ [.str s, .int .u8 (.ofNat c)] vs) :
    CROk P σ H w (.ret (.int .i64 (idxByte c s 0)) H) ((callFunc f ⟨vs⟩).run P w) := by
  obtain ⟨v, l, h1, h2, rfl⟩ := hv.cons_inv
  obtain ⟨u, l', h3, h4, rfl⟩ := h2.cons_inv
  rw [h4.nil_inv, rel_str h1, rel_int h3, run_callFunc_indexByte hf hname hb hn he, run_indexByte_string]
  have hc := Nat.le_of_ble_eq_true hc
  refine ⟨σ, ?_, Tr.refl hs⟩
  simp only [Rel]
  have := idxByte_eq hc s [] ⟨s.toArray⟩ (by simp)
  have e : firstIdx ⟨s.toArray⟩ ((Int.ofNat c).toNat.toUInt8) = idxByte c s 0 := by
    unfold firstIdx
    have hz : (⟨s.toArray⟩ : ByteArray).size = s.length := by simp [ByteArray.size]
    rw [hz, List.range_eq_range']
    exact this
  rw [e]
theorem digits_spec : ∀ (n t : Nat) (acc : Array Value), (∀ v ∈ acc, v.oneCell' = true) → (Extern.BytealgMakeNoZero.digits n t acc).size = acc.size + n ∧ ∀ v ∈ Extern.BytealgMakeNoZero.digits n t acc, v.oneCell' = true
  | 0, t, acc, h => ⟨rfl, h⟩
  | n + 1, t, acc, h => by
    have := digits_spec n (t / 256) (acc.push (.int .u8 (Int.ofNat (t % 256)))) (fun v hv => by
      rcases Array.mem_push.1 hv with hv | rfl
      · exact h v hv
      · rfl)
    unfold Extern.BytealgMakeNoZero.digits
    refine ⟨?_, this.2⟩
    rw [this.1, Array.size_push]; omega
theorem lib_makeNoZero {f : FuncId} {fn : Func} {ps : Array TypeId} {t e : TypeId} (hf : P.funcs[f]? = some fn) (hname : (fn.name == "runtime.NumGoroutine") = false) (hb : fn.body.isNone = true) (hn : Extern.findNext fn = none) (he : Extern.find fn = some (Extern.BytealgMakeNoZero.makeNoZero ps #[t]))
    (hu : P.underlying t = some (.slice e)) {n : Nat} (hle : Nat.ble n 281474976710656 = true) {H : Heap} {σ : Mp} {w : World} {vs : List Value} (hs : Sim P σ H w) (hv : RelL σ [.int .i64 (.ofNat n)] vs) :
    CROk P σ H w (.ret (.slice H.nx 0 n none) (H.new (.row ⟨e, 1, n, .leaf, .unk, 0, false, true, false⟩))) ((callFunc f ⟨vs⟩).run P w) := by
  obtain ⟨v, l, h1, h2, rfl⟩ := hv.cons_inv
  rw [h2.nil_inv, rel_int h1, run_callFunc_extern hf hname hb hn he]
  have hle := Nat.le_of_ble_eq_true hle
  obtain ⟨k, hk⟩ := choose_cap (P := P) n 0 e w
  let y := w.tape w.drew.drawn (.extern "internal/bytealg.MakeNoZero.bytes" 0)
  let cs := Extern.BytealgMakeNoZero.digits (n + k) y #[]
  have hrun : (Extern.BytealgMakeNoZero.makeNoZero ps #[t] #[.int .i64 (.ofNat n)]).run P w = .ok (.slice (some ⟨w.heap.size, 0, none⟩) n (n + k)) (w.drew.drew.alloc (.cells cs e)) := by
    have hlt : ¬ ((decide ((Int.ofNat n) < 0) || decide ((Int.ofNat n) > 2 ^ 48)) = true) := by
      simp only [Bool.or_eq_true, decide_eq_true_eq, not_or]
      have e1 : Int.ofNat n = (n : Int) := rfl
      have h2 : ((2 : Int) ^ 48) = 281474976710656 := by decide
      rw [e1, h2]
      constructor <;> omega
    have hch : (choose (.extern "internal/bytealg.MakeNoZero.bytes" 0)).run P w.drew = .ok y w.drew.drew := by
      rw [run_choose_drew]
      rfl
    have htn : (Int.ofNat n).toNat = n := rfl
    rw [show (Extern.BytealgMakeNoZero.makeNoZero ps #[t] #[.int .i64 (.ofNat n)]).run P w = (Bind.bind (underlying t) _ : Sem Value).run P w from rfl]
    simp only [Sem.run_bind, run_underlying hu, Result.andThen_ok, if_neg hlt, htn, hk, run_askRoom, hch, newRow, run_newObj, World.alloc_eq, Sem.run_pure]
    rfl
  rw [hrun]
  obtain ⟨hz, hone⟩ := digits_spec (n + k) y #[] (fun v hv => by simp at hv)
  have hz : cs.size = n + k := by rw [hz]; simp
  have td := (Tr.drew hs).trans (Tr.drew (Sim.drew hs))
  let L : Loc := ⟨w.heap.size, 0, n + k, 1⟩
  refine ⟨σ.put H.nx L, rel_newSlice (l := L) rfl, td.trans (Tr.alloc td.sim _ _ L rfl ⟨cs, (0, 0), rfl, ?_⟩)⟩
  refine ⟨rfl, Nat.le_refl _, by show n ≤ (n + k) * 1; omega, by show 0 + (n + k) * 1 ≤ cs.size; rw [hz]; omega, (fun h => by cases h), fun i hi => ?_, fun i v _ hv => hone v (Array.mem_of_getElem? hv), fun _ i _ _ h => by have h1 := h.1; have h2 := h.2; simp at h2, fun _ _ => .inl rfl⟩
  have hi : i < n := hi
  refine ⟨cs[i]'(by omega), by show cs[0 + i]? = _; rw [Nat.zero_add]; exact Array.getElem?_eq_getElem _, ?_⟩
  show Rel _ AV.unk _
  simp [Rel]
noncomputable def cntByte (c : Nat) (l : List UInt8) : Nat → Nat := List.rec (fun n => n) (fun b _ ih n => cond (Nat.beq b.toNat c) (ih (Nat.succ n)) (ih n)) l
theorem cntByte_eq {c : Nat} (hc : c ≤ 255) : ∀ (l : List UInt8) (n : Nat), cntByte c l n = n + Lib.countByte l c.toUInt8
  | [], n => rfl
  | b :: l, n => by
    have hcb : (b == c.toUInt8) = Nat.beq b.toNat c := by
      rw [beq_nat]
      have h1 : (c.toUInt8).toNat = c := by
        show c % 256 = c
        omega
      by_cases e : b.toNat = c
      · rw [decide_eq_true e]
        have : b = c.toUInt8 := UInt8.toNat.inj (by rw [h1]; exact e)
        simp [this]
      · rw [decide_eq_false e]
        have : b ≠ c.toUInt8 := fun h => e (by rw [h, h1])
        simpa using this
    show cond (Nat.beq b.toNat c) (cntByte c l (n + 1)) (cntByte c l n) = _
    unfold Lib.countByte
    rw [List.count_cons, hcb]
    cases Nat.beq b.toNat c with
    | true =>
      show cntByte c l (n + 1) = _
      rw [cntByte_eq hc l]; unfold Lib.countByte; simp; omega
    | false =>
      show cntByte c l n = _
      rw [cntByte_eq hc l]; unfold Lib.countByte; simp
theorem lib_count {f : FuncId} {fn : Func} (hf : P.funcs[f]? = some fn) (hname : (fn.name == "runtime.NumGoroutine") = false) (hb : fn.body.isNone = true) (hn : Extern.findNext fn = none) (he : Extern.find fn = some Extern.BytealgCount.count)
    {s : List UInt8} {c : Nat} (hc : Nat.ble c 255 = true) {H : Heap} {σ : Mp} {w : World} {vs : List Value} (hs : Sim P σ H w) (hv : RelL σ [.str s, .int .u8 (.ofNat c)] vs) :
    CROk P σ H w (.ret (.int .i64 (.ofNat (cntByte c s 0))) H) ((callFunc f ⟨vs⟩).run P w) := by
  obtain ⟨v, l, h1, h2, rfl⟩ := hv.cons_inv
  obtain ⟨u, l', h3, h4, rfl⟩ := h2.cons_inv
  rw [h4.nil_inv, rel_str h1, rel_int h3, run_callFunc_extern hf hname hb hn he]
  have hc := Nat.le_of_ble_eq_true hc
  have hrun : (Extern.BytealgCount.count #[.string ⟨s.toArray⟩, .int .u8 (.ofNat c)]).run P w = .ok (.int .i64 (.ofNat (cntByte c s 0))) w := by
    rw [Lib.run_countString, cntByte_eq hc]
    have e1 : (⟨s.toArray⟩ : ByteArray).data.toList = s := by simp
    have e2 : (Int.ofNat c).toNat = c := rfl
    rw [e1, e2, Nat.zero_add]
    rfl
  rw [hrun]
  exact ⟨σ, by simp only [Rel], Tr.refl hs⟩
noncomputable def putRows : List (Nat × Nat × List AV) → T Obj → T Obj
  | [], t => t
  | (b, e, l) :: rs, t => putRows rs (t.set b (.row ⟨e, 1, lenL l, T.ofList l, .unk, 0, false, false, true⟩))
theorem putRows_get : ∀ (rs : List (Nat × Nat × List AV)) (t : T Obj) (b : Nat) (o : Obj), (putRows rs t).get b = some o →
    (∃ e l, (b, e, l) ∈ rs ∧ o = .row ⟨e, 1, lenL l, T.ofList l, .unk, 0, false, false, true⟩) ∨ t.get b = some o
  | [], t, b, o, h => .inr h
  | (b', e, l) :: rs, t, b, o, h => by
    rcases putRows_get rs _ b o h with ⟨e2, l2, h1, h2⟩ | h1
    · exact .inl ⟨e2, l2, List.mem_cons_of_mem _ h1, h2⟩
    · rw [T.get_set] at h1
      by_cases e3 : b' = b
      · rw [if_pos e3] at h1; cases h1; subst e3; exact .inl ⟨e, l, List.mem_cons_self .., rfl⟩
      · rw [if_neg e3] at h1; exact .inr h1
/-! ### Readings -/
mutual
def litAV : DataW Unit → List AV
  | .lit (.int k n) => [.int k n]
  | .lit (.string s) => [.str s]
  | .agg ds => litAVs ds
  | _ => []
def litAVs : List (DataW Unit) → List AV
  | [] => []
  | d :: ds => litAV d ++ litAVs ds
end
/-- a type whose readings are numbers alone -/
def ReadsAs (P : Program) (W : World) (e : TypeId) (c : Nat) : Prop :=
  ∀ (m : Nat) (cs : List Value) (x : DataW Unit × List MemPlace), DataW.trod (fun _ => ()) P W 0 (fun _ => true) false m e cs = some x → cs.length = c ∧ RelL (fun _ => none) (litAV x.1) cs ∧ ∀ v ∈ cs, v.oneCell' = true
theorem reads_int {W : World} {e : TypeId} {k : IntKind} (he : P.underlying e = some (.int k)) : ReadsAs P W e 1 := by
  intro m cs x h
  obtain ⟨n, rfl, rfl, _⟩ := DataW.trod_int he h
  exact ⟨rfl, relL_one (by simp [Rel]), fun v hv => by simp at hv; subst hv; rfl⟩
theorem chunks {W : World} {e : TypeId} {c : Nat} (he : ReadsAs P W e c) {m : Nat} {cs : List Value} : ∀ (xs : List (DataW Unit × List MemPlace)) (k : Nat),
    (∀ i x, xs[i]? = some x → DataW.trod (fun _ => ()) P W 0 (fun _ => true) false m e ((cs.drop ((k + i) * c)).take c) = some x) →
    RelL (fun _ => none) (litAVs (xs.map (·.1))) ((cs.drop (k * c)).take (xs.length * c)) ∧ ∀ v ∈ (cs.drop (k * c)).take (xs.length * c), v.oneCell' = true
  | [], k, _ => by simp [litAVs, RelL]
  | x :: xs, k, h => by
    obtain ⟨h1, h2, h3⟩ := he m _ x (h 0 x rfl)
    obtain ⟨h4, h5⟩ := chunks he xs (k + 1) (fun i y hy => by
      have := h (i + 1) y (by simpa using hy)
      rw [show k + (i + 1) = k + 1 + i by omega] at this
      exact this)
    rw [Nat.add_zero] at h1 h2 h3
    have hsplit : (cs.drop (k * c)).take ((x :: xs).length * c) = (cs.drop (k * c)).take c ++ (cs.drop ((k + 1) * c)).take (xs.length * c) := by
      rw [List.length_cons, Nat.add_mul, Nat.one_mul, Nat.add_comm (xs.length * c) c, List.take_add, List.drop_drop]
      congr 3
      rw [Nat.add_mul, Nat.one_mul]
    rw [hsplit]
    refine ⟨h2.append h4, fun v hv => ?_⟩
    rcases List.mem_append.1 hv with hv | hv
    · exact h3 v hv
    · exact h5 v hv
theorem reads_array {W : World} {t e : TypeId} {n c : Nat} (ht : P.underlying t = some (.array n e)) (hc : P.cellsOf e = c) (hct : P.cellsOf t = n * c) (he : ReadsAs P W e c) : ReadsAs P W t (n * c) := by
  intro m cs x h
  obtain ⟨xs, m', rfl, rfl, hlen, hn, hel⟩ := DataW.trod_array ht h
  rw [hc] at hel
  obtain ⟨h1, h2⟩ := chunks he (m := m') (cs := cs) xs 0 (fun i y hy => by
    have hi : i < n := by rw [← hn]; exact (List.getElem?_eq_some_iff.1 hy).1
    rw [Nat.zero_add, hel i hi]; exact hy)
  rw [hct] at hlen
  have hcs : (cs.drop (0 * c)).take (xs.length * c) = cs := by
    rw [Nat.zero_mul, List.drop_zero, hn, ← hlen, List.take_length]
  rw [hcs] at h1 h2
  exact ⟨hlen, h1, h2⟩
theorem var_block {W : World} {n : String} {g : Nat} {cs : Array Value} (hg : P.globalNamed n = some g) (h : W.var? P n = some cs) : ∃ t fr, W.heap[g]? = some (.cells cs t fr) := by
  simp only [World.var?, hg, Option.bind_some] at h
  split at h
  · rename_i c t fr hh; cases h; exact ⟨t, fr, hh⟩
  · cases h
/-- a variable of an interface type that holds a pointer -/
theorem reads_err {W : World} {t : TypeId} {ms : Array (String × TypeId)} (ht : P.underlying t = some (.interface ms)) {m : Nat} {cs : List Value} {name : String} {D : DataW Unit} {p : List MemPlace}
    (h : DataW.trod (fun _ => ()) P W 0 (fun _ => true) false m t cs = some (.iface name (.ptr D), p)) {u0 e : TypeId} (hu : ∀ u, P.typeName? 3 u = some name → u = u0) (hu0 : P.underlying u0 = some (.pointer e)) (he : 1 ≤ P.cellsOf e)
    (hok : ∀ u v, cs = [.iface u v] → Value.okWide P W .any 0 u v) : ∃ a : Addr, a.spot = none ∧ cs = [.iface u0 (.pointer (some a))] := by
  have key : ∃ u v, cs = [.iface u v] := by
    cases m with
    | zero => simp [DataW.trod] at h
    | succ m =>
      unfold DataW.trod at h
      rw [ht] at h
      rcases cs with _ | ⟨c0, _ | ⟨c1, cs⟩⟩
      · simp at h
      · cases c0 <;> first | exact ⟨_, _, rfl⟩ | (simp at h)
      · simp at h
  obtain ⟨u, v, rfl⟩ := key
  cases m with
  | zero => simp [DataW.trod] at h
  | succ m =>
    unfold DataW.trod at h
    rw [ht] at h
    cases hn : P.typeName? 3 u with
    | none => simp [hn] at h
    | some nm =>
      simp only [hn] at h
      obtain ⟨x, h1, h2⟩ := Option.map_eq_some_iff.1 h
      simp only [Prod.mk.injEq, DataW.iface.injEq] at h2
      obtain ⟨⟨rfl, h3⟩, _⟩ := h2
      obtain rfl := hu u hn
      rcases DataW.trod_pointer hu0 h1 with ⟨_, h4⟩ | ⟨a, cs', y, n, _, h4, h5, h6, _⟩
      · rw [h4] at h3; cases h3
      · have hspot : a.spot = none := by
          unfold World.cells? at h6
          split at h6
          · have h7 := h6
            cases hc : P.cellsOf e with
            | zero => omega
            | succ n =>
              rw [hc, List.range_succ_eq_map, List.mapM_cons] at h7
              simp only [Option.bind_eq_bind, Option.bind_eq_some_iff] at h7
              obtain ⟨b, h8, _⟩ := h7
              unfold World.cell? at h8
              split at h8
              · split at h8
                · cases h8
                · rename_i hs
                  have : (a.add 0).spot = a.spot := rfl
                  rw [this] at hs
                  simpa using hs
              · cases h8
          · cases h6
        refine ⟨a, hspot, ?_⟩
        have hv : v.cells.toList = [.pointer (some a)] := h4
        -- one cell
        have hv' : v = .pointer (some a) := by
          cases v with
          | agg cs =>
            have := hok _ _ rfl
            simp [Value.okWide, Cell.okWide, Cell.ok, hu0] at this
          | _ => first | (simp [Value.cells] at hv; done) | (simpa [Value.cells] using hv)
        rw [hv']
theorem reckon_pointer {info : TypeId → Option TypeInfo} {d : TypeDesc} {i : TypeInfo} {e : TypeId} (h : Made.reckon info d = some i) (hd : i.desc = .pointer e) : ∃ j, info e = some j ∧ ∀ n u, j.desc ≠ .named n u := by
  unfold Made.reckon at h
  split at h
  · rename_i e'
    simp only [bind, Option.bind_eq_some_iff] at h
    obtain ⟨j, hj, h⟩ := h
    have hee : e' = e ∧ ∀ n u, j.desc ≠ .named n u := by
      split at h
      · cases h
      · rename_i fs hfs
        split at h
        · cases h
        · simp only [Option.bind_eq_some_iff, pure] at h
          obtain ⟨s, _, h⟩ := h
          cases h
          have : TypeDesc.pointer e' = .pointer e := hd
          cases this
          exact ⟨rfl, fun n u hn => by rw [hfs] at hn; cases hn⟩
      · rename_i hn1 hn2
        simp only [Option.bind_eq_some_iff, pure] at h
        obtain ⟨s, _, h⟩ := h
        cases h
        have : TypeDesc.pointer e' = .pointer e := hd
        cases this
        exact ⟨rfl, fun n u hn => hn1 n u hn⟩
    obtain ⟨rfl, h2⟩ := hee
    exact ⟨j, hj, h2⟩
  all_goals
    exfalso
    try simp only [bind, Option.bind_eq_some_iff, pure] at h
    repeat' first
      | (obtain ⟨_, _, h⟩ := h)
      | (split at h)
    all_goals first
      | (simp [Made.word] at hd; done)
      | (cases h; simp [Made.word] at hd; done)
      | (cases h; cases hd; done)
      | (cases h; done)
      | (simp only [Option.bind_eq_some_iff] at h; obtain ⟨_, _, h⟩ := h; cases h; cases hd; done)
      | (unfold Made.reckonStruct at h; simp only [bind, Option.bind_eq_some_iff, pure] at h; obtain ⟨_, _, h⟩ := h; split at h <;> (cases h; cases hd))
/-- a type is known by its name: a pointer to a defined type -/
theorem named_pointer {name inner : String} (hname : name = "*" ++ inner) (hstar : ∀ m : String, inner ≠ "*" ++ m)
    (htab : (P.types.toList.zipIdx.all fun x => match P.typeName? 2 x.2 with | some n => n != inner || (match x.1.desc with | .named _ _ => true | _ => false) | none => true) = true)
    {u : TypeId} (h : P.typeName? 3 u = some name) : u < P.types.size := by
  refine Decidable.byContradiction fun hu => ?_
  unfold Program.typeName? at h
  cases hi : P.info? u with
  | none => simp [hi] at h
  | some i =>
    have hb := Tables.info?_beyond hu hi
    simp only [hi] at h
    cases hd : i.desc <;> simp only [hd, TypeDesc.tableOnly] at h hb <;> try cases hb
    all_goals try (cases h; done)
    rename_i e
    simp only [Option.map_eq_some_iff] at h
    obtain ⟨n', hn', h2⟩ := h
    have hin : n' = inner := by
      rw [hname] at h2
      have h3 : ("*" ++ n').toList = ("*" ++ inner).toList := by rw [h2]
      rw [String.toList_append, String.toList_append] at h3
      exact String.toList_inj.1 (List.append_cancel_left h3)
    subst hin
    -- the pointer's row
    unfold Tables.info? at hi
    rw [if_neg hu] at hi
    unfold Made.depth at hi
    unfold Made.infoAt at hi
    rw [if_neg hu] at hi
    simp only [Option.bind_eq_some_iff] at hi
    obtain ⟨d, _, hrk⟩ := hi
    obtain ⟨jj, hj, hjn⟩ := reckon_pointer hrk hd
    by_cases he : e < P.types.size
    · unfold Made.infoAt at hj
      rw [if_pos he] at hj
      have h4 := List.all_eq_true.1 htab (jj, e) (by rw [List.mk_mem_zipIdx_iff_getElem?, Array.getElem?_toList]; exact hj)
      simp only [hn'] at h4
      cases hjd : jj.desc with
      | named a b => exact hjn a b hjd
      | _ => simp at h4
    · unfold Program.typeName? at hn'
      cases hi2 : P.info? e with
      | none => simp [hi2] at hn'
      | some i2 =>
        have hb2 := Tables.info?_beyond he hi2
        simp only [hi2] at hn'
        cases hd2 : i2.desc <;> simp only [hd2, TypeDesc.tableOnly] at hn' hb2 <;> try cases hb2
        all_goals try (cases hn'; done)
        simp only [Option.map_eq_some_iff] at hn'
        obtain ⟨m, _, hm⟩ := hn'
        exact hstar m hm.symm
noncomputable def tabL (l : List (Nat × CF)) : T CF := List.rec .leaf (fun x _ t => t.set x.1 x.2) l
theorem tabL_get : ∀ {l : List (Nat × CF)} {f : Nat} {cf : CF}, (tabL l).get f = some cf → (f, cf) ∈ l
  | [], f, cf, h => by
    have h : (T.leaf : T CF).get f = some cf := h
    rw [T.get_leaf] at h; cases h
  | (g, c) :: l, f, cf, h => by
    have h : ((tabL l).set g c).get f = some cf := h
    rw [T.get_set] at h
    by_cases e : g = f
    · rw [if_pos e] at h; cases h; rw [e]; exact List.mem_cons_self ..
    · rw [if_neg e] at h; exact List.mem_cons_of_mem _ (tabL_get h)
theorem kept_of_same {W W' : World} {may : MemPlace → Prop} (h1 : W'.os = W.os) (h2 : W'.output = W.output) (h3 : ∀ i, i < W.heap.size → W'.heap[i]? = W.heap[i]?) : W.keptBut W' may := by
  refine ⟨h1, h2, fun i hi => ?_⟩
  rw [h3 i hi]
  split
  · rename_i e1 e2; rw [e1] at e2; cases e2; exact ⟨rfl, rfl, rfl, fun _ _ => rfl⟩
  · rename_i e1 e2; rw [e1] at e2; cases e2; exact .inr ⟨rfl, rfl⟩
  · rfl
mutual
theorem Rel.back {σ σ' : Mp} (h : Ext σ σ') : ∀ {a : AV} {v0 v : Value}, Rel σ a v0 → Rel σ' a v → Rel σ a v
  | .unk, _, _, _, _ => by simp [Rel]
  | .bool b, _, v, _, r => by simpa [Rel] using r
  | .int k n, _, v, _, r => by simpa [Rel] using r
  | .str s, _, v, _, r => by simpa [Rel] using r
  | .nilp, _, v, _, r => by simpa [Rel] using r
  | .ptr b o, _, v, q, r => by
    simp only [Rel] at q r ⊢
    obtain ⟨l, hl, _⟩ := q
    obtain ⟨l', hl', hv⟩ := r
    rw [h _ _ hl] at hl'; cases hl'
    exact ⟨l, hl, hv⟩
  | .nils, _, v, _, r => by simpa [Rel] using r
  | .slice b o n cap, _, v, q, r => by
    simp only [Rel] at q r ⊢
    obtain ⟨l, hl, _⟩ := q
    obtain ⟨l', hl', hv⟩ := r
    rw [h _ _ hl] at hl'; cases hl'
    exact ⟨l, hl, hv⟩
  | .nilm, _, v, _, r => by simpa [Rel] using r
  | .map b, _, v, q, r => by
    simp only [Rel] at q r ⊢
    obtain ⟨l, hl, _⟩ := q
    obtain ⟨l', hl', hv⟩ := r
    rw [h _ _ hl] at hl'; cases hl'
    exact ⟨l, hl, hv⟩
  | .func f a b, _, v, q, r => by
    simp only [Rel] at q r ⊢
    obtain ⟨x0, y0, q1, q2, _⟩ := q
    obtain ⟨x, y, hx, hy, hv⟩ := r
    exact ⟨x, y, RelL.back h q1 hx, RelL.back h q2 hy, hv⟩
  | .meth n a, _, v, q, r => by
    simp only [Rel] at q r ⊢
    obtain ⟨x0, q1, _⟩ := q
    obtain ⟨x, hx, hv⟩ := r
    exact ⟨x, Rel.back h q1 hx, hv⟩
  | .yield b, _, v, q, r => by
    simp only [Rel] at q r ⊢
    obtain ⟨l, hl, _⟩ := q
    obtain ⟨l', hl', hv⟩ := r
    rw [h _ _ hl] at hl'; cases hl'
    exact ⟨l, hl, hv⟩
  | .nilf, _, v, _, r => by simpa [Rel] using r
  | .iface t x, _, v, q, r => by
    simp only [Rel] at q r ⊢
    obtain ⟨y0, q1, _⟩ := q
    obtain ⟨y, hy, hv⟩ := r
    exact ⟨y, Rel.back h q1 hy, hv⟩
  | .nili, _, v, _, r => by simpa [Rel] using r
  | .agg cs, _, v, q, r => by
    simp only [Rel] at q r ⊢
    obtain ⟨v0, q1, _, _⟩ := q
    obtain ⟨vs, hx, h1, hv⟩ := r
    exact ⟨vs, RelL.back h q1 hx, h1, hv⟩
  | .tup cs, _, v, q, r => by
    simp only [Rel] at q r ⊢
    obtain ⟨v0, q1, _⟩ := q
    obtain ⟨vs, hx, hv⟩ := r
    exact ⟨vs, RelL.back h q1 hx, hv⟩
theorem RelL.back {σ σ' : Mp} (h : Ext σ σ') : ∀ {as : List AV} {l0 l : List Value}, RelL σ as l0 → RelL σ' as l → RelL σ as l
  | [], _, _, _, r => by simpa [RelL] using r
  | a :: as, _, _, q, r => by
    simp only [RelL] at q r ⊢
    obtain ⟨v0, vs0, q1, q2, _⟩ := q
    obtain ⟨v, vs, r1, r2, e⟩ := r
    exact ⟨v, vs, Rel.back h q1 r1, RelL.back h q2 r2, e⟩
end
theorem RowRel.back {σ σ' : Mp} (h : Ext σ σ') {r : Row} {l : Loc} {c0 c : Array Value} {f0 f : Nat × Nat} (q : RowRel σ r l c0 f0) (p : RowRel σ' r l c f) : RowRel σ r l c f :=
  ⟨p.sz, p.sz1, p.fits, p.room, p.exact, fun i hi => by
    obtain ⟨v0, _, h0⟩ := q.cell i hi
    obtain ⟨v, h1, h2⟩ := p.cell i hi
    exact ⟨v, h1, h0.back h h2⟩, p.one, p.frz, p.frs⟩
theorem EntsRel.known {σ : Mp} : ∀ {es : List Ent} {l : List MapEntry}, EntsRel σ es l → ∀ e ∈ es, (∃ v, Rel σ e.key v) ∧ ∃ v, Rel σ e.val v
  | [], _, _, e, he => by cases he
  | a :: as, _, h, e, he => by
    obtain ⟨x, xs, h1, h2, _⟩ := h
    rcases List.mem_cons.1 he with rfl | he
    · exact ⟨⟨_, h1.1⟩, ⟨_, h1.2.1⟩⟩
    · exact EntsRel.known h2 e he
theorem EntsRel.back {σ σ' : Mp} (h : Ext σ σ') : ∀ {es : List Ent} {l : List MapEntry}, (∀ e ∈ es, (∃ v, Rel σ e.key v) ∧ ∃ v, Rel σ e.val v) → EntsRel σ' es l → EntsRel σ es l
  | [], _, _, r => r
  | a :: as, _, q, r => by
    obtain ⟨x, xs, h1, h2, e⟩ := r
    obtain ⟨⟨_, q1⟩, ⟨_, q2⟩⟩ := q a (List.mem_cons_self ..)
    exact ⟨x, xs, ⟨q1.back h h1.1, q2.back h h1.2.1, h1.2.2⟩, EntsRel.back h (fun e he => q e (List.mem_cons_of_mem _ he)) h2, e⟩
theorem ObjRel.back {σ σ' : Mp} (h : Ext σ σ') {o : Obj} {l : Loc} {c0 c : Go.Obj} (q : ObjRel σ o l c0) (p : ObjRel σ' o l c) : ObjRel σ o l c := by
  cases o with
  | row r =>
    obtain ⟨_, _, _, q1⟩ := q
    obtain ⟨cs, fr, e, p1⟩ := p
    exact ⟨cs, fr, e, q1.back h p1⟩
  | map es clock =>
    obtain ⟨_, _, q1, _⟩ := q
    obtain ⟨ents, e, p1, p2⟩ := p
    exact ⟨ents, e, EntsRel.back h q1.known p1, p2⟩
  | siter s pos => exact p
  | miter m since cur =>
    obtain ⟨_, _, _, q1, _⟩ := q
    obtain ⟨seen, st, e, p1, p2⟩ := p
    refine ⟨seen, st, ?_, q1, p2⟩
    rw [e]
    cases m with
    | none => rfl
    | some b =>
      obtain ⟨l2, hl2⟩ := Option.isSome_iff_exists.1 (q1 b rfl)
      show Go.Obj.mapIter ((σ' b).map (·.blk)) since seen st = Go.Obj.mapIter ((σ b).map (·.blk)) since seen st
      rw [hl2, h _ _ hl2]
  | loop => exact p
  | cmap es =>
    obtain ⟨_, _, f0, _, q1, q2, _⟩ := q
    obtain ⟨ents, clock, fs, e, p1, p2, p3⟩ := p
    refine ⟨ents, clock, fs, e, EntsRel.back h (fun x hx => ?_) p1, p2, p3⟩
    have hm : strip x ∈ f0.map strip := q2.symm.mem_iff.1 (p2.mem_iff.1 (List.mem_map_of_mem hx))
    obtain ⟨y, hy, ey⟩ := List.mem_map.1 hm
    obtain ⟨⟨v, h1⟩, ⟨u, h2⟩⟩ := q1.known y hy
    have e1 : y.key = x.key := congrArg Prod.fst ey
    have e2 : y.val = x.val := congrArg Prod.snd ey
    exact ⟨⟨v, e1 ▸ h1⟩, ⟨u, e2 ▸ h2⟩⟩
/-- what is new may be forgotten, when what is old is kept -/
theorem Tr.drop {σ σ' : Mp} {H H' : Heap} {w w' : World} (hs : Sim P σ H w) (t : Tr P σ H w σ' H' w') (keep : ∀ b, b < H.nx → H'.t.get b = H.t.get b) : Tr P σ H w σ H w' := by
  have hs' : Sim P σ H w' := by
    refine ⟨hs.dom, hs.low, fun b o l hb hl => ?_, hs.inj, hs.glob, hs.ro⟩
    obtain ⟨c0, _, h1⟩ := hs.alive b o l hb hl
    obtain ⟨c, h2, h3⟩ := t.sim.alive b o l (by rw [keep b (hs.low b o hb)]; exact hb) (t.ext b l hl)
    exact ⟨c, h2, h1.back t.ext h3⟩
  exact ⟨Ext.refl σ, hs', t.size, t.frame, fun b l hw hl _ => ⟨b, l, hw, hl, rfl⟩, Nat.le_refl _, rfl, fun _ _ => rfl, t.tape, t.os, t.out, fun _ _ h => ⟨rfl, h⟩⟩
end
end
end Go.AI
