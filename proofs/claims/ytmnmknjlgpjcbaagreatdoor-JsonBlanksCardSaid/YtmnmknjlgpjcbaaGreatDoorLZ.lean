/- The law JsonBlanks returns true: proved, under its row's condition. -/
import Derived.Test.YtmnmknjlgpjcbaaGreatDoorTZ
import Derived.Test.YtmnmknjlgpjcbaaGreatDoorP6
set_option maxRecDepth 1000000
set_option maxHeartbeats 0
set_option linter.unusedVariables false
set_option linter.unusedSimpArgs false
namespace Go.Proofs.YtmnmknjlgpjcbaaGreatDoor
open Go.ChangeShapes Go.WideShapes Go.ChangeAt Go.RowKit Go.AI
theorem kj{W:World}(hL:laidMetH Tryz.prog Rows.jsonBlanksRow.laid W){H:Type}{enc:TypeId×Value->H}{base:Nat}{v0 v1:Value}{d0 d1:DataW H}{p0 p1:List MemPlace}
  (k0:Value.okWide Tryz.prog W .any base 22 v0)(k1:Value.okWide Tryz.prog W .any base 23 v1)(t0:DataW.Trod enc Tryz.prog W 0 (λ_=>true) true 22 v0 d0 p0)(t1:DataW.Trod enc Tryz.prog W 0 (λ_=>true) true 23 v1 d1 p1):
  Calls Tryz.prog 3 #[v0,v1] W λe W'=>e=.returned (.bool true)∧W'.os=W.os∧W'.output=W.output∧ ∀i,i<W.heap.size->W'.heap[i]? =W.heap[i]? :=by
 obtain⟨σ,e,hs⟩:=aG hL
 have oT:Tryz.prog.cellsOf 178=1:=by kernel_rfl
 obtain⟨a0,w0,l0,b0⟩:=cj 100 Tryz.underlying22 Tryz.underlying178 oT k0 t0
 have ZnC:Tryz.prog.cellsOf 5=1:=by kernel_rfl
 obtain⟨a1,w1,l1,b1⟩:=gH 101 Tryz.underlying23 Tryz.underlying5 ZnC k1 t1
 have nd:((w0++w1).map (·.1)).Nodup:=dC (l:=[]) (n:=100) (i:=100) (j:=101) List.nodup_nil (λ_ _ h=>by cases h) (Zj _) (by decide) b0.few b0.ids b1.few b1.ids
 have lt: ∀b x,(b,x)∈w0++w1->100<=b∧b<102:=λb x h=>by
  rcases Zs.1 h with h|h
  ·have:=b0.ids b x h;omega
  ·have:=b1.ids b x h;omega
 have lV:Wh Tryz.prog (Ix σ (w0++w1)) ⟨102,JS (H0 e).t (w0++w1),102⟩ W:=hs.add (show(100:Nat)<=102 by decide) nd lt (λb o h=>(wg e b o h).2.2) (λb x h=>by
  rcases Zs.1 h with h|h
  ·exact b0.win _ b x h
  ·exact b1.win _ b x h)
 have hr: ∀b x,(b,x)∈w0++w1->(JS (H0 e).t (w0++w1)).get b=some (.row x.row)∧b<102:=λb x h=>⟨ol _ _ b x h nd,(lt b x h).2⟩
 have hb:Bears 100 (H0 e).t ⟨102,JS (H0 e).t (w0++w1),102⟩:=⟨(show(100:Nat)<=102 by decide),λb o h=>by
  show(JS (H0 e).t (w0++w1)).get b=_
  rw[wX _ _ b λx hx=>by have:=lt b x hx;have:=(wg e b o h).1;omega];exact h⟩
 obtain⟨H',run⟩:=dF (e:=e) hb (Zj _) (b0.arg ⟨102,JS (H0 e).t (w0++w1),102⟩ λb x h=>hr b x (Zs.2 (.inl h))) (b1.arg ⟨102,JS (H0 e).t (w0++w1),102⟩ λb x h=>hr b x (Zs.2 (.inr h)))
 obtain⟨fn,h1,h2,h3,_⟩:=xn 3 c3 (by kernel_rfl)
 obtain⟨c,hc⟩:=Vo.1 h3
 exact jD Zgw h1 h2 hc lV (Zdp lV (Zj _)) (vs:=[v0,v1]) (WC (b0.rel _ λb x h=>by unfold Ix;rw[IR (Zs.2 (.inl h)) nd]) (T7 (b1.rel _ λb x h=>by unfold Ix;rw[IR (Zs.2 (.inr h)) nd]))) run
theorem own:ownKnob Tryz.prog.godebug=none:=by kernel_rfl
theorem Zgx(os:Os)(started:os.Started)(H:Type)(enc:TypeId×Value->H):
  ReturnsInHanded {} Tryz.checked os 3 .any (λw args=>(Rows.jsonBlanksSpec.pre enc Tryz.prog Tryz.f3 [] false w args∧laidMetH Tryz.prog Rows.jsonBlanksRow.laid w)∧sizedMet enc Tryz.prog Tryz.f3 (OpenSpec.ofChange Rows.jsonBlanksSpec) false w args)
   (Rows.jsonBlanksSpec.post enc Tryz.prog Tryz.f3 false true false false):=by
 refine returnsInHanded_of_change_and (C:=Tryz.checked) (X:=λw _=>laidMetH Tryz.prog Rows.jsonBlanksRow.laid w) (λ_ _ _ hh h=>h.of_heap hh) own started (by kernel_rfl) Tryz.func3
  (ChangeSpec.witness_shaped (enc:=enc) (C:=Tryz.checked) (os:=os) (X:=λw _=>laidMetH Tryz.prog Rows.jsonBlanksRow.laid w) false (World.laidAll Tryz.prog os Rows.jsonBlanksRow.laid) #[.slice none 0 0,.slice none 0 0] 8 (World.laidAll_os _ _ _)
   (World.shaped_of_ZipB (by kernel_rfl) (by kernel_rfl)) (by kernel_rfl) (by kernel_rfl) (by kernel_rfl)
   (by rw[MakeChecks.laidMetH_plain _ _ _ (by kernel_rfl)];exact laidMet_laidAll _ (by kernel_rfl) (by kernel_rfl))) ?_
 intro W base args ds gs before Zkh hW _ _ hL _
 have Zb1: ∀(j:Nat) t v,Tryz.f3.params[j]? =some t->args[j]? =some v->Value.okWide Tryz.prog W .any base t v:=Zkh
 have hW':=hW
 obtain⟨p,q,hA0,hV,rfl,_,_⟩:=hW
 have hA:DataW.TrodAll enc Tryz.prog W 0 (λ_=>true) true Tryz.f3.params.toList args.toList ds p:=hA0
 rw[Tryz.params3] at hA Zb1
 obtain⟨v0,v1,d0,d1,p0,p1,rfl,rfl,rfl,t0,t1⟩:=trodAll_two hA
 obtain⟨rfl,rfl⟩:=trodVars_none hV
 refine(kj hL (Zb1 0 22 v0 rfl rfl) (Zb1 1 23 v1 rfl rfl) t0 t1).mono λe W' ⟨he,h1,h2,h3⟩=>?_
 subst he
 refine⟨_,rfl,dE (tb:=4) (by kernel_rfl) (λt ht=>?_) rfl (by kernel_rfl) Tryz.underlying4 hW' rfl rfl rfl h1 h2 h3⟩
 have hp: ∀t∈Tryz.f3.params.toList,t=22∨t=23:=by rw[Tryz.params3];simp
 rcases hp t ht with rfl|rfl
 ·exact⟨by kernel_rfl,Zn (by kernel_rfl)⟩
 ·exact⟨by kernel_rfl,Zn (by kernel_rfl)⟩
end Go.Proofs.YtmnmknjlgpjcbaaGreatDoor
