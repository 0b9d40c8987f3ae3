/- The law ManifestNotes returns true: proved, under its row's condition. -/
import Derived.Test.YtoihnnkidhmfeaaGreatDoorTN
import Derived.Test.YtoihnnkidhmfeaaGreatDoorP6
import Derived.Carry
set_option maxRecDepth 1000000
set_option maxHeartbeats 0
set_option linter.unusedVariables false
set_option linter.unusedSimpArgs false
namespace Go.Proofs.YtoihnnkidhmfeaaGreatDoor
open Go.ChangeShapes Go.WideShapes Go.ChangeAt Go.RowKit Go.AI
theorem uN{W:World}{r:Reach}{base:Nat}{v:Value}(ht:Tryz.prog.underlying 9=some .string)(hok:Value.okWide Tryz.prog W r base 9 v): ∃l:List UInt8,∀σ,Yl σ (.str l) v:=by
 have hk:Cell.ok Tryz.prog W r base 9 v:=by
  unfold Value.okWide Cell.okWide at hok
  rw[ht] at hok
  simpa using hok
 unfold Cell.ok at hk
 rw[ht] at hk
 cases v with
 |string s=>exact⟨s.data.toList,λσ=>by simp only[Yl]⟩
 |_=>simp at hk
theorem ou{W:World}(hL:laidMetH Tryz.prog Rows.manifestNotesRow.laid W){H:Type}{enc:TypeId×Value->H}{base:Nat}{v0 v1 v2 v3:Value}{d1 d2:DataW H}{p1 p2:List MemPlace}
  (k0:Value.okWide Tryz.prog W .any base 9 v0)(k1:Value.okWide Tryz.prog W .any base 22 v1)(k2:Value.okWide Tryz.prog W .any base 23 v2)(k3:Value.okWide Tryz.prog W .any base 9 v3)(t1:DataW.Trod enc Tryz.prog W 0 (λ_=>true) true 22 v1 d1 p1)(t2:DataW.Trod enc Tryz.prog W 0 (λ_=>true) true 23 v2 d2 p2):
  Calls Tryz.prog 3 #[v0,v1,v2,v3] W λe W'=>e=.returned (.bool true)∧W'.os=W.os∧W'.output=W.output∧ ∀i,i<W.heap.size->W'.heap[i]? =W.heap[i]? :=by
 obtain⟨σ,e,hs⟩:=jP hL
 obtain⟨l0,r0⟩:=uN Tryz.underlying9 k0
 obtain⟨l3,r3⟩:=uN Tryz.underlying9 k3
 have hc5:Tryz.prog.cellsOf 5=1:=by kernel_rfl
 obtain⟨a1,w0,l1,b0⟩:=pH 100 Tryz.underlying22 Tryz.underlying5 hc5 k1 t1
 obtain⟨a2,w1,l2,b1⟩:=mB 101 Tryz.underlying23 Tryz.underlying39 (by kernel_rfl) rfl rfl Tryz.underlying9 Tryz.underlying9 (by kernel_rfl) (by kernel_rfl) k2 t2
 have nd:((w0++w1).map (·.1)).Nodup:=kw (l:=[]) (n:=100) (i:=100) (j:=101) List.nodup_nil (λ_ _ h=>by cases h) (Zq _) (by decide) b0.few b0.ids b1.few b1.ids
 have lt: ∀b x,(b,x)∈w0++w1->100<=b∧b<102:=λb x h=>by
  rcases Zu.1 h with h|h
  ·have:=b0.ids b x h;omega
  ·have:=b1.ids b x h;omega
 have hs':W8 Tryz.prog (HI σ (w0++w1)) ⟨102,Ih (H0 e).t (w0++w1),102⟩ W:=hs.add (show(100:Nat)<=102 by decide) nd lt (λb o h=>(xE e b o h).2.2) (λb x h=>by
  rcases Zu.1 h with h|h
  ·exact b0.win _ b x h
  ·exact b1.win _ b x h)
 have hr: ∀b x,(b,x)∈w0++w1->(Ih (H0 e).t (w0++w1)).get b=some (.row x.row)∧b<102:=λb x h=>⟨rM _ _ b x h nd,(lt b x h).2⟩
 have hb:Bears 100 (H0 e).t ⟨102,Ih (H0 e).t (w0++w1),102⟩:=⟨(show(100:Nat)<=102 by decide),λb o h=>by
  show(Ih (H0 e).t (w0++w1)).get b=_
  rw[we _ _ b λx hx=>by have:=lt b x hx;have:=(xE e b o h).1;omega];exact h⟩
 obtain⟨H',run⟩:=kC (e:=e) hb (Zq _) (md:=l0) (nm:=l3) (b0.bv ⟨102,Ih (H0 e).t (w0++w1),102⟩ λb x h=>hr b x (Zu.2 (.inl h))) (b0.sl ⟨102,Ih (H0 e).t (w0++w1),102⟩ λb x h=>hr b x (Zu.2 (.inl h))) (b1.na ⟨102,Ih (H0 e).t (w0++w1),102⟩ λb x h=>hr b x (Zu.2 (.inr h))) b1.one (λb o n c h=>by rw[b1.far b o n c h];show 101<102;decide)
 obtain⟨fn,h1,h2,h3,_⟩:=DU 3 c3 (by kernel_rfl)
 obtain⟨c,hc⟩:=Ub.1 h3
 exact o8 Zbj h1 h2 hc hs' (eY hs' (Zq _)) (vs:=[v0,v1,v2,v3]) (W6 (r0 _) (W6 (b0.rel _ λb x h=>by unfold HI;rw[HZ (Zu.2 (.inl h)) nd]) (W6 (b1.rel _ λb x h=>by unfold HI;rw[HZ (Zu.2 (.inr h)) nd]) (Qa (r3 _))))) run
theorem own:ownKnob Tryz.prog.godebug=none:=by kernel_rfl
theorem Zbr(os:Os)(started:os.Started)(H:Type)(enc:TypeId×Value->H):
  ReturnsInHanded {} Tryz.checked os 3 .any (λw args=>(Rows.manifestNotesSpec.pre enc Tryz.prog Tryz.f3 [] false w args∧laidMetH Tryz.prog Rows.manifestNotesRow.laid w)∧sizedMet enc Tryz.prog Tryz.f3 (OpenSpec.ofChange Rows.manifestNotesSpec) false w args)
   (Rows.manifestNotesSpec.post enc Tryz.prog Tryz.f3 false true false false):=by
 refine returnsInHanded_of_change_and (C:=Tryz.checked) (X:=λw _=>laidMetH Tryz.prog Rows.manifestNotesRow.laid w) (λ_ _ _ hh h=>h.of_heap hh) own started (by kernel_rfl) Tryz.func3
  (ChangeSpec.witness_shaped (enc:=enc) (C:=Tryz.checked) (os:=os) (X:=λw _=>laidMetH Tryz.prog Rows.manifestNotesRow.laid w) false (World.laidAll Tryz.prog os Rows.manifestNotesRow.laid) #[.string ⟨#[]⟩,.slice none 0 0,.slice none 0 0,.string ⟨#[]⟩] 8 (World.laidAll_os _ _ _)
   (World.shaped_of_ZipB (by kernel_rfl) (by kernel_rfl)) (by kernel_rfl) (by kernel_rfl) (by kernel_rfl)
   (by rw[MakeChecks.laidMetH_plain _ _ _ (by kernel_rfl)];exact laidMet_laidAll _ (by kernel_rfl) (by kernel_rfl))) ?_
 intro W base args ds gs before hval0 hW _ _ hL _
 have hval: ∀(j:Nat) t v,Tryz.f3.params[j]? =some t->args[j]? =some v->Value.okWide Tryz.prog W .any base t v:=hval0
 have hW':=hW
 obtain⟨p,q,hA0,hV,rfl,_,_⟩:=hW
 have hA:DataW.TrodAll enc Tryz.prog W 0 (λ_=>true) true Tryz.f3.params.toList args.toList ds p:=hA0
 rw[Tryz.params3] at hA hval
 obtain⟨v0,v1,v2,v3,d0,d1,d2,d3,p0,p1,p2,p3,rfl,rfl,rfl,t0,t1,t2,t3⟩:=Go.RowKit.trodAll_four hA
 obtain⟨rfl,rfl⟩:=trodVars_none hV
 refine(ou hL (hval 0 9 v0 rfl rfl) (hval 1 22 v1 rfl rfl) (hval 2 23 v2 rfl rfl) (hval 3 9 v3 rfl rfl) t1 t2).mono λe W' ⟨he,h1,h2,h3⟩=>?_
 subst he
 refine⟨_,rfl,kz (tb:=4) (by kernel_rfl) (λt ht=>?_) rfl (by kernel_rfl) Tryz.underlying4 hW' rfl rfl rfl h1 h2 h3⟩
 have hp: ∀t∈Tryz.f3.params.toList,t=9∨t=22∨t=23:=by rw[Tryz.params3];simp
 rcases hp t ht with rfl|rfl|rfl
 ·exact⟨by kernel_rfl,Zp (by kernel_rfl)⟩
 ·exact⟨by kernel_rfl,Zp (by kernel_rfl)⟩
 ·exact⟨by kernel_rfl,Zp (by kernel_rfl)⟩
end Go.Proofs.YtoihnnkidhmfeaaGreatDoor
