/- The law ManifestPuts returns true: proved, under its row's condition. -/
import Derived.Test.YtbmjgbajoemnaaaGreatDoorTN
import Derived.Test.YtbmjgbajoemnaaaGreatDoorP6
import Derived.Carry
set_option maxRecDepth 1000000
set_option maxHeartbeats 0
set_option linter.unusedVariables false
set_option linter.unusedSimpArgs false
namespace Go.Proofs.YtbmjgbajoemnaaaGreatDoor
open Go.ChangeShapes Go.WideShapes Go.ChangeAt Go.RowKit Go.AI
theorem np{W:World}(hL:laidMetH Tryz.prog Rows.manifestPutsRow.laid W){H:Type}{enc:TypeId×Value->H}{base:Nat}{v0:Value}{d0:DataW H}{p0:List MemPlace}
  (k0:Value.okWide Tryz.prog W .any base 30 v0)(t0:DataW.Trod enc Tryz.prog W 0 (λ_=>true) true 30 v0 d0 p0):
  Calls Tryz.prog 3 #[v0] W λe W'=>e=.returned (.bool true)∧W'.os=W.os∧W'.output=W.output∧ ∀i,i<W.heap.size->W'.heap[i]? =W.heap[i]? :=by
 obtain⟨σ,e,hs⟩:=fH hL
 obtain⟨cs,rfl⟩:=eR Tryz.underlying30 k0
 obtain⟨av,ws,n1,hA,hl⟩:=oa ZcL t0 100
 obtain⟨hs',hb,hr,htold⟩:=uS (n:=100) hs (λb o h=>⟨(xo e b o h).1,(xo e b o h).2.2⟩) hA
 have h39:av.length=39:=hl
 have ht0: ∀(j:Nat) s,Ex[j]? =some s->Zdo ⟨n1,Hi (H0 e).t ws,n1⟩ s (av.getD j .unk):=λj s hj=>by
  have hlt:j<Ex.length:=(Xh.1 hj).1
  have h39':Ex.length=39:=rfl
  exact htold j s _ hj (by rw[Za,Zg (by omega)];rfl)
 obtain⟨H',run⟩:=ia (e:=e) hb (Zl _) h39 ht0
 obtain⟨fn,h1,h2,h3,_⟩:=yJ 3 c3 (by kernel_rfl)
 obtain⟨c,hc⟩:=Vp.1 h3
 exact mz Zb6 h1 h2 hc hs' (au hs' (Zl _)) (vs:=[.agg cs]) (TQ (fa hr hA.onev)) run
theorem own:ownKnob Tryz.prog.godebug=none:=by kernel_rfl
theorem Zca(os:Os)(started:os.Started)(H:Type)(enc:TypeId×Value->H):
  ReturnsInHanded {} Tryz.checked os 3 .any (λw args=>(Rows.manifestPutsSpec.pre enc Tryz.prog Tryz.f3 [] false w args∧laidMetH Tryz.prog Rows.manifestPutsRow.laid w)∧sizedMet enc Tryz.prog Tryz.f3 (OpenSpec.ofChange Rows.manifestPutsSpec) false w args)
   (Rows.manifestPutsSpec.post enc Tryz.prog Tryz.f3 false true false false):=by
 refine returnsInHanded_of_change_and (C:=Tryz.checked) (X:=λw _=>laidMetH Tryz.prog Rows.manifestPutsRow.laid w) (λ_ _ _ hh h=>h.of_heap hh) own started (by kernel_rfl) Tryz.func3
  (ChangeSpec.witness_shaped (enc:=enc) (C:=Tryz.checked) (os:=os) (X:=λw _=>laidMetH Tryz.prog Rows.manifestPutsRow.laid w) false (World.laidAll Tryz.prog os Rows.manifestPutsRow.laid) #[.agg #[.string ⟨#[]⟩,.int .u8 0,.int .u8 0,.int .u8 0,.int .u8 0,.int .u8 0,.int .u8 0,.int .u8 0,.int .u8 0,.int .u8 0,.int .u8 0,.int .u8 0,.int .u8 0,.int .u8 0,.int .u8 0,.int .u8 0,.int .u8 0,.int .u8 0,.int .u8 0,.int .u8 0,.int .u8 0,.int .u8 0,.int .u8 0,.int .u8 0,.int .u8 0,.int .u8 0,.int .u8 0,.int .u8 0,.int .u8 0,.int .u8 0,.int .u8 0,.int .u8 0,.int .u8 0,.int .i64 0,.slice none 0 0,.slice none 0 0,.string ⟨#[]⟩,.string ⟨#[]⟩,.slice none 0 0]] 8 (World.laidAll_os _ _ _)
   (World.shaped_of_ZipB (by kernel_rfl) (by kernel_rfl)) (by kernel_rfl) (by kernel_rfl) (by kernel_rfl)
   (by rw[MakeChecks.laidMetH_plain _ _ _ (by kernel_rfl)];exact laidMet_laidAll _ (by kernel_rfl) (by kernel_rfl))) ?_
 intro W base args ds gs before hval0 hW _ _ hL _
 have hval: ∀(j:Nat) t v,Tryz.f3.params[j]? =some t->args[j]? =some v->Value.okWide Tryz.prog W .any base t v:=hval0
 have hW':=hW
 obtain⟨p,q,hA0,hV,rfl,_,_⟩:=hW
 have hA:DataW.TrodAll enc Tryz.prog W 0 (λ_=>true) true Tryz.f3.params.toList args.toList ds p:=hA0
 rw[Tryz.params3] at hA hval
 obtain⟨v0,d0,rfl,rfl,t0⟩:=Go.ChangeShapes.trodAll_one hA
 obtain⟨rfl,rfl⟩:=trodVars_none hV
 refine(np hL (hval 0 30 v0 rfl rfl) t0).mono λe W' ⟨he,h1,h2,h3⟩=>?_
 subst he
 refine⟨_,rfl,j9 (tb:=4) (by kernel_rfl) (λt ht=>?_) rfl (by kernel_rfl) Tryz.underlying4 hW' rfl rfl rfl h1 h2 h3⟩
 have hp: ∀t∈Tryz.f3.params.toList,t=30:=by rw[Tryz.params3];simp
 rcases hp t ht with rfl
 exact⟨by kernel_rfl,Zo (by kernel_rfl)⟩
end Go.Proofs.YtbmjgbajoemnaaaGreatDoor
