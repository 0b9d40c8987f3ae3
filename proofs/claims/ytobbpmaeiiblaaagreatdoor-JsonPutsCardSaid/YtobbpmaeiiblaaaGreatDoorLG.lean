/- The law JsonPuts returns true: proved, under its row's condition. -/
import Derived.Test.YtobbpmaeiiblaaaGreatDoorTG
import Derived.Test.YtobbpmaeiiblaaaGreatDoorP6
set_option maxRecDepth 1000000
set_option maxHeartbeats 0
set_option linter.unusedVariables false
set_option linter.unusedSimpArgs false
namespace Go.Proofs.YtobbpmaeiiblaaaGreatDoor
open Go.ChangeShapes Go.WideShapes Go.ChangeAt Go.RowKit Go.AI
theorem ZtM{W:World}(hL:laidMetH Tryz.prog Rows.jsonPutsRow.laid W){H:Type}{enc:TypeId×Value→H}{base:Nat}{v0 v1:Value}{d0:DataW H}{p0:List MemPlace}
  (k0:Value.okWide Tryz.prog W .any base 68 v0)(k1:Value.okWide Tryz.prog W .any base 5 v1)(t0:DataW.Trod enc Tryz.prog W 0 (fun _=>true) true 68 v0 d0 p0):
  Calls Tryz.prog 5 #[v0,v1] W fun e W'=>e= .returned (.bool true)∧W'.os=W.os∧W'.output=W.output∧ ∀i,i<W.heap.size→W'.heap[i]? =W.heap[i]? :=by
 obtain⟨σ,e,hs⟩:=Zy0 hL
 have hce:Tryz.prog.cellsOf 176=1:=by kernel_rfl
 obtain⟨a0,w0,l0,b0⟩:=ZyU 100 Tryz.underlying68 Tryz.underlying176 hce k0 t0
 obtain⟨s,rfl,hs1⟩:=ZzD Tryz.underlying5 k1
 obtain⟨m,rfl⟩: ∃m:Nat,s=m:=⟨s.toNat,(Int.toNat_of_nonneg hs1.1).symm⟩
 have hm:m<256:=by have:(m:Int)≤255:=hs1.2;omega
 have nd:(w0.map (·.1)).Nodup:=by
  have hw:=b0.few
  match w0,hw with
  |[],_=>exact List.nodup_nil
  |[x],_=>exact List.nodup_cons.2 ⟨by simp,List.nodup_nil⟩
  |_::_::_,h=>simp at h
 have lt: ∀b x,(b,x)∈w0→100≤b∧b<101:=fun b x h=>by have:=b0.ids b x h;omega
 have hs':Sim Tryz.prog (ZiX σ w0) ⟨101,ZhY (H0 e).t w0,101⟩ W:=hs.add (show(100:Nat)≤101 from Nat.le_succ 100) nd lt (fun b o h=>(ZoW e b o h).2.2) (fun b x h=>b0.win _ b x h)
 have hr: ∀b x,(b,x)∈w0→(ZhY (H0 e).t w0).get b=some (.row x.row)∧b<101:=fun b x h=>⟨Ztb _ _ b x h nd,(lt b x h).2⟩
 have hb:Bears 100 (H0 e).t ⟨101,ZhY (H0 e).t w0,101⟩:=⟨Nat.le_succ 100,fun b o h=>by
  show(ZhY (H0 e).t w0).get b=_
  rw[Zp4 _ _ b fun x hx=>by have:=lt b x hx;have:=(ZoW e b o h).1;omega];exact h⟩
 obtain⟨H',run⟩:=Zy3 (e:=e) hb (Zk _) (b0.arg ⟨101,ZhY (H0 e).t w0,101⟩ hr) hm
 obtain⟨fn,h1,h2,h3,_⟩:=ZnP 5 c5 (by kernel_rfl)
 obtain⟨c,hc⟩:=Option.isSome_iff_exists.1 h3
 exact Zuo ZDl h1 h2 hc hs' (ZzE hs' (Zk _)) (vs:=[v0, .int .u8 m]) (Wu (b0.rel _ fun b x h=>by unfold ZiX;rw[Zlq h nd]) (UA (by simp only[Rel,nI];rfl))) run
theorem own:ownKnob Tryz.prog.godebug=none:=by kernel_rfl
theorem ZBO(os:Os)(started:os.Started)(H:Type)(enc:TypeId×Value→H):
  ReturnsInHanded {} Tryz.checked os 5 .any (fun w args=>(Rows.jsonPutsSpec.pre enc Tryz.prog Tryz.f5 [] false w args∧laidMetH Tryz.prog Rows.jsonPutsRow.laid w)∧sizedMet enc Tryz.prog Tryz.f5 (OpenSpec.ofChange Rows.jsonPutsSpec) false w args)
   (Rows.jsonPutsSpec.post enc Tryz.prog Tryz.f5 false true false false):=by
 refine returnsInHanded_of_change_and (C:=Tryz.checked) (X:=fun w _=>laidMetH Tryz.prog Rows.jsonPutsRow.laid w) (fun _ _ _ hh h=>h.of_heap hh) own started (by kernel_rfl) Tryz.func5
  (ChangeSpec.witness_shaped (enc:=enc) (C:=Tryz.checked) (os:=os) (X:=fun w _=>laidMetH Tryz.prog Rows.jsonPutsRow.laid w) false (World.laidAll Tryz.prog os Rows.jsonPutsRow.laid) #[.slice none 0 0, .int .u8 0] 8 (World.laidAll_os _ _ _)
   (World.shaped_of_ZipB (by kernel_rfl) (by kernel_rfl)) (by kernel_rfl) (by kernel_rfl) (by kernel_rfl)
   (by rw[MakeChecks.laidMetH_plain _ _ _ (by kernel_rfl)];exact laidMet_laidAll _ (by kernel_rfl) (by kernel_rfl))) ?_
 intro W base args ds gs before hval0 hW _ _ hL _
 have hval: ∀(j:Nat) t v,Tryz.f5.params[j]? =some t→args[j]? =some v→Value.okWide Tryz.prog W .any base t v:=hval0
 have hW':=hW
 obtain⟨p,q,hA0,hV,rfl,_,_⟩:=hW
 have hA:DataW.TrodAll enc Tryz.prog W 0 (fun _=>true) true Tryz.f5.params.toList args.toList ds p:=hA0
 rw[Tryz.params5] at hA hval
 obtain⟨v0,v1,d0,d1,p0,p1,rfl,rfl,rfl,t0,t1⟩:=trodAll_two hA
 obtain⟨rfl,rfl⟩:=trodVars_none hV
 refine(ZtM hL (hval 0 68 v0 rfl rfl) (hval 1 5 v1 rfl rfl) t0).mono fun e W' ⟨he,h1,h2,h3⟩=>?_
 subst he
 refine⟨_,rfl,ZwQ (tb:=4) (by kernel_rfl) (fun t ht=>?_) rfl (by kernel_rfl) Tryz.underlying4 hW' rfl rfl rfl h1 h2 h3⟩
 have hp: ∀t∈Tryz.f5.params.toList,t=68∨t=5:=by rw[Tryz.params5];simp
 rcases hp t ht with rfl|rfl
 ·exact⟨by kernel_rfl,Zo (by kernel_rfl)⟩
 ·exact⟨by kernel_rfl,Zo (by kernel_rfl)⟩
end Go.Proofs.YtobbpmaeiiblaaaGreatDoor
