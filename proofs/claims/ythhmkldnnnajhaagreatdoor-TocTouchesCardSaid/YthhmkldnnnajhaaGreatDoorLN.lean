/- The law TocTouches returns true: proved, under its row's condition. -/
import Derived.Test.YthhmkldnnnajhaaGreatDoorTN
import Derived.Test.YthhmkldnnnajhaaGreatDoorP6
import Derived.Carry
set_option maxRecDepth 1000000
set_option maxHeartbeats 0
set_option linter.unusedVariables false
set_option linter.unusedSimpArgs false
namespace Go.Proofs.YthhmkldnnnajhaaGreatDoor
open Go.ChangeShapes Go.WideShapes Go.ChangeAt Go.RowKit Go.AI
noncomputable def Io(os:Os):World:=let w:=World.holding Tryz.prog os ⟨#[], #[],[]⟩;let n:=w.heap.size
 {w with heap:=⟨Lay.setRows w.heap.toList [(0,[.map (some (n+0))]),(2,[.map (some (n+1))])]++[.map #[⟨.int .i64 1,.int .u8 53,0⟩,⟨.int .i64 2,.int .u8 48,1⟩,⟨.int .i64 3,.int .u8 50,2⟩,⟨.int .i64 4,.int .u8 54,3⟩] 4,.map #[⟨.int .i64 1,.func (.func 427) #[] #[],0⟩,⟨.int .i64 2,.func (.func 428) #[] #[],1⟩,⟨.int .i64 3,.func (.func 429) #[] #[],2⟩] 3]⟩}
noncomputable abbrev mK:List String:=["math/bits.deBruijn32tab", "math/bits.deBruijn64tab", "internal/strconv.uint64pow10", "unicode/utf8.acceptRanges", "strconv.ErrRange", "strconv.ErrSyntax", "portolan/toc.kinds", "unicode/utf8.first"]
noncomputable def MI(os:Os):World:=(Io os).layVars Tryz.prog (Rows.tocTouchesRow.laid.filter λx=>mK.contains x.1)
theorem rk(os:Os)(args:Array Value):laidMetH Tryz.prog Rows.tocTouchesRow.laid ((MI os).forCall (λ_ _=>0) ⟨#[],args,[]⟩).memory:=by
 have hw:((MI os).forCall (λ_ _=>0) ⟨#[],args,[]⟩).memory.heap=(MI os).heap:=by simp[World.memory,World.forCall,Input.heap]
 refine laidMetH_of_parts3 (fuel:=12) ?_ (by kernel_rfl) (by kernel_rfl)
 refine(laidMet_layVars (P:=Tryz.prog) (laid:=(Rows.tocTouchesRow.laid.filter λx=>x.2.handleName?.isNone)) (w0:=Io os) (w':=MI os) mK [0,((Io os).heap.size - 2)] ?_ (by kernel_rfl) (by kernel_rfl) (LaidIn.of_run [0,((Io os).heap.size - 2)] 12 (by kernel_rfl) (by kernel_rfl) (by kernel_rfl) (by kernel_rfl))).of_heap hw.symm
 kernel_rfl
theorem vl{W:World}(hL:laidMetH Tryz.prog Rows.tocTouchesRow.laid W){H:Type}{enc:TypeId×Value->H}{base:Nat}{v0 v1 v2:Value}{d0:DataW H}{p0:List MemPlace}
  (k0:Value.okWide Tryz.prog W .any base 47 v0)(k1:Value.okWide Tryz.prog W .any base 3 v1)(k2:Value.okWide Tryz.prog W .any base 3 v2)(t0:DataW.Trod enc Tryz.prog W 0 (λ_=>true) true 47 v0 d0 p0):
  Calls Tryz.prog 4 #[v0,v1,v2] W λe W'=>e=.returned (.bool true)∧W'.os=W.os∧W'.output=W.output∧ ∀i,i<W.heap.size->W'.heap[i]? =W.heap[i]? :=by
 obtain⟨σ,e,hs⟩:=qV hL
 obtain⟨cs,rfl⟩:=px Tryz.underlying47 k0
 obtain⟨z1,rfl,b1⟩:=xm Tryz.underlying3 k1
 obtain⟨z2,rfl,b2⟩:=xm Tryz.underlying3 k2
 obtain⟨av,ws,n1,hA,hl⟩:=x5 qR t0 100
 obtain⟨hs',hb,hr,htold⟩:=A9 (n:=100) hs (λb o h=>⟨(CZ e b o h).1,(CZ e b o h).2.2⟩) hA
 match av,hl with
 |[v],_=>
  obtain⟨H',run⟩:=rm (e:=e) hb (Z2 _) (htold 0 _ _ rfl rfl) (at_:=z1) (many:=z2) b1 b2
  obtain⟨fn,h1,h2,h3,_⟩:=Cn 4 c4 (by kernel_rfl)
  obtain⟨c,hc⟩:=UU.1 h3
  exact ue jc h1 h2 hc hs' (md hs' (Z2 _)) (vs:=[.agg cs,.int .i64 z1,.int .i64 z2]) (VA (qA hr hA.onev) (VA (by simp[Y2]) (Tl (by simp[Y2])))) run
theorem own:ownKnob Tryz.prog.godebug=none:=by kernel_rfl
theorem jg(os:Os)(started:os.Started)(H:Type)(enc:TypeId×Value->H):
  ReturnsInHanded {} Tryz.checked os 4 .any (λw args=>(Rows.tocTouchesSpec.pre enc Tryz.prog Tryz.f4 [] false w args∧laidMetH Tryz.prog Rows.tocTouchesRow.laid w)∧sizedMet enc Tryz.prog Tryz.f4 (OpenSpec.ofChange Rows.tocTouchesSpec) false w args)
   (Rows.tocTouchesSpec.post enc Tryz.prog Tryz.f4 false true false false):=by
 refine returnsInHanded_of_change_and (C:=Tryz.checked) (X:=λw _=>laidMetH Tryz.prog Rows.tocTouchesRow.laid w) (λ_ _ _ hh h=>h.of_heap hh) own started (by kernel_rfl) Tryz.func4
  (ChangeSpec.witness_shaped (enc:=enc) (C:=Tryz.checked) (os:=os) (X:=λw _=>laidMetH Tryz.prog Rows.tocTouchesRow.laid w) false (MI os) #[.agg #[.slice none 0 0],.int .i64 0,.int .i64 0] 8 rfl
   (World.shaped_of_ZipB (by kernel_rfl) (by kernel_rfl)) (by kernel_rfl) (by kernel_rfl) (by kernel_rfl)
   (rk os _)) ?_
 intro W base args ds gs before hval0 hW _ _ hL _
 have hval: ∀(j:Nat) t v,Tryz.f4.params[j]? =some t->args[j]? =some v->Value.okWide Tryz.prog W .any base t v:=hval0
 have hW':=hW
 obtain⟨p,q,hA0,hV,rfl,_,_⟩:=hW
 have hA:DataW.TrodAll enc Tryz.prog W 0 (λ_=>true) true Tryz.f4.params.toList args.toList ds p:=hA0
 rw[Tryz.params4] at hA hval
 obtain⟨v0,v1,v2,d0,d1,d2,p0,p1,p2,rfl,rfl,rfl,t0,t1,t2⟩:=Go.AI.trodAll_three hA
 obtain⟨rfl,rfl⟩:=trodVars_none hV
 refine(vl hL (hval 0 47 v0 rfl rfl) (hval 1 3 v1 rfl rfl) (hval 2 3 v2 rfl rfl) t0).mono λe W' ⟨he,h1,h2,h3⟩=>?_
 subst he
 refine⟨_,rfl,rl (tb:=4) (by kernel_rfl) (λt ht=>?_) rfl (by kernel_rfl) Tryz.underlying4 hW' rfl rfl rfl h1 h2 h3⟩
 have hp: ∀t∈Tryz.f4.params.toList,t=47∨t=3:=by rw[Tryz.params4];simp
 rcases hp t ht with rfl|rfl
 ·exact⟨by kernel_rfl,ZB (by kernel_rfl)⟩
 ·exact⟨by kernel_rfl,ZB (by kernel_rfl)⟩
end Go.Proofs.YthhmkldnnnajhaaGreatDoor
