/- The law TarPuts returns true: proved, under its row's condition. -/
import Derived.Test.YtdogcjobgcckbaaGreatDoorTN
import Derived.Test.YtdogcjobgcckbaaGreatDoorP6
import Derived.Carry
set_option maxRecDepth 1000000
set_option maxHeartbeats 0
set_option linter.unusedVariables false
set_option linter.unusedSimpArgs false
namespace Go.Proofs.YtdogcjobgcckbaaGreatDoor
open Go.ChangeShapes Go.WideShapes Go.ChangeAt Go.RowKit Go.AI
noncomputable def ML(os:Os):World:=let w:=World.holding Tryz.prog os ⟨#[], #[],[]⟩;let n:=w.heap.size
 {w with heap:=⟨Lay.setRows w.heap.toList [(0,[.map (some (n+0))]),(1,[.map (some (n+1))]),(2,[.map (some (n+2))])]++[.map #[⟨.int .i64 1,.int .u8 53,0⟩,⟨.int .i64 2,.int .u8 48,1⟩,⟨.int .i64 3,.int .u8 50,2⟩,⟨.int .i64 4,.int .u8 54,3⟩] 4,.map #[⟨.int .i64 1,.func (.func 156) #[] #[],0⟩,⟨.int .i64 2,.func (.func 157) #[] #[],1⟩,⟨.int .i64 3,.func (.func 158) #[] #[],2⟩] 3,.map #[⟨.string ⟨#[99,104,107,115,117,109]⟩,.agg #[.int .i64 148,.int .i64 8],0⟩,⟨.string ⟨#[100,101,118,109,97,106,111,114]⟩,.agg #[.int .i64 329,.int .i64 8],1⟩,⟨.string ⟨#[100,101,118,109,105,110,111,114]⟩,.agg #[.int .i64 337,.int .i64 8],2⟩,⟨.string ⟨#[103,105,100]⟩,.agg #[.int .i64 116,.int .i64 8],3⟩,⟨.string ⟨#[103,110,97,109,101]⟩,.agg #[.int .i64 297,.int .i64 32],4⟩,⟨.string ⟨#[108,105,110,107,110,97,109,101]⟩,.agg #[.int .i64 157,.int .i64 100],5⟩,⟨.string ⟨#[109,97,103,105,99]⟩,.agg #[.int .i64 257,.int .i64 6],6⟩,⟨.string ⟨#[109,111,100,101]⟩,.agg #[.int .i64 100,.int .i64 8],7⟩,⟨.string ⟨#[109,116,105,109,101]⟩,.agg #[.int .i64 136,.int .i64 12],8⟩,⟨.string ⟨#[110,97,109,101]⟩,.agg #[.int .i64 0,.int .i64 100],9⟩,⟨.string ⟨#[112,114,101,102,105,120]⟩,.agg #[.int .i64 345,.int .i64 155],10⟩,⟨.string ⟨#[115,105,122,101]⟩,.agg #[.int .i64 124,.int .i64 12],11⟩,⟨.string ⟨#[116,121,112,101]⟩,.agg #[.int .i64 156,.int .i64 1],12⟩,⟨.string ⟨#[117,105,100]⟩,.agg #[.int .i64 108,.int .i64 8],13⟩,⟨.string ⟨#[117,110,97,109,101]⟩,.agg #[.int .i64 265,.int .i64 32],14⟩,⟨.string ⟨#[118,101,114,115,105,111,110]⟩,.agg #[.int .i64 263,.int .i64 2],15⟩] 16]⟩}
noncomputable abbrev Zc6:List String:=["math/bits.deBruijn32tab", "math/bits.deBruijn64tab", "internal/strconv.uint64pow10", "unicode/utf8.acceptRanges", "unicode/utf8.first"]
noncomputable def MK(os:Os):World:=(ML os).layVars Tryz.prog (Rows.tarPutsRow.laid.filter λx=>Zc6.contains x.1)
theorem fZ(os:Os)(args:Array Value):laidMetH Tryz.prog Rows.tarPutsRow.laid ((MK os).forCall (λ_ _=>0) ⟨#[],args,[]⟩).memory:=by
 have hw:((MK os).forCall (λ_ _=>0) ⟨#[],args,[]⟩).memory.heap=(MK os).heap:=by simp[World.memory,World.forCall,Input.heap]
 refine laidMetH_of_parts3 (fuel:=12) ?_ (by kernel_rfl) (by kernel_rfl)
 refine(laidMet_layVars (P:=Tryz.prog) (laid:=(Rows.tarPutsRow.laid.filter λx=>x.2.handleName?.isNone)) (w0:=ML os) (w':=MK os) Zc6 [0,((ML os).heap.size - 3),2,((ML os).heap.size - 1)] ?_ (by kernel_rfl) (by kernel_rfl) (LaidIn.of_run [0,((ML os).heap.size - 3),2,((ML os).heap.size - 1)] 12 (by kernel_rfl) (by kernel_rfl) (by kernel_rfl) (by kernel_rfl))).of_heap hw.symm
 kernel_rfl
theorem uP{P:Program}{W:World}{r:Reach}{base:Nat}{t e:TypeId}{v:Value}(ht:P.underlying t=some (.slice e))(hok:Value.okWide P W r base t v):v.cells.toList=[v]:=by
 unfold Value.okWide at hok
 rw[ht] at hok
 cases v with
 |agg cs=>exfalso;simp[Cell.okWide,Cell.ok,ht] at hok
 |_=>rfl
theorem Zcj(σ:Mp)(a:Int):Yn σ (.int .i64 a) (.int .i64 a):=by
 unfold Yn
 rfl
theorem mZ{W:World}(hL:laidMetH Tryz.prog Rows.tarPutsRow.laid W){H:Type}{enc:TypeId×Value->H}{base:Nat}{v0 v1:Value}{d0:DataW H}{p0:List MemPlace}
  (k0:Value.okWide Tryz.prog W .any base 22 v0)(k1:Value.okWide Tryz.prog W .any base 3 v1)(t0:DataW.Trod enc Tryz.prog W 0 (λ_=>true) true 22 v0 d0 p0):
  Calls Tryz.prog 3 #[v0,v1] W λe W'=>e=.returned (.bool true)∧W'.os=W.os∧W'.output=W.output∧ ∀i,i<W.heap.size->W'.heap[i]? =W.heap[i]? :=by
 obtain⟨σ,e,hs⟩:=bS hL
 obtain⟨z1,rfl,b1⟩:=ZaX Tryz.underlying3 k1
 obtain⟨av,ws,n1,hA,hl⟩:=nt Zgp t0 100
 rw[uP Tryz.underlying22 k0] at hA
 obtain⟨hs',hb,hr,htold⟩:=tT (n:=100) hs (λb o h=>⟨(xK e b o h).1,(xK e b o h).2.2⟩) hA
 match av,hl with
 |[v],_=>
  have ht0:ZgW ⟨n1,Hn (H0 e).t ws,n1⟩ (.sl vX) v:=htold 0 _ _ rfl rfl
  obtain⟨H',run⟩:=ek (e:=e) hb (Zp _) ht0 (z:=z1)
  obtain⟨fn,h1,h2,h3,_⟩:=Co 3 c3 (by kernel_rfl)
  obtain⟨c,hc⟩:=VM.1 h3
  obtain⟨w',l',q1,q2,q3⟩:=hr.cons_inv
  obtain⟨rfl,rfl⟩:v0=w'∧[]=l':=by simpa using q3
  exact kw ZfC h1 h2 hc hs' (Zcw hs' (Zp _)) (vs:=[v0,.int .i64 z1]) (Ww q1 (Ww (Zcj _ z1) q2)) run
theorem own:ownKnob Tryz.prog.godebug=none:=by kernel_rfl
theorem ZfH(os:Os)(started:os.Started)(H:Type)(enc:TypeId×Value->H):
  ReturnsInHanded {} Tryz.checked os 3 .any (λw args=>(Rows.tarPutsSpec.pre enc Tryz.prog Tryz.f3 [] false w args∧laidMetH Tryz.prog Rows.tarPutsRow.laid w)∧sizedMet enc Tryz.prog Tryz.f3 (OpenSpec.ofChange Rows.tarPutsSpec) false w args)
   (Rows.tarPutsSpec.post enc Tryz.prog Tryz.f3 false true false false):=by
 refine returnsInHanded_of_change_and (C:=Tryz.checked) (X:=λw _=>laidMetH Tryz.prog Rows.tarPutsRow.laid w) (λ_ _ _ hh h=>h.of_heap hh) own started (by kernel_rfl) Tryz.func3
  (ChangeSpec.witness_shaped (enc:=enc) (C:=Tryz.checked) (os:=os) (X:=λw _=>laidMetH Tryz.prog Rows.tarPutsRow.laid w) false (MK os) #[.slice none 0 0,.int .i64 0] 8 rfl
   (World.shaped_of_ZipB (by kernel_rfl) (by kernel_rfl)) (by kernel_rfl) (by kernel_rfl) (by kernel_rfl)
   (fZ os _)) ?_
 intro W base args ds gs before hval0 hW _ _ hL _
 have hval: ∀(j:Nat) t v,Tryz.f3.params[j]? =some t->args[j]? =some v->Value.okWide Tryz.prog W .any base t v:=hval0
 have hW':=hW
 obtain⟨p,q,y2,hV,rfl,_,_⟩:=hW
 have hA:DataW.TrodAll enc Tryz.prog W 0 (λ_=>true) true Tryz.f3.params.toList args.toList ds p:=y2
 rw[Tryz.params3] at hA hval
 obtain⟨v0,v1,d0,d1,p0,p1,rfl,rfl,rfl,t0,t1⟩:=Go.ChangeShapes.trodAll_two hA
 obtain⟨rfl,rfl⟩:=trodVars_none hV
 refine(mZ hL (hval 0 22 v0 rfl rfl) (hval 1 3 v1 rfl rfl) t0).mono λe W' ⟨he,h1,h2,h3⟩=>?_
 subst he
 refine⟨_,rfl,eh (tb:=4) (by kernel_rfl) (λt ht=>?_) rfl (by kernel_rfl) Tryz.underlying4 hW' rfl rfl rfl h1 h2 h3⟩
 have hp: ∀t∈Tryz.f3.params.toList,t=22∨t=3:=by rw[Tryz.params3];simp
 rcases hp t ht with rfl|rfl
 ·exact⟨by kernel_rfl,Zm (by kernel_rfl)⟩
 ·exact⟨by kernel_rfl,Zm (by kernel_rfl)⟩
end Go.Proofs.YtdogcjobgcckbaaGreatDoor
