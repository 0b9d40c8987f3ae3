/- The law ChunkChecks returns true: proved, under its row's condition. -/
import Derived.Test.YtlaambpobnkkbaaGreatDoorTN
import Derived.Test.YtlaambpobnkkbaaGreatDoorP6
import Derived.Carry
set_option maxRecDepth 1000000
set_option maxHeartbeats 0
set_option linter.unusedVariables false
set_option linter.unusedSimpArgs false
namespace Go.Proofs.YtlaambpobnkkbaaGreatDoor
open Go.ChangeShapes Go.WideShapes Go.ChangeAt Go.RowKit Go.AI
noncomputable def M8(os:Os):World:=let w:=World.holding Tryz.prog os ⟨#[], #[],[]⟩;let n:=w.heap.size
 {w with heap:=⟨Lay.setRows w.heap.toList [(0,[.map (some (n+0))]),(1,[.map (some (n+1))]),(5,[.map (some (n+2))])]++[.map #[⟨.int .i64 1,.func (.func 172) #[] #[],0⟩,⟨.int .i64 2,.func (.func 173) #[] #[],1⟩,⟨.int .i64 3,.func (.func 174) #[] #[],2⟩] 3,.map #[⟨.int .i64 1,.int .u8 53,0⟩,⟨.int .i64 2,.int .u8 48,1⟩,⟨.int .i64 3,.int .u8 50,2⟩,⟨.int .i64 4,.int .u8 54,3⟩] 4,.map #[⟨.string ⟨#[99,104,107,115,117,109]⟩,.agg #[.int .i64 148,.int .i64 8],0⟩,⟨.string ⟨#[100,101,118,109,97,106,111,114]⟩,.agg #[.int .i64 329,.int .i64 8],1⟩,⟨.string ⟨#[100,101,118,109,105,110,111,114]⟩,.agg #[.int .i64 337,.int .i64 8],2⟩,⟨.string ⟨#[103,105,100]⟩,.agg #[.int .i64 116,.int .i64 8],3⟩,⟨.string ⟨#[103,110,97,109,101]⟩,.agg #[.int .i64 297,.int .i64 32],4⟩,⟨.string ⟨#[108,105,110,107,110,97,109,101]⟩,.agg #[.int .i64 157,.int .i64 100],5⟩,⟨.string ⟨#[109,97,103,105,99]⟩,.agg #[.int .i64 257,.int .i64 6],6⟩,⟨.string ⟨#[109,111,100,101]⟩,.agg #[.int .i64 100,.int .i64 8],7⟩,⟨.string ⟨#[109,116,105,109,101]⟩,.agg #[.int .i64 136,.int .i64 12],8⟩,⟨.string ⟨#[110,97,109,101]⟩,.agg #[.int .i64 0,.int .i64 100],9⟩,⟨.string ⟨#[112,114,101,102,105,120]⟩,.agg #[.int .i64 345,.int .i64 155],10⟩,⟨.string ⟨#[115,105,122,101]⟩,.agg #[.int .i64 124,.int .i64 12],11⟩,⟨.string ⟨#[116,121,112,101]⟩,.agg #[.int .i64 156,.int .i64 1],12⟩,⟨.string ⟨#[117,105,100]⟩,.agg #[.int .i64 108,.int .i64 8],13⟩,⟨.string ⟨#[117,110,97,109,101]⟩,.agg #[.int .i64 265,.int .i64 32],14⟩,⟨.string ⟨#[118,101,114,115,105,111,110]⟩,.agg #[.int .i64 263,.int .i64 2],15⟩] 16]⟩}
noncomputable abbrev Zcq:List String:=["math/bits.deBruijn32tab", "math/bits.deBruijn64tab", "internal/strconv.uint64pow10", "unicode/utf8.acceptRanges", "portolan/sha.constants", "portolan/sha.beginning", "unicode/utf8.first"]
noncomputable def M7(os:Os):World:=(M8 os).layVars Tryz.prog (Rows.chunkChecksRow.laid.filter λx=>Zcq.contains x.1)
theorem fq(os:Os)(args:Array Value):laidMetH Tryz.prog Rows.chunkChecksRow.laid ((M7 os).forCall (λ_ _=>0) ⟨#[],args,[]⟩).memory:=by
 have hw:((M7 os).forCall (λ_ _=>0) ⟨#[],args,[]⟩).memory.heap=(M7 os).heap:=by simp[World.memory,World.forCall,Input.heap]
 refine laidMetH_of_parts3 (fuel:=12) ?_ (by kernel_rfl) (by kernel_rfl)
 refine(laidMet_layVars (P:=Tryz.prog) (laid:=(Rows.chunkChecksRow.laid.filter λx=>x.2.handleName?.isNone)) (w0:=M8 os) (w':=M7 os) Zcq [1,((M8 os).heap.size - 2),5,((M8 os).heap.size - 1)] ?_ (by kernel_rfl) (by kernel_rfl) (LaidIn.of_run [1,((M8 os).heap.size - 2),5,((M8 os).heap.size - 1)] 12 (by kernel_rfl) (by kernel_rfl) (by kernel_rfl) (by kernel_rfl))).of_heap hw.symm
 kernel_rfl
theorem uG{P:Program}{W:World}{r:Reach}{base:Nat}{t e:TypeId}{v:Value}(ht:P.underlying t=some (.slice e))(hok:Value.okWide P W r base t v):v.cells.toList=[v]:=by
 unfold Value.okWide at hok
 rw[ht] at hok
 cases v with
 |agg cs=>exfalso;simp[Cell.okWide,Cell.ok,ht] at hok
 |_=>rfl
theorem mr{W:World}(hL:laidMetH Tryz.prog Rows.chunkChecksRow.laid W){H:Type}{enc:TypeId×Value->H}{base:Nat}{v0 v1 v2:Value}{d0 d2:DataW H}{p0 p2:List MemPlace}
  (k0:Value.okWide Tryz.prog W .any base 31 v0)(k1:Value.okWide Tryz.prog W .any base 3 v1)(k2:Value.okWide Tryz.prog W .any base 24 v2)(t0:DataW.Trod enc Tryz.prog W 0 (λ_=>true) true 31 v0 d0 p0)(t2:DataW.Trod enc Tryz.prog W 0 (λ_=>true) true 24 v2 d2 p2):
  Calls Tryz.prog 3 #[v0,v1,v2] W λe W'=>e=.returned (.bool true)∧W'.os=W.os∧W'.output=W.output∧ ∀i,i<W.heap.size->W'.heap[i]? =W.heap[i]? :=by
 obtain⟨σ,e,hs⟩:=cC hL
 obtain⟨cs,rfl⟩:=aj Tryz.underlying31 k0
 obtain⟨z1,rfl,b1⟩:=ZaG Tryz.underlying3 k1
 obtain⟨av,ws,n1,hA,hl⟩:=Av Zf7 t0 100
 obtain⟨av2,ws2,n2,hA2,hl2⟩:=Av Zf8 t2 n1
 rw[uG Tryz.underlying24 k2] at hA2
 obtain⟨hs',hb,hr,htold⟩:=tT (n:=100) hs (λb o h=>⟨(xN e b o h).1,(xN e b o h).2.2⟩) (hA.app hl hA2)
 match av2,hl2 with
 |[v],_=>
  have h12:av.length=12:=hl
  have Zmf:Cn.length=12:=rfl
  have rel:=hr
  have ht0: ∀(j:Nat) s,Cn[j]? =some s->Zci ⟨n2,Ii (H0 e).t (ws++ws2),n2⟩ s (av.getD j .unk):=λj s hj=>by
   have hlt:j<Cn.length:=(WN.1 hj).1
   refine htold j s _ (by rw[Z1 hlt];exact hj) ?_
   rw[Z1 (by omega),Ze,Zk (by omega)];rfl
  have ht2:Zci ⟨n2,Ii (H0 e).t (ws++ws2),n2⟩ (.sl [.int .u8]) v:=htold 12 _ _ (by rw[Z5 (by omega),Zmf];rfl) (by rw[Z5 (by omega),h12];rfl)
  obtain⟨H',run⟩:=fw (e:=e) hb (Zo _) h12 ht0 ht2 z1
  obtain⟨fn,h1,h2,h3,_⟩:=Cu 3 c3 (by kernel_rfl)
  obtain⟨c,hc⟩:=VT.1 h3
  have at_: ∀b x,(b,x)∈ws++ws2->Ly σ (ws++ws2) b=some x.loc:=λb x h=>by unfold Ly;rw[HE h (hA.app hl hA2).nd]
  have r0:=hA.rel (Ly σ (ws++ws2)) λb x h=>at_ b x (Zt.2 (.inl h))
  have r2:=hA2.rel (Ly σ (ws++ws2)) λb x h=>at_ b x (Zt.2 (.inr h))
  exact lB Zfl h1 h2 hc hs' (Zb1 hs' (Zo _)) (vs:=[.agg cs,.int .i64 z1,v2]) (Ww (dg r0 hA.onev) (Ww (by simp[Yk]) r2)) run
theorem own:ownKnob Tryz.prog.godebug=none:=by kernel_rfl
theorem Zft(os:Os)(started:os.Started)(H:Type)(enc:TypeId×Value->H):
  ReturnsInHanded {} Tryz.checked os 3 .any (λw args=>(Rows.chunkChecksSpec.pre enc Tryz.prog Tryz.f3 [] false w args∧laidMetH Tryz.prog Rows.chunkChecksRow.laid w)∧sizedMet enc Tryz.prog Tryz.f3 (OpenSpec.ofChange Rows.chunkChecksSpec) false w args)
   (Rows.chunkChecksSpec.post enc Tryz.prog Tryz.f3 false true false false):=by
 refine returnsInHanded_of_change_and (C:=Tryz.checked) (X:=λw _=>laidMetH Tryz.prog Rows.chunkChecksRow.laid w) (λ_ _ _ hh h=>h.of_heap hh) own started (by kernel_rfl) Tryz.func3
  (ChangeSpec.witness_shaped (enc:=enc) (C:=Tryz.checked) (os:=os) (X:=λw _=>laidMetH Tryz.prog Rows.chunkChecksRow.laid w) false (M7 os) #[.agg #[.string ⟨#[]⟩,.int .i64 0,.int .u32 0,.int .u32 0,.int .u32 0,.int .i64 0,.slice none 0 0,.slice none 0 0,.string ⟨#[]⟩,.int .i64 0,.int .i64 0,.slice none 0 0],.int .i64 0,.slice none 0 0] 8 rfl
   (World.shaped_of_ZipB (by kernel_rfl) (by kernel_rfl)) (by kernel_rfl) (by kernel_rfl) (by kernel_rfl)
   (fq os _)) ?_
 intro W base args ds gs before hval0 hW _ _ hL _
 have hval: ∀(j:Nat) t v,Tryz.f3.params[j]? =some t->args[j]? =some v->Value.okWide Tryz.prog W .any base t v:=hval0
 have hW':=hW
 obtain⟨p,q,hA0,hV,rfl,_,_⟩:=hW
 have hA:DataW.TrodAll enc Tryz.prog W 0 (λ_=>true) true Tryz.f3.params.toList args.toList ds p:=hA0
 rw[Tryz.params3] at hA hval
 obtain⟨v0,v1,v2,d0,d1,d2,p0,p1,p2,rfl,rfl,rfl,t0,t1,t2⟩:=Go.AI.trodAll_three hA
 obtain⟨rfl,rfl⟩:=trodVars_none hV
 refine(mr hL (hval 0 31 v0 rfl rfl) (hval 1 3 v1 rfl rfl) (hval 2 24 v2 rfl rfl) t0 t2).mono λe W' ⟨he,h1,h2,h3⟩=>?_
 subst he
 refine⟨_,rfl,ft (tb:=4) (by kernel_rfl) (λt ht=>?_) rfl (by kernel_rfl) Tryz.underlying4 hW' rfl rfl rfl h1 h2 h3⟩
 have hp: ∀t∈Tryz.f3.params.toList,t=31∨t=3∨t=24:=by rw[Tryz.params3];simp
 rcases hp t ht with rfl|rfl|rfl
 ·exact⟨by kernel_rfl,Zm (by kernel_rfl)⟩
 ·exact⟨by kernel_rfl,Zm (by kernel_rfl)⟩
 ·exact⟨by kernel_rfl,Zm (by kernel_rfl)⟩
end Go.Proofs.YtlaambpobnkkbaaGreatDoor
