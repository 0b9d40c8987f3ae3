/- The law TarSums returns true: proved, under its row's condition. -/
import Derived.Test.YtbmdhpdcgbgcnaaGreatDoorTN
import Derived.Test.YtbmdhpdcgbgcnaaGreatDoorP6
import Derived.Carry
set_option maxRecDepth 1000000
set_option maxHeartbeats 0
set_option linter.unusedVariables false
set_option linter.unusedSimpArgs false
namespace Go.Proofs.YtbmdhpdcgbgcnaaGreatDoor
open Go.ChangeShapes Go.WideShapes Go.ChangeAt Go.RowKit Go.AI
noncomputable def PE(os:Os):World:=let w:=World.holding Tryz.prog os ⟨#[], #[],[]⟩;let n:=w.heap.size
 {w with heap:=⟨Lay.setRows w.heap.toList [(0,[.map (some (n+0))]),(1,[.map (some (n+1))]),(2,[.map (some (n+2))]),(3,[.map (some (n+3))])]++[.map #[⟨.int .i64 1,.int .u8 53,0⟩,⟨.int .i64 2,.int .u8 48,1⟩,⟨.int .i64 3,.int .u8 50,2⟩,⟨.int .i64 4,.int .u8 54,3⟩] 4,.map #[⟨.int .u8 0,.int .i64 2,0⟩,⟨.int .u8 48,.int .i64 2,1⟩,⟨.int .u8 50,.int .i64 3,2⟩,⟨.int .u8 53,.int .i64 1,3⟩,⟨.int .u8 54,.int .i64 4,4⟩] 5,.map #[⟨.int .i64 1,.func (.func 225) #[] #[],0⟩,⟨.int .i64 2,.func (.func 226) #[] #[],1⟩,⟨.int .i64 3,.func (.func 227) #[] #[],2⟩] 3,.map #[⟨.string ⟨#[99,104,107,115,117,109]⟩,.agg #[.int .i64 148,.int .i64 8],0⟩,⟨.string ⟨#[100,101,118,109,97,106,111,114]⟩,.agg #[.int .i64 329,.int .i64 8],1⟩,⟨.string ⟨#[100,101,118,109,105,110,111,114]⟩,.agg #[.int .i64 337,.int .i64 8],2⟩,⟨.string ⟨#[103,105,100]⟩,.agg #[.int .i64 116,.int .i64 8],3⟩,⟨.string ⟨#[103,110,97,109,101]⟩,.agg #[.int .i64 297,.int .i64 32],4⟩,⟨.string ⟨#[108,105,110,107,110,97,109,101]⟩,.agg #[.int .i64 157,.int .i64 100],5⟩,⟨.string ⟨#[109,97,103,105,99]⟩,.agg #[.int .i64 257,.int .i64 6],6⟩,⟨.string ⟨#[109,111,100,101]⟩,.agg #[.int .i64 100,.int .i64 8],7⟩,⟨.string ⟨#[109,116,105,109,101]⟩,.agg #[.int .i64 136,.int .i64 12],8⟩,⟨.string ⟨#[110,97,109,101]⟩,.agg #[.int .i64 0,.int .i64 100],9⟩,⟨.string ⟨#[112,114,101,102,105,120]⟩,.agg #[.int .i64 345,.int .i64 155],10⟩,⟨.string ⟨#[115,105,122,101]⟩,.agg #[.int .i64 124,.int .i64 12],11⟩,⟨.string ⟨#[116,121,112,101]⟩,.agg #[.int .i64 156,.int .i64 1],12⟩,⟨.string ⟨#[117,105,100]⟩,.agg #[.int .i64 108,.int .i64 8],13⟩,⟨.string ⟨#[117,110,97,109,101]⟩,.agg #[.int .i64 265,.int .i64 32],14⟩,⟨.string ⟨#[118,101,114,115,105,111,110]⟩,.agg #[.int .i64 263,.int .i64 2],15⟩] 16]⟩}
noncomputable abbrev ah:List String:=["math/bits.deBruijn32tab", "math/bits.deBruijn64tab", "internal/strconv.uint64pow10", "unicode/utf8.acceptRanges", "strconv.ErrRange", "strconv.ErrSyntax", "unicode/utf8.first"]
noncomputable def NL(os:Os):World:=(PE os).layVars Tryz.prog (Rows.tarSumsRow.laid.filter λx=>ah.contains x.1)
theorem kJ(os:Os)(args:Array Value):laidMetH Tryz.prog Rows.tarSumsRow.laid ((NL os).forCall (λ_ _=>0) ⟨#[],args,[]⟩).memory:=by
 have hw:((NL os).forCall (λ_ _=>0) ⟨#[],args,[]⟩).memory.heap=(NL os).heap:=by simp[World.memory,World.forCall,Input.heap]
 refine laidMetH_of_parts3 (fuel:=12) ?_ (by kernel_rfl) (by kernel_rfl)
 refine(laidMet_layVars (P:=Tryz.prog) (laid:=(Rows.tarSumsRow.laid.filter λx=>x.2.handleName?.isNone)) (w0:=PE os) (w':=NL os) ah [0,((PE os).heap.size - 4),1,((PE os).heap.size - 3),3,((PE os).heap.size - 1)] ?_ (by kernel_rfl) (by kernel_rfl) (LaidIn.of_run [0,((PE os).heap.size - 4),1,((PE os).heap.size - 3),3,((PE os).heap.size - 1)] 12 (by kernel_rfl) (by kernel_rfl) (by kernel_rfl) (by kernel_rfl))).of_heap hw.symm
 kernel_rfl
theorem ZcZ{z:Int}(h:IntKind.u8.has z): ∃a:Nat,z=.ofNat a∧a<256:=by
 have h1:0<=z∧z<=255:=by simpa [IntKind.has,IntKind.min,IntKind.max,IntKind.signed,IntKind.bits] using h
 exact⟨z.toNat,by show z=(z.toNat:Int);omega,by omega⟩
theorem bJ{z:Int}(h:IntKind.u16.has z): ∃a:Nat,z=.ofNat a∧a<65536:=by
 have h1:0<=z∧z<=65535:=by simpa [IntKind.has,IntKind.min,IntKind.max,IntKind.signed,IntKind.bits] using h
 exact⟨z.toNat,by show z=(z.toNat:Int);omega,by omega⟩
theorem X3(σ:Mp)(k:IntKind)(a:Int):YU σ (.int k a) (.int k a):=by
 unfold YU
 rfl
theorem pz{W:World}(hL:laidMetH Tryz.prog Rows.tarSumsRow.laid W){H:Type}{enc:TypeId×Value->H}{base:Nat}{v0 v1 v2:Value}{d0:DataW H}{p0:List MemPlace}
  (k0:Value.okWide Tryz.prog W .any base 28 v0)(k1:Value.okWide Tryz.prog W .any base 29 v1)(k2:Value.okWide Tryz.prog W .any base 5 v2)(t0:DataW.Trod enc Tryz.prog W 0 (λ_=>true) true 28 v0 d0 p0):
  Calls Tryz.prog 3 #[v0,v1,v2] W λe W'=>e=.returned (.bool true)∧W'.os=W.os∧W'.output=W.output∧ ∀i,i<W.heap.size->W'.heap[i]? =W.heap[i]? :=by
 obtain⟨σ,e,hs⟩:=i9 hL
 obtain⟨cs,rfl⟩:=gV Tryz.underlying28 k0
 obtain⟨z1,rfl,b1⟩:=re Tryz.underlying29 k1
 obtain⟨z2,rfl,b2⟩:=re Tryz.underlying5 k2
 obtain⟨a1,rfl,h1a⟩:=bJ b1
 obtain⟨a2,rfl,h2a⟩:=ZcZ b2
 obtain⟨av,ws,n1,hA,hl⟩:=qk ZcN t0 100
 obtain⟨hs',hb,hr,htold⟩:=vx (n:=100) hs (λb o h=>⟨(zV e b o h).1,(zV e b o h).2.2⟩) hA
 have h9:av.length=9:=hl
 have ht0: ∀(j:Nat) s,xF[j]? =some s->Zdr ⟨n1,Ju (H0 e).t ws,n1⟩ s (av.getD j .unk):=λj s hj=>by
  have hlt:j<xF.length:=(Vg.1 hj).1
  exact htold j s _ hj (by rw[Zh,Zp (by omega)];rfl)
 obtain⟨H',run⟩:=kL (e:=e) hb (Zz _) h9 ht0 h1a h2a
 obtain⟨fn,h1,h2,h3,_⟩:=EP 3 c3 (by kernel_rfl)
 obtain⟨c,hc⟩:=VM.1 h3
 exact oA Zb3 h1 h2 hc hs' (br hs' (Zz _)) (vs:=[.agg cs,.int .u16 (.ofNat a1),.int .u8 (.ofNat a2)]) (WB (ie hr hA.onev) (WB (X3 _ _ _) (V2 (X3 _ _ _)))) run
theorem own:ownKnob Tryz.prog.godebug=none:=by kernel_rfl
theorem Zb6(os:Os)(started:os.Started)(H:Type)(enc:TypeId×Value->H):
  ReturnsInHanded {} Tryz.checked os 3 .any (λw args=>(Rows.tarSumsSpec.pre enc Tryz.prog Tryz.f3 [] false w args∧laidMetH Tryz.prog Rows.tarSumsRow.laid w)∧sizedMet enc Tryz.prog Tryz.f3 (OpenSpec.ofChange Rows.tarSumsSpec) false w args)
   (Rows.tarSumsSpec.post enc Tryz.prog Tryz.f3 false true false false):=by
 refine returnsInHanded_of_change_and (C:=Tryz.checked) (X:=λw _=>laidMetH Tryz.prog Rows.tarSumsRow.laid w) (λ_ _ _ hh h=>h.of_heap hh) own started (by kernel_rfl) Tryz.func3
  (ChangeSpec.witness_shaped (enc:=enc) (C:=Tryz.checked) (os:=os) (X:=λw _=>laidMetH Tryz.prog Rows.tarSumsRow.laid w) false (NL os) #[.agg #[.string ⟨#[]⟩,.int .i64 0,.int .u32 0,.int .u32 0,.int .u32 0,.int .i64 0,.slice none 0 0,.slice none 0 0,.string ⟨#[]⟩],.int .u16 0,.int .u8 0] 8 rfl
   (World.shaped_of_ZipB (by kernel_rfl) (by kernel_rfl)) (by kernel_rfl) (by kernel_rfl) (by kernel_rfl)
   (kJ os _)) ?_
 intro W base args ds gs before hval0 hW _ _ hL _
 have hval: ∀(j:Nat) t v,Tryz.f3.params[j]? =some t->args[j]? =some v->Value.okWide Tryz.prog W .any base t v:=hval0
 have hW':=hW
 obtain⟨p,q,hA0,hV,rfl,_,_⟩:=hW
 have hA:DataW.TrodAll enc Tryz.prog W 0 (λ_=>true) true Tryz.f3.params.toList args.toList ds p:=hA0
 rw[Tryz.params3] at hA hval
 obtain⟨v0,v1,v2,d0,d1,d2,p0,p1,p2,rfl,rfl,rfl,t0,t1,t2⟩:=Go.AI.trodAll_three hA
 obtain⟨rfl,rfl⟩:=trodVars_none hV
 refine(pz hL (hval 0 28 v0 rfl rfl) (hval 1 29 v1 rfl rfl) (hval 2 5 v2 rfl rfl) t0).mono λe W' ⟨he,h1,h2,h3⟩=>?_
 subst he
 refine⟨_,rfl,kK (tb:=4) (by kernel_rfl) (λt ht=>?_) rfl (by kernel_rfl) Tryz.underlying4 hW' rfl rfl rfl h1 h2 h3⟩
 have hp: ∀t∈Tryz.f3.params.toList,t=28∨t=29∨t=5:=by rw[Tryz.params3];simp
 rcases hp t ht with rfl|rfl|rfl
 ·exact⟨by kernel_rfl,Zm (by kernel_rfl)⟩
 ·exact⟨by kernel_rfl,Zm (by kernel_rfl)⟩
 ·exact⟨by kernel_rfl,Zm (by kernel_rfl)⟩
end Go.Proofs.YtbmdhpdcgbgcnaaGreatDoor
