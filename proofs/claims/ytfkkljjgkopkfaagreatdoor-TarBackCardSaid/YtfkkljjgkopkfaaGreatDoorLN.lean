/- The law TarBack returns true: proved, under its row's condition. -/
import Derived.Test.YtfkkljjgkopkfaaGreatDoorTN
import Derived.Test.YtfkkljjgkopkfaaGreatDoorP6
import Derived.Carry
set_option maxRecDepth 1000000
set_option maxHeartbeats 0
set_option linter.all false
namespace Go.Proofs.YtfkkljjgkopkfaaGreatDoor
open Go.ChangeShapes Go.WideShapes Go.ChangeAt Go.RowKit Go.AI
noncomputable def Ov(os:Os):World:=let w:=World.holding Tryz.prog os ⟨#[], #[],[]⟩;let n:=w.heap.size
 {w with heap:=⟨Lay.setRows w.heap.toList [(0,[.map (some (n+0))]),(1,[.map (some (n+1))]),(2,[.map (some (n+2))]),(3,[.map (some (n+3))])]++[.map #[⟨.int .i64 1,.int .u8 53,0⟩,⟨.int .i64 2,.int .u8 48,1⟩,⟨.int .i64 3,.int .u8 50,2⟩,⟨.int .i64 4,.int .u8 54,3⟩] 4,.map #[⟨.int .i64 1,.func (.func 227) #[] #[],0⟩,⟨.int .i64 2,.func (.func 228) #[] #[],1⟩,⟨.int .i64 3,.func (.func 229) #[] #[],2⟩] 3,.map #[⟨.int .u8 0,.int .i64 2,0⟩,⟨.int .u8 48,.int .i64 2,1⟩,⟨.int .u8 50,.int .i64 3,2⟩,⟨.int .u8 53,.int .i64 1,3⟩,⟨.int .u8 54,.int .i64 4,4⟩] 5,.map #[⟨.string ⟨#[99,104,107,115,117,109]⟩,.agg #[.int .i64 148,.int .i64 8],0⟩,⟨.string ⟨#[100,101,118,109,97,106,111,114]⟩,.agg #[.int .i64 329,.int .i64 8],1⟩,⟨.string ⟨#[100,101,118,109,105,110,111,114]⟩,.agg #[.int .i64 337,.int .i64 8],2⟩,⟨.string ⟨#[103,105,100]⟩,.agg #[.int .i64 116,.int .i64 8],3⟩,⟨.string ⟨#[103,110,97,109,101]⟩,.agg #[.int .i64 297,.int .i64 32],4⟩,⟨.string ⟨#[108,105,110,107,110,97,109,101]⟩,.agg #[.int .i64 157,.int .i64 100],5⟩,⟨.string ⟨#[109,97,103,105,99]⟩,.agg #[.int .i64 257,.int .i64 6],6⟩,⟨.string ⟨#[109,111,100,101]⟩,.agg #[.int .i64 100,.int .i64 8],7⟩,⟨.string ⟨#[109,116,105,109,101]⟩,.agg #[.int .i64 136,.int .i64 12],8⟩,⟨.string ⟨#[110,97,109,101]⟩,.agg #[.int .i64 0,.int .i64 100],9⟩,⟨.string ⟨#[112,114,101,102,105,120]⟩,.agg #[.int .i64 345,.int .i64 155],10⟩,⟨.string ⟨#[115,105,122,101]⟩,.agg #[.int .i64 124,.int .i64 12],11⟩,⟨.string ⟨#[116,121,112,101]⟩,.agg #[.int .i64 156,.int .i64 1],12⟩,⟨.string ⟨#[117,105,100]⟩,.agg #[.int .i64 108,.int .i64 8],13⟩,⟨.string ⟨#[117,110,97,109,101]⟩,.agg #[.int .i64 265,.int .i64 32],14⟩,⟨.string ⟨#[118,101,114,115,105,111,110]⟩,.agg #[.int .i64 263,.int .i64 2],15⟩] 16]⟩}
noncomputable abbrev ZfG:List String:=["math/bits.deBruijn32tab", "math/bits.deBruijn64tab", "internal/strconv.uint64pow10", "unicode/utf8.acceptRanges", "strconv.ErrRange", "strconv.ErrSyntax", "unicode/utf8.first"]
noncomputable def M6(os:Os):World:=(Ov os).layVars Tryz.prog (Rows.tarBackRow.laid.filter λx=>ZfG.contains x.1)
def Zax(os:Os)(args:Array Value):laidMetH Tryz.prog Rows.tarBackRow.laid ((M6 os).forCall (λ_ _=>0) ⟨#[],args,[]⟩).memory:=by
 have hw:((M6 os).forCall (λ_ _=>0) ⟨#[],args,[]⟩).memory.heap=(M6 os).heap:=by simp[World.memory,World.forCall,Input.heap]
 refine @laidMetH_of_parts3 _ _ _ 12 ?_ (by kernel_rfl) (by kernel_rfl);refine(laidMet_layVars (P:=Tryz.prog) (laid:=(Rows.tarBackRow.laid.filter λx=>x.2.handleName?.isNone)) (w0:=Ov os) (w':=M6 os) ZfG [0,((Ov os).heap.size - 4),2,((Ov os).heap.size - 2),3,((Ov os).heap.size - 1)] ?_ (by kernel_rfl) (by kernel_rfl) (LaidIn.of_run [0,((Ov os).heap.size - 4),2,((Ov os).heap.size - 2),3,((Ov os).heap.size - 1)] 12 (by kernel_rfl) (by kernel_rfl) (by kernel_rfl) (by kernel_rfl))).of_heap hw.symm
 kernel_rfl
def DP{P:Program}{W:World}{r:Reach}{base:Nat}{t e:TypeId}{v:Value}(ht:P.underlying t=some (.slice e))(hok:Value.okWide P W r base t v):v.cells.toList=[v]:=by
 unfold Value.okWide at hok;rw[ht] at hok;cases v with
 |agg cs=>exfalso;simp[Cell.okWide,Cell.ok,ht] at hok
 |_=>rfl
def Zfm{z:Int}(h:IntKind.u16.has z): ∃a:Nat,z=.ofNat a∧a<65536:=by
 have h1:0<=z∧z<=65535:=by simpa [IntKind.has,IntKind.min,IntKind.max,IntKind.signed,IntKind.bits] using h
 exact⟨z.toNat,by show z=(z.toNat:Int);omega,by omega⟩
def XX(σ:Mp)(k:IntKind)(a:Int):Ym σ (.int k a) (.int k a):=by
 unfold Ym;rfl
def fV{W:World}(hL:laidMetH Tryz.prog Rows.tarBackRow.laid W){H:Type}{enc:TypeId×Value->H}{base:Nat}{v0 v1 v2:Value}{d0 d1:DataW H}{p0 p1:List MemPlace}
  (k0:Value.okWide Tryz.prog W .any base 22 v0)(k1:Value.okWide Tryz.prog W .any base 23 v1)(k2:Value.okWide Tryz.prog W .any base 24 v2)(t0:DataW.Trod enc Tryz.prog W 0 (λ_=>true) true 22 v0 d0 p0)(t1:DataW.Trod enc Tryz.prog W 0 (λ_=>true) true 23 v1 d1 p1):
  Calls Tryz.prog 3 #[v0,v1,v2] W λe W'=>e=.returned (.bool true)∧W'.os=W.os∧W'.output=W.output∧ ∀i,i<W.heap.size->W'.heap[i]? =W.heap[i]? :=by
 obtain⟨σ,e,hs⟩:=Zcf hL;obtain⟨z2,rfl,b2⟩:=ZdZ Tryz.underlying24 k2;obtain⟨a2,rfl,h2a⟩:=Zfm b2;obtain⟨av,ws,n1,hA,hl⟩:=ym Zjn t0 100;rw[DP Tryz.underlying22 k0] at hA;obtain⟨av2,ws2,n2,hA2,hl2⟩:=ym Zjo t1 n1;rw[DP Tryz.underlying23 k1] at hA2;obtain⟨hs',hb,hr,htold⟩:=oP (n:=100) hs (λb o h=>⟨(Zby e b o h).1,(Zby e b o h).2.2⟩) (hA.app hl hA2)
 match av,hl,av2,hl2 with
 |[v],hl,[w],hl2=>
  have ht0:Zfx ⟨n2,I8 (H0 e).t (ws++ws2),n2⟩ (.sl qn) v:=htold 0 _ _ rfl rfl;have ht1:Zfx ⟨n2,I8 (H0 e).t (ws++ws2),n2⟩ (.sl [.int .u8]) w:=htold 1 _ _ rfl rfl;obtain⟨H',run⟩:=ZaB (e:=e) hb (Zs _) ht0 ht1 h2a;obtain⟨fn,h1,h2,h3,_⟩:=vQ 3 c3 (by kernel_rfl);obtain⟨c,hc⟩:=Tc.1 h3;have at_: ∀b x,(b,x)∈ws++ws2->KE σ (ws++ws2) b=some x.loc:=λb x h=>by unfold KE;rw[GQ h (hA.app hl hA2).nd]
  obtain⟨w',l',q1,q2,q3⟩:=hr.cons_inv;obtain⟨rfl,rfl⟩:v0=w'∧[v1]=l':=by simpa using q3
  obtain⟨w'',l'',q4,q5,q6⟩:=q2.cons_inv;obtain⟨rfl,rfl⟩:v1=w''∧[]=l'':=by simpa using q6
  exact dh Zip h1 h2 hc hs' (Ze9 hs' (Zs _)) (vs:=[v0,v1,.int .u16 (.ofNat a2)]) (Vr q1 (Vr q4 (U4 (XX _ _ _)))) run
def own:ownKnob Tryz.prog.godebug=none:=by kernel_rfl
def Zit(os:Os)(started:os.Started)(H:Type)(enc:TypeId×Value->H):
  ReturnsInHanded {} Tryz.checked os 3 .any (λw args=>(Rows.tarBackSpec.pre enc Tryz.prog Tryz.f3 [] false w args∧laidMetH Tryz.prog Rows.tarBackRow.laid w)∧sizedMet enc Tryz.prog Tryz.f3 (OpenSpec.ofChange Rows.tarBackSpec) false w args)
   (Rows.tarBackSpec.post enc Tryz.prog Tryz.f3 false true false false):=by
 refine returnsInHanded_of_change_and (C:=Tryz.checked) (X:=λw _=>laidMetH Tryz.prog Rows.tarBackRow.laid w) (λ_ _ _ hh h=>h.of_heap hh) own started (by kernel_rfl) Tryz.func3
  (ChangeSpec.witness_shaped (enc:=enc) (C:=Tryz.checked) (os:=os) (X:=λw _=>laidMetH Tryz.prog Rows.tarBackRow.laid w) false (M6 os) #[.slice none 0 0,.slice none 0 0,.int .u16 0] 8 rfl
   (World.shaped_of_ZipB (by kernel_rfl) (by kernel_rfl)) (by kernel_rfl) (by kernel_rfl) (by kernel_rfl)
   (Zax os _)) ?_
 intro W base args ds gs before hval0 hW _ _ hL _;have hval: ∀(j:Nat) t v,Tryz.f3.params[j]? =some t->args[j]? =some v->Value.okWide Tryz.prog W .any base t v:=hval0;have hW':=hW;obtain⟨p,q,hA0,hV,rfl,_,_⟩:=hW;have hA:DataW.TrodAll enc Tryz.prog W 0 (λ_=>true) true Tryz.f3.params.toList args.toList ds p:=hA0;rw[Tryz.params3] at hA hval;obtain⟨v0,v1,v2,d0,d1,d2,p0,p1,p2,rfl,rfl,rfl,t0,t1,t2⟩:=Go.AI.trodAll_three hA;obtain⟨rfl,rfl⟩:=trodVars_none hV;refine(fV hL (hval 0 22 v0 rfl rfl) (hval 1 23 v1 rfl rfl) (hval 2 24 v2 rfl rfl) t0 t1).mono λe W' ⟨he,h1,h2,h3⟩=>?_;subst he;refine⟨_,rfl,ZaA (tb:=4) (by kernel_rfl) (λt ht=>?_) rfl (by kernel_rfl) Tryz.underlying4 hW' rfl rfl rfl h1 h2 h3⟩;have hp: ∀t∈Tryz.f3.params.toList,t=22∨t=23∨t=24:=by rw[Tryz.params3];simp
 rcases hp t ht with rfl|rfl|rfl
 ·exact⟨by kernel_rfl,Zr (by kernel_rfl)⟩
 ·exact⟨by kernel_rfl,Zr (by kernel_rfl)⟩
 ·exact⟨by kernel_rfl,Zr (by kernel_rfl)⟩
end Go.Proofs.YtfkkljjgkopkfaaGreatDoor
