/- What the condition of TocTouches says of the world: proved; the package-level variables that its row lists hold what the program's text lays. -/
import Derived.Test.YthhmkldnnnajhaaGreatDoorKN
import Derived.Test.YthhmkldnnnajhaaGreatDoorTie
import Derived.Test.YthhmkldnnnajhaaGreatDoorCards
import Derived.ProofKit
import Derived.OpenShut
import Derived.LaidMore
import Derived.Lay
import Derived.LaidHandle
import Derived.SevenTiedAt
import Derived.Stop.Joined
set_option maxRecDepth 1000000
set_option maxHeartbeats 0
set_option linter.unusedVariables false
set_option linter.unusedSimpArgs false
namespace Go.AI
open Go Go.Proofs Go.Proofs.YthhmkldnnnajhaaGreatDoor
noncomputable section
noncomputable abbrev Tz:=Tryz.prog
theorem rd9{W:World}:Si Tz W 9 1:=uv Tryz.underlying9
theorem bK{W:World}:Si Tz W 256 (5*1):=Pn Tryz.underlying256 (by kernel_rfl) (by kernel_rfl) rd9
theorem aL{W:World}:Si Tz W 5 1:=Dw Tryz.underlying5
theorem bL{W:World}:Si Tz W 395 (256*1):=Pn Tryz.underlying395 (by kernel_rfl) (by kernel_rfl) aL
theorem bM{W:World}:Si Tz W 397 2:=yo Tryz.underlying397 rfl rfl rfl rfl (by kernel_rfl) (by kernel_rfl) aL
theorem bN{W:World}:Si Tz W 398 (16*2):=Pn Tryz.underlying398 (by kernel_rfl) (by kernel_rfl) bM
theorem bJ{W:World}:Si Tz W 178 1:=Dw Tryz.underlying178
theorem bO{W:World}:Si Tz W 411 (20*1):=Pn Tryz.underlying411 (by kernel_rfl) (by kernel_rfl) bJ
theorem Zeu{W:World}:Si Tz W 52 (32*1):=Pn Tryz.underlying52 (by kernel_rfl) (by kernel_rfl) aL
theorem bP{W:World}:Si Tz W 450 (64*1):=Pn Tryz.underlying450 (by kernel_rfl) (by kernel_rfl) aL
theorem p9:1<=Tz.cellsOf 456:=ZB (by kernel_rfl)
theorem ss(u:TypeId)(h:Tz.typeName? 3 u=some "*errors.errorString"):u=454:=by
 have hlt:=Ex (P:=Tz) (name:= "*errors.errorString") (inner:= "errors.errorString") (by decide) (λm h=>by
  have h2: "errors.errorString".toList=("*" ++m).toList:=by rw[<-h]
  rw[String.toList_append] at h2
  cases h2) (by kernel_rfl) h
 have hall:((List.range Tz.types.size).all λu=>Tz.typeName? 3 u !=some "*errors.errorString" ||u==454)=true:=by kernel_rfl
 have h3:=Xw.1 hall u (SU.2 hlt)
 rw[h] at h3
 simpa using h3
noncomputable def sA(d:DataW (List UInt8)):AV:=match d with|.held n=>cond (n==Tryz.f427.name.toUTF8.data.toList) (.func 427 [] []) (cond (n==Tryz.f428.name.toUTF8.data.toList) (.func 428 [] []) (cond (n==Tryz.f429.name.toUTF8.data.toList) (.func 429 [] []) (.unk)))|_=>.unk
noncomputable def ov:List (DataW (List UInt8)):=[.held Tryz.f427.name.toUTF8.data.toList,.held Tryz.f428.name.toUTF8.data.toList,.held Tryz.f429.name.toUTF8.data.toList]
noncomputable def kE:DataW Unit:=match Rows.laid_portolan_path_classes with|.iface _ d=>d|_=>.nil
noncomputable def kF:List (Lit×DataW (List UInt8)):=match kE.funcsOut with|.map l=>l|_=>[]
theorem ow(d:DataW (List UInt8)){key:Lit}(h:(key,d)∈kF):d∈ov:=by
 have e:kF.map Prod.snd=ov:=by kernel_rfl
 rw[<-e]
 exact Wj.2 ⟨_,h,rfl⟩
theorem sB{σ:Mp}{W:World}(x:Value)(n:Nat)(y:DataW (List UInt8)×List MemPlace)(hf:x.formed Tz 243=true)(h:DataW.trod (funcToken Tz) Tz W 0 (λ_=>true) true n 243 x.cells.toList=some y)(hy:y.1∈ov):Y2 σ (sA y.1) x:=by
 unfold ov at hy
 simp only[Yv,Sr,or_false] at hy
 rcases hy with hy|hy|hy
 ·rw[hy,show sA (.held Tryz.f427.name.toUTF8.data.toList)=.func 427 [] [] by kernel_rfl]
  exact Eg (name:=Tryz.f427.name) Tryz.underlying243 (by kernel_rfl) (by decide+kernel) x n y hf h hy
 ·rw[hy,show sA (.held Tryz.f428.name.toUTF8.data.toList)=.func 428 [] [] by kernel_rfl]
  exact Eg (name:=Tryz.f428.name) Tryz.underlying243 (by kernel_rfl) (by decide+kernel) x n y hf h hy
 ·rw[hy,show sA (.held Tryz.f429.name.toUTF8.data.toList)=.func 429 [] [] by kernel_rfl]
  exact Eg (name:=Tryz.f429.name) Tryz.underlying243 (by kernel_rfl) (by decide+kernel) x n y hf h hy
theorem qV{W:World}(hH:laidMetH Tz Rows.tocTouchesRow.laid W): ∃(σ:Mp) (e:Nat->Nat),VP Tz σ (H0 e) W:=by
 have hL:=Ev hH
 obtain⟨ps,hlv,hnd,hcell⟩:=hL
 obtain⟨pf,cR,_,hap⟩:=Gb hlv
 have hap:=hap hnd
 have hlen:(Rows.tocTouchesRow.laid.filter λx=>x.2.handleName?.isNone).length=9:=by kernel_rfl
 have tab: ∀{i:Nat} {n:String} {d:DataW Unit} {g t c:Nat},(Rows.tocTouchesRow.laid.filter λx=>x.2.handleName?.isNone)[i]? =some (n,d)->Tz.globalNamed n=some g->(Tz.globals[g]?).map (·.type)=some t->Si Tz W t c->
   ∃cs e fr,W.heap[g]? =some (.cells cs e fr)∧XG (λ_=>none) (QP d) cs.toList∧ ∀v∈cs,v.oneCell'=true:=by
  intro i n d g t c hm hg ht hr
  obtain⟨g',t',cs,fuel,h1,h2,h3,h4,_⟩:=cR i n d hm
  obtain rfl:=Option.some.inj (hg.symm.trans h1)
  obtain rfl:=Option.some.inj (ht.symm.trans h2)
  obtain⟨_,h5,h6⟩:=hr fuel cs.toList (d,pf i) h4
  obtain⟨e,fr,h7⟩:=KY h1 h3
  exact⟨cs,e,fr,h7,h5,λv hv=>h6 v (X2.2 hv)⟩
 have err: ∀{i:Nat} {n:String} {D:DataW Unit} {g:Nat},(Rows.tocTouchesRow.laid.filter λx=>x.2.handleName?.isNone)[i]? =some (n,DataW.iface "*errors.errorString" (.ptr D))->Tz.globalNamed n=some g->(Tz.globals[g]?).map (·.type)=some 205->
   ∃(cs:Array Value) (e:Nat) (fr:Nat×Nat) (a:Addr),W.heap[g]? =some (.cells cs e fr)∧a.spot=none∧cs.toList=[.iface 454 (.pointer (some a))]:=by
  intro i n D g hm hg ht
  obtain⟨g',t',cs,fuel,h1,h2,h3,h4,h5⟩:=cR i n _ hm
  obtain rfl:=Option.some.inj (hg.symm.trans h1)
  obtain rfl:=Option.some.inj (ht.symm.trans h2)
  obtain⟨e,fr,h7⟩:=KY h1 h3
  obtain⟨a,h8,h9⟩:=uu Tryz.underlying205 h4 ss Tryz.underlying454 p9 (λu v hcs=>by
   have hsz:cs.size=1:=by rw[<-Array.length_toList,hcs];rfl
   have hin:=h5 (.cell g 0) (by rw[hsz];exact Z5 ..)
   refine(hcell g 0 hin).2 u v ?_
   rw[World.var?_cell h1 h3 0,<-YO,hcs];rfl)
  exact⟨cs,e,fr,a,h7,h8,h9⟩
 obtain⟨g',t',cs0,fuel0,q1,q2,q3,q4,_⟩:=cR 6 "portolan/tar.types" Rows.laid_portolan_tar_types (by kernel_rfl)
 obtain rfl:0=g':=Option.some.inj ((show Tz.globalNamed "portolan/tar.types" =some 0 by kernel_rfl).symm.trans q1)
 obtain rfl:155=t':=Option.some.inj ((show(Tz.globals[0]?).map (·.type)=some 155 by kernel_rfl).symm.trans q2)
 obtain⟨e0,fr0,h0⟩:=KY q1 q3
 have aM:=λσ:Mp=>Dx (P:=Tz) (σ:=σ) (fk:=rq) (fv:=nc) Tryz.underlying155 q4 (BM Tryz.underlying3)
  (λx n y hf hy _=>mq Tryz.underlying5 x n y hf hy)
 clear q1 q2 q3 q4
 obtain⟨g',t',cs2,fuel2,p2,q1,q2,q3,q4⟩:=laidMetH.funcs hH (n:= "portolan/path.classes") (d:=kE) (UO (i:=6) (by kernel_rfl))
 have q5:DataW.funcsOut kE=.map kF:=by kernel_rfl
 rw[q5] at q4
 obtain rfl:2=g':=Option.some.inj ((show Tz.globalNamed "portolan/path.classes" =some 2 by kernel_rfl).symm.trans q1)
 obtain rfl:244=t':=Option.some.inj ((show(Tz.globals[2]?).map (·.type)=some 244 by kernel_rfl).symm.trans q2)
 obtain⟨e2,fr2,h2⟩:=KY q1 q3
 have aN:=λσ:Mp=>Dx (P:=Tz) (σ:=σ) (fk:=rq) (fv:=sA) Tryz.underlying244 q4 (BM Tryz.underlying3)
  (λx n y hf hy hk=>by
   obtain⟨key,hk⟩:=hk
   have hk:=ow _ hk
   exact sB x n y hf hy hk)
 clear q1 q2 q3 q4
 obtain⟨cs3,e3,fr3,h3,l3,o3⟩:=tab (i:=7) (n:= "portolan/toc.kinds") (d:=Rows.laid_portolan_toc_kinds) (g:=3) (t:=256) (by kernel_rfl) (by kernel_rfl) (by kernel_rfl) bK
 obtain⟨cs8,e8,fr8,h8,l8,o8⟩:=tab (i:=8) (n:= "unicode/utf8.first") (d:=Rows.laid_unicode_utf8_first) (g:=8) (t:=395) (by kernel_rfl) (by kernel_rfl) (by kernel_rfl) bL
 obtain⟨cs9,e9,fr9,h9,l9,o9⟩:=tab (i:=3) (n:= "unicode/utf8.acceptRanges") (d:=Rows.laid_unicode_utf8_acceptRanges) (g:=9) (t:=398) (by kernel_rfl) (by kernel_rfl) (by kernel_rfl) bN
 obtain⟨Zan,e10,Zdu,h10,l10,o10⟩:=tab (i:=2) (n:= "internal/strconv.uint64pow10") (d:=Rows.laid_internal_strconv_uint64pow10) (g:=10) (t:=411) (by kernel_rfl) (by kernel_rfl) (by kernel_rfl) bO
 obtain⟨Zao,e11,Zdv,ii,h11,s11,l11⟩:=err (i:=5) (n:= "strconv.ErrSyntax") (D:=(match Rows.laid_strconv_ErrSyntax with|.iface _ (.ptr d)=>d|_=>(.nil:DataW Unit))) (g:=11) (by kernel_rfl) (by kernel_rfl) (by kernel_rfl)
 obtain⟨Zap,e12,Zdw,a12,h12,s12,l12⟩:=err (i:=4) (n:= "strconv.ErrRange") (D:=(match Rows.laid_strconv_ErrRange with|.iface _ (.ptr d)=>d|_=>(.nil:DataW Unit))) (g:=12) (by kernel_rfl) (by kernel_rfl) (by kernel_rfl)
 obtain⟨Zaq,e13,Zdx,h13,l13,o13⟩:=tab (i:=0) (n:= "math/bits.deBruijn32tab") (d:=Rows.laid_math_bits_deBruijn32tab) (g:=13) (t:=52) (by kernel_rfl) (by kernel_rfl) (by kernel_rfl) Zeu
 obtain⟨Zar,e14,Zdy,h14,l14,o14⟩:=tab (i:=1) (n:= "math/bits.deBruijn64tab") (d:=Rows.laid_math_bits_deBruijn64tab) (g:=14) (t:=450) (by kernel_rfl) (by kernel_rfl) (by kernel_rfl) bP
 obtain⟨b0,ents0,ck0,_,ms0,mp0,mh0,_,_⟩:=aM (λ_=>none)
 obtain⟨b2,ents2,ck2,_,bt,mp2,mh2,_,_⟩:=aN (λ_=>none)
 let tot:Nat->Nat:=λg=>if g=3 then XX (QP Rows.laid_portolan_toc_kinds) else if g=8 then XX (QP Rows.laid_unicode_utf8_first) else if g=9 then XX (QP Rows.laid_unicode_utf8_acceptRanges) else if g=10 then XX (QP Rows.laid_internal_strconv_uint64pow10) else if g=13 then XX (QP Rows.laid_math_bits_deBruijn32tab) else if g=14 then XX (QP Rows.laid_math_bits_deBruijn64tab) else 1
 let σ:Mp:=λb=>if b<15 then some ⟨b,0,tot b,1⟩ else if b=17 then some ⟨ii.block,ii.off,0,0⟩ else if b=18 then some ⟨a12.block,a12.off,0,0⟩ else if b=15 then some ⟨b0,0,0,0⟩ else if b=16 then some ⟨b2,0,0,0⟩ else none
 let e:Nat->Nat:=λg=>if g=0 then e0 else if g=2 then e2 else if g=3 then e3 else if g=8 then e8 else if g=9 then e9 else if g=10 then e10 else if g=11 then e11 else if g=12 then e12 else if g=13 then e13 else if g=14 then e14 else 0
 have hx:Ext (λ_=>none) σ:=λb l h=>by cases h
 have hgs:Tz.globals.size=15:=by kernel_rfl
 have hp: ∀(b:Nat) (a:Addr),a.spot=none->σ b=some ⟨a.block,a.off,0,0⟩->Y2 σ (.iface 454 (.ptr b 0)) (.iface 454 (.pointer (some a))):=by
  intro b a ha hb
  simp only[Y2]
  refine⟨.pointer (some a),⟨_,hb,?_⟩,rfl⟩
  obtain⟨x,y,z⟩:=a
  have ha:z=none:=ha
  subst ha
  rfl
 refine⟨σ,e,x6 (rs:=qG e) (ms:=xy) (λg hg=>?_) (λb l h=>?_) (λb ee l hm=>?_) (λb es hm=>?_) (λb es b' es' l l' hm hm' hl hl' he=>?_)⟩
 ·rw[hgs] at hg
  exact⟨⟨g,0,tot g,1⟩,if_pos hg,rfl,rfl⟩
 ·have h:(if b<15 then some (⟨b,0,tot b,1⟩:Loc) else if b=17 then some ⟨ii.block,ii.off,0,0⟩ else if b=18 then some ⟨a12.block,a12.off,0,0⟩ else if b=15 then some ⟨b0,0,0,0⟩ else if b=16 then some ⟨b2,0,0,0⟩ else none)=some l:=h
  repeat' (split at h)
  all_goals first|omega|cases h
 ·unfold qG at hm
  simp only[Yv,Prod.mk.injEq,Sr,or_false] at hm
  rcases hm with⟨rfl,rfl,rfl⟩|⟨rfl,rfl,rfl⟩|⟨rfl,rfl,rfl⟩|⟨rfl,rfl,rfl⟩|⟨rfl,rfl,rfl⟩|⟨rfl,rfl,rfl⟩|⟨rfl,rfl,rfl⟩|⟨rfl,rfl,rfl⟩|⟨rfl,rfl,rfl⟩|⟨rfl,rfl,rfl⟩
  ·refine⟨cs0,fr0,rfl,h0,by rw[ms0];exact Tl (by simp only[Y2];exact⟨⟨b0,0,0,0⟩,rfl,rfl⟩),λv hv=>?_⟩
   have:=X2.2 hv
   rw[ms0] at this
   have:v=.map (some b0):=by simpa using this
   subst this;rfl
  ·refine⟨cs2,fr2,rfl,h2,by rw[bt];exact Tl (by simp only[Y2];exact⟨⟨b2,0,0,0⟩,rfl,rfl⟩),λv hv=>?_⟩
   have:=X2.2 hv
   rw[bt] at this
   have:v=.map (some b2):=by simpa using this
   subst this;rfl
  ·exact⟨cs3,fr3,rfl,h3,XG.mono hx l3,o3⟩
  ·exact⟨cs8,fr8,rfl,h8,XG.mono hx l8,o8⟩
  ·exact⟨cs9,fr9,rfl,h9,XG.mono hx l9,o9⟩
  ·exact⟨Zan,Zdu,rfl,h10,XG.mono hx l10,o10⟩
  ·refine⟨Zao,Zdv,rfl,h11,by rw[l11];exact Tl (hp 17 ii s11 rfl),λv hv=>?_⟩
   have:=X2.2 hv
   rw[l11] at this
   have:v=.iface 454 (.pointer (some ii)):=by simpa using this
   subst this;rfl
  ·refine⟨Zap,Zdw,rfl,h12,by rw[l12];exact Tl (hp 18 a12 s12 rfl),λv hv=>?_⟩
   have:=X2.2 hv
   rw[l12] at this
   have:v=.iface 454 (.pointer (some a12)):=by simpa using this
   subst this;rfl
  ·exact⟨Zaq,Zdx,rfl,h13,XG.mono hx l13,o13⟩
  ·exact⟨Zar,Zdy,rfl,h14,XG.mono hx l14,o14⟩
 ·unfold xy at hm
  simp only[Yv,Prod.mk.injEq,Sr,or_false] at hm
  rcases hm with⟨rfl,rfl⟩|⟨rfl,rfl⟩
  ·obtain⟨b',ents,clock,fs,m1,_,m3,m4,m5⟩:=aM σ
   rw[ms0] at m1
   cases m1
   exact⟨⟨b0,0,0,0⟩,ents,clock,fs,rfl,m3,m4,m5.trans (List.Perm.of_eq (by kernel_rfl)),LF (by kernel_rfl)⟩
  ·obtain⟨b',ents,clock,fs,m1,_,m3,m4,m5⟩:=aN σ
   rw[bt] at m1
   cases m1
   exact⟨⟨b2,0,0,0⟩,ents,clock,fs,rfl,m3,m4,m5.trans (List.Perm.of_eq (by kernel_rfl)),LF (by kernel_rfl)⟩
 ·unfold xy at hm hm'
  simp only[Yv,Prod.mk.injEq,Sr,or_false] at hm hm'
  rcases hm with⟨rfl,rfl⟩|⟨rfl,rfl⟩<;>rcases hm' with⟨rfl,rfl⟩|⟨rfl,rfl⟩<;>cases hl<;>cases hl'<;>simp only at he<;>first|rfl|skip
  ·exfalso
   have he:=he.symm
   obtain⟨b1,en1,ck1,fs1,k1,_,k3,k4,k5⟩:=aN σ
   obtain⟨b2,en2,ck2,fs2,j1,_,j3,j4,j5⟩:=aM σ
   rw[bt] at k1;cases k1
   rw[ms0] at j1;cases j1
   rw[he,j3] at k3;cases k3
   exact Fa k4 j4 (es:=[⟨.int .i64 1,.func 427 [] [],0⟩,⟨.int .i64 2,.func 428 [] [],0⟩,⟨.int .i64 3,.func 429 [] [],0⟩]) (es':=xx Rows.laid_portolan_tar_types) (k5.trans (List.Perm.of_eq (by kernel_rfl))) (j5.trans (List.Perm.of_eq (by kernel_rfl))) (by kernel_rfl) (by kernel_rfl) (by simp)
  ·exfalso
   have he:=he
   obtain⟨b1,en1,ck1,fs1,k1,_,k3,k4,k5⟩:=aN σ
   obtain⟨b2,en2,ck2,fs2,j1,_,j3,j4,j5⟩:=aM σ
   rw[bt] at k1;cases k1
   rw[ms0] at j1;cases j1
   rw[he,j3] at k3;cases k3
   exact Fa k4 j4 (es:=[⟨.int .i64 1,.func 427 [] [],0⟩,⟨.int .i64 2,.func 428 [] [],0⟩,⟨.int .i64 3,.func 429 [] [],0⟩]) (es':=xx Rows.laid_portolan_tar_types) (k5.trans (List.Perm.of_eq (by kernel_rfl))) (j5.trans (List.Perm.of_eq (by kernel_rfl))) (by kernel_rfl) (by kernel_rfl) (by simp)
end
end Go.AI
