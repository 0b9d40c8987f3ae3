/- What the condition of ManifestPuts says of the world: proved; the package-level variables that its row lists hold what the program's text lays. -/
import Derived.Test.YtbmjgbajoemnaaaGreatDoorKN
import Derived.Test.YtbmjgbajoemnaaaGreatDoorTie
import Derived.Test.YtbmjgbajoemnaaaGreatDoorCards
import Derived.ProofKit
import Derived.OpenShut
import Derived.LaidMore
import Derived.Lay
import Derived.LaidHandle
import Derived.SevenTiedAt
import Derived.Stop.Joined
set_option maxRecDepth 1000000
set_option maxHeartbeats 0
set_option linter.unusedVariables false
set_option linter.unusedSimpArgs false
namespace Go.AI
open Go Go.Proofs Go.Proofs.YtbmjgbajoemnaaaGreatDoor
noncomputable section
noncomputable abbrev Tz:=Tryz.prog
theorem rd5{W:World}:T0 Tz W 5 1:=zx Tryz.underlying5
theorem Zgb{W:World}:T0 Tz W 112 (256*1):=PV Tryz.underlying112 (by kernel_rfl) (by kernel_rfl) rd5
theorem Zgc{W:World}:T0 Tz W 114 2:=rn Tryz.underlying114 rfl rfl rfl rfl (by kernel_rfl) (by kernel_rfl) rd5
theorem Zgd{W:World}:T0 Tz W 115 (16*2):=PV Tryz.underlying115 (by kernel_rfl) (by kernel_rfl) Zgc
theorem Zge{W:World}:T0 Tz W 130 1:=zx Tryz.underlying130
theorem Zgf{W:World}:T0 Tz W 157 (20*1):=PV Tryz.underlying157 (by kernel_rfl) (by kernel_rfl) Zge
theorem ZjN{W:World}:T0 Tz W 22 (32*1):=PV Tryz.underlying22 (by kernel_rfl) (by kernel_rfl) rd5
theorem Zgg{W:World}:T0 Tz W 176 (64*1):=PV Tryz.underlying176 (by kernel_rfl) (by kernel_rfl) rd5
theorem fH{W:World}(hH:laidMetH Tz Rows.manifestPutsRow.laid W): ∃(σ:Mp) (e:Nat->Nat),Ww Tz σ (H0 e) W:=by
 have hL:=Af hH
 obtain⟨ps,hlv,hnd,hcell⟩:=hL
 obtain⟨pf,hpf,_,hap⟩:=EM hlv
 have hap:=hap hnd
 have hlen:(Rows.manifestPutsRow.laid.filter λx=>x.2.handleName?.isNone).length=5:=by kernel_rfl
 have tab: ∀{i:Nat} {n:String} {d:DataW Unit} {g t c:Nat},(Rows.manifestPutsRow.laid.filter λx=>x.2.handleName?.isNone)[i]? =some (n,d)->Tz.globalNamed n=some g->(Tz.globals[g]?).map (·.type)=some t->T0 Tz W t c->
   ∃cs e fr,W.heap[g]? =some (.cells cs e fr)∧YO (λ_=>none) (TL d) cs.toList∧ ∀v∈cs,v.oneCell'=true:=by
  intro i n d g t c hm hg ht hr
  obtain⟨g',t',cs,fuel,h1,h2,h3,h4,_⟩:=hpf i n d hm
  obtain rfl:=Option.some.inj (hg.symm.trans h1)
  obtain rfl:=Option.some.inj (ht.symm.trans h2)
  obtain⟨_,h5,h6⟩:=hr fuel cs.toList (d,pf i) h4
  obtain⟨e,fr,h7⟩:=lR h1 h3
  exact⟨cs,e,fr,h7,h5,λv hv=>h6 v (XA.2 hv)⟩
 obtain⟨cs0,e0,fr0,h0,l0,o0⟩:=tab (i:=4) (n:= "unicode/utf8.first") (d:=Rows.laid_unicode_utf8_first) (g:=0) (t:=112) (by kernel_rfl) (by kernel_rfl) (by kernel_rfl) Zgb
 obtain⟨cs1,e1,fr1,h1,l1,o1⟩:=tab (i:=3) (n:= "unicode/utf8.acceptRanges") (d:=Rows.laid_unicode_utf8_acceptRanges) (g:=1) (t:=115) (by kernel_rfl) (by kernel_rfl) (by kernel_rfl) Zgd
 obtain⟨cs2,e2,fr2,h2,l2,o2⟩:=tab (i:=2) (n:= "internal/strconv.uint64pow10") (d:=Rows.laid_internal_strconv_uint64pow10) (g:=2) (t:=157) (by kernel_rfl) (by kernel_rfl) (by kernel_rfl) Zgf
 obtain⟨cs4,e4,fr4,h4,l4,o4⟩:=tab (i:=0) (n:= "math/bits.deBruijn32tab") (d:=Rows.laid_math_bits_deBruijn32tab) (g:=4) (t:=22) (by kernel_rfl) (by kernel_rfl) (by kernel_rfl) ZjN
 obtain⟨cs5,e5,fr5,h5,l5,o5⟩:=tab (i:=1) (n:= "math/bits.deBruijn64tab") (d:=Rows.laid_math_bits_deBruijn64tab) (g:=5) (t:=176) (by kernel_rfl) (by kernel_rfl) (by kernel_rfl) Zgg
 let tot:Nat->Nat:=λg=>if g=0 then YF (TL Rows.laid_unicode_utf8_first) else if g=1 then YF (TL Rows.laid_unicode_utf8_acceptRanges) else if g=2 then YF (TL Rows.laid_internal_strconv_uint64pow10) else if g=4 then YF (TL Rows.laid_math_bits_deBruijn32tab) else if g=5 then YF (TL Rows.laid_math_bits_deBruijn64tab) else 1
 let σ:Mp:=λb=>if b<6 then some ⟨b,0,tot b,1⟩ else none
 let e:Nat->Nat:=λg=>if g=0 then e0 else if g=1 then e1 else if g=2 then e2 else if g=4 then e4 else if g=5 then e5 else 0
 have hx:Ext (λ_=>none) σ:=λb l h=>by cases h
 have hgs:Tz.globals.size=6:=by kernel_rfl
 refine⟨σ,e,od (rs:=fj e) (ms:=Zay) (λg hg=>?_) (λb l h=>?_) (λb ee l hm=>?_) (λb es hm=>?_) (λb es b' es' l l' hm hm' hl hl' he=>?_)⟩
 ·rw[hgs] at hg
  exact⟨⟨g,0,tot g,1⟩,if_pos hg,rfl,rfl⟩
 ·have h:(if b<6 then some (⟨b,0,tot b,1⟩:Loc) else none)=some l:=h
  repeat' (split at h)
  all_goals first|omega|cases h
 ·unfold fj at hm
  simp only[ZN,Prod.mk.injEq,YL,or_false] at hm
  rcases hm with⟨rfl,rfl,rfl⟩|⟨rfl,rfl,rfl⟩|⟨rfl,rfl,rfl⟩|⟨rfl,rfl,rfl⟩|⟨rfl,rfl,rfl⟩
  ·exact⟨cs0,fr0,rfl,h0,YO.mono hx l0,o0⟩
  ·exact⟨cs1,fr1,rfl,h1,YO.mono hx l1,o1⟩
  ·exact⟨cs2,fr2,rfl,h2,YO.mono hx l2,o2⟩
  ·exact⟨cs4,fr4,rfl,h4,YO.mono hx l4,o4⟩
  ·exact⟨cs5,fr5,rfl,h5,YO.mono hx l5,o5⟩
 ·cases hm
 ·cases hm
end
end Go.AI
