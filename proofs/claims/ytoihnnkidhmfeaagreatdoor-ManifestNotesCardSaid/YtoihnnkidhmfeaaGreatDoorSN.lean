/- What the condition of ManifestNotes says of the world: proved; the package-level variables that its row lists hold what the program's text lays. -/
import Derived.Test.YtoihnnkidhmfeaaGreatDoorKN
import Derived.Test.YtoihnnkidhmfeaaGreatDoorTie
import Derived.Test.YtoihnnkidhmfeaaGreatDoorCards
import Derived.ProofKit
import Derived.OpenShut
import Derived.LaidMore
import Derived.Lay
import Derived.LaidHandle
import Derived.SevenTiedAt
import Derived.Stop.Joined
set_option maxRecDepth 1000000
set_option maxHeartbeats 0
set_option linter.unusedVariables false
set_option linter.unusedSimpArgs false
namespace Go.AI
open Go Go.Proofs Go.Proofs.YtoihnnkidhmfeaaGreatDoor
noncomputable section
noncomputable abbrev Tz:=Tryz.prog
theorem Zez{W:World}:Sc Tz W 48 1:=F1 Tryz.underlying48
theorem Zg5{W:World}:Sc Tz W 51 (8*1):=R9 Tryz.underlying51 (by kernel_rfl) (by kernel_rfl) Zez
theorem rd5{W:World}:Sc Tz W 5 1:=F1 Tryz.underlying5
theorem Zeu{W:World}:Sc Tz W 112 (256*1):=R9 Tryz.underlying112 (by kernel_rfl) (by kernel_rfl) rd5
theorem Zev{W:World}:Sc Tz W 114 2:=sN Tryz.underlying114 rfl rfl rfl rfl (by kernel_rfl) (by kernel_rfl) rd5
theorem Zew{W:World}:Sc Tz W 115 (16*2):=R9 Tryz.underlying115 (by kernel_rfl) (by kernel_rfl) Zev
theorem Zg4{W:World}:Sc Tz W 49 (64*1):=R9 Tryz.underlying49 (by kernel_rfl) (by kernel_rfl) Zez
theorem Zg3{W:World}:Sc Tz W 46 1:=F1 Tryz.underlying46
theorem Zex{W:World}:Sc Tz W 169 (20*1):=R9 Tryz.underlying169 (by kernel_rfl) (by kernel_rfl) Zg3
theorem Zg2{W:World}:Sc Tz W 24 (32*1):=R9 Tryz.underlying24 (by kernel_rfl) (by kernel_rfl) rd5
theorem Zey{W:World}:Sc Tz W 187 (64*1):=R9 Tryz.underlying187 (by kernel_rfl) (by kernel_rfl) rd5
theorem jP{W:World}(hH:laidMetH Tz Rows.manifestNotesRow.laid W): ∃(σ:Mp) (e:Nat->Nat),W8 Tz σ (H0 e) W:=by
 have hL:=AK hH
 obtain⟨ps,hlv,hnd,hcell⟩:=hL
 obtain⟨pf,hpf,_,hap⟩:=EH hlv
 have hap:=hap hnd
 have hlen:(Rows.manifestNotesRow.laid.filter λx=>x.2.handleName?.isNone).length=7:=by kernel_rfl
 have tab: ∀{i:Nat} {n:String} {d:DataW Unit} {g t c:Nat},(Rows.manifestNotesRow.laid.filter λx=>x.2.handleName?.isNone)[i]? =some (n,d)->Tz.globalNamed n=some g->(Tz.globals[g]?).map (·.type)=some t->Sc Tz W t c->
   ∃cs e fr,W.heap[g]? =some (.cells cs e fr)∧YO (λ_=>none) (UW d) cs.toList∧ ∀v∈cs,v.oneCell'=true:=by
  intro i n d g t c hm hg ht hr
  obtain⟨g',t',cs,fuel,h1,h2,h3,h4,_⟩:=hpf i n d hm
  obtain rfl:=Option.some.inj (hg.symm.trans h1)
  obtain rfl:=Option.some.inj (ht.symm.trans h2)
  obtain⟨_,h5,h6⟩:=hr fuel cs.toList (d,pf i) h4
  obtain⟨e,fr,h7⟩:=nY h1 h3
  exact⟨cs,e,fr,h7,h5,λv hv=>h6 v (XX.2 hv)⟩
 obtain⟨cs0,e0,fr0,h0,l0,o0⟩:=tab (i:=5) (n:= "portolan/sha.beginning") (d:=Rows.laid_portolan_sha_beginning) (g:=0) (t:=51) (by kernel_rfl) (by kernel_rfl) (by kernel_rfl) Zg5
 obtain⟨cs1,e1,fr1,h1,l1,o1⟩:=tab (i:=6) (n:= "unicode/utf8.first") (d:=Rows.laid_unicode_utf8_first) (g:=1) (t:=112) (by kernel_rfl) (by kernel_rfl) (by kernel_rfl) Zeu
 obtain⟨cs2,e2,fr2,h2,l2,o2⟩:=tab (i:=3) (n:= "unicode/utf8.acceptRanges") (d:=Rows.laid_unicode_utf8_acceptRanges) (g:=2) (t:=115) (by kernel_rfl) (by kernel_rfl) (by kernel_rfl) Zew
 obtain⟨cs3,e3,fr3,h3,l3,o3⟩:=tab (i:=4) (n:= "portolan/sha.constants") (d:=Rows.laid_portolan_sha_constants) (g:=3) (t:=49) (by kernel_rfl) (by kernel_rfl) (by kernel_rfl) Zg4
 obtain⟨cs4,e4,fr4,h4,l4,o4⟩:=tab (i:=2) (n:= "internal/strconv.uint64pow10") (d:=Rows.laid_internal_strconv_uint64pow10) (g:=4) (t:=169) (by kernel_rfl) (by kernel_rfl) (by kernel_rfl) Zex
 obtain⟨cs6,e6,fr6,h6,l6,o6⟩:=tab (i:=0) (n:= "math/bits.deBruijn32tab") (d:=Rows.laid_math_bits_deBruijn32tab) (g:=6) (t:=24) (by kernel_rfl) (by kernel_rfl) (by kernel_rfl) Zg2
 obtain⟨cs7,e7,fr7,h7,l7,o7⟩:=tab (i:=1) (n:= "math/bits.deBruijn64tab") (d:=Rows.laid_math_bits_deBruijn64tab) (g:=7) (t:=187) (by kernel_rfl) (by kernel_rfl) (by kernel_rfl) Zey
 let tot:Nat->Nat:=λg=>if g=0 then YF (UW Rows.laid_portolan_sha_beginning) else if g=1 then YF (UW Rows.laid_unicode_utf8_first) else if g=2 then YF (UW Rows.laid_unicode_utf8_acceptRanges) else if g=3 then YF (UW Rows.laid_portolan_sha_constants) else if g=4 then YF (UW Rows.laid_internal_strconv_uint64pow10) else if g=6 then YF (UW Rows.laid_math_bits_deBruijn32tab) else if g=7 then YF (UW Rows.laid_math_bits_deBruijn64tab) else 1
 let σ:Mp:=λb=>if b<8 then some ⟨b,0,tot b,1⟩ else none
 let e:Nat->Nat:=λg=>if g=0 then e0 else if g=1 then e1 else if g=2 then e2 else if g=3 then e3 else if g=4 then e4 else if g=6 then e6 else if g=7 then e7 else 0
 have hx:Ext (λ_=>none) σ:=λb l h=>by cases h
 have hgs:Tz.globals.size=8:=by kernel_rfl
 refine⟨σ,e,pE (rs:=jD e) (ms:=bG) (λg hg=>?_) (λb l h=>?_) (λb ee l hm=>?_) (λb es hm=>?_) (λb es b' es' l l' hm hm' hl hl' he=>?_)⟩
 ·rw[hgs] at hg
  exact⟨⟨g,0,tot g,1⟩,if_pos hg,rfl,rfl⟩
 ·have h:(if b<8 then some (⟨b,0,tot b,1⟩:Loc) else none)=some l:=h
  repeat' (split at h)
  all_goals first|omega|cases h
 ·unfold jD at hm
  simp only[Yb,Prod.mk.injEq,O8,or_false] at hm
  rcases hm with⟨rfl,rfl,rfl⟩|⟨rfl,rfl,rfl⟩|⟨rfl,rfl,rfl⟩|⟨rfl,rfl,rfl⟩|⟨rfl,rfl,rfl⟩|⟨rfl,rfl,rfl⟩|⟨rfl,rfl,rfl⟩
  ·exact⟨cs0,fr0,rfl,h0,YO.mono hx l0,o0⟩
  ·exact⟨cs1,fr1,rfl,h1,YO.mono hx l1,o1⟩
  ·exact⟨cs2,fr2,rfl,h2,YO.mono hx l2,o2⟩
  ·exact⟨cs3,fr3,rfl,h3,YO.mono hx l3,o3⟩
  ·exact⟨cs4,fr4,rfl,h4,YO.mono hx l4,o4⟩
  ·exact⟨cs6,fr6,rfl,h6,YO.mono hx l6,o6⟩
  ·exact⟨cs7,fr7,rfl,h7,YO.mono hx l7,o7⟩
 ·cases hm
 ·cases hm
end
end Go.AI
