/- What the condition of TarPuts says of the world: proved; the package-level variables that its row lists hold what the program's text lays. -/
import Derived.Test.YtdogcjobgcckbaaGreatDoorKN
import Derived.Test.YtdogcjobgcckbaaGreatDoorTie
import Derived.Test.YtdogcjobgcckbaaGreatDoorCards
import Derived.ProofKit
import Derived.OpenShut
import Derived.LaidMore
import Derived.Lay
import Derived.LaidHandle
import Derived.SevenTiedAt
import Derived.Stop.Joined
set_option maxRecDepth 1000000
set_option maxHeartbeats 0
set_option linter.unusedVariables false
set_option linter.unusedSimpArgs false
namespace Go.AI
open Go Go.Proofs Go.Proofs.YtdogcjobgcckbaaGreatDoor
noncomputable section
noncomputable abbrev Tz:=Tryz.prog
theorem rd3{W:World}:Tk Tz W 3 1:=FW Tryz.underlying3
theorem ZiR{W:World}:Tk Tz W 119 (2*1):=QI Tryz.underlying119 (by kernel_rfl) (by kernel_rfl) rd3
theorem Znw{W:World}:Tk Tz W 99 1:=FW Tryz.underlying99
theorem ZiS{W:World}:Tk Tz W 158 (20*1):=QI Tryz.underlying158 (by kernel_rfl) (by kernel_rfl) Znw
theorem rd5{W:World}:Tk Tz W 5 1:=FW Tryz.underlying5
theorem ZiT{W:World}:Tk Tz W 168 (32*1):=QI Tryz.underlying168 (by kernel_rfl) (by kernel_rfl) rd5
theorem ZiU{W:World}:Tk Tz W 169 (64*1):=QI Tryz.underlying169 (by kernel_rfl) (by kernel_rfl) rd5
theorem ZiV{W:World}:Tk Tz W 170 (256*1):=QI Tryz.underlying170 (by kernel_rfl) (by kernel_rfl) rd5
theorem ZiW{W:World}:Tk Tz W 172 2:=qn Tryz.underlying172 rfl rfl rfl rfl (by kernel_rfl) (by kernel_rfl) rd5
theorem ZiX{W:World}:Tk Tz W 173 (16*2):=QI Tryz.underlying173 (by kernel_rfl) (by kernel_rfl) ZiW
theorem PS(d:DataW Unit){key:Lit}(h:(key,d)∈(match Rows.laid_portolan_field_fields with|.map l=>l|_=>([]:List (Lit×DataW Unit)))): ∃ds,d=.agg ds:=by
 unfold Rows.laid_portolan_field_fields at h
 simp only[ZO,Prod.mk.injEq,Ua,or_false] at h
 rcases h with⟨_,rfl⟩|⟨_,rfl⟩|⟨_,rfl⟩|⟨_,rfl⟩|⟨_,rfl⟩|⟨_,rfl⟩|⟨_,rfl⟩|⟨_,rfl⟩|⟨_,rfl⟩|⟨_,rfl⟩|⟨_,rfl⟩|⟨_,rfl⟩|⟨_,rfl⟩|⟨_,rfl⟩|⟨_,rfl⟩|⟨_,rfl⟩<;>exact⟨_,rfl⟩
noncomputable def gv(d:DataW (List UInt8)):AV:=match d with|.held n=>cond (n==Tryz.f156.name.toUTF8.data.toList) (.func 156 [] []) (cond (n==Tryz.f157.name.toUTF8.data.toList) (.func 157 [] []) (cond (n==Tryz.f158.name.toUTF8.data.toList) (.func 158 [] []) (.unk)))|_=>.unk
noncomputable def Zax:List (DataW (List UInt8)):=[.held Tryz.f156.name.toUTF8.data.toList,.held Tryz.f157.name.toUTF8.data.toList,.held Tryz.f158.name.toUTF8.data.toList]
noncomputable def Ze4:DataW Unit:=match Rows.laid_portolan_path_classes with|.iface _ d=>d|_=>.nil
noncomputable def Ze5:List (Lit×DataW (List UInt8)):=match Ze4.funcsOut with|.map l=>l|_=>[]
theorem Zay(d:DataW (List UInt8)){key:Lit}(h:(key,d)∈Ze5):d∈Zax:=by
 have e:Ze5.map Prod.snd=Zax:=by kernel_rfl
 rw[<-e]
 exact YQ.2 ⟨_,h,rfl⟩
theorem gw{σ:Mp}{W:World}(x:Value)(n:Nat)(y:DataW (List UInt8)×List MemPlace)(hf:x.formed Tz 103=true)(h:DataW.trod (funcToken Tz) Tz W 0 (λ_=>true) true n 103 x.cells.toList=some y)(hy:y.1∈Zax):Yn σ (gv y.1) x:=by
 unfold Zax at hy
 simp only[ZO,Ua,or_false] at hy
 rcases hy with hy|hy|hy
 ·rw[hy,show gv (.held Tryz.f156.name.toUTF8.data.toList)=.func 156 [] [] by kernel_rfl]
  exact B4 (name:=Tryz.f156.name) Tryz.underlying103 (by kernel_rfl) (by decide+kernel) x n y hf h hy
 ·rw[hy,show gv (.held Tryz.f157.name.toUTF8.data.toList)=.func 157 [] [] by kernel_rfl]
  exact B4 (name:=Tryz.f157.name) Tryz.underlying103 (by kernel_rfl) (by decide+kernel) x n y hf h hy
 ·rw[hy,show gv (.held Tryz.f158.name.toUTF8.data.toList)=.func 158 [] [] by kernel_rfl]
  exact B4 (name:=Tryz.f158.name) Tryz.underlying103 (by kernel_rfl) (by decide+kernel) x n y hf h hy
theorem bS{W:World}(hH:laidMetH Tz Rows.tarPutsRow.laid W): ∃(σ:Mp) (e:Nat->Nat),WE Tz σ (H0 e) W:=by
 have hL:=Al hH
 obtain⟨ps,hlv,hnd,hcell⟩:=hL
 obtain⟨pf,hpf,_,hap⟩:=EC hlv
 have hap:=hap hnd
 have hlen:(Rows.tarPutsRow.laid.filter λx=>x.2.handleName?.isNone).length=7:=by kernel_rfl
 have tab: ∀{i:Nat} {n:String} {d:DataW Unit} {g t c:Nat},(Rows.tarPutsRow.laid.filter λx=>x.2.handleName?.isNone)[i]? =some (n,d)->Tz.globalNamed n=some g->(Tz.globals[g]?).map (·.type)=some t->Tk Tz W t c->
   ∃cs e fr,W.heap[g]? =some (.cells cs e fr)∧YR (λ_=>none) (S5 d) cs.toList∧ ∀v∈cs,v.oneCell'=true:=by
  intro i n d g t c hm hg ht hr
  obtain⟨g',t',cs,fuel,h1,h2,h3,h4,_⟩:=hpf i n d hm
  obtain rfl:=Option.some.inj (hg.symm.trans h1)
  obtain rfl:=Option.some.inj (ht.symm.trans h2)
  obtain⟨_,h5,h6⟩:=hr fuel cs.toList (d,pf i) h4
  obtain⟨e,fr,h7⟩:=Jq h1 h3
  exact⟨cs,e,fr,h7,h5,λv hv=>h6 v (Xi.2 hv)⟩
 obtain⟨g',t',cs0,fuel0,q1,q2,q3,q4,_⟩:=hpf 5 "portolan/tar.types" Rows.laid_portolan_tar_types (by kernel_rfl)
 obtain rfl:0=g':=Option.some.inj ((show Tz.globalNamed "portolan/tar.types" =some 0 by kernel_rfl).symm.trans q1)
 obtain rfl:73=t':=Option.some.inj ((show(Tz.globals[0]?).map (·.type)=some 73 by kernel_rfl).symm.trans q2)
 obtain⟨e0,fr0,h0⟩:=Jq q1 q3
 have rm0:=λσ:Mp=>FX (P:=Tz) (σ:=σ) (fk:=vP) (fv:=ru) Tryz.underlying73 q4 (vH Tryz.underlying3)
  (λx n y hf hy _=>ZcM Tryz.underlying5 x n y hf hy)
 clear q1 q2 q3 q4
 obtain⟨g',t',cs1,fuel1,p1,q1,q2,q3,q4⟩:=laidMetH.funcs hH (n:= "portolan/path.classes") (d:=Ze4) (VB (i:=5) (by kernel_rfl))
 have q5:DataW.funcsOut Ze4=.map Ze5:=by kernel_rfl
 rw[q5] at q4
 obtain rfl:1=g':=Option.some.inj ((show Tz.globalNamed "portolan/path.classes" =some 1 by kernel_rfl).symm.trans q1)
 obtain rfl:104=t':=Option.some.inj ((show(Tz.globals[1]?).map (·.type)=some 104 by kernel_rfl).symm.trans q2)
 obtain⟨e1,fr1,h1⟩:=Jq q1 q3
 have rm1:=λσ:Mp=>FX (P:=Tz) (σ:=σ) (fk:=vP) (fv:=gv) Tryz.underlying104 q4 (vH Tryz.underlying3)
  (λx n y hf hy hk=>by
   obtain⟨key,hk⟩:=hk
   have hk:=Zay _ hk
   exact gw x n y hf hy hk)
 clear q1 q2 q3 q4
 obtain⟨g',t',cs2,fuel2,q1,q2,q3,q4,_⟩:=hpf 4 "portolan/field.fields" Rows.laid_portolan_field_fields (by kernel_rfl)
 obtain rfl:2=g':=Option.some.inj ((show Tz.globalNamed "portolan/field.fields" =some 2 by kernel_rfl).symm.trans q1)
 obtain rfl:121=t':=Option.some.inj ((show(Tz.globals[2]?).map (·.type)=some 121 by kernel_rfl).symm.trans q2)
 obtain⟨e2,fr2,h2⟩:=Jq q1 q3
 have rm2:=λσ:Mp=>FX (P:=Tz) (σ:=σ) (fk:=vP) (fv:=ru) Tryz.underlying121 q4 (fV Tryz.underlying9)
  (λx n y hf hy hk=>ZcL ZiR ⟨_,_,Tryz.underlying119⟩ x n y hf hy (by
   obtain⟨key,hk⟩:=hk
   exact PS _ hk))
 clear q1 q2 q3 q4
 obtain⟨cs4,e4,fr4,h4,l4,o4⟩:=tab (i:=2) (n:= "internal/strconv.uint64pow10") (d:=Rows.laid_internal_strconv_uint64pow10) (g:=4) (t:=158) (by kernel_rfl) (by kernel_rfl) (by kernel_rfl) ZiS
 obtain⟨cs5,e5,fr5,h5,l5,o5⟩:=tab (i:=0) (n:= "math/bits.deBruijn32tab") (d:=Rows.laid_math_bits_deBruijn32tab) (g:=5) (t:=168) (by kernel_rfl) (by kernel_rfl) (by kernel_rfl) ZiT
 obtain⟨cs6,e6,fr6,h6,l6,o6⟩:=tab (i:=1) (n:= "math/bits.deBruijn64tab") (d:=Rows.laid_math_bits_deBruijn64tab) (g:=6) (t:=169) (by kernel_rfl) (by kernel_rfl) (by kernel_rfl) ZiU
 obtain⟨cs7,e7,fr7,h7,l7,o7⟩:=tab (i:=6) (n:= "unicode/utf8.first") (d:=Rows.laid_unicode_utf8_first) (g:=7) (t:=170) (by kernel_rfl) (by kernel_rfl) (by kernel_rfl) ZiV
 obtain⟨cs8,e8,fr8,h8,l8,o8⟩:=tab (i:=3) (n:= "unicode/utf8.acceptRanges") (d:=Rows.laid_unicode_utf8_acceptRanges) (g:=8) (t:=173) (by kernel_rfl) (by kernel_rfl) (by kernel_rfl) ZiX
 obtain⟨b0,ents0,ck0,_,ms0,mp0,mh0,_,_⟩:=rm0 (λ_=>none)
 obtain⟨b2,ents2,ck2,_,ms2,mp2,mh2,_,_⟩:=rm2 (λ_=>none)
 obtain⟨b1,Zc1,ck1,_,ms1,mp1,mh1,_,_⟩:=rm1 (λ_=>none)
 let tot:Nat->Nat:=λg=>if g=4 then YK (S5 Rows.laid_internal_strconv_uint64pow10) else if g=5 then YK (S5 Rows.laid_math_bits_deBruijn32tab) else if g=6 then YK (S5 Rows.laid_math_bits_deBruijn64tab) else if g=7 then YK (S5 Rows.laid_unicode_utf8_first) else if g=8 then YK (S5 Rows.laid_unicode_utf8_acceptRanges) else 1
 let σ:Mp:=λb=>if b<9 then some ⟨b,0,tot b,1⟩ else if b=9 then some ⟨b0,0,0,0⟩ else if b=11 then some ⟨b2,0,0,0⟩ else if b=10 then some ⟨b1,0,0,0⟩ else none
 let e:Nat->Nat:=λg=>if g=0 then e0 else if g=1 then e1 else if g=2 then e2 else if g=4 then e4 else if g=5 then e5 else if g=6 then e6 else if g=7 then e7 else if g=8 then e8 else 0
 have hx:Ext (λ_=>none) σ:=λb l h=>by cases h
 have hgs:Tz.globals.size=9:=by kernel_rfl
 refine⟨σ,e,nu (rs:=cN e) (ms:=oh) (λg hg=>?_) (λb l h=>?_) (λb ee l hm=>?_) (λb es hm=>?_) (λb es b' es' l l' hm hm' hl hl' he=>?_)⟩
 ·rw[hgs] at hg
  exact⟨⟨g,0,tot g,1⟩,if_pos hg,rfl,rfl⟩
 ·have h:(if b<9 then some (⟨b,0,tot b,1⟩:Loc) else if b=9 then some ⟨b0,0,0,0⟩ else if b=11 then some ⟨b2,0,0,0⟩ else if b=10 then some ⟨b1,0,0,0⟩ else none)=some l:=h
  repeat' (split at h)
  all_goals first|omega|cases h
 ·unfold cN at hm
  simp only[ZO,Prod.mk.injEq,Ua,or_false] at hm
  rcases hm with⟨rfl,rfl,rfl⟩|⟨rfl,rfl,rfl⟩|⟨rfl,rfl,rfl⟩|⟨rfl,rfl,rfl⟩|⟨rfl,rfl,rfl⟩|⟨rfl,rfl,rfl⟩|⟨rfl,rfl,rfl⟩|⟨rfl,rfl,rfl⟩
  ·refine⟨cs0,fr0,rfl,h0,by rw[ms0];exact Th (by simp only[Yn];exact⟨⟨b0,0,0,0⟩,rfl,rfl⟩),λv hv=>?_⟩
   have:=Xi.2 hv
   rw[ms0] at this
   have:v=.map (some b0):=by simpa using this
   subst this;rfl
  ·refine⟨cs1,fr1,rfl,h1,by rw[ms1];exact Th (by simp only[Yn];exact⟨⟨b1,0,0,0⟩,rfl,rfl⟩),λv hv=>?_⟩
   have:=Xi.2 hv
   rw[ms1] at this
   have:v=.map (some b1):=by simpa using this
   subst this;rfl
  ·refine⟨cs2,fr2,rfl,h2,by rw[ms2];exact Th (by simp only[Yn];exact⟨⟨b2,0,0,0⟩,rfl,rfl⟩),λv hv=>?_⟩
   have:=Xi.2 hv
   rw[ms2] at this
   have:v=.map (some b2):=by simpa using this
   subst this;rfl
  ·exact⟨cs4,fr4,rfl,h4,YR.mono hx l4,o4⟩
  ·exact⟨cs5,fr5,rfl,h5,YR.mono hx l5,o5⟩
  ·exact⟨cs6,fr6,rfl,h6,YR.mono hx l6,o6⟩
  ·exact⟨cs7,fr7,rfl,h7,YR.mono hx l7,o7⟩
  ·exact⟨cs8,fr8,rfl,h8,YR.mono hx l8,o8⟩
 ·unfold oh at hm
  simp only[ZO,Prod.mk.injEq,Ua,or_false] at hm
  rcases hm with⟨rfl,rfl⟩|⟨rfl,rfl⟩|⟨rfl,rfl⟩
  ·obtain⟨b',ents,clock,fs,m1,_,m3,m4,m5⟩:=rm0 σ
   rw[ms0] at m1
   cases m1
   exact⟨⟨b0,0,0,0⟩,ents,clock,fs,rfl,m3,m4,m5.trans (List.Perm.of_eq (by kernel_rfl)),N2 (by kernel_rfl)⟩
  ·obtain⟨b',ents,clock,fs,m1,_,m3,m4,m5⟩:=rm1 σ
   rw[ms1] at m1
   cases m1
   exact⟨⟨b1,0,0,0⟩,ents,clock,fs,rfl,m3,m4,m5.trans (List.Perm.of_eq (by kernel_rfl)),N2 (by kernel_rfl)⟩
  ·obtain⟨b',ents,clock,fs,m1,_,m3,m4,m5⟩:=rm2 σ
   rw[ms2] at m1
   cases m1
   exact⟨⟨b2,0,0,0⟩,ents,clock,fs,rfl,m3,m4,m5.trans (List.Perm.of_eq (by kernel_rfl)),N2 (by kernel_rfl)⟩
 ·unfold oh at hm hm'
  simp only[ZO,Prod.mk.injEq,Ua,or_false] at hm hm'
  rcases hm with⟨rfl,rfl⟩|⟨rfl,rfl⟩|⟨rfl,rfl⟩<;>rcases hm' with⟨rfl,rfl⟩|⟨rfl,rfl⟩|⟨rfl,rfl⟩<;>cases hl<;>cases hl'<;>simp only at he<;>first|rfl|skip
  ·exfalso
   have he:=he.symm
   obtain⟨b1,en1,ck1,fs1,k1,_,k3,k4,k5⟩:=rm1 σ
   obtain⟨b2,en2,ck2,fs2,j1,_,j3,j4,j5⟩:=rm0 σ
   rw[ms1] at k1;cases k1
   rw[ms0] at j1;cases j1
   rw[he,j3] at k3;cases k3
   exact Le k4 j4 (es:=[⟨.int .i64 1,.func 156 [] [],0⟩,⟨.int .i64 2,.func 157 [] [],0⟩,⟨.int .i64 3,.func 158 [] [],0⟩]) (es':=EE Rows.laid_portolan_tar_types) (k5.trans (List.Perm.of_eq (by kernel_rfl))) (j5.trans (List.Perm.of_eq (by kernel_rfl))) (by kernel_rfl) (by kernel_rfl) (by simp)
  ·exact(hap 4 5 _ (by omega) (by rw[hlen];omega) mp2 (by rw[<-he];exact mp0)).elim
  ·exfalso
   have he:=he
   obtain⟨b1,en1,ck1,fs1,k1,_,k3,k4,k5⟩:=rm1 σ
   obtain⟨b2,en2,ck2,fs2,j1,_,j3,j4,j5⟩:=rm0 σ
   rw[ms1] at k1;cases k1
   rw[ms0] at j1;cases j1
   rw[he,j3] at k3;cases k3
   exact Le k4 j4 (es:=[⟨.int .i64 1,.func 156 [] [],0⟩,⟨.int .i64 2,.func 157 [] [],0⟩,⟨.int .i64 3,.func 158 [] [],0⟩]) (es':=EE Rows.laid_portolan_tar_types) (k5.trans (List.Perm.of_eq (by kernel_rfl))) (j5.trans (List.Perm.of_eq (by kernel_rfl))) (by kernel_rfl) (by kernel_rfl) (by simp)
  ·exfalso
   have he:=he
   obtain⟨b1,en1,ck1,fs1,k1,_,k3,k4,k5⟩:=rm1 σ
   obtain⟨b2,en2,ck2,fs2,j1,_,j3,j4,j5⟩:=rm2 σ
   rw[ms1] at k1;cases k1
   rw[ms2] at j1;cases j1
   rw[he,j3] at k3;cases k3
   exact Le k4 j4 (es:=[⟨.int .i64 1,.func 156 [] [],0⟩,⟨.int .i64 2,.func 157 [] [],0⟩,⟨.int .i64 3,.func 158 [] [],0⟩]) (es':=EE Rows.laid_portolan_field_fields) (k5.trans (List.Perm.of_eq (by kernel_rfl))) (j5.trans (List.Perm.of_eq (by kernel_rfl))) (by kernel_rfl) (by kernel_rfl) (by simp)
  ·exact(hap 4 5 _ (by omega) (by rw[hlen];omega) mp2 (by rw[he];exact mp0)).elim
  ·exfalso
   have he:=he.symm
   obtain⟨b1,en1,ck1,fs1,k1,_,k3,k4,k5⟩:=rm1 σ
   obtain⟨b2,en2,ck2,fs2,j1,_,j3,j4,j5⟩:=rm2 σ
   rw[ms1] at k1;cases k1
   rw[ms2] at j1;cases j1
   rw[he,j3] at k3;cases k3
   exact Le k4 j4 (es:=[⟨.int .i64 1,.func 156 [] [],0⟩,⟨.int .i64 2,.func 157 [] [],0⟩,⟨.int .i64 3,.func 158 [] [],0⟩]) (es':=EE Rows.laid_portolan_field_fields) (k5.trans (List.Perm.of_eq (by kernel_rfl))) (j5.trans (List.Perm.of_eq (by kernel_rfl))) (by kernel_rfl) (by kernel_rfl) (by simp)
end
end Go.AI
