/- What the condition of ChunkChecks says of the world: proved; the package-level variables that its row lists hold what the program's text lays. -/
import Derived.Test.YtlaambpobnkkbaaGreatDoorKN
import Derived.Test.YtlaambpobnkkbaaGreatDoorTie
import Derived.Test.YtlaambpobnkkbaaGreatDoorCards
import Derived.ProofKit
import Derived.OpenShut
import Derived.LaidMore
import Derived.Lay
import Derived.LaidHandle
import Derived.SevenTiedAt
import Derived.Stop.Joined
set_option maxRecDepth 1000000
set_option maxHeartbeats 0
set_option linter.unusedVariables false
set_option linter.unusedSimpArgs false
namespace Go.AI
open Go Go.Proofs Go.Proofs.YtlaambpobnkkbaaGreatDoor
noncomputable section
noncomputable abbrev Tz:=Tryz.prog
theorem Zjt{W:World}:UI Tz W 22 1:=JJ Tryz.underlying22
theorem Znf{W:World}:UI Tz W 82 (8*1):=S3 Tryz.underlying82 (by kernel_rfl) (by kernel_rfl) Zjt
theorem Zne{W:World}:UI Tz W 80 (64*1):=S3 Tryz.underlying80 (by kernel_rfl) (by kernel_rfl) Zjt
theorem rd3{W:World}:UI Tz W 3 1:=JJ Tryz.underlying3
theorem Zjn{W:World}:UI Tz W 170 (2*1):=S3 Tryz.underlying170 (by kernel_rfl) (by kernel_rfl) rd3
theorem Znd{W:World}:UI Tz W 78 1:=JJ Tryz.underlying78
theorem Zjo{W:World}:UI Tz W 202 (20*1):=S3 Tryz.underlying202 (by kernel_rfl) (by kernel_rfl) Znd
theorem rd5{W:World}:UI Tz W 5 1:=JJ Tryz.underlying5
theorem Zjp{W:World}:UI Tz W 209 (256*1):=S3 Tryz.underlying209 (by kernel_rfl) (by kernel_rfl) rd5
theorem Zjq{W:World}:UI Tz W 211 2:=rY Tryz.underlying211 rfl rfl rfl rfl (by kernel_rfl) (by kernel_rfl) rd5
theorem Zjr{W:World}:UI Tz W 212 (16*2):=S3 Tryz.underlying212 (by kernel_rfl) (by kernel_rfl) Zjq
theorem Znc{W:World}:UI Tz W 54 (32*1):=S3 Tryz.underlying54 (by kernel_rfl) (by kernel_rfl) rd5
theorem Zjs{W:World}:UI Tz W 213 (64*1):=S3 Tryz.underlying213 (by kernel_rfl) (by kernel_rfl) rd5
theorem Ox(d:DataW Unit){key:Lit}(h:(key,d)∈(match Rows.laid_portolan_field_fields with|.map l=>l|_=>([]:List (Lit×DataW Unit)))): ∃ds,d=.agg ds:=by
 unfold Rows.laid_portolan_field_fields at h
 simp only[ZR,Prod.mk.injEq,U7,or_false] at h
 rcases h with⟨_,rfl⟩|⟨_,rfl⟩|⟨_,rfl⟩|⟨_,rfl⟩|⟨_,rfl⟩|⟨_,rfl⟩|⟨_,rfl⟩|⟨_,rfl⟩|⟨_,rfl⟩|⟨_,rfl⟩|⟨_,rfl⟩|⟨_,rfl⟩|⟨_,rfl⟩|⟨_,rfl⟩|⟨_,rfl⟩|⟨_,rfl⟩<;>exact⟨_,rfl⟩
noncomputable def ie(d:DataW (List UInt8)):AV:=match d with|.held n=>cond (n==Tryz.f172.name.toUTF8.data.toList) (.func 172 [] []) (cond (n==Tryz.f173.name.toUTF8.data.toList) (.func 173 [] []) (cond (n==Tryz.f174.name.toUTF8.data.toList) (.func 174 [] []) (.unk)))|_=>.unk
noncomputable def Zal:List (DataW (List UInt8)):=[.held Tryz.f172.name.toUTF8.data.toList,.held Tryz.f173.name.toUTF8.data.toList,.held Tryz.f174.name.toUTF8.data.toList]
noncomputable def ZeF:DataW Unit:=match Rows.laid_portolan_path_classes with|.iface _ d=>d|_=>.nil
noncomputable def ZeG:List (Lit×DataW (List UInt8)):=match ZeF.funcsOut with|.map l=>l|_=>[]
theorem Zam(d:DataW (List UInt8)){key:Lit}(h:(key,d)∈ZeG):d∈Zal:=by
 have e:ZeG.map Prod.snd=Zal:=by kernel_rfl
 rw[<-e]
 exact YV.2 ⟨_,h,rfl⟩
theorem ig{σ:Mp}{W:World}(x:Value)(n:Nat)(y:DataW (List UInt8)×List MemPlace)(hf:x.formed Tz 107=true)(h:DataW.trod (funcToken Tz) Tz W 0 (λ_=>true) true n 107 x.cells.toList=some y)(hy:y.1∈Zal):Yk σ (ie y.1) x:=by
 unfold Zal at hy
 simp only[ZR,U7,or_false] at hy
 rcases hy with hy|hy|hy
 ·rw[hy,show ie (.held Tryz.f172.name.toUTF8.data.toList)=.func 172 [] [] by kernel_rfl]
  exact B7 (name:=Tryz.f172.name) Tryz.underlying107 (by kernel_rfl) (by decide+kernel) x n y hf h hy
 ·rw[hy,show ie (.held Tryz.f173.name.toUTF8.data.toList)=.func 173 [] [] by kernel_rfl]
  exact B7 (name:=Tryz.f173.name) Tryz.underlying107 (by kernel_rfl) (by decide+kernel) x n y hf h hy
 ·rw[hy,show ie (.held Tryz.f174.name.toUTF8.data.toList)=.func 174 [] [] by kernel_rfl]
  exact B7 (name:=Tryz.f174.name) Tryz.underlying107 (by kernel_rfl) (by decide+kernel) x n y hf h hy
theorem cC{W:World}(hH:laidMetH Tz Rows.chunkChecksRow.laid W): ∃(σ:Mp) (e:Nat->Nat),WM Tz σ (H0 e) W:=by
 have hL:=Aj hH
 obtain⟨ps,hlv,hnd,hcell⟩:=hL
 obtain⟨pf,hpf,_,hap⟩:=EQ hlv
 have hap:=hap hnd
 have hlen:(Rows.chunkChecksRow.laid.filter λx=>x.2.handleName?.isNone).length=9:=by kernel_rfl
 have tab: ∀{i:Nat} {n:String} {d:DataW Unit} {g t c:Nat},(Rows.chunkChecksRow.laid.filter λx=>x.2.handleName?.isNone)[i]? =some (n,d)->Tz.globalNamed n=some g->(Tz.globals[g]?).map (·.type)=some t->UI Tz W t c->
   ∃cs e fr,W.heap[g]? =some (.cells cs e fr)∧YE (λ_=>none) (T0 d) cs.toList∧ ∀v∈cs,v.oneCell'=true:=by
  intro i n d g t c hm hg ht hr
  obtain⟨g',t',cs,fuel,h1,h2,h3,h4,_⟩:=hpf i n d hm
  obtain rfl:=Option.some.inj (hg.symm.trans h1)
  obtain rfl:=Option.some.inj (ht.symm.trans h2)
  obtain⟨_,h5,h6⟩:=hr fuel cs.toList (d,pf i) h4
  obtain⟨e,fr,h7⟩:=JQ h1 h3
  exact⟨cs,e,fr,h7,h5,λv hv=>h6 v (Xd.2 hv)⟩
 obtain⟨g',t',cs0,fuel0,p0,q1,q2,q3,q4⟩:=laidMetH.funcs hH (n:= "portolan/path.classes") (d:=ZeF) (VN (i:=5) (by kernel_rfl))
 have q5:DataW.funcsOut ZeF=.map ZeG:=by kernel_rfl
 rw[q5] at q4
 obtain rfl:0=g':=Option.some.inj ((show Tz.globalNamed "portolan/path.classes" =some 0 by kernel_rfl).symm.trans q1)
 obtain rfl:108=t':=Option.some.inj ((show(Tz.globals[0]?).map (·.type)=some 108 by kernel_rfl).symm.trans q2)
 obtain⟨e0,fr0,h0⟩:=JQ q1 q3
 have rm0:=λσ:Mp=>FW (P:=Tz) (σ:=σ) (fk:=vE) (fv:=ie) Tryz.underlying108 q4 (vB Tryz.underlying3)
  (λx n y hf hy hk=>by
   obtain⟨key,hk⟩:=hk
   have hk:=Zam _ hk
   exact ig x n y hf hy hk)
 clear q1 q2 q3 q4
 obtain⟨g',t',cs1,fuel1,q1,q2,q3,q4,_⟩:=hpf 7 "portolan/tar.types" Rows.laid_portolan_tar_types (by kernel_rfl)
 obtain rfl:1=g':=Option.some.inj ((show Tz.globalNamed "portolan/tar.types" =some 1 by kernel_rfl).symm.trans q1)
 obtain rfl:109=t':=Option.some.inj ((show(Tz.globals[1]?).map (·.type)=some 109 by kernel_rfl).symm.trans q2)
 obtain⟨e1,fr1,h1⟩:=JQ q1 q3
 have rm1:=λσ:Mp=>FW (P:=Tz) (σ:=σ) (fk:=vE) (fv:=rd) Tryz.underlying109 q4 (vB Tryz.underlying3)
  (λx n y hf hy _=>Zcd Tryz.underlying5 x n y hf hy)
 clear q1 q2 q3 q4
 obtain⟨cs2,e2,fr2,h2,l2,o2⟩:=tab (i:=6) (n:= "portolan/sha.beginning") (d:=Rows.laid_portolan_sha_beginning) (g:=2) (t:=82) (by kernel_rfl) (by kernel_rfl) (by kernel_rfl) Znf
 obtain⟨cs3,e3,fr3,h3,l3,o3⟩:=tab (i:=5) (n:= "portolan/sha.constants") (d:=Rows.laid_portolan_sha_constants) (g:=3) (t:=80) (by kernel_rfl) (by kernel_rfl) (by kernel_rfl) Zne
 obtain⟨g',t',cs5,fuel5,q1,q2,q3,q4,_⟩:=hpf 4 "portolan/field.fields" Rows.laid_portolan_field_fields (by kernel_rfl)
 obtain rfl:5=g':=Option.some.inj ((show Tz.globalNamed "portolan/field.fields" =some 5 by kernel_rfl).symm.trans q1)
 obtain rfl:172=t':=Option.some.inj ((show(Tz.globals[5]?).map (·.type)=some 172 by kernel_rfl).symm.trans q2)
 obtain⟨e5,fr5,h5⟩:=JQ q1 q3
 have rm5:=λσ:Mp=>FW (P:=Tz) (σ:=σ) (fk:=vE) (fv:=rd) Tryz.underlying172 q4 (fm Tryz.underlying9)
  (λx n y hf hy hk=>Zcc Zjn ⟨_,_,Tryz.underlying170⟩ x n y hf hy (by
   obtain⟨key,hk⟩:=hk
   exact Ox _ hk))
 clear q1 q2 q3 q4
 obtain⟨cs6,e6,fr6,h6,l6,o6⟩:=tab (i:=2) (n:= "internal/strconv.uint64pow10") (d:=Rows.laid_internal_strconv_uint64pow10) (g:=6) (t:=202) (by kernel_rfl) (by kernel_rfl) (by kernel_rfl) Zjo
 obtain⟨cs7,e7,fr7,h7,l7,o7⟩:=tab (i:=8) (n:= "unicode/utf8.first") (d:=Rows.laid_unicode_utf8_first) (g:=7) (t:=209) (by kernel_rfl) (by kernel_rfl) (by kernel_rfl) Zjp
 obtain⟨cs8,e8,fr8,h8,l8,o8⟩:=tab (i:=3) (n:= "unicode/utf8.acceptRanges") (d:=Rows.laid_unicode_utf8_acceptRanges) (g:=8) (t:=212) (by kernel_rfl) (by kernel_rfl) (by kernel_rfl) Zjr
 obtain⟨cs9,e9,fr9,h9,l9,o9⟩:=tab (i:=0) (n:= "math/bits.deBruijn32tab") (d:=Rows.laid_math_bits_deBruijn32tab) (g:=9) (t:=54) (by kernel_rfl) (by kernel_rfl) (by kernel_rfl) Znc
 obtain⟨Zlp,e10,Zl9,h10,l10,o10⟩:=tab (i:=1) (n:= "math/bits.deBruijn64tab") (d:=Rows.laid_math_bits_deBruijn64tab) (g:=10) (t:=213) (by kernel_rfl) (by kernel_rfl) (by kernel_rfl) Zjs
 obtain⟨b1,Zcp,ck1,_,ms1,mp1,mh1,_,_⟩:=rm1 (λ_=>none)
 obtain⟨b5,ents5,ck5,_,ms5,mp5,mh5,_,_⟩:=rm5 (λ_=>none)
 obtain⟨b0,ents0,ck0,_,ms0,mp0,mh0,_,_⟩:=rm0 (λ_=>none)
 let tot:Nat->Nat:=λg=>if g=2 then YL (T0 Rows.laid_portolan_sha_beginning) else if g=3 then YL (T0 Rows.laid_portolan_sha_constants) else if g=6 then YL (T0 Rows.laid_internal_strconv_uint64pow10) else if g=7 then YL (T0 Rows.laid_unicode_utf8_first) else if g=8 then YL (T0 Rows.laid_unicode_utf8_acceptRanges) else if g=9 then YL (T0 Rows.laid_math_bits_deBruijn32tab) else if g=10 then YL (T0 Rows.laid_math_bits_deBruijn64tab) else 1
 let σ:Mp:=λb=>if b<11 then some ⟨b,0,tot b,1⟩ else if b=12 then some ⟨b1,0,0,0⟩ else if b=13 then some ⟨b5,0,0,0⟩ else if b=11 then some ⟨b0,0,0,0⟩ else none
 let e:Nat->Nat:=λg=>if g=0 then e0 else if g=1 then e1 else if g=2 then e2 else if g=3 then e3 else if g=5 then e5 else if g=6 then e6 else if g=7 then e7 else if g=8 then e8 else if g=9 then e9 else if g=10 then e10 else 0
 have hx:Ext (λ_=>none) σ:=λb l h=>by cases h
 have hgs:Tz.globals.size=11:=by kernel_rfl
 refine⟨σ,e,oW (rs:=dq e) (ms:=pS) (λg hg=>?_) (λb l h=>?_) (λb ee l hm=>?_) (λb es hm=>?_) (λb es b' es' l l' hm hm' hl hl' he=>?_)⟩
 ·rw[hgs] at hg
  exact⟨⟨g,0,tot g,1⟩,if_pos hg,rfl,rfl⟩
 ·have h:(if b<11 then some (⟨b,0,tot b,1⟩:Loc) else if b=12 then some ⟨b1,0,0,0⟩ else if b=13 then some ⟨b5,0,0,0⟩ else if b=11 then some ⟨b0,0,0,0⟩ else none)=some l:=h
  repeat' (split at h)
  all_goals first|omega|cases h
 ·unfold dq at hm
  simp only[ZR,Prod.mk.injEq,U7,or_false] at hm
  rcases hm with⟨rfl,rfl,rfl⟩|⟨rfl,rfl,rfl⟩|⟨rfl,rfl,rfl⟩|⟨rfl,rfl,rfl⟩|⟨rfl,rfl,rfl⟩|⟨rfl,rfl,rfl⟩|⟨rfl,rfl,rfl⟩|⟨rfl,rfl,rfl⟩|⟨rfl,rfl,rfl⟩|⟨rfl,rfl,rfl⟩
  ·refine⟨cs0,fr0,rfl,h0,by rw[ms0];exact TR (by simp only[Yk];exact⟨⟨b0,0,0,0⟩,rfl,rfl⟩),λv hv=>?_⟩
   have:=Xd.2 hv
   rw[ms0] at this
   have:v=.map (some b0):=by simpa using this
   subst this;rfl
  ·refine⟨cs1,fr1,rfl,h1,by rw[ms1];exact TR (by simp only[Yk];exact⟨⟨b1,0,0,0⟩,rfl,rfl⟩),λv hv=>?_⟩
   have:=Xd.2 hv
   rw[ms1] at this
   have:v=.map (some b1):=by simpa using this
   subst this;rfl
  ·exact⟨cs2,fr2,rfl,h2,YE.mono hx l2,o2⟩
  ·exact⟨cs3,fr3,rfl,h3,YE.mono hx l3,o3⟩
  ·refine⟨cs5,fr5,rfl,h5,by rw[ms5];exact TR (by simp only[Yk];exact⟨⟨b5,0,0,0⟩,rfl,rfl⟩),λv hv=>?_⟩
   have:=Xd.2 hv
   rw[ms5] at this
   have:v=.map (some b5):=by simpa using this
   subst this;rfl
  ·exact⟨cs6,fr6,rfl,h6,YE.mono hx l6,o6⟩
  ·exact⟨cs7,fr7,rfl,h7,YE.mono hx l7,o7⟩
  ·exact⟨cs8,fr8,rfl,h8,YE.mono hx l8,o8⟩
  ·exact⟨cs9,fr9,rfl,h9,YE.mono hx l9,o9⟩
  ·exact⟨Zlp,Zl9,rfl,h10,YE.mono hx l10,o10⟩
 ·unfold pS at hm
  simp only[ZR,Prod.mk.injEq,U7,or_false] at hm
  rcases hm with⟨rfl,rfl⟩|⟨rfl,rfl⟩|⟨rfl,rfl⟩
  ·obtain⟨b',ents,clock,fs,m1,_,m3,m4,m5⟩:=rm0 σ
   rw[ms0] at m1
   cases m1
   exact⟨⟨b0,0,0,0⟩,ents,clock,fs,rfl,m3,m4,m5.trans (List.Perm.of_eq (by kernel_rfl)),Mh (by kernel_rfl)⟩
  ·obtain⟨b',ents,clock,fs,m1,_,m3,m4,m5⟩:=rm1 σ
   rw[ms1] at m1
   cases m1
   exact⟨⟨b1,0,0,0⟩,ents,clock,fs,rfl,m3,m4,m5.trans (List.Perm.of_eq (by kernel_rfl)),Mh (by kernel_rfl)⟩
  ·obtain⟨b',ents,clock,fs,m1,_,m3,m4,m5⟩:=rm5 σ
   rw[ms5] at m1
   cases m1
   exact⟨⟨b5,0,0,0⟩,ents,clock,fs,rfl,m3,m4,m5.trans (List.Perm.of_eq (by kernel_rfl)),Mh (by kernel_rfl)⟩
 ·unfold pS at hm hm'
  simp only[ZR,Prod.mk.injEq,U7,or_false] at hm hm'
  rcases hm with⟨rfl,rfl⟩|⟨rfl,rfl⟩|⟨rfl,rfl⟩<;>rcases hm' with⟨rfl,rfl⟩|⟨rfl,rfl⟩|⟨rfl,rfl⟩<;>cases hl<;>cases hl'<;>simp only at he<;>first|rfl|skip
  ·exfalso
   have he:=he
   obtain⟨b1,en1,ck1,fs1,k1,_,k3,k4,k5⟩:=rm0 σ
   obtain⟨b2,en2,ck2,fs2,j1,_,j3,j4,j5⟩:=rm1 σ
   rw[ms0] at k1;cases k1
   rw[ms1] at j1;cases j1
   rw[he,j3] at k3;cases k3
   exact LI k4 j4 (es:=[⟨.int .i64 1,.func 172 [] [],0⟩,⟨.int .i64 2,.func 173 [] [],0⟩,⟨.int .i64 3,.func 174 [] [],0⟩]) (es':=C4 Rows.laid_portolan_tar_types) (k5.trans (List.Perm.of_eq (by kernel_rfl))) (j5.trans (List.Perm.of_eq (by kernel_rfl))) (by kernel_rfl) (by kernel_rfl) (by simp)
  ·exfalso
   have he:=he
   obtain⟨b1,en1,ck1,fs1,k1,_,k3,k4,k5⟩:=rm0 σ
   obtain⟨b2,en2,ck2,fs2,j1,_,j3,j4,j5⟩:=rm5 σ
   rw[ms0] at k1;cases k1
   rw[ms5] at j1;cases j1
   rw[he,j3] at k3;cases k3
   exact LI k4 j4 (es:=[⟨.int .i64 1,.func 172 [] [],0⟩,⟨.int .i64 2,.func 173 [] [],0⟩,⟨.int .i64 3,.func 174 [] [],0⟩]) (es':=C4 Rows.laid_portolan_field_fields) (k5.trans (List.Perm.of_eq (by kernel_rfl))) (j5.trans (List.Perm.of_eq (by kernel_rfl))) (by kernel_rfl) (by kernel_rfl) (by simp)
  ·exfalso
   have he:=he.symm
   obtain⟨b1,en1,ck1,fs1,k1,_,k3,k4,k5⟩:=rm0 σ
   obtain⟨b2,en2,ck2,fs2,j1,_,j3,j4,j5⟩:=rm1 σ
   rw[ms0] at k1;cases k1
   rw[ms1] at j1;cases j1
   rw[he,j3] at k3;cases k3
   exact LI k4 j4 (es:=[⟨.int .i64 1,.func 172 [] [],0⟩,⟨.int .i64 2,.func 173 [] [],0⟩,⟨.int .i64 3,.func 174 [] [],0⟩]) (es':=C4 Rows.laid_portolan_tar_types) (k5.trans (List.Perm.of_eq (by kernel_rfl))) (j5.trans (List.Perm.of_eq (by kernel_rfl))) (by kernel_rfl) (by kernel_rfl) (by simp)
  ·exact(hap 4 7 _ (by omega) (by rw[hlen];omega) mp5 (by rw[<-he];exact mp1)).elim
  ·exfalso
   have he:=he.symm
   obtain⟨b1,en1,ck1,fs1,k1,_,k3,k4,k5⟩:=rm0 σ
   obtain⟨b2,en2,ck2,fs2,j1,_,j3,j4,j5⟩:=rm5 σ
   rw[ms0] at k1;cases k1
   rw[ms5] at j1;cases j1
   rw[he,j3] at k3;cases k3
   exact LI k4 j4 (es:=[⟨.int .i64 1,.func 172 [] [],0⟩,⟨.int .i64 2,.func 173 [] [],0⟩,⟨.int .i64 3,.func 174 [] [],0⟩]) (es':=C4 Rows.laid_portolan_field_fields) (k5.trans (List.Perm.of_eq (by kernel_rfl))) (j5.trans (List.Perm.of_eq (by kernel_rfl))) (by kernel_rfl) (by kernel_rfl) (by simp)
  ·exact(hap 4 7 _ (by omega) (by rw[hlen];omega) mp5 (by rw[he];exact mp1)).elim
end
end Go.AI
