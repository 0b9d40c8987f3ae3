/- What the condition of ChunkSizes says of the world: proved; the package-level variables that its row lists hold what the program's text lays. -/
import Derived.Test.YtbdmnfoadmfjpaaGreatDoorKN
import Derived.Test.YtbdmnfoadmfjpaaGreatDoorTie
import Derived.Test.YtbdmnfoadmfjpaaGreatDoorCards
import Derived.ProofKit
import Derived.OpenShut
import Derived.LaidMore
import Derived.Lay
import Derived.LaidHandle
import Derived.SevenTiedAt
import Derived.Stop.Joined
set_option maxRecDepth 1000000
set_option maxHeartbeats 0
set_option linter.unusedVariables false
set_option linter.unusedSimpArgs false
namespace Go.AI
open Go Go.Proofs Go.Proofs.YtbdmnfoadmfjpaaGreatDoor
noncomputable section
noncomputable abbrev Tz:=Tryz.prog
theorem rd3{W:World}:UK Tz W 3 1:=Iw Tryz.underlying3
theorem ZkZ{W:World}:UK Tz W 126 (2*1):=SY Tryz.underlying126 (by kernel_rfl) (by kernel_rfl) rd3
theorem Zk7{W:World}:UK Tz W 30 1:=Iw Tryz.underlying30
theorem Zk0{W:World}:UK Tz W 143 (8*1):=SY Tryz.underlying143 (by kernel_rfl) (by kernel_rfl) Zk7
theorem Zk1{W:World}:UK Tz W 165 (64*1):=SY Tryz.underlying165 (by kernel_rfl) (by kernel_rfl) Zk7
theorem ZkY{W:World}:UK Tz W 124 1:=Iw Tryz.underlying124
theorem Zk2{W:World}:UK Tz W 173 (20*1):=SY Tryz.underlying173 (by kernel_rfl) (by kernel_rfl) ZkY
theorem rd5{W:World}:UK Tz W 5 1:=Iw Tryz.underlying5
theorem Zpc{W:World}:UK Tz W 37 (32*1):=SY Tryz.underlying37 (by kernel_rfl) (by kernel_rfl) rd5
theorem Zk3{W:World}:UK Tz W 182 (64*1):=SY Tryz.underlying182 (by kernel_rfl) (by kernel_rfl) rd5
theorem Zk4{W:World}:UK Tz W 183 (256*1):=SY Tryz.underlying183 (by kernel_rfl) (by kernel_rfl) rd5
theorem Zk5{W:World}:UK Tz W 185 2:=p7 Tryz.underlying185 rfl rfl rfl rfl (by kernel_rfl) (by kernel_rfl) rd5
theorem Zk6{W:World}:UK Tz W 186 (16*2):=SY Tryz.underlying186 (by kernel_rfl) (by kernel_rfl) Zk5
theorem OC(d:DataW Unit){key:Lit}(h:(key,d)∈(match Rows.laid_portolan_field_fields with|.map l=>l|_=>([]:List (Lit×DataW Unit)))): ∃ds,d=.agg ds:=by
 unfold Rows.laid_portolan_field_fields at h
 simp only[Yi,Prod.mk.injEq,TY,or_false] at h
 rcases h with⟨_,rfl⟩|⟨_,rfl⟩|⟨_,rfl⟩|⟨_,rfl⟩|⟨_,rfl⟩|⟨_,rfl⟩|⟨_,rfl⟩|⟨_,rfl⟩|⟨_,rfl⟩|⟨_,rfl⟩|⟨_,rfl⟩|⟨_,rfl⟩|⟨_,rfl⟩|⟨_,rfl⟩|⟨_,rfl⟩|⟨_,rfl⟩<;>exact⟨_,rfl⟩
noncomputable def dG(d:DataW (List UInt8)):AV:=match d with|.held n=>cond (n==Tryz.f147.name.toUTF8.data.toList) (.func 147 [] []) (cond (n==Tryz.f148.name.toUTF8.data.toList) (.func 148 [] []) (cond (n==Tryz.f149.name.toUTF8.data.toList) (.func 149 [] []) (.unk)))|_=>.unk
noncomputable def ZcQ:List (DataW (List UInt8)):=[.held Tryz.f147.name.toUTF8.data.toList,.held Tryz.f148.name.toUTF8.data.toList,.held Tryz.f149.name.toUTF8.data.toList]
noncomputable def ZgC:DataW Unit:=match Rows.laid_portolan_path_classes with|.iface _ d=>d|_=>.nil
noncomputable def ZgD:List (Lit×DataW (List UInt8)):=match ZgC.funcsOut with|.map l=>l|_=>[]
theorem ZcR(d:DataW (List UInt8)){key:Lit}(h:(key,d)∈ZgD):d∈ZcQ:=by
 have e:ZgD.map Prod.snd=ZcQ:=by kernel_rfl
 rw[<-e]
 exact Xu.2 ⟨_,h,rfl⟩
theorem dH{σ:Mp}{W:World}(x:Value)(n:Nat)(y:DataW (List UInt8)×List MemPlace)(hf:x.formed Tz 78=true)(h:DataW.trod (funcToken Tz) Tz W 0 (λ_=>true) true n 78 x.cells.toList=some y)(hy:y.1∈ZcQ):YY σ (dG y.1) x:=by
 unfold ZcQ at hy
 simp only[Yi,TY,or_false] at hy
 rcases hy with hy|hy|hy
 ·rw[hy,show dG (.held Tryz.f147.name.toUTF8.data.toList)=.func 147 [] [] by kernel_rfl]
  exact za (name:=Tryz.f147.name) Tryz.underlying78 (by kernel_rfl) (by decide+kernel) x n y hf h hy
 ·rw[hy,show dG (.held Tryz.f148.name.toUTF8.data.toList)=.func 148 [] [] by kernel_rfl]
  exact za (name:=Tryz.f148.name) Tryz.underlying78 (by kernel_rfl) (by decide+kernel) x n y hf h hy
 ·rw[hy,show dG (.held Tryz.f149.name.toUTF8.data.toList)=.func 149 [] [] by kernel_rfl]
  exact za (name:=Tryz.f149.name) Tryz.underlying78 (by kernel_rfl) (by decide+kernel) x n y hf h hy
theorem Za9{W:World}(hH:laidMetH Tz Rows.chunkSizesRow.laid W): ∃(σ:Mp) (e:Nat->Nat),WU Tz σ (H0 e) W:=by
 have hL:=zr hH
 obtain⟨ps,hlv,hnd,hcell⟩:=hL
 obtain⟨pf,hpf,_,hap⟩:=DB hlv
 have hap:=hap hnd
 have hlen:(Rows.chunkSizesRow.laid.filter λx=>x.2.handleName?.isNone).length=9:=by kernel_rfl
 have tab: ∀{i:Nat} {n:String} {d:DataW Unit} {g t c:Nat},(Rows.chunkSizesRow.laid.filter λx=>x.2.handleName?.isNone)[i]? =some (n,d)->Tz.globalNamed n=some g->(Tz.globals[g]?).map (·.type)=some t->UK Tz W t c->
   ∃cs e fr,W.heap[g]? =some (.cells cs e fr)∧Xk (λ_=>none) (Ur d) cs.toList∧ ∀v∈cs,v.oneCell'=true:=by
  intro i n d g t c hm hg ht hr
  obtain⟨g',t',cs,fuel,h1,h2,h3,h4,_⟩:=hpf i n d hm
  obtain rfl:=Option.some.inj (hg.symm.trans h1)
  obtain rfl:=Option.some.inj (ht.symm.trans h2)
  obtain⟨_,h5,h6⟩:=hr fuel cs.toList (d,pf i) h4
  obtain⟨e,fr,h7⟩:=IF h1 h3
  exact⟨cs,e,fr,h7,h5,λv hv=>h6 v (XK.2 hv)⟩
 obtain⟨g',t',cs0,fuel0,p0,q1,q2,q3,q4⟩:=laidMetH.funcs hH (n:= "portolan/path.classes") (d:=ZgC) (VN (i:=5) (by kernel_rfl))
 have q5:DataW.funcsOut ZgC=.map ZgD:=by kernel_rfl
 rw[q5] at q4
 obtain rfl:0=g':=Option.some.inj ((show Tz.globalNamed "portolan/path.classes" =some 0 by kernel_rfl).symm.trans q1)
 obtain rfl:79=t':=Option.some.inj ((show(Tz.globals[0]?).map (·.type)=some 79 by kernel_rfl).symm.trans q2)
 obtain⟨e0,fr0,h0⟩:=IF q1 q3
 have rm0:=λσ:Mp=>EJ (P:=Tz) (σ:=σ) (fk:=tC) (fv:=dG) Tryz.underlying79 q4 (tw Tryz.underlying3)
  (λx n y hf hy hk=>by
   obtain⟨key,hk⟩:=hk
   have hk:=ZcR _ hk
   exact dH x n y hf hy hk)
 clear q1 q2 q3 q4
 obtain⟨g',t',cs1,fuel1,q1,q2,q3,q4,_⟩:=hpf 7 "portolan/tar.types" Rows.laid_portolan_tar_types (by kernel_rfl)
 obtain rfl:1=g':=Option.some.inj ((show Tz.globalNamed "portolan/tar.types" =some 1 by kernel_rfl).symm.trans q1)
 obtain rfl:81=t':=Option.some.inj ((show(Tz.globals[1]?).map (·.type)=some 81 by kernel_rfl).symm.trans q2)
 obtain⟨e1,fr1,h1⟩:=IF q1 q3
 have rm1:=λσ:Mp=>EJ (P:=Tz) (σ:=σ) (fk:=tC) (fv:=pu) Tryz.underlying81 q4 (tw Tryz.underlying3)
  (λx n y hf hy _=>ZeT Tryz.underlying5 x n y hf hy)
 clear q1 q2 q3 q4
 obtain⟨g',t',cs2,fuel2,q1,q2,q3,q4,_⟩:=hpf 4 "portolan/field.fields" Rows.laid_portolan_field_fields (by kernel_rfl)
 obtain rfl:2=g':=Option.some.inj ((show Tz.globalNamed "portolan/field.fields" =some 2 by kernel_rfl).symm.trans q1)
 obtain rfl:128=t':=Option.some.inj ((show(Tz.globals[2]?).map (·.type)=some 128 by kernel_rfl).symm.trans q2)
 obtain⟨e2,fr2,h2⟩:=IF q1 q3
 have rm2:=λσ:Mp=>EJ (P:=Tz) (σ:=σ) (fk:=tC) (fv:=pu) Tryz.underlying128 q4 (bS Tryz.underlying9)
  (λx n y hf hy hk=>ZeS ZkZ ⟨_,_,Tryz.underlying126⟩ x n y hf hy (by
   obtain⟨key,hk⟩:=hk
   exact OC _ hk))
 clear q1 q2 q3 q4
 obtain⟨cs3,e3,fr3,h3,l3,o3⟩:=tab (i:=6) (n:= "portolan/sha.beginning") (d:=Rows.laid_portolan_sha_beginning) (g:=3) (t:=143) (by kernel_rfl) (by kernel_rfl) (by kernel_rfl) Zk0
 obtain⟨cs5,e5,fr5,h5,l5,o5⟩:=tab (i:=5) (n:= "portolan/sha.constants") (d:=Rows.laid_portolan_sha_constants) (g:=5) (t:=165) (by kernel_rfl) (by kernel_rfl) (by kernel_rfl) Zk1
 obtain⟨cs6,e6,fr6,h6,l6,o6⟩:=tab (i:=2) (n:= "internal/strconv.uint64pow10") (d:=Rows.laid_internal_strconv_uint64pow10) (g:=6) (t:=173) (by kernel_rfl) (by kernel_rfl) (by kernel_rfl) Zk2
 obtain⟨cs7,e7,fr7,h7,l7,o7⟩:=tab (i:=0) (n:= "math/bits.deBruijn32tab") (d:=Rows.laid_math_bits_deBruijn32tab) (g:=7) (t:=37) (by kernel_rfl) (by kernel_rfl) (by kernel_rfl) Zpc
 obtain⟨cs8,e8,fr8,h8,l8,o8⟩:=tab (i:=1) (n:= "math/bits.deBruijn64tab") (d:=Rows.laid_math_bits_deBruijn64tab) (g:=8) (t:=182) (by kernel_rfl) (by kernel_rfl) (by kernel_rfl) Zk3
 obtain⟨cs9,e9,fr9,h9,l9,o9⟩:=tab (i:=8) (n:= "unicode/utf8.first") (d:=Rows.laid_unicode_utf8_first) (g:=9) (t:=183) (by kernel_rfl) (by kernel_rfl) (by kernel_rfl) Zk4
 obtain⟨Znl,e10,ZnV,h10,l10,o10⟩:=tab (i:=3) (n:= "unicode/utf8.acceptRanges") (d:=Rows.laid_unicode_utf8_acceptRanges) (g:=10) (t:=186) (by kernel_rfl) (by kernel_rfl) (by kernel_rfl) Zk6
 obtain⟨b1,Ze6,ck1,_,ms1,mp1,mh1,_,_⟩:=rm1 (λ_=>none)
 obtain⟨b2,ents2,ck2,_,ms2,mp2,mh2,_,_⟩:=rm2 (λ_=>none)
 obtain⟨b0,ents0,ck0,_,ms0,mp0,mh0,_,_⟩:=rm0 (λ_=>none)
 let tot:Nat->Nat:=λg=>if g=3 then Xc (Ur Rows.laid_portolan_sha_beginning) else if g=5 then Xc (Ur Rows.laid_portolan_sha_constants) else if g=6 then Xc (Ur Rows.laid_internal_strconv_uint64pow10) else if g=7 then Xc (Ur Rows.laid_math_bits_deBruijn32tab) else if g=8 then Xc (Ur Rows.laid_math_bits_deBruijn64tab) else if g=9 then Xc (Ur Rows.laid_unicode_utf8_first) else if g=10 then Xc (Ur Rows.laid_unicode_utf8_acceptRanges) else 1
 let σ:Mp:=λb=>if b<11 then some ⟨b,0,tot b,1⟩ else if b=12 then some ⟨b1,0,0,0⟩ else if b=13 then some ⟨b2,0,0,0⟩ else if b=11 then some ⟨b0,0,0,0⟩ else none
 let e:Nat->Nat:=λg=>if g=0 then e0 else if g=1 then e1 else if g=2 then e2 else if g=3 then e3 else if g=5 then e5 else if g=6 then e6 else if g=7 then e7 else if g=8 then e8 else if g=9 then e9 else if g=10 then e10 else 0
 have hx:Ext (λ_=>none) σ:=λb l h=>by cases h
 have hgs:Tz.globals.size=11:=by kernel_rfl
 refine⟨σ,e,kT (rs:=Zav e) (ms:=mW) (λg hg=>?_) (λb l h=>?_) (λb ee l hm=>?_) (λb es hm=>?_) (λb es b' es' l l' hm hm' hl hl' he=>?_)⟩
 ·rw[hgs] at hg
  exact⟨⟨g,0,tot g,1⟩,if_pos hg,rfl,rfl⟩
 ·have h:(if b<11 then some (⟨b,0,tot b,1⟩:Loc) else if b=12 then some ⟨b1,0,0,0⟩ else if b=13 then some ⟨b2,0,0,0⟩ else if b=11 then some ⟨b0,0,0,0⟩ else none)=some l:=h
  repeat' (split at h)
  all_goals first|omega|cases h
 ·unfold Zav at hm
  simp only[Yi,Prod.mk.injEq,TY,or_false] at hm
  rcases hm with⟨rfl,rfl,rfl⟩|⟨rfl,rfl,rfl⟩|⟨rfl,rfl,rfl⟩|⟨rfl,rfl,rfl⟩|⟨rfl,rfl,rfl⟩|⟨rfl,rfl,rfl⟩|⟨rfl,rfl,rfl⟩|⟨rfl,rfl,rfl⟩|⟨rfl,rfl,rfl⟩|⟨rfl,rfl,rfl⟩
  ·refine⟨cs0,fr0,rfl,h0,by rw[ms0];exact TO (by simp only[YY];exact⟨⟨b0,0,0,0⟩,rfl,rfl⟩),λv hv=>?_⟩
   have:=XK.2 hv
   rw[ms0] at this
   have:v=.map (some b0):=by simpa using this
   subst this;rfl
  ·refine⟨cs1,fr1,rfl,h1,by rw[ms1];exact TO (by simp only[YY];exact⟨⟨b1,0,0,0⟩,rfl,rfl⟩),λv hv=>?_⟩
   have:=XK.2 hv
   rw[ms1] at this
   have:v=.map (some b1):=by simpa using this
   subst this;rfl
  ·refine⟨cs2,fr2,rfl,h2,by rw[ms2];exact TO (by simp only[YY];exact⟨⟨b2,0,0,0⟩,rfl,rfl⟩),λv hv=>?_⟩
   have:=XK.2 hv
   rw[ms2] at this
   have:v=.map (some b2):=by simpa using this
   subst this;rfl
  ·exact⟨cs3,fr3,rfl,h3,Xk.mono hx l3,o3⟩
  ·exact⟨cs5,fr5,rfl,h5,Xk.mono hx l5,o5⟩
  ·exact⟨cs6,fr6,rfl,h6,Xk.mono hx l6,o6⟩
  ·exact⟨cs7,fr7,rfl,h7,Xk.mono hx l7,o7⟩
  ·exact⟨cs8,fr8,rfl,h8,Xk.mono hx l8,o8⟩
  ·exact⟨cs9,fr9,rfl,h9,Xk.mono hx l9,o9⟩
  ·exact⟨Znl,ZnV,rfl,h10,Xk.mono hx l10,o10⟩
 ·unfold mW at hm
  simp only[Yi,Prod.mk.injEq,TY,or_false] at hm
  rcases hm with⟨rfl,rfl⟩|⟨rfl,rfl⟩|⟨rfl,rfl⟩
  ·obtain⟨b',ents,clock,fs,m1,_,m3,m4,m5⟩:=rm0 σ
   rw[ms0] at m1
   cases m1
   exact⟨⟨b0,0,0,0⟩,ents,clock,fs,rfl,m3,m4,m5.trans (List.Perm.of_eq (by kernel_rfl)),MO (by kernel_rfl)⟩
  ·obtain⟨b',ents,clock,fs,m1,_,m3,m4,m5⟩:=rm1 σ
   rw[ms1] at m1
   cases m1
   exact⟨⟨b1,0,0,0⟩,ents,clock,fs,rfl,m3,m4,m5.trans (List.Perm.of_eq (by kernel_rfl)),MO (by kernel_rfl)⟩
  ·obtain⟨b',ents,clock,fs,m1,_,m3,m4,m5⟩:=rm2 σ
   rw[ms2] at m1
   cases m1
   exact⟨⟨b2,0,0,0⟩,ents,clock,fs,rfl,m3,m4,m5.trans (List.Perm.of_eq (by kernel_rfl)),MO (by kernel_rfl)⟩
 ·unfold mW at hm hm'
  simp only[Yi,Prod.mk.injEq,TY,or_false] at hm hm'
  rcases hm with⟨rfl,rfl⟩|⟨rfl,rfl⟩|⟨rfl,rfl⟩<;>rcases hm' with⟨rfl,rfl⟩|⟨rfl,rfl⟩|⟨rfl,rfl⟩<;>cases hl<;>cases hl'<;>simp only at he<;>first|rfl|skip
  ·exfalso
   have he:=he
   obtain⟨b1,en1,ck1,fs1,k1,_,k3,k4,k5⟩:=rm0 σ
   obtain⟨b2,en2,ck2,fs2,j1,_,j3,j4,j5⟩:=rm1 σ
   rw[ms0] at k1;cases k1
   rw[ms1] at j1;cases j1
   rw[he,j3] at k3;cases k3
   exact Kj k4 j4 (es:=[⟨.int .i64 1,.func 147 [] [],0⟩,⟨.int .i64 2,.func 148 [] [],0⟩,⟨.int .i64 3,.func 149 [] [],0⟩]) (es':=DC Rows.laid_portolan_tar_types) (k5.trans (List.Perm.of_eq (by kernel_rfl))) (j5.trans (List.Perm.of_eq (by kernel_rfl))) (by kernel_rfl) (by kernel_rfl) (by simp)
  ·exfalso
   have he:=he
   obtain⟨b1,en1,ck1,fs1,k1,_,k3,k4,k5⟩:=rm0 σ
   obtain⟨b2,en2,ck2,fs2,j1,_,j3,j4,j5⟩:=rm2 σ
   rw[ms0] at k1;cases k1
   rw[ms2] at j1;cases j1
   rw[he,j3] at k3;cases k3
   exact Kj k4 j4 (es:=[⟨.int .i64 1,.func 147 [] [],0⟩,⟨.int .i64 2,.func 148 [] [],0⟩,⟨.int .i64 3,.func 149 [] [],0⟩]) (es':=DC Rows.laid_portolan_field_fields) (k5.trans (List.Perm.of_eq (by kernel_rfl))) (j5.trans (List.Perm.of_eq (by kernel_rfl))) (by kernel_rfl) (by kernel_rfl) (by simp)
  ·exfalso
   have he:=he.symm
   obtain⟨b1,en1,ck1,fs1,k1,_,k3,k4,k5⟩:=rm0 σ
   obtain⟨b2,en2,ck2,fs2,j1,_,j3,j4,j5⟩:=rm1 σ
   rw[ms0] at k1;cases k1
   rw[ms1] at j1;cases j1
   rw[he,j3] at k3;cases k3
   exact Kj k4 j4 (es:=[⟨.int .i64 1,.func 147 [] [],0⟩,⟨.int .i64 2,.func 148 [] [],0⟩,⟨.int .i64 3,.func 149 [] [],0⟩]) (es':=DC Rows.laid_portolan_tar_types) (k5.trans (List.Perm.of_eq (by kernel_rfl))) (j5.trans (List.Perm.of_eq (by kernel_rfl))) (by kernel_rfl) (by kernel_rfl) (by simp)
  ·exact(hap 4 7 _ (by omega) (by rw[hlen];omega) mp2 (by rw[<-he];exact mp1)).elim
  ·exfalso
   have he:=he.symm
   obtain⟨b1,en1,ck1,fs1,k1,_,k3,k4,k5⟩:=rm0 σ
   obtain⟨b2,en2,ck2,fs2,j1,_,j3,j4,j5⟩:=rm2 σ
   rw[ms0] at k1;cases k1
   rw[ms2] at j1;cases j1
   rw[he,j3] at k3;cases k3
   exact Kj k4 j4 (es:=[⟨.int .i64 1,.func 147 [] [],0⟩,⟨.int .i64 2,.func 148 [] [],0⟩,⟨.int .i64 3,.func 149 [] [],0⟩]) (es':=DC Rows.laid_portolan_field_fields) (k5.trans (List.Perm.of_eq (by kernel_rfl))) (j5.trans (List.Perm.of_eq (by kernel_rfl))) (by kernel_rfl) (by kernel_rfl) (by simp)
  ·exact(hap 4 7 _ (by omega) (by rw[hlen];omega) mp2 (by rw[he];exact mp1)).elim
end
end Go.AI
