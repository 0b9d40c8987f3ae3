/- What the condition of TarSums says of the world: proved; the package-level variables that its row lists hold what the program's text lays. -/
import Derived.Test.YtbmdhpdcgbgcnaaGreatDoorKN
import Derived.Test.YtbmdhpdcgbgcnaaGreatDoorTie
import Derived.Test.YtbmdhpdcgbgcnaaGreatDoorCards
import Derived.ProofKit
import Derived.OpenShut
import Derived.LaidMore
import Derived.Lay
import Derived.LaidHandle
import Derived.SevenTiedAt
import Derived.Stop.Joined
set_option maxRecDepth 1000000
set_option maxHeartbeats 0
set_option linter.unusedVariables false
set_option linter.unusedSimpArgs false
namespace Go.AI
open Go Go.Proofs Go.Proofs.YtbmdhpdcgbgcnaaGreatDoor
noncomputable section
noncomputable abbrev Tz:=Tryz.prog
theorem rd3{W:World}:Tj Tz W 3 1:=HV Tryz.underlying3
theorem Ze7{W:World}:Tj Tz W 131 (2*1):=Qi Tryz.underlying131 (by kernel_rfl) (by kernel_rfl) rd3
theorem Ze6{W:World}:Tj Tz W 129 1:=HV Tryz.underlying129
theorem Ze8{W:World}:Tj Tz W 200 (20*1):=Qi Tryz.underlying200 (by kernel_rfl) (by kernel_rfl) Ze6
theorem rd5{W:World}:Tj Tz W 5 1:=HV Tryz.underlying5
theorem Ze9{W:World}:Tj Tz W 236 (32*1):=Qi Tryz.underlying236 (by kernel_rfl) (by kernel_rfl) rd5
theorem Zfa{W:World}:Tj Tz W 237 (64*1):=Qi Tryz.underlying237 (by kernel_rfl) (by kernel_rfl) rd5
theorem Zfb{W:World}:Tj Tz W 248 (256*1):=Qi Tryz.underlying248 (by kernel_rfl) (by kernel_rfl) rd5
theorem Zfc{W:World}:Tj Tz W 250 2:=tf Tryz.underlying250 rfl rfl rfl rfl (by kernel_rfl) (by kernel_rfl) rd5
theorem Zfd{W:World}:Tj Tz W 251 (16*2):=Qi Tryz.underlying251 (by kernel_rfl) (by kernel_rfl) Zfc
theorem fP:1<=Tz.cellsOf 254:=Zm (by kernel_rfl)
theorem m6(u:TypeId)(h:Tz.typeName? 3 u=some "*errors.errorString"):u=252:=by
 have hlt:=Cq (P:=Tz) (name:= "*errors.errorString") (inner:= "errors.errorString") (by decide) (λm h=>by
  have h2: "errors.errorString".toList=("*" ++m).toList:=by rw[<-h]
  rw[String.toList_append] at h2
  cases h2) (by kernel_rfl) h
 have hall:((List.range Tz.types.size).all λu=>Tz.typeName? 3 u !=some "*errors.errorString" ||u==252)=true:=by kernel_rfl
 have h3:=Y2.1 hall u (Tc.2 hlt)
 rw[h] at h3
 simpa using h3
theorem Ph(d:DataW Unit){key:Lit}(h:(key,d)∈(match Rows.laid_portolan_field_fields with|.map l=>l|_=>([]:List (Lit×DataW Unit)))): ∃ds,d=.agg ds:=by
 unfold Rows.laid_portolan_field_fields at h
 simp only[Ys,Prod.mk.injEq,Sn,or_false] at h
 rcases h with⟨_,rfl⟩|⟨_,rfl⟩|⟨_,rfl⟩|⟨_,rfl⟩|⟨_,rfl⟩|⟨_,rfl⟩|⟨_,rfl⟩|⟨_,rfl⟩|⟨_,rfl⟩|⟨_,rfl⟩|⟨_,rfl⟩|⟨_,rfl⟩|⟨_,rfl⟩|⟨_,rfl⟩|⟨_,rfl⟩|⟨_,rfl⟩<;>exact⟨_,rfl⟩
noncomputable def lA(d:DataW (List UInt8)):AV:=match d with|.held n=>cond (n==Tryz.f225.name.toUTF8.data.toList) (.func 225 [] []) (cond (n==Tryz.f226.name.toUTF8.data.toList) (.func 226 [] []) (cond (n==Tryz.f227.name.toUTF8.data.toList) (.func 227 [] []) (.unk)))|_=>.unk
noncomputable def eC:List (DataW (List UInt8)):=[.held Tryz.f225.name.toUTF8.data.toList,.held Tryz.f226.name.toUTF8.data.toList,.held Tryz.f227.name.toUTF8.data.toList]
noncomputable def Zbz:DataW Unit:=match Rows.laid_portolan_path_classes with|.iface _ d=>d|_=>.nil
noncomputable def ZbA:List (Lit×DataW (List UInt8)):=match Zbz.funcsOut with|.map l=>l|_=>[]
theorem eD(d:DataW (List UInt8)){key:Lit}(h:(key,d)∈ZbA):d∈eC:=by
 have e:ZbA.map Prod.snd=eC:=by kernel_rfl
 rw[<-e]
 exact Xq.2 ⟨_,h,rfl⟩
theorem lB{σ:Mp}{W:World}(x:Value)(n:Nat)(y:DataW (List UInt8)×List MemPlace)(hf:x.formed Tz 100=true)(h:DataW.trod (funcToken Tz) Tz W 0 (λ_=>true) true n 100 x.cells.toList=some y)(hy:y.1∈eC):YU σ (lA y.1) x:=by
 unfold eC at hy
 simp only[Ys,Sn,or_false] at hy
 rcases hy with hy|hy|hy
 ·rw[hy,show lA (.held Tryz.f225.name.toUTF8.data.toList)=.func 225 [] [] by kernel_rfl]
  exact D5 (name:=Tryz.f225.name) Tryz.underlying100 (by kernel_rfl) (by decide+kernel) x n y hf h hy
 ·rw[hy,show lA (.held Tryz.f226.name.toUTF8.data.toList)=.func 226 [] [] by kernel_rfl]
  exact D5 (name:=Tryz.f226.name) Tryz.underlying100 (by kernel_rfl) (by decide+kernel) x n y hf h hy
 ·rw[hy,show lA (.held Tryz.f227.name.toUTF8.data.toList)=.func 227 [] [] by kernel_rfl]
  exact D5 (name:=Tryz.f227.name) Tryz.underlying100 (by kernel_rfl) (by decide+kernel) x n y hf h hy
theorem i9{W:World}(hH:laidMetH Tz Rows.tarSumsRow.laid W): ∃(σ:Mp) (e:Nat->Nat),WL Tz σ (H0 e) W:=by
 have hL:=Cn hH
 obtain⟨ps,hlv,hnd,hcell⟩:=hL
 obtain⟨pf,hpf,_,hap⟩:=GZ hlv
 have hap:=hap hnd
 have hlen:(Rows.tarSumsRow.laid.filter λx=>x.2.handleName?.isNone).length=10:=by kernel_rfl
 have tab: ∀{i:Nat} {n:String} {d:DataW Unit} {g t c:Nat},(Rows.tarSumsRow.laid.filter λx=>x.2.handleName?.isNone)[i]? =some (n,d)->Tz.globalNamed n=some g->(Tz.globals[g]?).map (·.type)=some t->Tj Tz W t c->
   ∃cs e fr,W.heap[g]? =some (.cells cs e fr)∧Xj (λ_=>none) (SW d) cs.toList∧ ∀v∈cs,v.oneCell'=true:=by
  intro i n d g t c hm hg ht hr
  obtain⟨g',t',cs,fuel,h1,h2,h3,h4,_⟩:=hpf i n d hm
  obtain rfl:=Option.some.inj (hg.symm.trans h1)
  obtain rfl:=Option.some.inj (ht.symm.trans h2)
  obtain⟨_,h5,h6⟩:=hr fuel cs.toList (d,pf i) h4
  obtain⟨e,fr,h7⟩:=Oo h1 h3
  exact⟨cs,e,fr,h7,h5,λv hv=>h6 v (Xm.2 hv)⟩
 have err: ∀{i:Nat} {n:String} {D:DataW Unit} {g:Nat},(Rows.tarSumsRow.laid.filter λx=>x.2.handleName?.isNone)[i]? =some (n,DataW.iface "*errors.errorString" (.ptr D))->Tz.globalNamed n=some g->(Tz.globals[g]?).map (·.type)=some 142->
   ∃(cs:Array Value) (e:Nat) (fr:Nat×Nat) (a:Addr),W.heap[g]? =some (.cells cs e fr)∧a.spot=none∧cs.toList=[.iface 252 (.pointer (some a))]:=by
  intro i n D g hm hg ht
  obtain⟨g',t',cs,fuel,h1,h2,h3,h4,h5⟩:=hpf i n _ hm
  obtain rfl:=Option.some.inj (hg.symm.trans h1)
  obtain rfl:=Option.some.inj (ht.symm.trans h2)
  obtain⟨e,fr,h7⟩:=Oo h1 h3
  obtain⟨a,h8,h9⟩:=oQ Tryz.underlying142 h4 m6 Tryz.underlying252 fP (λu v hcs=>by
   have hsz:cs.size=1:=by rw[<-Array.length_toList,hcs];rfl
   have hin:=h5 (.cell g 0) (by rw[hsz];exact ZE ..)
   refine(hcell g 0 hin).2 u v ?_
   rw[World.var?_cell h1 h3 0,<-YE,hcs];rfl)
  exact⟨cs,e,fr,a,h7,h8,h9⟩
 obtain⟨g',t',cs0,fuel0,q1,q2,q3,q4,_⟩:=hpf 8 "portolan/tar.types" Rows.laid_portolan_tar_types (by kernel_rfl)
 obtain rfl:0=g':=Option.some.inj ((show Tz.globalNamed "portolan/tar.types" =some 0 by kernel_rfl).symm.trans q1)
 obtain rfl:67=t':=Option.some.inj ((show(Tz.globals[0]?).map (·.type)=some 67 by kernel_rfl).symm.trans q2)
 obtain⟨e0,fr0,h0⟩:=Oo q1 q3
 have rm0:=λσ:Mp=>L9 (P:=Tz) (σ:=σ) (fk:=zy) (fv:=xx) Tryz.underlying67 q4 (E9 Tryz.underlying3)
  (λx n y hf hy _=>qd Tryz.underlying5 x n y hf hy)
 clear q1 q2 q3 q4
 obtain⟨g',t',cs1,fuel1,q1,q2,q3,q4,_⟩:=hpf 7 "portolan/tar.kinds" Rows.laid_portolan_tar_kinds (by kernel_rfl)
 obtain rfl:1=g':=Option.some.inj ((show Tz.globalNamed "portolan/tar.kinds" =some 1 by kernel_rfl).symm.trans q1)
 obtain rfl:95=t':=Option.some.inj ((show(Tz.globals[1]?).map (·.type)=some 95 by kernel_rfl).symm.trans q2)
 obtain⟨e1,fr1,h1⟩:=Oo q1 q3
 have rm1:=λσ:Mp=>L9 (P:=Tz) (σ:=σ) (fk:=zy) (fv:=xx) Tryz.underlying95 q4 (E9 Tryz.underlying5)
  (λx n y hf hy _=>qd Tryz.underlying3 x n y hf hy)
 clear q1 q2 q3 q4
 obtain⟨g',t',cs2,fuel2,p2,q1,q2,q3,q4⟩:=laidMetH.funcs hH (n:= "portolan/path.classes") (d:=Zbz) (VG (i:=7) (by kernel_rfl))
 have q5:DataW.funcsOut Zbz=.map ZbA:=by kernel_rfl
 rw[q5] at q4
 obtain rfl:2=g':=Option.some.inj ((show Tz.globalNamed "portolan/path.classes" =some 2 by kernel_rfl).symm.trans q1)
 obtain rfl:101=t':=Option.some.inj ((show(Tz.globals[2]?).map (·.type)=some 101 by kernel_rfl).symm.trans q2)
 obtain⟨e2,fr2,h2⟩:=Oo q1 q3
 have rm2:=λσ:Mp=>L9 (P:=Tz) (σ:=σ) (fk:=zy) (fv:=lA) Tryz.underlying101 q4 (E9 Tryz.underlying3)
  (λx n y hf hy hk=>by
   obtain⟨key,hk⟩:=hk
   have hk:=eD _ hk
   exact lB x n y hf hy hk)
 clear q1 q2 q3 q4
 obtain⟨g',t',cs3,fuel3,q1,q2,q3,q4,_⟩:=hpf 6 "portolan/field.fields" Rows.laid_portolan_field_fields (by kernel_rfl)
 obtain rfl:3=g':=Option.some.inj ((show Tz.globalNamed "portolan/field.fields" =some 3 by kernel_rfl).symm.trans q1)
 obtain rfl:133=t':=Option.some.inj ((show(Tz.globals[3]?).map (·.type)=some 133 by kernel_rfl).symm.trans q2)
 obtain⟨e3,fr3,h3⟩:=Oo q1 q3
 have rm3:=λσ:Mp=>L9 (P:=Tz) (σ:=σ) (fk:=zy) (fv:=xx) Tryz.underlying133 q4 (kE Tryz.underlying9)
  (λx n y hf hy hk=>bN Ze7 ⟨_,_,Tryz.underlying131⟩ x n y hf hy (by
   obtain⟨key,hk⟩:=hk
   exact Ph _ hk))
 clear q1 q2 q3 q4
 obtain⟨cs5,e5,fr5,h5,l5,o5⟩:=tab (i:=2) (n:= "internal/strconv.uint64pow10") (d:=Rows.laid_internal_strconv_uint64pow10) (g:=5) (t:=200) (by kernel_rfl) (by kernel_rfl) (by kernel_rfl) Ze8
 obtain⟨cs6,e6,fr6,h6,l6,o6⟩:=tab (i:=0) (n:= "math/bits.deBruijn32tab") (d:=Rows.laid_math_bits_deBruijn32tab) (g:=6) (t:=236) (by kernel_rfl) (by kernel_rfl) (by kernel_rfl) Ze9
 obtain⟨cs7,e7,fr7,h7,l7,o7⟩:=tab (i:=1) (n:= "math/bits.deBruijn64tab") (d:=Rows.laid_math_bits_deBruijn64tab) (g:=7) (t:=237) (by kernel_rfl) (by kernel_rfl) (by kernel_rfl) Zfa
 obtain⟨cs8,e8,fr8,a8,h8,s8,l8⟩:=err (i:=5) (n:= "strconv.ErrSyntax") (D:=(match Rows.laid_strconv_ErrSyntax with|.iface _ (.ptr d)=>d|_=>(.nil:DataW Unit))) (g:=8) (by kernel_rfl) (by kernel_rfl) (by kernel_rfl)
 obtain⟨cs9,e9,fr9,a9,h9,s9,l9⟩:=err (i:=4) (n:= "strconv.ErrRange") (D:=(match Rows.laid_strconv_ErrRange with|.iface _ (.ptr d)=>d|_=>(.nil:DataW Unit))) (g:=9) (by kernel_rfl) (by kernel_rfl) (by kernel_rfl)
 obtain⟨ZhA,e10,ZhJ,h10,l10,o10⟩:=tab (i:=9) (n:= "unicode/utf8.first") (d:=Rows.laid_unicode_utf8_first) (g:=10) (t:=248) (by kernel_rfl) (by kernel_rfl) (by kernel_rfl) Zfb
 obtain⟨ZhB,e11,ZhK,h11,l11,o11⟩:=tab (i:=3) (n:= "unicode/utf8.acceptRanges") (d:=Rows.laid_unicode_utf8_acceptRanges) (g:=11) (t:=251) (by kernel_rfl) (by kernel_rfl) (by kernel_rfl) Zfd
 obtain⟨b0,ents0,ck0,_,ms0,mp0,mh0,_,_⟩:=rm0 (λ_=>none)
 obtain⟨b1,ac,ck1,_,ms1,mp1,mh1,_,_⟩:=rm1 (λ_=>none)
 obtain⟨b3,ents3,ck3,_,ms3,mp3,mh3,_,_⟩:=rm3 (λ_=>none)
 obtain⟨b2,ents2,ck2,_,dX,mp2,mh2,_,_⟩:=rm2 (λ_=>none)
 let tot:Nat->Nat:=λg=>if g=5 then Xa (SW Rows.laid_internal_strconv_uint64pow10) else if g=6 then Xa (SW Rows.laid_math_bits_deBruijn32tab) else if g=7 then Xa (SW Rows.laid_math_bits_deBruijn64tab) else if g=10 then Xa (SW Rows.laid_unicode_utf8_first) else if g=11 then Xa (SW Rows.laid_unicode_utf8_acceptRanges) else 1
 let σ:Mp:=λb=>if b<12 then some ⟨b,0,tot b,1⟩ else if b=16 then some ⟨a8.block,a8.off,0,0⟩ else if b=17 then some ⟨a9.block,a9.off,0,0⟩ else if b=12 then some ⟨b0,0,0,0⟩ else if b=13 then some ⟨b1,0,0,0⟩ else if b=15 then some ⟨b3,0,0,0⟩ else if b=14 then some ⟨b2,0,0,0⟩ else none
 let e:Nat->Nat:=λg=>if g=0 then e0 else if g=1 then e1 else if g=2 then e2 else if g=3 then e3 else if g=5 then e5 else if g=6 then e6 else if g=7 then e7 else if g=8 then e8 else if g=9 then e9 else if g=10 then e10 else if g=11 then e11 else 0
 have hx:Ext (λ_=>none) σ:=λb l h=>by cases h
 have hgs:Tz.globals.size=12:=by kernel_rfl
 have hp: ∀(b:Nat) (a:Addr),a.spot=none->σ b=some ⟨a.block,a.off,0,0⟩->YU σ (.iface 252 (.ptr b 0)) (.iface 252 (.pointer (some a))):=by
  intro b a ha hb
  simp only[YU]
  refine⟨.pointer (some a),⟨_,hb,?_⟩,rfl⟩
  obtain⟨x,y,z⟩:=a
  have ha:z=none:=ha
  subst ha
  rfl
 refine⟨σ,e,ql (rs:=iw e) (ms:=rt) (λg hg=>?_) (λb l h=>?_) (λb ee l hm=>?_) (λb es hm=>?_) (λb es b' es' l l' hm hm' hl hl' he=>?_)⟩
 ·rw[hgs] at hg
  exact⟨⟨g,0,tot g,1⟩,if_pos hg,rfl,rfl⟩
 ·have h:(if b<12 then some (⟨b,0,tot b,1⟩:Loc) else if b=16 then some ⟨a8.block,a8.off,0,0⟩ else if b=17 then some ⟨a9.block,a9.off,0,0⟩ else if b=12 then some ⟨b0,0,0,0⟩ else if b=13 then some ⟨b1,0,0,0⟩ else if b=15 then some ⟨b3,0,0,0⟩ else if b=14 then some ⟨b2,0,0,0⟩ else none)=some l:=h
  repeat' (split at h)
  all_goals first|omega|cases h
 ·unfold iw at hm
  simp only[Ys,Prod.mk.injEq,Sn,or_false] at hm
  rcases hm with⟨rfl,rfl,rfl⟩|⟨rfl,rfl,rfl⟩|⟨rfl,rfl,rfl⟩|⟨rfl,rfl,rfl⟩|⟨rfl,rfl,rfl⟩|⟨rfl,rfl,rfl⟩|⟨rfl,rfl,rfl⟩|⟨rfl,rfl,rfl⟩|⟨rfl,rfl,rfl⟩|⟨rfl,rfl,rfl⟩|⟨rfl,rfl,rfl⟩
  ·refine⟨cs0,fr0,rfl,h0,by rw[ms0];exact V2 (by simp only[YU];exact⟨⟨b0,0,0,0⟩,rfl,rfl⟩),λv hv=>?_⟩
   have:=Xm.2 hv
   rw[ms0] at this
   have:v=.map (some b0):=by simpa using this
   subst this;rfl
  ·refine⟨cs1,fr1,rfl,h1,by rw[ms1];exact V2 (by simp only[YU];exact⟨⟨b1,0,0,0⟩,rfl,rfl⟩),λv hv=>?_⟩
   have:=Xm.2 hv
   rw[ms1] at this
   have:v=.map (some b1):=by simpa using this
   subst this;rfl
  ·refine⟨cs2,fr2,rfl,h2,by rw[dX];exact V2 (by simp only[YU];exact⟨⟨b2,0,0,0⟩,rfl,rfl⟩),λv hv=>?_⟩
   have:=Xm.2 hv
   rw[dX] at this
   have:v=.map (some b2):=by simpa using this
   subst this;rfl
  ·refine⟨cs3,fr3,rfl,h3,by rw[ms3];exact V2 (by simp only[YU];exact⟨⟨b3,0,0,0⟩,rfl,rfl⟩),λv hv=>?_⟩
   have:=Xm.2 hv
   rw[ms3] at this
   have:v=.map (some b3):=by simpa using this
   subst this;rfl
  ·exact⟨cs5,fr5,rfl,h5,Xj.mono hx l5,o5⟩
  ·exact⟨cs6,fr6,rfl,h6,Xj.mono hx l6,o6⟩
  ·exact⟨cs7,fr7,rfl,h7,Xj.mono hx l7,o7⟩
  ·refine⟨cs8,fr8,rfl,h8,by rw[l8];exact V2 (hp 16 a8 s8 rfl),λv hv=>?_⟩
   have:=Xm.2 hv
   rw[l8] at this
   have:v=.iface 252 (.pointer (some a8)):=by simpa using this
   subst this;rfl
  ·refine⟨cs9,fr9,rfl,h9,by rw[l9];exact V2 (hp 17 a9 s9 rfl),λv hv=>?_⟩
   have:=Xm.2 hv
   rw[l9] at this
   have:v=.iface 252 (.pointer (some a9)):=by simpa using this
   subst this;rfl
  ·exact⟨ZhA,ZhJ,rfl,h10,Xj.mono hx l10,o10⟩
  ·exact⟨ZhB,ZhK,rfl,h11,Xj.mono hx l11,o11⟩
 ·unfold rt at hm
  simp only[Ys,Prod.mk.injEq,Sn,or_false] at hm
  rcases hm with⟨rfl,rfl⟩|⟨rfl,rfl⟩|⟨rfl,rfl⟩|⟨rfl,rfl⟩
  ·obtain⟨b',ents,clock,fs,m1,_,m3,m4,m5⟩:=rm0 σ
   rw[ms0] at m1
   cases m1
   exact⟨⟨b0,0,0,0⟩,ents,clock,fs,rfl,m3,m4,m5.trans (List.Perm.of_eq (by kernel_rfl)),Px (by kernel_rfl)⟩
  ·obtain⟨b',ents,clock,fs,m1,_,m3,m4,m5⟩:=rm1 σ
   rw[ms1] at m1
   cases m1
   exact⟨⟨b1,0,0,0⟩,ents,clock,fs,rfl,m3,m4,m5.trans (List.Perm.of_eq (by kernel_rfl)),Px (by kernel_rfl)⟩
  ·obtain⟨b',ents,clock,fs,m1,_,m3,m4,m5⟩:=rm2 σ
   rw[dX] at m1
   cases m1
   exact⟨⟨b2,0,0,0⟩,ents,clock,fs,rfl,m3,m4,m5.trans (List.Perm.of_eq (by kernel_rfl)),Px (by kernel_rfl)⟩
  ·obtain⟨b',ents,clock,fs,m1,_,m3,m4,m5⟩:=rm3 σ
   rw[ms3] at m1
   cases m1
   exact⟨⟨b3,0,0,0⟩,ents,clock,fs,rfl,m3,m4,m5.trans (List.Perm.of_eq (by kernel_rfl)),Px (by kernel_rfl)⟩
 ·unfold rt at hm hm'
  simp only[Ys,Prod.mk.injEq,Sn,or_false] at hm hm'
  rcases hm with⟨rfl,rfl⟩|⟨rfl,rfl⟩|⟨rfl,rfl⟩|⟨rfl,rfl⟩<;>rcases hm' with⟨rfl,rfl⟩|⟨rfl,rfl⟩|⟨rfl,rfl⟩|⟨rfl,rfl⟩<;>cases hl<;>cases hl'<;>simp only at he<;>first|rfl|skip
  ·exact(hap 7 8 _ (by omega) (by rw[hlen];omega) mp1 (by rw[<-he];exact mp0)).elim
  ·exfalso
   have he:=he.symm
   obtain⟨b1,en1,ck1,fs1,k1,_,k3,k4,k5⟩:=rm2 σ
   obtain⟨b2,en2,ck2,fs2,j1,_,j3,j4,j5⟩:=rm0 σ
   rw[dX] at k1;cases k1
   rw[ms0] at j1;cases j1
   rw[he,j3] at k3;cases k3
   exact Q7 k4 j4 (es:=[⟨.int .i64 1,.func 225 [] [],0⟩,⟨.int .i64 2,.func 226 [] [],0⟩,⟨.int .i64 3,.func 227 [] [],0⟩]) (es':=MB Rows.laid_portolan_tar_types) (k5.trans (List.Perm.of_eq (by kernel_rfl))) (j5.trans (List.Perm.of_eq (by kernel_rfl))) (by kernel_rfl) (by kernel_rfl) (by simp)
  ·exact(hap 6 8 _ (by omega) (by rw[hlen];omega) mp3 (by rw[<-he];exact mp0)).elim
  ·exact(hap 7 8 _ (by omega) (by rw[hlen];omega) mp1 (by rw[he];exact mp0)).elim
  ·exfalso
   have he:=he.symm
   obtain⟨b1,en1,ck1,fs1,k1,_,k3,k4,k5⟩:=rm2 σ
   obtain⟨b2,en2,ck2,fs2,j1,_,j3,j4,j5⟩:=rm1 σ
   rw[dX] at k1;cases k1
   rw[ms1] at j1;cases j1
   rw[he,j3] at k3;cases k3
   exact Q7 k4 j4 (es:=[⟨.int .i64 1,.func 225 [] [],0⟩,⟨.int .i64 2,.func 226 [] [],0⟩,⟨.int .i64 3,.func 227 [] [],0⟩]) (es':=MB Rows.laid_portolan_tar_kinds) (k5.trans (List.Perm.of_eq (by kernel_rfl))) (j5.trans (List.Perm.of_eq (by kernel_rfl))) (by kernel_rfl) (by kernel_rfl) (by simp)
  ·exact(hap 6 7 _ (by omega) (by rw[hlen];omega) mp3 (by rw[<-he];exact mp1)).elim
  ·exfalso
   have he:=he
   obtain⟨b1,en1,ck1,fs1,k1,_,k3,k4,k5⟩:=rm2 σ
   obtain⟨b2,en2,ck2,fs2,j1,_,j3,j4,j5⟩:=rm0 σ
   rw[dX] at k1;cases k1
   rw[ms0] at j1;cases j1
   rw[he,j3] at k3;cases k3
   exact Q7 k4 j4 (es:=[⟨.int .i64 1,.func 225 [] [],0⟩,⟨.int .i64 2,.func 226 [] [],0⟩,⟨.int .i64 3,.func 227 [] [],0⟩]) (es':=MB Rows.laid_portolan_tar_types) (k5.trans (List.Perm.of_eq (by kernel_rfl))) (j5.trans (List.Perm.of_eq (by kernel_rfl))) (by kernel_rfl) (by kernel_rfl) (by simp)
  ·exfalso
   have he:=he
   obtain⟨b1,en1,ck1,fs1,k1,_,k3,k4,k5⟩:=rm2 σ
   obtain⟨b2,en2,ck2,fs2,j1,_,j3,j4,j5⟩:=rm1 σ
   rw[dX] at k1;cases k1
   rw[ms1] at j1;cases j1
   rw[he,j3] at k3;cases k3
   exact Q7 k4 j4 (es:=[⟨.int .i64 1,.func 225 [] [],0⟩,⟨.int .i64 2,.func 226 [] [],0⟩,⟨.int .i64 3,.func 227 [] [],0⟩]) (es':=MB Rows.laid_portolan_tar_kinds) (k5.trans (List.Perm.of_eq (by kernel_rfl))) (j5.trans (List.Perm.of_eq (by kernel_rfl))) (by kernel_rfl) (by kernel_rfl) (by simp)
  ·exfalso
   have he:=he
   obtain⟨b1,en1,ck1,fs1,k1,_,k3,k4,k5⟩:=rm2 σ
   obtain⟨b2,en2,ck2,fs2,j1,_,j3,j4,j5⟩:=rm3 σ
   rw[dX] at k1;cases k1
   rw[ms3] at j1;cases j1
   rw[he,j3] at k3;cases k3
   exact Q7 k4 j4 (es:=[⟨.int .i64 1,.func 225 [] [],0⟩,⟨.int .i64 2,.func 226 [] [],0⟩,⟨.int .i64 3,.func 227 [] [],0⟩]) (es':=MB Rows.laid_portolan_field_fields) (k5.trans (List.Perm.of_eq (by kernel_rfl))) (j5.trans (List.Perm.of_eq (by kernel_rfl))) (by kernel_rfl) (by kernel_rfl) (by simp)
  ·exact(hap 6 8 _ (by omega) (by rw[hlen];omega) mp3 (by rw[he];exact mp0)).elim
  ·exact(hap 6 7 _ (by omega) (by rw[hlen];omega) mp3 (by rw[he];exact mp1)).elim
  ·exfalso
   have he:=he.symm
   obtain⟨b1,en1,ck1,fs1,k1,_,k3,k4,k5⟩:=rm2 σ
   obtain⟨b2,en2,ck2,fs2,j1,_,j3,j4,j5⟩:=rm3 σ
   rw[dX] at k1;cases k1
   rw[ms3] at j1;cases j1
   rw[he,j3] at k3;cases k3
   exact Q7 k4 j4 (es:=[⟨.int .i64 1,.func 225 [] [],0⟩,⟨.int .i64 2,.func 226 [] [],0⟩,⟨.int .i64 3,.func 227 [] [],0⟩]) (es':=MB Rows.laid_portolan_field_fields) (k5.trans (List.Perm.of_eq (by kernel_rfl))) (j5.trans (List.Perm.of_eq (by kernel_rfl))) (by kernel_rfl) (by kernel_rfl) (by simp)
end
end Go.AI
