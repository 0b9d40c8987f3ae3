/- What the condition of TarBack says of the world: proved; the package-level variables that its row lists hold what the program's text lays. -/
import Derived.Test.YtfkkljjgkopkfaaGreatDoorKN
import Derived.Test.YtfkkljjgkopkfaaGreatDoorTie
import Derived.Test.YtfkkljjgkopkfaaGreatDoorCards
import Derived.ProofKit
import Derived.OpenShut
import Derived.LaidMore
import Derived.Lay
import Derived.LaidHandle
import Derived.SevenTiedAt
import Derived.Stop.Joined
set_option maxRecDepth 1000000
set_option maxHeartbeats 0
set_option linter.all false
namespace Go.AI
open Go Go.Proofs Go.Proofs.YtfkkljjgkopkfaaGreatDoor
noncomputable section
noncomputable abbrev Tz:=Tryz.prog
def rd3{W:World}:TG Tz W 3 1:=EM Tryz.underlying3
def Zl2{W:World}:TG Tz W 133 (2*1):=QP Tryz.underlying133 (by kernel_rfl) (by kernel_rfl) rd3
def Zl1{W:World}:TG Tz W 131 1:=EM Tryz.underlying131
def Zl3{W:World}:TG Tz W 202 (20*1):=QP Tryz.underlying202 (by kernel_rfl) (by kernel_rfl) Zl1
def rd5{W:World}:TG Tz W 5 1:=EM Tryz.underlying5
def Zl4{W:World}:TG Tz W 238 (32*1):=QP Tryz.underlying238 (by kernel_rfl) (by kernel_rfl) rd5
def Zl5{W:World}:TG Tz W 239 (64*1):=QP Tryz.underlying239 (by kernel_rfl) (by kernel_rfl) rd5
def Zl6{W:World}:TG Tz W 250 (256*1):=QP Tryz.underlying250 (by kernel_rfl) (by kernel_rfl) rd5
def Zl7{W:World}:TG Tz W 252 2:=mX Tryz.underlying252 rfl rfl rfl rfl (by kernel_rfl) (by kernel_rfl) rd5
def Zl8{W:World}:TG Tz W 253 (16*2):=QP Tryz.underlying253 (by kernel_rfl) (by kernel_rfl) Zl7
def Zdg:1<=Tz.cellsOf 256:=Zr (by kernel_rfl)
def aq(u:TypeId)(h:Tz.typeName? 3 u=some "*errors.errorString"):u=254:=by
 have hlt:=zX (P:=Tz) (name:= "*errors.errorString") (inner:= "errors.errorString") (by decide) (λm h=>by
  have h2: "errors.errorString".toList=("*" ++m).toList:=by rw[<-h]
  rw[String.toList_append] at h2
  cases h2) (by kernel_rfl) h
 have hall:((List.range Tz.types.size).all λu=>Tz.typeName? 3 u !=some "*errors.errorString" ||u==254)=true:=by kernel_rfl
 have h3:=Ya.1 hall u (XM.2 hlt);rw[h] at h3
 simpa using h3
def PX(d:DataW Unit){key:Lit}(h:(key,d)∈(match Rows.laid_portolan_field_fields with|.map l=>l|_=>([]:List (Lit×DataW Unit)))): ∃ds,d=.agg ds:=by
 unfold Rows.laid_portolan_field_fields at h;simp only[ZY,Prod.mk.injEq,TV,or_false] at h;rcases h with⟨_,rfl⟩|⟨_,rfl⟩|⟨_,rfl⟩|⟨_,rfl⟩|⟨_,rfl⟩|⟨_,rfl⟩|⟨_,rfl⟩|⟨_,rfl⟩|⟨_,rfl⟩|⟨_,rfl⟩|⟨_,rfl⟩|⟨_,rfl⟩|⟨_,rfl⟩|⟨_,rfl⟩|⟨_,rfl⟩|⟨_,rfl⟩<;>exact⟨_,rfl⟩
noncomputable def aK(d:DataW (Zd)):AV:=match d with|.held n=>cond (n==Tryz.f227.name.toUTF8.data.toList) (.func 227 [] []) (cond (n==Tryz.f228.name.toUTF8.data.toList) (.func 228 [] []) (cond (n==Tryz.f229.name.toUTF8.data.toList) (.func 229 [] []) (.unk)))|_=>.unk
noncomputable def Zdz:List (DataW (Zd)):=[.held Tryz.f227.name.toUTF8.data.toList,.held Tryz.f228.name.toUTF8.data.toList,.held Tryz.f229.name.toUTF8.data.toList]
noncomputable def ZhS:DataW Unit:=match Rows.laid_portolan_path_classes with|.iface _ d=>d|_=>.nil
noncomputable def ZhT:List (Lit×DataW (Zd)):=match ZhS.funcsOut with|.map l=>l|_=>[]
def ZdA(d:DataW (Zd)){key:Lit}(h:(key,d)∈ZhT):d∈Zdz:=by
 have e:ZhT.map Prod.snd=Zdz:=by kernel_rfl
 rw[<-e];exact YC.2 ⟨_,h,rfl⟩
def aL{σ:Mp}{W:World}(x:Value)(n:Nat)(y:DataW (Zd)×List MemPlace)(hf:x.formed Tz 95=true)(h:DataW.trod (funcToken Tz) Tz W 0 (λ_=>true) true n 95 x.cells.toList=some y)(hy:y.1∈Zdz):Ym σ (aK y.1) x:=by
 unfold Zdz at hy;simp only[ZY,TV,or_false] at hy;rcases hy with hy|hy|hy
 ·rw[hy,show aK (.held Tryz.f227.name.toUTF8.data.toList)=.func 227 [] [] by kernel_rfl]
  exact zG (name:=Tryz.f227.name) Tryz.underlying95 (by kernel_rfl) (by decide+kernel) x n y hf h hy
 ·rw[hy,show aK (.held Tryz.f228.name.toUTF8.data.toList)=.func 228 [] [] by kernel_rfl]
  exact zG (name:=Tryz.f228.name) Tryz.underlying95 (by kernel_rfl) (by decide+kernel) x n y hf h hy
 ·rw[hy,show aK (.held Tryz.f229.name.toUTF8.data.toList)=.func 229 [] [] by kernel_rfl]
  exact zG (name:=Tryz.f229.name) Tryz.underlying95 (by kernel_rfl) (by decide+kernel) x n y hf h hy
def Zcf{W:World}(hH:laidMetH Tz Rows.tarBackRow.laid W): ∃(σ:Mp) (e:Nat->Nat),WW Tz σ (H0 e) W:=by
 have hL:=zV hH;obtain⟨ps,hlv,hnd,hcell⟩:=hL;obtain⟨pf,hpf,_,hap⟩:=Dz hlv;have hap:=hap hnd;have hlen:(Rows.tarBackRow.laid.filter λx=>x.2.handleName?.isNone).length=10:=by kernel_rfl
 have tab: ∀{i:Nat} {n:String} {d:DataW Unit} {g t c:Nat},(Rows.tarBackRow.laid.filter λx=>x.2.handleName?.isNone)[i]? =some (n,d)->Tz.globalNamed n=some g->(Tz.globals[g]?).map (·.type)=some t->TG Tz W t c->
   ∃cs e fr,W.heap[g]? =some (.cells cs e fr)∧YR (λ_=>none) (Pz d) cs.toList∧ ∀v∈cs,v.oneCell'=true:=by
  intro i n d g t c hm hg ht hr;obtain⟨g',t',cs,Zk,h1,h2,h3,h4,_⟩:=hpf i n d hm;obtain rfl:=Option.some.inj (hg.symm.trans h1);obtain rfl:=Option.some.inj (ht.symm.trans h2);obtain⟨_,h5,h6⟩:=hr Zk cs.toList (d,pf i) h4;obtain⟨e,fr,h7⟩:=ND h1 h3;exact⟨cs,e,fr,h7,h5,λv hv=>h6 v (Xq.2 hv)⟩
 have err: ∀{i:Nat} {n:String} {D:DataW Unit} {g:Nat},(Rows.tarBackRow.laid.filter λx=>x.2.handleName?.isNone)[i]? =some (n,DataW.iface "*errors.errorString" (.ptr D))->Tz.globalNamed n=some g->(Tz.globals[g]?).map (·.type)=some 144->
   ∃(cs:Array Value) (e:Nat) (fr:Nat×Nat) (a:Addr),W.heap[g]? =some (.cells cs e fr)∧a.spot=none∧cs.toList=[.iface 254 (.pointer (some a))]:=by
  intro i n D g hm hg ht;obtain⟨g',t',cs,Zk,h1,h2,h3,h4,h5⟩:=hpf i n _ hm;obtain rfl:=Option.some.inj (hg.symm.trans h1);obtain rfl:=Option.some.inj (ht.symm.trans h2);obtain⟨e,fr,h7⟩:=ND h1 h3;obtain⟨a,h8,h9⟩:=dE Tryz.underlying144 h4 aq Tryz.underlying254 Zdg (λu v hcs=>by
   have hsz:cs.size=1:=by rw[<-Array.length_toList,hcs];rfl
   have hin:=h5 (.cell g 0) (by rw[hsz];exact Zw ..)
   refine(hcell g 0 hin).2 u v ?_
   rw[World.var?_cell h1 h3 0,<-Z7,hcs];rfl)
  exact⟨cs,e,fr,a,h7,h8,h9⟩
 obtain⟨g',t',cs0,fuel0,q1,q2,q3,q4,_⟩:=hpf 8 "portolan/tar.types" Rows.laid_portolan_tar_types (by kernel_rfl);obtain rfl:0=g':=Option.some.inj ((show Tz.globalNamed "portolan/tar.types" =some 0 by kernel_rfl).symm.trans q1);obtain rfl:63=t':=Option.some.inj ((show(Tz.globals[0]?).map (·.type)=some 63 by kernel_rfl).symm.trans q2)
 obtain⟨e0,fr0,h0⟩:=ND q1 q3;have rm0:=λσ:Mp=>J3 (P:=Tz) (σ:=σ) (fk:=ue) (fv:=rY) Tryz.underlying63 q4 (Ab Tryz.underlying3)
  (λx n y hf hy _=>iS Tryz.underlying5 x n y hf hy)
 clear q1 q2 q3 q4;obtain⟨g',t',cs1,fuel1,p1,q1,q2,q3,q4⟩:=laidMetH.funcs hH (n:= "portolan/path.classes") (d:=ZhS) (Vt (i:=7) (by kernel_rfl));have q5:DataW.funcsOut ZhS=.map ZhT:=by kernel_rfl
 rw[q5] at q4;obtain rfl:1=g':=Option.some.inj ((show Tz.globalNamed "portolan/path.classes" =some 1 by kernel_rfl).symm.trans q1);obtain rfl:96=t':=Option.some.inj ((show(Tz.globals[1]?).map (·.type)=some 96 by kernel_rfl).symm.trans q2)
 obtain⟨e1,fr1,h1⟩:=ND q1 q3;have rm1:=λσ:Mp=>J3 (P:=Tz) (σ:=σ) (fk:=ue) (fv:=aK) Tryz.underlying96 q4 (Ab Tryz.underlying3)
  (λx n y hf hy hk=>by
   obtain⟨key,hk⟩:=hk
   have hk:=ZdA _ hk
   exact aL x n y hf hy hk)
 clear q1 q2 q3 q4;obtain⟨g',t',cs2,fuel2,q1,q2,q3,q4,_⟩:=hpf 7 "portolan/tar.kinds" Rows.laid_portolan_tar_kinds (by kernel_rfl);obtain rfl:2=g':=Option.some.inj ((show Tz.globalNamed "portolan/tar.kinds" =some 2 by kernel_rfl).symm.trans q1);obtain rfl:104=t':=Option.some.inj ((show(Tz.globals[2]?).map (·.type)=some 104 by kernel_rfl).symm.trans q2)
 obtain⟨e2,fr2,h2⟩:=ND q1 q3;have rm2:=λσ:Mp=>J3 (P:=Tz) (σ:=σ) (fk:=ue) (fv:=rY) Tryz.underlying104 q4 (Ab Tryz.underlying5)
  (λx n y hf hy _=>iS Tryz.underlying3 x n y hf hy)
 clear q1 q2 q3 q4;obtain⟨g',t',cs3,fuel3,q1,q2,q3,q4,_⟩:=hpf 6 "portolan/field.fields" Rows.laid_portolan_field_fields (by kernel_rfl);obtain rfl:3=g':=Option.some.inj ((show Tz.globalNamed "portolan/field.fields" =some 3 by kernel_rfl).symm.trans q1);obtain rfl:135=t':=Option.some.inj ((show(Tz.globals[3]?).map (·.type)=some 135 by kernel_rfl).symm.trans q2)
 obtain⟨e3,fr3,h3⟩:=ND q1 q3;have rm3:=λσ:Mp=>J3 (P:=Tz) (σ:=σ) (fk:=ue) (fv:=rY) Tryz.underlying135 q4 (Zau Tryz.underlying9)
  (λx n y hf hy hk=>Zfr Zl2 ⟨_,_,Tryz.underlying133⟩ x n y hf hy (by
   obtain⟨key,hk⟩:=hk
   exact PX _ hk))
 clear q1 q2 q3 q4;obtain⟨cs5,e5,fr5,h5,l5,o5⟩:=tab (i:=2) (n:= "internal/strconv.uint64pow10") (d:=Rows.laid_internal_strconv_uint64pow10) (g:=5) (t:=202) (by kernel_rfl) (by kernel_rfl) (by kernel_rfl) Zl3;obtain⟨cs6,e6,fr6,h6,l6,o6⟩:=tab (i:=0) (n:= "math/bits.deBruijn32tab") (d:=Rows.laid_math_bits_deBruijn32tab) (g:=6) (t:=238) (by kernel_rfl) (by kernel_rfl) (by kernel_rfl) Zl4;obtain⟨cs7,e7,fr7,h7,l7,o7⟩:=tab (i:=1) (n:= "math/bits.deBruijn64tab") (d:=Rows.laid_math_bits_deBruijn64tab) (g:=7) (t:=239) (by kernel_rfl) (by kernel_rfl) (by kernel_rfl) Zl5;obtain⟨cs8,e8,fr8,a8,h8,s8,l8⟩:=err (i:=5) (n:= "strconv.ErrSyntax") (D:=(match Rows.laid_strconv_ErrSyntax with|.iface _ (.ptr d)=>d|_=>(.nil:DataW Unit))) (g:=8) (by kernel_rfl) (by kernel_rfl) (by kernel_rfl);obtain⟨cs9,e9,fr9,a9,h9,s9,l9⟩:=err (i:=4) (n:= "strconv.ErrRange") (D:=(match Rows.laid_strconv_ErrRange with|.iface _ (.ptr d)=>d|_=>(.nil:DataW Unit))) (g:=9) (by kernel_rfl) (by kernel_rfl) (by kernel_rfl);obtain⟨ZoT,e10,Zo3,h10,l10,o10⟩:=tab (i:=9) (n:= "unicode/utf8.first") (d:=Rows.laid_unicode_utf8_first) (g:=10) (t:=250) (by kernel_rfl) (by kernel_rfl) (by kernel_rfl) Zl6;obtain⟨ZoU,e11,Zo4,h11,l11,o11⟩:=tab (i:=3) (n:= "unicode/utf8.acceptRanges") (d:=Rows.laid_unicode_utf8_acceptRanges) (g:=11) (t:=253) (by kernel_rfl) (by kernel_rfl) (by kernel_rfl) Zl8;obtain⟨b0,ents0,ck0,_,ms0,mp0,mh0,_,_⟩:=rm0 (λ_=>none);obtain⟨b2,ents2,ck2,_,ms2,mp2,mh2,_,_⟩:=rm2 (λ_=>none);obtain⟨b3,ents3,ck3,_,ms3,mp3,mh3,_,_⟩:=rm3 (λ_=>none);obtain⟨b1,ents1,ck1,_,ms1,mp1,mh1,_,_⟩:=rm1 (λ_=>none)
 let tot:Nat->Nat:=λg=>if g=5 then YN (Pz Rows.laid_internal_strconv_uint64pow10) else if g=6 then YN (Pz Rows.laid_math_bits_deBruijn32tab) else if g=7 then YN (Pz Rows.laid_math_bits_deBruijn64tab) else if g=10 then YN (Pz Rows.laid_unicode_utf8_first) else if g=11 then YN (Pz Rows.laid_unicode_utf8_acceptRanges) else 1
 let σ:Mp:=λb=>if b<12 then some ⟨b,0,tot b,1⟩ else if b=16 then some ⟨a8.block,a8.off,0,0⟩ else if b=17 then some ⟨a9.block,a9.off,0,0⟩ else if b=12 then some ⟨b0,0,0,0⟩ else if b=14 then some ⟨b2,0,0,0⟩ else if b=15 then some ⟨b3,0,0,0⟩ else if b=13 then some ⟨b1,0,0,0⟩ else none
 let e:Nat->Nat:=λg=>if g=0 then e0 else if g=1 then e1 else if g=2 then e2 else if g=3 then e3 else if g=5 then e5 else if g=6 then e6 else if g=7 then e7 else if g=8 then e8 else if g=9 then e9 else if g=10 then e10 else if g=11 then e11 else 0
 have hx:Ext (λ_=>none) σ:=λb l h=>by cases h
 have hgs:Tz.globals.size=12:=by kernel_rfl
 have hp: ∀(b:Nat) (a:Addr),a.spot=none->σ b=some ⟨a.block,a.off,0,0⟩->Ym σ (.iface 254 (.ptr b 0)) (.iface 254 (.pointer (some a))):=by
  intro b a ha hb;simp only[Ym];refine⟨.pointer (some a),⟨_,hb,?_⟩,rfl⟩;obtain⟨x,y,z⟩:=a;have ha:z=none:=ha;subst ha;rfl
 refine⟨σ,e,gf (rs:=ZbR e) (ms:=jP) (λg hg=>?_) (λb l h=>?_) (λb ee l hm=>?_) (λb es hm=>?_) (λb es b' es' l l' hm hm' hl hl' he=>?_)⟩
 ·rw[hgs] at hg
  exact⟨⟨g,0,tot g,1⟩,if_pos hg,rfl,rfl⟩
 ·have h:(if b<12 then some (⟨b,0,tot b,1⟩:Loc) else if b=16 then some ⟨a8.block,a8.off,0,0⟩ else if b=17 then some ⟨a9.block,a9.off,0,0⟩ else if b=12 then some ⟨b0,0,0,0⟩ else if b=14 then some ⟨b2,0,0,0⟩ else if b=15 then some ⟨b3,0,0,0⟩ else if b=13 then some ⟨b1,0,0,0⟩ else none)=some l:=h
  repeat' (split at h)
  all_goals first|omega|cases h
 ·unfold ZbR at hm
  simp only[ZY,Prod.mk.injEq,TV,or_false] at hm;rcases hm with⟨rfl,rfl,rfl⟩|⟨rfl,rfl,rfl⟩|⟨rfl,rfl,rfl⟩|⟨rfl,rfl,rfl⟩|⟨rfl,rfl,rfl⟩|⟨rfl,rfl,rfl⟩|⟨rfl,rfl,rfl⟩|⟨rfl,rfl,rfl⟩|⟨rfl,rfl,rfl⟩|⟨rfl,rfl,rfl⟩|⟨rfl,rfl,rfl⟩
  ·refine⟨cs0,fr0,rfl,h0,by rw[ms0];exact U4 (by simp only[Ym];exact⟨⟨b0,0,0,0⟩,rfl,rfl⟩),λv hv=>?_⟩
   have:=Xq.2 hv;rw[ms0] at this;have:v=.map (some b0):=by simpa using this
   subst this;rfl
  ·refine⟨cs1,fr1,rfl,h1,by rw[ms1];exact U4 (by simp only[Ym];exact⟨⟨b1,0,0,0⟩,rfl,rfl⟩),λv hv=>?_⟩
   have:=Xq.2 hv;rw[ms1] at this;have:v=.map (some b1):=by simpa using this
   subst this;rfl
  ·refine⟨cs2,fr2,rfl,h2,by rw[ms2];exact U4 (by simp only[Ym];exact⟨⟨b2,0,0,0⟩,rfl,rfl⟩),λv hv=>?_⟩
   have:=Xq.2 hv;rw[ms2] at this;have:v=.map (some b2):=by simpa using this
   subst this;rfl
  ·refine⟨cs3,fr3,rfl,h3,by rw[ms3];exact U4 (by simp only[Ym];exact⟨⟨b3,0,0,0⟩,rfl,rfl⟩),λv hv=>?_⟩
   have:=Xq.2 hv;rw[ms3] at this;have:v=.map (some b3):=by simpa using this
   subst this;rfl
  ·exact⟨cs5,fr5,rfl,h5,YR.mono hx l5,o5⟩
  ·exact⟨cs6,fr6,rfl,h6,YR.mono hx l6,o6⟩
  ·exact⟨cs7,fr7,rfl,h7,YR.mono hx l7,o7⟩
  ·refine⟨cs8,fr8,rfl,h8,by rw[l8];exact U4 (hp 16 a8 s8 rfl),λv hv=>?_⟩
   have:=Xq.2 hv;rw[l8] at this;have:v=.iface 254 (.pointer (some a8)):=by simpa using this
   subst this;rfl
  ·refine⟨cs9,fr9,rfl,h9,by rw[l9];exact U4 (hp 17 a9 s9 rfl),λv hv=>?_⟩
   have:=Xq.2 hv;rw[l9] at this;have:v=.iface 254 (.pointer (some a9)):=by simpa using this
   subst this;rfl
  ·exact⟨ZoT,Zo3,rfl,h10,YR.mono hx l10,o10⟩
  ·exact⟨ZoU,Zo4,rfl,h11,YR.mono hx l11,o11⟩
 ·unfold jP at hm
  simp only[ZY,Prod.mk.injEq,TV,or_false] at hm;rcases hm with⟨rfl,rfl⟩|⟨rfl,rfl⟩|⟨rfl,rfl⟩|⟨rfl,rfl⟩
  ·obtain⟨b',ents,clock,fs,m1,_,m3,m4,m5⟩:=rm0 σ
   rw[ms0] at m1;cases m1;exact⟨⟨b0,0,0,0⟩,ents,clock,fs,rfl,m3,m4,m5.trans (List.Perm.of_eq (by kernel_rfl)),Og (by kernel_rfl)⟩
  ·obtain⟨b',ents,clock,fs,m1,_,m3,m4,m5⟩:=rm1 σ
   rw[ms1] at m1;cases m1;exact⟨⟨b1,0,0,0⟩,ents,clock,fs,rfl,m3,m4,m5.trans (List.Perm.of_eq (by kernel_rfl)),Og (by kernel_rfl)⟩
  ·obtain⟨b',ents,clock,fs,m1,_,m3,m4,m5⟩:=rm2 σ
   rw[ms2] at m1;cases m1;exact⟨⟨b2,0,0,0⟩,ents,clock,fs,rfl,m3,m4,m5.trans (List.Perm.of_eq (by kernel_rfl)),Og (by kernel_rfl)⟩
  ·obtain⟨b',ents,clock,fs,m1,_,m3,m4,m5⟩:=rm3 σ
   rw[ms3] at m1;cases m1;exact⟨⟨b3,0,0,0⟩,ents,clock,fs,rfl,m3,m4,m5.trans (List.Perm.of_eq (by kernel_rfl)),Og (by kernel_rfl)⟩
 ·unfold jP at hm hm'
  simp only[ZY,Prod.mk.injEq,TV,or_false] at hm hm';rcases hm with⟨rfl,rfl⟩|⟨rfl,rfl⟩|⟨rfl,rfl⟩|⟨rfl,rfl⟩<;>rcases hm' with⟨rfl,rfl⟩|⟨rfl,rfl⟩|⟨rfl,rfl⟩|⟨rfl,rfl⟩<;>cases hl<;>cases hl'<;>simp only at he<;>first|rfl|skip
  ·exfalso
   have he:=he.symm;obtain⟨b1,en1,ck1,fs1,k1,_,k3,k4,k5⟩:=rm1 σ;obtain⟨b2,en2,ck2,fs2,j1,_,j3,j4,j5⟩:=rm0 σ;rw[ms1] at k1;cases k1;rw[ms0] at j1;cases j1;rw[he,j3] at k3;cases k3;exact PM k4 j4 (es:=[⟨.int .i64 1,.func 227 [] [],0⟩,⟨.int .i64 2,.func 228 [] [],0⟩,⟨.int .i64 3,.func 229 [] [],0⟩]) (es':=Kf Rows.laid_portolan_tar_types) (k5.trans (List.Perm.of_eq (by kernel_rfl))) (j5.trans (List.Perm.of_eq (by kernel_rfl))) (by kernel_rfl) (by kernel_rfl) (by simp)
  ·exact(hap 7 8 _ (by omega) (by rw[hlen];omega) mp2 (by rw[<-he];exact mp0)).elim
  ·exact(hap 6 8 _ (by omega) (by rw[hlen];omega) mp3 (by rw[<-he];exact mp0)).elim
  ·exfalso
   have he:=he;obtain⟨b1,en1,ck1,fs1,k1,_,k3,k4,k5⟩:=rm1 σ;obtain⟨b2,en2,ck2,fs2,j1,_,j3,j4,j5⟩:=rm0 σ;rw[ms1] at k1;cases k1;rw[ms0] at j1;cases j1;rw[he,j3] at k3;cases k3;exact PM k4 j4 (es:=[⟨.int .i64 1,.func 227 [] [],0⟩,⟨.int .i64 2,.func 228 [] [],0⟩,⟨.int .i64 3,.func 229 [] [],0⟩]) (es':=Kf Rows.laid_portolan_tar_types) (k5.trans (List.Perm.of_eq (by kernel_rfl))) (j5.trans (List.Perm.of_eq (by kernel_rfl))) (by kernel_rfl) (by kernel_rfl) (by simp)
  ·exfalso
   have he:=he;obtain⟨b1,en1,ck1,fs1,k1,_,k3,k4,k5⟩:=rm1 σ;obtain⟨b2,en2,ck2,fs2,j1,_,j3,j4,j5⟩:=rm2 σ;rw[ms1] at k1;cases k1;rw[ms2] at j1;cases j1;rw[he,j3] at k3;cases k3;exact PM k4 j4 (es:=[⟨.int .i64 1,.func 227 [] [],0⟩,⟨.int .i64 2,.func 228 [] [],0⟩,⟨.int .i64 3,.func 229 [] [],0⟩]) (es':=Kf Rows.laid_portolan_tar_kinds) (k5.trans (List.Perm.of_eq (by kernel_rfl))) (j5.trans (List.Perm.of_eq (by kernel_rfl))) (by kernel_rfl) (by kernel_rfl) (by simp)
  ·exfalso
   have he:=he;obtain⟨b1,en1,ck1,fs1,k1,_,k3,k4,k5⟩:=rm1 σ;obtain⟨b2,en2,ck2,fs2,j1,_,j3,j4,j5⟩:=rm3 σ;rw[ms1] at k1;cases k1;rw[ms3] at j1;cases j1;rw[he,j3] at k3;cases k3;exact PM k4 j4 (es:=[⟨.int .i64 1,.func 227 [] [],0⟩,⟨.int .i64 2,.func 228 [] [],0⟩,⟨.int .i64 3,.func 229 [] [],0⟩]) (es':=Kf Rows.laid_portolan_field_fields) (k5.trans (List.Perm.of_eq (by kernel_rfl))) (j5.trans (List.Perm.of_eq (by kernel_rfl))) (by kernel_rfl) (by kernel_rfl) (by simp)
  ·exact(hap 7 8 _ (by omega) (by rw[hlen];omega) mp2 (by rw[he];exact mp0)).elim
  ·exfalso
   have he:=he.symm;obtain⟨b1,en1,ck1,fs1,k1,_,k3,k4,k5⟩:=rm1 σ;obtain⟨b2,en2,ck2,fs2,j1,_,j3,j4,j5⟩:=rm2 σ;rw[ms1] at k1;cases k1;rw[ms2] at j1;cases j1;rw[he,j3] at k3;cases k3;exact PM k4 j4 (es:=[⟨.int .i64 1,.func 227 [] [],0⟩,⟨.int .i64 2,.func 228 [] [],0⟩,⟨.int .i64 3,.func 229 [] [],0⟩]) (es':=Kf Rows.laid_portolan_tar_kinds) (k5.trans (List.Perm.of_eq (by kernel_rfl))) (j5.trans (List.Perm.of_eq (by kernel_rfl))) (by kernel_rfl) (by kernel_rfl) (by simp)
  ·exact(hap 6 7 _ (by omega) (by rw[hlen];omega) mp3 (by rw[<-he];exact mp2)).elim
  ·exact(hap 6 8 _ (by omega) (by rw[hlen];omega) mp3 (by rw[he];exact mp0)).elim
  ·exfalso
   have he:=he.symm;obtain⟨b1,en1,ck1,fs1,k1,_,k3,k4,k5⟩:=rm1 σ;obtain⟨b2,en2,ck2,fs2,j1,_,j3,j4,j5⟩:=rm3 σ;rw[ms1] at k1;cases k1;rw[ms3] at j1;cases j1;rw[he,j3] at k3;cases k3;exact PM k4 j4 (es:=[⟨.int .i64 1,.func 227 [] [],0⟩,⟨.int .i64 2,.func 228 [] [],0⟩,⟨.int .i64 3,.func 229 [] [],0⟩]) (es':=Kf Rows.laid_portolan_field_fields) (k5.trans (List.Perm.of_eq (by kernel_rfl))) (j5.trans (List.Perm.of_eq (by kernel_rfl))) (by kernel_rfl) (by kernel_rfl) (by simp)
  ·exact(hap 6 7 _ (by omega) (by rw[hlen];omega) mp3 (by rw[he];exact mp2)).elim
end
end Go.AI
