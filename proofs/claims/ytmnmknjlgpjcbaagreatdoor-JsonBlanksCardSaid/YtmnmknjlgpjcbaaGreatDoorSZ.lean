/- What the condition of JsonBlanks says of the world: proved; the package-level variables that its row lists hold what the program's text lays. -/
import Derived.Test.YtmnmknjlgpjcbaaGreatDoorKZ
import Derived.Test.YtmnmknjlgpjcbaaGreatDoorTie
import Derived.Test.YtmnmknjlgpjcbaaGreatDoorCards
import Derived.ProofKit
import Derived.OpenShut
import Derived.LaidMore
import Derived.Lay
import Derived.LaidHandle
import Derived.SevenTiedAt
import Derived.Stop.Joined
set_option maxRecDepth 1000000
set_option maxHeartbeats 0
set_option linter.unusedVariables false
set_option linter.unusedSimpArgs false
namespace Go.AI
open Go Go.Proofs Go.Proofs.YtmnmknjlgpjcbaaGreatDoor
noncomputable section
noncomputable abbrev Tz:=Tryz.prog
theorem rd5{W:World}:Si Tz W 5 1:=yb Tryz.underlying5
theorem Zk1{W:World}:Si Tz W 239 (256*1):=PV Tryz.underlying239 (by kernel_rfl) (by kernel_rfl) rd5
theorem Zk2{W:World}:Si Tz W 241 2:=pv Tryz.underlying241 rfl rfl rfl rfl (by kernel_rfl) (by kernel_rfl) rd5
theorem Zk3{W:World}:Si Tz W 242 (16*2):=PV Tryz.underlying242 (by kernel_rfl) (by kernel_rfl) Zk2
theorem Zk0{W:World}:Si Tz W 142 1:=yb Tryz.underlying142
theorem Zk4{W:World}:Si Tz W 288 (20*1):=PV Tryz.underlying288 (by kernel_rfl) (by kernel_rfl) Zk0
theorem Zo2{W:World}:Si Tz W 51 (32*1):=PV Tryz.underlying51 (by kernel_rfl) (by kernel_rfl) rd5
theorem Zk5{W:World}:Si Tz W 321 (64*1):=PV Tryz.underlying321 (by kernel_rfl) (by kernel_rfl) rd5
theorem Zbl:1<=Tz.cellsOf 325:=Zn (by kernel_rfl)
theorem fI(u:TypeId)(h:Tz.typeName? 3 u=some "*errors.errorString"):u=323:=by
 have Y6:=Ap (P:=Tz) (name:= "*errors.errorString") (inner:= "errors.errorString") (by decide) (λm h=>by
  have h2: "errors.errorString".toList=("*" ++m).toList:=by rw[<-h]
  rw[String.toList_append] at h2
  cases h2) (by kernel_rfl) h
 have MR:((List.range Tz.types.size).all λu=>Tz.typeName? 3 u !=some "*errors.errorString" ||u==323)=true:=by kernel_rfl
 have h3:=Y7.1 MR u (S3.2 Y6)
 rw[h] at h3
 simpa using h3
theorem aG{W:World}(hH:laidMetH Tz Rows.jsonBlanksRow.laid W): ∃(σ:Mp) (e:Nat->Nat),Wh Tz σ (H0 e) W:=by
 have hL:=An hH
 obtain⟨ps,hlv,Ke,hcell⟩:=hL
 obtain⟨pf,eQ,_,hap⟩:=En hlv
 have tab: ∀{i:Nat} {n:String} {d:DataW Unit} {g t c:Nat},(Rows.jsonBlanksRow.laid.filter λx=>x.2.handleName?.isNone)[i]? =some (n,d)->Tz.globalNamed n=some g->(Tz.globals[g]?).map (·.type)=some t->Si Tz W t c->
   ∃cs e fr,W.heap[g]? =some (.cells cs e fr)∧YM (λ_=>none) (T5 d) cs.toList∧ ∀v∈cs,v.oneCell'=true:=by
  intro i n d g t c hm hg ht hr
  obtain⟨g',t',cs,fuel,h1,h2,h3,h4,_⟩:=eQ i n d hm
  obtain rfl:=Option.some.inj (hg.symm.trans h1)
  obtain rfl:=Option.some.inj (ht.symm.trans h2)
  obtain⟨_,h5,h6⟩:=hr fuel cs.toList (d,pf i) h4
  obtain⟨e,fr,h7⟩:=yI h1 h3
  exact⟨cs,e,fr,h7,h5,λv hv=>h6 v (Xn.2 hv)⟩
 have err: ∀{i:Nat} {n:String} {D:DataW Unit} {g:Nat},(Rows.jsonBlanksRow.laid.filter λx=>x.2.handleName?.isNone)[i]? =some (n,DataW.iface "*errors.errorString" (.ptr D))->Tz.globalNamed n=some g->(Tz.globals[g]?).map (·.type)=some 38->
   ∃(cs:Array Value) (e:Nat) (fr:Nat×Nat) (a:Addr),W.heap[g]? =some (.cells cs e fr)∧a.spot=none∧cs.toList=[.iface 323 (.pointer (some a))]:=by
  intro i n D g hm hg ht
  obtain⟨g',t',cs,fuel,h1,h2,h3,h4,h5⟩:=eQ i n _ hm
  obtain rfl:=Option.some.inj (hg.symm.trans h1)
  obtain rfl:=Option.some.inj (ht.symm.trans h2)
  obtain⟨e,fr,h7⟩:=yI h1 h3
  obtain⟨a,h8,h9⟩:=jV Tryz.underlying38 h4 fI Tryz.underlying323 Zbl (λu v Gr=>by
   have hsz:cs.size=1:=by rw[<-Array.length_toList,Gr];rfl
   have Nk:=h5 (.cell g 0) (by rw[hsz];exact Zx ..)
   refine(hcell g 0 Nk).2 u v ?_
   rw[World.var?_cell h1 h3 0,<-Yd,Gr];rfl)
  exact⟨cs,e,fr,a,h7,h8,h9⟩
 obtain⟨cs1,e1,fr1,h1,l1,o1⟩:=tab (i:=6) (n:= "unicode/utf8.first") (d:=Rows.laid_unicode_utf8_first) (g:=1) (t:=239) (by kernel_rfl) (by kernel_rfl) (by kernel_rfl) Zk1
 obtain⟨cs2,e2,fr2,h2,l2,o2⟩:=tab (i:=3) (n:= "unicode/utf8.acceptRanges") (d:=Rows.laid_unicode_utf8_acceptRanges) (g:=2) (t:=242) (by kernel_rfl) (by kernel_rfl) (by kernel_rfl) Zk3
 obtain⟨cs4,e4,fr4,h4,l4,o4⟩:=tab (i:=2) (n:= "internal/strconv.uint64pow10") (d:=Rows.laid_internal_strconv_uint64pow10) (g:=4) (t:=288) (by kernel_rfl) (by kernel_rfl) (by kernel_rfl) Zk4
 obtain⟨cs6,e6,fr6,a6,h6,s6,l6⟩:=err (i:=5) (n:= "strconv.ErrSyntax") (D:=(match Rows.laid_strconv_ErrSyntax with|.iface _ (.ptr d)=>d|_=>(.nil:DataW Unit))) (g:=6) (by kernel_rfl) (by kernel_rfl) (by kernel_rfl)
 obtain⟨cs7,e7,fr7,a7,h7,s7,l7⟩:=err (i:=4) (n:= "strconv.ErrRange") (D:=(match Rows.laid_strconv_ErrRange with|.iface _ (.ptr d)=>d|_=>(.nil:DataW Unit))) (g:=7) (by kernel_rfl) (by kernel_rfl) (by kernel_rfl)
 obtain⟨cs8,e8,fr8,h8,l8,o8⟩:=tab (i:=0) (n:= "math/bits.deBruijn32tab") (d:=Rows.laid_math_bits_deBruijn32tab) (g:=8) (t:=51) (by kernel_rfl) (by kernel_rfl) (by kernel_rfl) Zo2
 obtain⟨cs9,e9,fr9,h9,l9,o9⟩:=tab (i:=1) (n:= "math/bits.deBruijn64tab") (d:=Rows.laid_math_bits_deBruijn64tab) (g:=9) (t:=321) (by kernel_rfl) (by kernel_rfl) (by kernel_rfl) Zk5
 let tot:Nat->Nat:=λg=>if g=1 then YH (T5 Rows.laid_unicode_utf8_first) else if g=2 then YH (T5 Rows.laid_unicode_utf8_acceptRanges) else if g=4 then YH (T5 Rows.laid_internal_strconv_uint64pow10) else if g=8 then YH (T5 Rows.laid_math_bits_deBruijn32tab) else if g=9 then YH (T5 Rows.laid_math_bits_deBruijn64tab) else 1
 let σ:Mp:=λb=>if b<10 then some ⟨b,0,tot b,1⟩ else if b=10 then some ⟨a6.block,a6.off,0,0⟩ else if b=11 then some ⟨a7.block,a7.off,0,0⟩ else none
 let e:Nat->Nat:=λg=>if g=1 then e1 else if g=2 then e2 else if g=4 then e4 else if g=6 then e6 else if g=7 then e7 else if g=8 then e8 else if g=9 then e9 else 0
 have hx:Oq (λ_=>none) σ:=λb l h=>by cases h
 have hgs:Tz.globals.size=10:=by kernel_rfl
 have hp: ∀(b:Nat) (a:Addr),a.spot=none->σ b=some ⟨a.block,a.off,0,0⟩->Ys σ (.iface 323 (.ptr b 0)) (.iface 323 (.pointer (some a))):=by
  intro b a ha hb
  simp only[Ys]
  refine⟨.pointer (some a),⟨_,hb,?_⟩,rfl⟩
  obtain⟨x,y,z⟩:=a
  have ha:z=none:=ha
  subst ha
  rfl
 refine⟨σ,e,mM (rs:=bX e) (ms:=Zer) (λg hg=>?_) (λb l h=>?_) (λb ee l hm=>?_) (λb es hm=>?_) (λb es b' es' l l' hm hm' hl SS he=>?_)⟩
 ·rw[hgs] at hg
  exact⟨⟨g,0,tot g,1⟩,if_pos hg,rfl,rfl⟩
 ·have h:(if b<10 then some (⟨b,0,tot b,1⟩:Loc) else if b=10 then some ⟨a6.block,a6.off,0,0⟩ else if b=11 then some ⟨a7.block,a7.off,0,0⟩ else none)=some l:=h
  repeat' (split at h)
  all_goals first|omega|cases h
 ·unfold bX at hm
  simp only[Ya,Prod.mk.injEq,P2,or_false] at hm
  rcases hm with⟨rfl,rfl,rfl⟩|⟨rfl,rfl,rfl⟩|⟨rfl,rfl,rfl⟩|⟨rfl,rfl,rfl⟩|⟨rfl,rfl,rfl⟩|⟨rfl,rfl,rfl⟩|⟨rfl,rfl,rfl⟩
  ·exact⟨cs1,fr1,rfl,h1,YM.mono hx l1,o1⟩
  ·exact⟨cs2,fr2,rfl,h2,YM.mono hx l2,o2⟩
  ·exact⟨cs4,fr4,rfl,h4,YM.mono hx l4,o4⟩
  ·refine⟨cs6,fr6,rfl,h6,by rw[l6];exact T7 (hp 10 a6 s6 rfl),λv hv=>?_⟩
   have:=Xn.2 hv
   rw[l6] at this
   have:v=.iface 323 (.pointer (some a6)):=by simpa using this
   subst this;rfl
  ·refine⟨cs7,fr7,rfl,h7,by rw[l7];exact T7 (hp 11 a7 s7 rfl),λv hv=>?_⟩
   have:=Xn.2 hv
   rw[l7] at this
   have:v=.iface 323 (.pointer (some a7)):=by simpa using this
   subst this;rfl
  ·exact⟨cs8,fr8,rfl,h8,YM.mono hx l8,o8⟩
  ·exact⟨cs9,fr9,rfl,h9,YM.mono hx l9,o9⟩
 ·cases hm
 ·cases hm
end
end Go.AI
