/- What the condition of JsonPuts says of the world: proved; the package-level variables that its row lists hold what the program's text lays. -/
import Derived.Test.YtobbpmaeiiblaaaGreatDoorKG
import Derived.Test.YtobbpmaeiiblaaaGreatDoorTie
import Derived.Test.YtobbpmaeiiblaaaGreatDoorCards
import Derived.ProofKit
import Derived.OpenShut
import Derived.LaidMore
import Derived.Lay
import Derived.LaidHandle
import Derived.SevenTiedAt
import Derived.Stop.Joined
set_option maxRecDepth 1000000
set_option maxHeartbeats 0
set_option linter.unusedVariables false
set_option linter.unusedSimpArgs false
namespace Go.AI
open Go Go.Proofs Go.Proofs.YtobbpmaeiiblaaaGreatDoor
noncomputable section
noncomputable abbrev Tz:=Tryz.prog
theorem rd5{W:World}:UW Tz W 5 1:=Zm9 Tryz.underlying5
theorem ZFK{W:World}:UW Tz W 206 (256*1):=Zbr Tryz.underlying206 (by kernel_rfl) (by kernel_rfl) rd5
theorem ZFL{W:World}:UW Tz W 208 2:=Zrt Tryz.underlying208 rfl rfl rfl rfl (by kernel_rfl) (by kernel_rfl) rd5
theorem ZFM{W:World}:UW Tz W 209 (16*2):=Zbr Tryz.underlying209 (by kernel_rfl) (by kernel_rfl) ZFL
theorem ZFN{W:World}:UW Tz W 120 1:=Zm9 Tryz.underlying120
theorem ZFO{W:World}:UW Tz W 227 (20*1):=Zbr Tryz.underlying227 (by kernel_rfl) (by kernel_rfl) ZFN
theorem ZHf{W:World}:UW Tz W 22 (32*1):=Zbr Tryz.underlying22 (by kernel_rfl) (by kernel_rfl) rd5
theorem ZFP{W:World}:UW Tz W 258 (64*1):=Zbr Tryz.underlying258 (by kernel_rfl) (by kernel_rfl) rd5
theorem ZBj:1≤Tz.cellsOf 274:=Zo (by kernel_rfl)
theorem ZyZ(u:TypeId)(h:Tz.typeName? 3 u=some "*errors.errorString"):u=272:=by
 have hlt:=Zl4 (P:=Tz) (name:= "*errors.errorString") (inner:= "errors.errorString") (by decide) (fun m h=>by
  have h2: "errors.errorString".toList=("*" ++m).toList:=by rw[←h]
  rw[String.toList_append] at h2
  cases h2) (by kernel_rfl) h
 have hall:((List.range Tz.types.size).all fun u=>Tz.typeName? 3 u !=some "*errors.errorString" ||u==272)=true:=by kernel_rfl
 have h3:=List.all_eq_true.1 hall u (List.mem_range.2 hlt)
 rw[h] at h3
 simpa using h3
theorem Zy0{W:World}(hH:laidMetH Tz Rows.jsonPutsRow.laid W): ∃(σ:Mp) (e:Nat→Nat),Sim Tz σ (H0 e) W:=by
 have hL:=Zl6 hH
 obtain⟨ps,hlv,hnd,hcell⟩:=hL
 obtain⟨pf,hpf,_,hap⟩:=ZjN hlv
 have hap:=hap hnd
 have hlen:(Rows.jsonPutsRow.laid.filter fun x=>x.2.handleName?.isNone).length=7:=by kernel_rfl
 have tab: ∀{i:Nat} {n:String} {d:DataW Unit} {g t c:Nat},(Rows.jsonPutsRow.laid.filter fun x=>x.2.handleName?.isNone)[i]? =some (n,d)→Tz.globalNamed n=some g→(Tz.globals[g]?).map (·.type)=some t→UW Tz W t c→
   ∃cs e fr,W.heap[g]? =some (.cells cs e fr)∧RelL (fun _=>none) (UF d) cs.toList∧ ∀v∈cs,v.oneCell'=true:=by
  intro i n d g t c hm hg ht hr
  obtain⟨g',t',cs,fuel,h1,h2,h3,h4,_⟩:=hpf i n d hm
  obtain rfl:=Option.some.inj (hg.symm.trans h1)
  obtain rfl:=Option.some.inj (ht.symm.trans h2)
  obtain⟨_,h5,h6⟩:=hr fuel cs.toList (d,pf i) h4
  obtain⟨e,fr,h7⟩:=Zna h1 h3
  exact⟨cs,e,fr,h7,h5,fun v hv=>h6 v (Array.mem_toList_iff.2 hv)⟩
 have err: ∀{i:Nat} {n:String} {D:DataW Unit} {g:Nat},(Rows.jsonPutsRow.laid.filter fun x=>x.2.handleName?.isNone)[i]? =some (n,DataW.iface "*errors.errorString" (.ptr D))→Tz.globalNamed n=some g→(Tz.globals[g]?).map (·.type)=some 90→
   ∃(cs:Array Value) (e:Nat) (fr:Nat×Nat) (a:Addr),W.heap[g]? =some (.cells cs e fr)∧a.spot=none∧cs.toList=[.iface 272 (.pointer (some a))]:=by
  intro i n D g hm hg ht
  obtain⟨g',t',cs,fuel,h1,h2,h3,h4,h5⟩:=hpf i n _ hm
  obtain rfl:=Option.some.inj (hg.symm.trans h1)
  obtain rfl:=Option.some.inj (ht.symm.trans h2)
  obtain⟨e,fr,h7⟩:=Zna h1 h3
  obtain⟨a,h8,h9⟩:=Zul Tryz.underlying90 h4 ZyZ Tryz.underlying272 ZBj (fun u v hcs=>by
   have hsz:cs.size=1:=by rw[←Array.length_toList,hcs];rfl
   have hin:=h5 (.cell g 0) (by rw[hsz];exact Zy ..)
   refine(hcell g 0 hin).2 u v ?_
   rw[World.var?_cell h1 h3 0,←Z1,hcs];rfl)
  exact⟨cs,e,fr,a,h7,h8,h9⟩
 obtain⟨cs0,e0,fr0,h0,l0,o0⟩:=tab (i:=6) (n:= "unicode/utf8.first") (d:=Rows.laid_unicode_utf8_first) (g:=0) (t:=206) (by kernel_rfl) (by kernel_rfl) (by kernel_rfl) ZFK
 obtain⟨cs1,e1,fr1,h1,l1,o1⟩:=tab (i:=3) (n:= "unicode/utf8.acceptRanges") (d:=Rows.laid_unicode_utf8_acceptRanges) (g:=1) (t:=209) (by kernel_rfl) (by kernel_rfl) (by kernel_rfl) ZFM
 obtain⟨cs3,e3,fr3,h3,l3,o3⟩:=tab (i:=2) (n:= "internal/strconv.uint64pow10") (d:=Rows.laid_internal_strconv_uint64pow10) (g:=3) (t:=227) (by kernel_rfl) (by kernel_rfl) (by kernel_rfl) ZFO
 obtain⟨cs6,e6,fr6,h6,l6,o6⟩:=tab (i:=0) (n:= "math/bits.deBruijn32tab") (d:=Rows.laid_math_bits_deBruijn32tab) (g:=6) (t:=22) (by kernel_rfl) (by kernel_rfl) (by kernel_rfl) ZHf
 obtain⟨cs7,e7,fr7,h7,l7,o7⟩:=tab (i:=1) (n:= "math/bits.deBruijn64tab") (d:=Rows.laid_math_bits_deBruijn64tab) (g:=7) (t:=258) (by kernel_rfl) (by kernel_rfl) (by kernel_rfl) ZFP
 obtain⟨cs8,e8,fr8,a8,h8,s8,l8⟩:=err (i:=5) (n:= "strconv.ErrSyntax") (D:=(match Rows.laid_strconv_ErrSyntax with| .iface _ (.ptr d)=>d|_=>(.nil:DataW Unit))) (g:=8) (by kernel_rfl) (by kernel_rfl) (by kernel_rfl)
 obtain⟨cs9,e9,fr9,a9,h9,s9,l9⟩:=err (i:=4) (n:= "strconv.ErrRange") (D:=(match Rows.laid_strconv_ErrRange with| .iface _ (.ptr d)=>d|_=>(.nil:DataW Unit))) (g:=9) (by kernel_rfl) (by kernel_rfl) (by kernel_rfl)
 let tot:Nat→Nat:=fun g=>if g=0 then Yt (UF Rows.laid_unicode_utf8_first) else if g=1 then Yt (UF Rows.laid_unicode_utf8_acceptRanges) else if g=3 then Yt (UF Rows.laid_internal_strconv_uint64pow10) else if g=6 then Yt (UF Rows.laid_math_bits_deBruijn32tab) else if g=7 then Yt (UF Rows.laid_math_bits_deBruijn64tab) else 1
 let σ:Mp:=fun b=>if b<10 then some ⟨b,0,tot b,1⟩ else if b=10 then some ⟨a8.block,a8.off,0,0⟩ else if b=11 then some ⟨a9.block,a9.off,0,0⟩ else none
 let e:Nat→Nat:=fun g=>if g=0 then e0 else if g=1 then e1 else if g=3 then e3 else if g=6 then e6 else if g=7 then e7 else if g=8 then e8 else if g=9 then e9 else 0
 have hx:Ext (fun _=>none) σ:=fun b l h=>by cases h
 have hgs:Tz.globals.size=10:=by kernel_rfl
 have hp: ∀(b:Nat) (a:Addr),a.spot=none→σ b=some ⟨a.block,a.off,0,0⟩→Rel σ (.iface 272 (.ptr b 0)) (.iface 272 (.pointer (some a))):=by
  intro b a ha hb
  simp only[Rel]
  refine⟨.pointer (some a),⟨_,hb,?_⟩,rfl⟩
  obtain⟨x,y,z⟩:=a
  have ha:z=none:=ha
  subst ha
  rfl
 refine⟨σ,e,Zun (rs:=ZvY e) (ms:=ZBm) (fun g hg=>?_) (fun b l h=>?_) (fun b ee l hm=>?_) (fun b es hm=>?_) (fun b es b' es' l l' hm hm' hl hl' he=>?_)⟩
 ·rw[hgs] at hg
  exact⟨⟨g,0,tot g,1⟩,if_pos hg,rfl,rfl⟩
 ·have h:(if b<10 then some (⟨b,0,tot b,1⟩:Loc) else if b=10 then some ⟨a8.block,a8.off,0,0⟩ else if b=11 then some ⟨a9.block,a9.off,0,0⟩ else none)=some l:=h
  repeat' (split at h)
  all_goals first|omega|cases h
 ·unfold ZvY at hm
  simp only[ZfX,Prod.mk.injEq,ZjY,or_false] at hm
  rcases hm with⟨rfl,rfl,rfl⟩|⟨rfl,rfl,rfl⟩|⟨rfl,rfl,rfl⟩|⟨rfl,rfl,rfl⟩|⟨rfl,rfl,rfl⟩|⟨rfl,rfl,rfl⟩|⟨rfl,rfl,rfl⟩
  ·exact⟨cs0,fr0,rfl,h0,RelL.mono hx l0,o0⟩
  ·exact⟨cs1,fr1,rfl,h1,RelL.mono hx l1,o1⟩
  ·exact⟨cs3,fr3,rfl,h3,RelL.mono hx l3,o3⟩
  ·exact⟨cs6,fr6,rfl,h6,RelL.mono hx l6,o6⟩
  ·exact⟨cs7,fr7,rfl,h7,RelL.mono hx l7,o7⟩
  ·refine⟨cs8,fr8,rfl,h8,by rw[l8];exact UA (hp 10 a8 s8 rfl),fun v hv=>?_⟩
   have:=Array.mem_toList_iff.2 hv
   rw[l8] at this
   have:v= .iface 272 (.pointer (some a8)):=by simpa using this
   subst this;rfl
  ·refine⟨cs9,fr9,rfl,h9,by rw[l9];exact UA (hp 11 a9 s9 rfl),fun v hv=>?_⟩
   have:=Array.mem_toList_iff.2 hv
   rw[l9] at this
   have:v= .iface 272 (.pointer (some a9)):=by simpa using this
   subst this;rfl
 ·cases hm
 ·cases hm
end
end Go.AI
