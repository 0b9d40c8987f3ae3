/- The functions without a body, and what is told of the variables at the beginning; no conditions. -/
import Derived.Test.YthhmkldnnnajhaaGreatDoorEN
import Derived.Test.YthhmkldnnnajhaaGreatDoorP6
import Derived.Test.YthhmkldnnnajhaaGreatDoorRows
set_option maxRecDepth 1000000
set_option maxHeartbeats 0
set_option linter.unusedVariables false
set_option linter.unusedSimpArgs false
namespace Go.AI
open Go Go.Proofs Go.Proofs.YthhmkldnnnajhaaGreatDoor
noncomputable section
def Z7(f:Nat)(args:List AV)(H:Heap):Option CR:=
 (cond (Nat.beq f 272) (match args with|[.str s,.int .u8 (.ofNat c)]=>cond (Nat.ble c 255) (some (.ret (.int .i64 (PO c s 0)) H)) none|_=>none)
 (cond (Nat.beq f 243) (match args with|[x]=>some (.ret x H)|_=>none)
 (cond (Nat.beq f 253) (match args with|[.int .i64 (.ofNat n)]=>cond (Nat.ble n 281474976710656) (some (.ret (.slice H.nx 0 n none) (H.new (.row ⟨5,1,n,.leaf,.unk,0,false,true,false⟩)))) none|_=>none)
 (cond (Nat.beq f 392) (match args with|[.str s,.int .u8 (.ofNat c)]=>cond (Nat.ble c 255) (some (.ret (.int .i64 (.ofNat (Wu c s 0))) H)) none|_=>none)
 none))))
theorem rH:Tryz.prog.follows .mixedOrders=true:=by kernel_rfl
theorem xq:MD Tryz.prog Z7:=by
 intro f args H r h σ w vs hs hv
 unfold Z7 at h
 cases h0:Nat.beq f 272 with
 |true=>
  rw[h0] at h
  have:=Yt h0
  subst this
  simp only[cond_true] at h
  split at h
  ·rename_i s c
   cases hc:Nat.ble c 255 with
   |false=>rw[hc] at h;cases h
   |true=>
    rw[hc] at h;cases h
    exact vt Tryz.func272 (by kernel_rfl) (by kernel_rfl) (by kernel_rfl) (by kernel_rfl) hc hs hv
  ·cases h
 |false=>
 rw[h0] at h
 simp only[cond_false] at h
 cases h1:Nat.beq f 243 with
 |true=>
  rw[h1] at h
  have:=Yt h1
  subst this
  simp only[cond_true] at h
  split at h
  ·cases h
   exact CG Tryz.func243 (by kernel_rfl) (by kernel_rfl) (by kernel_rfl) (by kernel_rfl) hs hv
  ·cases h
 |false=>
 rw[h1] at h
 simp only[cond_false] at h
 cases h2:Nat.beq f 253 with
 |true=>
  rw[h2] at h
  have:=Yt h2
  subst this
  simp only[cond_true] at h
  split at h
  ·rename_i n
   cases hn:Nat.ble n 281474976710656 with
   |false=>rw[hn] at h;cases h
   |true=>
    rw[hn] at h;cases h
    exact Fy (ps:=Tryz.f253.params) (t:=24) (e:=5) Tryz.func253 (by kernel_rfl) (by kernel_rfl) (by kernel_rfl) (by kernel_rfl) Tryz.underlying24 hn hs hv
  ·cases h
 |false=>
 rw[h2] at h
 simp only[cond_false] at h
 cases h3:Nat.beq f 392 with
 |true=>
  rw[h3] at h
  have:=Yt h3
  subst this
  simp only[cond_true] at h
  split at h
  ·rename_i s c
   cases hc:Nat.ble c 255 with
   |false=>rw[hc] at h;cases h
   |true=>
    rw[hc] at h;cases h
    exact vr Tryz.func392 (by kernel_rfl) (by kernel_rfl) (by kernel_rfl) (by kernel_rfl) hc hs hv
  ·cases h
 |false=>
 rw[h3] at h
 simp only[cond_false] at h
 cases h
def xx(d:DataW Unit):List RP:=match d with|.map l=>l.map λq=>⟨rq q.1,nc q.2,0⟩|_=>[]
def qG(e:Nat->Nat):List (Nat×Nat×List AV):=[(0,e 0,[.map 15]),
 (2,e 2,[.map 16]),
 (3,e 3,QP Rows.laid_portolan_toc_kinds),
 (8,e 8,QP Rows.laid_unicode_utf8_first),
 (9,e 9,QP Rows.laid_unicode_utf8_acceptRanges),
 (10,e 10,QP Rows.laid_internal_strconv_uint64pow10),
 (11,e 11,[.iface 454 (.ptr 17 0)]),
 (12,e 12,[.iface 454 (.ptr 18 0)]),
 (13,e 13,QP Rows.laid_math_bits_deBruijn32tab),
 (14,e 14,QP Rows.laid_math_bits_deBruijn64tab)]
def gs0:List (Nat×List AV):=[(0,[.map 15]),
 (2,[.map 16]),
 (3,QP Rows.laid_portolan_toc_kinds),
 (8,QP Rows.laid_unicode_utf8_first),
 (9,QP Rows.laid_unicode_utf8_acceptRanges),
 (10,QP Rows.laid_internal_strconv_uint64pow10),
 (11,[.iface 454 (.ptr 17 0)]),
 (12,[.iface 454 (.ptr 18 0)]),
 (13,QP Rows.laid_math_bits_deBruijn32tab),
 (14,QP Rows.laid_math_bits_deBruijn64tab)]
def xy:List (Nat×List RP):=[(15,xx Rows.laid_portolan_tar_types),(16,[⟨.int .i64 1,.func 427 [] [],0⟩,⟨.int .i64 2,.func 428 [] [],0⟩,⟨.int .i64 3,.func 429 [] [],0⟩])]
def H0(e:Nat->Nat):Heap:=D8 100 (qG e) xy
theorem nv: ∀x∈([]:List (Nat×CE)),mt Tryz.prog gs0 x:=λx h=>by cases h
end
end Go.AI
