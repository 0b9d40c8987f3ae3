/- The functions without a body, and what is told of the variables at the beginning; no conditions. -/
import Derived.Test.YtdogcjobgcckbaaGreatDoorEN
import Derived.Test.YtdogcjobgcckbaaGreatDoorP6
import Derived.Test.YtdogcjobgcckbaaGreatDoorRows
set_option maxRecDepth 1000000
set_option maxHeartbeats 0
set_option linter.unusedVariables false
set_option linter.unusedSimpArgs false
namespace Go.AI
open Go Go.Proofs Go.Proofs.YtdogcjobgcckbaaGreatDoor
noncomputable section
def Zn(f:Nat)(args:List AV)(H:Heap):Option CR:=
 (cond (Nat.beq f 109) (match args with|[.str s,.int .u8 (.ofNat c)]=>cond (Nat.ble c 255) (some (.ret (.int .i64 (Q8 c s 0)) H)) none|_=>none)
 (cond (Nat.beq f 129) (match args with|[x]=>some (.ret x H)|_=>none)
 (cond (Nat.beq f 100) (match args with|[.int .i64 (.ofNat n)]=>cond (Nat.ble n 281474976710656) (some (.ret (.slice H.nx 0 n none) (H.new (.row ⟨5,1,n,.leaf,.unk,0,false,true,false⟩)))) none|_=>none)
 (cond (Nat.beq f 137) (match args with|[.str s,.int .u8 (.ofNat c)]=>cond (Nat.ble c 255) (some (.ret (.int .i64 (.ofNat (Xy c s 0))) H)) none|_=>none)
 none))))
theorem oi:Tryz.prog.follows .mixedOrders=true:=by kernel_rfl
theorem xi:Nf Tryz.prog Zn:=by
 intro f args H r h σ w vs hs hv
 unfold Zn at h
 cases h0:Nat.beq f 109 with
 |true=>
  rw[h0] at h
  have:=ZN h0
  subst this
  simp only[cond_true] at h
  split at h
  ·rename_i s c
   cases hc:Nat.ble c 255 with
   |false=>rw[hc] at h;cases h
   |true=>
    rw[hc] at h;cases h
    exact li Tryz.func109 (by kernel_rfl) (by kernel_rfl) (by kernel_rfl) (by kernel_rfl) hc hs hv
  ·cases h
 |false=>
 rw[h0] at h
 simp only[cond_false] at h
 cases h1:Nat.beq f 129 with
 |true=>
  rw[h1] at h
  have:=ZN h1
  subst this
  simp only[cond_true] at h
  split at h
  ·cases h
   exact xk Tryz.func129 (by kernel_rfl) (by kernel_rfl) (by kernel_rfl) (by kernel_rfl) hs hv
  ·cases h
 |false=>
 rw[h1] at h
 simp only[cond_false] at h
 cases h2:Nat.beq f 100 with
 |true=>
  rw[h2] at h
  have:=ZN h2
  subst this
  simp only[cond_true] at h
  split at h
  ·rename_i n
   cases hn:Nat.ble n 281474976710656 with
   |false=>rw[hn] at h;cases h
   |true=>
    rw[hn] at h;cases h
    exact CP (ps:=Tryz.f100.params) (t:=24) (e:=5) Tryz.func100 (by kernel_rfl) (by kernel_rfl) (by kernel_rfl) (by kernel_rfl) Tryz.underlying24 hn hs hv
  ·cases h
 |false=>
 rw[h2] at h
 simp only[cond_false] at h
 cases h3:Nat.beq f 137 with
 |true=>
  rw[h3] at h
  have:=ZN h3
  subst this
  simp only[cond_true] at h
  split at h
  ·rename_i s c
   cases hc:Nat.ble c 255 with
   |false=>rw[hc] at h;cases h
   |true=>
    rw[hc] at h;cases h
    exact lh Tryz.func137 (by kernel_rfl) (by kernel_rfl) (by kernel_rfl) (by kernel_rfl) hc hs hv
  ·cases h
 |false=>
 rw[h3] at h
 simp only[cond_false] at h
 cases h
theorem wI:Si Tryz.prog (ZE Zn fs 100000 1000):=Hx oi xi Co 100000 1000
def EE(d:DataW Unit):List SR:=match d with|.map l=>l.map λq=>⟨vP q.1,ru q.2,0⟩|_=>[]
def cN(e:Nat->Nat):List (Nat×Nat×List AV):=[(0,e 0,[.map 9]),
 (1,e 1,[.map 10]),
 (2,e 2,[.map 11]),
 (4,e 4,S5 Rows.laid_internal_strconv_uint64pow10),
 (5,e 5,S5 Rows.laid_math_bits_deBruijn32tab),
 (6,e 6,S5 Rows.laid_math_bits_deBruijn64tab),
 (7,e 7,S5 Rows.laid_unicode_utf8_first),
 (8,e 8,S5 Rows.laid_unicode_utf8_acceptRanges)]
def gs0:List (Nat×List AV):=[(0,[.map 9]),
 (1,[.map 10]),
 (2,[.map 11]),
 (4,S5 Rows.laid_internal_strconv_uint64pow10),
 (5,S5 Rows.laid_math_bits_deBruijn32tab),
 (6,S5 Rows.laid_math_bits_deBruijn64tab),
 (7,S5 Rows.laid_unicode_utf8_first),
 (8,S5 Rows.laid_unicode_utf8_acceptRanges)]
def oh:List (Nat×List SR):=[(9,EE Rows.laid_portolan_tar_types),(10,[⟨.int .i64 1,.func 156 [] [],0⟩,⟨.int .i64 2,.func 157 [] [],0⟩,⟨.int .i64 3,.func 158 [] [],0⟩]),(11,EE Rows.laid_portolan_field_fields)]
def H0(e:Nat->Nat):Heap:=yD 100 (cN e) oh
theorem ZbC: ∀x∈([]:List (Nat×CE)),ZcO Tryz.prog gs0 x:=λx h=>by cases h
end
end Go.AI
