/- The functions without a body, and what is told of the variables at the beginning; no conditions. -/
import Derived.Test.YtbdmnfoadmfjpaaGreatDoorEN
import Derived.Test.YtbdmnfoadmfjpaaGreatDoorP6
import Derived.Test.YtbdmnfoadmfjpaaGreatDoorRows
set_option maxRecDepth 1000000
set_option maxHeartbeats 0
set_option linter.unusedVariables false
set_option linter.unusedSimpArgs false
namespace Go.AI
open Go Go.Proofs Go.Proofs.YtbdmnfoadmfjpaaGreatDoor
noncomputable section
def Zo(f:Nat)(args:List AV)(H:Heap):Option CR:=
 (cond (Nat.beq f 97) (match args with|[.str s,.int .u8 (.ofNat c)]=>cond (Nat.ble c 255) (some (.ret (.int .i64 (PQ c s 0)) H)) none|_=>none)
 (cond (Nat.beq f 120) (match args with|[x]=>some (.ret x H)|_=>none)
 (cond (Nat.beq f 88) (match args with|[.int .i64 (.ofNat n)]=>cond (Nat.ble n 281474976710656) (some (.ret (.slice H.nx 0 n none) (H.new (.row ⟨5,1,n,.leaf,.unk,0,false,true,false⟩)))) none|_=>none)
 (cond (Nat.beq f 124) (match args with|[.str s,.int .u8 (.ofNat c)]=>cond (Nat.ble c 255) (some (.ret (.int .i64 (.ofNat (XS c s 0))) H)) none|_=>none)
 none))))
theorem mY:Tryz.prog.follows .mixedOrders=true:=by kernel_rfl
theorem vf:OT Tryz.prog Zo:=by
 intro f args H r h σ w vs hs hv
 unfold Zo at h
 cases h0:Nat.beq f 97 with
 |true=>
  rw[h0] at h
  have:=Z9 h0
  subst this
  simp only[cond_true] at h
  split at h
  ·rename_i s c
   cases hc:Nat.ble c 255 with
   |false=>rw[hc] at h;cases h
   |true=>
    rw[hc] at h;cases h
    exact j9 Tryz.func97 (by kernel_rfl) (by kernel_rfl) (by kernel_rfl) (by kernel_rfl) hc hs hv
  ·cases h
 |false=>
 rw[h0] at h
 simp only[cond_false] at h
 cases h1:Nat.beq f 120 with
 |true=>
  rw[h1] at h
  have:=Z9 h1
  subst this
  simp only[cond_true] at h
  split at h
  ·cases h
   exact vi Tryz.func120 (by kernel_rfl) (by kernel_rfl) (by kernel_rfl) (by kernel_rfl) hs hv
  ·cases h
 |false=>
 rw[h1] at h
 simp only[cond_false] at h
 cases h2:Nat.beq f 88 with
 |true=>
  rw[h2] at h
  have:=Z9 h2
  subst this
  simp only[cond_true] at h
  split at h
  ·rename_i n
   cases hn:Nat.ble n 281474976710656 with
   |false=>rw[hn] at h;cases h
   |true=>
    rw[hn] at h;cases h
    exact Aa (ps:=Tryz.f88.params) (t:=32) (e:=5) Tryz.func88 (by kernel_rfl) (by kernel_rfl) (by kernel_rfl) (by kernel_rfl) Tryz.underlying32 hn hs hv
  ·cases h
 |false=>
 rw[h2] at h
 simp only[cond_false] at h
 cases h3:Nat.beq f 124 with
 |true=>
  rw[h3] at h
  have:=Z9 h3
  subst this
  simp only[cond_true] at h
  split at h
  ·rename_i s c
   cases hc:Nat.ble c 255 with
   |false=>rw[hc] at h;cases h
   |true=>
    rw[hc] at h;cases h
    exact j8 Tryz.func124 (by kernel_rfl) (by kernel_rfl) (by kernel_rfl) (by kernel_rfl) hc hs hv
  ·cases h
 |false=>
 rw[h3] at h
 simp only[cond_false] at h
 cases h
theorem Bt:SC Tryz.prog (Z8 Zo fs 100000 1000):=Gw mY vf BM 100000 1000
def DC(d:DataW Unit):List RF:=match d with|.map l=>l.map λq=>⟨tC q.1,pu q.2,0⟩|_=>[]
def Zav(e:Nat->Nat):List (Nat×Nat×List AV):=[(0,e 0,[.map 11]),
 (1,e 1,[.map 12]),
 (2,e 2,[.map 13]),
 (3,e 3,Ur Rows.laid_portolan_sha_beginning),
 (5,e 5,Ur Rows.laid_portolan_sha_constants),
 (6,e 6,Ur Rows.laid_internal_strconv_uint64pow10),
 (7,e 7,Ur Rows.laid_math_bits_deBruijn32tab),
 (8,e 8,Ur Rows.laid_math_bits_deBruijn64tab),
 (9,e 9,Ur Rows.laid_unicode_utf8_first),
 (10,e 10,Ur Rows.laid_unicode_utf8_acceptRanges)]
def gs0:List (Nat×List AV):=[(0,[.map 11]),
 (1,[.map 12]),
 (2,[.map 13]),
 (3,Ur Rows.laid_portolan_sha_beginning),
 (5,Ur Rows.laid_portolan_sha_constants),
 (6,Ur Rows.laid_internal_strconv_uint64pow10),
 (7,Ur Rows.laid_math_bits_deBruijn32tab),
 (8,Ur Rows.laid_math_bits_deBruijn64tab),
 (9,Ur Rows.laid_unicode_utf8_first),
 (10,Ur Rows.laid_unicode_utf8_acceptRanges)]
def mW:List (Nat×List RF):=[(11,[⟨.int .i64 1,.func 147 [] [],0⟩,⟨.int .i64 2,.func 148 [] [],0⟩,⟨.int .i64 3,.func 149 [] [],0⟩]),(12,DC Rows.laid_portolan_tar_types),(13,DC Rows.laid_portolan_field_fields)]
def H0(e:Nat->Nat):Heap:=wp 100 (Zav e) mW
theorem ZdY: ∀x∈([]:List (Nat×CE)),ZeV Tryz.prog gs0 x:=λx h=>by cases h
end
end Go.AI
