/- The functions without a body, and what is told of the variables at the beginning; no conditions. -/
import Derived.Test.YtlaambpobnkkbaaGreatDoorEN
import Derived.Test.YtlaambpobnkkbaaGreatDoorP6
import Derived.Test.YtlaambpobnkkbaaGreatDoorRows
set_option maxRecDepth 1000000
set_option maxHeartbeats 0
set_option linter.unusedVariables false
set_option linter.unusedSimpArgs false
namespace Go.AI
open Go Go.Proofs Go.Proofs.YtlaambpobnkkbaaGreatDoor
noncomputable section
def Zr(f:Nat)(args:List AV)(H:Heap):Option CR:=
 (cond (Nat.beq f 112) (match args with|[.str s,.int .u8 (.ofNat c)]=>cond (Nat.ble c 255) (some (.ret (.int .i64 (PY c s 0)) H)) none|_=>none)
 (cond (Nat.beq f 146) (match args with|[x]=>some (.ret x H)|_=>none)
 (cond (Nat.beq f 122) (match args with|[.int .i64 (.ofNat n)]=>cond (Nat.ble n 281474976710656) (some (.ret (.slice H.nx 0 n none) (H.new (.row ⟨5,1,n,.leaf,.unk,0,false,true,false⟩)))) none|_=>none)
 (cond (Nat.beq f 139) (match args with|[.str s,.int .u8 (.ofNat c)]=>cond (Nat.ble c 255) (some (.ret (.int .i64 (.ofNat (Xs c s 0))) H)) none|_=>none)
 none))))
theorem pT:Tryz.prog.follows .mixedOrders=true:=by kernel_rfl
theorem xo:Nu Tryz.prog Zr:=by
 intro f args H r h σ w vs hs hv
 unfold Zr at h
 cases h0:Nat.beq f 112 with
 |true=>
  rw[h0] at h
  have:=ZM h0
  subst this
  simp only[cond_true] at h
  split at h
  ·rename_i s c
   cases hc:Nat.ble c 255 with
   |false=>rw[hc] at h;cases h
   |true=>
    rw[hc] at h;cases h
    exact mB Tryz.func112 (by kernel_rfl) (by kernel_rfl) (by kernel_rfl) (by kernel_rfl) hc hs hv
  ·cases h
 |false=>
 rw[h0] at h
 simp only[cond_false] at h
 cases h1:Nat.beq f 146 with
 |true=>
  rw[h1] at h
  have:=ZM h1
  subst this
  simp only[cond_true] at h
  split at h
  ·cases h
   exact xq Tryz.func146 (by kernel_rfl) (by kernel_rfl) (by kernel_rfl) (by kernel_rfl) hs hv
  ·cases h
 |false=>
 rw[h1] at h
 simp only[cond_false] at h
 cases h2:Nat.beq f 122 with
 |true=>
  rw[h2] at h
  have:=ZM h2
  subst this
  simp only[cond_true] at h
  split at h
  ·rename_i n
   cases hn:Nat.ble n 281474976710656 with
   |false=>rw[hn] at h;cases h
   |true=>
    rw[hn] at h;cases h
    exact C0 (ps:=Tryz.f122.params) (t:=24) (e:=5) Tryz.func122 (by kernel_rfl) (by kernel_rfl) (by kernel_rfl) (by kernel_rfl) Tryz.underlying24 hn hs hv
  ·cases h
 |false=>
 rw[h2] at h
 simp only[cond_false] at h
 cases h3:Nat.beq f 139 with
 |true=>
  rw[h3] at h
  have:=ZM h3
  subst this
  simp only[cond_true] at h
  split at h
  ·rename_i s c
   cases hc:Nat.ble c 255 with
   |false=>rw[hc] at h;cases h
   |true=>
    rw[hc] at h;cases h
    exact mA Tryz.func139 (by kernel_rfl) (by kernel_rfl) (by kernel_rfl) (by kernel_rfl) hc hs hv
  ·cases h
 |false=>
 rw[h3] at h
 simp only[cond_false] at h
 cases h
theorem jt:SE Tryz.prog (ZU Zr fs 100000 1000):=Hn pT xo Cu 100000 1000
def C4(d:DataW Unit):List RF:=match d with|.map l=>l.map λq=>⟨vE q.1,rd q.2,0⟩|_=>[]
def dq(e:Nat->Nat):List (Nat×Nat×List AV):=[(0,e 0,[.map 11]),
 (1,e 1,[.map 12]),
 (2,e 2,T0 Rows.laid_portolan_sha_beginning),
 (3,e 3,T0 Rows.laid_portolan_sha_constants),
 (5,e 5,[.map 13]),
 (6,e 6,T0 Rows.laid_internal_strconv_uint64pow10),
 (7,e 7,T0 Rows.laid_unicode_utf8_first),
 (8,e 8,T0 Rows.laid_unicode_utf8_acceptRanges),
 (9,e 9,T0 Rows.laid_math_bits_deBruijn32tab),
 (10,e 10,T0 Rows.laid_math_bits_deBruijn64tab)]
def gs0:List (Nat×List AV):=[(0,[.map 11]),
 (1,[.map 12]),
 (2,T0 Rows.laid_portolan_sha_beginning),
 (3,T0 Rows.laid_portolan_sha_constants),
 (5,[.map 13]),
 (6,T0 Rows.laid_internal_strconv_uint64pow10),
 (7,T0 Rows.laid_unicode_utf8_first),
 (8,T0 Rows.laid_unicode_utf8_acceptRanges),
 (9,T0 Rows.laid_math_bits_deBruijn32tab),
 (10,T0 Rows.laid_math_bits_deBruijn64tab)]
def pS:List (Nat×List RF):=[(11,[⟨.int .i64 1,.func 172 [] [],0⟩,⟨.int .i64 2,.func 173 [] [],0⟩,⟨.int .i64 3,.func 174 [] [],0⟩]),(12,C4 Rows.laid_portolan_tar_types),(13,C4 Rows.laid_portolan_field_fields)]
def H0(e:Nat->Nat):Heap:=yM 100 (dq e) pS
theorem Zbo: ∀x∈([]:List (Nat×CE)),Zce Tryz.prog gs0 x:=λx h=>by cases h
end
end Go.AI
