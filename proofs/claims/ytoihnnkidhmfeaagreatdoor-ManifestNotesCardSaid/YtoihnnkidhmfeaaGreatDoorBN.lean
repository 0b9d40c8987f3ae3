/- The functions without a body, and what is told of the variables at the beginning; no conditions. -/
import Derived.Test.YtoihnnkidhmfeaaGreatDoorEN
import Derived.Test.YtoihnnkidhmfeaaGreatDoorP6
import Derived.Test.YtoihnnkidhmfeaaGreatDoorRows
set_option maxRecDepth 1000000
set_option maxHeartbeats 0
set_option linter.unusedVariables false
set_option linter.unusedSimpArgs false
namespace Go.AI
open Go Go.Proofs Go.Proofs.YtoihnnkidhmfeaaGreatDoor
noncomputable section
def ZM(f:Nat)(args:List AV)(H:Heap):Option CR:=
 (cond (Nat.beq f 98) (match args with|[x]=>some (.ret x H)|_=>none)
 (cond (Nat.beq f 114) (match args with|[.int .i64 (.ofNat n)]=>cond (Nat.ble n 281474976710656) (some (.ret (.slice H.nx 0 n none) (H.new (.row ⟨5,1,n,.leaf,.unk,0,false,true,false⟩)))) none|_=>none)
 none))
theorem qK:Tryz.prog.follows .mixedOrders=true:=by kernel_rfl
theorem xj:Np Tryz.prog ZM:=by
 intro f args H r h σ w vs hs hv
 unfold ZM at h
 cases h0:Nat.beq f 98 with
 |true=>
  rw[h0] at h
  have:=ZJ h0
  subst this
  simp only[cond_true] at h
  split at h
  ·cases h
   exact xl Tryz.func98 (by kernel_rfl) (by kernel_rfl) (by kernel_rfl) (by kernel_rfl) hs hv
  ·cases h
 |false=>
 rw[h0] at h
 simp only[cond_false] at h
 cases h1:Nat.beq f 114 with
 |true=>
  rw[h1] at h
  have:=ZJ h1
  subst this
  simp only[cond_true] at h
  split at h
  ·rename_i n
   cases hn:Nat.ble n 281474976710656 with
   |false=>rw[hn] at h;cases h
   |true=>
    rw[hn] at h;cases h
    exact CW (ps:=Tryz.f114.params) (t:=22) (e:=5) Tryz.func114 (by kernel_rfl) (by kernel_rfl) (by kernel_rfl) (by kernel_rfl) Tryz.underlying22 hn hs hv
  ·cases h
 |false=>
 rw[h1] at h
 simp only[cond_false] at h
 cases h
theorem mI:SS Tryz.prog (Yo ZM fs 100000 1000):=HP qK xj DU 100000 1000
def jD(e:Nat->Nat):List (Nat×Nat×List AV):=[(0,e 0,UW Rows.laid_portolan_sha_beginning),
 (1,e 1,UW Rows.laid_unicode_utf8_first),
 (2,e 2,UW Rows.laid_unicode_utf8_acceptRanges),
 (3,e 3,UW Rows.laid_portolan_sha_constants),
 (4,e 4,UW Rows.laid_internal_strconv_uint64pow10),
 (6,e 6,UW Rows.laid_math_bits_deBruijn32tab),
 (7,e 7,UW Rows.laid_math_bits_deBruijn64tab)]
def gs0:List (Nat×List AV):=[(0,UW Rows.laid_portolan_sha_beginning),
 (1,UW Rows.laid_unicode_utf8_first),
 (2,UW Rows.laid_unicode_utf8_acceptRanges),
 (3,UW Rows.laid_portolan_sha_constants),
 (4,UW Rows.laid_internal_strconv_uint64pow10),
 (6,UW Rows.laid_math_bits_deBruijn32tab),
 (7,UW Rows.laid_math_bits_deBruijn64tab)]
def bG:List (Nat×List Q7):=[]
def H0(e:Nat->Nat):Heap:=yJ 100 (jD e) bG
theorem fO: ∀x∈([]:List (Nat×CE)),dA Tryz.prog gs0 x:=λx h=>by cases h
end
end Go.AI
