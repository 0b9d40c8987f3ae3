/- The functions without a body, and what is told of the variables at the beginning; no conditions. -/
import Derived.Test.YtmnmknjlgpjcbaaGreatDoorEZ
import Derived.Test.YtmnmknjlgpjcbaaGreatDoorP6
import Derived.Test.YtmnmknjlgpjcbaaGreatDoorRows
set_option maxRecDepth 1000000
set_option maxHeartbeats 0
set_option linter.unusedVariables false
set_option linter.unusedSimpArgs false
namespace Go.AI
open Go Go.Proofs Go.Proofs.YtmnmknjlgpjcbaaGreatDoor
noncomputable section
def Zo(f:Nat)(args:List AV)(H:Zc):Option CR:=
 (cond (Nat.beq f 115) (match args with|[.str s,.int .u8 (.ofNat c)]=>cond (Nat.ble c 255) (some (.ret (.int .i64 (VS c s 0)) H)) none|_=>none)
 (cond (Nat.beq f 116) (match args with|[x]=>some (.ret x H)|_=>none)
 (cond (Nat.beq f 231) (match args with|[.int .i64 (.ofNat n)]=>cond (Nat.ble n 281474976710656) (some (.ret (.slice H.nx 0 n none) (H.new (.row ⟨5,1,n,.leaf,.unk,0,false,true,false⟩)))) none|_=>none)
 none)))
theorem dV:Tryz.prog.follows .mixedOrders=true:=by kernel_rfl
theorem nw:NZ Tryz.prog Zo:=by
 intro f args H r h σ w vs hs hv
 unfold Zo at h
 cases h0:Nat.beq f 115 with
 |true=>
  rw[h0] at h
  have:=ZT h0
  subst this
  simp only[cond_true] at h
  split at h
  ·rename_i s c
   cases hc:Nat.ble c 255 with
   |false=>rw[hc] at h;cases h
   |true=>
    rw[hc] at h;cases h
    exact kp Tryz.func115 (by kernel_rfl) (by kernel_rfl) (by kernel_rfl) (by kernel_rfl) hc hs hv
  ·cases h
 |false=>
 rw[h0] at h
 simp only[cond_false] at h
 cases h1:Nat.beq f 116 with
 |true=>
  rw[h1] at h
  have:=ZT h1
  subst this
  simp only[cond_true] at h
  split at h
  ·cases h
   exact xM Tryz.func116 (by kernel_rfl) (by kernel_rfl) (by kernel_rfl) (by kernel_rfl) hs hv
  ·cases h
 |false=>
 rw[h1] at h
 simp only[cond_false] at h
 cases h2:Nat.beq f 231 with
 |true=>
  rw[h2] at h
  have:=ZT h2
  subst this
  simp only[cond_true] at h
  split at h
  ·rename_i n
   cases hn:Nat.ble n 281474976710656 with
   |false=>rw[hn] at h;cases h
   |true=>
    rw[hn] at h;cases h
    exact CH (ps:=Tryz.f231.params) (t:=23) (e:=5) Tryz.func231 (by kernel_rfl) (by kernel_rfl) (by kernel_rfl) (by kernel_rfl) Tryz.underlying23 hn hs hv
  ·cases h
 |false=>
 rw[h2] at h
 simp only[cond_false] at h
 cases h
def bX(e:Nat->Nat):List (Nat×Nat×List AV):=[(1,e 1,T5 Rows.laid_unicode_utf8_first),
 (2,e 2,T5 Rows.laid_unicode_utf8_acceptRanges),
 (4,e 4,T5 Rows.laid_internal_strconv_uint64pow10),
 (6,e 6,[.iface 323 (.ptr 10 0)]),
 (7,e 7,[.iface 323 (.ptr 11 0)]),
 (8,e 8,T5 Rows.laid_math_bits_deBruijn32tab),
 (9,e 9,T5 Rows.laid_math_bits_deBruijn64tab)]
def gs0:List (Nat×List AV):=[(1,T5 Rows.laid_unicode_utf8_first),
 (2,T5 Rows.laid_unicode_utf8_acceptRanges),
 (4,T5 Rows.laid_internal_strconv_uint64pow10),
 (6,[.iface 323 (.ptr 10 0)]),
 (7,[.iface 323 (.ptr 11 0)]),
 (8,T5 Rows.laid_math_bits_deBruijn32tab),
 (9,T5 Rows.laid_math_bits_deBruijn64tab)]
def Zer:List (Nat×List RH):=[]
def H0(e:Nat->Nat):Zc:=yZ 100 (bX e) Zer
theorem ZcA: ∀x∈([]:List (Nat×CE)),ZdB Tryz.prog gs0 x:=λx h=>by cases h
end
end Go.AI
