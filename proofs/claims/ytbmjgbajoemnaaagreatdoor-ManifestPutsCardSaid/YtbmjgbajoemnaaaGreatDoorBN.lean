/- The functions without a body, and what is told of the variables at the beginning; no conditions. -/
import Derived.Test.YtbmjgbajoemnaaaGreatDoorEN
import Derived.Test.YtbmjgbajoemnaaaGreatDoorP6
import Derived.Test.YtbmjgbajoemnaaaGreatDoorRows
set_option maxRecDepth 1000000
set_option maxHeartbeats 0
set_option linter.unusedVariables false
set_option linter.unusedSimpArgs false
namespace Go.AI
open Go Go.Proofs Go.Proofs.YtbmjgbajoemnaaaGreatDoor
noncomputable section
def Zp(f:Nat)(args:List AV)(H:Heap):Option CR:=
 (cond (Nat.beq f 88) (match args with|[x]=>some (.ret x H)|_=>none)
 (cond (Nat.beq f 105) (match args with|[.int .i64 (.ofNat n)]=>cond (Nat.ble n 281474976710656) (some (.ret (.slice H.nx 0 n none) (H.new (.row ⟨5,1,n,.leaf,.unk,0,false,true,false⟩)))) none|_=>none)
 none))
theorem iA:Tryz.prog.follows .mixedOrders=true:=by kernel_rfl
theorem q9:NU Tryz.prog Zp:=by
 intro f args H r h σ w vs hs hv
 unfold Zp at h
 cases h0:Nat.beq f 88 with
 |true=>
  rw[h0] at h
  have:=ZW h0
  subst this
  simp only[cond_true] at h
  split at h
  ·cases h
   exact y6 Tryz.func88 (by kernel_rfl) (by kernel_rfl) (by kernel_rfl) (by kernel_rfl) hs hv
  ·cases h
 |false=>
 rw[h0] at h
 simp only[cond_false] at h
 cases h1:Nat.beq f 105 with
 |true=>
  rw[h1] at h
  have:=ZW h1
  subst this
  simp only[cond_true] at h
  split at h
  ·rename_i n
   cases hn:Nat.ble n 281474976710656 with
   |false=>rw[hn] at h;cases h
   |true=>
    rw[hn] at h;cases h
    exact CZ (ps:=Tryz.f105.params) (t:=33) (e:=5) Tryz.func105 (by kernel_rfl) (by kernel_rfl) (by kernel_rfl) (by kernel_rfl) Tryz.underlying33 hn hs hv
  ·cases h
 |false=>
 rw[h1] at h
 simp only[cond_false] at h
 cases h
def fj(e:Nat->Nat):List (Nat×Nat×List AV):=[(0,e 0,TL Rows.laid_unicode_utf8_first),
 (1,e 1,TL Rows.laid_unicode_utf8_acceptRanges),
 (2,e 2,TL Rows.laid_internal_strconv_uint64pow10),
 (4,e 4,TL Rows.laid_math_bits_deBruijn32tab),
 (5,e 5,TL Rows.laid_math_bits_deBruijn64tab)]
def gs0:List (Nat×List AV):=[(0,TL Rows.laid_unicode_utf8_first),
 (1,TL Rows.laid_unicode_utf8_acceptRanges),
 (2,TL Rows.laid_internal_strconv_uint64pow10),
 (4,TL Rows.laid_math_bits_deBruijn32tab),
 (5,TL Rows.laid_math_bits_deBruijn64tab)]
def Zay:List (Nat×List RE):=[]
def H0(e:Nat->Nat):Heap:=yl 100 (fj e) Zay
theorem bg: ∀x∈([]:List (Nat×CE)),aM Tryz.prog gs0 x:=λx h=>by cases h
end
end Go.AI
