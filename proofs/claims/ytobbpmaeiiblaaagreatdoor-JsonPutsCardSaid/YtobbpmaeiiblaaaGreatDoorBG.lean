/- The functions without a body, and what is told of the variables at the beginning; no conditions. -/
import Derived.Test.YtobbpmaeiiblaaaGreatDoorEG
import Derived.Test.YtobbpmaeiiblaaaGreatDoorP6
import Derived.Test.YtobbpmaeiiblaaaGreatDoorRows
set_option maxRecDepth 1000000
set_option maxHeartbeats 0
set_option linter.unusedVariables false
set_option linter.unusedSimpArgs false
namespace Go.AI
open Go Go.Proofs Go.Proofs.YtobbpmaeiiblaaaGreatDoor
noncomputable section
def Zm(f:Nat)(args:List AV)(H:Heap):Option CR:=
 (cond (Nat.beq f 127) (match args with|[.str s, .int .u8 (.ofNat c)]=>cond (Nat.ble c 255) (some (.ret (.int .i64 (ZcA c s 0)) H)) none|_=>none)
 (cond (Nat.beq f 128) (match args with|[x]=>some (.ret x H)|_=>none)
 (cond (Nat.beq f 176) (match args with|[.int .i64 (.ofNat n)]=>cond (Nat.ble n 281474976710656) (some (.ret (.slice H.nx 0 n none) (H.new (.row ⟨5,1,n, .leaf, .unk,0,false,true,false⟩)))) none|_=>none)
 (cond (Nat.beq f 142) (match args with|[.str s, .int .u8 (.ofNat c)]=>cond (Nat.ble c 255) (some (.ret (.int .i64 (.ofNat (ZcB c s 0))) H)) none|_=>none)
 none))))
theorem ZvX:Tryz.prog.follows .mixedOrders=true:=by kernel_rfl
theorem ZsM:Zc7 Tryz.prog Zm:=by
 intro f args H r h σ w vs hs hv
 unfold Zm at h
 cases h0:Nat.beq f 127 with
 |true=>
  rw[h0] at h
  have:=ZG h0
  subst this
  simp only[cond_true] at h
  split at h
  ·rename_i s c
   cases hc:Nat.ble c 255 with
   |false=>rw[hc] at h;cases h
   |true=>
    rw[hc] at h;cases h
    exact Zuj Tryz.func127 (by kernel_rfl) (by kernel_rfl) (by kernel_rfl) (by kernel_rfl) hc hs hv
  ·cases h
 |false=>
 rw[h0] at h
 simp only[cond_false] at h
 cases h1:Nat.beq f 128 with
 |true=>
  rw[h1] at h
  have:=ZG h1
  subst this
  simp only[cond_true] at h
  split at h
  ·cases h
   exact Zoi Tryz.func128 (by kernel_rfl) (by kernel_rfl) (by kernel_rfl) (by kernel_rfl) hs hv
  ·cases h
 |false=>
 rw[h1] at h
 simp only[cond_false] at h
 cases h2:Nat.beq f 176 with
 |true=>
  rw[h2] at h
  have:=ZG h2
  subst this
  simp only[cond_true] at h
  split at h
  ·rename_i n
   cases hn:Nat.ble n 281474976710656 with
   |false=>rw[hn] at h;cases h
   |true=>
    rw[hn] at h;cases h
    exact Zlk (ps:=Tryz.f176.params) (t:=33) (e:=5) Tryz.func176 (by kernel_rfl) (by kernel_rfl) (by kernel_rfl) (by kernel_rfl) Tryz.underlying33 hn hs hv
  ·cases h
 |false=>
 rw[h2] at h
 simp only[cond_false] at h
 cases h3:Nat.beq f 142 with
 |true=>
  rw[h3] at h
  have:=ZG h3
  subst this
  simp only[cond_true] at h
  split at h
  ·rename_i s c
   cases hc:Nat.ble c 255 with
   |false=>rw[hc] at h;cases h
   |true=>
    rw[hc] at h;cases h
    exact Zuk Tryz.func142 (by kernel_rfl) (by kernel_rfl) (by kernel_rfl) (by kernel_rfl) hc hs hv
  ·cases h
 |false=>
 rw[h3] at h
 simp only[cond_false] at h
 cases h
def ZvY(e:Nat→Nat):List (Nat×Nat×List AV):=[(0,e 0,UF Rows.laid_unicode_utf8_first),
 (1,e 1,UF Rows.laid_unicode_utf8_acceptRanges),
 (3,e 3,UF Rows.laid_internal_strconv_uint64pow10),
 (6,e 6,UF Rows.laid_math_bits_deBruijn32tab),
 (7,e 7,UF Rows.laid_math_bits_deBruijn64tab),
 (8,e 8,[.iface 272 (.ptr 10 0)]),
 (9,e 9,[.iface 272 (.ptr 11 0)])]
def gs0:List (Nat×List AV):=[(0,UF Rows.laid_unicode_utf8_first),
 (1,UF Rows.laid_unicode_utf8_acceptRanges),
 (3,UF Rows.laid_internal_strconv_uint64pow10),
 (6,UF Rows.laid_math_bits_deBruijn32tab),
 (7,UF Rows.laid_math_bits_deBruijn64tab),
 (8,[.iface 272 (.ptr 10 0)]),
 (9,[.iface 272 (.ptr 11 0)])]
def ZBm:List (Nat×List Ent):=[]
def H0(e:Nat→Nat):Heap:=Zov 100 (ZvY e) ZBm
theorem Zy4: ∀x∈([]:List (Nat×CE)),ZBz Tryz.prog gs0 x:=fun x h=>by cases h
end
end Go.AI
