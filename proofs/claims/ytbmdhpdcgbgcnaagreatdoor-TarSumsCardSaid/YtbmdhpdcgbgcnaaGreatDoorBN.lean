/- The functions without a body, and what is told of the variables at the beginning; no conditions. -/
import Derived.Test.YtbmdhpdcgbgcnaaGreatDoorEN
import Derived.Test.YtbmdhpdcgbgcnaaGreatDoorP6
import Derived.Test.YtbmdhpdcgbgcnaaGreatDoorRows
set_option maxRecDepth 1000000
set_option maxHeartbeats 0
set_option linter.unusedVariables false
set_option linter.unusedSimpArgs false
namespace Go.AI
open Go Go.Proofs Go.Proofs.YtbmdhpdcgbgcnaaGreatDoor
noncomputable section
def Zx(f:Nat)(args:List AV)(H:Heap):Option CR:=
 (cond (Nat.beq f 117) (match args with|[.str s,.int .u8 (.ofNat c)]=>cond (Nat.ble c 255) (some (.ret (.int .i64 (QC c s 0)) H)) none|_=>none)
 (cond (Nat.beq f 153) (match args with|[x]=>some (.ret x H)|_=>none)
 (cond (Nat.beq f 97) (match args with|[.int .i64 (.ofNat n)]=>cond (Nat.ble n 281474976710656) (some (.ret (.slice H.nx 0 n none) (H.new (.row ⟨5,1,n,.leaf,.unk,0,false,true,false⟩)))) none|_=>none)
 (cond (Nat.beq f 191) (match args with|[.str s,.int .u8 (.ofNat c)]=>cond (Nat.ble c 255) (some (.ret (.int .i64 (.ofNat (XT c s 0))) H)) none|_=>none)
 none))))
theorem ru:Tryz.prog.follows .mixedOrders=true:=by kernel_rfl
theorem zu:Ou Tryz.prog Zx:=by
 intro f args H r h σ w vs hs hv
 unfold Zx at h
 cases h0:Nat.beq f 117 with
 |true=>
  rw[h0] at h
  have:=Ye h0
  subst this
  simp only[cond_true] at h
  split at h
  ·rename_i s c
   cases hc:Nat.ble c 255 with
   |false=>rw[hc] at h;cases h
   |true=>
    rw[hc] at h;cases h
    exact pH Tryz.func117 (by kernel_rfl) (by kernel_rfl) (by kernel_rfl) (by kernel_rfl) hc hs hv
  ·cases h
 |false=>
 rw[h0] at h
 simp only[cond_false] at h
 cases h1:Nat.beq f 153 with
 |true=>
  rw[h1] at h
  have:=Ye h1
  subst this
  simp only[cond_true] at h
  split at h
  ·cases h
   exact zx Tryz.func153 (by kernel_rfl) (by kernel_rfl) (by kernel_rfl) (by kernel_rfl) hs hv
  ·cases h
 |false=>
 rw[h1] at h
 simp only[cond_false] at h
 cases h2:Nat.beq f 97 with
 |true=>
  rw[h2] at h
  have:=Ye h2
  subst this
  simp only[cond_true] at h
  split at h
  ·rename_i n
   cases hn:Nat.ble n 281474976710656 with
   |false=>rw[hn] at h;cases h
   |true=>
    rw[hn] at h;cases h
    exact Dc (ps:=Tryz.f97.params) (t:=24) (e:=5) Tryz.func97 (by kernel_rfl) (by kernel_rfl) (by kernel_rfl) (by kernel_rfl) Tryz.underlying24 hn hs hv
  ·cases h
 |false=>
 rw[h2] at h
 simp only[cond_false] at h
 cases h3:Nat.beq f 191 with
 |true=>
  rw[h3] at h
  have:=Ye h3
  subst this
  simp only[cond_true] at h
  split at h
  ·rename_i s c
   cases hc:Nat.ble c 255 with
   |false=>rw[hc] at h;cases h
   |true=>
    rw[hc] at h;cases h
    exact pG Tryz.func191 (by kernel_rfl) (by kernel_rfl) (by kernel_rfl) (by kernel_rfl) hc hs hv
  ·cases h
 |false=>
 rw[h3] at h
 simp only[cond_false] at h
 cases h
theorem yI:Sa Tryz.prog (Z7 Zx fs 100000 1000):=JE ru zu EP 100000 1000
def MB(d:DataW Unit):List Sy:=match d with|.map l=>l.map λq=>⟨zy q.1,xx q.2,0⟩|_=>[]
def iw(e:Nat->Nat):List (Nat×Nat×List AV):=[(0,e 0,[.map 12]),
 (1,e 1,[.map 13]),
 (2,e 2,[.map 14]),
 (3,e 3,[.map 15]),
 (5,e 5,SW Rows.laid_internal_strconv_uint64pow10),
 (6,e 6,SW Rows.laid_math_bits_deBruijn32tab),
 (7,e 7,SW Rows.laid_math_bits_deBruijn64tab),
 (8,e 8,[.iface 252 (.ptr 16 0)]),
 (9,e 9,[.iface 252 (.ptr 17 0)]),
 (10,e 10,SW Rows.laid_unicode_utf8_first),
 (11,e 11,SW Rows.laid_unicode_utf8_acceptRanges)]
def gs0:List (Nat×List AV):=[(0,[.map 12]),
 (1,[.map 13]),
 (2,[.map 14]),
 (3,[.map 15]),
 (5,SW Rows.laid_internal_strconv_uint64pow10),
 (6,SW Rows.laid_math_bits_deBruijn32tab),
 (7,SW Rows.laid_math_bits_deBruijn64tab),
 (8,[.iface 252 (.ptr 16 0)]),
 (9,[.iface 252 (.ptr 17 0)]),
 (10,SW Rows.laid_unicode_utf8_first),
 (11,SW Rows.laid_unicode_utf8_acceptRanges)]
def rt:List (Nat×List Sy):=[(12,MB Rows.laid_portolan_tar_types),(13,MB Rows.laid_portolan_tar_kinds),(14,[⟨.int .i64 1,.func 225 [] [],0⟩,⟨.int .i64 2,.func 226 [] [],0⟩,⟨.int .i64 3,.func 227 [] [],0⟩]),(15,MB Rows.laid_portolan_field_fields)]
def H0(e:Nat->Nat):Heap:=AP 100 (iw e) rt
theorem ca: ∀x∈([]:List (Nat×CE)),bQ Tryz.prog gs0 x:=λx h=>by cases h
end
end Go.AI
