/- The functions without a body, and what is told of the variables at the beginning; no conditions. -/
import Derived.Test.YtfkkljjgkopkfaaGreatDoorEN
import Derived.Test.YtfkkljjgkopkfaaGreatDoorP6
import Derived.Test.YtfkkljjgkopkfaaGreatDoorRows
set_option maxRecDepth 1000000
set_option maxHeartbeats 0
set_option linter.all false
namespace Go.AI
open Go Go.Proofs Go.Proofs.YtfkkljjgkopkfaaGreatDoor
noncomputable section
def Zq(f:Nat)(args:List AV)(H:Heap):Option CR:=
 (cond (Nat.beq f 108) (match args with|[.str s,.int .u8 (.ofNat c)]=>cond (Nat.ble c 255) (some (.ret (.int .i64 (Pb c s 0)) H)) none|_=>none)
 (cond (Nat.beq f 155) (match args with|[x]=>some (.ret x H)|_=>none)
 (cond (Nat.beq f 99) (match args with|[.int .i64 (.ofNat n)]=>cond (Nat.ble n 281474976710656) (some (.ret (.slice H.nx 0 n none) (H.new (.row ⟨5,1,n,.leaf,.unk,0,false,true,false⟩)))) none|_=>none)
 (cond (Nat.beq f 175) (match args with|[.str s,.int .u8 (.ofNat c)]=>cond (Nat.ble c 255) (some (.ret (.int .i64 (.ofNat (Xv c s 0))) H)) none|_=>none)
 none))))
def mixed:Tryz.prog.follows .mixedOrders=true:=by kernel_rfl
def jH:Kb Tryz.prog Zq:=by
 intro f args H r h σ w vs hs hv;unfold Zq at h;cases h0:Nat.beq f 108 with
 |true=>
  rw[h0] at h;have:=Yf h0;subst this;simp only[cond_true] at h
  split at h
  ·rename_i s c
   cases hc:Nat.ble c 255 with
   |false=>rw[hc] at h;cases h
   |true=>
    rw[hc] at h;cases h;exact eA Tryz.func108 (by kernel_rfl) (by kernel_rfl) (by kernel_rfl) (by kernel_rfl) hc hs hv
  ·cases h
 |false=>
 rw[h0] at h;simp only[cond_false] at h;cases h1:Nat.beq f 155 with
 |true=>
  rw[h1] at h;have:=Yf h1;subst this;simp only[cond_true] at h
  split at h
  ·cases h
   exact ud Tryz.func155 (by kernel_rfl) (by kernel_rfl) (by kernel_rfl) (by kernel_rfl) hs hv
  ·cases h
 |false=>
 rw[h1] at h;simp only[cond_false] at h;cases h2:Nat.beq f 99 with
 |true=>
  rw[h2] at h;have:=Yf h2;subst this;simp only[cond_true] at h
  split at h
  ·rename_i n
   cases hn:Nat.ble n 281474976710656 with
   |false=>rw[hn] at h;cases h
   |true=>
    rw[hn] at h;cases h;exact Ah (ps:=Tryz.f99.params) (t:=23) (e:=5) Tryz.func99 (by kernel_rfl) (by kernel_rfl) (by kernel_rfl) (by kernel_rfl) Tryz.underlying23 hn hs hv
  ·cases h
 |false=>
 rw[h2] at h;simp only[cond_false] at h;cases h3:Nat.beq f 175 with
 |true=>
  rw[h3] at h;have:=Yf h3;subst this;simp only[cond_true] at h
  split at h
  ·rename_i s c
   cases hc:Nat.ble c 255 with
   |false=>rw[hc] at h;cases h
   |true=>
    rw[hc] at h;cases h;exact eh Tryz.func175 (by kernel_rfl) (by kernel_rfl) (by kernel_rfl) (by kernel_rfl) hc hs hv
  ·cases h
 |false=>
 rw[h3] at h;simp only[cond_false] at h;cases h
def tX:PD Tryz.prog (ZA Zq fs 100000 1000):=Bo mixed jH vQ 100000 1000
def Kf(d:DataW Unit):List Ss:=match d with|.map l=>l.map λq=>⟨ue q.1,rY q.2,0⟩|_=>[]
def ZbR(e:Nat->Nat):List (Nat×Nat×List AV):=[(0,e 0,[.map 12]),
 (1,e 1,[.map 13]),
 (2,e 2,[.map 14]),
 (3,e 3,[.map 15]),
 (5,e 5,Pz Rows.laid_internal_strconv_uint64pow10),
 (6,e 6,Pz Rows.laid_math_bits_deBruijn32tab),
 (7,e 7,Pz Rows.laid_math_bits_deBruijn64tab),
 (8,e 8,[.iface 254 (.ptr 16 0)]),
 (9,e 9,[.iface 254 (.ptr 17 0)]),
 (10,e 10,Pz Rows.laid_unicode_utf8_first),
 (11,e 11,Pz Rows.laid_unicode_utf8_acceptRanges)]
def jP:List (Nat×List Ss):=[(12,Kf Rows.laid_portolan_tar_types),(13,[⟨.int .i64 1,.func 227 [] [],0⟩,⟨.int .i64 2,.func 228 [] [],0⟩,⟨.int .i64 3,.func 229 [] [],0⟩]),(14,Kf Rows.laid_portolan_tar_kinds),(15,Kf Rows.laid_portolan_field_fields)]
def H0(e:Nat->Nat):Heap:=vD 100 (ZbR e) jP
end
end Go.AI
