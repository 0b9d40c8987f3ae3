/- The interpreter of my own for the model's code: its values, its operations, how code is compiled; definitions alone, no conditions. -/
import Derived.Calls
import GoSem.Step
set_option maxRecDepth 1000000
set_option maxHeartbeats 0
set_option linter.unusedVariables false
set_option linter.unusedSimpArgs false
namespace Go.AI
abbrev Zb:= @decide_eq_false
abbrev Za:= @List.getD_eq_getElem?_getD
abbrev Zm:= @Nat.ble_eq_true_of_le
abbrev Ze:= @decide_eq_true
abbrev Zo:= @of_decide_eq_true
abbrev Zl:= @Nat.le_refl
abbrev Zg:= @List.getElem?_eq_getElem
abbrev Zh:= @List.length_cons
abbrev Zs:= @Nat.zero_add
abbrev ZB:= @List.take_of_length_le
abbrev ZG:= @List.mem_cons_self
abbrev ZO:= @Nat.lt_of_lt_of_le
abbrev Zf:= @List.length_append
abbrev ZK:= @List.mem_cons_of_mem
abbrev ZW:= @Nat.eq_of_beq_eq_true
abbrev Z1:= @Nat.le_of_ble_eq_true
abbrev Z6:= @List.drop_zero
abbrev Zi:= @List.length_map
abbrev Z7:= @Nat.mod_eq_of_lt
abbrev Zv:= @List.length_nil
abbrev Yo:= @Nat.lt_succ_self
abbrev ZT:= @Array.getElem?_eq_some_iff
abbrev ZZ:= @Nat.add_zero
abbrev Zy:= @List.mem_append
abbrev Z8:= @Nat.zero_le
abbrev Zn:= @Nat.le_trans
abbrev Va:= @Nat.add_sub_cancel
abbrev ZN:= @List.mem_cons
abbrev Z9:= @Nat.beq_refl
abbrev Yz:= @Bool.true_and
abbrev Y4:= @Bool.false_and
abbrev YB:= @List.getElem?_eq_none
abbrev ZP:= @List.length_take
abbrev Yd:= @Array.getElem?_toList
abbrev ZU:= @Array.getD_eq_getD_getElem?
abbrev YW:= @List.length_eq_zero_iff
abbrev Yc:= @List.getElem?_append_left
abbrev Yy:= @Int.ofNat_eq_natCast
abbrev YL:= @List.not_mem_nil
abbrev V7:= @List.cons_append
abbrev Y0:= @List.getElem_mem
abbrev Y5:= @Nat.mul_le_mul_right
abbrev Tb:= @Nat.lt_of_le_of_lt
abbrev Nb:= @Nat.le_of_lt
abbrev Ws:= @List.length_pos_iff
abbrev T6:= @Nat.sub_self
abbrev Vl:= @Nat.mod_lt
abbrev Uu:= @List.drop_eq_nil_of_le
abbrev Yh:= @List.getElem?_map
abbrev Y6:= @List.append_assoc
abbrev OC:= @Nat.not_lt_zero
abbrev Qa:= @List.getElem_of_mem
abbrev WS:= @List.drop_succ_cons
abbrev UJ:= @List.take_length
abbrev VA:= @Nat.lt_irrefl
abbrev Yj:= @Bool.and_eq_true
abbrev Zk:= @List.forall_mem_cons
abbrev WE:= @Array.mem_of_getElem?
abbrev YR:= @List.all_eq_true
abbrev Xh:= @List.getElem?_eq_some_iff
abbrev Vp:= @Option.isSome_iff_exists
abbrev YH:= @Array.getElem?_setIfInBounds
abbrev Vh:= @Bool.eq_iff_iff
abbrev YJ:= @Bool.false_eq_true
abbrev R4:= @Nat.lt_succ_of_le
abbrev VK:= @UInt8.lt_iff_toNat_lt
abbrev Ql:= @Nat.pow_add
abbrev Vi:= @Nat.min_eq_left
abbrev Sm:= @Nat.min_eq_right
abbrev XF:= @Nat.add_assoc
abbrev WL:= @List.extract_eq_take_drop
abbrev T5:= @List.mem_of_mem_drop
abbrev US:= @List.mem_of_mem_take
abbrev Wi:= @Int.toNat_natCast
abbrev Xw:= @Nat.mul_one
abbrev Wb:= @Option.map_some
abbrev XT:= @Array.getElem?_modify
abbrev Wp:= @Array.getElem?_eq_getElem
abbrev WU:= @List.mem_of_getElem?
abbrev XD:= @List.getElem?_toArray
abbrev WC:= @List.getElem?_replicate
abbrev TE:= @List.replicate_succ
abbrev X4:= @List.ext_getElem?
abbrev Zu:= @List.getElem?_append_right
abbrev Xd:= @List.getElem?_drop
abbrev ZE:= @List.map_cons
abbrev TG:= @Bool.or_eq_true
abbrev W8:= @List.flatten_cons
abbrev Xu:= @Nat.add_mul
abbrev Ro:= @Array.toList_map
abbrev Wm:= @List.getElem?_range
abbrev YC:= @List.mem_map
abbrev W3:= @Nat.zero_mul
abbrev XV:= @Nat.le_succ
abbrev TH:= @Nat.div_add_mod
abbrev W2:= @Nat.mul_comm
abbrev UE:= @Bool.and_true
abbrev VC:= @Bool.true_or
abbrev SQ:= @Nat.mul_div_cancel
abbrev Qb:= @Nat.div_lt_iff_lt_mul
abbrev Vo:= @List.getElem?_cons_zero
abbrev Yq:= @List.getElem?_cons_succ
abbrev Xi:= @Bool.not_false
abbrev S2:= @Nat.le_mul_of_pos_right
abbrev Xn:= @Bool.not_true
abbrev Ug:= @List.mem_range
abbrev Vg:= @Nat.add_sub_cancel_left
abbrev Wt:= @List.map_map
abbrev Yb:= @List.map_nil
abbrev Tf:= @List.mem_map_of_mem
abbrev YP:= @List.mem_singleton
abbrev VU:= @Array.getElem?_setIfInBounds_ne
abbrev Rq:= @List.range'_succ
abbrev UR:= @List.mem_filterMap
abbrev V5:= @Bool.or_eq_false_iff
abbrev Ta:= @List.mem_filter
abbrev UG:= @List.filter_cons
abbrev XA:= @Array.mem_toList_iff
abbrev T4:= @List.map_congr_left
abbrev Xs:= @List.nil_append
abbrev VM:= @Nat.one_mul
abbrev SZ:= @List.drop_drop
abbrev R3:= @List.nodup_cons
abbrev SP:= @Nat.div_lt_of_lt_mul
abbrev Xe:= @List.map_append
abbrev S1:= @Nat.div_le_self
abbrev Xo:= @List.getElem?_take_of_lt
abbrev Yr:= @List.length_drop
abbrev UY:= @List.length_replicate
abbrev XU:= @List.set_cons_succ
abbrev Xv:= @List.length_set
abbrev Yl:= @List.append_nil
abbrev Qy:= @Nat.pow_succ
abbrev WV:= @List.take_append_of_le_length
abbrev T7:= @Nat.sub_zero
abbrev UZ:= @List.singleton_append
abbrev V6:= @List.any_eq_false
abbrev RF:= @Nat.div_div_eq_div_mul
abbrev TD:= @List.flatMap_append
abbrev UH:= @List.take_add_one
abbrev Th:= @List.take_append_drop
abbrev Wh:= @Bool.false_or
abbrev VD:= @List.take_zero
abbrev Ti:= @UInt8.ofNat_toNat
abbrev SE:= @List.mem_or_eq_of_mem_set
abbrev T3:= @List.getElem?_set_self
abbrev S0:= @List.getElem?_set_ne
abbrev Sx:= @List.sum_cons
abbrev WW:= @Nat.le_add_left
abbrev W9:= @List.take_succ_eq_append_getElem
abbrev WT:= @List.getD_cons_succ
abbrev VB:= @Bool.and_false
abbrev W6:= @List.mem_iff_getElem
abbrev Rp:= @List.getElem_map
abbrev Tg:= @List.set_append_right
end Go.AI
namespace Go.AI
open Go
noncomputable section
structure N8(α:Type) where
 a0:α
 a1:α
 a2:α
 a3:α
 a4:α
 a5:α
 a6:α
 a7:α
namespace N8
variable {α:Type}
def u0(f:α->α)(n:N8 α):N8 α:=N8.rec (λa b c d e g h i=>⟨f a,b,c,d,e,g,h,i⟩) n
def u1(f:α->α)(n:N8 α):N8 α:=N8.rec (λa b c d e g h i=>⟨a,f b,c,d,e,g,h,i⟩) n
def u2(f:α->α)(n:N8 α):N8 α:=N8.rec (λa b c d e g h i=>⟨a,b,f c,d,e,g,h,i⟩) n
def u3(f:α->α)(n:N8 α):N8 α:=N8.rec (λa b c d e g h i=>⟨a,b,c,f d,e,g,h,i⟩) n
def u4(f:α->α)(n:N8 α):N8 α:=N8.rec (λa b c d e g h i=>⟨a,b,c,d,f e,g,h,i⟩) n
def u5(f:α->α)(n:N8 α):N8 α:=N8.rec (λa b c d e g h i=>⟨a,b,c,d,e,f g,h,i⟩) n
def u6(f:α->α)(n:N8 α):N8 α:=N8.rec (λa b c d e g h i=>⟨a,b,c,d,e,g,f h,i⟩) n
def u7(f:α->α)(n:N8 α):N8 α:=N8.rec (λa b c d e g h i=>⟨a,b,c,d,e,g,h,f i⟩) n
def all(x:α):N8 α:=⟨x,x,x,x,x,x,x,x⟩
def proj(i:Nat):N8 α->α:=match i with|0=>a0|1=>a1|2=>a2|3=>a3|4=>a4|5=>a5|6=>a6|_=>a7
def upd(i:Nat):(α->α)->N8 α->N8 α:=match i with|0=>u0|1=>u1|2=>u2|3=>u3|4=>u4|5=>u5|6=>u6|_=>u7
end N8
inductive T(α:Type) where
 |leaf
 |node (l:T α) (v:Option α) (r:T α)
def JJ(f:Nat):Nat->List Bool:= @Nat.rec (λ_=>Nat->List Bool) (λ_=>[]) (λ_ ih n=> @Bool.rec (λ_=>List Bool) (@Bool.rec (λ_=>List Bool) (false::ih (Nat.sub (Nat.div n 2) 1)) (true::ih (Nat.div n 2)) (Nat.beq (Nat.mod n 2) 1)) [] (Nat.beq n 0)) f
def bits(n:Nat):List Bool:=JJ n n
namespace T
variable {α:Type}
def getB(t:T α):List Bool->Option α:=
 @T.rec α (λ_=>List Bool->Option α) (λ_=>none) (λ_ v _ gl gr bs=> @List.rec Bool (λ_=>Option α) v (λb bs _=> @Bool.rec (λ_=>Option α) (gr bs) (gl bs) b) bs) t
def single(x:α)(bs:List Bool):T α:= @List.rec Bool (λ_=>T α) (node leaf (some x) leaf) (λb _ ih=> @Bool.rec (λ_=>T α) (node leaf none ih) (node ih none leaf) b) bs
def setB(x:α)(t:T α):List Bool->T α:=
 @T.rec α (λ_=>List Bool->T α) (λbs=>single x bs) (λl v r sl sr bs=> @List.rec Bool (λ_=>T α) (node l (some x) r) (λb bs _=> @Bool.rec (λ_=>T α) (node l v (sr bs)) (node (sl bs) v r) b) bs) t
def delB(t:T α):List Bool->T α:=
 @T.rec α (λ_=>List Bool->T α) (λ_=>leaf) (λl v r sl sr bs=> @List.rec Bool (λ_=>T α) (node l none r) (λb bs _=> @Bool.rec (λ_=>T α) (node l v (sr bs)) (node (sl bs) v r) b) bs) t
def get(t:T α)(n:Nat):Option α:=getB t (bits n)
def set(t:T α)(n:Nat)(x:α):T α:=setB x t (bits n)
def del(t:T α)(n:Nat):T α:=delB t (bits n)
def SL:List α->List α
 |[]=>[]
 |[x]=>[x]
 |x::_::l=>x::SL l
def Rt:Nat->List α->T α
 |0,_=>leaf
 |_+1,[]=>leaf
 |f+1,x::l=>node (Rt f (SL l)) (some x) (Rt f (SL l.tail))
def ZfK(l:List α):Nat:=List.rec 0 (λ_ _ n=>Nat.succ n) l
def ofList(l:List α):T α:=Rt (ZfK l) l
end T
inductive AV where
 |unk
 |bool (b:Bool)
 |int (k:IntKind) (n:Int)
 |str (s:List UInt8)
 |nilp
 |ptr (b o:Nat)
 |nils
 |slice (b o len:Nat) (cap:Option Nat)
 |slice0
 |nilm
 |map (b:Nat)
 |func (f:Nat) (first caps:List AV)
 |meth (name:String) (recv:AV)
 |yield (b:Nat)
 |nilf
 |iface (t:Nat) (v:AV)
 |nili
 |agg (cs:List AV)
 |tup (vs:List AV)
 deriving Inhabited
def AV.cells(v:AV):List AV:=
 AV.casesOn v [] (λb=>[.bool b]) (λk n=>[.int k n]) (λs=>[.str s]) [.nilp] (λb o=>[.ptr b o]) [.nils] (λb o l c=>[.slice b o l c]) [.slice0] [.nilm] (λb=>[.map b])
  (λf a b=>[.func f a b]) (λn r=>[.meth n r]) (λb=>[.yield b]) [.nilf] (λt v=>[.iface t v]) [.nili] (λcs=>cs) (λ_=>[])
structure Row where
 elem:Nat
 sz:Nat
 size:Nat
 cells:T AV
 dflt:AV
 fz:Nat
 sm:Bool
 own:Bool
 exact:Bool
structure RE where
 key:AV
 val:AV
 born:Nat
inductive Obj where
 |row (r:Row)
 |map (es:List RE) (clock:Nat)
 |siter (s:List UInt8) (pos:Nat)
 |miter (m:Option Nat) (since:Nat) (cur:Option (Nat×Nat))
 |loop
 |cmap (es:List RE)
structure Heap where
 nx:Nat
 t:T Obj
 ro:Nat
def Row.get(r:Row)(i:Nat):AV:=Option.rec r.dflt (λv=>v) (r.cells.get i)
def Row.setCells(r:Row)(t:T AV):Row:=⟨r.elem,r.sz,r.size,t,r.dflt,r.fz,r.sm,r.own,r.exact⟩
def Heap.put(H:Heap)(b:Nat)(o:Obj):Heap:=⟨H.nx,H.t.set b o,H.ro⟩
def Heap.new(H:Heap)(o:Obj):Heap:=⟨Nat.succ H.nx,H.t.set H.nx o,H.ro⟩
inductive OR2 where
 |fail
 |call (f:Nat) (args:List AV) (H:Heap)
 |yield (b:Nat) (args:List AV) (H:Heap)
 |pan (v:AV) (H:Heap)
 |recov
 |defer (f:AV) (args:List AV)
inductive OR where
 |val (v:AV) (H:Heap)
 |oth (o:OR2)
abbrev OR.fail:OR:=.oth .fail
abbrev TM:=N8 (N8 (N8 AV))
abbrev W7:=TM->Heap->OR
abbrev Ye:=TM->AV
abbrev ZS:=TM->AV->TM
def e(f:N8 AV->AV)(g:N8 (N8 AV)->N8 AV)(h:TM->N8 (N8 AV)):Ye:=λtm=>f (g (h tm))
def k(v:AV):Ye:=λ_=>v
def d(f:(AV->AV)->N8 AV->N8 AV)(g:(N8 AV->N8 AV)->N8 (N8 AV)->N8 (N8 AV))(h:(N8 (N8 AV)->N8 (N8 AV))->TM->TM):ZS:=λtm v=>h (g (f (λ_=>v))) tm
def d0:ZS:=λtm _=>tm
def Sk(n:Nat):Ye:=e (N8.proj (n % 8)) (N8.proj (n/8 % 8)) (N8.proj (n/64))
def Pu(n:Nat):ZS:=d (N8.upd (n % 8)) (N8.upd (n/8 % 8)) (N8.upd (n/64))
def u8:N8 AV:=N8.all .unk
def u64:N8 (N8 AV):=N8.all u8
def ML:TM:=N8.all u64
def S5{α:Type}(a:Nat)(k:Nat->α):α:=Nat.rec (k 0) (λp _=>k (Nat.succ p)) a
def Pg{α:Type}(n:Int)(k:Int->α):α:=Int.rec (λa=>S5 a λa=>k (.ofNat a)) (λa=>S5 a λa=>k (.negSucc a)) n
def CP(a b:Int):Int:=Int.rec (λx=>Int.rec (λy=>.ofNat (Nat.add x y)) (λ_=>a+b) b) (λ_=>a+b) a
def CV(a b:Int):Int:=Int.rec (λx=>Int.rec (λy=>cond (Nat.ble y x) (.ofNat (Nat.sub x y)) (a - b)) (λ_=>a - b) b) (λ_=>a - b) a
def yT(a b:Int):Int:=Int.rec (λx=>Int.rec (λy=>.ofNat (Nat.mul x y)) (λ_=>a*b) b) (λ_=>a*b) a
def ZbY(a b:Int):Int:=Int.rec (λx=>Int.rec (λy=>.ofNat (Nat.div x y)) (λ_=>a.tdiv b) b) (λ_=>a.tdiv b) a
def ZbZ(a b:Int):Int:=Int.rec (λx=>Int.rec (λy=>.ofNat (Nat.mod x y)) (λ_=>a.tmod b) b) (λ_=>a.tmod b) a
def tL(a b:Int):Bool:=Int.rec (λx=>Int.rec (λy=>Nat.ble (Nat.succ x) y) (λ_=>false) b) (λx=>Int.rec (λ_=>true) (λy=>Nat.ble (Nat.succ y) x) b) a
def E8(a b:Int):Bool:=Int.rec (λx=>Int.rec (λy=>Nat.beq x y) (λ_=>false) b) (λx=>Int.rec (λ_=>false) (λy=>Nat.beq x y) b) a
def z5(k:IntKind)(m:Nat)(n:Int):Int:=Int.rec (λa=>cond (Nat.ble m a) (.ofNat (Nat.mod a m)) (.ofNat a)) (λ_=>k.wrap n) n
def uF(k:IntKind)(h:Nat)(n:Int):Int:=Int.rec (λa=>cond (Nat.ble h a) (k.wrap n) (.ofNat a)) (λa=>cond (Nat.ble h a) (k.wrap n) n) n
def ZaN(k:IntKind)(n:Int):Int:=
 IntKind.rec (uF .i8 128 n) (uF .i16 32768 n) (uF .i32 2147483648 n) (uF .i64 9223372036854775808 n) (z5 .u8 256 n) (z5 .u16 65536 n) (z5 .u32 4294967296 n) (z5 .u64 18446744073709551616 n) k
def PS(k:IntKind):Nat:=IntKind.rec 256 65536 4294967296 18446744073709551616 256 65536 4294967296 18446744073709551616 k
def Nx(m:Nat)(n:Int):Nat:=Int.rec (λa=>Nat.mod a m) (λa=>Nat.sub (Nat.sub m 1) (Nat.mod a m)) n
def P0(a b:IntKind):Bool:=Nat.beq a.ctorIdx b.ctorIdx
def Qq(v:AV)(k:IntKind->Int->OR):OR:=match v with|.int a b=>k a b|_=>.fail
def RB(v:AV)(k:Nat->OR):OR:=match v with|.int _ (.ofNat b)=>k b|_=>.fail
def FX(v:AV)(k:Bool->OR):OR:=match v with|.bool b=>k b|_=>.fail
def Oe(v:AV)(k:List UInt8->OR):OR:=match v with|.str s=>k s|_=>.fail
def QL(v:AV)(k:Nat->Nat->OR):OR:=match v with|.ptr b o=>k b o|_=>.fail
def Bf(v:AV)(k:List AV->OR):OR:=match v with|.agg cs=>k cs|_=>.fail
def py(v:AV)(k:List AV->OR):OR:=match v with|.tup cs=>k cs|_=>.fail
def QK(v:AV)(n:OR)(k:Nat->AV->OR):OR:=match v with|.iface t x=>k t x|.nili=>n|_=>.fail
def U0(v:AV)(n:OR)(k:Nat->Nat->Nat->Option Nat->OR):OR:=match v with|.slice b o l c=>k b o l c|.nils=>n|_=>.fail
def bM(v:AV)(z n:OR):OR:=match v with|.slice0=>z|_=>n
def ES(v:AV)(n:OR)(k:Nat->OR):OR:=match v with|.map b=>k b|.nilm=>n|_=>.fail
def KI(H:Heap)(b:Nat)(k:Obj->OR):OR:=match H.t.get b with|some o=>k o|none=>.fail
def Xp(H:Heap)(b:Nat)(k:Row->OR):OR:=match H.t.get b with|some (.row r)=>k r|_=>.fail
def Tu{α:Type}(x:Option α)(k:α->OR):OR:=match x with|some a=>k a|none=>.fail
def ZX(b:Bool)(k:OR):OR:=cond b k .fail
def LV(a b:UInt8):Bool:=Nat.beq a.toNat b.toNat
def LJ:List UInt8->List UInt8->Bool
 |[],[]=>true
 |a::x,b::y=>cond (LV a b) (LJ x y) false
 |_,_=>false
def Yn:List UInt8->List UInt8->Bool
 |_,[]=>false
 |[],_::_=>true
 |a::x,b::y=>cond (Nat.ble (Nat.succ a.toNat) b.toNat) true (cond (LV a b) (Yn x y) false)
def WO(r:Row)(o:Nat):Nat->List AV
 |0=>[]
 |n+1=>r.get o::WO r (Nat.succ o) n
def Wg(c:T AV):Nat->List AV->T AV
 |_,[]=>c
 |o,v::l=>Wg (c.set o v) (Nat.succ o) l
def YF{α:Type}(l:List α):Nat:=List.rec 0 (λ_ _ n=>Nat.succ n) l
def Gp:List AV->Nat->Option AV
 |[],_=>none
 |v::_,0=>some v
 |_::l,n+1=>Gp l n
def vA:List UInt8->Nat->Option UInt8
 |[],_=>none
 |v::_,0=>some v
 |_::l,n+1=>vA l n
def Heap.newRow(H:Heap)(elem sz:Nat)(cs:List AV)(exact:Bool):Heap:=
 H.new (.row ⟨elem,sz,YF cs,T.ofList cs,.unk,0,false,true,exact⟩)
def Heap.may(H:Heap)(r:Row)(b:Nat):Bool:=cond r.own (Nat.ble H.ro b) false
section
variable (x y z:Ye)
def Z0:W7:=λtm H=>.val (x tm) H
def ZjE:W7:=λtm H=>Oe (x tm) λs=>.val (.str s) H
def YN:W7:=λtm H=>FX (x tm) λb=>.val (cond b (y tm) (z tm)) H
def WK(e:Nat)(cs:List AV):W7:=λ_ H=>ZX (Nat.ble 1 (YF cs))<|.val (.ptr H.nx 0) (H.newRow e 1 cs true)
def Gt(e n:Nat)(v:AV):W7:=λ_ H=>.val (.ptr H.nx 0) (H.new (.row ⟨e,1,n,.leaf,v,0,false,true,true⟩))
def U3(e:Nat):W7:=λtm H=>ZX (Nat.ble 1 (YF (x tm).cells))<|.val (.ptr H.nx 0) (H.newRow e 1 (x tm).cells true)
end
structure ya where
 off:Nat
 sz:Nat
 x:Ye
def PX:Nat->List AV->List AV
 |0,_=>[]
 |_+1,[]=>[]
 |n+1,v::l=>v::PX n l
def Q0:Nat->List AV->List AV
 |0,l=>l
 |_+1,[]=>[]
 |n+1,_::l=>Q0 n l
def AJ(tm:TM)(k:List AV->OR):List ya->List AV->OR:=λps=>
 List.rec (λcells=>k cells) (λp _ ih cells=>
  ZX (Nat.ble 1 p.sz)<|ZX (Nat.beq (YF (p.x tm).cells) p.sz) (ZX (Nat.ble (Nat.add p.off p.sz) (YF cells)) (ih (PX p.off cells++((p.x tm).cells++Q0 (Nat.add p.off p.sz) cells))))) ps
def Vw(zs:List AV)(ps:List ya):W7:=λtm H=>ZX (Nat.ble 1 (YF zs))<|AJ tm (λcs=>.val (.agg cs) H) ps zs
def X7(e sz n:Nat)(zs:List AV)(ps:List ya):W7:=λtm H=>ZX (Nat.ble 1 sz)<|ZX (Nat.beq (YF zs) (Nat.mul n sz))<|AJ tm (λcs=>.val (.slice H.nx 0 n none) (H.newRow e sz cs true)) ps zs
section
variable (x y z:Ye)
def ZM:W7:=λtm H=>QL (x tm) λb o=>Xp H b λr=>ZX (Nat.ble (Nat.succ o) r.size) (.val (r.get o) H)
def YX(n:Nat):W7:=λtm H=>QL (x tm) λb o=>Xp H b λr=>ZX (Nat.ble (Nat.add o n) r.size) (.val (.agg (WO r o n)) H)
def Xl:AV:=.tup []
def YY(n:Nat):W7:=λtm H=>QL (x tm) λb o=>Xp H b λr=>
 ZX (Nat.ble 1 n)<|ZX (H.may r b) (ZX (Nat.ble (Nat.add o n) r.size) (ZX (Nat.ble r.fz o) (ZX (Nat.beq (YF (y tm).cells) n)
  (.val Xl (H.put b (.row (r.setCells (Wg r.cells o (y tm).cells))))))))
def xd(v:AV)(k:OR):OR:=match v with|.ptr .. |.func .. |.iface .. |.yield _=>k|_=>.fail
def Mk:W7:=λtm H=>xd (x tm) (.val (x tm) H)
def UP(k:IntKind)(n:Int)(H:Heap):OR:=Pg (ZaN k n) λn=>.val (.int k n) H
def FG(x y:AV)(k:IntKind->Int->Int->OR):OR:=Qq x λj a=>Qq y λl b=>ZX (P0 j l) (k j a b)
def WX:W7:=λtm H=>FG (x tm) (y tm) λk a b=>UP k (CV a b) H
def M5:W7:=λtm H=>FG (x tm) (y tm) λk a b=>UP k (yT a b) H
def M6:W7:=λtm H=>FG (x tm) (y tm) λk a b=>cond (E8 b 0) .fail (UP k (ZbY a b) H)
def Gu:W7:=λtm H=>FG (x tm) (y tm) λk a b=>cond (E8 b 0) .fail (Pg (ZbZ a b) λn=>.val (.int k n) H)
def TN(f:Nat->Nat->Nat->Nat):W7:=λtm H=>FG (x tm) (y tm) λk a b=>UP k (.ofNat (f (PS k) (Nx (PS k) a) (Nx (PS k) b))) H
def OK(_ a b:Nat):Nat:=Nat.land a b
def Mi(_ a b:Nat):Nat:=Nat.lor a b
def ei(_ a b:Nat):Nat:=Nat.xor a b
def Hk(m a b:Nat):Nat:=Nat.land a (Nat.sub (Nat.sub m 1) b)
def FR:W7:=λtm H=>Qq (x tm) λk a=>RB (y tm) λb=>UP k (yT a (.ofNat (Nat.pow 2 (cond (Nat.ble b 64) b 64)))) H
def Zb1(a:Int)(b:Nat):Int:=Int.rec (λx=>.ofNat (Nat.div x (Nat.pow 2 b))) (λx=>.negSucc (Nat.div x (Nat.pow 2 b))) a
def ql(k:IntKind):Nat:=IntKind.rec 8 16 32 64 8 16 32 64 k
def Kw(a b:Nat):Nat:=cond (Nat.ble a b) a b
def Ai:W7:=λtm H=>Qq (x tm) λk a=>RB (y tm) λb=>Pg (Zb1 a (Kw b (ql k))) λn=>.val (.int k n) H
def SV(b:Bool)(H:Heap):OR:=cond b (.val (.bool true) H) (.val (.bool false) H)
def YE(f:Int->Int->Bool)(g:List UInt8->List UInt8->Bool):W7:=λtm H=>match x tm with
 |.int j a=>Qq (y tm) λl b=>ZX (P0 j l) (SV (f a b) H)
 |.str a=>Oe (y tm) λb=>SV (g a b) H
 |_=>.fail
def XC(a b:Int):Bool:=tL a b
def Jz(a b:Int):Bool:=!tL b a
def Sq(a b:Int):Bool:=tL b a
def SK(a b:Int):Bool:=!tL a b
def VS(a b:List UInt8):Bool:=Yn b a
def Vd(a b:List UInt8):Bool:=!Yn a b
def Og(a b:List UInt8):Bool:=!Yn b a
def Yk:W7:=λtm H=>match x tm with
 |.int j a=>Qq (y tm) λl b=>ZX (P0 j l) (UP j (CP a b) H)
 |.str a=>Oe (y tm) λb=>ZX (Nat.ble (Nat.add (YF a) (YF b)) 4611686018427387904) (.val (.str (a++b)) H)
 |_=>.fail
def Sn(a b:AV):Option Bool:=match a,b with|.int j a,.int k b=>cond (P0 j k) (some (E8 a b)) none|_,_=>none
def Nc(a b:AV):Option Bool:=match a,b with|.str a,.str b=>some (LJ a b)|_,_=>none
def uJ(a b:AV):Option Bool:=match a,b with|.bool a,.bool b=>some (cond a b (cond b false true))|_,_=>none
def lX(a b:AV):Option Bool:=match a,b with
 |.nilp,.nilp=>some true
 |.nilp,.ptr .. =>some false
 |.ptr ..,.nilp=>some false
 |.ptr b o,.ptr c p=>cond (Nat.beq b c) (some (Nat.beq o p)) none
 |_,_=>none
def eqL(a b:AV):Option Bool:=match a,b with|.nils,.nils=>some true|.nils,.slice .. =>some false|.slice ..,.nils=>some false|.nils,.slice0=>some false|.slice0,.nils=>some false|_,_=>none
def eqM(a b:AV):Option Bool:=match a,b with|.nilm,.nilm=>some true|.nilm,.map _=>some false|.map _,.nilm=>some false|_,_=>none
def eqN(a b:AV):Option Bool:=match a,b with|.nilf,.nilf=>some true|.nilf,.func .. =>some false|.func ..,.nilf=>some false|_,_=>none
def oD(lit:Bool)(g:Nat->AV->AV->Option Bool)(a b:AV):Option Bool:=match a,b with
 |.nili,.nili=>cond lit (some true) none
 |.nili,.iface .. =>some false
 |.iface ..,.nili=>some false
 |.iface t v,.iface u w=>cond (Nat.beq t u) (g t v w) (some false)
 |_,_=>none
def eqC(P:Program)(f:Nat->AV->AV->Option Bool)(t:Nat)(v w:AV):Option Bool:=match P.info? t with|some i=>cond i.comparable (f t v w) none|none=>none
def ZaW(P:Program)(t:Nat):Option Bool:=match P.underlying t with|some (.struct _)|some (.array _ _)=>some true|some _=>some false|none=>none
def zt(P:Program)(t:Nat)(cs:List AV)(off:Nat)(k:AV->Option Bool):Option Bool:=match P.info? t,ZaW P t with
 |some i,some ag=>cond ag (k (.agg (PX i.size (Q0 off cs)))) (match Gp cs off with|some v=>k v|none=>none)
 |_,_=>none
def eU(r:Option Bool)(k:Option Bool):Option Bool:=match r with|some b=>cond b k (some false)|none=>none
def Hx(P:Program)(f:AV->AV->Option Bool)(e c:Nat)(l m:List AV):List Nat->Option Bool
 |[]=>some true
 |i::is=>zt P e l (i*c) λa=>zt P e m (i*c) λb=>eU (f a b) (Hx P f e c l m is)
def Ot(P:Program)(g:Nat->AV->AV->Option Bool)(l m:List AV):List Field->Option Bool
 |[]=>some true
 |f::fs=>cond (f.name== "_") (Ot P g l m fs) (zt P f.type l f.offset λa=>zt P f.type m f.offset λb=>eU (g f.type a b) (Ot P g l m fs))
def uL(a b:AV)(k:List AV->List AV->Option Bool):Option Bool:=match a,b with|.agg l,.agg m=>k l m|_,_=>none
def eqD(P:Program)(lit:Bool)(g:Nat->AV->AV->Option Bool)(t:Nat)(a b:AV)(d:TypeDesc):Option Bool:=match d with
 |.bool=>uJ a b
 |.int _=>Sn a b
 |.string=>Nc a b
 |.pointer e=>match P.info? e with|some i=>cond (Nat.beq i.size 0) none (lX a b)|none=>none
 |.slice _=>eqL a b
 |.map _ _=>eqM a b
 |.func _ _ _=>eqN a b
 |.interface _=>oD lit (eqC P g) a b
 |.array n e=>uL a b λl m=>match P.info? e with|some i=>Hx P (g e) e i.size l m (List.range n)|none=>none
 |.struct fs=>cond (P.stoodInHeld t) none (uL a b λl m=>Ot P g l m fs.toList)
 |_=>none
def eu(P:Program):Nat->Nat->AV->AV->Option Bool
 |0,_,_,_=>none
 |d+1,t,a,b=>match P.underlying t with|some u=>eqD P true (eu P d) t a b u|none=>none
def UQ(f:AV->AV->Option Bool)(neg:Bool):W7:=λtm H=>Tu (f (x tm) (y tm)) λb=>SV (cond neg (cond b false true) b) H
def QY:W7:=λtm H=>FX (x tm) λb=>.val (.bool (cond b false true)) H
def iK:W7:=λtm H=>Qq (x tm) λk a=>UP k (CV 0 a) H
def iV:W7:=λtm H=>Qq (x tm) λk a=>UP k (.ofNat (Nat.sub (Nat.sub (PS k) 1) (Nx (PS k) a))) H
def Qv(k:IntKind):W7:=λtm H=>Qq (x tm) λ_ a=>UP k a H
def Gj:List UInt8->List AV
 |[]=>[]
 |b::l=>.int .u8 (.ofNat b.toNat)::Gj l
def KC(e:Nat):W7:=λtm H=>Oe (x tm) λs=>.val (.slice H.nx 0 (YF s) none) (H.new (.row ⟨e,1,YF s,T.ofList (Gj s),.unk,0,true,true,false⟩))
def R7(k:List UInt8->OR):List AV->OR
 |[]=>k []
 |v::l=>match v with|.int .u8 (.ofNat n)=>R7 (λs=>k (UInt8.ofNat n::s)) l|_=>.fail
def KF:W7:=λtm H=>bM (x tm) (.val (.str []) H)<|U0 (x tm) (.val (.str []) H) λb o n _=>cond (Nat.beq n 0) (.val (.str []) H) (Xp H b λr=>ZX (Nat.ble (Nat.add o n) r.size) (R7 (λs=>.val (.str s) H) (WO r o n)))
def zo:W7:=λtm H=>match x tm with
 |.nilp=>.val .nilp H
 |.ptr b o=>Xp H b λr=>ZX (Nat.ble (Nat.succ o) r.size) (.val (.ptr b o) H)
 |_=>.fail
def zm(u n:Nat):W7:=λtm H=>match x tm with
 |.nilp=>.val .nilp H
 |.ptr b o=>Xp H b λr=>ZX r.exact (ZX (Nat.beq r.elem u) (ZX (Nat.beq o 0) (ZX (Nat.ble n r.size) (.val (.ptr b o) H))))
 |_=>.fail
def ZfQ:W7:=λtm H=>U0 (x tm) .fail λb _ _ _=>Xp H b λr=>ZX (cond r.sm false (H.may r b))<|ZX (Nat.beq r.fz 0)<|.val (x tm) (H.put b (.row ⟨r.elem,r.sz,r.size,r.cells,r.dflt,r.fz,true,r.own,r.exact⟩))
def pr:W7:=λtm H=>Qq (x tm) λ_ n=>.val (.str (Utf8.encode n).data.toList) H
def UX(t:Nat):W7:=λtm H=>.val (.iface t (x tm)) H
def evs(tm:TM):List Ye->List AV
 |[]=>[]
 |f::l=>f tm::evs tm l
def LC(f:Nat)(a b:List Ye):W7:=λtm H=>.val (.func f (evs tm a) (evs tm b)) H
def ZfR(n:String)(x:Ye):W7:=λtm H=>.val (.meth n (x tm)) H
def sN:W7:=λ_ H=>.val (.map H.nx) (H.new (.map [] 0))
def VW(eq:AV->AV->Option Bool)(k:AV)(no:OR)(yes:AV->OR):List RE->OR
 |[]=>no
 |e::l=>Option.rec .fail (λt=>cond t (yes e.val) (VW eq k no yes l)) (eq k e.key)
def OP(eq:AV->AV->Option Bool)(k v:AV)(clock:Nat)(done:List RE->Nat->OR):List RE->OR
 |[]=>done [⟨k,v,clock⟩] (Nat.succ clock)
 |e::l=>Option.rec .fail (λt=>cond t (done (⟨k,v,e.born⟩::l) clock) (OP eq k v clock (λl' c=>done (e::l') c) l)) (eq k e.key)
def uO(o:Obj)(k:List RE->OR):OR:=match o with|.map es _=>k es|.cmap es=>k es|_=>.fail
def As(o:Obj)(k:List RE->Nat->OR):OR:=match o with|.map es c=>k es c|_=>.fail
def Jk(eq:AV->AV->Option Bool)(m k v:Ye):W7:=λtm H=>ES (m tm) .fail λb=>KI H b λo=>As o λes clock=>
 ZX (Nat.ble H.ro b) (OP eq (k tm) (v tm) clock (λes c=>.val Xl (H.put b (.map es c))) es)
def JM(ok:Bool)(H:Heap)(v:AV)(b:Bool):OR:=cond ok (.val (.tup [v,.bool b]) H) (.val v H)
def xh(eq:AV->AV->Option Bool)(zv:AV)(ok:Bool)(m k:Ye):W7:=λtm H=>ES (m tm) (JM ok H zv false) λb=>KI H b λo=>uO o λes=>
 VW eq (k tm) (JM ok H zv false) (λv=>JM ok H v true) es
def ZaA(H:Heap)(e sz l c:Nat)(zs:List AV):OR:=match zs with
 |[v]=>ZX (Nat.beq sz 1)<|.val (.slice H.nx 0 l none) (H.new (.row ⟨e,1,c,.leaf,v,0,false,true,true⟩))
 |zs=>ZX (Nat.beq (YF zs) sz)<|.val (.slice H.nx 0 l none) (H.newRow e sz ((List.replicate c zs).flatten) true)
def iI(e sz bytes:Nat)(zs:List AV)(l c:Ye):W7:=λtm H=>RB (l tm) λl=>RB (c tm) λc=>ZX (Nat.ble 1 sz)<|ZX (Nat.ble l c) (ZX (Nat.ble c 140737488355328)<|ZX (Nat.ble (Nat.mul c bytes) 140737488355328) (ZaA H e sz l c zs))
def qp(tm:TM)(x:Option Ye)(d top:Nat)(k:Nat->OR):OR:=Option.rec (k d) (λf=>RB (f tm) λn=>ZX (Nat.ble n top) (k n)) x
def Il(tm:TM)(lo hi mx:Option Ye)(len cap:Nat)(k:Nat->Nat->Nat->OR):OR:=
 qp tm mx cap cap λm=>qp tm hi len m λh=>qp tm lo 0 h λl=>k l h m
def LL:Nat->List UInt8->List UInt8
 |0,_=>[]
 |_+1,[]=>[]
 |n+1,v::l=>v::LL n l
def JK:Nat->List UInt8->List UInt8
 |0,l=>l
 |_+1,[]=>[]
 |n+1,_::l=>JK n l
def UA(x:Ye)(lo hi mx:Option Ye):W7:=λtm H=>Option.rec (Oe (x tm) λs=>Il tm lo hi none (YF s) (YF s) λl h _=>.val (.str (JK l (LL h s))) H) (λ_=>.fail) mx
def UT(r:Row)(o:Nat)(cap:Option Nat):Nat:=Option.rec (cond (Nat.beq r.sz 1) (Nat.sub r.size o) (Nat.div (Nat.sub r.size o) r.sz)) (λc=>c) cap
def Ha(r:Row)(sz:Nat)(cap:Option Nat):Bool:=Option.rec (Nat.beq r.sz sz) (λ_=>true) cap
def FT(sz:Nat)(x:Ye)(lo hi mx:Option Ye):W7:=λtm H=>
 bM (x tm) (Il tm lo hi mx 0 0 λ_ _ _=>.val .slice0 H)<|U0 (x tm) (Il tm lo hi mx 0 0 λ_ _ _=>.val .nils H) λb o len cap=>Xp H b λr=>ZX (Ha r sz cap) (Il tm lo hi mx len (UT r o cap) λl h m=>ZX (Nat.ble l m)<|
  cond (Nat.beq l m) (Option.rec (Option.rec (.val (.slice H.nx 0 (Nat.sub h l) none) ⟨Nat.succ H.nx,H.t,H.ro⟩) (λ_=>.val (.slice b o (Nat.sub h l) (some 0)) H) cap) (λ_=>.val (.slice b o (Nat.sub h l) (some 0)) H) mx)
   (.val (.slice b (Nat.add o (Nat.mul l sz)) (Nat.sub h l) (Option.rec (Option.rec none (λc=>some (Nat.sub c l)) cap) (λ_=>some (Nat.sub m l)) mx)) H))
def FS(n sz:Nat)(x:Ye)(lo hi mx:Option Ye):W7:=λtm H=>QL (x tm) λb o=>Il tm lo hi mx n n λl h m=>
  cond (Nat.beq l m) (.val (.slice b o (Nat.sub h l) (some (Nat.sub m l))) H) (.val (.slice b (Nat.add o (Nat.mul l sz)) (Nat.sub h l) (some (Nat.sub m l))) H)
def Yx(n:Nat):W7:=λtm H=>QL (x tm) λb o=>.val (.ptr b (Nat.add o n)) H
def ZfO(o:Nat):W7:=λtm H=>Bf (x tm) λcs=>Tu (Gp cs o) λv=>.val v H
def ZjD(o n:Nat):W7:=λtm H=>Bf (x tm) λcs=>.val (.agg (PX n (Q0 o cs))) H
def YM(sz:Nat):W7:=λtm H=>RB (y tm) λi=>U0 (x tm) .fail λb o len _=>ZX (Nat.ble (Nat.succ i) len) (.val (.ptr b (Nat.add o (Nat.mul i sz))) H)
def KD(n sz:Nat):W7:=λtm H=>RB (y tm) λi=>QL (x tm) λb o=>ZX (Nat.ble (Nat.succ i) n) (.val (.ptr b (Nat.add o (Nat.mul i sz))) H)
def Y9:W7:=λtm H=>RB (y tm) λi=>Oe (x tm) λs=>Tu (vA s i) λb=>S5 b.toNat λn=>.val (.int .u8 (.ofNat n)) H
def C8(n:Nat):W7:=λtm H=>RB (y tm) λi=>Bf (x tm) λcs=>ZX (Nat.ble (Nat.succ i) n) (Tu (Gp cs i) λv=>.val v H)
def bq(n sz:Nat):W7:=λtm H=>RB (y tm) λi=>Bf (x tm) λcs=>ZX (Nat.ble (Nat.succ i) n) (.val (.agg (PX sz (Q0 (Nat.mul i sz) cs))) H)
def RP(zv:AV)(ok:Bool)(H:Heap)(v:Option AV):OR:=Option.rec (cond ok (.val (.tup [zv,.bool false]) H) .fail) (λv=>cond ok (.val (.tup [v,.bool true]) H) (.val v H)) v
def PA(t:Nat)(zv:AV)(ok:Bool):W7:=λtm H=>QK (x tm) (RP zv ok H none) λu v=>RP zv ok H (cond (Nat.beq u t) (some v) none)
def vC(P:Program)(ms:Array (String×TypeId))(zv:AV)(ok:Bool):W7:=λtm H=>QK (x tm) (RP zv ok H none) λu v=>Tu (P.info? u) λi=>RP zv ok H (Option.rec (some (.iface u v)) (λ_=>none) (Instr.missingMethod ms i.methods))
def XR(i:Nat):W7:=λtm H=>py (x tm) λvs=>Tu (Gp vs i) λv=>.val v H
def Gm(P:Program)(name:String)(u:Nat)(k:Nat->OR):OR:=
 Tu (P.info? u) λi=>Tu (i.methods.find? (·.name==name)) λm=>ZX m.path.isEmpty (match m.func with
  |some (g,ptr)=>match P.underlying u with
   |some (.pointer _)=>ZX ptr (k g)
   |some _=>cond ptr .fail (k g)
   |none=>.fail
  |none=>.fail)
def ZI(f:Nat)(args:List Ye):W7:=λtm H=>.oth (.call f (evs tm args) H)
def Q4(P:Program)(args:List Ye):W7:=λtm H=>match x tm with
 |.func f a b=>.oth (.call f (a++(evs tm args++b)) H)
 |.meth n r=>QK r .fail λu v=>Gm P n u λg=>.oth (.call g (v::evs tm args) H)
 |.yield b=>.oth (.yield b (evs tm args) H)
 |_=>.fail
def br(P:Program)(n:String)(args:List Ye):W7:=λtm H=>QK (x tm) .fail λu v=>Gm P n u λg=>.oth (.call g (v::evs tm args) H)
def y3(v:AV)(k:Nat->OR):OR:=match v with|.nils=>k 0|.slice0=>k 0|.slice _ _ n _=>k n|.str s=>k (YF s)|_=>.fail
def Vq(H:Heap)(sz:Nat)(v:AV)(n:Nat)(k:List AV->OR):OR:=cond (Nat.beq n 0) (k []) (match v with
 |.slice b o _ _=>Xp H b λr=>ZX (Nat.ble (Nat.add o (Nat.mul n sz)) r.size) (k (WO r o (Nat.mul n sz)))
 |.str s=>ZX (Nat.beq sz 1) (k (Gj (LL n s)))
 |_=>.fail)
def Ih(H:Heap)(e b o len n sz:Nat)(r:Row)(new:List AV):OR:=
 ZX (Nat.beq r.elem e)<|ZX (H.may r b)<|ZX (Nat.ble r.fz (Nat.mul len sz))<|ZX (Nat.beq (Nat.mul len sz) r.size)<|ZX (Nat.beq o 0)<|
  .val (.slice H.nx 0 (Nat.add len n) none) ⟨Nat.succ H.nx,(H.t.del b).set H.nx (.row ⟨r.elem,sz,Nat.mul (Nat.add len n) sz,Wg r.cells (Nat.mul len sz) new,r.dflt,r.fz,r.sm,true,false⟩),H.ro⟩
def DJ(H:Heap)(v:AV)(b o len n sz:Nat)(cap:Option Nat)(r:Row)(new:List AV):OR:=
 cond (Nat.beq n 0) (.val v H) (ZX (H.may r b) (ZX (Nat.ble (Nat.add o (Nat.mul (Nat.add len n) sz)) r.size) (ZX (Nat.ble r.fz (Nat.add o (Nat.mul len sz)))
  (.val (.slice b o (Nat.add len n) cap) (H.put b (.row (r.setCells (Wg r.cells (Nat.add o (Nat.mul len sz)) new))))))))
def LS(H:Heap)(e b o len n sz bytes:Nat)(cap:Option Nat)(r:Row)(new:List AV):OR:=
 ZX (Nat.ble (Nat.mul (Nat.add len n) bytes) 140737488355328)<|ZX (Nat.ble (Nat.add o (Nat.mul len sz)) r.size)<|Option.rec
  (cond r.exact (ZX (Nat.beq (Nat.mod o sz) 0) (.val (.slice H.nx 0 (Nat.add len n) none) (H.newRow e sz (WO r o (Nat.mul len sz)++new) false))) (Ih H e b o len n sz r new))
  (λ_=>.val (.slice H.nx 0 (Nat.add len n) none) (H.newRow e sz (WO r o (Nat.mul len sz)++new) false)) cap
def NW(v:AV)(e sz bytes:Nat)(H:Heap)(n:Nat)(new:List AV):OR:=
 bM v (cond (Nat.beq n 0) (.val .slice0 H) (ZX (Nat.ble (Nat.mul n bytes) 140737488355328) (.val (.slice H.nx 0 n none) (H.newRow e sz new false))))<|
 U0 v (cond (Nat.beq n 0) (.val .nils H) (ZX (Nat.ble (Nat.mul n bytes) 140737488355328) (.val (.slice H.nx 0 n none) (H.newRow e sz new false)))) λb o len cap=>Xp H b λr=>
  ZX (Ha r sz cap) (cond (Nat.ble (Nat.add len n) (UT r o cap)) (DJ H v b o len n sz cap r new) (LS H e b o len n sz bytes cap r new))
def VF(e sz bytes:Nat):W7:=λtm H=>ZX (Nat.ble 1 sz)<|ZX (Nat.ble 1 bytes)<|y3 (y tm) λn=>Vq H sz (y tm) n λnew=>NW (x tm) e sz bytes H n new
def vB(e sz bytes:Nat)(zs:List AV):W7:=λtm H=>ZX (Nat.ble 1 sz)<|ZX (Nat.ble 1 bytes)<|RB (y tm) λn=>ZX (Nat.ble (Nat.mul n bytes) 140737488355328)<|NW (x tm) e sz bytes H n (List.replicate n zs).flatten
def pq(sz:Nat):W7:=λtm H=>y3 (y tm) λsn=>U0 (x tm) (.val (.int .i64 0) H) λb o dn _=>S5 (Kw dn sn) λn=>Vq H sz (y tm) n λnew=>
 cond (Nat.beq n 0) (.val (.int .i64 0) H) (Xp H b λr=>ZX (H.may r b) (ZX (Nat.ble r.fz o) (ZX (Nat.ble (Nat.add o (Nat.mul n sz)) r.size) (.val (.int .i64 (.ofNat n)) (H.put b (.row (r.setCells (Wg r.cells o new))))))))
def TO:W7:=λtm H=>Oe (x tm) λs=>S5 (YF s) λn=>.val (.int .i64 (.ofNat n)) H
def X9:W7:=λtm H=>bM (x tm) (.val (.int .i64 0) H)<|U0 (x tm) (.val (.int .i64 0) H) λ_ _ n _=>S5 n λn=>.val (.int .i64 (.ofNat n)) H
def ZfP:W7:=λtm H=>ES (x tm) (.val (.int .i64 0) H) λb=>KI H b λo=>As o λes _=>.val (.int .i64 (.ofNat (YF es))) H
def bo:W7:=λtm H=>U0 (x tm) (.val (.int .i64 0) H) λb o _ cap=>Option.rec (Xp H b λr=>ZX r.exact (ZX (Nat.beq (Nat.mod o r.sz) 0) (.val (.int .i64 (.ofNat (UT r o none))) H))) (λc=>.val (.int .i64 (.ofNat c)) H) cap
def min2(mx:Bool)(k:IntKind)(a:Int)(H:Heap):List AV->OR
 |[]=>.val (.int k a) H
 |v::l=>match v with|.int j b=>ZX (P0 j k) (min2 mx k (cond (cond mx (tL a b) (tL b a)) b a) H l)|_=>.fail
def QJ(mx:Bool)(args:List Ye):W7:=λtm H=>match evs tm args with
 |.int k a::l=>min2 mx k a H l
 |_=>.fail
def pu(e:Nat):W7:=λtm H=>RB (y tm) λn=>cond (Nat.beq n 0) (match x tm with|.nilp=>.val (.str []) H|.ptr .. =>.val (.str []) H|_=>.fail)
 (ZX (Nat.ble n 140737488355328)<|QL (x tm) λb o=>Xp H b λr=>ZX (Nat.beq r.elem e)<|ZX (cond r.sm false (H.may r b)) (ZX (Nat.ble (Nat.add o n) r.size) (R7 (λs=>.val (.str s)
  (H.put b (.row ⟨r.elem,r.sz,r.size,r.cells,r.dflt,cond (Nat.ble r.fz (Nat.add o n)) (Nat.add o n) r.fz,r.sm,r.own,r.exact⟩))) (WO r o n))))
def Ds:W7:=λtm H=>U0 (x tm) (.val .nilp H) λb o _ cap=>Option.rec (Xp H b λr=>ZX (Nat.ble (Nat.succ o) r.size) (.val (.ptr b o) H)) (λc=>ZX (Nat.ble 1 c) (.val (.ptr b o) H)) cap
def IN:W7:=λtm H=>QK (x tm) .fail λ_ _=>.oth (.pan (x tm) H)
def C9:W7:=λ_ _=>.oth .recov
def C7(args:List Ye):W7:=λtm _=>.oth (.defer (x tm) (evs tm args))
def bA:W7:=λtm H=>ES (x tm) (.val (.ptr H.nx 0) (H.new (.miter none 0 none))) λb=>KI H b λo=>As o λ_ c=>.val (.ptr H.nx 0) (H.new (.miter (some b) c none))
def bB:W7:=λtm H=>Oe (x tm) λs=>.val (.ptr H.nx 0) (H.new (.siter s 0))
def dt(o:Obj)(k:List UInt8->Nat->OR):OR:=match o with|.siter s pos=>k s pos|_=>.fail
def ZfS:W7:=λtm H=>QL (x tm) λb o=>ZX (Nat.beq o 0)<|ZX (Nat.ble H.ro b)<|KI H b λo=>dt o λs pos=>
 cond (Nat.ble (Nat.succ pos) (YF s)) (match Utf8.decode ⟨s.toArray⟩ pos with|(c,w)=>.val (.tup [.bool true,.int .i64 (.ofNat pos),.int .i32 c]) (H.put b (.siter s (Nat.add pos w)))) (.val (.tup [.bool false]) H)
def yF(n:Nat)(k:RE->OR):List RE->OR
 |[]=>.fail
 |e::l=>cond (Nat.beq e.born n) (k e) (yF n k l)
def yj(o:Obj)(k:Nat->Nat->Nat->OR):OR:=match o with|.miter (some m) _ (some (n,st))=>k m n st|_=>.fail
def bu:W7:=λtm H=>QL (x tm) λb o=>ZX (Nat.beq o 0)<|KI H b λob=>yj ob λm n st=>KI H m λom=>As om λes c=>ZX (Nat.beq c st) (yF n (λe=>.val (.tup [e.key,e.val]) H) es)
def VG:W7:=λ_ _=>.fail
end
inductive Out where
 |normal|exit (id:Nat)|ret|pan (v:AV)
inductive CR where
 |fail
 |ret (v:AV) (H:Heap)
 |pan (v:AV) (H:Heap)
structure X where
 df:List (AV×List AV)
 rc:Option AV
inductive Wd where
 |fail
 |ok (o:Out) (tm:TM) (H:Heap) (x:X)
structure Ctx where
 call:Nat->List AV->Heap->CR
 yld:Nat->List AV->Heap->CR
 rng:AV->(List AV->Heap->CR)->TM->Heap->X->Wd
 fuel:Nat
 rnd:Bool
abbrev D:=Ctx->TM->Heap->X->Wd
def VY:Nat->List AV->Heap->CR:=λ_ _ _=>.fail
def VX:AV->(List AV->Heap->CR)->TM->Heap->X->Wd:=λ_ _ _ _ _=>.fail
def Da(next:TM->Heap->X->Wd)(dst:ZS)(tm:TM)(x:X)(r:CR):Wd:=match r with
 |.ret v H=>next (dst tm v) H x
 |.pan v H=>.ok (.pan v) tm H x
 |.fail=>.fail
def mS(next:TM->Heap->X->Wd)(dst:ZS)(c:Ctx)(tm:TM)(H:Heap)(x:X)(o:OR2):Wd:=match o with
 |.call f args H=>Da next dst tm x (c.call f args H)
 |.yield b args H=>Da next dst tm x (c.yld b args H)
 |.pan v H=>.ok (.pan v) tm H x
 |.recov=>cond c.rnd .fail (match x.rc with
  |some v=>next (dst tm v) H ⟨x.df,none⟩
  |none=>next (dst tm .nili) H x)
 |.defer f args=>match f with
  |.func _ _ _=>cond c.rnd .fail (next (dst tm Xl) H ⟨(f,args)::x.df,x.rc⟩)
  |_=>.fail
 |.fail=>.fail
def Ph(next:TM->Heap->X->Wd)(dst:ZS)(c:Ctx)(tm:TM)(H:Heap)(x:X)(r:OR):Wd:=
 @OR.rec (λ_=>Wd) (λv H=>next (dst tm v) H x) (λo=>mS next dst c tm H x o) r
def yU(v:AV)(k:Bool->Wd):Wd:=match v with|.bool c=>k c|_=>.fail
def Zc(f:W7)(dst:ZS)(next:D):D:=λc tm H x=>Ph (next c) dst c tm H x (f tm H)
def Uz(v:AV)(b:Bool)(yes no:Wd):Wd:=match v with
 |.bool c=> @Bool.rec (λ_=>Wd) (@Bool.rec (λ_=>Wd) yes no b) (@Bool.rec (λ_=>Wd) no yes b) c
 |.tup _=>no
 |_=>.fail
def Ya(g:Ye)(b:Bool)(f:W7)(dst:ZS)(next:D):D:=λc tm H x=>
 Uz (g tm) b (Ph (next c) dst c tm H x (f tm H)) (next c (dst tm Xl) H x)
def Zd:D:=λ_ tm H x=>.ok .normal tm H x
def RC(r:Wd)(k:TM->Heap->X->Wd):Wd:=
 @Wd.rec (λ_=>Wd) .fail (λo tm H x=> @Out.rec (λ_=>Wd) (k tm H x) (λi=>.ok (.exit i) tm H x) (.ok .ret tm H x) (λv=>.ok (.pan v) tm H x) o) r
def Zj(a b:D):D:=λc tm H x=>RC (a c tm H x) (b c)
def Ho(a b:TM->Heap->X->Wd)(v:Bool)(tm:TM)(H:Heap)(x:X):Wd:= @Bool.rec (λ_=>Wd) (b tm H x) (a tm H x) v
def Z3(q:Ye)(a b:D):D:=λc tm H x=>yU (q tm) λv=>Ho (a c) (b c) v tm H x
def QF(id:Nat)(r:Wd):Wd:=
 @Wd.rec (λ_=>Wd) .fail (λo tm H x=> @Out.rec (λ_=>Wd) (.ok .normal tm H x) (λi=> @Bool.rec (λ_=>Wd) (.ok (.exit i) tm H x) (.ok .normal tm H x) (Nat.beq i id)) (.ok .ret tm H x) (λv=>.ok (.pan v) tm H x) o) r
def Yf(id:Nat)(a:D):D:=λc tm H x=>QF id (a c tm H x)
def XQ(a:TM->Heap->X->Wd)(n:Nat):TM->Heap->X->Wd:=
 @Nat.rec (λ_=>TM->Heap->X->Wd) (λ_ _ _=>.fail) (λ_ ih tm H x=>RC (a tm H x) ih) n
def Wj(a:D):D:=λc tm H x=>XQ (a c) c.fuel tm H x
def Dt(r:Wd)(k:Bool):Bool:=match r with
 |.ok .normal _ _ y=>cond (match y.df,y.rc with|[],none=>true|_,_=>false) k false
 |_=>false
def Bp(body:TM->Heap->X->Wd)(b m since:Nat)(dst:ZS)(tm:TM)(H:Heap)(es:List RE):Bool:=
 List.rec true (λe _ ih=>Dt (body (dst tm (.tup [.bool true,e.key,e.val])) ⟨H.nx,H.t.set b (.miter (some m) since (some (e.born,since))),H.nx⟩ ⟨[],none⟩) ih) es
def ZfX(v:AV)(k:Nat->Nat->Wd):Wd:=match v with|.ptr b o=>k b o|_=>.fail
def ZjF(o:Option Obj)(no:Wd)(k:Nat->Nat->Wd):Wd:=match o with|some (.miter none _ none)=>no|some (.miter (some m) s none)=>k m s|_=>.fail
def ZfW(o:Option Obj)(since:Nat)(k:List RE->Wd):Wd:=match o with|some (.map es c)=>cond (Nat.beq c since) (k es) .fail|_=>.fail
def Qz(tm:TM):List ZS->TM
 |[]=>tm
 |d::l=>Qz (d tm .unk) l
def Ky(r:Wd):Wd:=match r with|.ok .normal _ _ _=>.fail|r=>r
def ra(x:X)(k:Wd):Wd:=match x.df,x.rc with|[],none=>k|_,_=>.fail
def sD(r a:TM->Heap->X->Wd)(q:Ye)(dst:ZS)(tm:TM)(H:Heap)(x:X):Wd:=
 ZfX (q tm) λb o=>cond (Nat.beq o 0) (cond (Nat.ble H.ro b) (ZjF (H.t.get b) (Ky (a (dst tm (.tup [.bool false])) H x)) λm s=>ZfW (H.t.get m) s λes=>
  ra x (cond (Bp r b m s dst tm H es) (Ky (a (dst tm (.tup [.bool false])) ⟨H.nx,H.t.del b,H.ro⟩ x)) .fail)) .fail) .fail
def sC(q:Ye)(dst:ZS)(dead:List ZS)(a:D):D:=λc tm H x=>sD (a ⟨c.call,VY,VX,c.fuel,true⟩) (a c) q dst (Qz tm dead) H x
def We(id:Nat):D:=λ_ tm H x=>.ok (.exit id) tm H x
def Yv:D:=λ_ tm H x=>.ok .ret tm H x
def Q7:D:=λ_ _ _ _=>.fail
def Pt(tm:TM):List ZS->List AV->TM
 |d::ds,v::vs=>Pt (d tm v) ds vs
 |_,_=>tm
def Le(r:Wd):CR:=match r with
 |.ok .normal _ H _=>.ret (.bool true) H
 |_=>.fail
def xB(q:Ye)(ps:List ZS)(a:D):D:=λc tm H x=>
 c.rng (q tm) (λys H=>cond (Nat.beq (YF ys) (YF ps)) (Le (a ⟨c.call,VY,VX,c.fuel,true⟩ (Pt tm ps ys) H ⟨[],none⟩)) .fail) tm H x
inductive If where|free|read|eff
structure PI where
 f:W7
 g:Option (Ye×Bool)
 os:List (ZS×Ye)
 dst:ZS
 kind:If
 i:Nat
 bef:Nat
mutual
def Xm(n:Nat):AV->Bool
 |.ptr b _=>Nat.ble (Nat.succ b) n
 |.slice b _ _ _=>Nat.ble (Nat.succ b) n
 |.map b=>Nat.ble (Nat.succ b) n
 |.func _ x y=>cond (U7 n x) (U7 n y) false
 |.meth _ v=>Xm n v
 |.yield b=>Nat.ble (Nat.succ b) n
 |.iface _ v=>Xm n v
 |.agg l=>U7 n l
 |.tup l=>U7 n l
 |_=>true
def U7(n:Nat):List AV->Bool
 |[]=>true
 |v::l=>cond (Xm n v) (U7 n l) false
end
def RL(tm:TM)(os:List (ZS×Ye)):TM:=List.rec ML (λp _ ih=>p.1 ih (p.2 tm)) os
def RA(n:Nat)(tm:TM)(os:List (ZS×Ye)):Bool:=List.rec true (λp _ ih=>cond (Xm n (p.2 tm)) ih false) os
mutual
def same:AV->AV->Bool
 |.bool a,.bool b=>cond a b (cond b false true)
 |.int k a,.int j b=>cond (P0 k j) (E8 a b) false
 |.str a,.str b=>LJ a b
 |.nilp,.nilp=>true
 |.ptr a b,.ptr c d=>cond (Nat.beq a c) (Nat.beq b d) false
 |.nils,.nils=>true
 |.slice0,.slice0=>true
 |.slice a b c d,.slice e f g h=>cond (Nat.beq a e) (cond (Nat.beq b f) (cond (Nat.beq c g) (match d,h with|none,none=>true|some x,some y=>Nat.beq x y|_,_=>false) false) false) false
 |.nilm,.nilm=>true
 |.map a,.map b=>Nat.beq a b
 |.func f a b,.func g c d=>cond (Nat.beq f g) (cond (XB a c) (XB b d) false) false
 |.nilf,.nilf=>true
 |.iface t v,.iface u w=>cond (Nat.beq t u) (same v w) false
 |.nili,.nili=>true
 |.agg a,.agg b=>XB a b
 |.tup a,.tup b=>XB a b
 |_,_=>false
def XB:List AV->List AV->Bool
 |[],[]=>true
 |a::as,b::bs=>cond (same a b) (XB as bs) false
 |_,_=>false
end
structure RD where
 p:PI
 v:AV
def vO(u:RD)(tm:TM)(H:Heap):Bool:=OR.rec (λv H1=>cond (Nat.beq H1.nx H.nx) (same v u.v) false) (λ_=>false) (u.p.f (RL tm u.p.os) ⟨H.nx,H.t,H.nx⟩)
def still(tm:TM)(H:Heap)(rs:List RD):Bool:=List.rec true (λr _ ih=>cond (vO r tm H) ih false) rs
def Uk(bef:Nat)(rs:List RD):List RD:=List.rec [] (λr _ ih=>cond (Nat.testBit bef r.p.i) ih (r::ih)) rs
def NF(g:Option (Ye×Bool))(tm:TM)(yes no:Wd):Wd:=match g with
 |none=>yes
 |some (e,b)=>Uz (e tm) b yes no
def wrO(o:Obj):Bool:=match o with|.row r=>r.own|.loop=>false|_=>true
def gj(o:Option Obj)(k:Obj->Wd):Wd:=match o with|some x=>cond (wrO x) (k x) .fail|none=>.fail
abbrev PK:=List RD->TM->Heap->X->Wd
def L6(p:PI)(nx:PK)(rs:List RD)(tm:TM)(H:Heap)(x:X)(r:OR):Wd:=
 OR.rec (λv H1=>cond (Nat.beq H1.nx H.nx) (nx rs (p.dst tm v) H x) (cond (Nat.beq H1.nx (Nat.succ H.nx)) (gj (H1.t.get H.nx) λo=>nx rs (p.dst tm v) (H.new o) x) .fail)) (λ_=>.fail) r
def jr(p:PI)(nx:PK)(rs:List RD)(tm:TM)(H:Heap)(x:X):Wd:=
 cond (RA H.nx tm p.os) (L6 p nx rs tm H x (p.f (RL tm p.os) ⟨H.nx,.leaf,H.nx⟩)) .fail
def GG(p:PI)(nx:PK)(rs:List RD)(tm:TM)(H:Heap)(x:X)(r:OR):Wd:=
 OR.rec (λv H1=>cond (Nat.beq H1.nx H.nx) (nx (⟨p,v⟩::rs) (p.dst tm v) H x) .fail) (λ_=>.fail) r
def Zcz(ds:List ZS)(v:AV)(tm:TM)(H:Heap)(x:X):Wd:=.ok (.pan v) (Qz tm ds) H x
def Bo(ds:List ZS)(p:PI)(nx:PK)(rs:List RD)(tm:TM)(x:X)(r:CR):Wd:=match r with
 |.ret v H=>nx (Uk p.bef rs) (p.dst tm v) H x
 |.pan v H=>Zcz ds v tm H x
 |.fail=>.fail
def Zf9(ds:List ZS)(p:PI)(nx:PK)(rs:List RD)(c:Ctx)(tm:TM)(x:X)(o:OR2):Wd:=match o with
 |.call f args H=>Bo ds p nx rs tm x (c.call f args H)
 |.yield b args H=>Bo ds p nx rs tm x (c.yld b args H)
 |.pan v H=>Zcz ds v tm H x
 |_=>.fail
def Hw(ds:List ZS)(p:PI)(nx:PK)(rs:List RD)(c:Ctx)(tm:TM)(x:X)(r:OR):Wd:=
 OR.rec (λv H=>nx (Uk p.bef rs) (p.dst tm v) H x) (λo=>Zf9 ds p nx rs c tm x o) r
def Sv(ds:List ZS)(p:PI)(nx:PK)(c:Ctx)(rs:List RD)(tm:TM)(H:Heap)(x:X):Wd:=
 If.rec (NF p.g tm (jr p nx rs tm H x) (nx rs (p.dst tm Xl) H x))
  (NF p.g tm (GG p nx rs tm H x (p.f (RL tm p.os) ⟨H.nx,H.t,H.nx⟩)) (nx rs (p.dst tm Xl) H x))
  (cond (still tm H rs) (NF p.g tm (Hw ds p nx rs c tm x (p.f (RL tm p.os) H)) (nx (Uk p.bef rs) (p.dst tm Xl) H x)) .fail) p.kind
def VP(ds:List ZS)(fin:PK)(l:List PI):Ctx->PK:=
 List.rec (λ_ rs tm H x=>cond (still tm H rs) (fin rs tm H x) .fail) (λp _ ih c=>Sv ds p (ih c) c) l
def Kz(_:List RD)(tm:TM)(H:Heap)(x:X):Wd:=.ok .normal tm H x
def nH(l:List RD)(k:Wd):Wd:=List.rec k (λ_ _ _=>.fail) l
def Xt(l:List PI):D:=λc tm H x=>VP (l.map (·.dst)) Kz l c [] tm H x
def onV(r:OR)(k:Heap->Wd):Wd:=OR.rec (λ_ H=>k H) (λ_=>.fail) r
def apart(a b:AV)(k:Wd):Wd:=match a,b with|.ptr x _,.ptr y _=>cond (Nat.beq x y) .fail k|_,_=>.fail
def JW(p q:PI)(a b:Ye)(rs:List RD)(tm:TM)(H:Heap)(x:X):Wd:=
 nH (Uk p.bef rs) (nH (Uk q.bef rs) (apart (a (RL tm p.os)) (b (RL tm q.os)) (onV (p.f (RL tm p.os) H) λH1=>onV (q.f (RL tm q.os) H1) λH2=>.ok .normal tm H2 x)))
def yC(l:List PI)(p q:PI)(a b:Ye):D:=λc tm H x=>VP (l.map (·.dst)) (JW p q a b) l c [] tm H x
section
variable (P:Program)
def xi(f:Value->AV):List Value->List AV
 |[]=>[]
 |v::vs=>f v::xi f vs
def IP:Nat->Value->AV
 |0,_=>.unk
 |d+1,v=>match v with
  |.bool b=>.bool b
  |.int k n=>.int k n
  |.string s=>.str s.data.toList
  |.pointer none=>.nilp
  |.slice none 0 0=>.nils
  |.map none=>.nilm
  |.nilFunc=>.nilf
  |.func (.func f) ⟨[]⟩ ⟨[]⟩=>.func f [] []
  |.nilIface=>.nili
  |.iface t v=>.iface t (IP d v)
  |.agg ⟨cs⟩=>.agg (xi (IP d) cs)
  |.tuple ⟨cs⟩=>.tup (xi (IP d) cs)
  |_=>.unk
def ZfU(v:Value):AV:=IP 20 v
def ZjG(v:Value):Bool:=match v with|.agg _=>false|.tuple _=>false|_=>true
def La:Nat->Value->Bool
 |0,_=>true
 |d+1,v=>match v with
  |.agg ⟨cs⟩=>cs.all λc=>ZjG c&&La d c
  |.tuple ⟨cs⟩=>cs.all (La d)
  |.iface _ v=>La d v
  |_=>true
def WI(v:Value):AV:=cond (La 20 v) (ZfU v) .unk
def YQ(o:Operand):Ye:=match o with
 |.tmp t=>cond (Nat.ble t 511) (Sk t) (k .unk)
 |.const v=>k (WI v)
 |.global g=>cond (Nat.ble (Nat.succ g) P.globals.size) (k (.ptr g 0)) (k .unk)
 |.func f=>k (.func f [] [])
def NK(t:Nat):Bool:=match P.underlying t with|some (.struct _)|some (.array _ _)=>true|_=>false
def UB(t:Nat)(f:TypeInfo->W7):W7:=match P.info? t with|some i=>f i|none=>VG
def cY(t:Nat):Array (String×TypeId):=match P.underlying t with|some (.interface ms)=>ms|_=> #[]
def args(l:Array Operand):List Ye:=l.toList.map (YQ P)
def opt(x:Option Operand):Option Ye:=x.map (YQ P)
def Zh7(op:BinOp)(x y:Ye):W7:=match op with
 |.add=>Yk x y|.sub=>WX x y|.mul=>M5 x y|.quo=>M6 x y|.rem=>Gu x y
 |.and=>TN x y OK|.or=>TN x y Mi|.xor=>TN x y ei|.andNot=>TN x y Hk
 |.shl=>FR x y|.shr=>Ai x y
 |.eql=>VG|.neq=>VG
 |.lss=>YE x y XC Yn
 |.gtr=>YE x y Sq VS
 |.leq=>YE x y Jz Og
 |.geq=>YE x y SK Vd
def LB(o:Operand):Bool:=match o with|.const _=>true|_=>false
def eqK(t:Nat)(lit neg:Bool)(x y:Ye)(d:TypeDesc):W7:=match d with
 |.bool=>UQ x y uJ neg
 |.int _=>UQ x y Sn neg
 |.string=>UQ x y Nc neg
 |.pointer e=>match P.info? e with|some i=>cond (Nat.beq i.size 0) VG (UQ x y lX neg)|none=>VG
 |.slice _=>UQ x y eqL neg
 |.map _ _=>UQ x y eqM neg
 |.func _ _ _=>UQ x y eqN neg
 |.interface _=>UQ x y (oD lit (eqC P (eu P 9))) neg
 |.array _ _=>cond (P.eqGuardType P.depth t) VG (UQ x y (eu P 10 t) neg)
 |.struct _=>cond (P.eqGuardType P.depth t) VG (UQ x y (eu P 10 t) neg)
 |_=>VG
def VH(t:Nat)(f:TypeDesc->W7):W7:=match P.underlying t with|some d=>f d|none=>VG
def xK(f:Array Field->W7)(d:TypeDesc):W7:=match d with|.struct fs=>f fs|_=>VG
def BQ(f:Nat->W7)(d:TypeDesc):W7:=match d with|.slice e=>f e|_=>VG
def ZgX(f:Nat->W7)(d:TypeDesc):W7:=match d with|.pointer e=>f e|_=>VG
def j6(f:(AV->AV->Option Bool)->W7)(d:TypeDesc):W7:=match d with|.string=>f Nc|.int _=>f Sn|.bool=>f uJ|_=>VG
def pT(f g:W7)(d:TypeDesc):W7:=match d with|.int _=>f|_=>g
def tU8(f:W7)(d:TypeDesc):W7:=match d with|.int .u8=>f|_=>VG
def QM{α:Type}(x:Option α)(f:α->W7):W7:=match x with|some a=>f a|none=>VG
def kE(b:Builtin)(xs:List Operand)(ts:List TypeId):W7:=match b with
 |.append=>match xs,ts with
  |[s,x],[t,u]=>VH P t<|BQ λe=>UB P e λi=>QM i.zero λz=>cond (Nat.beq (YF (WI z).cells) i.size) (VH P u<|pT (vB (YQ P s) (YQ P x) e i.size i.bytes (WI z).cells) (VF (YQ P s) (YQ P x) e i.size i.bytes)) VG
  |_,_=>VG
 |.copy=>match xs,ts with
  |[d,s],[t,_]=>VH P t<|BQ λe=>UB P e λi=>pq (YQ P d) (YQ P s) i.size
  |_,_=>VG
 |.len=>match xs,ts with
  |[x],[t]=>VH P t λd=>match d with|.string=>TO (YQ P x)|.slice _=>X9 (YQ P x)|.map _ _=>ZfP (YQ P x)|_=>VG
  |_,_=>VG
 |.cap=>match xs,ts with
  |[x],[t]=>VH P t λd=>match d with|.slice _=>bo (YQ P x)|_=>VG
  |_,_=>VG
 |.min=>QJ false (xs.map (YQ P))
 |.max=>QJ true (xs.map (YQ P))
 |.unsafeString=>match xs,ts with
  |[p,n],[t,_]=>VH P t<|ZgX λe=>UB P e λi=>cond (Nat.beq i.size 1) (pu (YQ P p) (YQ P n) e) VG
  |_,_=>VG
 |.unsafeSliceData=>match xs with|[x]=>Ds (YQ P x)|_=>VG
 |.panic=>match xs with|[x]=>IN (YQ P x)|_=>VG
 |.recover=>C9
 |_=>VG
def kF(c:Call):W7:=match c.callee with
 |.value (.func f)=>ZI f (args P c.args)
 |.value f=>Q4 (YQ P f) P (args P c.args)
 |.invoke r m=>br (YQ P r) P m (args P c.args)
 |.builtin b=>kE P b c.args.toList c.argTypes.toList
def aY(s d:Nat)(x:Ye)(ds dd:TypeDesc):W7:=match ds,dd with
 |.int _,.int k=>Qv x k
 |.string,.string=>ZjE x
 |.int _,.string=>pr x
 |.string,.slice e=>VH P e<|tU8 (KC x e)
 |.slice e,.string=>VH P e<|tU8 (KF x)
 |.pointer u,.unsafePointer=>UB P u λi=>cond (Nat.ble 1 i.size) (zo x) VG
 |.unsafePointer,.pointer u=>UB P u λi=>cond (Nat.ble 1 i.size) (zm x u i.size) VG
 |.slice _,.slice e=>cond (Nat.beq s d) (VH P e<|tU8 (ZfQ x)) VG
 |_,_=>VG
def ZdO(s d:Nat)(x:Ye):W7:=VH P s λds=>VH P d λdd=>aY P s d x ds dd
def Zaz(n:String)(a b:List Operand):W7:=match a,b with|[x],[]=>ZfR n (YQ P x)|_,_=>VG
def Q5(place:Nat->Option (Nat×Nat))(p:Nat×Operand):ya:=match place p.1 with
 |some (o,s)=>⟨o,s,YQ P p.2⟩
 |none=>⟨0,0,YQ P p.2⟩
def eS(kd:IntKind)(m:Int):List Value->Bool
 |[]=>true
 |v::l=>match v with|.int j n=>cond (P0 kd j) (cond (E8 m n) (eS kd m l) false) false|_=>false
def ki(t:Nat)(l:List Value)(cs:List AV):W7:=match l with
 |.int kd m::l'=>cond (Nat.ble 8 (YF l')) (cond (eS kd m l') (Gt t (Nat.succ (YF l')) (.int kd m)) (WK t cs)) (WK t cs)
 |_=>WK t cs
def Zch(hi mx:Option Operand):Bool:=match mx,hi with|some _,none=>false|_,_=>true
def Vm(o:Op):W7:=match o with
 |.move x=>Z0 (YQ P x)
 |.assign x=>Z0 (YQ P x)
 |.pick c a b=>YN (YQ P c) (YQ P a) (YQ P b)
 |.alloc t=>UB P t λi=>QM i.zero λz=>ki t z.cells.toList (WI z).cells
 |.box t x=>U3 (YQ P x) t
 |.build t ps=>UB P t λi=>QM i.zero λz=>VH P t λd=>match d with
  |.struct fs=>QM (fs.toList.mapM λf=>(P.info? f.type).map λi=>(f.offset,i.size)) λplaces=>Vw (WI z).cells (ps.toList.map (Q5 P (places.toArray[·]?)))
  |.array _ e=>UB P e λj=>Vw (WI z).cells (ps.toList.map (Q5 P λi=>some (i*j.size,j.size)))
  |_=>VG
 |.buildSlice t n ps=>VH P t<|BQ λe=>UB P e λj=>QM j.zero λz=>
   cond (Nat.ble (Nat.mul n j.size) 16777216) (X7 e j.size n ((List.replicate n (WI z).cells).flatten) (ps.toList.map (Q5 P λi=>some (i*j.size,j.size)))) VG
 |.load t a=>UB P t λi=>VH P t λ_=>cond (NK P t) (YX (YQ P a) i.size) (ZM (YQ P a))
 |.store t a x=>UB P t λi=>YY (YQ P a) (YQ P x) i.size
 |.nilCheck x=>Mk (YQ P x)
 |.binOp op t x y _=>match op with
  |.eql=>VH P t (eqK P t (LB x||LB y) false (YQ P x) (YQ P y))
  |.neq=>VH P t (eqK P t (LB x||LB y) true (YQ P x) (YQ P y))
  |op=>Zh7 op (YQ P x) (YQ P y)
 |.unOp op _ x=>match op with|.neg=>iK (YQ P x)|.not=>QY (YQ P x)|.xor=>iV (YQ P x)|_=>VG
 |.convert s d x=>ZdO P s d (YQ P x)
 |.makeInterface t x=>VH P t λd=>match d with|.interface _=>VG|_=>UX (YQ P x) t
 |.makeFunc fn a b=>match fn with
  |.func f=>LC f (args P a) (args P b)
  |.method n=>Zaz P n a.toList b.toList
  |_=>VG
 |.makeMap _ r=>match r with|none=>sN|some _=>VG
 |.mapUpdate t m k v=>VH P t λd=>match d with|.map kt _=>VH P kt<|j6 λeq=>Jk eq (YQ P m) (YQ P k) (YQ P v)|_=>VG
 |.insert t m k v=>VH P t λd=>match d with|.map kt _=>VH P kt<|j6 λeq=>Jk eq (YQ P m) (YQ P k) (YQ P v)|_=>VG
 |.lookup t m k ok=>VH P t λd=>match d with
  |.map kt e=>VH P kt<|j6 λeq=>UB P e λi=>QM i.zero λz=>xh eq (WI z) ok (YQ P m) (YQ P k)
  |_=>VG
 |.makeSlice t l c=>VH P t<|BQ λe=>UB P e λi=>QM i.zero λz=>iI e i.size i.bytes (WI z).cells (YQ P l) (YQ P c)
 |.slice t x lo hi mx=>cond (Zch hi mx) (VH P t λd=>match d with
  |.string=>UA (YQ P x) (opt P lo) (opt P hi) (opt P mx)
  |.slice e=>UB P e λi=>FT i.size (YQ P x) (opt P lo) (opt P hi) (opt P mx)
  |.array n e=>UB P e λi=>FS n i.size (YQ P x) (opt P lo) (opt P hi) (opt P mx)
  |_=>VG) VG
 |.fieldAddr t x f=>VH P t<|xK λfs=>QM fs[f]? λg=>UB P g.type λi=>cond (Nat.ble 1 i.size) (Yx (YQ P x) g.offset) VG
 |.field t x f=>VH P t<|xK λfs=>QM fs[f]? λg=>UB P g.type λi=>VH P g.type λ_=>cond (NK P g.type) (ZjD (YQ P x) g.offset i.size) (ZfO (YQ P x) g.offset)
 |.indexAddr t x i=>VH P t λd=>match d with
  |.slice e=>UB P e λj=>YM (YQ P x) (YQ P i) j.size
  |.array n e=>UB P e λj=>KD (YQ P x) (YQ P i) n j.size
  |_=>VG
 |.index t x i=>VH P t λd=>match d with
  |.string=>Y9 (YQ P x) (YQ P i)
  |.array n e=>UB P e λj=>VH P e λ_=>cond (NK P e) (bq (YQ P x) (YQ P i) n j.size) (cond (Nat.beq j.size 1) (C8 (YQ P x) (YQ P i) n) VG)
  |_=>VG
 |.typeAssert x _ t ok=>UB P t λi=>QM i.zero λz=>VH P t λd=>match d with
  |.interface _=>vC (YQ P x) P (cY P t) (WI z) ok
  |_=>PA (YQ P x) t (WI z) ok
 |.extract x i=>XR (YQ P x) i
 |.call c=>kF P c
 |.defer c=>match c.callee with
  |.value f=>C7 (YQ P f) (args P c.args)
  |_=>VG
 |.panic x=>IN (YQ P x)
 |.range t x=>VH P t λd=>match d with|.string=>bB (YQ P x)|.map _ _=>bA (YQ P x)|_=>VG
 |.next x b=>cond b (ZfS (YQ P x)) VG
 |.entry x=>bu (YQ P x)
 |_=>VG
def Po(o:Op):If:=match o with
 |.load .. |.lookup .. =>.read
 |.slice t _ _ _ _=>match P.underlying t with|some (.slice _)=>.read|_=>.free
 |.convert s d _=>match P.underlying s,P.underlying d with|some (.slice _),some (.slice _)=>.eff|some (.slice _),_=>.read|_,_=>.free
 |.call c=>match c.callee,c.argTypes.toList with
  |.builtin b,ts=>match b with
   |.len=>(match ts with|[t]=>(match P.underlying t with|some (.map _ _)=>.read|_=>.free)|_=>.free)
   |.cap|.unsafeSliceData=>.read|.min|.max=>.free|_=>.eff
  |_,_=>.eff
 |.assign _|.store .. |.mapUpdate .. |.insert .. |.mapEntry .. |.entryStore .. |.panic _|.defer _|.next .. |.range .. |.entry _=>.eff
 |_=>.free
def Ts(ops:Array Oper)(o:Oper):Option (Ye×Bool):=match o.guard with
 |none=>none
 |some (j,b)=>match(ops[j]?).bind (·.dst) with|some d=>some (YQ P (.tmp d),b)|none=>some (k .unk,b)
def XW(x:Option Nat):ZS:=match x with|some d=>cond (Nat.ble d 511) (Pu d) d0|none=>d0
def vK(ops:Array Oper):List Oper->D
 |[]=>Zd
 |o::l=>match Ts P ops o with
  |none=>Zc (Vm P o.op) (XW o.dst) (vK ops l)
  |some (g,b)=>Ya g b (Vm P o.op) (XW o.dst) (vK ops l)
def Ij(acc:List (Nat×Nat))(o:Oper):Nat:=o.after.toList.foldl (λs e=>cond (Region.binds .any e) (Nat.lor (Nat.lor s (Nat.pow 2 e.on)) ((acc.lookup e.on).getD 0)) s) 0
def yk:List Oper->Nat->List (Nat×Nat)->List (Oper×Nat×Nat)
 |[],_,_=>[]
 |o::l,i,acc=>(o,i,Ij acc o)::yk l (i+1) ((i,Ij acc o)::acc)
def xM(l:List Operand):List Nat:=l.filterMap λx=>match x with|.tmp t=>some t|_=>none
def VQ(o:Oper):List (ZS×Ye):=(xM o.op.operands.toList).filterMap λt=>cond (Nat.ble t 511) (some (Pu t,Sk t)) none
def Wl(ops:Array Oper)(x:Oper×Nat×Nat):PI:=⟨Vm P x.1.op,Ts P ops x.1,VQ x.1,XW x.1.dst,Po P x.1.op,x.2.1,x.2.2⟩
def vc(k:If):Bool:=If.rec false false true k
structure SI where
 i:Nat
 lk:List Nat
 d:Option Nat
 eff:Bool
 bef:Nat
 x:Oper×Nat×Nat
def Rb(ops:Array Oper)(o:Oper):List Nat:=xM o.op.operands.toList++(match o.guard with|some (j,_)=>((ops[j]?).bind (·.dst)).toList|none=>[])
def P7(ops:Array Oper)(x:Oper×Nat×Nat):SI:=⟨x.2.1,Rb ops x.1,x.1.dst,vc (Po P x.1.op),x.2.2,x⟩
def Cs:Nat->List SI->Nat->List SI
 |0,_,_=>[]
 |f+1,todo,done=>
  let ready:=todo.filter λp=>Nat.beq (Nat.land p.bef done) p.bef
  match ready.find? (λp=>cond p.eff false true) with
  |some p=>p::Cs f (todo.filter λq=>cond (Nat.beq q.i p.i) false true) (Nat.lor done (Nat.pow 2 p.i))
  |none=>match ready with
   |p::_=>p::Cs f (todo.filter λq=>cond (Nat.beq q.i p.i) false true) (Nat.lor done (Nat.pow 2 p.i))
   |[]=>[]
def bit(n:Nat):Nat:=Nat.pow 2 n
def Kt(l:List Nat):Nat:=List.rec 0 (λt _ ih=>Nat.lor (bit t) ih) l
def Zbj(d:Option Nat):Nat:=match d with|some t=>bit t|none=>0
def dOk(d:Option Nat)(sm:Nat):Bool:=match d with|some t=>cond (Nat.testBit sm t) false true|none=>true
def cR(ws:List (Nat×Nat))(im bef t:Nat):Bool:=ws.all λx=>cond (Nat.beq x.1 t) (cond (Nat.testBit im x.2) (Nat.testBit bef x.2) true) true
def yD(i:Nat)(o:Oper):Bool:=o.after.toList.all λe=>cond (Region.binds .any e) (Nat.ble (Nat.succ e.on) i) true
def iY(p:SI)(d:Option Nat):Bool:=match d with|some t=>cond (p.lk.all λs=>cond (Nat.beq s t) false true) (match p.d with|some s=>cond (Nat.beq s t) false true|none=>true) false|none=>true
def eW(l0:List SI)(q:SI)(im:Nat):Bool:=l0.all λp=>cond (Nat.testBit im p.i) (cond (Nat.testBit q.bef p.i) true (iY p q.d)) true
def pi(l0:List SI)(q:SI)(sm im:Nat):Bool:=cond (dOk q.d (Nat.lor sm (Kt q.lk))) true (cond q.eff (eW l0 q im) false)
def LD(ws:List (Nat×Nat))(l0:List SI):List SI->Nat->Nat->Nat->Nat->Bool
 |[],_,_,im,all=>Nat.beq im all
 |q::l,em,sm,im,all=>cond (Nat.beq (Nat.land q.bef em) em) (cond (pi l0 q sm im) (cond (q.lk.all (cR ws im q.bef)) (cond (Nat.testBit im q.i) false
   (LD ws l0 l (cond q.eff (Nat.lor em (bit q.i)) em) (Nat.lor (Nat.lor sm (Kt q.lk)) (Zbj q.d)) (Nat.lor im (bit q.i)) all)) false) false) false
def QX(l:List SI):List (Nat×Nat):=l.filterMap λq=>match q.d with|some t=>some (t,q.i)|none=>none
def Dn(l:List SI):Option (List SI×SI×SI):=match l.reverse with|b::a::r=>some (r.reverse,a,b)|_=>none
def Rj(o:Oper):Option Ye:=match o.op,o.guard,o.dst with|.store _ a _,none,none=>some (YQ P a)|_,_,_=>none
def s8(ops:Array Oper)(ws:List (Nat×Nat))(l0:List SI)(all:Nat)(x:Option (List SI×SI×SI)):D:=match x with
 |some (r,a,b)=>match Rj P a.x.1,Rj P b.x.1 with
  |some e1,some e2=>cond (LD ws l0 (r++[a]) 0 0 0 (Nat.xor all (bit b.i))) (cond (LD ws l0 (r++[b]) 0 0 0 (Nat.xor all (bit a.i)))
    (yC (r.map λq=>Wl P ops q.x) (Wl P ops a.x) (Wl P ops b.x) e1 e2) Q7) Q7
  |_,_=>Q7
 |none=>Q7
def C0(ops:Array Oper):List SI:=Cs ops.size ((yk ops.toList 0 []).map (P7 P ops)) 0
def xp(ops:Array Oper)(l:List SI):D:=
 cond (LD (QX l) l l 0 0 0 (Nat.sub (bit ops.size) 1)) (Xt (l.map λq=>Wl P ops q.x)) (s8 P ops (QX l) l (Nat.sub (bit ops.size) 1) (Dn l))
def rf(ops:Array Oper):D:=
 cond (ops.toList.zipIdx.all λx=>yD x.2 x.1) (xp P ops (C0 P ops)) Q7
def Hv:Code->List Nat
 |.region _ ops _=>ops.toList.filterMap (·.dst)
 |.seq a b=>Hv a++Hv b
 |.cond _ a b=>Hv a++Hv b
 |.block _ a=>Hv a
 |.loop a=>Hv a
 |.scope a=>Hv a
 |.rangeFunc _ _ _ _=>[]
 |_=>[]
def Py:Code->Option (Operand×Option Nat)
 |.seq a _=>Py a
 |.region _ ops false=>match ops.toList with
  |o::_=>match o.op,o.guard with|.next x false,none=>some (x,o.dst)|_,_=>none
  |[]=>none
 |_=>none
def wx(c:Code):D×D:=
 Code.rec (motive:=λ_=>D×D) (Zd,Q7)
  (λ_ ops d=>(cond d (rf P ops) (vK P ops ops.toList),cond d Q7 (vK P ops ops.toList.tail)))
  (λ_ _ a b=>(Zj a.1 b.1,Zj a.2 b.1))
  (λq _ _ a b=>(Z3 (YQ P q) a.1 b.1,Q7))
  (λid _ a=>(Yf id a.1,Q7))
  (λb a=>(match Py b with|some (x,t)=>sC (YQ P x) (XW t) ((Hv b).map λt=>XW (some t)) a.2|none=>Wj a.1,Q7))
  (λf ps _ _ a b=>(xB (YQ P f) (ps.toList.map λt=>XW (some t)) (Zj a.1 b.1),Q7))
  (λid=>(We id,Q7))
  (λ_ a=>(a.1,Q7))
  (λ_=>(Zd,Q7))
  (λ_=>(Q7,Q7))
  (Yv,Q7)
  (λ_=>(Q7,Q7)) c
def ZdN(c:Code):D:=(wx P c).1
end
def params:List ZS:=[d N8.u0 N8.u0 N8.u0,d N8.u1 N8.u0 N8.u0,d N8.u2 N8.u0 N8.u0,d N8.u3 N8.u0 N8.u0,d N8.u4 N8.u0 N8.u0,d N8.u5 N8.u0 N8.u0,d N8.u6 N8.u0 N8.u0,d N8.u7 N8.u0 N8.u0,
 d N8.u0 N8.u1 N8.u0,d N8.u1 N8.u1 N8.u0,d N8.u2 N8.u1 N8.u0,d N8.u3 N8.u1 N8.u0,d N8.u4 N8.u1 N8.u0,d N8.u5 N8.u1 N8.u0,d N8.u6 N8.u1 N8.u0,d N8.u7 N8.u1 N8.u0]
def TI(as:List AV):TM:=Pt ML params as
structure CF where
 rs:List (Ye×Option (Nat×Bool))
 body:D
def ZcG(tm:TM)(H:Heap)(r:Ye×Option (Nat×Bool))(k:AV->CR):CR:=match r.2 with
 |none=>k (r.1 tm)
 |some (n,ag)=>match r.1 tm with
  |.ptr b o=>match H.t.get b with
   |some (.row r)=>cond (Nat.ble (Nat.add o n) r.size) (cond ag (k (.agg (WO r o n))) (k (r.get o))) .fail
   |_=>.fail
  |_=>.fail
def Of(tm:TM)(H:Heap)(k:List AV->CR):List (Ye×Option (Nat×Bool))->CR
 |[]=>k []
 |r::l=>ZcG tm H r λv=>Of tm H (λvs=>k (v::vs)) l
def results(rs:List (Ye×Option (Nat×Bool)))(tm:TM)(H:Heap):CR:=
 Of tm H (λvs=>match vs with|[v]=>.ret v H|vs=>.ret (.tup vs) H) rs
inductive DR where
 |fail
 |ret (v:AV) (H:Heap) (rec:Bool)
 |pan (v:AV) (H:Heap) (rec:Bool)
def Ml(rc:Option AV)(x:X):Bool:=match rc,x.rc with|some _,none=>true|_,_=>false
def deferred(dcall:Option AV->Nat->List AV->Heap->DR)(rs:List (Ye×Option (Nat×Bool)))(tm:TM):List (AV×List AV)->Option AV->Heap->CR
 |[],none,H=>results rs tm H
 |[],some v,H=>.pan v H
 |d::l,pn,H=>match d.1 with
  |.func g a b=>match dcall pn g (a++(d.2++b)) H with
   |.ret _ H rec=>deferred dcall rs tm l (cond rec none pn) H
   |_=>.fail
  |_=>.fail
def M9(dcall:Option AV->Nat->List AV->Heap->DR)(rs:List (Ye×Option (Nat×Bool)))(r:Wd):CR:=match r with
 |.ok .normal tm H x=>match x.df with|[]=>results rs tm H|df=>deferred dcall rs tm df none H
 |.ok .ret tm H x=>match x.df with|[]=>results rs tm H|df=>deferred dcall rs tm df none H
 |.ok (.pan v) tm H x=>match x.df with|[]=>.pan v H|df=>deferred dcall rs tm df (some v) H
 |_=>.fail
def FZ(rc:Option AV)(rs:List (Ye×Option (Nat×Bool)))(r:Wd):DR:=match r with
 |.ok .normal tm H x=>match x.df,results rs tm H with|[],.ret v H=>.ret v H (Ml rc x)|_,_=>.fail
 |.ok .ret tm H x=>match x.df,results rs tm H with|[],.ret v H=>.ret v H (Ml rc x)|_,_=>.fail
 |.ok (.pan v) _ H x=>match x.df with|[]=>.pan v H (Ml rc x)|_=>.fail
 |_=>.fail
def kH(r:CR)(tm:TM)(x:X):Wd:=match r with
 |.ret _ H=>.ok .normal tm H x
 |.pan v H=>.ok (.pan v) tm H x
 |.fail=>.fail
def FY{α:Type}(d:α)(fs:T CF)(f:Nat)(k:CF->α):α:=match fs.get f with|some cf=>k cf|none=>d
def Lc(fs:T CF)(fuel:Nat)(call:Nat->List AV->Heap->CR)(f:AV)(round:List AV->Heap->CR)(tm:TM)(H:Heap)(x:X):Wd:=match f with
 |.func g a b=>FY .fail fs g λcf=>
  kH (M9 (λ_ _ _ _=>.fail) cf.rs (cf.body ⟨call,λl ys H'=>cond (Nat.beq l H.nx) (round ys H') .fail,VX,fuel,false⟩
   (TI (a++(.yield H.nx::b))) (H.new .loop) ⟨[],none⟩)) tm x
 |_=>.fail
def pb(r:Option CR)(k:CR):CR:=Option.rec k (λr=>r) r
def ZJ(lib:Nat->List AV->Heap->Option CR)(fs:T CF)(fuel:Nat)(n:Nat):Nat->List AV->Heap->CR:=
 @Nat.rec (λ_=>Nat->List AV->Heap->CR) (λ_ _ _=>.fail) (λ_ ih f args H=>pb (lib f args H) (FY .fail fs f λcf=>
  M9 (λpn g as H=>FY .fail fs g λcg=>FZ pn cg.rs (cg.body ⟨ih,VY,VX,fuel,false⟩ (TI as) H ⟨[],pn⟩))
   cf.rs (cf.body ⟨ih,VY,Lc fs fuel ih,fuel,false⟩ (TI args) H ⟨[],none⟩))) n
def Be(n:Nat)(d:Option Nat):Bool:=match d with|some t=>Nat.ble (Nat.succ t) n|none=>true
def Pc(n:Nat)(c:Code):Bool:=
 Code.rec (motive:=λ_=>Bool) true (λ_ ops _=>ops.toList.all λo=>Be n o.dst) (λ_ _ a b=>cond a b false) (λ_ _ _ a b=>cond a b false) (λ_ _ a=>a) (λ_ a=>a)
  (λ_ ps _ _ a b=>cond (ps.toList.all λt=>Be n (some t)) (cond a b false) false) (λ_=>true) (λ_ a=>a) (λ_=>true) (λ_=>true) true (λ_=>true) c
def GH(P:Program)(r:ResultVar):Bool:=match r with|.tmp _=>true|.cell _ t=>(P.info? t).isSome&&(P.underlying t).isSome&&Nat.ble 1 (P.cellsOf t)
def Et(P:Program)(f:Func):CF:=
 ⟨f.results.toList.map λr=>match r with|.tmp t=>(YQ P (.tmp t),none)|.cell a t=>(YQ P (.tmp a),some (P.cellsOf t,NK P t)),
  match f.body with|some c=>cond (f.results.toList.all (GH P)) (cond (Pc f.ntmps c) (ZdN P c) Q7) Q7|none=>Q7⟩
def ZkU(P:Program):T CF:=T.ofList (P.funcs.toList.map (Et P))
def nI(k:IntKind)(n:Nat):AV:=.int k (.ofNat n)
def Ys:Ye:=e N8.a0 N8.a0 N8.a0
def Y2:Ye:=e N8.a1 N8.a0 N8.a0
def Xy:Ye:=e N8.a2 N8.a0 N8.a0
def XK:Ye:=e N8.a3 N8.a0 N8.a0
def Xf:Ye:=e N8.a4 N8.a0 N8.a0
def X5:Ye:=e N8.a5 N8.a0 N8.a0
def WN:Ye:=e N8.a6 N8.a0 N8.a0
def WB:Ye:=e N8.a7 N8.a0 N8.a0
def Wc:Ye:=e N8.a0 N8.a1 N8.a0
def Wv:Ye:=e N8.a1 N8.a1 N8.a0
def Xg:Ye:=e N8.a2 N8.a1 N8.a0
def Xc:Ye:=e N8.a3 N8.a1 N8.a0
def Xq:Ye:=e N8.a4 N8.a1 N8.a0
def XH:Ye:=e N8.a5 N8.a1 N8.a0
def Wk:Ye:=e N8.a6 N8.a1 N8.a0
def Wy:Ye:=e N8.a7 N8.a1 N8.a0
def Wu:Ye:=e N8.a0 N8.a2 N8.a0
def WJ:Ye:=e N8.a1 N8.a2 N8.a0
def Wx:Ye:=e N8.a2 N8.a2 N8.a0
def W5:Ye:=e N8.a3 N8.a2 N8.a0
def W1:Ye:=e N8.a4 N8.a2 N8.a0
def WH:Ye:=e N8.a5 N8.a2 N8.a0
def Vf:Ye:=e N8.a6 N8.a2 N8.a0
def Vu:Ye:=e N8.a7 N8.a2 N8.a0
def UU:Ye:=e N8.a0 N8.a3 N8.a0
def Uq:Ye:=e N8.a1 N8.a3 N8.a0
def UK:Ye:=e N8.a2 N8.a3 N8.a0
def Uh:Ye:=e N8.a3 N8.a3 N8.a0
def Uy:Ye:=e N8.a4 N8.a3 N8.a0
def UL:Ye:=e N8.a5 N8.a3 N8.a0
def Ui:Ye:=e N8.a6 N8.a3 N8.a0
def VL:Ye:=e N8.a7 N8.a3 N8.a0
def Un:Ye:=e N8.a0 N8.a4 N8.a0
def UV:Ye:=e N8.a1 N8.a4 N8.a0
def T9:Ye:=e N8.a2 N8.a4 N8.a0
def U5:Ye:=e N8.a3 N8.a4 N8.a0
def SG:Ye:=e N8.a4 N8.a4 N8.a0
def Ty:Ye:=e N8.a5 N8.a4 N8.a0
def Sa:Ye:=e N8.a6 N8.a4 N8.a0
def TW:Ye:=e N8.a7 N8.a4 N8.a0
def Sb:Ye:=e N8.a0 N8.a5 N8.a0
def TX:Ye:=e N8.a1 N8.a5 N8.a0
def UM:Ye:=e N8.a2 N8.a5 N8.a0
def TA:Ye:=e N8.a3 N8.a5 N8.a0
def RT:Ye:=e N8.a4 N8.a5 N8.a0
def UW:Ye:=e N8.a5 N8.a5 N8.a0
def S6:Ye:=e N8.a6 N8.a5 N8.a0
def Sc:Ye:=e N8.a7 N8.a5 N8.a0
def SH:Ye:=e N8.a0 N8.a6 N8.a0
def Qe:Ye:=e N8.a1 N8.a6 N8.a0
def SJ:Ye:=e N8.a2 N8.a6 N8.a0
def S7:Ye:=e N8.a3 N8.a6 N8.a0
def RH:Ye:=e N8.a4 N8.a6 N8.a0
def Pj:Ye:=e N8.a5 N8.a6 N8.a0
def O3:Ye:=e N8.a6 N8.a6 N8.a0
def Ol:Ye:=e N8.a7 N8.a6 N8.a0
def P4:Ye:=e N8.a0 N8.a7 N8.a0
def O4:Ye:=e N8.a1 N8.a7 N8.a0
def QB:Ye:=e N8.a2 N8.a7 N8.a0
def NC:Ye:=e N8.a3 N8.a7 N8.a0
def Pk:Ye:=e N8.a4 N8.a7 N8.a0
def ND:Ye:=e N8.a5 N8.a7 N8.a0
def Kf:Ye:=e N8.a6 N8.a7 N8.a0
def O5:Ye:=e N8.a7 N8.a7 N8.a0
def MW:Ye:=e N8.a0 N8.a0 N8.a1
def MX:Ye:=e N8.a1 N8.a0 N8.a1
def IA:Ye:=e N8.a2 N8.a0 N8.a1
def HR:Ye:=e N8.a3 N8.a0 N8.a1
def FD:Ye:=e N8.a4 N8.a0 N8.a1
def Me:Ye:=e N8.a5 N8.a0 N8.a1
def HS:Ye:=e N8.a6 N8.a0 N8.a1
def Pm:Ye:=e N8.a7 N8.a0 N8.a1
def Qf:Ye:=e N8.a0 N8.a1 N8.a1
def IB:Ye:=e N8.a1 N8.a1 N8.a1
def IC:Ye:=e N8.a2 N8.a1 N8.a1
def Kg:Ye:=e N8.a3 N8.a1 N8.a1
def HT:Ye:=e N8.a4 N8.a1 N8.a1
def HU:Ye:=e N8.a5 N8.a1 N8.a1
def ID:Ye:=e N8.a6 N8.a1 N8.a1
def IE:Ye:=e N8.a7 N8.a1 N8.a1
def Kh:Ye:=e N8.a0 N8.a2 N8.a1
def NE:Ye:=e N8.a1 N8.a2 N8.a1
def Jv:Ye:=e N8.a2 N8.a2 N8.a1
def Qu:Ye:=e N8.a3 N8.a2 N8.a1
def LP:Ye:=e N8.a4 N8.a2 N8.a1
def IF:Ye:=e N8.a5 N8.a2 N8.a1
def IG:Ye:=e N8.a6 N8.a2 N8.a1
def Ki:Ye:=e N8.a7 N8.a2 N8.a1
def MY:Ye:=e N8.a0 N8.a3 N8.a1
def HV:Ye:=e N8.a1 N8.a3 N8.a1
def HW:Ye:=e N8.a2 N8.a3 N8.a1
def HX:Ye:=e N8.a3 N8.a3 N8.a1
def HY:Ye:=e N8.a4 N8.a3 N8.a1
def FE:Ye:=e N8.a5 N8.a3 N8.a1
def CD:Ye:=e N8.a6 N8.a3 N8.a1
def CG:Ye:=e N8.a7 N8.a3 N8.a1
def CH:Ye:=e N8.a0 N8.a4 N8.a1
def CI:Ye:=e N8.a1 N8.a4 N8.a1
def CJ:Ye:=e N8.a2 N8.a4 N8.a1
def E7:Ye:=e N8.a3 N8.a4 N8.a1
def Lw:Ye:=e N8.a4 N8.a4 N8.a1
def Kb:Ye:=e N8.a5 N8.a4 N8.a1
def P9:Ye:=e N8.a6 N8.a4 N8.a1
def JO:Ye:=e N8.a7 N8.a4 N8.a1
def JP:Ye:=e N8.a0 N8.a5 N8.a1
def Qp:Ye:=e N8.a1 N8.a5 N8.a1
def JQ:Ye:=e N8.a2 N8.a5 N8.a1
def JR:Ye:=e N8.a3 N8.a5 N8.a1
def HL:Ye:=e N8.a4 N8.a5 N8.a1
def OH:Ye:=e N8.a5 N8.a5 N8.a1
def Kc:Ye:=e N8.a6 N8.a5 N8.a1
def Kd:Ye:=e N8.a7 N8.a5 N8.a1
def Lx:Ye:=e N8.a0 N8.a6 N8.a1
def N2:Ye:=e N8.a1 N8.a6 N8.a1
def Oa:Ye:=e N8.a2 N8.a6 N8.a1
def N3:Ye:=e N8.a3 N8.a6 N8.a1
def Ob:Ye:=e N8.a4 N8.a6 N8.a1
def N4:Ye:=e N8.a5 N8.a6 N8.a1
def N5:Ye:=e N8.a6 N8.a6 N8.a1
def Q2:Ye:=e N8.a7 N8.a6 N8.a1
def N6:Ye:=e N8.a0 N8.a7 N8.a1
def PL:Ye:=e N8.a1 N8.a7 N8.a1
def Ng:Ye:=e N8.a2 N8.a7 N8.a1
def Nh:Ye:=e N8.a3 N8.a7 N8.a1
def N7:Ye:=e N8.a4 N8.a7 N8.a1
def N9:Ye:=e N8.a5 N8.a7 N8.a1
def Oc:Ye:=e N8.a6 N8.a7 N8.a1
def Ma:Ye:=e N8.a7 N8.a7 N8.a1
def Mb:Ye:=e N8.a0 N8.a0 N8.a2
def Ly:Ye:=e N8.a1 N8.a0 N8.a2
def Mc:Ye:=e N8.a2 N8.a0 N8.a2
def Q3:Ye:=e N8.a3 N8.a0 N8.a2
def Lz:Ye:=e N8.a4 N8.a0 N8.a2
def Od:Ye:=e N8.a5 N8.a0 N8.a2
def HM:Ye:=e N8.a6 N8.a0 N8.a2
def JS:Ye:=e N8.a7 N8.a0 N8.a2
def HN:Ye:=e N8.a0 N8.a1 N8.a2
def HP:Ye:=e N8.a1 N8.a1 N8.a2
def LA:Ye:=e N8.a2 N8.a1 N8.a2
def HQ:Ye:=e N8.a3 N8.a1 N8.a2
def Ni:Ye:=e N8.a4 N8.a1 N8.a2
def Cu:Ye:=e N8.a5 N8.a1 N8.a2
def Cv:Ye:=e N8.a6 N8.a1 N8.a2
def Md:Ye:=e N8.a7 N8.a1 N8.a2
def Cw:Ye:=e N8.a0 N8.a2 N8.a2
def EE:Ye:=e N8.a1 N8.a2 N8.a2
def Cx:Ye:=e N8.a2 N8.a2 N8.a2
def Ke:Ye:=e N8.a3 N8.a2 N8.a2
def Cy:Ye:=e N8.a4 N8.a2 N8.a2
def Cz:Ye:=e N8.a5 N8.a2 N8.a2
def CA:Ye:=e N8.a6 N8.a2 N8.a2
def EF:Ye:=e N8.a7 N8.a2 N8.a2
def JT:Ye:=e N8.a0 N8.a3 N8.a2
def CB:Ye:=e N8.a1 N8.a3 N8.a2
def wP:Ye:=e N8.a2 N8.a3 N8.a2
def wQ:Ye:=e N8.a3 N8.a3 N8.a2
def wR:Ye:=e N8.a4 N8.a3 N8.a2
def EG:Ye:=e N8.a5 N8.a3 N8.a2
def qG:Ye:=e N8.a6 N8.a3 N8.a2
def qH:Ye:=e N8.a7 N8.a3 N8.a2
def qI:Ye:=e N8.a0 N8.a4 N8.a2
def qJ:Ye:=e N8.a1 N8.a4 N8.a2
def CC:Ye:=e N8.a2 N8.a4 N8.a2
def qK:Ye:=e N8.a3 N8.a4 N8.a2
def qL:Ye:=e N8.a4 N8.a4 N8.a2
def qM:Ye:=e N8.a5 N8.a4 N8.a2
def jy:Ye:=e N8.a6 N8.a4 N8.a2
def Zaa:Ye:=e N8.a7 N8.a4 N8.a2
def Zab:Ye:=e N8.a0 N8.a5 N8.a2
def Zec:Ye:=e N8.a1 N8.a5 N8.a2
def Zed:Ye:=e N8.a2 N8.a5 N8.a2
def Zee:Ye:=e N8.a3 N8.a5 N8.a2
def Zef:Ye:=e N8.a4 N8.a5 N8.a2
def Zeg:Ye:=e N8.a5 N8.a5 N8.a2
def Zeh:Ye:=e N8.a6 N8.a5 N8.a2
def Zei:Ye:=e N8.a7 N8.a5 N8.a2
def Zej:Ye:=e N8.a0 N8.a6 N8.a2
def Zek:Ye:=e N8.a1 N8.a6 N8.a2
def Zel:Ye:=e N8.a2 N8.a6 N8.a2
def Zem:Ye:=e N8.a3 N8.a6 N8.a2
def Zen:Ye:=e N8.a4 N8.a6 N8.a2
def Zeo:Ye:=e N8.a5 N8.a6 N8.a2
def Zep:Ye:=e N8.a6 N8.a6 N8.a2
def Zeq:Ye:=e N8.a7 N8.a6 N8.a2
def Zer:Ye:=e N8.a0 N8.a7 N8.a2
def Zes:Ye:=e N8.a1 N8.a7 N8.a2
def Zet:Ye:=e N8.a2 N8.a7 N8.a2
def Zeu:Ye:=e N8.a3 N8.a7 N8.a2
def Zev:Ye:=e N8.a4 N8.a7 N8.a2
def Zew:Ye:=e N8.a5 N8.a7 N8.a2
def Zex:Ye:=e N8.a6 N8.a7 N8.a2
def Zey:Ye:=e N8.a7 N8.a7 N8.a2
def st0:ZS:=d N8.u0 N8.u0 N8.u0
def st1:ZS:=d N8.u1 N8.u0 N8.u0
def st2:ZS:=d N8.u2 N8.u0 N8.u0
def Vk:ZS:=d N8.u3 N8.u0 N8.u0
def Xz:ZS:=d N8.u4 N8.u0 N8.u0
def Vs:ZS:=d N8.u5 N8.u0 N8.u0
def V3:ZS:=d N8.u6 N8.u0 N8.u0
def VZ:ZS:=d N8.u7 N8.u0 N8.u0
def Vt:ZS:=d N8.u0 N8.u1 N8.u0
def V2:ZS:=d N8.u1 N8.u1 N8.u0
def XJ:ZS:=d N8.u2 N8.u1 N8.u0
def XE:ZS:=d N8.u3 N8.u1 N8.u0
def XL:ZS:=d N8.u4 N8.u1 N8.u0
def Wo:ZS:=d N8.u5 N8.u1 N8.u0
def WA:ZS:=d N8.u6 N8.u1 N8.u0
def WZ:ZS:=d N8.u7 N8.u1 N8.u0
def W0:ZS:=d N8.u0 N8.u2 N8.u0
def Vx:ZS:=d N8.u1 N8.u2 N8.u0
def Vn:ZS:=d N8.u2 N8.u2 N8.u0
def VJ:ZS:=d N8.u3 N8.u2 N8.u0
def V1:ZS:=d N8.u4 N8.u2 N8.u0
def Us:ZS:=d N8.u5 N8.u2 N8.u0
def Uw:ZS:=d N8.u6 N8.u2 N8.u0
def UC:ZS:=d N8.u7 N8.u2 N8.u0
def UO:ZS:=d N8.u0 N8.u3 N8.u0
def U4:ZS:=d N8.u1 N8.u3 N8.u0
def TB:ZS:=d N8.u2 N8.u3 N8.u0
def To:ZS:=d N8.u3 N8.u3 N8.u0
def U9:ZS:=d N8.u4 N8.u3 N8.u0
def Tp:ZS:=d N8.u5 N8.u3 N8.u0
def Tw:ZS:=d N8.u6 N8.u3 N8.u0
def TC:ZS:=d N8.u7 N8.u3 N8.u0
def TY:ZS:=d N8.u0 N8.u4 N8.u0
def TS:ZS:=d N8.u1 N8.u4 N8.u0
def Sg:ZS:=d N8.u2 N8.u4 N8.u0
def Si:ZS:=d N8.u3 N8.u4 N8.u0
def SM:ZS:=d N8.u4 N8.u4 N8.u0
def Ss:ZS:=d N8.u5 N8.u4 N8.u0
def Su:ZS:=d N8.u6 N8.u4 N8.u0
def SN:ZS:=d N8.u7 N8.u4 N8.u0
def SO:ZS:=d N8.u0 N8.u5 N8.u0
def Rw:ZS:=d N8.u1 N8.u5 N8.u0
def SW:ZS:=d N8.u2 N8.u5 N8.u0
def SX:ZS:=d N8.u3 N8.u5 N8.u0
def RN:ZS:=d N8.u4 N8.u5 N8.u0
def Qi:ZS:=d N8.u5 N8.u5 N8.u0
def R0:ZS:=d N8.u6 N8.u5 N8.u0
def R1:ZS:=d N8.u7 N8.u5 N8.u0
def Qj:ZS:=d N8.u0 N8.u6 N8.u0
def Qk:ZS:=d N8.u1 N8.u6 N8.u0
def QS:ZS:=d N8.u2 N8.u6 N8.u0
def QT:ZS:=d N8.u3 N8.u6 N8.u0
def QZ:ZS:=d N8.u4 N8.u6 N8.u0
def Oq:ZS:=d N8.u5 N8.u6 N8.u0
def O6:ZS:=d N8.u6 N8.u6 N8.u0
def O7:ZS:=d N8.u7 N8.u6 N8.u0
def O8:ZS:=d N8.u0 N8.u7 N8.u0
def OW:ZS:=d N8.u1 N8.u7 N8.u0
def OX:ZS:=d N8.u2 N8.u7 N8.u0
def NQ:ZS:=d N8.u3 N8.u7 N8.u0
def Li:ZS:=d N8.u4 N8.u7 N8.u0
def Lj:ZS:=d N8.u5 N8.u7 N8.u0
def KZ:ZS:=d N8.u6 N8.u7 N8.u0
def IW:ZS:=d N8.u7 N8.u7 N8.u0
def IX:ZS:=d N8.u0 N8.u0 N8.u1
def JC:ZS:=d N8.u1 N8.u0 N8.u1
def IY:ZS:=d N8.u2 N8.u0 N8.u1
def GW:ZS:=d N8.u3 N8.u0 N8.u1
def Ec:ZS:=d N8.u4 N8.u0 N8.u1
def GX:ZS:=d N8.u5 N8.u0 N8.u1
def IZ:ZS:=d N8.u6 N8.u0 N8.u1
def I0:ZS:=d N8.u7 N8.u0 N8.u1
def JD:ZS:=d N8.u0 N8.u1 N8.u1
def I1:ZS:=d N8.u1 N8.u1 N8.u1
def I2:ZS:=d N8.u2 N8.u1 N8.u1
def GY:ZS:=d N8.u3 N8.u1 N8.u1
def GZ:ZS:=d N8.u4 N8.u1 N8.u1
def G0:ZS:=d N8.u5 N8.u1 N8.u1
def I3:ZS:=d N8.u6 N8.u1 N8.u1
def I4:ZS:=d N8.u7 N8.u1 N8.u1
def I5:ZS:=d N8.u0 N8.u2 N8.u1
def JE:ZS:=d N8.u1 N8.u2 N8.u1
def JF:ZS:=d N8.u2 N8.u2 N8.u1
def JG:ZS:=d N8.u3 N8.u2 N8.u1
def G1:ZS:=d N8.u4 N8.u2 N8.u1
def I6:ZS:=d N8.u5 N8.u2 N8.u1
def I7:ZS:=d N8.u6 N8.u2 N8.u1
def I8:ZS:=d N8.u7 N8.u2 N8.u1
def G2:ZS:=d N8.u0 N8.u3 N8.u1
def G3:ZS:=d N8.u1 N8.u3 N8.u1
def G4:ZS:=d N8.u2 N8.u3 N8.u1
def G5:ZS:=d N8.u3 N8.u3 N8.u1
def G6:ZS:=d N8.u4 N8.u3 N8.u1
def Ed:ZS:=d N8.u5 N8.u3 N8.u1
def BK:ZS:=d N8.u6 N8.u3 N8.u1
def BL:ZS:=d N8.u7 N8.u3 N8.u1
def BM:ZS:=d N8.u0 N8.u4 N8.u1
def BN:ZS:=d N8.u1 N8.u4 N8.u1
def BO:ZS:=d N8.u2 N8.u4 N8.u1
def Dc:ZS:=d N8.u3 N8.u4 N8.u1
def LF:ZS:=d N8.u4 N8.u4 N8.u1
def KU:ZS:=d N8.u5 N8.u4 N8.u1
def KV:ZS:=d N8.u6 N8.u4 N8.u1
def JZ:ZS:=d N8.u7 N8.u4 N8.u1
def J6:ZS:=d N8.u0 N8.u5 N8.u1
def J7:ZS:=d N8.u1 N8.u5 N8.u1
def J8:ZS:=d N8.u2 N8.u5 N8.u1
def J9:ZS:=d N8.u3 N8.u5 N8.u1
def GP:ZS:=d N8.u4 N8.u5 N8.u1
def Ia:ZS:=d N8.u5 N8.u5 N8.u1
def KW:ZS:=d N8.u6 N8.u5 N8.u1
def KX:ZS:=d N8.u7 N8.u5 N8.u1
def LG:ZS:=d N8.u0 N8.u6 N8.u1
def Ms:ZS:=d N8.u1 N8.u6 N8.u1
def Mt:ZS:=d N8.u2 N8.u6 N8.u1
def Mu:ZS:=d N8.u3 N8.u6 N8.u1
def Mv:ZS:=d N8.u4 N8.u6 N8.u1
def Mw:ZS:=d N8.u5 N8.u6 N8.u1
def Mx:ZS:=d N8.u6 N8.u6 N8.u1
def My:ZS:=d N8.u7 N8.u6 N8.u1
def Mz:ZS:=d N8.u0 N8.u7 N8.u1
def Nq:ZS:=d N8.u1 N8.u7 N8.u1
def Nr:ZS:=d N8.u2 N8.u7 N8.u1
def Ns:ZS:=d N8.u3 N8.u7 N8.u1
def MA:ZS:=d N8.u4 N8.u7 N8.u1
def MB:ZS:=d N8.u5 N8.u7 N8.u1
def MC:ZS:=d N8.u6 N8.u7 N8.u1
def MD:ZS:=d N8.u7 N8.u7 N8.u1
def ME:ZS:=d N8.u0 N8.u0 N8.u2
def LH:ZS:=d N8.u1 N8.u0 N8.u2
def MF:ZS:=d N8.u2 N8.u0 N8.u2
def MG:ZS:=d N8.u3 N8.u0 N8.u2
def LI:ZS:=d N8.u4 N8.u0 N8.u2
def KY:ZS:=d N8.u5 N8.u0 N8.u2
def Ib:ZS:=d N8.u6 N8.u0 N8.u2
def Ic:ZS:=d N8.u7 N8.u0 N8.u2
def GQ:ZS:=d N8.u0 N8.u1 N8.u2
def GR:ZS:=d N8.u1 N8.u1 N8.u2
def GS:ZS:=d N8.u2 N8.u1 N8.u2
def GU:ZS:=d N8.u3 N8.u1 N8.u2
def GV:ZS:=d N8.u4 N8.u1 N8.u2
def Bz:ZS:=d N8.u5 N8.u1 N8.u2
def BA:ZS:=d N8.u6 N8.u1 N8.u2
def BB:ZS:=d N8.u7 N8.u1 N8.u2
def BC:ZS:=d N8.u0 N8.u2 N8.u2
def EX:ZS:=d N8.u1 N8.u2 N8.u2
def EY:ZS:=d N8.u2 N8.u2 N8.u2
def EZ:ZS:=d N8.u3 N8.u2 N8.u2
def BE:ZS:=d N8.u4 N8.u2 N8.u2
def BF:ZS:=d N8.u5 N8.u2 N8.u2
def BG:ZS:=d N8.u6 N8.u2 N8.u2
def BH:ZS:=d N8.u7 N8.u2 N8.u2
def BI:ZS:=d N8.u0 N8.u3 N8.u2
def BJ:ZS:=d N8.u1 N8.u3 N8.u2
def uh:ZS:=d N8.u2 N8.u3 N8.u2
def ui:ZS:=d N8.u3 N8.u3 N8.u2
def uj:ZS:=d N8.u4 N8.u3 N8.u2
def uk:ZS:=d N8.u5 N8.u3 N8.u2
def pJ:ZS:=d N8.u6 N8.u3 N8.u2
def pK:ZS:=d N8.u7 N8.u3 N8.u2
def pL:ZS:=d N8.u0 N8.u4 N8.u2
def pM:ZS:=d N8.u1 N8.u4 N8.u2
def pN:ZS:=d N8.u2 N8.u4 N8.u2
def pO:ZS:=d N8.u3 N8.u4 N8.u2
def pP:ZS:=d N8.u4 N8.u4 N8.u2
def pQ:ZS:=d N8.u5 N8.u4 N8.u2
def fG:ZS:=d N8.u6 N8.u4 N8.u2
def ZaH:ZS:=d N8.u7 N8.u4 N8.u2
def ZaI:ZS:=d N8.u0 N8.u5 N8.u2
def Zgw:ZS:=d N8.u1 N8.u5 N8.u2
def Zgx:ZS:=d N8.u2 N8.u5 N8.u2
def Zgy:ZS:=d N8.u3 N8.u5 N8.u2
def Zgz:ZS:=d N8.u4 N8.u5 N8.u2
def ZgA:ZS:=d N8.u5 N8.u5 N8.u2
def ZgB:ZS:=d N8.u6 N8.u5 N8.u2
def ZgC:ZS:=d N8.u7 N8.u5 N8.u2
def ZgD:ZS:=d N8.u0 N8.u6 N8.u2
def ZgE:ZS:=d N8.u1 N8.u6 N8.u2
def ZgF:ZS:=d N8.u2 N8.u6 N8.u2
def ZgG:ZS:=d N8.u3 N8.u6 N8.u2
def ZgH:ZS:=d N8.u4 N8.u6 N8.u2
def ZgI:ZS:=d N8.u5 N8.u6 N8.u2
def ZgJ:ZS:=d N8.u6 N8.u6 N8.u2
def ZgK:ZS:=d N8.u7 N8.u6 N8.u2
def ZgL:ZS:=d N8.u0 N8.u7 N8.u2
def ZgM:ZS:=d N8.u1 N8.u7 N8.u2
def ZgN:ZS:=d N8.u2 N8.u7 N8.u2
def ZgO:ZS:=d N8.u3 N8.u7 N8.u2
def ZgP:ZS:=d N8.u4 N8.u7 N8.u2
def ZgQ:ZS:=d N8.u5 N8.u7 N8.u2
def ZgR:ZS:=d N8.u6 N8.u7 N8.u2
def ZgS:ZS:=d N8.u7 N8.u7 N8.u2
end
end Go.AI
