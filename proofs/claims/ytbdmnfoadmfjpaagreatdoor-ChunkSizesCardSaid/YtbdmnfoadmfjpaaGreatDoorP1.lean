/- The interpreter of my own for the model's code: its values, its operations, how code is compiled; definitions alone, no conditions. -/
import Derived.Calls
import GoSem.Step
set_option maxRecDepth 1000000
set_option maxHeartbeats 0
set_option linter.unusedVariables false
set_option linter.unusedSimpArgs false
namespace Go.AI
abbrev Ze:= @decide_eq_false
abbrev Zf:= @List.getD_eq_getElem?_getD
abbrev Zg:= @Nat.ble_eq_true_of_le
abbrev Zj:= @decide_eq_true
abbrev Zp:= @of_decide_eq_true
abbrev Zq:= @Nat.le_refl
abbrev Zn:= @List.getElem?_eq_getElem
abbrev Zl:= @List.length_cons
abbrev Zb:= @Nat.zero_add
abbrev YS:= @List.take_of_length_le
abbrev ZF:= @List.mem_cons_self
abbrev ZZ:= @Nat.lt_of_lt_of_le
abbrev Zm:= @List.length_append
abbrev ZQ:= @List.mem_cons_of_mem
abbrev Z9:= @Nat.eq_of_beq_eq_true
abbrev Yh:= @Nat.le_of_ble_eq_true
abbrev ZC:= @List.drop_zero
abbrev Zt:= @List.length_map
abbrev YD:= @Nat.mod_eq_of_lt
abbrev ZO:= @List.length_nil
abbrev YK:= @Nat.lt_succ_self
abbrev Yg:= @Array.getElem?_eq_some_iff
abbrev Zd:= @Nat.add_zero
abbrev ZA:= @List.mem_append
abbrev ZB:= @Nat.zero_le
abbrev Yl:= @Nat.le_trans
abbrev T8:= @Nat.add_sub_cancel
abbrev Yi:= @List.mem_cons
abbrev Xd:= @Nat.beq_refl
abbrev Sm:= @Bool.true_and
abbrev PB:= @Bool.false_and
abbrev Xh:= @List.getElem?_eq_none
abbrev Z4:= @List.length_take
abbrev YM:= @Array.getElem?_toList
abbrev Ys:= @Array.getD_eq_getD_getElem?
abbrev XM:= @List.length_eq_zero_iff
abbrev Yt:= @List.getElem?_append_left
abbrev Y9:= @Int.ofNat_eq_natCast
abbrev TY:= @List.not_mem_nil
abbrev XP:= @List.cons_append
abbrev WN:= @List.getElem_mem
abbrev XX:= @Nat.mul_le_mul_right
abbrev TZ:= @Nat.lt_of_le_of_lt
abbrev Pg:= @Nat.le_of_lt
abbrev Uy:= @List.length_pos_iff
abbrev Tl:= @Nat.sub_self
abbrev Vu:= @Nat.mod_lt
abbrev Vt:= @List.drop_eq_nil_of_le
abbrev YO:= @List.getElem?_map
abbrev XB:= @List.append_assoc
abbrev SH:= @Nat.not_lt_zero
abbrev Hl:= @List.getElem_of_mem
abbrev Zu:= @List.drop_succ_cons
abbrev WO:= @List.take_length
abbrev ZL:= @Nat.lt_irrefl
abbrev Xn:= @Bool.and_eq_true
abbrev Zh:= @List.forall_mem_cons
abbrev Vs:= @Array.mem_of_getElem?
abbrev Y6:= @List.all_eq_true
abbrev VQ:= @Option.isSome_iff_exists
abbrev Xt:= @Array.getElem?_setIfInBounds
abbrev VC:= @Bool.eq_iff_iff
abbrev XU:= @Bool.false_eq_true
abbrev Q0:= @Nat.lt_succ_of_le
abbrev Rj:= @UInt8.toNat_inj
abbrev Ug:= @UInt8.lt_iff_toNat_lt
abbrev Pj:= @Nat.pow_add
abbrev Wh:= @Nat.min_eq_left
abbrev U9:= @Nat.min_eq_right
abbrev X3:= @Nat.add_assoc
abbrev Vh:= @List.extract_eq_take_drop
abbrev TE:= @List.mem_of_mem_drop
abbrev Uz:= @List.mem_of_mem_take
abbrev Vx:= @Int.toNat_natCast
abbrev Xf:= @Nat.mul_one
abbrev XG:= @Option.map_some
abbrev WS:= @Array.getElem?_modify
abbrev Vg:= @Array.getElem?_eq_getElem
abbrev VN:= @List.mem_of_getElem?
abbrev Wq:= @List.getElem?_toArray
abbrev Wp:= @List.getElem?_replicate
abbrev Wl:= @List.replicate_succ
abbrev U8:= @List.foldl_cons
abbrev WM:= @List.ext_getElem?
abbrev Yz:= @List.getElem?_append_right
abbrev XV:= @List.getElem?_drop
abbrev Zz:= @List.map_cons
abbrev TC:= @Bool.or_eq_true
abbrev Vy:= @List.flatten_cons
abbrev WF:= @Nat.add_mul
abbrev Qk:= @Array.toList_map
abbrev Wx:= @List.getElem?_range
abbrev Xu:= @List.mem_map
abbrev VM:= @List.map_replicate
abbrev Va:= @Nat.zero_mul
abbrev Ws:= @Nat.le_succ
abbrev RO:= @Nat.div_add_mod
abbrev V6:= @Nat.mul_comm
abbrev VI:= @Option.map_none
abbrev RG:= @Nat.mul_div_cancel
abbrev SJ:= @Option.getD_some
abbrev Q5:= @Nat.div_lt_iff_lt_mul
abbrev Up:= @List.getElem?_cons_zero
abbrev TR:= @List.getElem?_cons_succ
abbrev ZS:= @Bool.not_false
abbrev RP:= @Nat.le_mul_of_pos_right
abbrev ZU:= @Bool.not_true
abbrev VD:= @List.mem_range
abbrev WG:= @Nat.add_sub_cancel_left
abbrev Q4:= @Bool.and_eq_true_iff
abbrev S0:= @List.map_map
abbrev S1:= @List.pairwise_cons
abbrev ZH:= @List.map_nil
abbrev Ql:= @List.getElem?_set
abbrev T6:= @List.mem_map_of_mem
abbrev ZG:= @List.mem_singleton
abbrev UO:= @Array.getElem?_setIfInBounds_ne
abbrev SF:= @List.range'_succ
abbrev TD:= @List.mem_filterMap
abbrev Qy:= @List.range_eq_range'
abbrev TX:= @List.mem_filter
abbrev Ux:= @List.filter_cons
abbrev XK:= @Array.mem_toList_iff
abbrev Zx:= @List.nil_append
abbrev V5:= @List.getElem?_eq_some_iff
abbrev Ph:= @Nat.one_mul
abbrev SE:= @List.drop_drop
abbrev PD:= @Nat.div_lt_of_lt_mul
abbrev Xe:= @List.map_append
abbrev PC:= @Nat.div_le_self
abbrev Qm:= @Nat.lt_trans
abbrev XT:= @List.getElem?_take_of_lt
abbrev YW:= @List.length_drop
abbrev Yu:= @List.length_replicate
abbrev U1:= @List.set_cons_succ
abbrev Tv:= @List.length_tail
abbrev Uj:= @List.length_set
abbrev Zr:= @List.append_nil
abbrev VH:= @Nat.testBit_eq_decide_div_mod_eq
abbrev UA:= @List.take_add_one
abbrev S7:= @UInt8.toNat_ofNat'
abbrev S4:= @Nat.pow_succ
abbrev PE:= @Nat.sub_zero
abbrev Uf:= @List.flatten_append
abbrev Zs:= @List.getD_cons_zero
abbrev Zw:= @List.take_succ_cons
abbrev ZI:= @List.take_zero
abbrev Zv:= @List.getD_cons_succ
abbrev Qz:= @Nat.div_div_eq_div_mul
abbrev SG:= @List.take_take
abbrev S6:= @Nat.succ_pos
abbrev T7:= @List.set_append_right
abbrev Td:= @List.replicate_zero
abbrev T5:= @List.drop_of_length_le
abbrev Sx:= @List.mem_iff_getElem
end Go.AI
namespace Go.AI
open Go
noncomputable section
structure N8(α:Type) where
 a0:α
 a1:α
 a2:α
 a3:α
 a4:α
 a5:α
 a6:α
 a7:α
namespace N8
variable {α:Type}
def u0(f:α->α)(n:N8 α):N8 α:=N8.rec (λa b c d e g h i=>⟨f a,b,c,d,e,g,h,i⟩) n
def u1(f:α->α)(n:N8 α):N8 α:=N8.rec (λa b c d e g h i=>⟨a,f b,c,d,e,g,h,i⟩) n
def u2(f:α->α)(n:N8 α):N8 α:=N8.rec (λa b c d e g h i=>⟨a,b,f c,d,e,g,h,i⟩) n
def u3(f:α->α)(n:N8 α):N8 α:=N8.rec (λa b c d e g h i=>⟨a,b,c,f d,e,g,h,i⟩) n
def u4(f:α->α)(n:N8 α):N8 α:=N8.rec (λa b c d e g h i=>⟨a,b,c,d,f e,g,h,i⟩) n
def u5(f:α->α)(n:N8 α):N8 α:=N8.rec (λa b c d e g h i=>⟨a,b,c,d,e,f g,h,i⟩) n
def u6(f:α->α)(n:N8 α):N8 α:=N8.rec (λa b c d e g h i=>⟨a,b,c,d,e,g,f h,i⟩) n
def u7(f:α->α)(n:N8 α):N8 α:=N8.rec (λa b c d e g h i=>⟨a,b,c,d,e,g,h,f i⟩) n
def all(x:α):N8 α:=⟨x,x,x,x,x,x,x,x⟩
def proj(i:Nat):N8 α->α:=match i with|0=>a0|1=>a1|2=>a2|3=>a3|4=>a4|5=>a5|6=>a6|_=>a7
def upd(i:Nat):(α->α)->N8 α->N8 α:=match i with|0=>u0|1=>u1|2=>u2|3=>u3|4=>u4|5=>u5|6=>u6|_=>u7
end N8
inductive T(α:Type) where
 |leaf
 |node (l:T α) (v:Option α) (r:T α)
def IR(f:Nat):Nat->List Bool:= @Nat.rec (λ_=>Nat->List Bool) (λ_=>[]) (λ_ ih n=> @Bool.rec (λ_=>List Bool) (@Bool.rec (λ_=>List Bool) (false::ih (Nat.sub (Nat.div n 2) 1)) (true::ih (Nat.div n 2)) (Nat.beq (Nat.mod n 2) 1)) [] (Nat.beq n 0)) f
def bits(n:Nat):List Bool:=IR n n
namespace T
variable {α:Type}
def getB(t:T α):List Bool->Option α:=
 @T.rec α (λ_=>List Bool->Option α) (λ_=>none) (λ_ v _ gl gr bs=> @List.rec Bool (λ_=>Option α) v (λb bs _=> @Bool.rec (λ_=>Option α) (gr bs) (gl bs) b) bs) t
def single(x:α)(bs:List Bool):T α:= @List.rec Bool (λ_=>T α) (node leaf (some x) leaf) (λb _ ih=> @Bool.rec (λ_=>T α) (node leaf none ih) (node ih none leaf) b) bs
def setB(x:α)(t:T α):List Bool->T α:=
 @T.rec α (λ_=>List Bool->T α) (λbs=>single x bs) (λl v r sl sr bs=> @List.rec Bool (λ_=>T α) (node l (some x) r) (λb bs _=> @Bool.rec (λ_=>T α) (node l v (sr bs)) (node (sl bs) v r) b) bs) t
def delB(t:T α):List Bool->T α:=
 @T.rec α (λ_=>List Bool->T α) (λ_=>leaf) (λl v r sl sr bs=> @List.rec Bool (λ_=>T α) (node l none r) (λb bs _=> @Bool.rec (λ_=>T α) (node l v (sr bs)) (node (sl bs) v r) b) bs) t
def get(t:T α)(n:Nat):Option α:=getB t (bits n)
def set(t:T α)(n:Nat)(x:α):T α:=setB x t (bits n)
def del(t:T α)(n:Nat):T α:=delB t (bits n)
def Ty:List α->List α
 |[]=>[]
 |[x]=>[x]
 |x::_::l=>x::Ty l
def Sd:Nat->List α->T α
 |0,_=>leaf
 |_+1,[]=>leaf
 |f+1,x::l=>node (Sd f (Ty l)) (some x) (Sd f (Ty l.tail))
def ZkB(l:List α):Nat:=List.rec 0 (λ_ _ n=>Nat.succ n) l
def ofList(l:List α):T α:=Sd (ZkB l) l
end T
inductive AV where
 |unk
 |bool (b:Bool)
 |int (k:IntKind) (n:Int)
 |str (s:List UInt8)
 |nilp
 |ptr (b o:Nat)
 |nils
 |slice (b o len:Nat) (cap:Option Nat)
 |slice0
 |nilm
 |map (b:Nat)
 |func (f:Nat) (first caps:List AV)
 |meth (name:String) (recv:AV)
 |yield (b:Nat)
 |nilf
 |iface (t:Nat) (v:AV)
 |nili
 |agg (cs:List AV)
 |tup (vs:List AV)
 deriving Inhabited
def AV.cells(v:AV):List AV:=
 AV.casesOn v [] (λb=>[.bool b]) (λk n=>[.int k n]) (λs=>[.str s]) [.nilp] (λb o=>[.ptr b o]) [.nils] (λb o l c=>[.slice b o l c]) [.slice0] [.nilm] (λb=>[.map b])
  (λf a b=>[.func f a b]) (λn r=>[.meth n r]) (λb=>[.yield b]) [.nilf] (λt v=>[.iface t v]) [.nili] (λcs=>cs) (λ_=>[])
structure Row where
 elem:Nat
 sz:Nat
 size:Nat
 cells:T AV
 dflt:AV
 fz:Nat
 sm:Bool
 own:Bool
 exact:Bool
structure RF where
 key:AV
 val:AV
 born:Nat
inductive Obj where
 |row (r:Row)
 |map (es:List RF) (clock:Nat)
 |siter (s:List UInt8) (pos:Nat)
 |miter (m:Option Nat) (since:Nat) (cur:Option (Nat×Nat))
 |loop
 |cmap (es:List RF)
structure Heap where
 nx:Nat
 t:T Obj
 ro:Nat
def Row.get(r:Row)(i:Nat):AV:=Option.rec r.dflt (λv=>v) (r.cells.get i)
def Row.setCells(r:Row)(t:T AV):Row:=⟨r.elem,r.sz,r.size,t,r.dflt,r.fz,r.sm,r.own,r.exact⟩
def Heap.put(H:Heap)(b:Nat)(o:Obj):Heap:=⟨H.nx,H.t.set b o,H.ro⟩
def Heap.new(H:Heap)(o:Obj):Heap:=⟨Nat.succ H.nx,H.t.set H.nx o,H.ro⟩
inductive OR2 where
 |fail
 |call (f:Nat) (args:List AV) (H:Heap)
 |yield (b:Nat) (args:List AV) (H:Heap)
 |pan (v:AV) (H:Heap)
 |recov
 |defer (f:AV) (args:List AV)
inductive OR where
 |val (v:AV) (H:Heap)
 |oth (o:OR2)
abbrev OR.fail:OR:=.oth .fail
abbrev TM:=N8 (N8 (N8 AV))
abbrev VA:=TM->Heap->OR
abbrev YG:=TM->AV
abbrev Yd:=TM->AV->TM
def e(f:N8 AV->AV)(g:N8 (N8 AV)->N8 AV)(h:TM->N8 (N8 AV)):YG:=λtm=>f (g (h tm))
def k(v:AV):YG:=λ_=>v
def d(f:(AV->AV)->N8 AV->N8 AV)(g:(N8 AV->N8 AV)->N8 (N8 AV)->N8 (N8 AV))(h:(N8 (N8 AV)->N8 (N8 AV))->TM->TM):Yd:=λtm v=>h (g (f (λ_=>v))) tm
def d0:Yd:=λtm _=>tm
def Ri(n:Nat):YG:=e (N8.proj (n % 8)) (N8.proj (n/8 % 8)) (N8.proj (n/64))
def OI(n:Nat):Yd:=d (N8.upd (n % 8)) (N8.upd (n/8 % 8)) (N8.upd (n/64))
def u8:N8 AV:=N8.all .unk
def u64:N8 (N8 AV):=N8.all u8
def OM:TM:=N8.all u64
def SN{α:Type}(a:Nat)(k:Nat->α):α:=Nat.rec (k 0) (λp _=>k (Nat.succ p)) a
def QB{α:Type}(n:Int)(k:Int->α):α:=Int.rec (λa=>SN a λa=>k (.ofNat a)) (λa=>SN a λa=>k (.negSucc a)) n
def tf(a b:Int):Int:=Int.rec (λx=>Int.rec (λy=>.ofNat (Nat.add x y)) (λ_=>a+b) b) (λ_=>a+b) a
def IL(a b:Int):Int:=Int.rec (λx=>Int.rec (λy=>cond (Nat.ble y x) (.ofNat (Nat.sub x y)) (a - b)) (λ_=>a - b) b) (λ_=>a - b) a
def zq(a b:Int):Int:=Int.rec (λx=>Int.rec (λy=>.ofNat (Nat.mul x y)) (λ_=>a*b) b) (λ_=>a*b) a
def Zg4(a b:Int):Int:=Int.rec (λx=>Int.rec (λy=>.ofNat (Nat.div x y)) (λ_=>a.tdiv b) b) (λ_=>a.tdiv b) a
def Zg5(a b:Int):Int:=Int.rec (λx=>Int.rec (λy=>.ofNat (Nat.mod x y)) (λ_=>a.tmod b) b) (λ_=>a.tmod b) a
def yT(a b:Int):Bool:=Int.rec (λx=>Int.rec (λy=>Nat.ble (Nat.succ x) y) (λ_=>false) b) (λx=>Int.rec (λ_=>true) (λy=>Nat.ble (Nat.succ y) x) b) a
def FW(a b:Int):Bool:=Int.rec (λx=>Int.rec (λy=>Nat.beq x y) (λ_=>false) b) (λx=>Int.rec (λ_=>false) (λy=>Nat.beq x y) b) a
def wa(k:IntKind)(m:Nat)(n:Int):Int:=Int.rec (λa=>cond (Nat.ble m a) (.ofNat (Nat.mod a m)) (.ofNat a)) (λ_=>k.wrap n) n
def qf(k:IntKind)(h:Nat)(n:Int):Int:=Int.rec (λa=>cond (Nat.ble h a) (k.wrap n) (.ofNat a)) (λa=>cond (Nat.ble h a) (k.wrap n) n) n
def ZfV(k:IntKind)(n:Int):Int:=
 IntKind.rec (qf .i8 128 n) (qf .i16 32768 n) (qf .i32 2147483648 n) (qf .i64 9223372036854775808 n) (wa .u8 256 n) (wa .u16 65536 n) (wa .u32 4294967296 n) (wa .u64 18446744073709551616 n) k
def Sc(k:IntKind):Nat:=IntKind.rec 256 65536 4294967296 18446744073709551616 256 65536 4294967296 18446744073709551616 k
def UP(m:Nat)(n:Int):Nat:=Int.rec (λa=>Nat.mod a m) (λa=>Nat.sub (Nat.sub m 1) (Nat.mod a m)) n
def Oz(a b:IntKind):Bool:=Nat.beq a.ctorIdx b.ctorIdx
def Pp(v:AV)(k:IntKind->Int->OR):OR:=match v with|.int a b=>k a b|_=>.fail
def SX(v:AV)(k:Nat->OR):OR:=match v with|.int _ (.ofNat b)=>k b|_=>.fail
def EF(v:AV)(k:Bool->OR):OR:=match v with|.bool b=>k b|_=>.fail
def O9(v:AV)(k:List UInt8->OR):OR:=match v with|.str s=>k s|_=>.fail
def Qx(v:AV)(k:Nat->Nat->OR):OR:=match v with|.ptr b o=>k b o|_=>.fail
def DJ(v:AV)(k:List AV->OR):OR:=match v with|.agg cs=>k cs|_=>.fail
def lC(v:AV)(k:List AV->OR):OR:=match v with|.tup cs=>k cs|_=>.fail
def Q1(v:AV)(n:OR)(k:Nat->AV->OR):OR:=match v with|.iface t x=>k t x|.nili=>n|_=>.fail
def Sf(v:AV)(n:OR)(k:Nat->Nat->Nat->Option Nat->OR):OR:=match v with|.slice b o l c=>k b o l c|.nils=>n|_=>.fail
def onZ(v:AV)(z n:OR):OR:=match v with|.slice0=>z|_=>n
def Av(v:AV)(n:OR)(k:Nat->OR):OR:=match v with|.map b=>k b|.nilm=>n|_=>.fail
def I1(H:Heap)(b:Nat)(k:Obj->OR):OR:=match H.t.get b with|some o=>k o|none=>.fail
def Xv(H:Heap)(b:Nat)(k:Row->OR):OR:=match H.t.get b with|some (.row r)=>k r|_=>.fail
def Sr{α:Type}(x:Option α)(k:α->OR):OR:=match x with|some a=>k a|none=>.fail
def Z3(b:Bool)(k:OR):OR:=cond b k .fail
def F6(a b:UInt8):Bool:=Nat.beq a.toNat b.toNat
def J6:List UInt8->List UInt8->Bool
 |[],[]=>true
 |a::x,b::y=>cond (F6 a b) (J6 x y) false
 |_,_=>false
def Xo:List UInt8->List UInt8->Bool
 |_,[]=>false
 |[],_::_=>true
 |a::x,b::y=>cond (Nat.ble (Nat.succ a.toNat) b.toNat) true (cond (F6 a b) (Xo x y) false)
def Vr(r:Row)(o:Nat):Nat->List AV
 |0=>[]
 |n+1=>r.get o::Vr r (Nat.succ o) n
def Xj(c:T AV):Nat->List AV->T AV
 |_,[]=>c
 |o,v::l=>Xj (c.set o v) (Nat.succ o) l
def Xc{α:Type}(l:List α):Nat:=List.rec 0 (λ_ _ n=>Nat.succ n) l
def Fa:List AV->Nat->Option AV
 |[],_=>none
 |v::_,0=>some v
 |_::l,n+1=>Fa l n
def tQ:List UInt8->Nat->Option UInt8
 |[],_=>none
 |v::_,0=>some v
 |_::l,n+1=>tQ l n
def Heap.newRow(H:Heap)(elem sz:Nat)(cs:List AV)(exact:Bool):Heap:=
 H.new (.row ⟨elem,sz,Xc cs,T.ofList cs,.unk,0,false,true,exact⟩)
def Heap.may(H:Heap)(r:Row)(b:Nat):Bool:=cond r.own (Nat.ble H.ro b) false
section
variable (x y z:YG)
def Zk:VA:=λtm H=>.val (x tm) H
def Zo1:VA:=λtm H=>O9 (x tm) λs=>.val (.str s) H
def XA:VA:=λtm H=>EF (x tm) λb=>.val (cond b (y tm) (z tm)) H
def V9(e:Nat)(cs:List AV):VA:=λ_ H=>Z3 (Nat.ble 1 (Xc cs))<|.val (.ptr H.nx 0) (H.newRow e 1 cs true)
def RH(e n:Nat)(v:AV):VA:=λ_ H=>.val (.ptr H.nx 0) (H.new (.row ⟨e,1,n,.leaf,v,0,false,true,true⟩))
def IM(e:Nat):VA:=λtm H=>Z3 (Nat.ble 1 (Xc (x tm).cells))<|.val (.ptr H.nx 0) (H.newRow e 1 (x tm).cells true)
end
structure wh where
 off:Nat
 sz:Nat
 x:YG
def Ng:Nat->List AV->List AV
 |0,_=>[]
 |_+1,[]=>[]
 |n+1,v::l=>v::Ng n l
def Og:Nat->List AV->List AV
 |0,l=>l
 |_+1,[]=>[]
 |n+1,_::l=>Og n l
def ye(tm:TM)(k:List AV->OR):List wh->List AV->OR:=λps=>
 List.rec (λcells=>k cells) (λp _ ih cells=>
  Z3 (Nat.ble 1 p.sz)<|Z3 (Nat.beq (Xc (p.x tm).cells) p.sz) (Z3 (Nat.ble (Nat.add p.off p.sz) (Xc cells)) (ih (Ng p.off cells++((p.x tm).cells++Og (Nat.add p.off p.sz) cells))))) ps
def TV(zs:List AV)(ps:List wh):VA:=λtm H=>Z3 (Nat.ble 1 (Xc zs))<|ye tm (λcs=>.val (.agg cs) H) ps zs
def Vp(e sz n:Nat)(zs:List AV)(ps:List wh):VA:=λtm H=>Z3 (Nat.ble 1 sz)<|Z3 (Nat.beq (Xc zs) (Nat.mul n sz))<|ye tm (λcs=>.val (.slice H.nx 0 n none) (H.newRow e sz cs true)) ps zs
section
variable (x y z:YG)
def Yr:VA:=λtm H=>Qx (x tm) λb o=>Xv H b λr=>Z3 (Nat.ble (Nat.succ o) r.size) (.val (r.get o) H)
def Uk(n:Nat):VA:=λtm H=>Qx (x tm) λb o=>Xv H b λr=>Z3 (Nat.ble (Nat.add o n) r.size) (.val (.agg (Vr r o n)) H)
def XE:AV:=.tup []
def Xy(n:Nat):VA:=λtm H=>Qx (x tm) λb o=>Xv H b λr=>
 Z3 (Nat.ble 1 n)<|Z3 (H.may r b) (Z3 (Nat.ble (Nat.add o n) r.size) (Z3 (Nat.ble r.fz o) (Z3 (Nat.beq (Xc (y tm).cells) n)
  (.val XE (H.put b (.row (r.setCells (Xj r.cells o (y tm).cells))))))))
def vx(v:AV)(k:OR):OR:=match v with|.ptr .. |.func .. |.iface .. |.yield _=>k|_=>.fail
def Tx:VA:=λtm H=>vx (x tm) (.val (x tm) H)
def UX(k:IntKind)(n:Int)(H:Heap):OR:=QB (ZfV k n) λn=>.val (.int k n) H
def Es(x y:AV)(k:IntKind->Int->Int->OR):OR:=Pp x λj a=>Pp y λl b=>Z3 (Oz j l) (k j a b)
def VF:VA:=λtm H=>Es (x tm) (y tm) λk a b=>UX k (IL a b) H
def Oc:VA:=λtm H=>Es (x tm) (y tm) λk a b=>UX k (zq a b) H
def HV:VA:=λtm H=>Es (x tm) (y tm) λk a b=>cond (FW b 0) .fail (UX k (Zg4 a b) H)
def Fh:VA:=λtm H=>Es (x tm) (y tm) λk a b=>cond (FW b 0) .fail (QB (Zg5 a b) λn=>.val (.int k n) H)
def U4(f:Nat->Nat->Nat->Nat):VA:=λtm H=>Es (x tm) (y tm) λk a b=>UX k (.ofNat (f (Sc k) (UP (Sc k) a) (UP (Sc k) b))) H
def TT(_ a b:Nat):Nat:=Nat.land a b
def tF(_ a b:Nat):Nat:=Nat.lor a b
def Ia(_ a b:Nat):Nat:=Nat.xor a b
def Gq(m a b:Nat):Nat:=Nat.land a (Nat.sub (Nat.sub m 1) b)
def iD:VA:=λtm H=>Pp (x tm) λk a=>SX (y tm) λb=>UX k (zq a (.ofNat (Nat.pow 2 (cond (Nat.ble b 64) b 64)))) H
def Zg9(a:Int)(b:Nat):Int:=Int.rec (λx=>.ofNat (Nat.div x (Nat.pow 2 b))) (λx=>.negSucc (Nat.div x (Nat.pow 2 b))) a
def nc(k:IntKind):Nat:=IntKind.rec 8 16 32 64 8 16 32 64 k
def Ob(a b:Nat):Nat:=cond (Nat.ble a b) a b
def MF:VA:=λtm H=>Pp (x tm) λk a=>SX (y tm) λb=>QB (Zg9 a (Ob b (nc k))) λn=>.val (.int k n) H
def Rr(b:Bool)(H:Heap):OR:=cond b (.val (.bool true) H) (.val (.bool false) H)
def Xi(f:Int->Int->Bool)(g:List UInt8->List UInt8->Bool):VA:=λtm H=>match x tm with
 |.int j a=>Pp (y tm) λl b=>Z3 (Oz j l) (Rr (f a b) H)
 |.str a=>O9 (y tm) λb=>Rr (g a b) H
 |_=>.fail
def Wf(a b:Int):Bool:=yT a b
def PR(a b:Int):Bool:=!yT b a
def SQ(a b:Int):Bool:=yT b a
def Re(a b:Int):Bool:=!yT a b
def VW(a b:List UInt8):Bool:=Xo b a
def Vi(a b:List UInt8):Bool:=!Xo a b
def Sk(a b:List UInt8):Bool:=!Xo b a
def Y4:VA:=λtm H=>match x tm with
 |.int j a=>Pp (y tm) λl b=>Z3 (Oz j l) (UX j (tf a b) H)
 |.str a=>O9 (y tm) λb=>Z3 (Nat.ble (Nat.add (Xc a) (Xc b)) 4611686018427387904) (.val (.str (a++b)) H)
 |_=>.fail
def UB(a b:AV):Option Bool:=match a,b with|.int j a,.int k b=>cond (Oz j k) (some (FW a b)) none|_,_=>none
def Js(a b:AV):Option Bool:=match a,b with|.str a,.str b=>some (J6 a b)|_,_=>none
def fw(a b:AV):Option Bool:=match a,b with|.bool a,.bool b=>some (cond a b (cond b false true))|_,_=>none
def qN(a b:AV):Option Bool:=match a,b with
 |.nilp,.nilp=>some true
 |.nilp,.ptr .. =>some false
 |.ptr ..,.nilp=>some false
 |.ptr b o,.ptr c p=>cond (Nat.beq b c) (some (Nat.beq o p)) none
 |_,_=>none
def jn(a b:AV):Option Bool:=match a,b with|.nils,.nils=>some true|.nils,.slice .. =>some false|.slice ..,.nils=>some false|.nils,.slice0=>some false|.slice0,.nils=>some false|_,_=>none
def eqM(a b:AV):Option Bool:=match a,b with|.nilm,.nilm=>some true|.nilm,.map _=>some false|.map _,.nilm=>some false|_,_=>none
def eqN(a b:AV):Option Bool:=match a,b with|.nilf,.nilf=>some true|.nilf,.func .. =>some false|.func ..,.nilf=>some false|_,_=>none
def fx(lit:Bool)(g:Nat->AV->AV->Option Bool)(a b:AV):Option Bool:=match a,b with
 |.nili,.nili=>cond lit (some true) none
 |.nili,.iface .. =>some false
 |.iface ..,.nili=>some false
 |.iface t v,.iface u w=>cond (Nat.beq t u) (g t v w) (some false)
 |_,_=>none
def eqC(P:Program)(f:Nat->AV->AV->Option Bool)(t:Nat)(v w:AV):Option Bool:=match P.info? t with|some i=>cond i.comparable (f t v w) none|none=>none
def Zf1(P:Program)(t:Nat):Option Bool:=match P.underlying t with|some (.struct _)|some (.array _ _)=>some true|some _=>some false|none=>none
def xd(P:Program)(t:Nat)(cs:List AV)(off:Nat)(k:AV->Option Bool):Option Bool:=match P.info? t,Zf1 P t with
 |some i,some ag=>cond ag (k (.agg (Ng i.size (Og off cs)))) (match Fa cs off with|some v=>k v|none=>none)
 |_,_=>none
def Zce(r:Option Bool)(k:Option Bool):Option Bool:=match r with|some b=>cond b k (some false)|none=>none
def GG(P:Program)(f:AV->AV->Option Bool)(e c:Nat)(l m:List AV):List Nat->Option Bool
 |[]=>some true
 |i::is=>xd P e l (i*c) λa=>xd P e m (i*c) λb=>Zce (f a b) (GG P f e c l m is)
def NT(P:Program)(g:Nat->AV->AV->Option Bool)(l m:List AV):List Field->Option Bool
 |[]=>some true
 |f::fs=>cond (f.name== "_") (NT P g l m fs) (xd P f.type l f.offset λa=>xd P f.type m f.offset λb=>Zce (g f.type a b) (NT P g l m fs))
def qp(a b:AV)(k:List AV->List AV->Option Bool):Option Bool:=match a,b with|.agg l,.agg m=>k l m|_,_=>none
def eqD(P:Program)(lit:Bool)(g:Nat->AV->AV->Option Bool)(t:Nat)(a b:AV)(d:TypeDesc):Option Bool:=match d with
 |.bool=>fw a b
 |.int _=>UB a b
 |.string=>Js a b
 |.pointer e=>match P.info? e with|some i=>cond (Nat.beq i.size 0) none (qN a b)|none=>none
 |.slice _=>jn a b
 |.map _ _=>eqM a b
 |.func _ _ _=>eqN a b
 |.interface _=>fx lit (eqC P g) a b
 |.array n e=>qp a b λl m=>match P.info? e with|some i=>GG P (g e) e i.size l m (List.range n)|none=>none
 |.struct fs=>cond (P.stoodInHeld t) none (qp a b λl m=>NT P g l m fs.toList)
 |_=>none
def dq(P:Program):Nat->Nat->AV->AV->Option Bool
 |0,_,_,_=>none
 |d+1,t,a,b=>match P.underlying t with|some u=>eqD P true (dq P d) t a b u|none=>none
def UG(f:AV->AV->Option Bool)(neg:Bool):VA:=λtm H=>Sr (f (x tm) (y tm)) λb=>Rr (cond neg (cond b false true) b) H
def Ns:VA:=λtm H=>EF (x tm) λb=>.val (.bool (cond b false true)) H
def zz:VA:=λtm H=>Pp (x tm) λk a=>UX k (IL 0 a) H
def lj:VA:=λtm H=>Pp (x tm) λk a=>UX k (.ofNat (Nat.sub (Nat.sub (Sc k) 1) (UP (Sc k) a))) H
def Sw(k:IntKind):VA:=λtm H=>Pp (x tm) λ_ a=>UX k a H
def Ex:List UInt8->List AV
 |[]=>[]
 |b::l=>.int .u8 (.ofNat b.toNat)::Ex l
def Am(e:Nat):VA:=λtm H=>O9 (x tm) λs=>.val (.slice H.nx 0 (Xc s) none) (H.new (.row ⟨e,1,Xc s,T.ofList (Ex s),.unk,0,true,true,false⟩))
def OQ(k:List UInt8->OR):List AV->OR
 |[]=>k []
 |v::l=>match v with|.int .u8 (.ofNat n)=>OQ (λs=>k (UInt8.ofNat n::s)) l|_=>.fail
def si:VA:=λtm H=>onZ (x tm) (.val (.str []) H)<|Sf (x tm) (.val (.str []) H) λb o n _=>cond (Nat.beq n 0) (.val (.str []) H) (Xv H b λr=>Z3 (Nat.ble (Nat.add o n) r.size) (OQ (λs=>.val (.str s) H) (Vr r o n)))
def y8:VA:=λtm H=>match x tm with
 |.nilp=>.val .nilp H
 |.ptr b o=>Xv H b λr=>Z3 (Nat.ble (Nat.succ o) r.size) (.val (.ptr b o) H)
 |_=>.fail
def y7(u n:Nat):VA:=λtm H=>match x tm with
 |.nilp=>.val .nilp H
 |.ptr b o=>Xv H b λr=>Z3 r.exact (Z3 (Nat.beq r.elem u) (Z3 (Nat.beq o 0) (Z3 (Nat.ble n r.size) (.val (.ptr b o) H))))
 |_=>.fail
def y5:VA:=λtm H=>Sf (x tm) .fail λb _ _ _=>Xv H b λr=>Z3 (cond r.sm false (H.may r b))<|Z3 (Nat.beq r.fz 0)<|.val (x tm) (H.put b (.row ⟨r.elem,r.sz,r.size,r.cells,r.dflt,r.fz,true,r.own,r.exact⟩))
def lh:VA:=λtm H=>Pp (x tm) λ_ n=>.val (.str (Utf8.encode n).data.toList) H
def Nr(t:Nat):VA:=λtm H=>.val (.iface t (x tm)) H
def evs(tm:TM):List YG->List AV
 |[]=>[]
 |f::l=>f tm::evs tm l
def Fb(f:Nat)(a b:List YG):VA:=λtm H=>.val (.func f (evs tm a) (evs tm b)) H
def ZkM(n:String)(x:YG):VA:=λtm H=>.val (.meth n (x tm)) H
def Zhz:VA:=λ_ H=>.val (.map H.nx) (H.new (.map [] 0))
def Un(eq:AV->AV->Option Bool)(k:AV)(no:OR)(yes:AV->OR):List RF->OR
 |[]=>no
 |e::l=>Option.rec .fail (λt=>cond t (yes e.val) (Un eq k no yes l)) (eq k e.key)
def vl(eq:AV->AV->Option Bool)(k v:AV)(clock:Nat)(done:List RF->Nat->OR):List RF->OR
 |[]=>done [⟨k,v,clock⟩] (Nat.succ clock)
 |e::l=>Option.rec .fail (λt=>cond t (done (⟨k,v,e.born⟩::l) clock) (vl eq k v clock (λl' c=>done (e::l') c) l)) (eq k e.key)
def qt(o:Obj)(k:List RF->OR):OR:=match o with|.map es _=>k es|.cmap es=>k es|_=>.fail
def oY(o:Obj)(k:List RF->Nat->OR):OR:=match o with|.map es c=>k es c|_=>.fail
def CI(eq:AV->AV->Option Bool)(m k v:YG):VA:=λtm H=>Av (m tm) .fail λb=>I1 H b λo=>oY o λes clock=>
 Z3 (Nat.ble H.ro b) (vl eq (k tm) (v tm) clock (λes c=>.val XE (H.put b (.map es c))) es)
def IU(ok:Bool)(H:Heap)(v:AV)(b:Bool):OR:=cond ok (.val (.tup [v,.bool b]) H) (.val v H)
def Iu(eq:AV->AV->Option Bool)(zv:AV)(ok:Bool)(m k:YG):VA:=λtm H=>Av (m tm) (IU ok H zv false) λb=>I1 H b λo=>qt o λes=>
 Un eq (k tm) (IU ok H zv false) (λv=>IU ok H v true) es
def mZ(H:Heap)(e sz l c:Nat)(zs:List AV):OR:=match zs with
 |[v]=>Z3 (Nat.beq sz 1)<|.val (.slice H.nx 0 l none) (H.new (.row ⟨e,1,c,.leaf,v,0,false,true,true⟩))
 |zs=>Z3 (Nat.beq (Xc zs) sz)<|.val (.slice H.nx 0 l none) (H.newRow e sz ((List.replicate c zs).flatten) true)
def Fe(e sz bytes:Nat)(zs:List AV)(l c:YG):VA:=λtm H=>SX (l tm) λl=>SX (c tm) λc=>Z3 (Nat.ble 1 sz)<|Z3 (Nat.ble l c) (Z3 (Nat.ble c 140737488355328)<|Z3 (Nat.ble (Nat.mul c bytes) 140737488355328) (mZ H e sz l c zs))
def ni(tm:TM)(x:Option YG)(d top:Nat)(k:Nat->OR):OR:=Option.rec (k d) (λf=>SX (f tm) λn=>Z3 (Nat.ble n top) (k n)) x
def Ht(tm:TM)(lo hi mx:Option YG)(len cap:Nat)(k:Nat->Nat->Nat->OR):OR:=
 ni tm mx cap cap λm=>ni tm hi len m λh=>ni tm lo 0 h λl=>k l h m
def KZ:Nat->List UInt8->List UInt8
 |0,_=>[]
 |_+1,[]=>[]
 |n+1,v::l=>v::KZ n l
def IS:Nat->List UInt8->List UInt8
 |0,l=>l
 |_+1,[]=>[]
 |n+1,_::l=>IS n l
def Vv(x:YG)(lo hi mx:Option YG):VA:=λtm H=>Option.rec (O9 (x tm) λs=>Ht tm lo hi none (Xc s) (Xc s) λl h _=>.val (.str (IS l (KZ h s))) H) (λ_=>.fail) mx
def W4(r:Row)(o:Nat)(cap:Option Nat):Nat:=Option.rec (cond (Nat.beq r.sz 1) (Nat.sub r.size o) (Nat.div (Nat.sub r.size o) r.sz)) (λc=>c) cap
def L9(r:Row)(sz:Nat)(cap:Option Nat):Bool:=Option.rec (Nat.beq r.sz sz) (λ_=>true) cap
def RC(sz:Nat)(x:YG)(lo hi mx:Option YG):VA:=λtm H=>
 onZ (x tm) (Ht tm lo hi mx 0 0 λ_ _ _=>.val .slice0 H)<|Sf (x tm) (Ht tm lo hi mx 0 0 λ_ _ _=>.val .nils H) λb o len cap=>Xv H b λr=>Z3 (L9 r sz cap) (Ht tm lo hi mx len (W4 r o cap) λl h m=>Z3 (Nat.ble l m)<|
  cond (Nat.beq l m) (Option.rec (Option.rec (.val (.slice H.nx 0 (Nat.sub h l) none) ⟨Nat.succ H.nx,H.t,H.ro⟩) (λ_=>.val (.slice b o (Nat.sub h l) (some 0)) H) cap) (λ_=>.val (.slice b o (Nat.sub h l) (some 0)) H) mx)
   (.val (.slice b (Nat.add o (Nat.mul l sz)) (Nat.sub h l) (Option.rec (Option.rec none (λc=>some (Nat.sub c l)) cap) (λ_=>some (Nat.sub m l)) mx)) H))
def QE(n sz:Nat)(x:YG)(lo hi mx:Option YG):VA:=λtm H=>Qx (x tm) λb o=>Ht tm lo hi mx n n λl h m=>
  cond (Nat.beq l m) (.val (.slice b o (Nat.sub h l) (some (Nat.sub m l))) H) (.val (.slice b (Nat.add o (Nat.mul l sz)) (Nat.sub h l) (some (Nat.sub m l))) H)
def Xz(n:Nat):VA:=λtm H=>Qx (x tm) λb o=>.val (.ptr b (Nat.add o n)) H
def ZkK(o:Nat):VA:=λtm H=>DJ (x tm) λcs=>Sr (Fa cs o) λv=>.val v H
def Zo0(o n:Nat):VA:=λtm H=>DJ (x tm) λcs=>.val (.agg (Ng n (Og o cs))) H
def Vn(sz:Nat):VA:=λtm H=>SX (y tm) λi=>Sf (x tm) .fail λb o len _=>Z3 (Nat.ble (Nat.succ i) len) (.val (.ptr b (Nat.add o (Nat.mul i sz))) H)
def VE(n sz:Nat):VA:=λtm H=>SX (y tm) λi=>Qx (x tm) λb o=>Z3 (Nat.ble (Nat.succ i) n) (.val (.ptr b (Nat.add o (Nat.mul i sz))) H)
def XW:VA:=λtm H=>SX (y tm) λi=>O9 (x tm) λs=>Sr (tQ s i) λb=>SN b.toNat λn=>.val (.int .u8 (.ofNat n)) H
def Fd(n:Nat):VA:=λtm H=>SX (y tm) λi=>DJ (x tm) λcs=>Z3 (Nat.ble (Nat.succ i) n) (Sr (Fa cs i) λv=>.val v H)
def vB(n sz:Nat):VA:=λtm H=>SX (y tm) λi=>DJ (x tm) λcs=>Z3 (Nat.ble (Nat.succ i) n) (.val (.agg (Ng sz (Og (Nat.mul i sz) cs))) H)
def PF(zv:AV)(ok:Bool)(H:Heap)(v:Option AV):OR:=Option.rec (cond ok (.val (.tup [zv,.bool false]) H) .fail) (λv=>cond ok (.val (.tup [v,.bool true]) H) (.val v H)) v
def CG(t:Nat)(zv:AV)(ok:Bool):VA:=λtm H=>Q1 (x tm) (PF zv ok H none) λu v=>PF zv ok H (cond (Nat.beq u t) (some v) none)
def tT(P:Program)(ms:Array (String×TypeId))(zv:AV)(ok:Bool):VA:=λtm H=>Q1 (x tm) (PF zv ok H none) λu v=>Sr (P.info? u) λi=>PF zv ok H (Option.rec (some (.iface u v)) (λ_=>none) (Instr.missingMethod ms i.methods))
def WJ(i:Nat):VA:=λtm H=>lC (x tm) λvs=>Sr (Fa vs i) λv=>.val v H
def In(P:Program)(name:String)(u:Nat)(k:Nat->OR):OR:=
 Sr (P.info? u) λi=>Sr (i.methods.find? (·.name==name)) λm=>Z3 m.path.isEmpty (match m.func with
  |some (g,ptr)=>match P.underlying u with
   |some (.pointer _)=>Z3 ptr (k g)
   |some _=>cond ptr .fail (k g)
   |none=>.fail
  |none=>.fail)
def ZT(f:Nat)(args:List YG):VA:=λtm H=>.oth (.call f (evs tm args) H)
def Mo(P:Program)(args:List YG):VA:=λtm H=>match x tm with
 |.func f a b=>.oth (.call f (a++(evs tm args++b)) H)
 |.meth n r=>Q1 r .fail λu v=>In P n u λg=>.oth (.call g (v::evs tm args) H)
 |.yield b=>.oth (.yield b (evs tm args) H)
 |_=>.fail
def Zd3(P:Program)(n:String)(args:List YG):VA:=λtm H=>Q1 (x tm) .fail λu v=>In P n u λg=>.oth (.call g (v::evs tm args) H)
def ve(v:AV)(k:Nat->OR):OR:=match v with|.nils=>k 0|.slice0=>k 0|.slice _ _ n _=>k n|.str s=>k (Xc s)|_=>.fail
def Vb(H:Heap)(sz:Nat)(v:AV)(n:Nat)(k:List AV->OR):OR:=cond (Nat.beq n 0) (k []) (match v with
 |.slice b o _ _=>Xv H b λr=>Z3 (Nat.ble (Nat.add o (Nat.mul n sz)) r.size) (k (Vr r o (Nat.mul n sz)))
 |.str s=>Z3 (Nat.beq sz 1) (k (Ex (KZ n s)))
 |_=>.fail)
def Hm(H:Heap)(e b o len n sz:Nat)(r:Row)(new:List AV):OR:=
 Z3 (Nat.beq r.elem e)<|Z3 (H.may r b)<|Z3 (Nat.ble r.fz (Nat.mul len sz))<|Z3 (Nat.beq (Nat.mul len sz) r.size)<|Z3 (Nat.beq o 0)<|
  .val (.slice H.nx 0 (Nat.add len n) none) ⟨Nat.succ H.nx,(H.t.del b).set H.nx (.row ⟨r.elem,sz,Nat.mul (Nat.add len n) sz,Xj r.cells (Nat.mul len sz) new,r.dflt,r.fz,r.sm,true,false⟩),H.ro⟩
def Jl(H:Heap)(v:AV)(b o len n sz:Nat)(cap:Option Nat)(r:Row)(new:List AV):OR:=
 cond (Nat.beq n 0) (.val v H) (Z3 (H.may r b) (Z3 (Nat.ble (Nat.add o (Nat.mul (Nat.add len n) sz)) r.size) (Z3 (Nat.ble r.fz (Nat.add o (Nat.mul len sz)))
  (.val (.slice b o (Nat.add len n) cap) (H.put b (.row (r.setCells (Xj r.cells (Nat.add o (Nat.mul len sz)) new))))))))
def Ni(H:Heap)(e b o len n sz bytes:Nat)(cap:Option Nat)(r:Row)(new:List AV):OR:=
 Z3 (Nat.ble (Nat.mul (Nat.add len n) bytes) 140737488355328)<|Z3 (Nat.ble (Nat.add o (Nat.mul len sz)) r.size)<|Option.rec
  (cond r.exact (Z3 (Nat.beq (Nat.mod o sz) 0) (.val (.slice H.nx 0 (Nat.add len n) none) (H.newRow e sz (Vr r o (Nat.mul len sz)++new) false))) (Hm H e b o len n sz r new))
  (λ_=>.val (.slice H.nx 0 (Nat.add len n) none) (H.newRow e sz (Vr r o (Nat.mul len sz)++new) false)) cap
def Ol(v:AV)(e sz bytes:Nat)(H:Heap)(n:Nat)(new:List AV):OR:=
 onZ v (cond (Nat.beq n 0) (.val .slice0 H) (Z3 (Nat.ble (Nat.mul n bytes) 140737488355328) (.val (.slice H.nx 0 n none) (H.newRow e sz new false))))<|
 Sf v (cond (Nat.beq n 0) (.val .nils H) (Z3 (Nat.ble (Nat.mul n bytes) 140737488355328) (.val (.slice H.nx 0 n none) (H.newRow e sz new false)))) λb o len cap=>Xv H b λr=>
  Z3 (L9 r sz cap) (cond (Nat.ble (Nat.add len n) (W4 r o cap)) (Jl H v b o len n sz cap r new) (Ni H e b o len n sz bytes cap r new))
def WZ(e sz bytes:Nat):VA:=λtm H=>Z3 (Nat.ble 1 sz)<|Z3 (Nat.ble 1 bytes)<|ve (y tm) λn=>Vb H sz (y tm) n λnew=>Ol (x tm) e sz bytes H n new
def LM(e sz bytes:Nat)(zs:List AV):VA:=λtm H=>Z3 (Nat.ble 1 sz)<|Z3 (Nat.ble 1 bytes)<|SX (y tm) λn=>Z3 (Nat.ble (Nat.mul n bytes) 140737488355328)<|Ol (x tm) e sz bytes H n (List.replicate n zs).flatten
def DG(sz:Nat):VA:=λtm H=>ve (y tm) λsn=>Sf (x tm) (.val (.int .i64 0) H) λb o dn _=>SN (Ob dn sn) λn=>Vb H sz (y tm) n λnew=>
 cond (Nat.beq n 0) (.val (.int .i64 0) H) (Xv H b λr=>Z3 (H.may r b) (Z3 (Nat.ble r.fz o) (Z3 (Nat.ble (Nat.add o (Nat.mul n sz)) r.size) (.val (.int .i64 (.ofNat n)) (H.put b (.row (r.setCells (Xj r.cells o new))))))))
def Wn:VA:=λtm H=>O9 (x tm) λs=>SN (Xc s) λn=>.val (.int .i64 (.ofNat n)) H
def X9:VA:=λtm H=>onZ (x tm) (.val (.int .i64 0) H)<|Sf (x tm) (.val (.int .i64 0) H) λ_ _ n _=>SN n λn=>.val (.int .i64 (.ofNat n)) H
def ZkL:VA:=λtm H=>Av (x tm) (.val (.int .i64 0) H) λb=>I1 H b λo=>oY o λes _=>.val (.int .i64 (.ofNat (Xc es))) H
def pH:VA:=λtm H=>Sf (x tm) (.val (.int .i64 0) H) λb o _ cap=>Option.rec (Xv H b λr=>Z3 r.exact (Z3 (Nat.beq (Nat.mod o r.sz) 0) (.val (.int .i64 (.ofNat (W4 r o none))) H))) (λc=>.val (.int .i64 (.ofNat c)) H) cap
def min2(mx:Bool)(k:IntKind)(a:Int)(H:Heap):List AV->OR
 |[]=>.val (.int k a) H
 |v::l=>match v with|.int j b=>Z3 (Oz j k) (min2 mx k (cond (cond mx (yT a b) (yT b a)) b a) H l)|_=>.fail
def TS(mx:Bool)(args:List YG):VA:=λtm H=>match evs tm args with
 |.int k a::l=>min2 mx k a H l
 |_=>.fail
def li(e:Nat):VA:=λtm H=>SX (y tm) λn=>cond (Nat.beq n 0) (match x tm with|.nilp=>.val (.str []) H|.ptr .. =>.val (.str []) H|_=>.fail)
 (Z3 (Nat.ble n 140737488355328)<|Qx (x tm) λb o=>Xv H b λr=>Z3 (Nat.beq r.elem e)<|Z3 (cond r.sm false (H.may r b)) (Z3 (Nat.ble (Nat.add o n) r.size) (OQ (λs=>.val (.str s)
  (H.put b (.row ⟨r.elem,r.sz,r.size,r.cells,r.dflt,cond (Nat.ble r.fz (Nat.add o n)) (Nat.add o n) r.fz,r.sm,r.own,r.exact⟩))) (Vr r o n))))
def CK:VA:=λtm H=>Sf (x tm) (.val .nilp H) λb o _ cap=>Option.rec (Xv H b λr=>Z3 (Nat.ble (Nat.succ o) r.size) (.val (.ptr b o) H)) (λc=>Z3 (Nat.ble 1 c) (.val (.ptr b o) H)) cap
def Nt:VA:=λtm H=>Q1 (x tm) .fail λ_ _=>.oth (.pan (x tm) H)
def Ao:VA:=λ_ _=>.oth .recov
def An(args:List YG):VA:=λtm _=>.oth (.defer (x tm) (evs tm args))
def Zd5:VA:=λtm H=>Av (x tm) (.val (.ptr H.nx 0) (H.new (.miter none 0 none))) λb=>I1 H b λo=>oY o λ_ c=>.val (.ptr H.nx 0) (H.new (.miter (some b) c none))
def CJ:VA:=λtm H=>O9 (x tm) λs=>.val (.ptr H.nx 0) (H.new (.siter s 0))
def oZ(o:Obj)(k:List UInt8->Nat->OR):OR:=match o with|.siter s pos=>k s pos|_=>.fail
def lf:VA:=λtm H=>Qx (x tm) λb o=>Z3 (Nat.beq o 0)<|Z3 (Nat.ble H.ro b)<|I1 H b λo=>oZ o λs pos=>
 cond (Nat.ble (Nat.succ pos) (Xc s)) (match Utf8.decode ⟨s.toArray⟩ pos with|(c,w)=>.val (.tup [.bool true,.int .i64 (.ofNat pos),.int .i32 c]) (H.put b (.siter s (Nat.add pos w)))) (.val (.tup [.bool false]) H)
def wK(n:Nat)(k:RF->OR):List RF->OR
 |[]=>.fail
 |e::l=>cond (Nat.beq e.born n) (k e) (wK n k l)
def wn(o:Obj)(k:Nat->Nat->Nat->OR):OR:=match o with|.miter (some m) _ (some (n,st))=>k m n st|_=>.fail
def Zd4:VA:=λtm H=>Qx (x tm) λb o=>Z3 (Nat.beq o 0)<|I1 H b λob=>wn ob λm n st=>I1 H m λom=>oY om λes c=>Z3 (Nat.beq c st) (wK n (λe=>.val (.tup [e.key,e.val]) H) es)
def Ua:VA:=λ_ _=>.fail
end
inductive Out where
 |normal|exit (id:Nat)|ret|pan (v:AV)
inductive CR where
 |fail
 |ret (v:AV) (H:Heap)
 |pan (v:AV) (H:Heap)
structure X where
 df:List (AV×List AV)
 rc:Option AV
inductive WL where
 |fail
 |ok (o:Out) (tm:TM) (H:Heap) (x:X)
structure Ctx where
 call:Nat->List AV->Heap->CR
 yld:Nat->List AV->Heap->CR
 rng:AV->(List AV->Heap->CR)->TM->Heap->X->WL
 fuel:Nat
 rnd:Bool
abbrev D:=Ctx->TM->Heap->X->WL
def U3:Nat->List AV->Heap->CR:=λ_ _ _=>.fail
def Tp:AV->(List AV->Heap->CR)->TM->Heap->X->WL:=λ_ _ _ _ _=>.fail
def Au(next:TM->Heap->X->WL)(dst:Yd)(tm:TM)(x:X)(r:CR):WL:=match r with
 |.ret v H=>next (dst tm v) H x
 |.pan v H=>.ok (.pan v) tm H x
 |.fail=>.fail
def hO(next:TM->Heap->X->WL)(dst:Yd)(c:Ctx)(tm:TM)(H:Heap)(x:X)(o:OR2):WL:=match o with
 |.call f args H=>Au next dst tm x (c.call f args H)
 |.yield b args H=>Au next dst tm x (c.yld b args H)
 |.pan v H=>.ok (.pan v) tm H x
 |.recov=>cond c.rnd .fail (match x.rc with
  |some v=>next (dst tm v) H ⟨x.df,none⟩
  |none=>next (dst tm .nili) H x)
 |.defer f args=>match f with
  |.func _ _ _=>cond c.rnd .fail (next (dst tm XE) H ⟨(f,args)::x.df,x.rc⟩)
  |_=>.fail
 |.fail=>.fail
def OY(next:TM->Heap->X->WL)(dst:Yd)(c:Ctx)(tm:TM)(H:Heap)(x:X)(r:OR):WL:=
 @OR.rec (λ_=>WL) (λv H=>next (dst tm v) H x) (λo=>hO next dst c tm H x o) r
def wV(v:AV)(k:Bool->WL):WL:=match v with|.bool c=>k c|_=>.fail
def Za(f:VA)(dst:Yd)(next:D):D:=λc tm H x=>OY (next c) dst c tm H x (f tm H)
def Tn(v:AV)(b:Bool)(yes no:WL):WL:=match v with
 |.bool c=> @Bool.rec (λ_=>WL) (@Bool.rec (λ_=>WL) yes no b) (@Bool.rec (λ_=>WL) no yes b) c
 |.tup _=>no
 |_=>.fail
def Z5(g:YG)(b:Bool)(f:VA)(dst:Yd)(next:D):D:=λc tm H x=>
 Tn (g tm) b (OY (next c) dst c tm H x (f tm H)) (next c (dst tm XE) H x)
def Zc:D:=λ_ tm H x=>.ok .normal tm H x
def QY(r:WL)(k:TM->Heap->X->WL):WL:=
 @WL.rec (λ_=>WL) .fail (λo tm H x=> @Out.rec (λ_=>WL) (k tm H x) (λi=>.ok (.exit i) tm H x) (.ok .ret tm H x) (λv=>.ok (.pan v) tm H x) o) r
def Zi(a b:D):D:=λc tm H x=>QY (a c tm H x) (b c)
def Gz(a b:TM->Heap->X->WL)(v:Bool)(tm:TM)(H:Heap)(x:X):WL:= @Bool.rec (λ_=>WL) (b tm H x) (a tm H x) v
def Yo(q:YG)(a b:D):D:=λc tm H x=>wV (q tm) λv=>Gz (a c) (b c) v tm H x
def PU(id:Nat)(r:WL):WL:=
 @WL.rec (λ_=>WL) .fail (λo tm H x=> @Out.rec (λ_=>WL) (.ok .normal tm H x) (λi=> @Bool.rec (λ_=>WL) (.ok (.exit i) tm H x) (.ok .normal tm H x) (Nat.beq i id)) (.ok .ret tm H x) (λv=>.ok (.pan v) tm H x) o) r
def YT(id:Nat)(a:D):D:=λc tm H x=>PU id (a c tm H x)
def WP(a:TM->Heap->X->WL)(n:Nat):TM->Heap->X->WL:=
 @Nat.rec (λ_=>TM->Heap->X->WL) (λ_ _ _=>.fail) (λ_ ih tm H x=>QY (a tm H x) ih) n
def W5(a:D):D:=λc tm H x=>WP (a c) c.fuel tm H x
def CL(r:WL)(k:Bool):Bool:=match r with
 |.ok .normal _ _ y=>cond (match y.df,y.rc with|[],none=>true|_,_=>false) k false
 |_=>false
def AJ(body:TM->Heap->X->WL)(b m since:Nat)(dst:Yd)(tm:TM)(H:Heap)(es:List RF):Bool:=
 List.rec true (λe _ ih=>CL (body (dst tm (.tup [.bool true,e.key,e.val])) ⟨H.nx,H.t.set b (.miter (some m) since (some (e.born,since))),H.nx⟩ ⟨[],none⟩) ih) es
def ZkQ(v:AV)(k:Nat->Nat->WL):WL:=match v with|.ptr b o=>k b o|_=>.fail
def Zo3(o:Option Obj)(no:WL)(k:Nat->Nat->WL):WL:=match o with|some (.miter none _ none)=>no|some (.miter (some m) s none)=>k m s|_=>.fail
def ZkP(o:Option Obj)(since:Nat)(k:List RF->WL):WL:=match o with|some (.map es c)=>cond (Nat.beq c since) (k es) .fail|_=>.fail
def PJ(tm:TM):List Yd->TM
 |[]=>tm
 |d::l=>PJ (d tm .unk) l
def JL(r:WL):WL:=match r with|.ok .normal _ _ _=>.fail|r=>r
def pY(x:X)(k:WL):WL:=match x.df,x.rc with|[],none=>k|_,_=>.fail
def pC(r a:TM->Heap->X->WL)(q:YG)(dst:Yd)(tm:TM)(H:Heap)(x:X):WL:=
 ZkQ (q tm) λb o=>cond (Nat.beq o 0) (cond (Nat.ble H.ro b) (Zo3 (H.t.get b) (JL (a (dst tm (.tup [.bool false])) H x)) λm s=>ZkP (H.t.get m) s λes=>
  pY x (cond (AJ r b m s dst tm H es) (JL (a (dst tm (.tup [.bool false])) ⟨H.nx,H.t.del b,H.ro⟩ x)) .fail)) .fail) .fail
def pB(q:YG)(dst:Yd)(dead:List Yd)(a:D):D:=λc tm H x=>pC (a ⟨c.call,U3,Tp,c.fuel,true⟩) (a c) q dst (PJ tm dead) H x
def WV(id:Nat):D:=λ_ tm H x=>.ok (.exit id) tm H x
def YX:D:=λ_ tm H x=>.ok .ret tm H x
def PG:D:=λ_ _ _ _=>.fail
def Nw(tm:TM):List Yd->List AV->TM
 |d::ds,v::vs=>Nw (d tm v) ds vs
 |_,_=>tm
def HZ(r:WL):CR:=match r with
 |.ok .normal _ H _=>.ret (.bool true) H
 |_=>.fail
def Zam(q:YG)(ps:List Yd)(a:D):D:=λc tm H x=>
 c.rng (q tm) (λys H=>cond (Nat.beq (Xc ys) (Xc ps)) (HZ (a ⟨c.call,U3,Tp,c.fuel,true⟩ (Nw tm ps ys) H ⟨[],none⟩)) .fail) tm H x
inductive Gl where|free|read|eff
structure PI where
 f:VA
 g:Option (YG×Bool)
 os:List (Yd×YG)
 dst:Yd
 kind:Gl
 i:Nat
 bef:Nat
mutual
def Wu(n:Nat):AV->Bool
 |.ptr b _=>Nat.ble (Nat.succ b) n
 |.slice b _ _ _=>Nat.ble (Nat.succ b) n
 |.map b=>Nat.ble (Nat.succ b) n
 |.func _ x y=>cond (RL n x) (RL n y) false
 |.meth _ v=>Wu n v
 |.yield b=>Nat.ble (Nat.succ b) n
 |.iface _ v=>Wu n v
 |.agg l=>RL n l
 |.tup l=>RL n l
 |_=>true
def RL(n:Nat):List AV->Bool
 |[]=>true
 |v::l=>cond (Wu n v) (RL n l) false
end
def Pd(tm:TM)(os:List (Yd×YG)):TM:=List.rec OM (λp _ ih=>p.1 ih (p.2 tm)) os
def Qw(n:Nat)(tm:TM)(os:List (Yd×YG)):Bool:=List.rec true (λp _ ih=>cond (Wu n (p.2 tm)) ih false) os
mutual
def same:AV->AV->Bool
 |.bool a,.bool b=>cond a b (cond b false true)
 |.int k a,.int j b=>cond (Oz k j) (FW a b) false
 |.str a,.str b=>J6 a b
 |.nilp,.nilp=>true
 |.ptr a b,.ptr c d=>cond (Nat.beq a c) (Nat.beq b d) false
 |.nils,.nils=>true
 |.slice0,.slice0=>true
 |.slice a b c d,.slice e f g h=>cond (Nat.beq a e) (cond (Nat.beq b f) (cond (Nat.beq c g) (match d,h with|none,none=>true|some x,some y=>Nat.beq x y|_,_=>false) false) false) false
 |.nilm,.nilm=>true
 |.map a,.map b=>Nat.beq a b
 |.func f a b,.func g c d=>cond (Nat.beq f g) (cond (sameL a c) (sameL b d) false) false
 |.nilf,.nilf=>true
 |.iface t v,.iface u w=>cond (Nat.beq t u) (same v w) false
 |.nili,.nili=>true
 |.agg a,.agg b=>sameL a b
 |.tup a,.tup b=>sameL a b
 |_,_=>false
def sameL:List AV->List AV->Bool
 |[],[]=>true
 |a::as,b::bs=>cond (same a b) (sameL as bs) false
 |_,_=>false
end
structure RD where
 p:PI
 v:AV
def sL(u:RD)(tm:TM)(H:Heap):Bool:=OR.rec (λv H1=>cond (Nat.beq H1.nx H.nx) (same v u.v) false) (λ_=>false) (u.p.f (Pd tm u.p.os) ⟨H.nx,H.t,H.nx⟩)
def still(tm:TM)(H:Heap)(rs:List RD):Bool:=List.rec true (λr _ ih=>cond (sL r tm H) ih false) rs
def Th(bef:Nat)(rs:List RD):List RD:=List.rec [] (λr _ ih=>cond (Nat.testBit bef r.p.i) ih (r::ih)) rs
def Lh(g:Option (YG×Bool))(tm:TM)(yes no:WL):WL:=match g with
 |none=>yes
 |some (e,b)=>Tn (e tm) b yes no
def wrO(o:Obj):Bool:=match o with|.row r=>r.own|.loop=>false|_=>true
def aX(o:Option Obj)(k:Obj->WL):WL:=match o with|some x=>cond (wrO x) (k x) .fail|none=>.fail
abbrev PK:=List RD->TM->Heap->X->WL
def Jt(p:PI)(nx:PK)(rs:List RD)(tm:TM)(H:Heap)(x:X)(r:OR):WL:=
 OR.rec (λv H1=>cond (Nat.beq H1.nx H.nx) (nx rs (p.dst tm v) H x) (cond (Nat.beq H1.nx (Nat.succ H.nx)) (aX (H1.t.get H.nx) λo=>nx rs (p.dst tm v) (H.new o) x) .fail)) (λ_=>.fail) r
def dF(p:PI)(nx:PK)(rs:List RD)(tm:TM)(H:Heap)(x:X):WL:=
 cond (Qw H.nx tm p.os) (Jt p nx rs tm H x (p.f (Pd tm p.os) ⟨H.nx,.leaf,H.nx⟩)) .fail
def I2(p:PI)(nx:PK)(rs:List RD)(tm:TM)(H:Heap)(x:X)(r:OR):WL:=
 OR.rec (λv H1=>cond (Nat.beq H1.nx H.nx) (nx (⟨p,v⟩::rs) (p.dst tm v) H x) .fail) (λ_=>.fail) r
def ZhS(ds:List Yd)(v:AV)(tm:TM)(H:Heap)(x:X):WL:=.ok (.pan v) (PJ tm ds) H x
def AG(ds:List Yd)(p:PI)(nx:PK)(rs:List RD)(tm:TM)(x:X)(r:CR):WL:=match r with
 |.ret v H=>nx (Th p.bef rs) (p.dst tm v) H x
 |.pan v H=>ZhS ds v tm H x
 |.fail=>.fail
def ZkX(ds:List Yd)(p:PI)(nx:PK)(rs:List RD)(c:Ctx)(tm:TM)(x:X)(o:OR2):WL:=match o with
 |.call f args H=>AG ds p nx rs tm x (c.call f args H)
 |.yield b args H=>AG ds p nx rs tm x (c.yld b args H)
 |.pan v H=>ZhS ds v tm H x
 |_=>.fail
def GD(ds:List Yd)(p:PI)(nx:PK)(rs:List RD)(c:Ctx)(tm:TM)(x:X)(r:OR):WL:=
 OR.rec (λv H=>nx (Th p.bef rs) (p.dst tm v) H x) (λo=>ZkX ds p nx rs c tm x o) r
def Rq(ds:List Yd)(p:PI)(nx:PK)(c:Ctx)(rs:List RD)(tm:TM)(H:Heap)(x:X):WL:=
 Gl.rec (Lh p.g tm (dF p nx rs tm H x) (nx rs (p.dst tm XE) H x))
  (Lh p.g tm (I2 p nx rs tm H x (p.f (Pd tm p.os) ⟨H.nx,H.t,H.nx⟩)) (nx rs (p.dst tm XE) H x))
  (cond (still tm H rs) (Lh p.g tm (GD ds p nx rs c tm x (p.f (Pd tm p.os) H)) (nx (Th p.bef rs) (p.dst tm XE) H x)) .fail) p.kind
def Ut(ds:List Yd)(fin:PK)(l:List PI):Ctx->PK:=
 List.rec (λ_ rs tm H x=>cond (still tm H rs) (fin rs tm H x) .fail) (λp _ ih c=>Rq ds p (ih c) c) l
def JM(_:List RD)(tm:TM)(H:Heap)(x:X):WL:=.ok .normal tm H x
def Zhx(l:List RD)(k:WL):WL:=List.rec k (λ_ _ _=>.fail) l
def W7(l:List PI):D:=λc tm H x=>Ut (l.map (·.dst)) JM l c [] tm H x
def onV(r:OR)(k:Heap->WL):WL:=OR.rec (λ_ H=>k H) (λ_=>.fail) r
def apart(a b:AV)(k:WL):WL:=match a,b with|.ptr x _,.ptr y _=>cond (Nat.beq x y) .fail k|_,_=>.fail
def DM(p q:PI)(a b:YG)(rs:List RD)(tm:TM)(H:Heap)(x:X):WL:=
 Zhx (Th p.bef rs) (Zhx (Th q.bef rs) (apart (a (Pd tm p.os)) (b (Pd tm q.os)) (onV (p.f (Pd tm p.os) H) λH1=>onV (q.f (Pd tm q.os) H1) λH2=>.ok .normal tm H2 x)))
def eX(l:List PI)(p q:PI)(a b:YG):D:=λc tm H x=>Ut (l.map (·.dst)) (DM p q a b) l c [] tm H x
section
variable (P:Program)
def vD(f:Value->AV):List Value->List AV
 |[]=>[]
 |v::vs=>f v::vD f vs
def HW:Nat->Value->AV
 |0,_=>.unk
 |d+1,v=>match v with
  |.bool b=>.bool b
  |.int k n=>.int k n
  |.string s=>.str s.data.toList
  |.pointer none=>.nilp
  |.slice none 0 0=>.nils
  |.map none=>.nilm
  |.nilFunc=>.nilf
  |.func (.func f) ⟨[]⟩ ⟨[]⟩=>.func f [] []
  |.nilIface=>.nili
  |.iface t v=>.iface t (HW d v)
  |.agg ⟨cs⟩=>.agg (vD (HW d) cs)
  |.tuple ⟨cs⟩=>.tup (vD (HW d) cs)
  |_=>.unk
def ZkN(v:Value):AV:=HW 20 v
def Zo5(v:Value):Bool:=match v with|.agg _=>false|.tuple _=>false|_=>true
def Kz:Nat->Value->Bool
 |0,_=>true
 |d+1,v=>match v with
  |.agg ⟨cs⟩=>cs.all λc=>Zo5 c&&Kz d c
  |.tuple ⟨cs⟩=>cs.all (Kz d)
  |.iface _ v=>Kz d v
  |_=>true
def Vf(v:Value):AV:=cond (Kz 20 v) (ZkN v) .unk
def Xs(o:Operand):YG:=match o with
 |.tmp t=>cond (Nat.ble t 511) (Ri t) (k .unk)
 |.const v=>k (Vf v)
 |.global g=>cond (Nat.ble (Nat.succ g) P.globals.size) (k (.ptr g 0)) (k .unk)
 |.func f=>k (.func f [] [])
def Lj(t:Nat):Bool:=match P.underlying t with|some (.struct _)|some (.array _ _)=>true|_=>false
def Tq(t:Nat)(f:TypeInfo->VA):VA:=match P.info? t with|some i=>f i|none=>Ua
def ZdT(t:Nat):Array (String×TypeId):=match P.underlying t with|some (.interface ms)=>ms|_=> #[]
def args(l:Array Operand):List YG:=l.toList.map (Xs P)
def opt(x:Option Operand):Option YG:=x.map (Xs P)
def Znd(op:BinOp)(x y:YG):VA:=match op with
 |.add=>Y4 x y|.sub=>VF x y|.mul=>Oc x y|.quo=>HV x y|.rem=>Fh x y
 |.and=>U4 x y TT|.or=>U4 x y tF|.xor=>U4 x y Ia|.andNot=>U4 x y Gq
 |.shl=>iD x y|.shr=>MF x y
 |.eql=>Ua|.neq=>Ua
 |.lss=>Xi x y Wf Xo
 |.gtr=>Xi x y SQ VW
 |.leq=>Xi x y PR Sk
 |.geq=>Xi x y Re Vi
def KW(o:Operand):Bool:=match o with|.const _=>true|_=>false
def eqK(t:Nat)(lit neg:Bool)(x y:YG)(d:TypeDesc):VA:=match d with
 |.bool=>UG x y fw neg
 |.int _=>UG x y UB neg
 |.string=>UG x y Js neg
 |.pointer e=>match P.info? e with|some i=>cond (Nat.beq i.size 0) Ua (UG x y qN neg)|none=>Ua
 |.slice _=>UG x y jn neg
 |.map _ _=>UG x y eqM neg
 |.func _ _ _=>UG x y eqN neg
 |.interface _=>UG x y (fx lit (eqC P (dq P 9))) neg
 |.array _ _=>cond (P.eqGuardType P.depth t) Ua (UG x y (dq P 10 t) neg)
 |.struct _=>cond (P.eqGuardType P.depth t) Ua (UG x y (dq P 10 t) neg)
 |_=>Ua
def Ub(t:Nat)(f:TypeDesc->VA):VA:=match P.underlying t with|some d=>f d|none=>Ua
def vX(f:Array Field->VA)(d:TypeDesc):VA:=match d with|.struct fs=>f fs|_=>Ua
def A3(f:Nat->VA)(d:TypeDesc):VA:=match d with|.slice e=>f e|_=>Ua
def ZlF(f:Nat->VA)(d:TypeDesc):VA:=match d with|.pointer e=>f e|_=>Ua
def bR(f:(AV->AV->Option Bool)->VA)(d:TypeDesc):VA:=match d with|.string=>f Js|.int _=>f UB|.bool=>f fw|_=>Ua
def kC(f g:VA)(d:TypeDesc):VA:=match d with|.int _=>f|_=>g
def tU8(f:VA)(d:TypeDesc):VA:=match d with|.int .u8=>f|_=>Ua
def PY{α:Type}(x:Option α)(f:α->VA):VA:=match x with|some a=>f a|none=>Ua
def eh(b:Builtin)(xs:List Operand)(ts:List TypeId):VA:=match b with
 |.append=>match xs,ts with
  |[s,x],[t,u]=>Ub P t<|A3 λe=>Tq P e λi=>PY i.zero λz=>cond (Nat.beq (Xc (Vf z).cells) i.size) (Ub P u<|kC (LM (Xs P s) (Xs P x) e i.size i.bytes (Vf z).cells) (WZ (Xs P s) (Xs P x) e i.size i.bytes)) Ua
  |_,_=>Ua
 |.copy=>match xs,ts with
  |[d,s],[t,_]=>Ub P t<|A3 λe=>Tq P e λi=>DG (Xs P d) (Xs P s) i.size
  |_,_=>Ua
 |.len=>match xs,ts with
  |[x],[t]=>Ub P t λd=>match d with|.string=>Wn (Xs P x)|.slice _=>X9 (Xs P x)|.map _ _=>ZkL (Xs P x)|_=>Ua
  |_,_=>Ua
 |.cap=>match xs,ts with
  |[x],[t]=>Ub P t λd=>match d with|.slice _=>pH (Xs P x)|_=>Ua
  |_,_=>Ua
 |.min=>TS false (xs.map (Xs P))
 |.max=>TS true (xs.map (Xs P))
 |.unsafeString=>match xs,ts with
  |[p,n],[t,_]=>Ub P t<|ZlF λe=>Tq P e λi=>cond (Nat.beq i.size 1) (li (Xs P p) (Xs P n) e) Ua
  |_,_=>Ua
 |.unsafeSliceData=>match xs with|[x]=>CK (Xs P x)|_=>Ua
 |.panic=>match xs with|[x]=>Nt (Xs P x)|_=>Ua
 |.recover=>Ao
 |_=>Ua
def ek(c:Call):VA:=match c.callee with
 |.value (.func f)=>ZT f (args P c.args)
 |.value f=>Mo (Xs P f) P (args P c.args)
 |.invoke r m=>Zd3 (Xs P r) P m (args P c.args)
 |.builtin b=>eh P b c.args.toList c.argTypes.toList
def Ze3(s d:Nat)(x:YG)(ds dd:TypeDesc):VA:=match ds,dd with
 |.int _,.int k=>Sw x k
 |.string,.string=>Zo1 x
 |.int _,.string=>lh x
 |.string,.slice e=>Ub P e<|tU8 (Am x e)
 |.slice e,.string=>Ub P e<|tU8 (si x)
 |.pointer u,.unsafePointer=>Tq P u λi=>cond (Nat.ble 1 i.size) (y8 x) Ua
 |.unsafePointer,.pointer u=>Tq P u λi=>cond (Nat.ble 1 i.size) (y7 x u i.size) Ua
 |.slice _,.slice e=>cond (Nat.beq s d) (Ub P e<|tU8 (y5 x)) Ua
 |_,_=>Ua
def Zjm(s d:Nat)(x:YG):VA:=Ub P s λds=>Ub P d λdd=>Ze3 P s d x ds dd
def Zfz(n:String)(a b:List Operand):VA:=match a,b with|[x],[]=>ZkM n (Xs P x)|_,_=>Ua
def Oi(place:Nat->Option (Nat×Nat))(p:Nat×Operand):wh:=match place p.1 with
 |some (o,s)=>⟨o,s,Xs P p.2⟩
 |none=>⟨0,0,Xs P p.2⟩
def Zcc(kd:IntKind)(m:Int):List Value->Bool
 |[]=>true
 |v::l=>match v with|.int j n=>cond (Oz kd j) (cond (FW m n) (Zcc kd m l) false) false|_=>false
def fI(t:Nat)(l:List Value)(cs:List AV):VA:=match l with
 |.int kd m::l'=>cond (Nat.ble 8 (Xc l')) (cond (Zcc kd m l') (RH t (Nat.succ (Xc l')) (.int kd m)) (V9 t cs)) (V9 t cs)
 |_=>V9 t cs
def ZhA(hi mx:Option Operand):Bool:=match mx,hi with|some _,none=>false|_,_=>true
def VO(o:Op):VA:=match o with
 |.move x=>Zk (Xs P x)
 |.assign x=>Zk (Xs P x)
 |.pick c a b=>XA (Xs P c) (Xs P a) (Xs P b)
 |.alloc t=>Tq P t λi=>PY i.zero λz=>fI t z.cells.toList (Vf z).cells
 |.box t x=>IM (Xs P x) t
 |.build t ps=>Tq P t λi=>PY i.zero λz=>Ub P t λd=>match d with
  |.struct fs=>PY (fs.toList.mapM λf=>(P.info? f.type).map λi=>(f.offset,i.size)) λplaces=>TV (Vf z).cells (ps.toList.map (Oi P (places.toArray[·]?)))
  |.array _ e=>Tq P e λj=>TV (Vf z).cells (ps.toList.map (Oi P λi=>some (i*j.size,j.size)))
  |_=>Ua
 |.buildSlice t n ps=>Ub P t<|A3 λe=>Tq P e λj=>PY j.zero λz=>
   cond (Nat.ble (Nat.mul n j.size) 16777216) (Vp e j.size n ((List.replicate n (Vf z).cells).flatten) (ps.toList.map (Oi P λi=>some (i*j.size,j.size)))) Ua
 |.load t a=>Tq P t λi=>Ub P t λ_=>cond (Lj P t) (Uk (Xs P a) i.size) (Yr (Xs P a))
 |.store t a x=>Tq P t λi=>Xy (Xs P a) (Xs P x) i.size
 |.nilCheck x=>Tx (Xs P x)
 |.binOp op t x y _=>match op with
  |.eql=>Ub P t (eqK P t (KW x||KW y) false (Xs P x) (Xs P y))
  |.neq=>Ub P t (eqK P t (KW x||KW y) true (Xs P x) (Xs P y))
  |op=>Znd op (Xs P x) (Xs P y)
 |.unOp op _ x=>match op with|.neg=>zz (Xs P x)|.not=>Ns (Xs P x)|.xor=>lj (Xs P x)|_=>Ua
 |.convert s d x=>Zjm P s d (Xs P x)
 |.makeInterface t x=>Ub P t λd=>match d with|.interface _=>Ua|_=>Nr (Xs P x) t
 |.makeFunc fn a b=>match fn with
  |.func f=>Fb f (args P a) (args P b)
  |.method n=>Zfz P n a.toList b.toList
  |_=>Ua
 |.makeMap _ r=>match r with|none=>Zhz|some _=>Ua
 |.mapUpdate t m k v=>Ub P t λd=>match d with|.map kt _=>Ub P kt<|bR λeq=>CI eq (Xs P m) (Xs P k) (Xs P v)|_=>Ua
 |.insert t m k v=>Ub P t λd=>match d with|.map kt _=>Ub P kt<|bR λeq=>CI eq (Xs P m) (Xs P k) (Xs P v)|_=>Ua
 |.lookup t m k ok=>Ub P t λd=>match d with
  |.map kt e=>Ub P kt<|bR λeq=>Tq P e λi=>PY i.zero λz=>Iu eq (Vf z) ok (Xs P m) (Xs P k)
  |_=>Ua
 |.makeSlice t l c=>Ub P t<|A3 λe=>Tq P e λi=>PY i.zero λz=>Fe e i.size i.bytes (Vf z).cells (Xs P l) (Xs P c)
 |.slice t x lo hi mx=>cond (ZhA hi mx) (Ub P t λd=>match d with
  |.string=>Vv (Xs P x) (opt P lo) (opt P hi) (opt P mx)
  |.slice e=>Tq P e λi=>RC i.size (Xs P x) (opt P lo) (opt P hi) (opt P mx)
  |.array n e=>Tq P e λi=>QE n i.size (Xs P x) (opt P lo) (opt P hi) (opt P mx)
  |_=>Ua) Ua
 |.fieldAddr t x f=>Ub P t<|vX λfs=>PY fs[f]? λg=>Tq P g.type λi=>cond (Nat.ble 1 i.size) (Xz (Xs P x) g.offset) Ua
 |.field t x f=>Ub P t<|vX λfs=>PY fs[f]? λg=>Tq P g.type λi=>Ub P g.type λ_=>cond (Lj P g.type) (Zo0 (Xs P x) g.offset i.size) (ZkK (Xs P x) g.offset)
 |.indexAddr t x i=>Ub P t λd=>match d with
  |.slice e=>Tq P e λj=>Vn (Xs P x) (Xs P i) j.size
  |.array n e=>Tq P e λj=>VE (Xs P x) (Xs P i) n j.size
  |_=>Ua
 |.index t x i=>Ub P t λd=>match d with
  |.string=>XW (Xs P x) (Xs P i)
  |.array n e=>Tq P e λj=>Ub P e λ_=>cond (Lj P e) (vB (Xs P x) (Xs P i) n j.size) (cond (Nat.beq j.size 1) (Fd (Xs P x) (Xs P i) n) Ua)
  |_=>Ua
 |.typeAssert x _ t ok=>Tq P t λi=>PY i.zero λz=>Ub P t λd=>match d with
  |.interface _=>tT (Xs P x) P (ZdT P t) (Vf z) ok
  |_=>CG (Xs P x) t (Vf z) ok
 |.extract x i=>WJ (Xs P x) i
 |.call c=>ek P c
 |.defer c=>match c.callee with
  |.value f=>An (Xs P f) (args P c.args)
  |_=>Ua
 |.panic x=>Nt (Xs P x)
 |.range t x=>Ub P t λd=>match d with|.string=>CJ (Xs P x)|.map _ _=>Zd5 (Xs P x)|_=>Ua
 |.next x b=>cond b (lf (Xs P x)) Ua
 |.entry x=>Zd4 (Xs P x)
 |_=>Ua
def OA(o:Op):Gl:=match o with
 |.load .. |.lookup .. =>.read
 |.slice t _ _ _ _=>match P.underlying t with|some (.slice _)=>.read|_=>.free
 |.convert s d _=>match P.underlying s,P.underlying d with|some (.slice _),some (.slice _)=>.eff|some (.slice _),_=>.read|_,_=>.free
 |.call c=>match c.callee,c.argTypes.toList with
  |.builtin b,ts=>match b with
   |.len=>(match ts with|[t]=>(match P.underlying t with|some (.map _ _)=>.read|_=>.free)|_=>.free)
   |.cap|.unsafeSliceData=>.read|.min|.max=>.free|_=>.eff
  |_,_=>.eff
 |.assign _|.store .. |.mapUpdate .. |.insert .. |.mapEntry .. |.entryStore .. |.panic _|.defer _|.next .. |.range .. |.entry _=>.eff
 |_=>.free
def So(ops:Array Oper)(o:Oper):Option (YG×Bool):=match o.guard with
 |none=>none
 |some (j,b)=>match(ops[j]?).bind (·.dst) with|some d=>some (Xs P (.tmp d),b)|none=>some (k .unk,b)
def Wt(x:Option Nat):Yd:=match x with|some d=>cond (Nat.ble d 511) (OI d) d0|none=>d0
def sv(ops:Array Oper):List Oper->D
 |[]=>Zc
 |o::l=>match So P ops o with
  |none=>Za (VO P o.op) (Wt o.dst) (sv ops l)
  |some (g,b)=>Z5 g b (VO P o.op) (Wt o.dst) (sv ops l)
def Ho(acc:List (Nat×Nat))(o:Oper):Nat:=o.after.toList.foldl (λs e=>cond (Region.binds .any e) (Nat.lor (Nat.lor s (Nat.pow 2 e.on)) ((acc.lookup e.on).getD 0)) s) 0
def wo:List Oper->Nat->List (Nat×Nat)->List (Oper×Nat×Nat)
 |[],_,_=>[]
 |o::l,i,acc=>(o,i,Ho acc o)::wo l (i+1) ((i,Ho acc o)::acc)
def vY(l:List Operand):List Nat:=l.filterMap λx=>match x with|.tmp t=>some t|_=>none
def Ul(o:Oper):List (Yd×YG):=(vY o.op.operands.toList).filterMap λt=>cond (Nat.ble t 511) (some (OI t,Ri t)) none
def WR(ops:Array Oper)(x:Oper×Nat×Nat):PI:=⟨VO P x.1.op,So P ops x.1,Ul x.1,Wt x.1.dst,OA P x.1.op,x.2.1,x.2.2⟩
def tp(k:Gl):Bool:=Gl.rec false false true k
structure SI where
 i:Nat
 lk:List Nat
 d:Option Nat
 eff:Bool
 bef:Nat
 x:Oper×Nat×Nat
def RX(ops:Array Oper)(o:Oper):List Nat:=vY o.op.operands.toList++(match o.guard with|some (j,_)=>((ops[j]?).bind (·.dst)).toList|none=>[])
def Nz(ops:Array Oper)(x:Oper×Nat×Nat):SI:=⟨x.2.1,RX ops x.1,x.1.dst,tp (OA P x.1.op),x.2.2,x⟩
def BP:Nat->List SI->Nat->List SI
 |0,_,_=>[]
 |f+1,todo,done=>
  let ready:=todo.filter λp=>Nat.beq (Nat.land p.bef done) p.bef
  match ready.find? (λp=>cond p.eff false true) with
  |some p=>p::BP f (todo.filter λq=>cond (Nat.beq q.i p.i) false true) (Nat.lor done (Nat.pow 2 p.i))
  |none=>match ready with
   |p::_=>p::BP f (todo.filter λq=>cond (Nat.beq q.i p.i) false true) (Nat.lor done (Nat.pow 2 p.i))
   |[]=>[]
def bit(n:Nat):Nat:=Nat.pow 2 n
def JI(l:List Nat):Nat:=List.rec 0 (λt _ ih=>Nat.lor (bit t) ih) l
def Zgm(d:Option Nat):Nat:=match d with|some t=>bit t|none=>0
def dOk(d:Option Nat)(sm:Nat):Bool:=match d with|some t=>cond (Nat.testBit sm t) false true|none=>true
def ZdI(ws:List (Nat×Nat))(im bef t:Nat):Bool:=ws.all λx=>cond (Nat.beq x.1 t) (cond (Nat.testBit im x.2) (Nat.testBit bef x.2) true) true
def wJ(i:Nat)(o:Oper):Bool:=o.after.toList.all λe=>cond (Region.binds .any e) (Nat.ble (Nat.succ e.on) i) true
def aK(p:SI)(d:Option Nat):Bool:=match d with|some t=>cond (p.lk.all λs=>cond (Nat.beq s t) false true) (match p.d with|some s=>cond (Nat.beq s t) false true|none=>true) false|none=>true
def Zch(l0:List SI)(q:SI)(im:Nat):Bool:=l0.all λp=>cond (Nat.testBit im p.i) (cond (Nat.testBit q.bef p.i) true (aK p q.d)) true
def m6(l0:List SI)(q:SI)(sm im:Nat):Bool:=cond (dOk q.d (Nat.lor sm (JI q.lk))) true (cond q.eff (Zch l0 q im) false)
def KY(ws:List (Nat×Nat))(l0:List SI):List SI->Nat->Nat->Nat->Nat->Bool
 |[],_,_,im,all=>Nat.beq im all
 |q::l,em,sm,im,all=>cond (Nat.beq (Nat.land q.bef em) em) (cond (m6 l0 q sm im) (cond (q.lk.all (ZdI ws im q.bef)) (cond (Nat.testBit im q.i) false
   (KY ws l0 l (cond q.eff (Nat.lor em (bit q.i)) em) (Nat.lor (Nat.lor sm (JI q.lk)) (Zgm q.d)) (Nat.lor im (bit q.i)) all)) false) false) false
def P7(l:List SI):List (Nat×Nat):=l.filterMap λq=>match q.d with|some t=>some (t,q.i)|none=>none
def CB(l:List SI):Option (List SI×SI×SI):=match l.reverse with|b::a::r=>some (r.reverse,a,b)|_=>none
def Qf(o:Oper):Option YG:=match o.op,o.guard,o.dst with|.store _ a _,none,none=>some (Xs P a)|_,_,_=>none
def pT(ops:Array Oper)(ws:List (Nat×Nat))(l0:List SI)(all:Nat)(x:Option (List SI×SI×SI)):D:=match x with
 |some (r,a,b)=>match Qf P a.x.1,Qf P b.x.1 with
  |some e1,some e2=>cond (KY ws l0 (r++[a]) 0 0 0 (Nat.xor all (bit b.i))) (cond (KY ws l0 (r++[b]) 0 0 0 (Nat.xor all (bit a.i)))
    (eX (r.map λq=>WR P ops q.x) (WR P ops a.x) (WR P ops b.x) e1 e2) PG) PG
  |_,_=>PG
 |none=>PG
def Ab(ops:Array Oper):List SI:=BP ops.size ((wo ops.toList 0 []).map (Nz P ops)) 0
def vI(ops:Array Oper)(l:List SI):D:=
 cond (KY (P7 l) l l 0 0 0 (Nat.sub (bit ops.size) 1)) (W7 (l.map λq=>WR P ops q.x)) (pT P ops (P7 l) l (Nat.sub (bit ops.size) 1) (CB l))
def pZ(ops:Array Oper):D:=
 cond (ops.toList.zipIdx.all λx=>wJ x.2 x.1) (vI P ops (Ab P ops)) PG
def GC:Code->List Nat
 |.region _ ops _=>ops.toList.filterMap (·.dst)
 |.seq a b=>GC a++GC b
 |.cond _ a b=>GC a++GC b
 |.block _ a=>GC a
 |.loop a=>GC a
 |.scope a=>GC a
 |.rangeFunc _ _ _ _=>[]
 |_=>[]
def OO:Code->Option (Operand×Option Nat)
 |.seq a _=>OO a
 |.region _ ops false=>match ops.toList with
  |o::_=>match o.op,o.guard with|.next x false,none=>some (x,o.dst)|_,_=>none
  |[]=>none
 |_=>none
def uv(c:Code):D×D:=
 Code.rec (motive:=λ_=>D×D) (Zc,PG)
  (λ_ ops d=>(cond d (pZ P ops) (sv P ops ops.toList),cond d PG (sv P ops ops.toList.tail)))
  (λ_ _ a b=>(Zi a.1 b.1,Zi a.2 b.1))
  (λq _ _ a b=>(Yo (Xs P q) a.1 b.1,PG))
  (λid _ a=>(YT id a.1,PG))
  (λb a=>(match OO b with|some (x,t)=>pB (Xs P x) (Wt t) ((GC b).map λt=>Wt (some t)) a.2|none=>W5 a.1,PG))
  (λf ps _ _ a b=>(Zam (Xs P f) (ps.toList.map λt=>Wt (some t)) (Zi a.1 b.1),PG))
  (λid=>(WV id,PG))
  (λ_ a=>(a.1,PG))
  (λ_=>(Zc,PG))
  (λ_=>(PG,PG))
  (YX,PG)
  (λ_=>(PG,PG)) c
def Zjk(c:Code):D:=(uv P c).1
end
def params:List Yd:=[d N8.u0 N8.u0 N8.u0,d N8.u1 N8.u0 N8.u0,d N8.u2 N8.u0 N8.u0,d N8.u3 N8.u0 N8.u0,d N8.u4 N8.u0 N8.u0,d N8.u5 N8.u0 N8.u0,d N8.u6 N8.u0 N8.u0,d N8.u7 N8.u0 N8.u0,
 d N8.u0 N8.u1 N8.u0,d N8.u1 N8.u1 N8.u0,d N8.u2 N8.u1 N8.u0,d N8.u3 N8.u1 N8.u0,d N8.u4 N8.u1 N8.u0,d N8.u5 N8.u1 N8.u0,d N8.u6 N8.u1 N8.u0,d N8.u7 N8.u1 N8.u0]
def Rk(as:List AV):TM:=Nw OM params as
structure CF where
 rs:List (YG×Option (Nat×Bool))
 body:D
def Zew(tm:TM)(H:Heap)(r:YG×Option (Nat×Bool))(k:AV->CR):CR:=match r.2 with
 |none=>k (r.1 tm)
 |some (n,ag)=>match r.1 tm with
  |.ptr b o=>match H.t.get b with
   |some (.row r)=>cond (Nat.ble (Nat.add o n) r.size) (cond ag (k (.agg (Vr r o n))) (k (r.get o))) .fail
   |_=>.fail
  |_=>.fail
def Nc(tm:TM)(H:Heap)(k:List AV->CR):List (YG×Option (Nat×Bool))->CR
 |[]=>k []
 |r::l=>Zew tm H r λv=>Nc tm H (λvs=>k (v::vs)) l
def results(rs:List (YG×Option (Nat×Bool)))(tm:TM)(H:Heap):CR:=
 Nc tm H (λvs=>match vs with|[v]=>.ret v H|vs=>.ret (.tup vs) H) rs
inductive DR where
 |fail
 |ret (v:AV) (H:Heap) (rec:Bool)
 |pan (v:AV) (H:Heap) (rec:Bool)
def LS(rc:Option AV)(x:X):Bool:=match rc,x.rc with|some _,none=>true|_,_=>false
def deferred(dcall:Option AV->Nat->List AV->Heap->DR)(rs:List (YG×Option (Nat×Bool)))(tm:TM):List (AV×List AV)->Option AV->Heap->CR
 |[],none,H=>results rs tm H
 |[],some v,H=>.pan v H
 |d::l,pn,H=>match d.1 with
  |.func g a b=>match dcall pn g (a++(d.2++b)) H with
   |.ret _ H rec=>deferred dcall rs tm l (cond rec none pn) H
   |_=>.fail
  |_=>.fail
def K8(dcall:Option AV->Nat->List AV->Heap->DR)(rs:List (YG×Option (Nat×Bool)))(r:WL):CR:=match r with
 |.ok .normal tm H x=>match x.df with|[]=>results rs tm H|df=>deferred dcall rs tm df none H
 |.ok .ret tm H x=>match x.df with|[]=>results rs tm H|df=>deferred dcall rs tm df none H
 |.ok (.pan v) tm H x=>match x.df with|[]=>.pan v H|df=>deferred dcall rs tm df (some v) H
 |_=>.fail
def EG(rc:Option AV)(rs:List (YG×Option (Nat×Bool)))(r:WL):DR:=match r with
 |.ok .normal tm H x=>match x.df,results rs tm H with|[],.ret v H=>.ret v H (LS rc x)|_,_=>.fail
 |.ok .ret tm H x=>match x.df,results rs tm H with|[],.ret v H=>.ret v H (LS rc x)|_,_=>.fail
 |.ok (.pan v) _ H x=>match x.df with|[]=>.pan v H (LS rc x)|_=>.fail
 |_=>.fail
def Ze2(r:CR)(tm:TM)(x:X):WL:=match r with
 |.ret _ H=>.ok .normal tm H x
 |.pan v H=>.ok (.pan v) tm H x
 |.fail=>.fail
def As{α:Type}(d:α)(fs:T CF)(f:Nat)(k:CF->α):α:=match fs.get f with|some cf=>k cf|none=>d
def EH(fs:T CF)(fuel:Nat)(call:Nat->List AV->Heap->CR)(f:AV)(round:List AV->Heap->CR)(tm:TM)(H:Heap)(x:X):WL:=match f with
 |.func g a b=>As .fail fs g λcf=>
  Ze2 (K8 (λ_ _ _ _=>.fail) cf.rs (cf.body ⟨call,λl ys H'=>cond (Nat.beq l H.nx) (round ys H') .fail,Tp,fuel,false⟩
   (Rk (a++(.yield H.nx::b))) (H.new .loop) ⟨[],none⟩)) tm x
 |_=>.fail
def mQ(r:Option CR)(k:CR):CR:=Option.rec k (λr=>r) r
def Z8(lib:Nat->List AV->Heap->Option CR)(fs:T CF)(fuel:Nat)(n:Nat):Nat->List AV->Heap->CR:=
 @Nat.rec (λ_=>Nat->List AV->Heap->CR) (λ_ _ _=>.fail) (λ_ ih f args H=>mQ (lib f args H) (As .fail fs f λcf=>
  K8 (λpn g as H=>As .fail fs g λcg=>EG pn cg.rs (cg.body ⟨ih,U3,Tp,fuel,false⟩ (Rk as) H ⟨[],pn⟩))
   cf.rs (cf.body ⟨ih,U3,EH fs fuel ih,fuel,false⟩ (Rk args) H ⟨[],none⟩))) n
def Ar(n:Nat)(d:Option Nat):Bool:=match d with|some t=>Nat.ble (Nat.succ t) n|none=>true
def Oo(n:Nat)(c:Code):Bool:=
 Code.rec (motive:=λ_=>Bool) true (λ_ ops _=>ops.toList.all λo=>Ar n o.dst) (λ_ _ a b=>cond a b false) (λ_ _ _ a b=>cond a b false) (λ_ _ a=>a) (λ_ a=>a)
  (λ_ ps _ _ a b=>cond (ps.toList.all λt=>Ar n (some t)) (cond a b false) false) (λ_=>true) (λ_ a=>a) (λ_=>true) (λ_=>true) true (λ_=>true) c
def Fv(P:Program)(r:ResultVar):Bool:=match r with|.tmp _=>true|.cell _ t=>(P.info? t).isSome&&(P.underlying t).isSome&&Nat.ble 1 (P.cellsOf t)
def E9(P:Program)(f:Func):CF:=
 ⟨f.results.toList.map λr=>match r with|.tmp t=>(Xs P (.tmp t),none)|.cell a t=>(Xs P (.tmp a),some (P.cellsOf t,Lj P t)),
  match f.body with|some c=>cond (f.results.toList.all (Fv P)) (cond (Oo f.ntmps c) (Zjk P c) PG) PG|none=>PG⟩
def Zp8(P:Program):T CF:=T.ofList (P.funcs.toList.map (E9 P))
def nI(k:IntKind)(n:Nat):AV:=.int k (.ofNat n)
def Y3:YG:=e N8.a0 N8.a0 N8.a0
def Wv:YG:=e N8.a1 N8.a0 N8.a0
def Uv:YG:=e N8.a2 N8.a0 N8.a0
def VL:YG:=e N8.a3 N8.a0 N8.a0
def XQ:YG:=e N8.a4 N8.a0 N8.a0
def Wa:YG:=e N8.a5 N8.a0 N8.a0
def Ve:YG:=e N8.a6 N8.a0 N8.a0
def WH:YG:=e N8.a7 N8.a0 N8.a0
def WD:YG:=e N8.a0 N8.a1 N8.a0
def Vc:YG:=e N8.a1 N8.a1 N8.a0
def XF:YG:=e N8.a2 N8.a1 N8.a0
def XO:YG:=e N8.a3 N8.a1 N8.a0
def X6:YG:=e N8.a4 N8.a1 N8.a0
def XR:YG:=e N8.a5 N8.a1 N8.a0
def Wi:YG:=e N8.a6 N8.a1 N8.a0
def Wk:YG:=e N8.a7 N8.a1 N8.a0
def Ww:YG:=e N8.a0 N8.a2 N8.a0
def WW:YG:=e N8.a1 N8.a2 N8.a0
def WX:YG:=e N8.a2 N8.a2 N8.a0
def WC:YG:=e N8.a3 N8.a2 N8.a0
def VU:YG:=e N8.a4 N8.a2 N8.a0
def VJ:YG:=e N8.a5 N8.a2 N8.a0
def VK:YG:=e N8.a6 N8.a2 N8.a0
def Ui:YG:=e N8.a7 N8.a2 N8.a0
def V1:YG:=e N8.a0 N8.a3 N8.a0
def UY:YG:=e N8.a1 N8.a3 N8.a0
def UD:YG:=e N8.a2 N8.a3 N8.a0
def Uq:YG:=e N8.a3 N8.a3 N8.a0
def UE:YG:=e N8.a4 N8.a3 N8.a0
def VP:YG:=e N8.a5 N8.a3 N8.a0
def Sa:YG:=e N8.a6 N8.a3 N8.a0
def Sn:YG:=e N8.a7 N8.a3 N8.a0
def SP:YG:=e N8.a0 N8.a4 N8.a0
def RA:YG:=e N8.a1 N8.a4 N8.a0
def Rc:YG:=e N8.a2 N8.a4 N8.a0
def RB:YG:=e N8.a3 N8.a4 N8.a0
def RT:YG:=e N8.a4 N8.a4 N8.a0
def Q8:YG:=e N8.a5 N8.a4 N8.a0
def QM:YG:=e N8.a6 N8.a4 N8.a0
def Pu:YG:=e N8.a7 N8.a4 N8.a0
def QN:YG:=e N8.a0 N8.a5 N8.a0
def PO:YG:=e N8.a1 N8.a5 N8.a0
def QC:YG:=e N8.a2 N8.a5 N8.a0
def Pv:YG:=e N8.a3 N8.a5 N8.a0
def Qr:YG:=e N8.a4 N8.a5 N8.a0
def PP:YG:=e N8.a5 N8.a5 N8.a0
def P9:YG:=e N8.a6 N8.a5 N8.a0
def Q9:YG:=e N8.a7 N8.a5 N8.a0
def NF:YG:=e N8.a0 N8.a6 N8.a0
def NG:YG:=e N8.a1 N8.a6 N8.a0
def MB:YG:=e N8.a2 N8.a6 N8.a0
def RU:YG:=e N8.a3 N8.a6 N8.a0
def Md:YG:=e N8.a4 N8.a6 N8.a0
def Nm:YG:=e N8.a5 N8.a6 N8.a0
def Nn:YG:=e N8.a6 N8.a6 N8.a0
def Me:YG:=e N8.a7 N8.a6 N8.a0
def O1:YG:=e N8.a0 N8.a7 N8.a0
def MC:YG:=e N8.a1 N8.a7 N8.a0
def Ov:YG:=e N8.a2 N8.a7 N8.a0
def Lc:YG:=e N8.a3 N8.a7 N8.a0
def Mf:YG:=e N8.a4 N8.a7 N8.a0
def No:YG:=e N8.a5 N8.a7 N8.a0
def Mg:YG:=e N8.a6 N8.a7 N8.a0
def O2:YG:=e N8.a7 N8.a7 N8.a0
def MD:YG:=e N8.a0 N8.a0 N8.a1
def Np:YG:=e N8.a1 N8.a0 N8.a1
def Nq:YG:=e N8.a2 N8.a0 N8.a1
def Ld:YG:=e N8.a3 N8.a0 N8.a1
def Ko:YG:=e N8.a4 N8.a0 N8.a1
def Kp:YG:=e N8.a5 N8.a0 N8.a1
def Le:YG:=e N8.a6 N8.a0 N8.a1
def K4:YG:=e N8.a7 N8.a0 N8.a1
def Ow:YG:=e N8.a0 N8.a1 N8.a1
def K5:YG:=e N8.a1 N8.a1 N8.a1
def K6:YG:=e N8.a2 N8.a1 N8.a1
def ME:YG:=e N8.a3 N8.a1 N8.a1
def LC:YG:=e N8.a4 N8.a1 N8.a1
def Lf:YG:=e N8.a5 N8.a1 N8.a1
def Kq:YG:=e N8.a6 N8.a1 N8.a1
def Jz:YG:=e N8.a7 N8.a1 N8.a1
def HG:YG:=e N8.a0 N8.a2 N8.a1
def Cb:YG:=e N8.a1 N8.a2 N8.a1
def GS:YG:=e N8.a2 N8.a2 N8.a1
def GU:YG:=e N8.a3 N8.a2 N8.a1
def O3:YG:=e N8.a4 N8.a2 N8.a1
def IJ:YG:=e N8.a5 N8.a2 N8.a1
def Cc:YG:=e N8.a6 N8.a2 N8.a1
def K7:YG:=e N8.a7 N8.a2 N8.a1
def GV:YG:=e N8.a0 N8.a3 N8.a1
def Cd:YG:=e N8.a1 N8.a3 N8.a1
def Ce:YG:=e N8.a2 N8.a3 N8.a1
def Cf:YG:=e N8.a3 N8.a3 N8.a1
def JA:YG:=e N8.a4 N8.a3 N8.a1
def BY:YG:=e N8.a5 N8.a3 N8.a1
def zm:YG:=e N8.a6 N8.a3 N8.a1
def En:YG:=e N8.a7 N8.a3 N8.a1
def Eo:YG:=e N8.a0 N8.a4 N8.a1
def Lg:YG:=e N8.a1 N8.a4 N8.a1
def zn:YG:=e N8.a2 N8.a4 N8.a1
def BZ:YG:=e N8.a3 N8.a4 N8.a1
def Jx:YG:=e N8.a4 N8.a4 N8.a1
def MX:YG:=e N8.a5 N8.a4 N8.a1
def MY:YG:=e N8.a6 N8.a4 N8.a1
def GO:YG:=e N8.a7 N8.a4 N8.a1
def IW:YG:=e N8.a0 N8.a5 N8.a1
def KT:YG:=e N8.a1 N8.a5 N8.a1
def NA:YG:=e N8.a2 N8.a5 N8.a1
def Ly:YG:=e N8.a3 N8.a5 N8.a1
def Dj:YG:=e N8.a4 N8.a5 N8.a1
def BR:YG:=e N8.a5 N8.a5 N8.a1
def BT:YG:=e N8.a6 N8.a5 N8.a1
def Dk:YG:=e N8.a7 N8.a5 N8.a1
def Dl:YG:=e N8.a0 N8.a6 N8.a1
def KU:YG:=e N8.a1 N8.a6 N8.a1
def Dm:YG:=e N8.a2 N8.a6 N8.a1
def Dn:YG:=e N8.a3 N8.a6 N8.a1
def Do:YG:=e N8.a4 N8.a6 N8.a1
def BU:YG:=e N8.a5 N8.a6 N8.a1
def Dp:YG:=e N8.a6 N8.a6 N8.a1
def Dq:YG:=e N8.a7 N8.a6 N8.a1
def Lz:YG:=e N8.a0 N8.a7 N8.a1
def LA:YG:=e N8.a1 N8.a7 N8.a1
def BW:YG:=e N8.a2 N8.a7 N8.a1
def Dr:YG:=e N8.a3 N8.a7 N8.a1
def PN:YG:=e N8.a4 N8.a7 N8.a1
def yu:YG:=e N8.a5 N8.a7 N8.a1
def yv:YG:=e N8.a6 N8.a7 N8.a1
def yx:YG:=e N8.a7 N8.a7 N8.a1
def GP:YG:=e N8.a0 N8.a0 N8.a2
def GQ:YG:=e N8.a1 N8.a0 N8.a2
def yy:YG:=e N8.a2 N8.a0 N8.a2
def yz:YG:=e N8.a3 N8.a0 N8.a2
def KV:YG:=e N8.a4 N8.a0 N8.a2
def yA:YG:=e N8.a5 N8.a0 N8.a2
def IX:YG:=e N8.a6 N8.a0 N8.a2
def yB:YG:=e N8.a7 N8.a0 N8.a2
def uM:YG:=e N8.a0 N8.a1 N8.a2
def GR:YG:=e N8.a1 N8.a1 N8.a2
def uN:YG:=e N8.a2 N8.a1 N8.a2
def uO:YG:=e N8.a3 N8.a1 N8.a2
def uP:YG:=e N8.a4 N8.a1 N8.a2
def uQ:YG:=e N8.a5 N8.a1 N8.a2
def uR:YG:=e N8.a6 N8.a1 N8.a2
def nH:YG:=e N8.a7 N8.a1 N8.a2
def Ds:YG:=e N8.a0 N8.a2 N8.a2
def uS:YG:=e N8.a1 N8.a2 N8.a2
def yC:YG:=e N8.a2 N8.a2 N8.a2
def Jy:YG:=e N8.a3 N8.a2 N8.a2
def yD:YG:=e N8.a4 N8.a2 N8.a2
def yE:YG:=e N8.a5 N8.a2 N8.a2
def yF:YG:=e N8.a6 N8.a2 N8.a2
def yG:YG:=e N8.a7 N8.a2 N8.a2
def yH:YG:=e N8.a0 N8.a3 N8.a2
def yI:YG:=e N8.a1 N8.a3 N8.a2
def yJ:YG:=e N8.a2 N8.a3 N8.a2
def yK:YG:=e N8.a3 N8.a3 N8.a2
def BX:YG:=e N8.a4 N8.a3 N8.a2
def uT:YG:=e N8.a5 N8.a3 N8.a2
def nJ:YG:=e N8.a6 N8.a3 N8.a2
def nL:YG:=e N8.a7 N8.a3 N8.a2
def nM:YG:=e N8.a0 N8.a4 N8.a2
def nN:YG:=e N8.a1 N8.a4 N8.a2
def nO:YG:=e N8.a2 N8.a4 N8.a2
def LB:YG:=e N8.a3 N8.a4 N8.a2
def nP:YG:=e N8.a4 N8.a4 N8.a2
def nQ:YG:=e N8.a5 N8.a4 N8.a2
def nR:YG:=e N8.a6 N8.a4 N8.a2
def dP:YG:=e N8.a7 N8.a4 N8.a2
def dQ:YG:=e N8.a0 N8.a5 N8.a2
def dR:YG:=e N8.a1 N8.a5 N8.a2
def dS:YG:=e N8.a2 N8.a5 N8.a2
def dT:YG:=e N8.a3 N8.a5 N8.a2
def Dt:YG:=e N8.a4 N8.a5 N8.a2
def dU:YG:=e N8.a5 N8.a5 N8.a2
def dV:YG:=e N8.a6 N8.a5 N8.a2
def uU:YG:=e N8.a7 N8.a5 N8.a2
def uV:YG:=e N8.a0 N8.a6 N8.a2
def dW:YG:=e N8.a1 N8.a6 N8.a2
def dX:YG:=e N8.a2 N8.a6 N8.a2
def Du:YG:=e N8.a3 N8.a6 N8.a2
def dY:YG:=e N8.a4 N8.a6 N8.a2
def dZ:YG:=e N8.a5 N8.a6 N8.a2
def d9:YG:=e N8.a6 N8.a6 N8.a2
def ce:YG:=e N8.a7 N8.a6 N8.a2
def ci:YG:=e N8.a0 N8.a7 N8.a2
def cj:YG:=e N8.a1 N8.a7 N8.a2
def nS:YG:=e N8.a2 N8.a7 N8.a2
def Zfa:YG:=e N8.a3 N8.a7 N8.a2
def Zfb:YG:=e N8.a4 N8.a7 N8.a2
def Zjt:YG:=e N8.a5 N8.a7 N8.a2
def Zju:YG:=e N8.a6 N8.a7 N8.a2
def Zjv:YG:=e N8.a7 N8.a7 N8.a2
def st0:Yd:=d N8.u0 N8.u0 N8.u0
def st1:Yd:=d N8.u1 N8.u0 N8.u0
def st2:Yd:=d N8.u2 N8.u0 N8.u0
def Tc:Yd:=d N8.u3 N8.u0 N8.u0
def XL:Yd:=d N8.u4 N8.u0 N8.u0
def Vq:Yd:=d N8.u5 N8.u0 N8.u0
def VV:Yd:=d N8.u6 N8.u0 N8.u0
def Uu:Yd:=d N8.u7 N8.u0 N8.u0
def V2:Yd:=d N8.u0 N8.u1 N8.u0
def Ts:Yd:=d N8.u1 N8.u1 N8.u0
def Wj:Yd:=d N8.u2 N8.u1 N8.u0
def Wm:Yd:=d N8.u3 N8.u1 N8.u0
def WE:Yd:=d N8.u4 N8.u1 N8.u0
def WA:Yd:=d N8.u5 N8.u1 N8.u0
def W2:Yd:=d N8.u6 N8.u1 N8.u0
def W9:Yd:=d N8.u7 N8.u1 N8.u0
def W3:Yd:=d N8.u0 N8.u2 N8.u0
def Vm:Yd:=d N8.u1 N8.u2 N8.u0
def Vw:Yd:=d N8.u2 N8.u2 N8.u0
def V0:Yd:=d N8.u3 N8.u2 N8.u0
def Ue:Yd:=d N8.u4 N8.u2 N8.u0
def UU:Yd:=d N8.u5 N8.u2 N8.u0
def UV:Yd:=d N8.u6 N8.u2 N8.u0
def UZ:Yd:=d N8.u7 N8.u2 N8.u0
def UW:Yd:=d N8.u0 N8.u3 N8.u0
def Ti:Yd:=d N8.u1 N8.u3 N8.u0
def Tj:Yd:=d N8.u2 N8.u3 N8.u0
def U0:Yd:=d N8.u3 N8.u3 N8.u0
def Tk:Yd:=d N8.u4 N8.u3 N8.u0
def TP:Yd:=d N8.u5 N8.u3 N8.u0
def TW:Yd:=d N8.u6 N8.u3 N8.u0
def SU:Yd:=d N8.u7 N8.u3 N8.u0
def Rp:Yd:=d N8.u0 N8.u4 N8.u0
def RM:Yd:=d N8.u1 N8.u4 N8.u0
def QH:Yd:=d N8.u2 N8.u4 N8.u0
def QI:Yd:=d N8.u3 N8.u4 N8.u0
def Pe:Yd:=d N8.u4 N8.u4 N8.u0
def Pf:Yd:=d N8.u5 N8.u4 N8.u0
def QW:Yd:=d N8.u6 N8.u4 N8.u0
def Pw:Yd:=d N8.u7 N8.u4 N8.u0
def P3:Yd:=d N8.u0 N8.u5 N8.u0
def P4:Yd:=d N8.u1 N8.u5 N8.u0
def Oe:Yd:=d N8.u2 N8.u5 N8.u0
def QX:Yd:=d N8.u3 N8.u5 N8.u0
def Of:Yd:=d N8.u4 N8.u5 N8.u0
def OK:Yd:=d N8.u5 N8.u5 N8.u0
def Nd:Yd:=d N8.u6 N8.u5 N8.u0
def Nf:Yd:=d N8.u7 N8.u5 N8.u0
def Nx:Yd:=d N8.u0 N8.u6 N8.u0
def NN:Yd:=d N8.u1 N8.u6 N8.u0
def NO:Yd:=d N8.u2 N8.u6 N8.u0
def NQ:Yd:=d N8.u3 N8.u6 N8.u0
def MH:Yd:=d N8.u4 N8.u6 N8.u0
def Mu:Yd:=d N8.u5 N8.u6 N8.u0
def Mv:Yd:=d N8.u6 N8.u6 N8.u0
def MI:Yd:=d N8.u7 N8.u6 N8.u0
def Mw:Yd:=d N8.u0 N8.u7 N8.u0
def MJ:Yd:=d N8.u1 N8.u7 N8.u0
def Ln:Yd:=d N8.u2 N8.u7 N8.u0
def Lo:Yd:=d N8.u3 N8.u7 N8.u0
def MK:Yd:=d N8.u4 N8.u7 N8.u0
def Lq:Yd:=d N8.u5 N8.u7 N8.u0
def ML:Yd:=d N8.u6 N8.u7 N8.u0
def NR:Yd:=d N8.u7 N8.u7 N8.u0
def MM:Yd:=d N8.u0 N8.u0 N8.u1
def MN:Yd:=d N8.u1 N8.u0 N8.u1
def Lr:Yd:=d N8.u2 N8.u0 N8.u1
def Lt:Yd:=d N8.u3 N8.u0 N8.u1
def KH:Yd:=d N8.u4 N8.u0 N8.u1
def KI:Yd:=d N8.u5 N8.u0 N8.u1
def KJ:Yd:=d N8.u6 N8.u0 N8.u1
def Jb:Yd:=d N8.u7 N8.u0 N8.u1
def Jc:Yd:=d N8.u0 N8.u1 N8.u1
def Jd:Yd:=d N8.u1 N8.u1 N8.u1
def Je:Yd:=d N8.u2 N8.u1 N8.u1
def Jf:Yd:=d N8.u3 N8.u1 N8.u1
def J5:Yd:=d N8.u4 N8.u1 N8.u1
def IN:Yd:=d N8.u5 N8.u1 N8.u1
def Gg:Yd:=d N8.u6 N8.u1 N8.u1
def Gh:Yd:=d N8.u7 N8.u1 N8.u1
def Gi:Yd:=d N8.u0 N8.u2 N8.u1
def FJ:Yd:=d N8.u1 N8.u2 N8.u1
def FK:Yd:=d N8.u2 N8.u2 N8.u1
def FM:Yd:=d N8.u3 N8.u2 N8.u1
def FN:Yd:=d N8.u4 N8.u2 N8.u1
def Ch:Yd:=d N8.u5 N8.u2 N8.u1
def Ci:Yd:=d N8.u6 N8.u2 N8.u1
def Cj:Yd:=d N8.u7 N8.u2 N8.u1
def Ck:Yd:=d N8.u0 N8.u3 N8.u1
def Cl:Yd:=d N8.u1 N8.u3 N8.u1
def Cm:Yd:=d N8.u2 N8.u3 N8.u1
def Cn:Yd:=d N8.u3 N8.u3 N8.u1
def Co:Yd:=d N8.u4 N8.u3 N8.u1
def AQ:Yd:=d N8.u5 N8.u3 N8.u1
def zH:Yd:=d N8.u6 N8.u3 N8.u1
def Cp:Yd:=d N8.u7 N8.u3 N8.u1
def Cq:Yd:=d N8.u0 N8.u4 N8.u1
def AR:Yd:=d N8.u1 N8.u4 N8.u1
def AS:Yd:=d N8.u2 N8.u4 N8.u1
def AT:Yd:=d N8.u3 N8.u4 N8.u1
def J2:Yd:=d N8.u4 N8.u4 N8.u1
def J3:Yd:=d N8.u5 N8.u4 N8.u1
def I5:Yd:=d N8.u6 N8.u4 N8.u1
def I6:Yd:=d N8.u7 N8.u4 N8.u1
def I7:Yd:=d N8.u0 N8.u5 N8.u1
def I8:Yd:=d N8.u1 N8.u5 N8.u1
def I9:Yd:=d N8.u2 N8.u5 N8.u1
def J4:Yd:=d N8.u3 N8.u5 N8.u1
def FG:Yd:=d N8.u4 N8.u5 N8.u1
def AP:Yd:=d N8.u5 N8.u5 N8.u1
def DS:Yd:=d N8.u6 N8.u5 N8.u1
def DT:Yd:=d N8.u7 N8.u5 N8.u1
def DU:Yd:=d N8.u0 N8.u6 N8.u1
def DV:Yd:=d N8.u1 N8.u6 N8.u1
def DW:Yd:=d N8.u2 N8.u6 N8.u1
def DX:Yd:=d N8.u3 N8.u6 N8.u1
def DY:Yd:=d N8.u4 N8.u6 N8.u1
def DZ:Yd:=d N8.u5 N8.u6 N8.u1
def D0:Yd:=d N8.u6 N8.u6 N8.u1
def D1:Yd:=d N8.u7 N8.u6 N8.u1
def D2:Yd:=d N8.u0 N8.u7 N8.u1
def D3:Yd:=d N8.u1 N8.u7 N8.u1
def D4:Yd:=d N8.u2 N8.u7 N8.u1
def FH:Yd:=d N8.u3 N8.u7 N8.u1
def FI:Yd:=d N8.u4 N8.u7 N8.u1
def xD:Yd:=d N8.u5 N8.u7 N8.u1
def xE:Yd:=d N8.u6 N8.u7 N8.u1
def xF:Yd:=d N8.u7 N8.u7 N8.u1
def xG:Yd:=d N8.u0 N8.u0 N8.u2
def xH:Yd:=d N8.u1 N8.u0 N8.u2
def xI:Yd:=d N8.u2 N8.u0 N8.u2
def xJ:Yd:=d N8.u3 N8.u0 N8.u2
def xK:Yd:=d N8.u4 N8.u0 N8.u2
def xL:Yd:=d N8.u5 N8.u0 N8.u2
def xM:Yd:=d N8.u6 N8.u0 N8.u2
def xN:Yd:=d N8.u7 N8.u0 N8.u2
def rC:Yd:=d N8.u0 N8.u1 N8.u2
def rD:Yd:=d N8.u1 N8.u1 N8.u2
def rE:Yd:=d N8.u2 N8.u1 N8.u2
def rF:Yd:=d N8.u3 N8.u1 N8.u2
def rH:Yd:=d N8.u4 N8.u1 N8.u2
def rI:Yd:=d N8.u5 N8.u1 N8.u2
def rJ:Yd:=d N8.u6 N8.u1 N8.u2
def lQ:Yd:=d N8.u7 N8.u1 N8.u2
def lR:Yd:=d N8.u0 N8.u2 N8.u2
def rL:Yd:=d N8.u1 N8.u2 N8.u2
def xP:Yd:=d N8.u2 N8.u2 N8.u2
def xQ:Yd:=d N8.u3 N8.u2 N8.u2
def xR:Yd:=d N8.u4 N8.u2 N8.u2
def xS:Yd:=d N8.u5 N8.u2 N8.u2
def xT:Yd:=d N8.u6 N8.u2 N8.u2
def xU:Yd:=d N8.u7 N8.u2 N8.u2
def xV:Yd:=d N8.u0 N8.u3 N8.u2
def xW:Yd:=d N8.u1 N8.u3 N8.u2
def xX:Yd:=d N8.u2 N8.u3 N8.u2
def xY:Yd:=d N8.u3 N8.u3 N8.u2
def rM:Yd:=d N8.u4 N8.u3 N8.u2
def rN:Yd:=d N8.u5 N8.u3 N8.u2
def lS:Yd:=d N8.u6 N8.u3 N8.u2
def lU:Yd:=d N8.u7 N8.u3 N8.u2
def lV:Yd:=d N8.u0 N8.u4 N8.u2
def lW:Yd:=d N8.u1 N8.u4 N8.u2
def lX:Yd:=d N8.u2 N8.u4 N8.u2
def lY:Yd:=d N8.u3 N8.u4 N8.u2
def lZ:Yd:=d N8.u4 N8.u4 N8.u2
def kg:Yd:=d N8.u5 N8.u4 N8.u2
def kh:Yd:=d N8.u6 N8.u4 N8.u2
def ZaO:Yd:=d N8.u7 N8.u4 N8.u2
def ZaP:Yd:=d N8.u0 N8.u5 N8.u2
def ZaQ:Yd:=d N8.u1 N8.u5 N8.u2
def ZaR:Yd:=d N8.u2 N8.u5 N8.u2
def ZaS:Yd:=d N8.u3 N8.u5 N8.u2
def ZaT:Yd:=d N8.u4 N8.u5 N8.u2
def ZaU:Yd:=d N8.u5 N8.u5 N8.u2
def ZaV:Yd:=d N8.u6 N8.u5 N8.u2
def ZaW:Yd:=d N8.u7 N8.u5 N8.u2
def ZaX:Yd:=d N8.u0 N8.u6 N8.u2
def ZaY:Yd:=d N8.u1 N8.u6 N8.u2
def ZaZ:Yd:=d N8.u2 N8.u6 N8.u2
def Za0:Yd:=d N8.u3 N8.u6 N8.u2
def Za1:Yd:=d N8.u4 N8.u6 N8.u2
def Za2:Yd:=d N8.u5 N8.u6 N8.u2
def Za3:Yd:=d N8.u6 N8.u6 N8.u2
def Za4:Yd:=d N8.u7 N8.u6 N8.u2
def Za5:Yd:=d N8.u0 N8.u7 N8.u2
def Za6:Yd:=d N8.u1 N8.u7 N8.u2
def Za7:Yd:=d N8.u2 N8.u7 N8.u2
def ZfG:Yd:=d N8.u3 N8.u7 N8.u2
def ZfH:Yd:=d N8.u4 N8.u7 N8.u2
def Zlb:Yd:=d N8.u5 N8.u7 N8.u2
def Zlc:Yd:=d N8.u6 N8.u7 N8.u2
def Zld:Yd:=d N8.u7 N8.u7 N8.u2
end
end Go.AI
