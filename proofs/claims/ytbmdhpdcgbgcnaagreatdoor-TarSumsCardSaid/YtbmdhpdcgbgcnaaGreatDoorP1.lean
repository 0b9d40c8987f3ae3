/- The interpreter of my own for the model's code: its values, its operations, how code is compiled; definitions alone, no conditions. -/
import Derived.Calls
import GoSem.Step
set_option maxRecDepth 1000000
set_option maxHeartbeats 0
set_option linter.unusedVariables false
set_option linter.unusedSimpArgs false
namespace Go.AI
abbrev Ze:= @decide_eq_false
abbrev Zh:= @List.getD_eq_getElem?_getD
abbrev Zj:= @Nat.ble_eq_true_of_le
abbrev Zi:= @decide_eq_true
abbrev Zm:= @of_decide_eq_true
abbrev Zz:= @Nat.le_refl
abbrev Zp:= @List.getElem?_eq_getElem
abbrev Zl:= @List.length_cons
abbrev Zb:= @Nat.zero_add
abbrev Y1:= @List.take_of_length_le
abbrev ZE:= @List.mem_cons_self
abbrev Yk:= @Nat.lt_of_lt_of_le
abbrev Zk:= @List.length_append
abbrev ZQ:= @List.mem_cons_of_mem
abbrev Ye:= @Nat.eq_of_beq_eq_true
abbrev Yn:= @Nat.le_of_ble_eq_true
abbrev ZC:= @List.drop_zero
abbrev ZW:= @List.length_map
abbrev YH:= @Nat.mod_eq_of_lt
abbrev ZH:= @List.length_nil
abbrev YP:= @Nat.lt_succ_self
abbrev Ym:= @Array.getElem?_eq_some_iff
abbrev Zd:= @Nat.add_zero
abbrev ZD:= @List.mem_append
abbrev ZA:= @Nat.zero_le
abbrev YR:= @Nat.le_trans
abbrev Vq:= @Nat.add_sub_cancel
abbrev Ys:= @List.mem_cons
abbrev Xu:= @Nat.beq_refl
abbrev Sv:= @Bool.true_and
abbrev Ov:= @Bool.false_and
abbrev Y5:= @List.getElem?_eq_none
abbrev Z2:= @List.length_take
abbrev YE:= @Array.getElem?_toList
abbrev Yr:= @Array.getD_eq_getD_getElem?
abbrev XH:= @List.length_eq_zero_iff
abbrev YN:= @List.getElem?_append_left
abbrev Y4:= @Int.ofNat_eq_natCast
abbrev Sn:= @List.not_mem_nil
abbrev WU:= @List.cons_append
abbrev Wz:= @List.getElem_mem
abbrev W7:= @Nat.mul_le_mul_right
abbrev Tu:= @Nat.lt_of_le_of_lt
abbrev O5:= @Nat.le_of_lt
abbrev Sb:= @List.length_pos_iff
abbrev VX:= @Nat.sub_self
abbrev X7:= @Nat.mod_lt
abbrev UP:= @List.drop_eq_nil_of_le
abbrev Xb:= @List.getElem?_map
abbrev Xd:= @List.append_assoc
abbrev TV:= @Nat.not_lt_zero
abbrev KJ:= @List.getElem_of_mem
abbrev Zs:= @List.drop_succ_cons
abbrev Vh:= @List.take_length
abbrev ZT:= @Nat.lt_irrefl
abbrev Xf:= @Bool.and_eq_true
abbrev Zf:= @List.forall_mem_cons
abbrev Vo:= @Array.mem_of_getElem?
abbrev Y2:= @List.all_eq_true
abbrev Vg:= @List.getElem?_eq_some_iff
abbrev VM:= @Option.isSome_iff_exists
abbrev Xp:= @Array.getElem?_setIfInBounds
abbrev Vw:= @Bool.eq_iff_iff
abbrev XW:= @Bool.false_eq_true
abbrev RM:= @Nat.lt_succ_of_le
abbrev UJ:= @UInt8.toNat_inj
abbrev V4:= @UInt8.lt_iff_toNat_lt
abbrev Qd:= @Nat.pow_add
abbrev WR:= @Nat.min_eq_left
abbrev So:= @Nat.min_eq_right
abbrev X9:= @Nat.add_assoc
abbrev W3:= @List.extract_eq_take_drop
abbrev Tb:= @List.mem_of_mem_drop
abbrev Ui:= @List.mem_of_mem_take
abbrev Vp:= @Int.toNat_natCast
abbrev XM:= @Nat.mul_one
abbrev XI:= @Option.map_some
abbrev WG:= @Array.getElem?_modify
abbrev W2:= @Array.getElem?_eq_getElem
abbrev VG:= @List.mem_of_getElem?
abbrev Wq:= @List.getElem?_toArray
abbrev Wp:= @List.getElem?_replicate
abbrev Ww:= @List.replicate_succ
abbrev Vc:= @List.foldl_cons
abbrev XP:= @List.ext_getElem?
abbrev YY:= @List.getElem?_append_right
abbrev XN:= @List.getElem?_drop
abbrev ZB:= @List.map_cons
abbrev U8:= @Bool.or_eq_true
abbrev WD:= @List.flatten_cons
abbrev WH:= @Nat.add_mul
abbrev Re:= @Array.toList_map
abbrev VF:= @List.getElem?_range
abbrev Xq:= @List.mem_map
abbrev U9:= @List.map_replicate
abbrev Vi:= @Nat.zero_mul
abbrev Vr:= @Nat.le_succ
abbrev SN:= @Nat.div_add_mod
abbrev VB:= @Nat.mul_comm
abbrev Wy:= @Option.map_none
abbrev Qs:= @Nat.zero_div
abbrev RT:= @Nat.div_lt_iff_lt_mul
abbrev Uc:= @List.getElem?_cons_zero
abbrev Tk:= @List.getElem?_cons_succ
abbrev ZI:= @Bool.not_false
abbrev SP:= @Nat.le_mul_of_pos_right
abbrev ZN:= @Bool.not_true
abbrev Tc:= @List.mem_range
abbrev XU:= @Nat.add_sub_cancel_left
abbrev Qb:= @Nat.div_one
abbrev RR:= @Bool.and_eq_true_iff
abbrev Sc:= @List.map_map
abbrev Sd:= @List.pairwise_cons
abbrev ZG:= @List.map_nil
abbrev Tx:= @List.mem_map_of_mem
abbrev Zv:= @List.mem_singleton
abbrev Ux:= @Array.getElem?_setIfInBounds_ne
abbrev TU:= @List.range'_succ
abbrev Ta:= @List.mem_filterMap
abbrev Ru:= @List.range_eq_range'
abbrev Tt:= @List.mem_filter
abbrev U5:= @List.filter_cons
abbrev Xm:= @Array.mem_toList_iff
abbrev Zn:= @List.nil_append
abbrev Qc:= @Nat.one_mul
abbrev TS:= @List.drop_drop
abbrev Uy:= @Option.map_eq_some_iff
abbrev Qp:= @Nat.div_lt_of_lt_mul
abbrev Wn:= @List.map_append
abbrev SO:= @Nat.div_le_self
abbrev XE:= @List.getElem?_take_of_lt
abbrev Xt:= @List.length_drop
abbrev Z5:= @List.length_replicate
abbrev UG:= @List.set_cons_succ
abbrev U6:= @List.length_tail
abbrev Wx:= @List.length_set
abbrev Zo:= @List.append_nil
abbrev Uj:= @List.take_add_one
abbrev Uk:= @UInt8.toNat_ofNat'
abbrev VC:= @Nat.pow_succ
abbrev RU:= @Nat.pow_le_pow_right
abbrev TT:= @List.drop_left
abbrev Qq:= @Nat.sub_zero
abbrev UQ:= @List.flatten_append
abbrev Zq:= @List.getD_cons_zero
abbrev Zt:= @List.take_succ_cons
abbrev ZF:= @List.take_zero
abbrev Zy:= @List.getD_cons_succ
abbrev UR:= @Nat.div_div_eq_div_mul
abbrev Qr:= @Nat.succ_pos
abbrev Rt:= @List.mem_iff_getElem
abbrev Rr:= @List.getElem?_append
abbrev SM:= @List.take_left
abbrev RS:= @List.getElem?_set_ne
end Go.AI
namespace Go.AI
open Go
noncomputable section
structure N8(α:Type) where
 a0:α
 a1:α
 a2:α
 a3:α
 a4:α
 a5:α
 a6:α
 a7:α
namespace N8
variable {α:Type}
def u0(f:α->α)(n:N8 α):N8 α:=N8.rec (λa b c d e g h i=>⟨f a,b,c,d,e,g,h,i⟩) n
def u1(f:α->α)(n:N8 α):N8 α:=N8.rec (λa b c d e g h i=>⟨a,f b,c,d,e,g,h,i⟩) n
def u2(f:α->α)(n:N8 α):N8 α:=N8.rec (λa b c d e g h i=>⟨a,b,f c,d,e,g,h,i⟩) n
def u3(f:α->α)(n:N8 α):N8 α:=N8.rec (λa b c d e g h i=>⟨a,b,c,f d,e,g,h,i⟩) n
def u4(f:α->α)(n:N8 α):N8 α:=N8.rec (λa b c d e g h i=>⟨a,b,c,d,f e,g,h,i⟩) n
def u5(f:α->α)(n:N8 α):N8 α:=N8.rec (λa b c d e g h i=>⟨a,b,c,d,e,f g,h,i⟩) n
def u6(f:α->α)(n:N8 α):N8 α:=N8.rec (λa b c d e g h i=>⟨a,b,c,d,e,g,f h,i⟩) n
def u7(f:α->α)(n:N8 α):N8 α:=N8.rec (λa b c d e g h i=>⟨a,b,c,d,e,g,h,f i⟩) n
def all(x:α):N8 α:=⟨x,x,x,x,x,x,x,x⟩
def proj(i:Nat):N8 α->α:=match i with|0=>a0|1=>a1|2=>a2|3=>a3|4=>a4|5=>a5|6=>a6|_=>a7
def upd(i:Nat):(α->α)->N8 α->N8 α:=match i with|0=>u0|1=>u1|2=>u2|3=>u3|4=>u4|5=>u5|6=>u6|_=>u7
end N8
inductive T(α:Type) where
 |leaf
 |node (l:T α) (v:Option α) (r:T α)
def Kr(f:Nat):Nat->List Bool:= @Nat.rec (λ_=>Nat->List Bool) (λ_=>[]) (λ_ ih n=> @Bool.rec (λ_=>List Bool) (@Bool.rec (λ_=>List Bool) (false::ih (Nat.sub (Nat.div n 2) 1)) (true::ih (Nat.div n 2)) (Nat.beq (Nat.mod n 2) 1)) [] (Nat.beq n 0)) f
def bits(n:Nat):List Bool:=Kr n n
namespace T
variable {α:Type}
def getB(t:T α):List Bool->Option α:=
 @T.rec α (λ_=>List Bool->Option α) (λ_=>none) (λ_ v _ gl gr bs=> @List.rec Bool (λ_=>Option α) v (λb bs _=> @Bool.rec (λ_=>Option α) (gr bs) (gl bs) b) bs) t
def single(x:α)(bs:List Bool):T α:= @List.rec Bool (λ_=>T α) (node leaf (some x) leaf) (λb _ ih=> @Bool.rec (λ_=>T α) (node leaf none ih) (node ih none leaf) b) bs
def setB(x:α)(t:T α):List Bool->T α:=
 @T.rec α (λ_=>List Bool->T α) (λbs=>single x bs) (λl v r sl sr bs=> @List.rec Bool (λ_=>T α) (node l (some x) r) (λb bs _=> @Bool.rec (λ_=>T α) (node l v (sr bs)) (node (sl bs) v r) b) bs) t
def delB(t:T α):List Bool->T α:=
 @T.rec α (λ_=>List Bool->T α) (λ_=>leaf) (λl v r sl sr bs=> @List.rec Bool (λ_=>T α) (node l none r) (λb bs _=> @Bool.rec (λ_=>T α) (node l v (sr bs)) (node (sl bs) v r) b) bs) t
def get(t:T α)(n:Nat):Option α:=getB t (bits n)
def set(t:T α)(n:Nat)(x:α):T α:=setB x t (bits n)
def del(t:T α)(n:Nat):T α:=delB t (bits n)
def U7:List α->List α
 |[]=>[]
 |[x]=>[x]
 |x::_::l=>x::U7 l
def TC:Nat->List α->T α
 |0,_=>leaf
 |_+1,[]=>leaf
 |f+1,x::l=>node (TC f (U7 l)) (some x) (TC f (U7 l.tail))
def ZeL(l:List α):Nat:=List.rec 0 (λ_ _ n=>Nat.succ n) l
def ofList(l:List α):T α:=TC (ZeL l) l
end T
inductive AV where
 |unk
 |bool (b:Bool)
 |int (k:IntKind) (n:Int)
 |str (s:List UInt8)
 |nilp
 |ptr (b o:Nat)
 |nils
 |slice (b o len:Nat) (cap:Option Nat)
 |slice0
 |nilm
 |map (b:Nat)
 |func (f:Nat) (first caps:List AV)
 |meth (name:String) (recv:AV)
 |yield (b:Nat)
 |nilf
 |iface (t:Nat) (v:AV)
 |nili
 |agg (cs:List AV)
 |tup (vs:List AV)
 deriving Inhabited
def AV.cells(v:AV):List AV:=
 AV.casesOn v [] (λb=>[.bool b]) (λk n=>[.int k n]) (λs=>[.str s]) [.nilp] (λb o=>[.ptr b o]) [.nils] (λb o l c=>[.slice b o l c]) [.slice0] [.nilm] (λb=>[.map b])
  (λf a b=>[.func f a b]) (λn r=>[.meth n r]) (λb=>[.yield b]) [.nilf] (λt v=>[.iface t v]) [.nili] (λcs=>cs) (λ_=>[])
structure Row where
 elem:Nat
 sz:Nat
 size:Nat
 cells:T AV
 dflt:AV
 fz:Nat
 sm:Bool
 own:Bool
 exact:Bool
structure Sy where
 key:AV
 val:AV
 born:Nat
inductive Obj where
 |row (r:Row)
 |map (es:List Sy) (clock:Nat)
 |siter (s:List UInt8) (pos:Nat)
 |miter (m:Option Nat) (since:Nat) (cur:Option (Nat×Nat))
 |loop
 |cmap (es:List Sy)
structure Heap where
 nx:Nat
 t:T Obj
 ro:Nat
def Row.get(r:Row)(i:Nat):AV:=Option.rec r.dflt (λv=>v) (r.cells.get i)
def Row.setCells(r:Row)(t:T AV):Row:=⟨r.elem,r.sz,r.size,t,r.dflt,r.fz,r.sm,r.own,r.exact⟩
def Heap.put(H:Heap)(b:Nat)(o:Obj):Heap:=⟨H.nx,H.t.set b o,H.ro⟩
def Heap.new(H:Heap)(o:Obj):Heap:=⟨Nat.succ H.nx,H.t.set H.nx o,H.ro⟩
inductive OR2 where
 |fail
 |call (f:Nat) (args:List AV) (H:Heap)
 |yield (b:Nat) (args:List AV) (H:Heap)
 |pan (v:AV) (H:Heap)
 |recov
 |defer (f:AV) (args:List AV)
inductive OR where
 |val (v:AV) (H:Heap)
 |oth (o:OR2)
abbrev OR.fail:OR:=.oth .fail
abbrev TM:=N8 (N8 (N8 AV))
abbrev Vu:=TM->Heap->OR
abbrev YF:=TM->AV
abbrev Yh:=TM->AV->TM
def e(f:N8 AV->AV)(g:N8 (N8 AV)->N8 AV)(h:TM->N8 (N8 AV)):YF:=λtm=>f (g (h tm))
def k(v:AV):YF:=λ_=>v
def d(f:(AV->AV)->N8 AV->N8 AV)(g:(N8 AV->N8 AV)->N8 (N8 AV)->N8 (N8 AV))(h:(N8 (N8 AV)->N8 (N8 AV))->TM->TM):Yh:=λtm v=>h (g (f (λ_=>v))) tm
def d0:Yh:=λtm _=>tm
def Sm(n:Nat):YF:=e (N8.proj (n % 8)) (N8.proj (n/8 % 8)) (N8.proj (n/64))
def Pq(n:Nat):Yh:=d (N8.upd (n % 8)) (N8.upd (n/8 % 8)) (N8.upd (n/64))
def u8:N8 AV:=N8.all .unk
def u64:N8 (N8 AV):=N8.all u8
def NZ:TM:=N8.all u64
def TX{α:Type}(a:Nat)(k:Nat->α):α:=Nat.rec (k 0) (λp _=>k (Nat.succ p)) a
def PW{α:Type}(n:Int)(k:Int->α):α:=Int.rec (λa=>TX a λa=>k (.ofNat a)) (λa=>TX a λa=>k (.negSucc a)) n
def v7(a b:Int):Int:=Int.rec (λx=>Int.rec (λy=>.ofNat (Nat.add x y)) (λ_=>a+b) b) (λ_=>a+b) a
def FD(a b:Int):Int:=Int.rec (λx=>Int.rec (λy=>cond (Nat.ble y x) (.ofNat (Nat.sub x y)) (a - b)) (λ_=>a - b) b) (λ_=>a - b) a
def zi(a b:Int):Int:=Int.rec (λx=>Int.rec (λy=>.ofNat (Nat.mul x y)) (λ_=>a*b) b) (λ_=>a*b) a
def ZbV(a b:Int):Int:=Int.rec (λx=>Int.rec (λy=>.ofNat (Nat.div x y)) (λ_=>a.tdiv b) b) (λ_=>a.tdiv b) a
def ZbW(a b:Int):Int:=Int.rec (λx=>Int.rec (λy=>.ofNat (Nat.mod x y)) (λ_=>a.tmod b) b) (λ_=>a.tmod b) a
def xk(a b:Int):Bool:=Int.rec (λx=>Int.rec (λy=>Nat.ble (Nat.succ x) y) (λ_=>false) b) (λx=>Int.rec (λ_=>true) (λy=>Nat.ble (Nat.succ y) x) b) a
def GW(a b:Int):Bool:=Int.rec (λx=>Int.rec (λy=>Nat.beq x y) (λ_=>false) b) (λx=>Int.rec (λ_=>false) (λy=>Nat.beq x y) b) a
def AE(k:IntKind)(m:Nat)(n:Int):Int:=Int.rec (λa=>cond (Nat.ble m a) (.ofNat (Nat.mod a m)) (.ofNat a)) (λ_=>k.wrap n) n
def vh(k:IntKind)(h:Nat)(n:Int):Int:=Int.rec (λa=>cond (Nat.ble h a) (k.wrap n) (.ofNat a)) (λa=>cond (Nat.ble h a) (k.wrap n) n) n
def ZaF(k:IntKind)(n:Int):Int:=
 IntKind.rec (vh .i8 128 n) (vh .i16 32768 n) (vh .i32 2147483648 n) (vh .i64 9223372036854775808 n) (AE .u8 256 n) (AE .u16 65536 n) (AE .u32 4294967296 n) (AE .u64 18446744073709551616 n) k
def UC(k:IntKind):Nat:=IntKind.rec 256 65536 4294967296 18446744073709551616 256 65536 4294967296 18446744073709551616 k
def UK(m:Nat)(n:Int):Nat:=Int.rec (λa=>Nat.mod a m) (λa=>Nat.sub (Nat.sub m 1) (Nat.mod a m)) n
def PR(a b:IntKind):Bool:=Nat.beq a.ctorIdx b.ctorIdx
def Qh(v:AV)(k:IntKind->Int->OR):OR:=match v with|.int a b=>k a b|_=>.fail
def T8(v:AV)(k:Nat->OR):OR:=match v with|.int _ (.ofNat b)=>k b|_=>.fail
def HL(v:AV)(k:Bool->OR):OR:=match v with|.bool b=>k b|_=>.fail
def PL(v:AV)(k:List UInt8->OR):OR:=match v with|.str s=>k s|_=>.fail
def Rq(v:AV)(k:Nat->Nat->OR):OR:=match v with|.ptr b o=>k b o|_=>.fail
def G4(v:AV)(k:List AV->OR):OR:=match v with|.agg cs=>k cs|_=>.fail
def rO(v:AV)(k:List AV->OR):OR:=match v with|.tup cs=>k cs|_=>.fail
def QI(v:AV)(n:OR)(k:Nat->AV->OR):OR:=match v with|.iface t x=>k t x|.nili=>n|_=>.fail
def TD(v:AV)(n:OR)(k:Nat->Nat->Nat->Option Nat->OR):OR:=match v with|.slice b o l c=>k b o l c|.nils=>n|_=>.fail
def cN(v:AV)(z n:OR):OR:=match v with|.slice0=>z|_=>n
def Dv(v:AV)(n:OR)(k:Nat->OR):OR:=match v with|.map b=>k b|.nilm=>n|_=>.fail
def KD(H:Heap)(b:Nat)(k:Obj->OR):OR:=match H.t.get b with|some o=>k o|none=>.fail
def XA(H:Heap)(b:Nat)(k:Row->OR):OR:=match H.t.get b with|some (.row r)=>k r|_=>.fail
def TK{α:Type}(x:Option α)(k:α->OR):OR:=match x with|some a=>k a|none=>.fail
def Yb(b:Bool)(k:OR):OR:=cond b k .fail
def I3(a b:UInt8):Bool:=Nat.beq a.toNat b.toNat
def LU:List UInt8->List UInt8->Bool
 |[],[]=>true
 |a::x,b::y=>cond (I3 a b) (LU x y) false
 |_,_=>false
def Xl:List UInt8->List UInt8->Bool
 |_,[]=>false
 |[],_::_=>true
 |a::x,b::y=>cond (Nat.ble (Nat.succ a.toNat) b.toNat) true (cond (I3 a b) (Xl x y) false)
def W9(r:Row)(o:Nat):Nat->List AV
 |0=>[]
 |n+1=>r.get o::W9 r (Nat.succ o) n
def WO(c:T AV):Nat->List AV->T AV
 |_,[]=>c
 |o,v::l=>WO (c.set o v) (Nat.succ o) l
def Xa{α:Type}(l:List α):Nat:=List.rec 0 (λ_ _ n=>Nat.succ n) l
def Ib:List AV->Nat->Option AV
 |[],_=>none
 |v::_,0=>some v
 |_::l,n+1=>Ib l n
def xJ:List UInt8->Nat->Option UInt8
 |[],_=>none
 |v::_,0=>some v
 |_::l,n+1=>xJ l n
def Heap.newRow(H:Heap)(elem sz:Nat)(cs:List AV)(exact:Bool):Heap:=
 H.new (.row ⟨elem,sz,Xa cs,T.ofList cs,.unk,0,false,true,exact⟩)
def Heap.may(H:Heap)(r:Row)(b:Nat):Bool:=cond r.own (Nat.ble H.ro b) false
section
variable (x y z:YF)
def Z4:Vu:=λtm H=>.val (x tm) H
def ZiT:Vu:=λtm H=>PL (x tm) λs=>.val (.str s) H
def Xn:Vu:=λtm H=>HL (x tm) λb=>.val (cond b (y tm) (z tm)) H
def V9(e:Nat)(cs:List AV):Vu:=λ_ H=>Yb (Nat.ble 1 (Xa cs))<|.val (.ptr H.nx 0) (H.newRow e 1 cs true)
def Mf(e n:Nat)(v:AV):Vu:=λ_ H=>.val (.ptr H.nx 0) (H.new (.row ⟨e,1,n,.leaf,v,0,false,true,true⟩))
def Ko(e:Nat):Vu:=λtm H=>Yb (Nat.ble 1 (Xa (x tm).cells))<|.val (.ptr H.nx 0) (H.newRow e 1 (x tm).cells true)
end
structure AJ where
 off:Nat
 sz:Nat
 x:YF
def PQ:Nat->List AV->List AV
 |0,_=>[]
 |_+1,[]=>[]
 |n+1,v::l=>v::PQ n l
def QY:Nat->List AV->List AV
 |0,l=>l
 |_+1,[]=>[]
 |n+1,_::l=>QY n l
def Bb(tm:TM)(k:List AV->OR):List AJ->List AV->OR:=λps=>
 List.rec (λcells=>k cells) (λp _ ih cells=>
  Yb (Nat.ble 1 p.sz)<|Yb (Nat.beq (Xa (p.x tm).cells) p.sz) (Yb (Nat.ble (Nat.add p.off p.sz) (Xa cells)) (ih (PQ p.off cells++((p.x tm).cells++QY (Nat.add p.off p.sz) cells))))) ps
def Vz(zs:List AV)(ps:List AJ):Vu:=λtm H=>Yb (Nat.ble 1 (Xa zs))<|Bb tm (λcs=>.val (.agg cs) H) ps zs
def VV(e sz n:Nat)(zs:List AV)(ps:List AJ):Vu:=λtm H=>Yb (Nat.ble 1 sz)<|Yb (Nat.beq (Xa zs) (Nat.mul n sz))<|Bb tm (λcs=>.val (.slice H.nx 0 n none) (H.newRow e sz cs true)) ps zs
section
variable (x y z:YF)
def Yz:Vu:=λtm H=>Rq (x tm) λb o=>XA H b λr=>Yb (Nat.ble (Nat.succ o) r.size) (.val (r.get o) H)
def To(n:Nat):Vu:=λtm H=>Rq (x tm) λb o=>XA H b λr=>Yb (Nat.ble (Nat.add o n) r.size) (.val (.agg (W9 r o n)) H)
def XL:AV:=.tup []
def Xr(n:Nat):Vu:=λtm H=>Rq (x tm) λb o=>XA H b λr=>
 Yb (Nat.ble 1 n)<|Yb (H.may r b) (Yb (Nat.ble (Nat.add o n) r.size) (Yb (Nat.ble r.fz o) (Yb (Nat.beq (Xa (y tm).cells) n)
  (.val XL (H.put b (.row (r.setCells (WO r.cells o (y tm).cells))))))))
def zJ(v:AV)(k:OR):OR:=match v with|.ptr .. |.func .. |.iface .. |.yield _=>k|_=>.fail
def UL:Vu:=λtm H=>zJ (x tm) (.val (x tm) H)
def Ts(k:IntKind)(n:Int)(H:Heap):OR:=PW (ZaF k n) λn=>.val (.int k n) H
def HA(x y:AV)(k:IntKind->Int->Int->OR):OR:=Qh x λj a=>Qh y λl b=>Yb (PR j l) (k j a b)
def Vv:Vu:=λtm H=>HA (x tm) (y tm) λk a b=>Ts k (FD a b) H
def PJ:Vu:=λtm H=>HA (x tm) (y tm) λk a b=>Ts k (zi a b) H
def Ja:Vu:=λtm H=>HA (x tm) (y tm) λk a b=>cond (GW b 0) .fail (Ts k (ZbV a b) H)
def FE:Vu:=λtm H=>HA (x tm) (y tm) λk a b=>cond (GW b 0) .fail (PW (ZbW a b) λn=>.val (.int k n) H)
def Q0(f:Nat->Nat->Nat->Nat):Vu:=λtm H=>HA (x tm) (y tm) λk a b=>Ts k (.ofNat (f (UC k) (UK (UC k) a) (UK (UC k) b))) H
def Ro(_ a b:Nat):Nat:=Nat.land a b
def Cp(_ a b:Nat):Nat:=Nat.lor a b
def CI(_ a b:Nat):Nat:=Nat.xor a b
def Jv(m a b:Nat):Nat:=Nat.land a (Nat.sub (Nat.sub m 1) b)
def cu:Vu:=λtm H=>Qh (x tm) λk a=>T8 (y tm) λb=>Ts k (zi a (.ofNat (Nat.pow 2 (cond (Nat.ble b 64) b 64)))) H
def Zb0(a:Int)(b:Nat):Int:=Int.rec (λx=>.ofNat (Nat.div x (Nat.pow 2 b))) (λx=>.negSucc (Nat.div x (Nat.pow 2 b))) a
def si(k:IntKind):Nat:=IntKind.rec 8 16 32 64 8 16 32 64 k
def OZ(a b:Nat):Nat:=cond (Nat.ble a b) a b
def Lz:Vu:=λtm H=>Qh (x tm) λk a=>T8 (y tm) λb=>PW (Zb0 a (OZ b (si k))) λn=>.val (.int k n) H
def SF(b:Bool)(H:Heap):OR:=cond b (.val (.bool true) H) (.val (.bool false) H)
def Y8(f:Int->Int->Bool)(g:List UInt8->List UInt8->Bool):Vu:=λtm H=>match x tm with
 |.int j a=>Qh (y tm) λl b=>Yb (PR j l) (SF (f a b) H)
 |.str a=>PL (y tm) λb=>SF (g a b) H
 |_=>.fail
def Wd(a b:Int):Bool:=xk a b
def QV(a b:Int):Bool:=!xk b a
def Tq(a b:Int):Bool:=xk b a
def Tp(a b:Int):Bool:=!xk a b
def Vn(a b:List UInt8):Bool:=Xl b a
def WT(a b:List UInt8):Bool:=!Xl a b
def TN(a b:List UInt8):Bool:=!Xl b a
def Xk:Vu:=λtm H=>match x tm with
 |.int j a=>Qh (y tm) λl b=>Yb (PR j l) (Ts j (v7 a b) H)
 |.str a=>PL (y tm) λb=>Yb (Nat.ble (Nat.add (Xa a) (Xa b)) 4611686018427387904) (.val (.str (a++b)) H)
 |_=>.fail
def VU(a b:AV):Option Bool:=match a,b with|.int j a,.int k b=>cond (PR j k) (some (GW a b)) none|_,_=>none
def Mw(a b:AV):Option Bool:=match a,b with|.str a,.str b=>some (LU a b)|_,_=>none
def nN(a b:AV):Option Bool:=match a,b with|.bool a,.bool b=>some (cond a b (cond b false true))|_,_=>none
def yS(a b:AV):Option Bool:=match a,b with
 |.nilp,.nilp=>some true
 |.nilp,.ptr .. =>some false
 |.ptr ..,.nilp=>some false
 |.ptr b o,.ptr c p=>cond (Nat.beq b c) (some (Nat.beq o p)) none
 |_,_=>none
def qG(a b:AV):Option Bool:=match a,b with|.nils,.nils=>some true|.nils,.slice .. =>some false|.slice ..,.nils=>some false|.nils,.slice0=>some false|.slice0,.nils=>some false|_,_=>none
def eqM(a b:AV):Option Bool:=match a,b with|.nilm,.nilm=>some true|.nilm,.map _=>some false|.map _,.nilm=>some false|_,_=>none
def eqN(a b:AV):Option Bool:=match a,b with|.nilf,.nilf=>some true|.nilf,.func .. =>some false|.func ..,.nilf=>some false|_,_=>none
def qF(lit:Bool)(g:Nat->AV->AV->Option Bool)(a b:AV):Option Bool:=match a,b with
 |.nili,.nili=>cond lit (some true) none
 |.nili,.iface .. =>some false
 |.iface ..,.nili=>some false
 |.iface t v,.iface u w=>cond (Nat.beq t u) (g t v w) (some false)
 |_,_=>none
def eqC(P:Program)(f:Nat->AV->AV->Option Bool)(t:Nat)(v w:AV):Option Bool:=match P.info? t with|some i=>cond i.comparable (f t v w) none|none=>none
def ZaL(P:Program)(t:Nat):Option Bool:=match P.underlying t with|some (.struct _)|some (.array _ _)=>some true|some _=>some false|none=>none
def B1(P:Program)(t:Nat)(cs:List AV)(off:Nat)(k:AV->Option Bool):Option Bool:=match P.info? t,ZaL P t with
 |some i,some ag=>cond ag (k (.agg (PQ i.size (QY off cs)))) (match Ib cs off with|some v=>k v|none=>none)
 |_,_=>none
def gZ(r:Option Bool)(k:Option Bool):Option Bool:=match r with|some b=>cond b k (some false)|none=>none
def JL(P:Program)(f:AV->AV->Option Bool)(e c:Nat)(l m:List AV):List Nat->Option Bool
 |[]=>some true
 |i::is=>B1 P e l (i*c) λa=>B1 P e m (i*c) λb=>gZ (f a b) (JL P f e c l m is)
def Oi(P:Program)(g:Nat->AV->AV->Option Bool)(l m:List AV):List Field->Option Bool
 |[]=>some true
 |f::fs=>cond (f.name== "_") (Oi P g l m fs) (B1 P f.type l f.offset λa=>B1 P f.type m f.offset λb=>gZ (g f.type a b) (Oi P g l m fs))
def vp(a b:AV)(k:List AV->List AV->Option Bool):Option Bool:=match a,b with|.agg l,.agg m=>k l m|_,_=>none
def eqD(P:Program)(lit:Bool)(g:Nat->AV->AV->Option Bool)(t:Nat)(a b:AV)(d:TypeDesc):Option Bool:=match d with
 |.bool=>nN a b
 |.int _=>VU a b
 |.string=>Mw a b
 |.pointer e=>match P.info? e with|some i=>cond (Nat.beq i.size 0) none (yS a b)|none=>none
 |.slice _=>qG a b
 |.map _ _=>eqM a b
 |.func _ _ _=>eqN a b
 |.interface _=>qF lit (eqC P g) a b
 |.array n e=>vp a b λl m=>match P.info? e with|some i=>JL P (g e) e i.size l m (List.range n)|none=>none
 |.struct fs=>cond (P.stoodInHeld t) none (vp a b λl m=>Oi P g l m fs.toList)
 |_=>none
def gG(P:Program):Nat->Nat->AV->AV->Option Bool
 |0,_,_,_=>none
 |d+1,t,a,b=>match P.underlying t with|some u=>eqD P true (gG P d) t a b u|none=>none
def VD(f:AV->AV->Option Bool)(neg:Bool):Vu:=λtm H=>TK (f (x tm) (y tm)) λb=>SF (cond neg (cond b false true) b) H
def Qm:Vu:=λtm H=>HL (x tm) λb=>.val (.bool (cond b false true)) H
def zP:Vu:=λtm H=>Qh (x tm) λk a=>Ts k (FD 0 a) H
def ju:Vu:=λtm H=>Qh (x tm) λk a=>Ts k (.ofNat (Nat.sub (Nat.sub (UC k) 1) (UK (UC k) a))) H
def Sg(k:IntKind):Vu:=λtm H=>Qh (x tm) λ_ a=>Ts k a H
def HF:List UInt8->List AV
 |[]=>[]
 |b::l=>.int .u8 (.ofNat b.toNat)::HF l
def Dm(e:Nat):Vu:=λtm H=>PL (x tm) λs=>.val (.slice H.nx 0 (Xa s) none) (H.new (.row ⟨e,1,Xa s,T.ofList (HF s),.unk,0,true,true,false⟩))
def Pu(k:List UInt8->OR):List AV->OR
 |[]=>k []
 |v::l=>match v with|.int .u8 (.ofNat n)=>Pu (λs=>k (UInt8.ofNat n::s)) l|_=>.fail
def xT:Vu:=λtm H=>cN (x tm) (.val (.str []) H)<|TD (x tm) (.val (.str []) H) λb o n _=>cond (Nat.beq n 0) (.val (.str []) H) (XA H b λr=>Yb (Nat.ble (Nat.add o n) r.size) (Pu (λs=>.val (.str s) H) (W9 r o n)))
def BY:Vu:=λtm H=>match x tm with
 |.nilp=>.val .nilp H
 |.ptr b o=>XA H b λr=>Yb (Nat.ble (Nat.succ o) r.size) (.val (.ptr b o) H)
 |_=>.fail
def BX(u n:Nat):Vu:=λtm H=>match x tm with
 |.nilp=>.val .nilp H
 |.ptr b o=>XA H b λr=>Yb r.exact (Yb (Nat.beq r.elem u) (Yb (Nat.beq o 0) (Yb (Nat.ble n r.size) (.val (.ptr b o) H))))
 |_=>.fail
def BW:Vu:=λtm H=>TD (x tm) .fail λb _ _ _=>XA H b λr=>Yb (cond r.sm false (H.may r b))<|Yb (Nat.beq r.fz 0)<|.val (x tm) (H.put b (.row ⟨r.elem,r.sz,r.size,r.cells,r.dflt,r.fz,true,r.own,r.exact⟩))
def rF:Vu:=λtm H=>Qh (x tm) λ_ n=>.val (.str (Utf8.encode n).data.toList) H
def Pn(t:Nat):Vu:=λtm H=>.val (.iface t (x tm)) H
def evs(tm:TM):List YF->List AV
 |[]=>[]
 |f::l=>f tm::evs tm l
def Dn(f:Nat)(a b:List YF):Vu:=λtm H=>.val (.func f (evs tm a) (evs tm b)) H
def ZeW(n:String)(x:YF):Vu:=λtm H=>.val (.meth n (x tm)) H
def Zcj:Vu:=λ_ H=>.val (.map H.nx) (H.new (.map [] 0))
def Ua(eq:AV->AV->Option Bool)(k:AV)(no:OR)(yes:AV->OR):List Sy->OR
 |[]=>no
 |e::l=>Option.rec .fail (λt=>cond t (yes e.val) (Ua eq k no yes l)) (eq k e.key)
def zB(eq:AV->AV->Option Bool)(k v:AV)(clock:Nat)(done:List Sy->Nat->OR):List Sy->OR
 |[]=>done [⟨k,v,clock⟩] (Nat.succ clock)
 |e::l=>Option.rec .fail (λt=>cond t (done (⟨k,v,e.born⟩::l) clock) (zB eq k v clock (λl' c=>done (e::l') c) l)) (eq k e.key)
def vq(o:Obj)(k:List Sy->OR):OR:=match o with|.map es _=>k es|.cmap es=>k es|_=>.fail
def tX(o:Obj)(k:List Sy->Nat->OR):OR:=match o with|.map es c=>k es c|_=>.fail
def FZ(eq:AV->AV->Option Bool)(m k v:YF):Vu:=λtm H=>Dv (m tm) .fail λb=>KD H b λo=>tX o λes clock=>
 Yb (Nat.ble H.ro b) (zB eq (k tm) (v tm) clock (λes c=>.val XL (H.put b (.map es c))) es)
def Kw(ok:Bool)(H:Heap)(v:AV)(b:Bool):OR:=cond ok (.val (.tup [v,.bool b]) H) (.val v H)
def Mg(eq:AV->AV->Option Bool)(zv:AV)(ok:Bool)(m k:YF):Vu:=λtm H=>Dv (m tm) (Kw ok H zv false) λb=>KD H b λo=>vq o λes=>
 Ua eq (k tm) (Kw ok H zv false) (λv=>Kw ok H v true) es
def rx(H:Heap)(e sz l c:Nat)(zs:List AV):OR:=match zs with
 |[v]=>Yb (Nat.beq sz 1)<|.val (.slice H.nx 0 l none) (H.new (.row ⟨e,1,c,.leaf,v,0,false,true,true⟩))
 |zs=>Yb (Nat.beq (Xa zs) sz)<|.val (.slice H.nx 0 l none) (H.newRow e sz ((List.replicate c zs).flatten) true)
def Lx(e sz bytes:Nat)(zs:List AV)(l c:YF):Vu:=λtm H=>T8 (l tm) λl=>T8 (c tm) λc=>Yb (Nat.ble 1 sz)<|Yb (Nat.ble l c) (Yb (Nat.ble c 140737488355328)<|Yb (Nat.ble (Nat.mul c bytes) 140737488355328) (rx H e sz l c zs))
def sk(tm:TM)(x:Option YF)(d top:Nat)(k:Nat->OR):OR:=Option.rec (k d) (λf=>T8 (f tm) λn=>Yb (Nat.ble n top) (k n)) x
def KQ(tm:TM)(lo hi mx:Option YF)(len cap:Nat)(k:Nat->Nat->Nat->OR):OR:=
 sk tm mx cap cap λm=>sk tm hi len m λh=>sk tm lo 0 h λl=>k l h m
def ME:Nat->List UInt8->List UInt8
 |0,_=>[]
 |_+1,[]=>[]
 |n+1,v::l=>v::ME n l
def Kt:Nat->List UInt8->List UInt8
 |0,l=>l
 |_+1,[]=>[]
 |n+1,_::l=>Kt n l
def W1(x:YF)(lo hi mx:Option YF):Vu:=λtm H=>Option.rec (PL (x tm) λs=>KQ tm lo hi none (Xa s) (Xa s) λl h _=>.val (.str (Kt l (ME h s))) H) (λ_=>.fail) mx
def VO(r:Row)(o:Nat)(cap:Option Nat):Nat:=Option.rec (cond (Nat.beq r.sz 1) (Nat.sub r.size o) (Nat.div (Nat.sub r.size o) r.sz)) (λc=>c) cap
def MU(r:Row)(sz:Nat)(cap:Option Nat):Bool:=Option.rec (Nat.beq r.sz sz) (λ_=>true) cap
def T0(sz:Nat)(x:YF)(lo hi mx:Option YF):Vu:=λtm H=>
 cN (x tm) (KQ tm lo hi mx 0 0 λ_ _ _=>.val .slice0 H)<|TD (x tm) (KQ tm lo hi mx 0 0 λ_ _ _=>.val .nils H) λb o len cap=>XA H b λr=>Yb (MU r sz cap) (KQ tm lo hi mx len (VO r o cap) λl h m=>Yb (Nat.ble l m)<|
  cond (Nat.beq l m) (Option.rec (Option.rec (.val (.slice H.nx 0 (Nat.sub h l) none) ⟨Nat.succ H.nx,H.t,H.ro⟩) (λ_=>.val (.slice b o (Nat.sub h l) (some 0)) H) cap) (λ_=>.val (.slice b o (Nat.sub h l) (some 0)) H) mx)
   (.val (.slice b (Nat.add o (Nat.mul l sz)) (Nat.sub h l) (Option.rec (Option.rec none (λc=>some (Nat.sub c l)) cap) (λ_=>some (Nat.sub m l)) mx)) H))
def Rw(n sz:Nat)(x:YF)(lo hi mx:Option YF):Vu:=λtm H=>Rq (x tm) λb o=>KQ tm lo hi mx n n λl h m=>
  cond (Nat.beq l m) (.val (.slice b o (Nat.sub h l) (some (Nat.sub m l))) H) (.val (.slice b (Nat.add o (Nat.mul l sz)) (Nat.sub h l) (some (Nat.sub m l))) H)
def XK(n:Nat):Vu:=λtm H=>Rq (x tm) λb o=>.val (.ptr b (Nat.add o n)) H
def ZeU(o:Nat):Vu:=λtm H=>G4 (x tm) λcs=>TK (Ib cs o) λv=>.val v H
def ZiS(o n:Nat):Vu:=λtm H=>G4 (x tm) λcs=>.val (.agg (PQ n (QY o cs))) H
def WW(sz:Nat):Vu:=λtm H=>T8 (y tm) λi=>TD (x tm) .fail λb o len _=>Yb (Nat.ble (Nat.succ i) len) (.val (.ptr b (Nat.add o (Nat.mul i sz))) H)
def PH(n sz:Nat):Vu:=λtm H=>T8 (y tm) λi=>Rq (x tm) λb o=>Yb (Nat.ble (Nat.succ i) n) (.val (.ptr b (Nat.add o (Nat.mul i sz))) H)
def XR:Vu:=λtm H=>T8 (y tm) λi=>PL (x tm) λs=>TK (xJ s i) λb=>TX b.toNat λn=>.val (.int .u8 (.ofNat n)) H
def Ie(n:Nat):Vu:=λtm H=>T8 (y tm) λi=>G4 (x tm) λcs=>Yb (Nat.ble (Nat.succ i) n) (TK (Ib cs i) λv=>.val v H)
def zO(n sz:Nat):Vu:=λtm H=>T8 (y tm) λi=>G4 (x tm) λcs=>Yb (Nat.ble (Nat.succ i) n) (.val (.agg (PQ sz (QY (Nat.mul i sz) cs))) H)
def Qt(zv:AV)(ok:Bool)(H:Heap)(v:Option AV):OR:=Option.rec (cond ok (.val (.tup [zv,.bool false]) H) .fail) (λv=>cond ok (.val (.tup [v,.bool true]) H) (.val v H)) v
def Ic(t:Nat)(zv:AV)(ok:Bool):Vu:=λtm H=>QI (x tm) (Qt zv ok H none) λu v=>Qt zv ok H (cond (Nat.beq u t) (some v) none)
def xN(P:Program)(ms:Array (String×TypeId))(zv:AV)(ok:Bool):Vu:=λtm H=>QI (x tm) (Qt zv ok H none) λu v=>TK (P.info? u) λi=>Qt zv ok H (Option.rec (some (.iface u v)) (λ_=>none) (Instr.missingMethod ms i.methods))
def Xw(i:Nat):Vu:=λtm H=>rO (x tm) λvs=>TK (Ib vs i) λv=>.val v H
def J9(P:Program)(name:String)(u:Nat)(k:Nat->OR):OR:=
 TK (P.info? u) λi=>TK (i.methods.find? (·.name==name)) λm=>Yb m.path.isEmpty (match m.func with
  |some (g,ptr)=>match P.underlying u with
   |some (.pointer _)=>Yb ptr (k g)
   |some _=>cond ptr .fail (k g)
   |none=>.fail
  |none=>.fail)
def ZS(f:Nat)(args:List YF):Vu:=λtm H=>.oth (.call f (evs tm args) H)
def OG(P:Program)(args:List YF):Vu:=λtm H=>match x tm with
 |.func f a b=>.oth (.call f (a++(evs tm args++b)) H)
 |.meth n r=>QI r .fail λu v=>J9 P n u λg=>.oth (.call g (v::evs tm args) H)
 |.yield b=>.oth (.yield b (evs tm args) H)
 |_=>.fail
def ck(P:Program)(n:String)(args:List YF):Vu:=λtm H=>QI (x tm) .fail λu v=>J9 P n u λg=>.oth (.call g (v::evs tm args) H)
def zt(v:AV)(k:Nat->OR):OR:=match v with|.nils=>k 0|.slice0=>k 0|.slice _ _ n _=>k n|.str s=>k (Xa s)|_=>.fail
def WY(H:Heap)(sz:Nat)(v:AV)(n:Nat)(k:List AV->OR):OR:=cond (Nat.beq n 0) (k []) (match v with
 |.slice b o _ _=>XA H b λr=>Yb (Nat.ble (Nat.add o (Nat.mul n sz)) r.size) (k (W9 r o (Nat.mul n sz)))
 |.str s=>Yb (Nat.beq sz 1) (k (HF (ME n s)))
 |_=>.fail)
def IZ(H:Heap)(e b o len n sz:Nat)(r:Row)(new:List AV):OR:=
 Yb (Nat.beq r.elem e)<|Yb (H.may r b)<|Yb (Nat.ble r.fz (Nat.mul len sz))<|Yb (Nat.beq (Nat.mul len sz) r.size)<|Yb (Nat.beq o 0)<|
  .val (.slice H.nx 0 (Nat.add len n) none) ⟨Nat.succ H.nx,(H.t.del b).set H.nx (.row ⟨r.elem,sz,Nat.mul (Nat.add len n) sz,WO r.cells (Nat.mul len sz) new,r.dflt,r.fz,r.sm,true,false⟩),H.ro⟩
def Kq(H:Heap)(v:AV)(b o len n sz:Nat)(cap:Option Nat)(r:Row)(new:List AV):OR:=
 cond (Nat.beq n 0) (.val v H) (Yb (H.may r b) (Yb (Nat.ble (Nat.add o (Nat.mul (Nat.add len n) sz)) r.size) (Yb (Nat.ble r.fz (Nat.add o (Nat.mul len sz)))
  (.val (.slice b o (Nat.add len n) cap) (H.put b (.row (r.setCells (WO r.cells (Nat.add o (Nat.mul len sz)) new))))))))
def Ow(H:Heap)(e b o len n sz bytes:Nat)(cap:Option Nat)(r:Row)(new:List AV):OR:=
 Yb (Nat.ble (Nat.mul (Nat.add len n) bytes) 140737488355328)<|Yb (Nat.ble (Nat.add o (Nat.mul len sz)) r.size)<|Option.rec
  (cond r.exact (Yb (Nat.beq (Nat.mod o sz) 0) (.val (.slice H.nx 0 (Nat.add len n) none) (H.newRow e sz (W9 r o (Nat.mul len sz)++new) false))) (IZ H e b o len n sz r new))
  (λ_=>.val (.slice H.nx 0 (Nat.add len n) none) (H.newRow e sz (W9 r o (Nat.mul len sz)++new) false)) cap
def PS(v:AV)(e sz bytes:Nat)(H:Heap)(n:Nat)(new:List AV):OR:=
 cN v (cond (Nat.beq n 0) (.val .slice0 H) (Yb (Nat.ble (Nat.mul n bytes) 140737488355328) (.val (.slice H.nx 0 n none) (H.newRow e sz new false))))<|
 TD v (cond (Nat.beq n 0) (.val .nils H) (Yb (Nat.ble (Nat.mul n bytes) 140737488355328) (.val (.slice H.nx 0 n none) (H.newRow e sz new false)))) λb o len cap=>XA H b λr=>
  Yb (MU r sz cap) (cond (Nat.ble (Nat.add len n) (VO r o cap)) (Kq H v b o len n sz cap r new) (Ow H e b o len n sz bytes cap r new))
def W5(e sz bytes:Nat):Vu:=λtm H=>Yb (Nat.ble 1 sz)<|Yb (Nat.ble 1 bytes)<|zt (y tm) λn=>WY H sz (y tm) n λnew=>PS (x tm) e sz bytes H n new
def NQ(e sz bytes:Nat)(zs:List AV):Vu:=λtm H=>Yb (Nat.ble 1 sz)<|Yb (Nat.ble 1 bytes)<|T8 (y tm) λn=>Yb (Nat.ble (Nat.mul n bytes) 140737488355328)<|PS (x tm) e sz bytes H n (List.replicate n zs).flatten
def G2(sz:Nat):Vu:=λtm H=>zt (y tm) λsn=>TD (x tm) (.val (.int .i64 0) H) λb o dn _=>TX (OZ dn sn) λn=>WY H sz (y tm) n λnew=>
 cond (Nat.beq n 0) (.val (.int .i64 0) H) (XA H b λr=>Yb (H.may r b) (Yb (Nat.ble r.fz o) (Yb (Nat.ble (Nat.add o (Nat.mul n sz)) r.size) (.val (.int .i64 (.ofNat n)) (H.put b (.row (r.setCells (WO r.cells o new))))))))
def Wc:Vu:=λtm H=>PL (x tm) λs=>TX (Xa s) λn=>.val (.int .i64 (.ofNat n)) H
def Wf:Vu:=λtm H=>cN (x tm) (.val (.int .i64 0) H)<|TD (x tm) (.val (.int .i64 0) H) λ_ _ n _=>TX n λn=>.val (.int .i64 (.ofNat n)) H
def ZeV:Vu:=λtm H=>Dv (x tm) (.val (.int .i64 0) H) λb=>KD H b λo=>tX o λes _=>.val (.int .i64 (.ofNat (Xa es))) H
def uH:Vu:=λtm H=>TD (x tm) (.val (.int .i64 0) H) λb o _ cap=>Option.rec (XA H b λr=>Yb r.exact (Yb (Nat.beq (Nat.mod o r.sz) 0) (.val (.int .i64 (.ofNat (VO r o none))) H))) (λc=>.val (.int .i64 (.ofNat c)) H) cap
def min2(mx:Bool)(k:IntKind)(a:Int)(H:Heap):List AV->OR
 |[]=>.val (.int k a) H
 |v::l=>match v with|.int j b=>Yb (PR j k) (min2 mx k (cond (cond mx (xk a b) (xk b a)) b a) H l)|_=>.fail
def Si(mx:Bool)(args:List YF):Vu:=λtm H=>match evs tm args with
 |.int k a::l=>min2 mx k a H l
 |_=>.fail
def rI(e:Nat):Vu:=λtm H=>T8 (y tm) λn=>cond (Nat.beq n 0) (match x tm with|.nilp=>.val (.str []) H|.ptr .. =>.val (.str []) H|_=>.fail)
 (Yb (Nat.ble n 140737488355328)<|Rq (x tm) λb o=>XA H b λr=>Yb (Nat.beq r.elem e)<|Yb (cond r.sm false (H.may r b)) (Yb (Nat.ble (Nat.add o n) r.size) (Pu (λs=>.val (.str s)
  (H.put b (.row ⟨r.elem,r.sz,r.size,r.cells,r.dflt,cond (Nat.ble r.fz (Nat.add o n)) (Nat.add o n) r.fz,r.sm,r.own,r.exact⟩))) (W9 r o n))))
def F1:Vu:=λtm H=>TD (x tm) (.val .nilp H) λb o _ cap=>Option.rec (XA H b λr=>Yb (Nat.ble (Nat.succ o) r.size) (.val (.ptr b o) H)) (λc=>Yb (Nat.ble 1 c) (.val (.ptr b o) H)) cap
def QG:Vu:=λtm H=>QI (x tm) .fail λ_ _=>.oth (.pan (x tm) H)
def Ig:Vu:=λ_ _=>.oth .recov
def HJ(args:List YF):Vu:=λtm _=>.oth (.defer (x tm) (evs tm args))
def ct:Vu:=λtm H=>Dv (x tm) (.val (.ptr H.nx 0) (H.new (.miter none 0 none))) λb=>KD H b λo=>tX o λ_ c=>.val (.ptr H.nx 0) (H.new (.miter (some b) c none))
def F0:Vu:=λtm H=>PL (x tm) λs=>.val (.ptr H.nx 0) (H.new (.siter s 0))
def tY(o:Obj)(k:List UInt8->Nat->OR):OR:=match o with|.siter s pos=>k s pos|_=>.fail
def rE:Vu:=λtm H=>Rq (x tm) λb o=>Yb (Nat.beq o 0)<|Yb (Nat.ble H.ro b)<|KD H b λo=>tY o λs pos=>
 cond (Nat.ble (Nat.succ pos) (Xa s)) (match Utf8.decode ⟨s.toArray⟩ pos with|(c,w)=>.val (.tup [.bool true,.int .i64 (.ofNat pos),.int .i32 c]) (H.put b (.siter s (Nat.add pos w)))) (.val (.tup [.bool false]) H)
def A1(n:Nat)(k:Sy->OR):List Sy->OR
 |[]=>.fail
 |e::l=>cond (Nat.beq e.born n) (k e) (A1 n k l)
def AN(o:Obj)(k:Nat->Nat->Nat->OR):OR:=match o with|.miter (some m) _ (some (n,st))=>k m n st|_=>.fail
def cq:Vu:=λtm H=>Rq (x tm) λb o=>Yb (Nat.beq o 0)<|KD H b λob=>AN ob λm n st=>KD H m λom=>tX om λes c=>Yb (Nat.beq c st) (A1 n (λe=>.val (.tup [e.key,e.val]) H) es)
def VZ:Vu:=λ_ _=>.fail
end
inductive Out where
 |normal|exit (id:Nat)|ret|pan (v:AV)
inductive CR where
 |fail
 |ret (v:AV) (H:Heap)
 |pan (v:AV) (H:Heap)
structure X where
 df:List (AV×List AV)
 rc:Option AV
inductive WQ where
 |fail
 |ok (o:Out) (tm:TM) (H:Heap) (x:X)
structure Ctx where
 call:Nat->List AV->Heap->CR
 yld:Nat->List AV->Heap->CR
 rng:AV->(List AV->Heap->CR)->TM->Heap->X->WQ
 fuel:Nat
 rnd:Bool
abbrev D:=Ctx->TM->Heap->X->WQ
def UH:Nat->List AV->Heap->CR:=λ_ _ _=>.fail
def UZ:AV->(List AV->Heap->CR)->TM->Heap->X->WQ:=λ_ _ _ _ _=>.fail
def Du(next:TM->Heap->X->WQ)(dst:Yh)(tm:TM)(x:X)(r:CR):WQ:=match r with
 |.ret v H=>next (dst tm v) H x
 |.pan v H=>.ok (.pan v) tm H x
 |.fail=>.fail
def oO(next:TM->Heap->X->WQ)(dst:Yh)(c:Ctx)(tm:TM)(H:Heap)(x:X)(o:OR2):WQ:=match o with
 |.call f args H=>Du next dst tm x (c.call f args H)
 |.yield b args H=>Du next dst tm x (c.yld b args H)
 |.pan v H=>.ok (.pan v) tm H x
 |.recov=>cond c.rnd .fail (match x.rc with
  |some v=>next (dst tm v) H ⟨x.df,none⟩
  |none=>next (dst tm .nili) H x)
 |.defer f args=>match f with
  |.func _ _ _=>cond c.rnd .fail (next (dst tm XL) H ⟨(f,args)::x.df,x.rc⟩)
  |_=>.fail
 |.fail=>.fail
def Pz(next:TM->Heap->X->WQ)(dst:Yh)(c:Ctx)(tm:TM)(H:Heap)(x:X)(r:OR):WQ:=
 @OR.rec (λ_=>WQ) (λv H=>next (dst tm v) H x) (λo=>oO next dst c tm H x o) r
def zj(v:AV)(k:Bool->WQ):WQ:=match v with|.bool c=>k c|_=>.fail
def Za(f:Vu)(dst:Yh)(next:D):D:=λc tm H x=>Pz (next c) dst c tm H x (f tm H)
def UY(v:AV)(b:Bool)(yes no:WQ):WQ:=match v with
 |.bool c=> @Bool.rec (λ_=>WQ) (@Bool.rec (λ_=>WQ) yes no b) (@Bool.rec (λ_=>WQ) no yes b) c
 |.tup _=>no
 |_=>.fail
def Ya(g:YF)(b:Bool)(f:Vu)(dst:Yh)(next:D):D:=λc tm H x=>
 UY (g tm) b (Pz (next c) dst c tm H x (f tm H)) (next c (dst tm XL) H x)
def Zc:D:=λ_ tm H x=>.ok .normal tm H x
def Q2(r:WQ)(k:TM->Heap->X->WQ):WQ:=
 @WQ.rec (λ_=>WQ) .fail (λo tm H x=> @Out.rec (λ_=>WQ) (k tm H x) (λi=>.ok (.exit i) tm H x) (.ok .ret tm H x) (λv=>.ok (.pan v) tm H x) o) r
def Zg(a b:D):D:=λc tm H x=>Q2 (a c tm H x) (b c)
def JH(a b:TM->Heap->X->WQ)(v:Bool)(tm:TM)(H:Heap)(x:X):WQ:= @Bool.rec (λ_=>WQ) (b tm H x) (a tm H x) v
def Yi(q:YF)(a b:D):D:=λc tm H x=>zj (q tm) λv=>JH (a c) (b c) v tm H x
def QD(id:Nat)(r:WQ):WQ:=
 @WQ.rec (λ_=>WQ) .fail (λo tm H x=> @Out.rec (λ_=>WQ) (.ok .normal tm H x) (λi=> @Bool.rec (λ_=>WQ) (.ok (.exit i) tm H x) (.ok .normal tm H x) (Nat.beq i id)) (.ok .ret tm H x) (λv=>.ok (.pan v) tm H x) o) r
def YW(id:Nat)(a:D):D:=λc tm H x=>QD id (a c tm H x)
def Ue(a:TM->Heap->X->WQ)(n:Nat):TM->Heap->X->WQ:=
 @Nat.rec (λ_=>TM->Heap->X->WQ) (λ_ _ _=>.fail) (λ_ ih tm H x=>Q2 (a tm H x) ih) n
def Vm(a:D):D:=λc tm H x=>Ue (a c) c.fuel tm H x
def F4(r:WQ)(k:Bool):Bool:=match r with
 |.ok .normal _ _ y=>cond (match y.df,y.rc with|[],none=>true|_,_=>false) k false
 |_=>false
def DG(body:TM->Heap->X->WQ)(b m since:Nat)(dst:Yh)(tm:TM)(H:Heap)(es:List Sy):Bool:=
 List.rec true (λe _ ih=>F4 (body (dst tm (.tup [.bool true,e.key,e.val])) ⟨H.nx,H.t.set b (.miter (some m) since (some (e.born,since))),H.nx⟩ ⟨[],none⟩) ih) es
def Ze0(v:AV)(k:Nat->Nat->WQ):WQ:=match v with|.ptr b o=>k b o|_=>.fail
def ZiV(o:Option Obj)(no:WQ)(k:Nat->Nat->WQ):WQ:=match o with|some (.miter none _ none)=>no|some (.miter (some m) s none)=>k m s|_=>.fail
def ZeZ(o:Option Obj)(since:Nat)(k:List Sy->WQ):WQ:=match o with|some (.map es c)=>cond (Nat.beq c since) (k es) .fail|_=>.fail
def Qx(tm:TM):List Yh->TM
 |[]=>tm
 |d::l=>Qx (d tm .unk) l
def Lt(r:WQ):WQ:=match r with|.ok .normal _ _ _=>.fail|r=>r
def uW(x:X)(k:WQ):WQ:=match x.df,x.rc with|[],none=>k|_,_=>.fail
def uB(r a:TM->Heap->X->WQ)(q:YF)(dst:Yh)(tm:TM)(H:Heap)(x:X):WQ:=
 Ze0 (q tm) λb o=>cond (Nat.beq o 0) (cond (Nat.ble H.ro b) (ZiV (H.t.get b) (Lt (a (dst tm (.tup [.bool false])) H x)) λm s=>ZeZ (H.t.get m) s λes=>
  uW x (cond (DG r b m s dst tm H es) (Lt (a (dst tm (.tup [.bool false])) ⟨H.nx,H.t.del b,H.ro⟩ x)) .fail)) .fail) .fail
def uA(q:YF)(dst:Yh)(dead:List Yh)(a:D):D:=λc tm H x=>uB (a ⟨c.call,UH,UZ,c.fuel,true⟩) (a c) q dst (Qx tm dead) H x
def Vs(id:Nat):D:=λ_ tm H x=>.ok (.exit id) tm H x
def YC:D:=λ_ tm H x=>.ok .ret tm H x
def Qu:D:=λ_ _ _ _=>.fail
def P1(tm:TM):List Yh->List AV->TM
 |d::ds,v::vs=>P1 (d tm v) ds vs
 |_,_=>tm
def Je(r:WQ):CR:=match r with
 |.ok .normal _ H _=>.ret (.bool true) H
 |_=>.fail
def j7(q:YF)(ps:List Yh)(a:D):D:=λc tm H x=>
 c.rng (q tm) (λys H=>cond (Nat.beq (Xa ys) (Xa ps)) (Je (a ⟨c.call,UH,UZ,c.fuel,true⟩ (P1 tm ps ys) H ⟨[],none⟩)) .fail) tm H x
inductive Js where|free|read|eff
structure PI where
 f:Vu
 g:Option (YF×Bool)
 os:List (Yh×YF)
 dst:Yh
 kind:Js
 i:Nat
 bef:Nat
mutual
def WC(n:Nat):AV->Bool
 |.ptr b _=>Nat.ble (Nat.succ b) n
 |.slice b _ _ _=>Nat.ble (Nat.succ b) n
 |.map b=>Nat.ble (Nat.succ b) n
 |.func _ x y=>cond (Rv n x) (Rv n y) false
 |.meth _ v=>WC n v
 |.yield b=>Nat.ble (Nat.succ b) n
 |.iface _ v=>WC n v
 |.agg l=>Rv n l
 |.tup l=>Rv n l
 |_=>true
def Rv(n:Nat):List AV->Bool
 |[]=>true
 |v::l=>cond (WC n v) (Rv n l) false
end
def R0(tm:TM)(os:List (Yh×YF)):TM:=List.rec NZ (λp _ ih=>p.1 ih (p.2 tm)) os
def Rp(n:Nat)(tm:TM)(os:List (Yh×YF)):Bool:=List.rec true (λp _ ih=>cond (WC n (p.2 tm)) ih false) os
mutual
def same:AV->AV->Bool
 |.bool a,.bool b=>cond a b (cond b false true)
 |.int k a,.int j b=>cond (PR k j) (GW a b) false
 |.str a,.str b=>LU a b
 |.nilp,.nilp=>true
 |.ptr a b,.ptr c d=>cond (Nat.beq a c) (Nat.beq b d) false
 |.nils,.nils=>true
 |.slice0,.slice0=>true
 |.slice a b c d,.slice e f g h=>cond (Nat.beq a e) (cond (Nat.beq b f) (cond (Nat.beq c g) (match d,h with|none,none=>true|some x,some y=>Nat.beq x y|_,_=>false) false) false) false
 |.nilm,.nilm=>true
 |.map a,.map b=>Nat.beq a b
 |.func f a b,.func g c d=>cond (Nat.beq f g) (cond (MD a c) (MD b d) false) false
 |.nilf,.nilf=>true
 |.iface t v,.iface u w=>cond (Nat.beq t u) (same v w) false
 |.nili,.nili=>true
 |.agg a,.agg b=>MD a b
 |.tup a,.tup b=>MD a b
 |_,_=>false
def MD:List AV->List AV->Bool
 |[],[]=>true
 |a::as,b::bs=>cond (same a b) (MD as bs) false
 |_,_=>false
end
structure RD where
 p:PI
 v:AV
def x9(u:RD)(tm:TM)(H:Heap):Bool:=OR.rec (λv H1=>cond (Nat.beq H1.nx H.nx) (same v u.v) false) (λ_=>false) (u.p.f (R0 tm u.p.os) ⟨H.nx,H.t,H.nx⟩)
def still(tm:TM)(H:Heap)(rs:List RD):Bool:=List.rec true (λr _ ih=>cond (x9 r tm H) ih false) rs
def UU(bef:Nat)(rs:List RD):List RD:=List.rec [] (λr _ ih=>cond (Nat.testBit bef r.p.i) ih (r::ih)) rs
def Nr(g:Option (YF×Bool))(tm:TM)(yes no:WQ):WQ:=match g with
 |none=>yes
 |some (e,b)=>UY (e tm) b yes no
def wrO(o:Obj):Bool:=match o with|.row r=>r.own|.loop=>false|_=>true
def jL(o:Option Obj)(k:Obj->WQ):WQ:=match o with|some x=>cond (wrO x) (k x) .fail|none=>.fail
abbrev PK:=List RD->TM->Heap->X->WQ
def M2(p:PI)(nx:PK)(rs:List RD)(tm:TM)(H:Heap)(x:X)(r:OR):WQ:=
 OR.rec (λv H1=>cond (Nat.beq H1.nx H.nx) (nx rs (p.dst tm v) H x) (cond (Nat.beq H1.nx (Nat.succ H.nx)) (jL (H1.t.get H.nx) λo=>nx rs (p.dst tm v) (H.new o) x) .fail)) (λ_=>.fail) r
def lz(p:PI)(nx:PK)(rs:List RD)(tm:TM)(H:Heap)(x:X):WQ:=
 cond (Rp H.nx tm p.os) (M2 p nx rs tm H x (p.f (R0 tm p.os) ⟨H.nx,.leaf,H.nx⟩)) .fail
def Is(p:PI)(nx:PK)(rs:List RD)(tm:TM)(H:Heap)(x:X)(r:OR):WQ:=
 OR.rec (λv H1=>cond (Nat.beq H1.nx H.nx) (nx (⟨p,v⟩::rs) (p.dst tm v) H x) .fail) (λ_=>.fail) r
def ZcC(ds:List Yh)(v:AV)(tm:TM)(H:Heap)(x:X):WQ:=.ok (.pan v) (Qx tm ds) H x
def DF(ds:List Yh)(p:PI)(nx:PK)(rs:List RD)(tm:TM)(x:X)(r:CR):WQ:=match r with
 |.ret v H=>nx (UU p.bef rs) (p.dst tm v) H x
 |.pan v H=>ZcC ds v tm H x
 |.fail=>.fail
def Ze5(ds:List Yh)(p:PI)(nx:PK)(rs:List RD)(c:Ctx)(tm:TM)(x:X)(o:OR2):WQ:=match o with
 |.call f args H=>DF ds p nx rs tm x (c.call f args H)
 |.yield b args H=>DF ds p nx rs tm x (c.yld b args H)
 |.pan v H=>ZcC ds v tm H x
 |_=>.fail
def JK(ds:List Yh)(p:PI)(nx:PK)(rs:List RD)(c:Ctx)(tm:TM)(x:X)(r:OR):WQ:=
 OR.rec (λv H=>nx (UU p.bef rs) (p.dst tm v) H x) (λo=>Ze5 ds p nx rs c tm x o) r
def Su(ds:List Yh)(p:PI)(nx:PK)(c:Ctx)(rs:List RD)(tm:TM)(H:Heap)(x:X):WQ:=
 Js.rec (Nr p.g tm (lz p nx rs tm H x) (nx rs (p.dst tm XL) H x))
  (Nr p.g tm (Is p nx rs tm H x (p.f (R0 tm p.os) ⟨H.nx,H.t,H.nx⟩)) (nx rs (p.dst tm XL) H x))
  (cond (still tm H rs) (Nr p.g tm (JK ds p nx rs c tm x (p.f (R0 tm p.os) H)) (nx (UU p.bef rs) (p.dst tm XL) H x)) .fail) p.kind
def Ug(ds:List Yh)(fin:PK)(l:List PI):Ctx->PK:=
 List.rec (λ_ rs tm H x=>cond (still tm H rs) (fin rs tm H x) .fail) (λp _ ih c=>Su ds p (ih c) c) l
def Lu(_:List RD)(tm:TM)(H:Heap)(x:X):WQ:=.ok .normal tm H x
def Zch(l:List RD)(k:WQ):WQ:=List.rec k (λ_ _ _=>.fail) l
def Vj(l:List PI):D:=λc tm H x=>Ug (l.map (·.dst)) Lu l c [] tm H x
def onV(r:OR)(k:Heap->WQ):WQ:=OR.rec (λ_ H=>k H) (λ_=>.fail) r
def apart(a b:AV)(k:WQ):WQ:=match a,b with|.ptr x _,.ptr y _=>cond (Nat.beq x y) .fail k|_,_=>.fail
def G6(p q:PI)(a b:YF)(rs:List RD)(tm:TM)(H:Heap)(x:X):WQ:=
 Zch (UU p.bef rs) (Zch (UU q.bef rs) (apart (a (R0 tm p.os)) (b (R0 tm q.os)) (onV (p.f (R0 tm p.os) H) λH1=>onV (q.f (R0 tm q.os) H1) λH2=>.ok .normal tm H2 x)))
def mR(l:List PI)(p q:PI)(a b:YF):D:=λc tm H x=>Ug (l.map (·.dst)) (G6 p q a b) l c [] tm H x
section
variable (P:Program)
def zR(f:Value->AV):List Value->List AV
 |[]=>[]
 |v::vs=>f v::zR f vs
def Jb:Nat->Value->AV
 |0,_=>.unk
 |d+1,v=>match v with
  |.bool b=>.bool b
  |.int k n=>.int k n
  |.string s=>.str s.data.toList
  |.pointer none=>.nilp
  |.slice none 0 0=>.nils
  |.map none=>.nilm
  |.nilFunc=>.nilf
  |.func (.func f) ⟨[]⟩ ⟨[]⟩=>.func f [] []
  |.nilIface=>.nili
  |.iface t v=>.iface t (Jb d v)
  |.agg ⟨cs⟩=>.agg (zR (Jb d) cs)
  |.tuple ⟨cs⟩=>.tup (zR (Jb d) cs)
  |_=>.unk
def ZeX(v:Value):AV:=Jb 20 v
def ZiX(v:Value):Bool:=match v with|.agg _=>false|.tuple _=>false|_=>true
def Mi:Nat->Value->Bool
 |0,_=>true
 |d+1,v=>match v with
  |.agg ⟨cs⟩=>cs.all λc=>ZiX c&&Mi d c
  |.tuple ⟨cs⟩=>cs.all (Mi d)
  |.iface _ v=>Mi d v
  |_=>true
def W0(v:Value):AV:=cond (Mi 20 v) (ZeX v) .unk
def Xo(o:Operand):YF:=match o with
 |.tmp t=>cond (Nat.ble t 511) (Sm t) (k .unk)
 |.const v=>k (W0 v)
 |.global g=>cond (Nat.ble (Nat.succ g) P.globals.size) (k (.ptr g 0)) (k .unk)
 |.func f=>k (.func f [] [])
def Nu(t:Nat):Bool:=match P.underlying t with|some (.struct _)|some (.array _ _)=>true|_=>false
def U0(t:Nat)(f:TypeInfo->Vu):Vu:=match P.info? t with|some i=>f i|none=>VZ
def dY(t:Nat):Array (String×TypeId):=match P.underlying t with|some (.interface ms)=>ms|_=> #[]
def args(l:Array Operand):List YF:=l.toList.map (Xo P)
def opt(x:Option Operand):Option YF:=x.map (Xo P)
def ZgY(op:BinOp)(x y:YF):Vu:=match op with
 |.add=>Xk x y|.sub=>Vv x y|.mul=>PJ x y|.quo=>Ja x y|.rem=>FE x y
 |.and=>Q0 x y Ro|.or=>Q0 x y Cp|.xor=>Q0 x y CI|.andNot=>Q0 x y Jv
 |.shl=>cu x y|.shr=>Lz x y
 |.eql=>VZ|.neq=>VZ
 |.lss=>Y8 x y Wd Xl
 |.gtr=>Y8 x y Tq Vn
 |.leq=>Y8 x y QV TN
 |.geq=>Y8 x y Tp WT
def MA(o:Operand):Bool:=match o with|.const _=>true|_=>false
def eqK(t:Nat)(lit neg:Bool)(x y:YF)(d:TypeDesc):Vu:=match d with
 |.bool=>VD x y nN neg
 |.int _=>VD x y VU neg
 |.string=>VD x y Mw neg
 |.pointer e=>match P.info? e with|some i=>cond (Nat.beq i.size 0) VZ (VD x y yS neg)|none=>VZ
 |.slice _=>VD x y qG neg
 |.map _ _=>VD x y eqM neg
 |.func _ _ _=>VD x y eqN neg
 |.interface _=>VD x y (qF lit (eqC P (gG P 9))) neg
 |.array _ _=>cond (P.eqGuardType P.depth t) VZ (VD x y (gG P 10 t) neg)
 |.struct _=>cond (P.eqGuardType P.depth t) VZ (VD x y (gG P 10 t) neg)
 |_=>VZ
def V0(t:Nat)(f:TypeDesc->Vu):Vu:=match P.underlying t with|some d=>f d|none=>VZ
def yh(f:Array Field->Vu)(d:TypeDesc):Vu:=match d with|.struct fs=>f fs|_=>VZ
def DW(f:Nat->Vu)(d:TypeDesc):Vu:=match d with|.slice e=>f e|_=>VZ
def Zfs(f:Nat->Vu)(d:TypeDesc):Vu:=match d with|.pointer e=>f e|_=>VZ
def kD(f:(AV->AV->Option Bool)->Vu)(d:TypeDesc):Vu:=match d with|.string=>f Mw|.int _=>f VU|.bool=>f nN|_=>VZ
def qa(f g:Vu)(d:TypeDesc):Vu:=match d with|.int _=>f|_=>g
def tU8(f:Vu)(d:TypeDesc):Vu:=match d with|.int .u8=>f|_=>VZ
def QJ{α:Type}(x:Option α)(f:α->Vu):Vu:=match x with|some a=>f a|none=>VZ
def mr(b:Builtin)(xs:List Operand)(ts:List TypeId):Vu:=match b with
 |.append=>match xs,ts with
  |[s,x],[t,u]=>V0 P t<|DW λe=>U0 P e λi=>QJ i.zero λz=>cond (Nat.beq (Xa (W0 z).cells) i.size) (V0 P u<|qa (NQ (Xo P s) (Xo P x) e i.size i.bytes (W0 z).cells) (W5 (Xo P s) (Xo P x) e i.size i.bytes)) VZ
  |_,_=>VZ
 |.copy=>match xs,ts with
  |[d,s],[t,_]=>V0 P t<|DW λe=>U0 P e λi=>G2 (Xo P d) (Xo P s) i.size
  |_,_=>VZ
 |.len=>match xs,ts with
  |[x],[t]=>V0 P t λd=>match d with|.string=>Wc (Xo P x)|.slice _=>Wf (Xo P x)|.map _ _=>ZeV (Xo P x)|_=>VZ
  |_,_=>VZ
 |.cap=>match xs,ts with
  |[x],[t]=>V0 P t λd=>match d with|.slice _=>uH (Xo P x)|_=>VZ
  |_,_=>VZ
 |.min=>Si false (xs.map (Xo P))
 |.max=>Si true (xs.map (Xo P))
 |.unsafeString=>match xs,ts with
  |[p,n],[t,_]=>V0 P t<|Zfs λe=>U0 P e λi=>cond (Nat.beq i.size 1) (rI (Xo P p) (Xo P n) e) VZ
  |_,_=>VZ
 |.unsafeSliceData=>match xs with|[x]=>F1 (Xo P x)|_=>VZ
 |.panic=>match xs with|[x]=>QG (Xo P x)|_=>VZ
 |.recover=>Ig
 |_=>VZ
def mu(c:Call):Vu:=match c.callee with
 |.value (.func f)=>ZS f (args P c.args)
 |.value f=>OG (Xo P f) P (args P c.args)
 |.invoke r m=>ck (Xo P r) P m (args P c.args)
 |.builtin b=>mr P b c.args.toList c.argTypes.toList
def bY(s d:Nat)(x:YF)(ds dd:TypeDesc):Vu:=match ds,dd with
 |.int _,.int k=>Sg x k
 |.string,.string=>ZiT x
 |.int _,.string=>rF x
 |.string,.slice e=>V0 P e<|tU8 (Dm x e)
 |.slice e,.string=>V0 P e<|tU8 (xT x)
 |.pointer u,.unsafePointer=>U0 P u λi=>cond (Nat.ble 1 i.size) (BY x) VZ
 |.unsafePointer,.pointer u=>U0 P u λi=>cond (Nat.ble 1 i.size) (BX x u i.size) VZ
 |.slice _,.slice e=>cond (Nat.beq s d) (V0 P e<|tU8 (BW x)) VZ
 |_,_=>VZ
def ZdI(s d:Nat)(x:YF):Vu:=V0 P s λds=>V0 P d λdd=>bY P s d x ds dd
def aY(n:String)(a b:List Operand):Vu:=match a,b with|[x],[]=>ZeW n (Xo P x)|_,_=>VZ
def Q1(place:Nat->Option (Nat×Nat))(p:Nat×Operand):AJ:=match place p.1 with
 |some (o,s)=>⟨o,s,Xo P p.2⟩
 |none=>⟨0,0,Xo P p.2⟩
def gX(kd:IntKind)(m:Int):List Value->Bool
 |[]=>true
 |v::l=>match v with|.int j n=>cond (PR kd j) (cond (GW m n) (gX kd m l) false) false|_=>false
def nV(t:Nat)(l:List Value)(cs:List AV):Vu:=match l with
 |.int kd m::l'=>cond (Nat.ble 8 (Xa l')) (cond (gX kd m l') (Mf t (Nat.succ (Xa l')) (.int kd m)) (V9 t cs)) (V9 t cs)
 |_=>V9 t cs
def Zck(hi mx:Option Operand):Bool:=match mx,hi with|some _,none=>false|_,_=>true
def VH(o:Op):Vu:=match o with
 |.move x=>Z4 (Xo P x)
 |.assign x=>Z4 (Xo P x)
 |.pick c a b=>Xn (Xo P c) (Xo P a) (Xo P b)
 |.alloc t=>U0 P t λi=>QJ i.zero λz=>nV t z.cells.toList (W0 z).cells
 |.box t x=>Ko (Xo P x) t
 |.build t ps=>U0 P t λi=>QJ i.zero λz=>V0 P t λd=>match d with
  |.struct fs=>QJ (fs.toList.mapM λf=>(P.info? f.type).map λi=>(f.offset,i.size)) λplaces=>Vz (W0 z).cells (ps.toList.map (Q1 P (places.toArray[·]?)))
  |.array _ e=>U0 P e λj=>Vz (W0 z).cells (ps.toList.map (Q1 P λi=>some (i*j.size,j.size)))
  |_=>VZ
 |.buildSlice t n ps=>V0 P t<|DW λe=>U0 P e λj=>QJ j.zero λz=>
   cond (Nat.ble (Nat.mul n j.size) 16777216) (VV e j.size n ((List.replicate n (W0 z).cells).flatten) (ps.toList.map (Q1 P λi=>some (i*j.size,j.size)))) VZ
 |.load t a=>U0 P t λi=>V0 P t λ_=>cond (Nu P t) (To (Xo P a) i.size) (Yz (Xo P a))
 |.store t a x=>U0 P t λi=>Xr (Xo P a) (Xo P x) i.size
 |.nilCheck x=>UL (Xo P x)
 |.binOp op t x y _=>match op with
  |.eql=>V0 P t (eqK P t (MA x||MA y) false (Xo P x) (Xo P y))
  |.neq=>V0 P t (eqK P t (MA x||MA y) true (Xo P x) (Xo P y))
  |op=>ZgY op (Xo P x) (Xo P y)
 |.unOp op _ x=>match op with|.neg=>zP (Xo P x)|.not=>Qm (Xo P x)|.xor=>ju (Xo P x)|_=>VZ
 |.convert s d x=>ZdI P s d (Xo P x)
 |.makeInterface t x=>V0 P t λd=>match d with|.interface _=>VZ|_=>Pn (Xo P x) t
 |.makeFunc fn a b=>match fn with
  |.func f=>Dn f (args P a) (args P b)
  |.method n=>aY P n a.toList b.toList
  |_=>VZ
 |.makeMap _ r=>match r with|none=>Zcj|some _=>VZ
 |.mapUpdate t m k v=>V0 P t λd=>match d with|.map kt _=>V0 P kt<|kD λeq=>FZ eq (Xo P m) (Xo P k) (Xo P v)|_=>VZ
 |.insert t m k v=>V0 P t λd=>match d with|.map kt _=>V0 P kt<|kD λeq=>FZ eq (Xo P m) (Xo P k) (Xo P v)|_=>VZ
 |.lookup t m k ok=>V0 P t λd=>match d with
  |.map kt e=>V0 P kt<|kD λeq=>U0 P e λi=>QJ i.zero λz=>Mg eq (W0 z) ok (Xo P m) (Xo P k)
  |_=>VZ
 |.makeSlice t l c=>V0 P t<|DW λe=>U0 P e λi=>QJ i.zero λz=>Lx e i.size i.bytes (W0 z).cells (Xo P l) (Xo P c)
 |.slice t x lo hi mx=>cond (Zck hi mx) (V0 P t λd=>match d with
  |.string=>W1 (Xo P x) (opt P lo) (opt P hi) (opt P mx)
  |.slice e=>U0 P e λi=>T0 i.size (Xo P x) (opt P lo) (opt P hi) (opt P mx)
  |.array n e=>U0 P e λi=>Rw n i.size (Xo P x) (opt P lo) (opt P hi) (opt P mx)
  |_=>VZ) VZ
 |.fieldAddr t x f=>V0 P t<|yh λfs=>QJ fs[f]? λg=>U0 P g.type λi=>cond (Nat.ble 1 i.size) (XK (Xo P x) g.offset) VZ
 |.field t x f=>V0 P t<|yh λfs=>QJ fs[f]? λg=>U0 P g.type λi=>V0 P g.type λ_=>cond (Nu P g.type) (ZiS (Xo P x) g.offset i.size) (ZeU (Xo P x) g.offset)
 |.indexAddr t x i=>V0 P t λd=>match d with
  |.slice e=>U0 P e λj=>WW (Xo P x) (Xo P i) j.size
  |.array n e=>U0 P e λj=>PH (Xo P x) (Xo P i) n j.size
  |_=>VZ
 |.index t x i=>V0 P t λd=>match d with
  |.string=>XR (Xo P x) (Xo P i)
  |.array n e=>U0 P e λj=>V0 P e λ_=>cond (Nu P e) (zO (Xo P x) (Xo P i) n j.size) (cond (Nat.beq j.size 1) (Ie (Xo P x) (Xo P i) n) VZ)
  |_=>VZ
 |.typeAssert x _ t ok=>U0 P t λi=>QJ i.zero λz=>V0 P t λd=>match d with
  |.interface _=>xN (Xo P x) P (dY P t) (W0 z) ok
  |_=>Ic (Xo P x) t (W0 z) ok
 |.extract x i=>Xw (Xo P x) i
 |.call c=>mu P c
 |.defer c=>match c.callee with
  |.value f=>HJ (Xo P f) (args P c.args)
  |_=>VZ
 |.panic x=>QG (Xo P x)
 |.range t x=>V0 P t λd=>match d with|.string=>F0 (Xo P x)|.map _ _=>ct (Xo P x)|_=>VZ
 |.next x b=>cond b (rE (Xo P x)) VZ
 |.entry x=>cq (Xo P x)
 |_=>VZ
def Pg(o:Op):Js:=match o with
 |.load .. |.lookup .. =>.read
 |.slice t _ _ _ _=>match P.underlying t with|some (.slice _)=>.read|_=>.free
 |.convert s d _=>match P.underlying s,P.underlying d with|some (.slice _),some (.slice _)=>.eff|some (.slice _),_=>.read|_,_=>.free
 |.call c=>match c.callee,c.argTypes.toList with
  |.builtin b,ts=>match b with
   |.len=>(match ts with|[t]=>(match P.underlying t with|some (.map _ _)=>.read|_=>.free)|_=>.free)
   |.cap|.unsafeSliceData=>.read|.min|.max=>.free|_=>.eff
  |_,_=>.eff
 |.assign _|.store .. |.mapUpdate .. |.insert .. |.mapEntry .. |.entryStore .. |.panic _|.defer _|.next .. |.range .. |.entry _=>.eff
 |_=>.free
def TI(ops:Array Oper)(o:Oper):Option (YF×Bool):=match o.guard with
 |none=>none
 |some (j,b)=>match(ops[j]?).bind (·.dst) with|some d=>some (Xo P (.tmp d),b)|none=>some (k .unk,b)
def Ws(x:Option Nat):Yh:=match x with|some d=>cond (Nat.ble d 511) (Pq d) d0|none=>d0
def xX(ops:Array Oper):List Oper->D
 |[]=>Zc
 |o::l=>match TI P ops o with
  |none=>Za (VH P o.op) (Ws o.dst) (xX ops l)
  |some (g,b)=>Ya g b (VH P o.op) (Ws o.dst) (xX ops l)
def KM(acc:List (Nat×Nat))(o:Oper):Nat:=o.after.toList.foldl (λs e=>cond (Region.binds .any e) (Nat.lor (Nat.lor s (Nat.pow 2 e.on)) ((acc.lookup e.on).getD 0)) s) 0
def AO:List Oper->Nat->List (Nat×Nat)->List (Oper×Nat×Nat)
 |[],_,_=>[]
 |o::l,i,acc=>(o,i,KM acc o)::AO l (i+1) ((i,KM acc o)::acc)
def yi(l:List Operand):List Nat:=l.filterMap λx=>match x with|.tmp t=>some t|_=>none
def V6(o:Oper):List (Yh×YF):=(yi o.op.operands.toList).filterMap λt=>cond (Nat.ble t 511) (some (Pq t,Sm t)) none
def WF(ops:Array Oper)(x:Oper×Nat×Nat):PI:=⟨VH P x.1.op,TI P ops x.1,V6 x.1,Ws x.1.dst,Pg P x.1.op,x.2.1,x.2.2⟩
def xo(k:Js):Bool:=Js.rec false false true k
structure SI where
 i:Nat
 lk:List Nat
 d:Option Nat
 eff:Bool
 bef:Nat
 x:Oper×Nat×Nat
def SX(ops:Array Oper)(o:Oper):List Nat:=yi o.op.operands.toList++(match o.guard with|some (j,_)=>((ops[j]?).bind (·.dst)).toList|none=>[])
def P6(ops:Array Oper)(x:Oper×Nat×Nat):SI:=⟨x.2.1,SX ops x.1,x.1.dst,xo (Pg P x.1.op),x.2.2,x⟩
def ET:Nat->List SI->Nat->List SI
 |0,_,_=>[]
 |f+1,todo,done=>
  let ready:=todo.filter λp=>Nat.beq (Nat.land p.bef done) p.bef
  match ready.find? (λp=>cond p.eff false true) with
  |some p=>p::ET f (todo.filter λq=>cond (Nat.beq q.i p.i) false true) (Nat.lor done (Nat.pow 2 p.i))
  |none=>match ready with
   |p::_=>p::ET f (todo.filter λq=>cond (Nat.beq q.i p.i) false true) (Nat.lor done (Nat.pow 2 p.i))
   |[]=>[]
def bit(n:Nat):Nat:=Nat.pow 2 n
def Lq(l:List Nat):Nat:=List.rec 0 (λt _ ih=>Nat.lor (bit t) ih) l
def Zbh(d:Option Nat):Nat:=match d with|some t=>bit t|none=>0
def dOk(d:Option Nat)(sm:Nat):Bool:=match d with|some t=>cond (Nat.testBit sm t) false true|none=>true
def dN(ws:List (Nat×Nat))(im bef t:Nat):Bool:=ws.all λx=>cond (Nat.beq x.1 t) (cond (Nat.testBit im x.2) (Nat.testBit bef x.2) true) true
def A0(i:Nat)(o:Oper):Bool:=o.after.toList.all λe=>cond (Region.binds .any e) (Nat.ble (Nat.succ e.on) i) true
def jy(p:SI)(d:Option Nat):Bool:=match d with|some t=>cond (p.lk.all λs=>cond (Nat.beq s t) false true) (match p.d with|some s=>cond (Nat.beq s t) false true|none=>true) false|none=>true
def fc(l0:List SI)(q:SI)(im:Nat):Bool:=l0.all λp=>cond (Nat.testBit im p.i) (cond (Nat.testBit q.bef p.i) true (jy p q.d)) true
def ry(l0:List SI)(q:SI)(sm im:Nat):Bool:=cond (dOk q.d (Nat.lor sm (Lq q.lk))) true (cond q.eff (fc l0 q im) false)
def MC(ws:List (Nat×Nat))(l0:List SI):List SI->Nat->Nat->Nat->Nat->Bool
 |[],_,_,im,all=>Nat.beq im all
 |q::l,em,sm,im,all=>cond (Nat.beq (Nat.land q.bef em) em) (cond (ry l0 q sm im) (cond (q.lk.all (dN ws im q.bef)) (cond (Nat.testBit im q.i) false
   (MC ws l0 l (cond q.eff (Nat.lor em (bit q.i)) em) (Nat.lor (Nat.lor sm (Lq q.lk)) (Zbh q.d)) (Nat.lor im (bit q.i)) all)) false) false) false
def QR(l:List SI):List (Nat×Nat):=l.filterMap λq=>match q.d with|some t=>some (t,q.i)|none=>none
def FX(l:List SI):Option (List SI×SI×SI):=match l.reverse with|b::a::r=>some (r.reverse,a,b)|_=>none
def S7(o:Oper):Option YF:=match o.op,o.guard,o.dst with|.store _ a _,none,none=>some (Xo P a)|_,_,_=>none
def uT(ops:Array Oper)(ws:List (Nat×Nat))(l0:List SI)(all:Nat)(x:Option (List SI×SI×SI)):D:=match x with
 |some (r,a,b)=>match S7 P a.x.1,S7 P b.x.1 with
  |some e1,some e2=>cond (MC ws l0 (r++[a]) 0 0 0 (Nat.xor all (bit b.i))) (cond (MC ws l0 (r++[b]) 0 0 0 (Nat.xor all (bit a.i)))
    (mR (r.map λq=>WF P ops q.x) (WF P ops a.x) (WF P ops b.x) e1 e2) Qu) Qu
  |_,_=>Qu
 |none=>Qu
def Dd(ops:Array Oper):List SI:=ET ops.size ((AO ops.toList 0 []).map (P6 P ops)) 0
def zW(ops:Array Oper)(l:List SI):D:=
 cond (MC (QR l) l l 0 0 0 (Nat.sub (bit ops.size) 1)) (Vj (l.map λq=>WF P ops q.x)) (uT P ops (QR l) l (Nat.sub (bit ops.size) 1) (FX l))
def uY(ops:Array Oper):D:=
 cond (ops.toList.zipIdx.all λx=>A0 x.2 x.1) (zW P ops (Dd P ops)) Qu
def JJ:Code->List Nat
 |.region _ ops _=>ops.toList.filterMap (·.dst)
 |.seq a b=>JJ a++JJ b
 |.cond _ a b=>JJ a++JJ b
 |.block _ a=>JJ a
 |.loop a=>JJ a
 |.scope a=>JJ a
 |.rangeFunc _ _ _ _=>[]
 |_=>[]
def Pt:Code->Option (Operand×Option Nat)
 |.seq a _=>Pt a
 |.region _ ops false=>match ops.toList with
  |o::_=>match o.op,o.guard with|.next x false,none=>some (x,o.dst)|_,_=>none
  |[]=>none
 |_=>none
def yM(c:Code):D×D:=
 Code.rec (motive:=λ_=>D×D) (Zc,Qu)
  (λ_ ops d=>(cond d (uY P ops) (xX P ops ops.toList),cond d Qu (xX P ops ops.toList.tail)))
  (λ_ _ a b=>(Zg a.1 b.1,Zg a.2 b.1))
  (λq _ _ a b=>(Yi (Xo P q) a.1 b.1,Qu))
  (λid _ a=>(YW id a.1,Qu))
  (λb a=>(match Pt b with|some (x,t)=>uA (Xo P x) (Ws t) ((JJ b).map λt=>Ws (some t)) a.2|none=>Vm a.1,Qu))
  (λf ps _ _ a b=>(j7 (Xo P f) (ps.toList.map λt=>Ws (some t)) (Zg a.1 b.1),Qu))
  (λid=>(Vs id,Qu))
  (λ_ a=>(a.1,Qu))
  (λ_=>(Zc,Qu))
  (λ_=>(Qu,Qu))
  (YC,Qu)
  (λ_=>(Qu,Qu)) c
def ZdG(c:Code):D:=(yM P c).1
end
def params:List Yh:=[d N8.u0 N8.u0 N8.u0,d N8.u1 N8.u0 N8.u0,d N8.u2 N8.u0 N8.u0,d N8.u3 N8.u0 N8.u0,d N8.u4 N8.u0 N8.u0,d N8.u5 N8.u0 N8.u0,d N8.u6 N8.u0 N8.u0,d N8.u7 N8.u0 N8.u0,
 d N8.u0 N8.u1 N8.u0,d N8.u1 N8.u1 N8.u0,d N8.u2 N8.u1 N8.u0,d N8.u3 N8.u1 N8.u0,d N8.u4 N8.u1 N8.u0,d N8.u5 N8.u1 N8.u0,d N8.u6 N8.u1 N8.u0,d N8.u7 N8.u1 N8.u0]
def Sp(as:List AV):TM:=P1 NZ params as
structure CF where
 rs:List (YF×Option (Nat×Bool))
 body:D
def ZcJ(tm:TM)(H:Heap)(r:YF×Option (Nat×Bool))(k:AV->CR):CR:=match r.2 with
 |none=>k (r.1 tm)
 |some (n,ag)=>match r.1 tm with
  |.ptr b o=>match H.t.get b with
   |some (.row r)=>cond (Nat.ble (Nat.add o n) r.size) (cond ag (k (.agg (W9 r o n))) (k (r.get o))) .fail
   |_=>.fail
  |_=>.fail
def P9(tm:TM)(H:Heap)(k:List AV->CR):List (YF×Option (Nat×Bool))->CR
 |[]=>k []
 |r::l=>ZcJ tm H r λv=>P9 tm H (λvs=>k (v::vs)) l
def results(rs:List (YF×Option (Nat×Bool)))(tm:TM)(H:Heap):CR:=
 P9 tm H (λvs=>match vs with|[v]=>.ret v H|vs=>.ret (.tup vs) H) rs
inductive DR where
 |fail
 |ret (v:AV) (H:Heap) (rec:Bool)
 |pan (v:AV) (H:Heap) (rec:Bool)
def NT(rc:Option AV)(x:X):Bool:=match rc,x.rc with|some _,none=>true|_,_=>false
def deferred(dcall:Option AV->Nat->List AV->Heap->DR)(rs:List (YF×Option (Nat×Bool)))(tm:TM):List (AV×List AV)->Option AV->Heap->CR
 |[],none,H=>results rs tm H
 |[],some v,H=>.pan v H
 |d::l,pn,H=>match d.1 with
  |.func g a b=>match dcall pn g (a++(d.2++b)) H with
   |.ret _ H rec=>deferred dcall rs tm l (cond rec none pn) H
   |_=>.fail
  |_=>.fail
def MM(dcall:Option AV->Nat->List AV->Heap->DR)(rs:List (YF×Option (Nat×Bool)))(r:WQ):CR:=match r with
 |.ok .normal tm H x=>match x.df with|[]=>results rs tm H|df=>deferred dcall rs tm df none H
 |.ok .ret tm H x=>match x.df with|[]=>results rs tm H|df=>deferred dcall rs tm df none H
 |.ok (.pan v) tm H x=>match x.df with|[]=>.pan v H|df=>deferred dcall rs tm df (some v) H
 |_=>.fail
def HN(rc:Option AV)(rs:List (YF×Option (Nat×Bool)))(r:WQ):DR:=match r with
 |.ok .normal tm H x=>match x.df,results rs tm H with|[],.ret v H=>.ret v H (NT rc x)|_,_=>.fail
 |.ok .ret tm H x=>match x.df,results rs tm H with|[],.ret v H=>.ret v H (NT rc x)|_,_=>.fail
 |.ok (.pan v) _ H x=>match x.df with|[]=>.pan v H (NT rc x)|_=>.fail
 |_=>.fail
def bX(r:CR)(tm:TM)(x:X):WQ:=match r with
 |.ret _ H=>.ok .normal tm H x
 |.pan v H=>.ok (.pan v) tm H x
 |.fail=>.fail
def HM{α:Type}(d:α)(fs:T CF)(f:Nat)(k:CF->α):α:=match fs.get f with|some cf=>k cf|none=>d
def HU(fs:T CF)(fuel:Nat)(call:Nat->List AV->Heap->CR)(f:AV)(round:List AV->Heap->CR)(tm:TM)(H:Heap)(x:X):WQ:=match f with
 |.func g a b=>HM .fail fs g λcf=>
  bX (MM (λ_ _ _ _=>.fail) cf.rs (cf.body ⟨call,λl ys H'=>cond (Nat.beq l H.nx) (round ys H') .fail,UZ,fuel,false⟩
   (Sp (a++(.yield H.nx::b))) (H.new .loop) ⟨[],none⟩)) tm x
 |_=>.fail
def rl(r:Option CR)(k:CR):CR:=Option.rec k (λr=>r) r
def Z7(lib:Nat->List AV->Heap->Option CR)(fs:T CF)(fuel:Nat)(n:Nat):Nat->List AV->Heap->CR:=
 @Nat.rec (λ_=>Nat->List AV->Heap->CR) (λ_ _ _=>.fail) (λ_ ih f args H=>rl (lib f args H) (HM .fail fs f λcf=>
  MM (λpn g as H=>HM .fail fs g λcg=>HN pn cg.rs (cg.body ⟨ih,UH,UZ,fuel,false⟩ (Sp as) H ⟨[],pn⟩))
   cf.rs (cf.body ⟨ih,UH,HU fs fuel ih,fuel,false⟩ (Sp args) H ⟨[],none⟩))) n
def Dt(n:Nat)(d:Option Nat):Bool:=match d with|some t=>Nat.ble (Nat.succ t) n|none=>true
def Q5(n:Nat)(c:Code):Bool:=
 Code.rec (motive:=λ_=>Bool) true (λ_ ops _=>ops.toList.all λo=>Dt n o.dst) (λ_ _ a b=>cond a b false) (λ_ _ _ a b=>cond a b false) (λ_ _ a=>a) (λ_ a=>a)
  (λ_ ps _ _ a b=>cond (ps.toList.all λt=>Dt n (some t)) (cond a b false) false) (λ_=>true) (λ_ a=>a) (λ_=>true) (λ_=>true) true (λ_=>true) c
def It(P:Program)(r:ResultVar):Bool:=match r with|.tmp _=>true|.cell _ t=>(P.info? t).isSome&&(P.underlying t).isSome&&Nat.ble 1 (P.cellsOf t)
def GA(P:Program)(f:Func):CF:=
 ⟨f.results.toList.map λr=>match r with|.tmp t=>(Xo P (.tmp t),none)|.cell a t=>(Xo P (.tmp a),some (P.cellsOf t,Nu P t)),
  match f.body with|some c=>cond (f.results.toList.all (It P)) (cond (Q5 f.ntmps c) (ZdG P c) Qu) Qu|none=>Qu⟩
def Zj0(P:Program):T CF:=T.ofList (P.funcs.toList.map (GA P))
def nI(k:IntKind)(n:Nat):AV:=.int k (.ofNat n)
def YX:YF:=e N8.a0 N8.a0 N8.a0
def Wj:YF:=e N8.a1 N8.a0 N8.a0
def VE:YF:=e N8.a2 N8.a0 N8.a0
def V5:YF:=e N8.a3 N8.a0 N8.a0
def XY:YF:=e N8.a4 N8.a0 N8.a0
def X2:YF:=e N8.a5 N8.a0 N8.a0
def WA:YF:=e N8.a6 N8.a0 N8.a0
def Wt:YF:=e N8.a7 N8.a0 N8.a0
def Wi:YF:=e N8.a0 N8.a1 N8.a0
def WV:YF:=e N8.a1 N8.a1 N8.a0
def XD:YF:=e N8.a2 N8.a1 N8.a0
def XQ:YF:=e N8.a3 N8.a1 N8.a0
def XS:YF:=e N8.a4 N8.a1 N8.a0
def XG:YF:=e N8.a5 N8.a1 N8.a0
def X5:YF:=e N8.a6 N8.a1 N8.a0
def Wh:YF:=e N8.a7 N8.a1 N8.a0
def X8:YF:=e N8.a0 N8.a2 N8.a0
def WI:YF:=e N8.a1 N8.a2 N8.a0
def Wv:YF:=e N8.a2 N8.a2 N8.a0
def WM:YF:=e N8.a3 N8.a2 N8.a0
def Vl:YF:=e N8.a4 N8.a2 N8.a0
def VY:YF:=e N8.a5 N8.a2 N8.a0
def VQ:YF:=e N8.a6 N8.a2 N8.a0
def VR:YF:=e N8.a7 N8.a2 N8.a0
def VS:YF:=e N8.a0 N8.a3 N8.a0
def Uz:YF:=e N8.a1 N8.a3 N8.a0
def V7:YF:=e N8.a2 N8.a3 N8.a0
def Ud:YF:=e N8.a3 N8.a3 N8.a0
def V8:YF:=e N8.a4 N8.a3 N8.a0
def VW:YF:=e N8.a5 N8.a3 N8.a0
def Tm:YF:=e N8.a6 N8.a3 N8.a0
def TO:YF:=e N8.a7 N8.a3 N8.a0
def TG:YF:=e N8.a0 N8.a4 N8.a0
def T4:YF:=e N8.a1 N8.a4 N8.a0
def Sf:YF:=e N8.a2 N8.a4 N8.a0
def TH:YF:=e N8.a3 N8.a4 N8.a0
def Pc:YF:=e N8.a4 N8.a4 N8.a0
def Qz:YF:=e N8.a5 N8.a4 N8.a0
def QA:YF:=e N8.a6 N8.a4 N8.a0
def Ri:YF:=e N8.a7 N8.a4 N8.a0
def QU:YF:=e N8.a0 N8.a5 N8.a0
def PX:YF:=e N8.a1 N8.a5 N8.a0
def RX:YF:=e N8.a2 N8.a5 N8.a0
def PC:YF:=e N8.a3 N8.a5 N8.a0
def QB:YF:=e N8.a4 N8.a5 N8.a0
def Oc:YF:=e N8.a5 N8.a5 N8.a0
def Od:YF:=e N8.a6 N8.a5 N8.a0
def Pd:YF:=e N8.a7 N8.a5 N8.a0
def NH:YF:=e N8.a0 N8.a6 N8.a0
def OD:YF:=e N8.a1 N8.a6 N8.a0
def MJ:YF:=e N8.a2 N8.a6 N8.a0
def Nq:YF:=e N8.a3 N8.a6 N8.a0
def N9:YF:=e N8.a4 N8.a6 N8.a0
def NI:YF:=e N8.a5 N8.a6 N8.a0
def Ma:YF:=e N8.a6 N8.a6 N8.a0
def Lb:YF:=e N8.a7 N8.a6 N8.a0
def MK:YF:=e N8.a0 N8.a7 N8.a0
def ML:YF:=e N8.a1 N8.a7 N8.a0
def OW:YF:=e N8.a2 N8.a7 N8.a0
def Lc:YF:=e N8.a3 N8.a7 N8.a0
def OX:YF:=e N8.a4 N8.a7 N8.a0
def Mb:YF:=e N8.a5 N8.a7 N8.a0
def Ld:YF:=e N8.a6 N8.a7 N8.a0
def Kk:YF:=e N8.a7 N8.a7 N8.a0
def K1:YF:=e N8.a0 N8.a0 N8.a1
def NJ:YF:=e N8.a1 N8.a0 N8.a1
def NK:YF:=e N8.a2 N8.a0 N8.a1
def Le:YF:=e N8.a3 N8.a0 N8.a1
def Hn:YF:=e N8.a4 N8.a0 N8.a1
def Ho:YF:=e N8.a5 N8.a0 N8.a1
def K2:YF:=e N8.a6 N8.a0 N8.a1
def JW:YF:=e N8.a7 N8.a0 N8.a1
def OE:YF:=e N8.a0 N8.a1 N8.a1
def JX:YF:=e N8.a1 N8.a1 N8.a1
def JY:YF:=e N8.a2 N8.a1 N8.a1
def JZ:YF:=e N8.a3 N8.a1 N8.a1
def Hp:YF:=e N8.a4 N8.a1 N8.a1
def Fx:YF:=e N8.a5 N8.a1 N8.a1
def Lf:YF:=e N8.a6 N8.a1 N8.a1
def Kl:YF:=e N8.a7 N8.a1 N8.a1
def Hq:YF:=e N8.a0 N8.a2 N8.a1
def Ht:YF:=e N8.a1 N8.a2 N8.a1
def Hu:YF:=e N8.a2 N8.a2 N8.a1
def Hv:YF:=e N8.a3 N8.a2 N8.a1
def PY:YF:=e N8.a4 N8.a2 N8.a1
def Lg:YF:=e N8.a5 N8.a2 N8.a1
def Fy:YF:=e N8.a6 N8.a2 N8.a1
def Fz:YF:=e N8.a7 N8.a2 N8.a1
def J0:YF:=e N8.a0 N8.a3 N8.a1
def FA:YF:=e N8.a1 N8.a3 N8.a1
def Hw:YF:=e N8.a2 N8.a3 N8.a1
def EZ:YF:=e N8.a3 N8.a3 N8.a1
def Km:YF:=e N8.a4 N8.a3 N8.a1
def E0:YF:=e N8.a5 N8.a3 N8.a1
def Ci:YF:=e N8.a6 N8.a3 N8.a1
def Cj:YF:=e N8.a7 N8.a3 N8.a1
def J1:YF:=e N8.a0 N8.a4 N8.a1
def Ck:YF:=e N8.a1 N8.a4 N8.a1
def xg:YF:=e N8.a2 N8.a4 N8.a1
def E1:YF:=e N8.a3 N8.a4 N8.a1
def M6:YF:=e N8.a4 N8.a4 N8.a1
def JU:YF:=e N8.a5 N8.a4 N8.a1
def Mx:YF:=e N8.a6 N8.a4 N8.a1
def EU:YF:=e N8.a7 N8.a4 N8.a1
def Nd:YF:=e N8.a0 N8.a5 N8.a1
def M7:YF:=e N8.a1 N8.a5 N8.a1
def Ky:YF:=e N8.a2 N8.a5 N8.a1
def M8:YF:=e N8.a3 N8.a5 N8.a1
def Bp:YF:=e N8.a4 N8.a5 N8.a1
def EV:YF:=e N8.a5 N8.a5 N8.a1
def EW:YF:=e N8.a6 N8.a5 N8.a1
def My:YF:=e N8.a7 N8.a5 N8.a1
def GM:YF:=e N8.a0 N8.a6 N8.a1
def GN:YF:=e N8.a1 N8.a6 N8.a1
def M9:YF:=e N8.a2 N8.a6 N8.a1
def GO:YF:=e N8.a3 N8.a6 N8.a1
def GP:YF:=e N8.a4 N8.a6 N8.a1
def EX:YF:=e N8.a5 N8.a6 N8.a1
def GQ:YF:=e N8.a6 N8.a6 N8.a1
def GR:YF:=e N8.a7 N8.a6 N8.a1
def GS:YF:=e N8.a0 N8.a7 N8.a1
def NF:YF:=e N8.a1 N8.a7 N8.a1
def EY:YF:=e N8.a2 N8.a7 N8.a1
def GU:YF:=e N8.a3 N8.a7 N8.a1
def NG:YF:=e N8.a4 N8.a7 N8.a1
def Bq:YF:=e N8.a5 N8.a7 N8.a1
def Br:YF:=e N8.a6 N8.a7 N8.a1
def Bs:YF:=e N8.a7 N8.a7 N8.a1
def JV:YF:=e N8.a0 N8.a0 N8.a2
def Bt:YF:=e N8.a1 N8.a0 N8.a2
def La:YF:=e N8.a2 N8.a0 N8.a2
def Bu:YF:=e N8.a3 N8.a0 N8.a2
def Mz:YF:=e N8.a4 N8.a0 N8.a2
def Bv:YF:=e N8.a5 N8.a0 N8.a2
def Bw:YF:=e N8.a6 N8.a0 N8.a2
def Bx:YF:=e N8.a7 N8.a0 N8.a2
def y5:YF:=e N8.a0 N8.a1 N8.a2
def y6:YF:=e N8.a1 N8.a1 N8.a2
def y7:YF:=e N8.a2 N8.a1 N8.a2
def y8:YF:=e N8.a3 N8.a1 N8.a2
def y9:YF:=e N8.a4 N8.a1 N8.a2
def xa:YF:=e N8.a5 N8.a1 N8.a2
def xb:YF:=e N8.a6 N8.a1 N8.a2
def sM:YF:=e N8.a7 N8.a1 N8.a2
def sN:YF:=e N8.a0 N8.a2 N8.a2
def xc:YF:=e N8.a1 N8.a2 N8.a2
def By:YF:=e N8.a2 N8.a2 N8.a2
def Bz:YF:=e N8.a3 N8.a2 N8.a2
def BA:YF:=e N8.a4 N8.a2 N8.a2
def BB:YF:=e N8.a5 N8.a2 N8.a2
def BC:YF:=e N8.a6 N8.a2 N8.a2
def BD:YF:=e N8.a7 N8.a2 N8.a2
def BE:YF:=e N8.a0 N8.a3 N8.a2
def BF:YF:=e N8.a1 N8.a3 N8.a2
def BG:YF:=e N8.a2 N8.a3 N8.a2
def BH:YF:=e N8.a3 N8.a3 N8.a2
def xd:YF:=e N8.a4 N8.a3 N8.a2
def xe:YF:=e N8.a5 N8.a3 N8.a2
def lL:YF:=e N8.a6 N8.a3 N8.a2
def lM:YF:=e N8.a7 N8.a3 N8.a2
def lN:YF:=e N8.a0 N8.a4 N8.a2
def lO:YF:=e N8.a1 N8.a4 N8.a2
def lP:YF:=e N8.a2 N8.a4 N8.a2
def xf:YF:=e N8.a3 N8.a4 N8.a2
def lQ:YF:=e N8.a4 N8.a4 N8.a2
def lR:YF:=e N8.a5 N8.a4 N8.a2
def lS:YF:=e N8.a6 N8.a4 N8.a2
def ai:YF:=e N8.a7 N8.a4 N8.a2
def aj:YF:=e N8.a0 N8.a5 N8.a2
def am:YF:=e N8.a1 N8.a5 N8.a2
def an:YF:=e N8.a2 N8.a5 N8.a2
def aq:YF:=e N8.a3 N8.a5 N8.a2
def au:YF:=e N8.a4 N8.a5 N8.a2
def aw:YF:=e N8.a5 N8.a5 N8.a2
def ax:YF:=e N8.a6 N8.a5 N8.a2
def sO:YF:=e N8.a7 N8.a5 N8.a2
def sP:YF:=e N8.a0 N8.a6 N8.a2
def ay:YF:=e N8.a1 N8.a6 N8.a2
def az:YF:=e N8.a2 N8.a6 N8.a2
def aA:YF:=e N8.a3 N8.a6 N8.a2
def aB:YF:=e N8.a4 N8.a6 N8.a2
def aC:YF:=e N8.a5 N8.a6 N8.a2
def aD:YF:=e N8.a6 N8.a6 N8.a2
def aE:YF:=e N8.a7 N8.a6 N8.a2
def aF:YF:=e N8.a0 N8.a7 N8.a2
def aG:YF:=e N8.a1 N8.a7 N8.a2
def aH:YF:=e N8.a2 N8.a7 N8.a2
def ZdR:YF:=e N8.a3 N8.a7 N8.a2
def ZdS:YF:=e N8.a4 N8.a7 N8.a2
def ZdT:YF:=e N8.a5 N8.a7 N8.a2
def ZdU:YF:=e N8.a6 N8.a7 N8.a2
def ZdV:YF:=e N8.a7 N8.a7 N8.a2
def st0:Yh:=d N8.u0 N8.u0 N8.u0
def st1:Yh:=d N8.u1 N8.u0 N8.u0
def st2:Yh:=d N8.u2 N8.u0 N8.u0
def VK:Yh:=d N8.u3 N8.u0 N8.u0
def XB:Yh:=d N8.u4 N8.u0 N8.u0
def Vd:Yh:=d N8.u5 N8.u0 N8.u0
def Ve:Yh:=d N8.u6 N8.u0 N8.u0
def VT:Yh:=d N8.u7 N8.u0 N8.u0
def VL:Yh:=d N8.u0 N8.u1 N8.u0
def UO:Yh:=d N8.u1 N8.u1 N8.u0
def X6:Yh:=d N8.u2 N8.u1 N8.u0
def Wg:Yh:=d N8.u3 N8.u1 N8.u0
def Wl:Yh:=d N8.u4 N8.u1 N8.u0
def Wk:Yh:=d N8.u5 N8.u1 N8.u0
def WE:Yh:=d N8.u6 N8.u1 N8.u0
def WN:Yh:=d N8.u7 N8.u1 N8.u0
def WJ:Yh:=d N8.u0 N8.u2 N8.u0
def WZ:Yh:=d N8.u1 N8.u2 N8.u0
def W4:Yh:=d N8.u2 N8.u2 N8.u0
def VA:Yh:=d N8.u3 N8.u2 N8.u0
def VJ:Yh:=d N8.u4 N8.u2 N8.u0
def Uq:Yh:=d N8.u5 N8.u2 N8.u0
def Uu:Yh:=d N8.u6 N8.u2 N8.u0
def Uv:Yh:=d N8.u7 N8.u2 N8.u0
def Uw:Yh:=d N8.u0 N8.u3 N8.u0
def UE:Yh:=d N8.u1 N8.u3 N8.u0
def UN:Yh:=d N8.u2 N8.u3 N8.u0
def UF:Yh:=d N8.u3 N8.u3 N8.u0
def UW:Yh:=d N8.u4 N8.u3 N8.u0
def Ti:Yh:=d N8.u5 N8.u3 N8.u0
def Tn:Yh:=d N8.u6 N8.u3 N8.u0
def T5:Yh:=d N8.u7 N8.u3 N8.u0
def T6:Yh:=d N8.u0 N8.u4 N8.u0
def SB:Yh:=d N8.u1 N8.u4 N8.u0
def Rn:Yh:=d N8.u2 N8.u4 N8.u0
def Rx:Yh:=d N8.u3 N8.u4 N8.u0
def QN:Yh:=d N8.u4 N8.u4 N8.u0
def QO:Yh:=d N8.u5 N8.u4 N8.u0
def QX:Yh:=d N8.u6 N8.u4 N8.u0
def PP:Yh:=d N8.u7 N8.u4 N8.u0
def P2:Yh:=d N8.u0 N8.u5 N8.u0
def P3:Yh:=d N8.u1 N8.u5 N8.u0
def P4:Yh:=d N8.u2 N8.u5 N8.u0
def Ps:Yh:=d N8.u3 N8.u5 N8.u0
def ON:Yh:=d N8.u4 N8.u5 N8.u0
def O0:Yh:=d N8.u5 N8.u5 N8.u0
def O1:Yh:=d N8.u6 N8.u5 N8.u0
def O2:Yh:=d N8.u7 N8.u5 N8.u0
def Nw:Yh:=d N8.u0 N8.u6 N8.u0
def Nx:Yh:=d N8.u1 N8.u6 N8.u0
def Mo:Yh:=d N8.u2 N8.u6 N8.u0
def MN:Yh:=d N8.u3 N8.u6 N8.u0
def MO:Yh:=d N8.u4 N8.u6 N8.u0
def Mq:Yh:=d N8.u5 N8.u6 N8.u0
def Mr:Yh:=d N8.u6 N8.u6 N8.u0
def MP:Yh:=d N8.u7 N8.u6 N8.u0
def MQ:Yh:=d N8.u0 N8.u7 N8.u0
def MR:Yh:=d N8.u1 N8.u7 N8.u0
def LN:Yh:=d N8.u2 N8.u7 N8.u0
def LP:Yh:=d N8.u3 N8.u7 N8.u0
def MT:Yh:=d N8.u4 N8.u7 N8.u0
def LQ:Yh:=d N8.u5 N8.u7 N8.u0
def LR:Yh:=d N8.u6 N8.u7 N8.u0
def LS:Yh:=d N8.u7 N8.u7 N8.u0
def Jl:Yh:=d N8.u0 N8.u0 N8.u1
def Jm:Yh:=d N8.u1 N8.u0 N8.u1
def Jn:Yh:=d N8.u2 N8.u0 N8.u1
def Jo:Yh:=d N8.u3 N8.u0 N8.u1
def Gd:Yh:=d N8.u4 N8.u0 N8.u1
def Ge:Yh:=d N8.u5 N8.u0 N8.u1
def Gf:Yh:=d N8.u6 N8.u0 N8.u1
def Gg:Yh:=d N8.u7 N8.u0 N8.u1
def IJ:Yh:=d N8.u0 N8.u1 N8.u1
def IK:Yh:=d N8.u1 N8.u1 N8.u1
def IL:Yh:=d N8.u2 N8.u1 N8.u1
def IM:Yh:=d N8.u3 N8.u1 N8.u1
def Gh:Yh:=d N8.u4 N8.u1 N8.u1
def FH:Yh:=d N8.u5 N8.u1 N8.u1
def FI:Yh:=d N8.u6 N8.u1 N8.u1
def Gi:Yh:=d N8.u7 N8.u1 N8.u1
def Gj:Yh:=d N8.u0 N8.u2 N8.u1
def Gk:Yh:=d N8.u1 N8.u2 N8.u1
def Gl:Yh:=d N8.u2 N8.u2 N8.u1
def Gm:Yh:=d N8.u3 N8.u2 N8.u1
def Gn:Yh:=d N8.u4 N8.u2 N8.u1
def FJ:Yh:=d N8.u5 N8.u2 N8.u1
def FK:Yh:=d N8.u6 N8.u2 N8.u1
def FM:Yh:=d N8.u7 N8.u2 N8.u1
def FN:Yh:=d N8.u0 N8.u3 N8.u1
def FO:Yh:=d N8.u1 N8.u3 N8.u1
def DP:Yh:=d N8.u2 N8.u3 N8.u1
def DQ:Yh:=d N8.u3 N8.u3 N8.u1
def DS:Yh:=d N8.u4 N8.u3 N8.u1
def DT:Yh:=d N8.u5 N8.u3 N8.u1
def Cy:Yh:=d N8.u6 N8.u3 N8.u1
def Cz:Yh:=d N8.u7 N8.u3 N8.u1
def CA:Yh:=d N8.u0 N8.u4 N8.u1
def CB:Yh:=d N8.u1 N8.u4 N8.u1
def ye:Yh:=d N8.u2 N8.u4 N8.u1
def yf:Yh:=d N8.u3 N8.u4 N8.u1
def IF:Yh:=d N8.u4 N8.u4 N8.u1
def IG:Yh:=d N8.u5 N8.u4 N8.u1
def G9:Yh:=d N8.u6 N8.u4 N8.u1
def Fa:Yh:=d N8.u7 N8.u4 N8.u1
def Fb:Yh:=d N8.u0 N8.u5 N8.u1
def Fc:Yh:=d N8.u1 N8.u5 N8.u1
def Fd:Yh:=d N8.u2 N8.u5 N8.u1
def Fe:Yh:=d N8.u3 N8.u5 N8.u1
def DN:Yh:=d N8.u4 N8.u5 N8.u1
def DO:Yh:=d N8.u5 N8.u5 N8.u1
def Ff:Yh:=d N8.u6 N8.u5 N8.u1
def Fg:Yh:=d N8.u7 N8.u5 N8.u1
def Fh:Yh:=d N8.u0 N8.u6 N8.u1
def Fi:Yh:=d N8.u1 N8.u6 N8.u1
def Fj:Yh:=d N8.u2 N8.u6 N8.u1
def Fk:Yh:=d N8.u3 N8.u6 N8.u1
def Fl:Yh:=d N8.u4 N8.u6 N8.u1
def Fm:Yh:=d N8.u5 N8.u6 N8.u1
def Fo:Yh:=d N8.u6 N8.u6 N8.u1
def Fp:Yh:=d N8.u7 N8.u6 N8.u1
def Fq:Yh:=d N8.u0 N8.u7 N8.u1
def Fr:Yh:=d N8.u1 N8.u7 N8.u1
def Fs:Yh:=d N8.u2 N8.u7 N8.u1
def IH:Yh:=d N8.u3 N8.u7 N8.u1
def II:Yh:=d N8.u4 N8.u7 N8.u1
def Ag:Yh:=d N8.u5 N8.u7 N8.u1
def Ah:Yh:=d N8.u6 N8.u7 N8.u1
def Ai:Yh:=d N8.u7 N8.u7 N8.u1
def Aj:Yh:=d N8.u0 N8.u0 N8.u2
def Ak:Yh:=d N8.u1 N8.u0 N8.u2
def Al:Yh:=d N8.u2 N8.u0 N8.u2
def Am:Yh:=d N8.u3 N8.u0 N8.u2
def An:Yh:=d N8.u4 N8.u0 N8.u2
def Ao:Yh:=d N8.u5 N8.u0 N8.u2
def Ap:Yh:=d N8.u6 N8.u0 N8.u2
def Aq:Yh:=d N8.u7 N8.u0 N8.u2
def wH:Yh:=d N8.u0 N8.u1 N8.u2
def wI:Yh:=d N8.u1 N8.u1 N8.u2
def wJ:Yh:=d N8.u2 N8.u1 N8.u2
def wK:Yh:=d N8.u3 N8.u1 N8.u2
def wL:Yh:=d N8.u4 N8.u1 N8.u2
def wM:Yh:=d N8.u5 N8.u1 N8.u2
def wN:Yh:=d N8.u6 N8.u1 N8.u2
def r6:Yh:=d N8.u7 N8.u1 N8.u2
def r7:Yh:=d N8.u0 N8.u2 N8.u2
def wO:Yh:=d N8.u1 N8.u2 N8.u2
def Ar:Yh:=d N8.u2 N8.u2 N8.u2
def As:Yh:=d N8.u3 N8.u2 N8.u2
def Au:Yh:=d N8.u4 N8.u2 N8.u2
def Av:Yh:=d N8.u5 N8.u2 N8.u2
def Aw:Yh:=d N8.u6 N8.u2 N8.u2
def Ax:Yh:=d N8.u7 N8.u2 N8.u2
def Ay:Yh:=d N8.u0 N8.u3 N8.u2
def Az:Yh:=d N8.u1 N8.u3 N8.u2
def AA:Yh:=d N8.u2 N8.u3 N8.u2
def AB:Yh:=d N8.u3 N8.u3 N8.u2
def wP:Yh:=d N8.u4 N8.u3 N8.u2
def wQ:Yh:=d N8.u5 N8.u3 N8.u2
def iS:Yh:=d N8.u6 N8.u3 N8.u2
def iT:Yh:=d N8.u7 N8.u3 N8.u2
def iU:Yh:=d N8.u0 N8.u4 N8.u2
def iV:Yh:=d N8.u1 N8.u4 N8.u2
def iW:Yh:=d N8.u2 N8.u4 N8.u2
def iX:Yh:=d N8.u3 N8.u4 N8.u2
def iY:Yh:=d N8.u4 N8.u4 N8.u2
def iZ:Yh:=d N8.u5 N8.u4 N8.u2
def i6:Yh:=d N8.u6 N8.u4 N8.u2
def Zai:Yh:=d N8.u7 N8.u4 N8.u2
def Zaj:Yh:=d N8.u0 N8.u5 N8.u2
def Zak:Yh:=d N8.u1 N8.u5 N8.u2
def Zal:Yh:=d N8.u2 N8.u5 N8.u2
def Zam:Yh:=d N8.u3 N8.u5 N8.u2
def Zan:Yh:=d N8.u4 N8.u5 N8.u2
def Zao:Yh:=d N8.u5 N8.u5 N8.u2
def Zap:Yh:=d N8.u6 N8.u5 N8.u2
def Zaq:Yh:=d N8.u7 N8.u5 N8.u2
def Zar:Yh:=d N8.u0 N8.u6 N8.u2
def Zas:Yh:=d N8.u1 N8.u6 N8.u2
def Zat:Yh:=d N8.u2 N8.u6 N8.u2
def Zau:Yh:=d N8.u3 N8.u6 N8.u2
def Zav:Yh:=d N8.u4 N8.u6 N8.u2
def Zaw:Yh:=d N8.u5 N8.u6 N8.u2
def Zax:Yh:=d N8.u6 N8.u6 N8.u2
def Zay:Yh:=d N8.u7 N8.u6 N8.u2
def Zaz:Yh:=d N8.u0 N8.u7 N8.u2
def ZaA:Yh:=d N8.u1 N8.u7 N8.u2
def ZaB:Yh:=d N8.u2 N8.u7 N8.u2
def Zfh:Yh:=d N8.u3 N8.u7 N8.u2
def Zfi:Yh:=d N8.u4 N8.u7 N8.u2
def Zfj:Yh:=d N8.u5 N8.u7 N8.u2
def Zfk:Yh:=d N8.u6 N8.u7 N8.u2
def Zfl:Yh:=d N8.u7 N8.u7 N8.u2
end
end Go.AI
