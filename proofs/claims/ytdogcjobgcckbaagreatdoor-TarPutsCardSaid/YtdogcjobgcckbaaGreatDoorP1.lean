/- The interpreter of my own for the model's code: its values, its operations, how code is compiled; definitions alone, no conditions. -/
import Derived.Calls
import GoSem.Step
set_option maxRecDepth 1000000
set_option maxHeartbeats 0
set_option linter.unusedVariables false
set_option linter.unusedSimpArgs false
namespace Go.AI
abbrev Zb:= @decide_eq_false
abbrev Zf:= @List.getD_eq_getElem?_getD
abbrev Zk:= @Nat.ble_eq_true_of_le
abbrev Ze:= @decide_eq_true
abbrev Zm:= @of_decide_eq_true
abbrev Zp:= @Nat.le_refl
abbrev Zl:= @List.getElem?_eq_getElem
abbrev ZS:= @List.length_cons
abbrev Zd:= @Nat.zero_add
abbrev Z9:= @List.take_of_length_le
abbrev Zt:= @List.mem_cons_self
abbrev ZT:= @Nat.lt_of_lt_of_le
abbrev Zj:= @List.length_append
abbrev Zz:= @List.mem_cons_of_mem
abbrev ZN:= @Nat.eq_of_beq_eq_true
abbrev ZR:= @Nat.le_of_ble_eq_true
abbrev Yk:= @List.drop_zero
abbrev Zx:= @List.length_map
abbrev YB:= @Nat.mod_eq_of_lt
abbrev SD:= @List.length_nil
abbrev YM:= @Nat.lt_succ_self
abbrev ZQ:= @Array.getElem?_eq_some_iff
abbrev Zg:= @Nat.add_zero
abbrev Zr:= @List.mem_append
abbrev ZZ:= @Nat.zero_le
abbrev Z5:= @Nat.le_trans
abbrev Wk:= @Nat.add_sub_cancel
abbrev ZO:= @List.mem_cons
abbrev Y0:= @Nat.beq_refl
abbrev X9:= @Bool.true_and
abbrev Z7:= @Bool.false_and
abbrev Y1:= @List.getElem?_eq_none
abbrev ZC:= @List.length_take
abbrev Yf:= @Array.getElem?_toList
abbrev ZX:= @Array.getD_eq_getD_getElem?
abbrev YO:= @List.length_eq_zero_iff
abbrev Yh:= @List.getElem?_append_left
abbrev YC:= @Int.ofNat_eq_natCast
abbrev Ua:= @List.not_mem_nil
abbrev Vg:= @List.cons_append
abbrev Xd:= @List.getElem_mem
abbrev VD:= @Nat.mul_le_mul_right
abbrev Ub:= @Nat.lt_of_le_of_lt
abbrev N1:= @Nat.le_of_lt
abbrev Tc:= @List.length_pos_iff
abbrev Rq:= @Nat.sub_self
abbrev WF:= @Nat.mod_lt
abbrev TV:= @List.drop_eq_nil_of_le
abbrev YE:= @List.getElem?_map
abbrev Xj:= @List.append_assoc
abbrev T4:= @Nat.not_lt_zero
abbrev Qn:= @List.getElem_of_mem
abbrev Y8:= @List.drop_succ_cons
abbrev XV:= @List.take_length
abbrev U5:= @Nat.lt_irrefl
abbrev Yw:= @Bool.and_eq_true
abbrev Zi:= @List.forall_mem_cons
abbrev Vo:= @Array.mem_of_getElem?
abbrev Yo:= @List.all_eq_true
abbrev VM:= @Option.isSome_iff_exists
abbrev YX:= @Array.getElem?_setIfInBounds
abbrev Vb:= @Bool.eq_iff_iff
abbrev XA:= @Bool.false_eq_true
abbrev Qj:= @Nat.lt_succ_of_le
abbrev UN:= @UInt8.toNat_inj
abbrev V5:= @UInt8.lt_iff_toNat_lt
abbrev QA:= @Nat.pow_add
abbrev Wl:= @Nat.min_eq_left
abbrev Tv:= @Nat.min_eq_right
abbrev XR:= @Nat.add_assoc
abbrev W4:= @List.extract_eq_take_drop
abbrev VC:= @List.mem_of_mem_drop
abbrev X5:= @List.mem_of_mem_take
abbrev XX:= @Int.toNat_natCast
abbrev Xl:= @Nat.mul_one
abbrev XZ:= @Option.map_some
abbrev WB:= @Array.getElem?_modify
abbrev W3:= @Array.getElem?_eq_getElem
abbrev VB:= @List.mem_of_getElem?
abbrev Wj:= @List.getElem?_toArray
abbrev XO:= @List.getElem?_replicate
abbrev Wa:= @List.replicate_succ
abbrev Wf:= @List.foldl_cons
abbrev WQ:= @List.ext_getElem?
abbrev Yi:= @List.getElem?_append_right
abbrev Xa:= @List.getElem?_drop
abbrev ZD:= @List.map_cons
abbrev Uz:= @Bool.or_eq_true
abbrev XY:= @List.flatten_cons
abbrev WC:= @Nat.add_mul
abbrev Ro:= @Array.toList_map
abbrev VA:= @List.getElem?_range
abbrev YQ:= @List.mem_map
abbrev Sk:= @List.map_replicate
abbrev Vh:= @Nat.zero_mul
abbrev VL:= @Nat.le_succ
abbrev SX:= @Nat.div_add_mod
abbrev VW:= @Nat.mul_comm
abbrev UM:= @Option.map_none
abbrev RU:= @Bool.and_true
abbrev QV:= @Bool.true_or
abbrev QY:= @Nat.zero_div
abbrev Qo:= @Nat.div_lt_iff_lt_mul
abbrev Ui:= @List.getElem?_cons_zero
abbrev Tl:= @List.getElem?_cons_succ
abbrev Y2:= @Bool.not_false
abbrev SY:= @Nat.le_mul_of_pos_right
abbrev Yq:= @Bool.not_true
abbrev T1:= @List.mem_range
abbrev Uj:= @Nat.add_sub_cancel_left
abbrev Qm:= @Bool.and_eq_true_iff
abbrev Sj:= @List.map_map
abbrev Sm:= @List.pairwise_cons
abbrev ZM:= @List.map_nil
abbrev Rp:= @List.getElem?_set
abbrev TA:= @List.mem_map_of_mem
abbrev Zq:= @List.mem_singleton
abbrev Uy:= @Array.getElem?_setIfInBounds_ne
abbrev T3:= @List.range'_succ
abbrev Td:= @List.mem_filterMap
abbrev RN:= @List.range_eq_range'
abbrev Tu:= @List.mem_filter
abbrev U7:= @List.filter_cons
abbrev Xi:= @Array.mem_toList_iff
abbrev ZY:= @List.nil_append
abbrev VV:= @List.getElem?_eq_some_iff
abbrev T0:= @Bool.not_eq_true'
abbrev Qz:= @Nat.one_mul
abbrev SW:= @List.drop_drop
abbrev QX:= @Nat.div_lt_of_lt_mul
abbrev Xv:= @List.map_append
abbrev QW:= @Nat.div_le_self
abbrev Xe:= @List.getElem?_take_of_lt
abbrev Ym:= @List.length_drop
abbrev ZH:= @List.length_replicate
abbrev UI:= @List.set_cons_succ
abbrev U8:= @List.length_tail
abbrev Wg:= @List.length_set
abbrev Yd:= @List.append_nil
abbrev WR:= @List.take_add_one
abbrev Sn:= @Nat.pow_succ
abbrev UP:= @List.flatten_append
abbrev TZ:= @Bool.eq_false_iff
abbrev YS:= @Bool.and_false
abbrev ZV:= @List.getD_cons_zero
abbrev Y3:= @List.take_succ_cons
abbrev YN:= @List.take_zero
abbrev YJ:= @List.getD_cons_succ
abbrev RO:= @Nat.div_div_eq_div_mul
abbrev So:= @Nat.succ_pos
abbrev TW:= @List.mem_iff_getElem
abbrev VK:= @List.take_append_drop
abbrev Qi:= @List.any_eq_true
end Go.AI
namespace Go.AI
open Go
noncomputable section
structure N8(α:Type) where
 a0:α
 a1:α
 a2:α
 a3:α
 a4:α
 a5:α
 a6:α
 a7:α
namespace N8
variable {α:Type}
def u0(f:α->α)(n:N8 α):N8 α:=N8.rec (λa b c d e g h i=>⟨f a,b,c,d,e,g,h,i⟩) n
def u1(f:α->α)(n:N8 α):N8 α:=N8.rec (λa b c d e g h i=>⟨a,f b,c,d,e,g,h,i⟩) n
def u2(f:α->α)(n:N8 α):N8 α:=N8.rec (λa b c d e g h i=>⟨a,b,f c,d,e,g,h,i⟩) n
def u3(f:α->α)(n:N8 α):N8 α:=N8.rec (λa b c d e g h i=>⟨a,b,c,f d,e,g,h,i⟩) n
def u4(f:α->α)(n:N8 α):N8 α:=N8.rec (λa b c d e g h i=>⟨a,b,c,d,f e,g,h,i⟩) n
def u5(f:α->α)(n:N8 α):N8 α:=N8.rec (λa b c d e g h i=>⟨a,b,c,d,e,f g,h,i⟩) n
def u6(f:α->α)(n:N8 α):N8 α:=N8.rec (λa b c d e g h i=>⟨a,b,c,d,e,g,f h,i⟩) n
def u7(f:α->α)(n:N8 α):N8 α:=N8.rec (λa b c d e g h i=>⟨a,b,c,d,e,g,h,f i⟩) n
def all(x:α):N8 α:=⟨x,x,x,x,x,x,x,x⟩
def proj(i:Nat):N8 α->α:=match i with|0=>a0|1=>a1|2=>a2|3=>a3|4=>a4|5=>a5|6=>a6|_=>a7
def upd(i:Nat):(α->α)->N8 α->N8 α:=match i with|0=>u0|1=>u1|2=>u2|3=>u3|4=>u4|5=>u5|6=>u6|_=>u7
end N8
inductive T(α:Type) where
 |leaf
 |node (l:T α) (v:Option α) (r:T α)
def JL(f:Nat):Nat->List Bool:= @Nat.rec (λ_=>Nat->List Bool) (λ_=>[]) (λ_ ih n=> @Bool.rec (λ_=>List Bool) (@Bool.rec (λ_=>List Bool) (false::ih (Nat.sub (Nat.div n 2) 1)) (true::ih (Nat.div n 2)) (Nat.beq (Nat.mod n 2) 1)) [] (Nat.beq n 0)) f
def bits(n:Nat):List Bool:=JL n n
namespace T
variable {α:Type}
def getB(t:T α):List Bool->Option α:=
 @T.rec α (λ_=>List Bool->Option α) (λ_=>none) (λ_ v _ gl gr bs=> @List.rec Bool (λ_=>Option α) v (λb bs _=> @Bool.rec (λ_=>Option α) (gr bs) (gl bs) b) bs) t
def single(x:α)(bs:List Bool):T α:= @List.rec Bool (λ_=>T α) (node leaf (some x) leaf) (λb _ ih=> @Bool.rec (λ_=>T α) (node leaf none ih) (node ih none leaf) b) bs
def setB(x:α)(t:T α):List Bool->T α:=
 @T.rec α (λ_=>List Bool->T α) (λbs=>single x bs) (λl v r sl sr bs=> @List.rec Bool (λ_=>T α) (node l (some x) r) (λb bs _=> @Bool.rec (λ_=>T α) (node l v (sr bs)) (node (sl bs) v r) b) bs) t
def delB(t:T α):List Bool->T α:=
 @T.rec α (λ_=>List Bool->T α) (λ_=>leaf) (λl v r sl sr bs=> @List.rec Bool (λ_=>T α) (node l none r) (λb bs _=> @Bool.rec (λ_=>T α) (node l v (sr bs)) (node (sl bs) v r) b) bs) t
def get(t:T α)(n:Nat):Option α:=getB t (bits n)
def set(t:T α)(n:Nat)(x:α):T α:=setB x t (bits n)
def del(t:T α)(n:Nat):T α:=delB t (bits n)
def U9:List α->List α
 |[]=>[]
 |[x]=>[x]
 |x::_::l=>x::U9 l
def TH:Nat->List α->T α
 |0,_=>leaf
 |_+1,[]=>leaf
 |f+1,x::l=>node (TH f (U9 l)) (some x) (TH f (U9 l.tail))
def Zir(l:List α):Nat:=List.rec 0 (λ_ _ n=>Nat.succ n) l
def ofList(l:List α):T α:=TH (Zir l) l
end T
inductive AV where
 |unk
 |bool (b:Bool)
 |int (k:IntKind) (n:Int)
 |str (s:List UInt8)
 |nilp
 |ptr (b o:Nat)
 |nils
 |slice (b o len:Nat) (cap:Option Nat)
 |slice0
 |nilm
 |map (b:Nat)
 |func (f:Nat) (first caps:List AV)
 |meth (name:String) (recv:AV)
 |yield (b:Nat)
 |nilf
 |iface (t:Nat) (v:AV)
 |nili
 |agg (cs:List AV)
 |tup (vs:List AV)
 deriving Inhabited
def AV.cells(v:AV):List AV:=
 AV.casesOn v [] (λb=>[.bool b]) (λk n=>[.int k n]) (λs=>[.str s]) [.nilp] (λb o=>[.ptr b o]) [.nils] (λb o l c=>[.slice b o l c]) [.slice0] [.nilm] (λb=>[.map b])
  (λf a b=>[.func f a b]) (λn r=>[.meth n r]) (λb=>[.yield b]) [.nilf] (λt v=>[.iface t v]) [.nili] (λcs=>cs) (λ_=>[])
structure Row where
 elem:Nat
 sz:Nat
 size:Nat
 cells:T AV
 dflt:AV
 fz:Nat
 sm:Bool
 own:Bool
 exact:Bool
structure SR where
 key:AV
 val:AV
 born:Nat
inductive Obj where
 |row (r:Row)
 |map (es:List SR) (clock:Nat)
 |siter (s:List UInt8) (pos:Nat)
 |miter (m:Option Nat) (since:Nat) (cur:Option (Nat×Nat))
 |loop
 |cmap (es:List SR)
structure Heap where
 nx:Nat
 t:T Obj
 ro:Nat
def Row.get(r:Row)(i:Nat):AV:=Option.rec r.dflt (λv=>v) (r.cells.get i)
def Row.setCells(r:Row)(t:T AV):Row:=⟨r.elem,r.sz,r.size,t,r.dflt,r.fz,r.sm,r.own,r.exact⟩
def Heap.put(H:Heap)(b:Nat)(o:Obj):Heap:=⟨H.nx,H.t.set b o,H.ro⟩
def Heap.new(H:Heap)(o:Obj):Heap:=⟨Nat.succ H.nx,H.t.set H.nx o,H.ro⟩
inductive OR2 where
 |fail
 |call (f:Nat) (args:List AV) (H:Heap)
 |yield (b:Nat) (args:List AV) (H:Heap)
 |pan (v:AV) (H:Heap)
 |recov
 |defer (f:AV) (args:List AV)
inductive OR where
 |val (v:AV) (H:Heap)
 |oth (o:OR2)
abbrev OR.fail:OR:=.oth .fail
abbrev TM:=N8 (N8 (N8 AV))
abbrev Vv:=TM->Heap->OR
abbrev Z1:=TM->AV
abbrev ZL:=TM->AV->TM
def e(f:N8 AV->AV)(g:N8 (N8 AV)->N8 AV)(h:TM->N8 (N8 AV)):Z1:=λtm=>f (g (h tm))
def k(v:AV):Z1:=λ_=>v
def d(f:(AV->AV)->N8 AV->N8 AV)(g:(N8 AV->N8 AV)->N8 (N8 AV)->N8 (N8 AV))(h:(N8 (N8 AV)->N8 (N8 AV))->TM->TM):ZL:=λtm v=>h (g (f (λ_=>v))) tm
def d0:ZL:=λtm _=>tm
def SC(n:Nat):Z1:=e (N8.proj (n % 8)) (N8.proj (n/8 % 8)) (N8.proj (n/64))
def PX(n:Nat):ZL:=d (N8.upd (n % 8)) (N8.upd (n/8 % 8)) (N8.upd (n/64))
def u8:N8 AV:=N8.all .unk
def u64:N8 (N8 AV):=N8.all u8
def M9:TM:=N8.all u64
def Sp{α:Type}(a:Nat)(k:Nat->α):α:=Nat.rec (k 0) (λp _=>k (Nat.succ p)) a
def PP{α:Type}(n:Int)(k:Int->α):α:=Int.rec (λa=>Sp a λa=>k (.ofNat a)) (λa=>Sp a λa=>k (.negSucc a)) n
def y8(a b:Int):Int:=Int.rec (λx=>Int.rec (λy=>.ofNat (Nat.add x y)) (λ_=>a+b) b) (λ_=>a+b) a
def EV(a b:Int):Int:=Int.rec (λx=>Int.rec (λy=>cond (Nat.ble y x) (.ofNat (Nat.sub x y)) (a - b)) (λ_=>a - b) b) (λ_=>a - b) a
def vC(a b:Int):Int:=Int.rec (λx=>Int.rec (λy=>.ofNat (Nat.mul x y)) (λ_=>a*b) b) (λ_=>a*b) a
def Zft(a b:Int):Int:=Int.rec (λx=>Int.rec (λy=>.ofNat (Nat.div x y)) (λ_=>a.tdiv b) b) (λ_=>a.tdiv b) a
def ZaV(a b:Int):Int:=Int.rec (λx=>Int.rec (λy=>.ofNat (Nat.mod x y)) (λ_=>a.tmod b) b) (λ_=>a.tmod b) a
def vB(a b:Int):Bool:=Int.rec (λx=>Int.rec (λy=>Nat.ble (Nat.succ x) y) (λ_=>false) b) (λx=>Int.rec (λ_=>true) (λy=>Nat.ble (Nat.succ y) x) b) a
def Ge(a b:Int):Bool:=Int.rec (λx=>Int.rec (λy=>Nat.beq x y) (λ_=>false) b) (λx=>Int.rec (λ_=>false) (λy=>Nat.beq x y) b) a
def yu(k:IntKind)(m:Nat)(n:Int):Int:=Int.rec (λa=>cond (Nat.ble m a) (.ofNat (Nat.mod a m)) (.ofNat a)) (λ_=>k.wrap n) n
def tG(k:IntKind)(h:Nat)(n:Int):Int:=Int.rec (λa=>cond (Nat.ble h a) (k.wrap n) (.ofNat a)) (λa=>cond (Nat.ble h a) (k.wrap n) n) n
def Zed(k:IntKind)(n:Int):Int:=
 IntKind.rec (tG .i8 128 n) (tG .i16 32768 n) (tG .i32 2147483648 n) (tG .i64 9223372036854775808 n) (yu .u8 256 n) (yu .u16 65536 n) (yu .u32 4294967296 n) (yu .u64 18446744073709551616 n) k
def TG(k:IntKind):Nat:=IntKind.rec 256 65536 4294967296 18446744073709551616 256 65536 4294967296 18446744073709551616 k
def SP(m:Nat)(n:Int):Nat:=Int.rec (λa=>Nat.mod a m) (λa=>Nat.sub (Nat.sub m 1) (Nat.mod a m)) n
def P3(a b:IntKind):Bool:=Nat.beq a.ctorIdx b.ctorIdx
def QH(v:AV)(k:IntKind->Int->OR):OR:=match v with|.int a b=>k a b|_=>.fail
def Sf(v:AV)(k:Nat->OR):OR:=match v with|.int _ (.ofNat b)=>k b|_=>.fail
def FT(v:AV)(k:Bool->OR):OR:=match v with|.bool b=>k b|_=>.fail
def Oo(v:AV)(k:List UInt8->OR):OR:=match v with|.str s=>k s|_=>.fail
def RK(v:AV)(k:Nat->Nat->OR):OR:=match v with|.ptr b o=>k b o|_=>.fail
def EI(v:AV)(k:List AV->OR):OR:=match v with|.agg cs=>k cs|_=>.fail
def oD(v:AV)(k:List AV->OR):OR:=match v with|.tup cs=>k cs|_=>.fail
def Pj(v:AV)(n:OR)(k:Nat->AV->OR):OR:=match v with|.iface t x=>k t x|.nili=>n|_=>.fail
def TI(v:AV)(n:OR)(k:Nat->Nat->Nat->Option Nat->OR):OR:=match v with|.slice b o l c=>k b o l c|.nils=>n|_=>.fail
def onZ(v:AV)(z n:OR):OR:=match v with|.slice0=>z|_=>n
def Bj(v:AV)(n:OR)(k:Nat->OR):OR:=match v with|.map b=>k b|.nilm=>n|_=>.fail
def J3(H:Heap)(b:Nat)(k:Obj->OR):OR:=match H.t.get b with|some o=>k o|none=>.fail
def Xg(H:Heap)(b:Nat)(k:Row->OR):OR:=match H.t.get b with|some (.row r)=>k r|_=>.fail
def U3{α:Type}(x:Option α)(k:α->OR):OR:=match x with|some a=>k a|none=>.fail
def ZP(b:Bool)(k:OR):OR:=cond b k .fail
def Fe(a b:UInt8):Bool:=Nat.beq a.toNat b.toNat
def NK:List UInt8->List UInt8->Bool
 |[],[]=>true
 |a::x,b::y=>cond (Fe a b) (NK x y) false
 |_,_=>false
def YH:List UInt8->List UInt8->Bool
 |_,[]=>false
 |[],_::_=>true
 |a::x,b::y=>cond (Nat.ble (Nat.succ a.toNat) b.toNat) true (cond (Fe a b) (YH x y) false)
def Vf(r:Row)(o:Nat):Nat->List AV
 |0=>[]
 |n+1=>r.get o::Vf r (Nat.succ o) n
def WY(c:T AV):Nat->List AV->T AV
 |_,[]=>c
 |o,v::l=>WY (c.set o v) (Nat.succ o) l
def YK{α:Type}(l:List α):Nat:=List.rec 0 (λ_ _ n=>Nat.succ n) l
def Gn:List AV->Nat->Option AV
 |[],_=>none
 |v::_,0=>some v
 |_::l,n+1=>Gn l n
def vZ:List UInt8->Nat->Option UInt8
 |[],_=>none
 |v::_,0=>some v
 |_::l,n+1=>vZ l n
def Heap.newRow(H:Heap)(elem sz:Nat)(cs:List AV)(exact:Bool):Heap:=
 H.new (.row ⟨elem,sz,YK cs,T.ofList cs,.unk,0,false,true,exact⟩)
def Heap.may(H:Heap)(r:Row)(b:Nat):Bool:=cond r.own (Nat.ble H.ro b) false
section
variable (x y z:Z1)
def ZF:Vv:=λtm H=>.val (x tm) H
def Znm:Vv:=λtm H=>Oo (x tm) λs=>.val (.str s) H
def Yx:Vv:=λtm H=>FT (x tm) λb=>.val (cond b (y tm) (z tm)) H
def Ue(e:Nat)(cs:List AV):Vv:=λ_ H=>ZP (Nat.ble 1 (YK cs))<|.val (.ptr H.nx 0) (H.newRow e 1 cs true)
def Lr(e n:Nat)(v:AV):Vv:=λ_ H=>.val (.ptr H.nx 0) (H.new (.row ⟨e,1,n,.leaf,v,0,false,true,true⟩))
def Lt(e:Nat):Vv:=λtm H=>ZP (Nat.ble 1 (YK (x tm).cells))<|.val (.ptr H.nx 0) (H.newRow e 1 (x tm).cells true)
end
structure yx where
 off:Nat
 sz:Nat
 x:Z1
def Ow:Nat->List AV->List AV
 |0,_=>[]
 |_+1,[]=>[]
 |n+1,v::l=>v::Ow n l
def PB:Nat->List AV->List AV
 |0,l=>l
 |_+1,[]=>[]
 |n+1,_::l=>PB n l
def AU(tm:TM)(k:List AV->OR):List yx->List AV->OR:=λps=>
 List.rec (λcells=>k cells) (λp _ ih cells=>
  ZP (Nat.ble 1 p.sz)<|ZP (Nat.beq (YK (p.x tm).cells) p.sz) (ZP (Nat.ble (Nat.add p.off p.sz) (YK cells)) (ih (Ow p.off cells++((p.x tm).cells++PB (Nat.add p.off p.sz) cells))))) ps
def UZ(zs:List AV)(ps:List yx):Vv:=λtm H=>ZP (Nat.ble 1 (YK zs))<|AU tm (λcs=>.val (.agg cs) H) ps zs
def Wt(e sz n:Nat)(zs:List AV)(ps:List yx):Vv:=λtm H=>ZP (Nat.ble 1 sz)<|ZP (Nat.beq (YK zs) (Nat.mul n sz))<|AU tm (λcs=>.val (.slice H.nx 0 n none) (H.newRow e sz cs true)) ps zs
section
variable (x y z:Z1)
def ZJ:Vv:=λtm H=>RK (x tm) λb o=>Xg H b λr=>ZP (Nat.ble (Nat.succ o) r.size) (.val (r.get o) H)
def WS(n:Nat):Vv:=λtm H=>RK (x tm) λb o=>Xg H b λr=>ZP (Nat.ble (Nat.add o n) r.size) (.val (.agg (Vf r o n)) H)
def Xz:AV:=.tup []
def Xn(n:Nat):Vv:=λtm H=>RK (x tm) λb o=>Xg H b λr=>
 ZP (Nat.ble 1 n)<|ZP (H.may r b) (ZP (Nat.ble (Nat.add o n) r.size) (ZP (Nat.ble r.fz o) (ZP (Nat.beq (YK (y tm).cells) n)
  (.val Xz (H.put b (.row (r.setCells (WY r.cells o (y tm).cells))))))))
def xw(v:AV)(k:OR):OR:=match v with|.ptr .. |.func .. |.iface .. |.yield _=>k|_=>.fail
def Qs:Vv:=λtm H=>xw (x tm) (.val (x tm) H)
def TK(k:IntKind)(n:Int)(H:Heap):OR:=PP (Zed k n) λn=>.val (.int k n) H
def Fz(x y:AV)(k:IntKind->Int->Int->OR):OR:=QH x λj a=>QH y λl b=>ZP (P3 j l) (k j a b)
def Vs:Vv:=λtm H=>Fz (x tm) (y tm) λk a b=>TK k (EV a b) H
def O3:Vv:=λtm H=>Fz (x tm) (y tm) λk a b=>TK k (vC a b) H
def Jy:Vv:=λtm H=>Fz (x tm) (y tm) λk a b=>cond (Ge b 0) .fail (TK k (Zft a b) H)
def I0:Vv:=λtm H=>Fz (x tm) (y tm) λk a b=>cond (Ge b 0) .fail (PP (ZaV a b) λn=>.val (.int k n) H)
def Nz(f:Nat->Nat->Nat->Nat):Vv:=λtm H=>Fz (x tm) (y tm) λk a b=>TK k (.ofNat (f (TG k) (SP (TG k) a) (SP (TG k) b))) H
def RI(_ a b:Nat):Nat:=Nat.land a b
def eN(_ a b:Nat):Nat:=Nat.lor a b
def ah(_ a b:Nat):Nat:=Nat.xor a b
def Ho(m a b:Nat):Nat:=Nat.land a (Nat.sub (Nat.sub m 1) b)
def ZfV:Vv:=λtm H=>QH (x tm) λk a=>Sf (y tm) λb=>TK k (vC a (.ofNat (Nat.pow 2 (cond (Nat.ble b 64) b 64)))) H
def Zfx(a:Int)(b:Nat):Int:=Int.rec (λx=>.ofNat (Nat.div x (Nat.pow 2 b))) (λx=>.negSucc (Nat.div x (Nat.pow 2 b))) a
def pb(k:IntKind):Nat:=IntKind.rec 8 16 32 64 8 16 32 64 k
def Lq(a b:Nat):Nat:=cond (Nat.ble a b) a b
def Kz:Vv:=λtm H=>QH (x tm) λk a=>Sf (y tm) λb=>PP (Zfx a (Lq b (pb k))) λn=>.val (.int k n) H
def SU(b:Bool)(H:Heap):OR:=cond b (.val (.bool true) H) (.val (.bool false) H)
def Yu(f:Int->Int->Bool)(g:List UInt8->List UInt8->Bool):Vv:=λtm H=>match x tm with
 |.int j a=>QH (y tm) λl b=>ZP (P3 j l) (SU (f a b) H)
 |.str a=>Oo (y tm) λb=>SU (g a b) H
 |_=>.fail
def XE(a b:Int):Bool:=vB a b
def S2(a b:Int):Bool:=!vB b a
def UG(a b:Int):Bool:=vB b a
def Sc(a b:Int):Bool:=!vB a b
def WJ(a b:List UInt8):Bool:=YH b a
def W5(a b:List UInt8):Bool:=!YH a b
def UE(a b:List UInt8):Bool:=!YH b a
def Yg:Vv:=λtm H=>match x tm with
 |.int j a=>QH (y tm) λl b=>ZP (P3 j l) (TK j (y8 a b) H)
 |.str a=>Oo (y tm) λb=>ZP (Nat.ble (Nat.add (YK a) (YK b)) 4611686018427387904) (.val (.str (a++b)) H)
 |_=>.fail
def Vp(a b:AV):Option Bool:=match a,b with|.int j a,.int k b=>cond (P3 j k) (some (Ge a b)) none|_,_=>none
def PM(a b:AV):Option Bool:=match a,b with|.str a,.str b=>some (NK a b)|_,_=>none
def sK(a b:AV):Option Bool:=match a,b with|.bool a,.bool b=>some (cond a b (cond b false true))|_,_=>none
def nV(a b:AV):Option Bool:=match a,b with
 |.nilp,.nilp=>some true
 |.nilp,.ptr .. =>some false
 |.ptr ..,.nilp=>some false
 |.ptr b o,.ptr c p=>cond (Nat.beq b c) (some (Nat.beq o p)) none
 |_,_=>none
def nU(a b:AV):Option Bool:=match a,b with|.nils,.nils=>some true|.nils,.slice .. =>some false|.slice ..,.nils=>some false|.nils,.slice0=>some false|.slice0,.nils=>some false|_,_=>none
def eqM(a b:AV):Option Bool:=match a,b with|.nilm,.nilm=>some true|.nilm,.map _=>some false|.map _,.nilm=>some false|_,_=>none
def eqN(a b:AV):Option Bool:=match a,b with|.nilf,.nilf=>some true|.nilf,.func .. =>some false|.func ..,.nilf=>some false|_,_=>none
def jA(lit:Bool)(g:Nat->AV->AV->Option Bool)(a b:AV):Option Bool:=match a,b with
 |.nili,.nili=>cond lit (some true) none
 |.nili,.iface .. =>some false
 |.iface ..,.nili=>some false
 |.iface t v,.iface u w=>cond (Nat.beq t u) (g t v w) (some false)
 |_,_=>none
def eqC(P:Program)(f:Nat->AV->AV->Option Bool)(t:Nat)(v w:AV):Option Bool:=match P.info? t with|some i=>cond i.comparable (f t v w) none|none=>none
def Zek(P:Program)(t:Nat):Option Bool:=match P.underlying t with|some (.struct _)|some (.array _ _)=>some true|some _=>some false|none=>none
def zH(P:Program)(t:Nat)(cs:List AV)(off:Nat)(k:AV->Option Bool):Option Bool:=match P.info? t,Zek P t with
 |some i,some ag=>cond ag (k (.agg (Ow i.size (PB off cs)))) (match Gn cs off with|some v=>k v|none=>none)
 |_,_=>none
def np(r:Option Bool)(k:Option Bool):Option Bool:=match r with|some b=>cond b k (some false)|none=>none
def HG(P:Program)(f:AV->AV->Option Bool)(e c:Nat)(l m:List AV):List Nat->Option Bool
 |[]=>some true
 |i::is=>zH P e l (i*c) λa=>zH P e m (i*c) λb=>np (f a b) (HG P f e c l m is)
def O9(P:Program)(g:Nat->AV->AV->Option Bool)(l m:List AV):List Field->Option Bool
 |[]=>some true
 |f::fs=>cond (f.name== "_") (O9 P g l m fs) (zH P f.type l f.offset λa=>zH P f.type m f.offset λb=>np (g f.type a b) (O9 P g l m fs))
def tL(a b:AV)(k:List AV->List AV->Option Bool):Option Bool:=match a,b with|.agg l,.agg m=>k l m|_,_=>none
def eqD(P:Program)(lit:Bool)(g:Nat->AV->AV->Option Bool)(t:Nat)(a b:AV)(d:TypeDesc):Option Bool:=match d with
 |.bool=>sK a b
 |.int _=>Vp a b
 |.string=>PM a b
 |.pointer e=>match P.info? e with|some i=>cond (Nat.beq i.size 0) none (nV a b)|none=>none
 |.slice _=>nU a b
 |.map _ _=>eqM a b
 |.func _ _ _=>eqN a b
 |.interface _=>jA lit (eqC P g) a b
 |.array n e=>tL a b λl m=>match P.info? e with|some i=>HG P (g e) e i.size l m (List.range n)|none=>none
 |.struct fs=>cond (P.stoodInHeld t) none (tL a b λl m=>O9 P g l m fs.toList)
 |_=>none
def px(P:Program):Nat->Nat->AV->AV->Option Bool
 |0,_,_,_=>none
 |d+1,t,a,b=>match P.underlying t with|some u=>eqD P true (px P d) t a b u|none=>none
def WN(f:AV->AV->Option Bool)(neg:Bool):Vv:=λtm H=>U3 (f (x tm) (y tm)) λb=>SU (cond neg (cond b false true) b) H
def Pf:Vv:=λtm H=>FT (x tm) λb=>.val (.bool (cond b false true)) H
def Ao:Vv:=λtm H=>QH (x tm) λk a=>TK k (EV 0 a) H
def dH:Vv:=λtm H=>QH (x tm) λk a=>TK k (.ofNat (Nat.sub (Nat.sub (TG k) 1) (SP (TG k) a))) H
def U0(k:IntKind):Vv:=λtm H=>QH (x tm) λ_ a=>TK k a H
def FH:List UInt8->List AV
 |[]=>[]
 |b::l=>.int .u8 (.ofNat b.toNat)::FH l
def C8(e:Nat):Vv:=λtm H=>Oo (x tm) λs=>.val (.slice H.nx 0 (YK s) none) (H.new (.row ⟨e,1,YK s,T.ofList (FH s),.unk,0,true,true,false⟩))
def P6(k:List UInt8->OR):List AV->OR
 |[]=>k []
 |v::l=>match v with|.int .u8 (.ofNat n)=>P6 (λs=>k (UInt8.ofNat n::s)) l|_=>.fail
def Jz:Vv:=λtm H=>onZ (x tm) (.val (.str []) H)<|TI (x tm) (.val (.str []) H) λb o n _=>cond (Nat.beq n 0) (.val (.str []) H) (Xg H b λr=>ZP (Nat.ble (Nat.add o n) r.size) (P6 (λs=>.val (.str s) H) (Vf r o n)))
def zD:Vv:=λtm H=>match x tm with
 |.nilp=>.val .nilp H
 |.ptr b o=>Xg H b λr=>ZP (Nat.ble (Nat.succ o) r.size) (.val (.ptr b o) H)
 |_=>.fail
def zC(u n:Nat):Vv:=λtm H=>match x tm with
 |.nilp=>.val .nilp H
 |.ptr b o=>Xg H b λr=>ZP r.exact (ZP (Nat.beq r.elem u) (ZP (Nat.beq o 0) (ZP (Nat.ble n r.size) (.val (.ptr b o) H))))
 |_=>.fail
def zB:Vv:=λtm H=>TI (x tm) .fail λb _ _ _=>Xg H b λr=>ZP (cond r.sm false (H.may r b))<|ZP (Nat.beq r.fz 0)<|.val (x tm) (H.put b (.row ⟨r.elem,r.sz,r.size,r.cells,r.dflt,r.fz,true,r.own,r.exact⟩))
def ow:Vv:=λtm H=>QH (x tm) λ_ n=>.val (.str (Utf8.encode n).data.toList) H
def OK(t:Nat):Vv:=λtm H=>.val (.iface t (x tm)) H
def evs(tm:TM):List Z1->List AV
 |[]=>[]
 |f::l=>f tm::evs tm l
def v9(f:Nat)(a b:List Z1):Vv:=λtm H=>.val (.func f (evs tm a) (evs tm b)) H
def ZiF(n:String)(x:Z1):Vv:=λtm H=>.val (.meth n (x tm)) H
def ZfU:Vv:=λ_ H=>.val (.map H.nx) (H.new (.map [] 0))
def Ug(eq:AV->AV->Option Bool)(k:AV)(no:OR)(yes:AV->OR):List SR->OR
 |[]=>no
 |e::l=>Option.rec .fail (λt=>cond t (yes e.val) (Ug eq k no yes l)) (eq k e.key)
def xn(eq:AV->AV->Option Bool)(k v:AV)(clock:Nat)(done:List SR->Nat->OR):List SR->OR
 |[]=>done [⟨k,v,clock⟩] (Nat.succ clock)
 |e::l=>Option.rec .fail (λt=>cond t (done (⟨k,v,e.born⟩::l) clock) (xn eq k v clock (λl' c=>done (e::l') c) l)) (eq k e.key)
def tN(o:Obj)(k:List SR->OR):OR:=match o with|.map es _=>k es|.cmap es=>k es|_=>.fail
def qZ(o:Obj)(k:List SR->Nat->OR):OR:=match o with|.map es c=>k es c|_=>.fail
def Dg(eq:AV->AV->Option Bool)(m k v:Z1):Vv:=λtm H=>Bj (m tm) .fail λb=>J3 H b λo=>qZ o λes clock=>
 ZP (Nat.ble H.ro b) (xn eq (k tm) (v tm) clock (λes c=>.val Xz (H.put b (.map es c))) es)
def JP(ok:Bool)(H:Heap)(v:AV)(b:Bool):OR:=cond ok (.val (.tup [v,.bool b]) H) (.val v H)
def Jg(eq:AV->AV->Option Bool)(zv:AV)(ok:Bool)(m k:Z1):Vv:=λtm H=>Bj (m tm) (JP ok H zv false) λb=>J3 H b λo=>tN o λes=>
 Ug eq (k tm) (JP ok H zv false) (λv=>JP ok H v true) es
def oj(H:Heap)(e sz l c:Nat)(zs:List AV):OR:=match zs with
 |[v]=>ZP (Nat.beq sz 1)<|.val (.slice H.nx 0 l none) (H.new (.row ⟨e,1,c,.leaf,v,0,false,true,true⟩))
 |zs=>ZP (Nat.beq (YK zs) sz)<|.val (.slice H.nx 0 l none) (H.newRow e sz ((List.replicate c zs).flatten) true)
def NA(e sz bytes:Nat)(zs:List AV)(l c:Z1):Vv:=λtm H=>Sf (l tm) λl=>Sf (c tm) λc=>ZP (Nat.ble 1 sz)<|ZP (Nat.ble l c) (ZP (Nat.ble c 140737488355328)<|ZP (Nat.ble (Nat.mul c bytes) 140737488355328) (oj H e sz l c zs))
def pd(tm:TM)(x:Option Z1)(d top:Nat)(k:Nat->OR):OR:=Option.rec (k d) (λf=>Sf (f tm) λn=>ZP (Nat.ble n top) (k n)) x
def Iu(tm:TM)(lo hi mx:Option Z1)(len cap:Nat)(k:Nat->Nat->Nat->OR):OR:=
 pd tm mx cap cap λm=>pd tm hi len m λh=>pd tm lo 0 h λl=>k l h m
def LQ:Nat->List UInt8->List UInt8
 |0,_=>[]
 |_+1,[]=>[]
 |n+1,v::l=>v::LQ n l
def JN:Nat->List UInt8->List UInt8
 |0,l=>l
 |_+1,[]=>[]
 |n+1,_::l=>JN n l
def WI(x:Z1)(lo hi mx:Option Z1):Vv:=λtm H=>Option.rec (Oo (x tm) λs=>Iu tm lo hi none (YK s) (YK s) λl h _=>.val (.str (JN l (LQ h s))) H) (λ_=>.fail) mx
def Te(r:Row)(o:Nat)(cap:Option Nat):Nat:=Option.rec (cond (Nat.beq r.sz 1) (Nat.sub r.size o) (Nat.div (Nat.sub r.size o) r.sz)) (λc=>c) cap
def GX(r:Row)(sz:Nat)(cap:Option Nat):Bool:=Option.rec (Nat.beq r.sz sz) (λ_=>true) cap
def Ph(sz:Nat)(x:Z1)(lo hi mx:Option Z1):Vv:=λtm H=>
 onZ (x tm) (Iu tm lo hi mx 0 0 λ_ _ _=>.val .slice0 H)<|TI (x tm) (Iu tm lo hi mx 0 0 λ_ _ _=>.val .nils H) λb o len cap=>Xg H b λr=>ZP (GX r sz cap) (Iu tm lo hi mx len (Te r o cap) λl h m=>ZP (Nat.ble l m)<|
  cond (Nat.beq l m) (Option.rec (Option.rec (.val (.slice H.nx 0 (Nat.sub h l) none) ⟨Nat.succ H.nx,H.t,H.ro⟩) (λ_=>.val (.slice b o (Nat.sub h l) (some 0)) H) cap) (λ_=>.val (.slice b o (Nat.sub h l) (some 0)) H) mx)
   (.val (.slice b (Nat.add o (Nat.mul l sz)) (Nat.sub h l) (Option.rec (Option.rec none (λc=>some (Nat.sub c l)) cap) (λ_=>some (Nat.sub m l)) mx)) H))
def Pg(n sz:Nat)(x:Z1)(lo hi mx:Option Z1):Vv:=λtm H=>RK (x tm) λb o=>Iu tm lo hi mx n n λl h m=>
  cond (Nat.beq l m) (.val (.slice b o (Nat.sub h l) (some (Nat.sub m l))) H) (.val (.slice b (Nat.add o (Nat.mul l sz)) (Nat.sub h l) (some (Nat.sub m l))) H)
def Yr(n:Nat):Vv:=λtm H=>RK (x tm) λb o=>.val (.ptr b (Nat.add o n)) H
def ZiD(o:Nat):Vv:=λtm H=>EI (x tm) λcs=>U3 (Gn cs o) λv=>.val v H
def Znl(o n:Nat):Vv:=λtm H=>EI (x tm) λcs=>.val (.agg (Ow n (PB o cs))) H
def XN(sz:Nat):Vv:=λtm H=>Sf (y tm) λi=>TI (x tm) .fail λb o len _=>ZP (Nat.ble (Nat.succ i) len) (.val (.ptr b (Nat.add o (Nat.mul i sz))) H)
def On(n sz:Nat):Vv:=λtm H=>Sf (y tm) λi=>RK (x tm) λb o=>ZP (Nat.ble (Nat.succ i) n) (.val (.ptr b (Nat.add o (Nat.mul i sz))) H)
def Y7:Vv:=λtm H=>Sf (y tm) λi=>Oo (x tm) λs=>U3 (vZ s i) λb=>Sp b.toNat λn=>.val (.int .u8 (.ofNat n)) H
def Gp(n:Nat):Vv:=λtm H=>Sf (y tm) λi=>EI (x tm) λcs=>ZP (Nat.ble (Nat.succ i) n) (U3 (Gn cs i) λv=>.val v H)
def xD(n sz:Nat):Vv:=λtm H=>Sf (y tm) λi=>EI (x tm) λcs=>ZP (Nat.ble (Nat.succ i) n) (.val (.agg (Ow sz (PB (Nat.mul i sz) cs))) H)
def QZ(zv:AV)(ok:Bool)(H:Heap)(v:Option AV):OR:=Option.rec (cond ok (.val (.tup [zv,.bool false]) H) .fail) (λv=>cond ok (.val (.tup [v,.bool true]) H) (.val v H)) v
def Df(t:Nat)(zv:AV)(ok:Bool):Vv:=λtm H=>Pj (x tm) (QZ zv ok H none) λu v=>QZ zv ok H (cond (Nat.beq u t) (some v) none)
def v8(P:Program)(ms:Array (String×TypeId))(zv:AV)(ok:Bool):Vv:=λtm H=>Pj (x tm) (QZ zv ok H none) λu v=>U3 (P.info? u) λi=>QZ zv ok H (Option.rec (some (.iface u v)) (λ_=>none) (Instr.missingMethod ms i.methods))
def XJ(i:Nat):Vv:=λtm H=>oD (x tm) λvs=>U3 (Gn vs i) λv=>.val v H
def Gj(P:Program)(name:String)(u:Nat)(k:Nat->OR):OR:=
 U3 (P.info? u) λi=>U3 (i.methods.find? (·.name==name)) λm=>ZP m.path.isEmpty (match m.func with
  |some (g,ptr)=>match P.underlying u with
   |some (.pointer _)=>ZP ptr (k g)
   |some _=>cond ptr .fail (k g)
   |none=>.fail
  |none=>.fail)
def Zv(f:Nat)(args:List Z1):Vv:=λtm H=>.oth (.call f (evs tm args) H)
def MO(P:Program)(args:List Z1):Vv:=λtm H=>match x tm with
 |.func f a b=>.oth (.call f (a++(evs tm args++b)) H)
 |.meth n r=>Pj r .fail λu v=>Gj P n u λg=>.oth (.call g (v::evs tm args) H)
 |.yield b=>.oth (.yield b (evs tm args) H)
 |_=>.fail
def ZbG(P:Program)(n:String)(args:List Z1):Vv:=λtm H=>Pj (x tm) .fail λu v=>Gj P n u λg=>.oth (.call g (v::evs tm args) H)
def xh(v:AV)(k:Nat->OR):OR:=match v with|.nils=>k 0|.slice0=>k 0|.slice _ _ n _=>k n|.str s=>k (YK s)|_=>.fail
def Vm(H:Heap)(sz:Nat)(v:AV)(n:Nat)(k:List AV->OR):OR:=cond (Nat.beq n 0) (k []) (match v with
 |.slice b o _ _=>Xg H b λr=>ZP (Nat.ble (Nat.add o (Nat.mul n sz)) r.size) (k (Vf r o (Nat.mul n sz)))
 |.str s=>ZP (Nat.beq sz 1) (k (FH (LQ n s)))
 |_=>.fail)
def G9(H:Heap)(e b o len n sz:Nat)(r:Row)(new:List AV):OR:=
 ZP (Nat.beq r.elem e)<|ZP (H.may r b)<|ZP (Nat.ble r.fz (Nat.mul len sz))<|ZP (Nat.beq (Nat.mul len sz) r.size)<|ZP (Nat.beq o 0)<|
  .val (.slice H.nx 0 (Nat.add len n) none) ⟨Nat.succ H.nx,(H.t.del b).set H.nx (.row ⟨r.elem,sz,Nat.mul (Nat.add len n) sz,WY r.cells (Nat.mul len sz) new,r.dflt,r.fz,r.sm,true,false⟩),H.ro⟩
def L4(H:Heap)(v:AV)(b o len n sz:Nat)(cap:Option Nat)(r:Row)(new:List AV):OR:=
 cond (Nat.beq n 0) (.val v H) (ZP (H.may r b) (ZP (Nat.ble (Nat.add o (Nat.mul (Nat.add len n) sz)) r.size) (ZP (Nat.ble r.fz (Nat.add o (Nat.mul len sz)))
  (.val (.slice b o (Nat.add len n) cap) (H.put b (.row (r.setCells (WY r.cells (Nat.add o (Nat.mul len sz)) new))))))))
def Oy(H:Heap)(e b o len n sz bytes:Nat)(cap:Option Nat)(r:Row)(new:List AV):OR:=
 ZP (Nat.ble (Nat.mul (Nat.add len n) bytes) 140737488355328)<|ZP (Nat.ble (Nat.add o (Nat.mul len sz)) r.size)<|Option.rec
  (cond r.exact (ZP (Nat.beq (Nat.mod o sz) 0) (.val (.slice H.nx 0 (Nat.add len n) none) (H.newRow e sz (Vf r o (Nat.mul len sz)++new) false))) (G9 H e b o len n sz r new))
  (λ_=>.val (.slice H.nx 0 (Nat.add len n) none) (H.newRow e sz (Vf r o (Nat.mul len sz)++new) false)) cap
def Oz(v:AV)(e sz bytes:Nat)(H:Heap)(n:Nat)(new:List AV):OR:=
 onZ v (cond (Nat.beq n 0) (.val .slice0 H) (ZP (Nat.ble (Nat.mul n bytes) 140737488355328) (.val (.slice H.nx 0 n none) (H.newRow e sz new false))))<|
 TI v (cond (Nat.beq n 0) (.val .nils H) (ZP (Nat.ble (Nat.mul n bytes) 140737488355328) (.val (.slice H.nx 0 n none) (H.newRow e sz new false)))) λb o len cap=>Xg H b λr=>
  ZP (GX r sz cap) (cond (Nat.ble (Nat.add len n) (Te r o cap)) (L4 H v b o len n sz cap r new) (Oy H e b o len n sz bytes cap r new))
def X1(e sz bytes:Nat):Vv:=λtm H=>ZP (Nat.ble 1 sz)<|ZP (Nat.ble 1 bytes)<|xh (y tm) λn=>Vm H sz (y tm) n λnew=>Oz (x tm) e sz bytes H n new
def Ny(e sz bytes:Nat)(zs:List AV):Vv:=λtm H=>ZP (Nat.ble 1 sz)<|ZP (Nat.ble 1 bytes)<|Sf (y tm) λn=>ZP (Nat.ble (Nat.mul n bytes) 140737488355328)<|Oz (x tm) e sz bytes H n (List.replicate n zs).flatten
def C9(sz:Nat):Vv:=λtm H=>xh (y tm) λsn=>TI (x tm) (.val (.int .i64 0) H) λb o dn _=>Sp (Lq dn sn) λn=>Vm H sz (y tm) n λnew=>
 cond (Nat.beq n 0) (.val (.int .i64 0) H) (Xg H b λr=>ZP (H.may r b) (ZP (Nat.ble r.fz o) (ZP (Nat.ble (Nat.add o (Nat.mul n sz)) r.size) (.val (.int .i64 (.ofNat n)) (H.put b (.row (r.setCells (WY r.cells o new))))))))
def Xm:Vv:=λtm H=>Oo (x tm) λs=>Sp (YK s) λn=>.val (.int .i64 (.ofNat n)) H
def Xs:Vv:=λtm H=>onZ (x tm) (.val (.int .i64 0) H)<|TI (x tm) (.val (.int .i64 0) H) λ_ _ n _=>Sp n λn=>.val (.int .i64 (.ofNat n)) H
def ZiE:Vv:=λtm H=>Bj (x tm) (.val (.int .i64 0) H) λb=>J3 H b λo=>qZ o λes _=>.val (.int .i64 (.ofNat (YK es))) H
def rU:Vv:=λtm H=>TI (x tm) (.val (.int .i64 0) H) λb o _ cap=>Option.rec (Xg H b λr=>ZP r.exact (ZP (Nat.beq (Nat.mod o r.sz) 0) (.val (.int .i64 (.ofNat (Te r o none))) H))) (λc=>.val (.int .i64 (.ofNat c)) H) cap
def min2(mx:Bool)(k:IntKind)(a:Int)(H:Heap):List AV->OR
 |[]=>.val (.int k a) H
 |v::l=>match v with|.int j b=>ZP (P3 j k) (min2 mx k (cond (cond mx (vB a b) (vB b a)) b a) H l)|_=>.fail
def Su(mx:Bool)(args:List Z1):Vv:=λtm H=>match evs tm args with
 |.int k a::l=>min2 mx k a H l
 |_=>.fail
def oz(e:Nat):Vv:=λtm H=>Sf (y tm) λn=>cond (Nat.beq n 0) (match x tm with|.nilp=>.val (.str []) H|.ptr .. =>.val (.str []) H|_=>.fail)
 (ZP (Nat.ble n 140737488355328)<|RK (x tm) λb o=>Xg H b λr=>ZP (Nat.beq r.elem e)<|ZP (cond r.sm false (H.may r b)) (ZP (Nat.ble (Nat.add o n) r.size) (P6 (λs=>.val (.str s)
  (H.put b (.row ⟨r.elem,r.sz,r.size,r.cells,r.dflt,cond (Nat.ble r.fz (Nat.add o n)) (Nat.add o n) r.fz,r.sm,r.own,r.exact⟩))) (Vf r o n))))
def Di:Vv:=λtm H=>TI (x tm) (.val .nilp H) λb o _ cap=>Option.rec (Xg H b λr=>ZP (Nat.ble (Nat.succ o) r.size) (.val (.ptr b o) H)) (λc=>ZP (Nat.ble 1 c) (.val (.ptr b o) H)) cap
def OM:Vv:=λtm H=>Pj (x tm) .fail λ_ _=>.oth (.pan (x tm) H)
def Bd:Vv:=λ_ _=>.oth .recov
def Ba(args:List Z1):Vv:=λtm _=>.oth (.defer (x tm) (evs tm args))
def ZbJ:Vv:=λtm H=>Bj (x tm) (.val (.ptr H.nx 0) (H.new (.miter none 0 none))) λb=>J3 H b λo=>qZ o λ_ c=>.val (.ptr H.nx 0) (H.new (.miter (some b) c none))
def Dh:Vv:=λtm H=>Oo (x tm) λs=>.val (.ptr H.nx 0) (H.new (.siter s 0))
def q8(o:Obj)(k:List UInt8->Nat->OR):OR:=match o with|.siter s pos=>k s pos|_=>.fail
def ov:Vv:=λtm H=>RK (x tm) λb o=>ZP (Nat.beq o 0)<|ZP (Nat.ble H.ro b)<|J3 H b λo=>q8 o λs pos=>
 cond (Nat.ble (Nat.succ pos) (YK s)) (match Utf8.decode ⟨s.toArray⟩ pos with|(c,w)=>.val (.tup [.bool true,.int .i64 (.ofNat pos),.int .i32 c]) (H.put b (.siter s (Nat.add pos w)))) (.val (.tup [.bool false]) H)
def yR(n:Nat)(k:SR->OR):List SR->OR
 |[]=>.fail
 |e::l=>cond (Nat.beq e.born n) (k e) (yR n k l)
def yB(o:Obj)(k:Nat->Nat->Nat->OR):OR:=match o with|.miter (some m) _ (some (n,st))=>k m n st|_=>.fail
def ZbH:Vv:=λtm H=>RK (x tm) λb o=>ZP (Nat.beq o 0)<|J3 H b λob=>yB ob λm n st=>J3 H m λom=>qZ om λes c=>ZP (Nat.beq c st) (yR n (λe=>.val (.tup [e.key,e.val]) H) es)
def VZ:Vv:=λ_ _=>.fail
end
inductive Out where
 |normal|exit (id:Nat)|ret|pan (v:AV)
inductive CR where
 |fail
 |ret (v:AV) (H:Heap)
 |pan (v:AV) (H:Heap)
structure X where
 df:List (AV×List AV)
 rc:Option AV
inductive WM where
 |fail
 |ok (o:Out) (tm:TM) (H:Heap) (x:X)
structure Ctx where
 call:Nat->List AV->Heap->CR
 yld:Nat->List AV->Heap->CR
 rng:AV->(List AV->Heap->CR)->TM->Heap->X->WM
 fuel:Nat
 rnd:Bool
abbrev D:=Ctx->TM->Heap->X->WM
def UJ:Nat->List AV->Heap->CR:=λ_ _ _=>.fail
def UY:AV->(List AV->Heap->CR)->TM->Heap->X->WM:=λ_ _ _ _ _=>.fail
def Bi(next:TM->Heap->X->WM)(dst:ZL)(tm:TM)(x:X)(r:CR):WM:=match r with
 |.ret v H=>next (dst tm v) H x
 |.pan v H=>.ok (.pan v) tm H x
 |.fail=>.fail
def kN(next:TM->Heap->X->WM)(dst:ZL)(c:Ctx)(tm:TM)(H:Heap)(x:X)(o:OR2):WM:=match o with
 |.call f args H=>Bi next dst tm x (c.call f args H)
 |.yield b args H=>Bi next dst tm x (c.yld b args H)
 |.pan v H=>.ok (.pan v) tm H x
 |.recov=>cond c.rnd .fail (match x.rc with
  |some v=>next (dst tm v) H ⟨x.df,none⟩
  |none=>next (dst tm .nili) H x)
 |.defer f args=>match f with
  |.func _ _ _=>cond c.rnd .fail (next (dst tm Xz) H ⟨(f,args)::x.df,x.rc⟩)
  |_=>.fail
 |.fail=>.fail
def Oc(next:TM->Heap->X->WM)(dst:ZL)(c:Ctx)(tm:TM)(H:Heap)(x:X)(r:OR):WM:=
 @OR.rec (λ_=>WM) (λv H=>next (dst tm v) H x) (λo=>kN next dst c tm H x o) r
def y9(v:AV)(k:Bool->WM):WM:=match v with|.bool c=>k c|_=>.fail
def Za(f:Vv)(dst:ZL)(next:D):D:=λc tm H x=>Oc (next c) dst c tm H x (f tm H)
def UX(v:AV)(b:Bool)(yes no:WM):WM:=match v with
 |.bool c=> @Bool.rec (λ_=>WM) (@Bool.rec (λ_=>WM) yes no b) (@Bool.rec (λ_=>WM) no yes b) c
 |.tup _=>no
 |_=>.fail
def ZB(g:Z1)(b:Bool)(f:Vv)(dst:ZL)(next:D):D:=λc tm H x=>
 UX (g tm) b (Oc (next c) dst c tm H x (f tm H)) (next c (dst tm Xz) H x)
def Zc:D:=λ_ tm H x=>.ok .normal tm H x
def PF(r:WM)(k:TM->Heap->X->WM):WM:=
 @WM.rec (λ_=>WM) .fail (λo tm H x=> @Out.rec (λ_=>WM) (k tm H x) (λi=>.ok (.exit i) tm H x) (.ok .ret tm H x) (λv=>.ok (.pan v) tm H x) o) r
def Zh(a b:D):D:=λc tm H x=>PF (a c tm H x) (b c)
def HB(a b:TM->Heap->X->WM)(v:Bool)(tm:TM)(H:Heap)(x:X):WM:= @Bool.rec (λ_=>WM) (b tm H x) (a tm H x) v
def ZK(q:Z1)(a b:D):D:=λc tm H x=>y9 (q tm) λv=>HB (a c) (b c) v tm H x
def Pa(id:Nat)(r:WM):WM:=
 @WM.rec (λ_=>WM) .fail (λo tm H x=> @Out.rec (λ_=>WM) (.ok .normal tm H x) (λi=> @Bool.rec (λ_=>WM) (.ok (.exit i) tm H x) (.ok .normal tm H x) (Nat.beq i id)) (.ok .ret tm H x) (λv=>.ok (.pan v) tm H x) o) r
def Z0(id:Nat)(a:D):D:=λc tm H x=>Pa id (a c tm H x)
def Wv(a:TM->Heap->X->WM)(n:Nat):TM->Heap->X->WM:=
 @Nat.rec (λ_=>TM->Heap->X->WM) (λ_ _ _=>.fail) (λ_ ih tm H x=>PF (a tm H x) ih) n
def X8(a:D):D:=λc tm H x=>Wv (a c) c.fuel tm H x
def Dl(r:WM)(k:Bool):Bool:=match r with
 |.ok .normal _ _ y=>cond (match y.df,y.rc with|[],none=>true|_,_=>false) k false
 |_=>false
def Bu(body:TM->Heap->X->WM)(b m since:Nat)(dst:ZL)(tm:TM)(H:Heap)(es:List SR):Bool:=
 List.rec true (λe _ ih=>Dl (body (dst tm (.tup [.bool true,e.key,e.val])) ⟨H.nx,H.t.set b (.miter (some m) since (some (e.born,since))),H.nx⟩ ⟨[],none⟩) ih) es
def ZiJ(v:AV)(k:Nat->Nat->WM):WM:=match v with|.ptr b o=>k b o|_=>.fail
def Zno(o:Option Obj)(no:WM)(k:Nat->Nat->WM):WM:=match o with|some (.miter none _ none)=>no|some (.miter (some m) s none)=>k m s|_=>.fail
def ZiI(o:Option Obj)(since:Nat)(k:List SR->WM):WM:=match o with|some (.map es c)=>cond (Nat.beq c since) (k es) .fail|_=>.fail
def Q2(tm:TM):List ZL->TM
 |[]=>tm
 |d::l=>Q2 (d tm .unk) l
def Kv(r:WM):WM:=match r with|.ok .normal _ _ _=>.fail|r=>r
def qj(x:X)(k:WM):WM:=match x.df,x.rc with|[],none=>k|_,_=>.fail
def rM(r a:TM->Heap->X->WM)(q:Z1)(dst:ZL)(tm:TM)(H:Heap)(x:X):WM:=
 ZiJ (q tm) λb o=>cond (Nat.beq o 0) (cond (Nat.ble H.ro b) (Zno (H.t.get b) (Kv (a (dst tm (.tup [.bool false])) H x)) λm s=>ZiI (H.t.get m) s λes=>
  qj x (cond (Bu r b m s dst tm H es) (Kv (a (dst tm (.tup [.bool false])) ⟨H.nx,H.t.del b,H.ro⟩ x)) .fail)) .fail) .fail
def rL(q:Z1)(dst:ZL)(dead:List ZL)(a:D):D:=λc tm H x=>rM (a ⟨c.call,UJ,UY,c.fuel,true⟩) (a c) q dst (Q2 tm dead) H x
def X6(id:Nat):D:=λ_ tm H x=>.ok (.exit id) tm H x
def Z2:D:=λ_ tm H x=>.ok .ret tm H x
def Q0:D:=λ_ _ _ _=>.fail
def OO(tm:TM):List ZL->List AV->TM
 |d::ds,v::vs=>OO (d tm v) ds vs
 |_,_=>tm
def I4(r:WM):CR:=match r with
 |.ok .normal _ H _=>.ret (.bool true) H
 |_=>.fail
def cF(q:Z1)(ps:List ZL)(a:D):D:=λc tm H x=>
 c.rng (q tm) (λys H=>cond (Nat.beq (YK ys) (YK ps)) (I4 (a ⟨c.call,UJ,UY,c.fuel,true⟩ (OO tm ps ys) H ⟨[],none⟩)) .fail) tm H x
inductive Hl where|free|read|eff
structure PI where
 f:Vv
 g:Option (Z1×Bool)
 os:List (ZL×Z1)
 dst:ZL
 kind:Hl
 i:Nat
 bef:Nat
mutual
def Wx(n:Nat):AV->Bool
 |.ptr b _=>Nat.ble (Nat.succ b) n
 |.slice b _ _ _=>Nat.ble (Nat.succ b) n
 |.map b=>Nat.ble (Nat.succ b) n
 |.func _ x y=>cond (RS n x) (RS n y) false
 |.meth _ v=>Wx n v
 |.yield b=>Nat.ble (Nat.succ b) n
 |.iface _ v=>Wx n v
 |.agg l=>RS n l
 |.tup l=>RS n l
 |_=>true
def RS(n:Nat):List AV->Bool
 |[]=>true
 |v::l=>cond (Wx n v) (RS n l) false
end
def Qu(tm:TM)(os:List (ZL×Z1)):TM:=List.rec M9 (λp _ ih=>p.1 ih (p.2 tm)) os
def RJ(n:Nat)(tm:TM)(os:List (ZL×Z1)):Bool:=List.rec true (λp _ ih=>cond (Wx n (p.2 tm)) ih false) os
mutual
def same:AV->AV->Bool
 |.bool a,.bool b=>cond a b (cond b false true)
 |.int k a,.int j b=>cond (P3 k j) (Ge a b) false
 |.str a,.str b=>NK a b
 |.nilp,.nilp=>true
 |.ptr a b,.ptr c d=>cond (Nat.beq a c) (Nat.beq b d) false
 |.nils,.nils=>true
 |.slice0,.slice0=>true
 |.slice a b c d,.slice e f g h=>cond (Nat.beq a e) (cond (Nat.beq b f) (cond (Nat.beq c g) (match d,h with|none,none=>true|some x,some y=>Nat.beq x y|_,_=>false) false) false) false
 |.nilm,.nilm=>true
 |.map a,.map b=>Nat.beq a b
 |.func f a b,.func g c d=>cond (Nat.beq f g) (cond (sameL a c) (sameL b d) false) false
 |.nilf,.nilf=>true
 |.iface t v,.iface u w=>cond (Nat.beq t u) (same v w) false
 |.nili,.nili=>true
 |.agg a,.agg b=>sameL a b
 |.tup a,.tup b=>sameL a b
 |_,_=>false
def sameL:List AV->List AV->Bool
 |[],[]=>true
 |a::as,b::bs=>cond (same a b) (sameL as bs) false
 |_,_=>false
end
structure RD where
 p:PI
 v:AV
def uu(u:RD)(tm:TM)(H:Heap):Bool:=OR.rec (λv H1=>cond (Nat.beq H1.nx H.nx) (same v u.v) false) (λ_=>false) (u.p.f (Qu tm u.p.os) ⟨H.nx,H.t,H.nx⟩)
def still(tm:TM)(H:Heap)(rs:List RD):Bool:=List.rec true (λr _ ih=>cond (uu r tm H) ih false) rs
def US(bef:Nat)(rs:List RD):List RD:=List.rec [] (λr _ ih=>cond (Nat.testBit bef r.p.i) ih (r::ih)) rs
def Mn(g:Option (Z1×Bool))(tm:TM)(yes no:WM):WM:=match g with
 |none=>yes
 |some (e,b)=>UX (e tm) b yes no
def wrO(o:Obj):Bool:=match o with|.row r=>r.own|.loop=>false|_=>true
def dY(o:Option Obj)(k:Obj->WM):WM:=match o with|some x=>cond (wrO x) (k x) .fail|none=>.fail
abbrev PK:=List RD->TM->Heap->X->WM
def Kc(p:PI)(nx:PK)(rs:List RD)(tm:TM)(H:Heap)(x:X)(r:OR):WM:=
 OR.rec (λv H1=>cond (Nat.beq H1.nx H.nx) (nx rs (p.dst tm v) H x) (cond (Nat.beq H1.nx (Nat.succ H.nx)) (dY (H1.t.get H.nx) λo=>nx rs (p.dst tm v) (H.new o) x) .fail)) (λ_=>.fail) r
def gj(p:PI)(nx:PK)(rs:List RD)(tm:TM)(H:Heap)(x:X):WM:=
 cond (RJ H.nx tm p.os) (Kc p nx rs tm H x (p.f (Qu tm p.os) ⟨H.nx,.leaf,H.nx⟩)) .fail
def GF(p:PI)(nx:PK)(rs:List RD)(tm:TM)(H:Heap)(x:X)(r:OR):WM:=
 OR.rec (λv H1=>cond (Nat.beq H1.nx H.nx) (nx (⟨p,v⟩::rs) (p.dst tm v) H x) .fail) (λ_=>.fail) r
def Zge(ds:List ZL)(v:AV)(tm:TM)(H:Heap)(x:X):WM:=.ok (.pan v) (Q2 tm ds) H x
def Bt(ds:List ZL)(p:PI)(nx:PK)(rs:List RD)(tm:TM)(x:X)(r:CR):WM:=match r with
 |.ret v H=>nx (US p.bef rs) (p.dst tm v) H x
 |.pan v H=>Zge ds v tm H x
 |.fail=>.fail
def ZiQ(ds:List ZL)(p:PI)(nx:PK)(rs:List RD)(c:Ctx)(tm:TM)(x:X)(o:OR2):WM:=match o with
 |.call f args H=>Bt ds p nx rs tm x (c.call f args H)
 |.yield b args H=>Bt ds p nx rs tm x (c.yld b args H)
 |.pan v H=>Zge ds v tm H x
 |_=>.fail
def HF(ds:List ZL)(p:PI)(nx:PK)(rs:List RD)(c:Ctx)(tm:TM)(x:X)(r:OR):WM:=
 OR.rec (λv H=>nx (US p.bef rs) (p.dst tm v) H x) (λo=>ZiQ ds p nx rs c tm x o) r
def SK(ds:List ZL)(p:PI)(nx:PK)(c:Ctx)(rs:List RD)(tm:TM)(H:Heap)(x:X):WM:=
 Hl.rec (Mn p.g tm (gj p nx rs tm H x) (nx rs (p.dst tm Xz) H x))
  (Mn p.g tm (GF p nx rs tm H x (p.f (Qu tm p.os) ⟨H.nx,H.t,H.nx⟩)) (nx rs (p.dst tm Xz) H x))
  (cond (still tm H rs) (Mn p.g tm (HF ds p nx rs c tm x (p.f (Qu tm p.os) H)) (nx (US p.bef rs) (p.dst tm Xz) H x)) .fail) p.kind
def Ul(ds:List ZL)(fin:PK)(l:List PI):Ctx->PK:=
 List.rec (λ_ rs tm H x=>cond (still tm H rs) (fin rs tm H x) .fail) (λp _ ih c=>SK ds p (ih c) c) l
def Kw(_:List RD)(tm:TM)(H:Heap)(x:X):WM:=.ok .normal tm H x
def ZfR(l:List RD)(k:WM):WM:=List.rec k (λ_ _ _=>.fail) l
def W2(l:List PI):D:=λc tm H x=>Ul (l.map (·.dst)) Kw l c [] tm H x
def onV(r:OR)(k:Heap->WM):WM:=OR.rec (λ_ H=>k H) (λ_=>.fail) r
def apart(a b:AV)(k:WM):WM:=match a,b with|.ptr x _,.ptr y _=>cond (Nat.beq x y) .fail k|_,_=>.fail
def EK(p q:PI)(a b:Z1)(rs:List RD)(tm:TM)(H:Heap)(x:X):WM:=
 ZfR (US p.bef rs) (ZfR (US q.bef rs) (apart (a (Qu tm p.os)) (b (Qu tm q.os)) (onV (p.f (Qu tm p.os) H) λH1=>onV (q.f (Qu tm q.os) H1) λH2=>.ok .normal tm H2 x)))
def iI(l:List PI)(p q:PI)(a b:Z1):D:=λc tm H x=>Ul (l.map (·.dst)) (EK p q a b) l c [] tm H x
section
variable (P:Program)
def xF(f:Value->AV):List Value->List AV
 |[]=>[]
 |v::vs=>f v::xF f vs
def I1:Nat->Value->AV
 |0,_=>.unk
 |d+1,v=>match v with
  |.bool b=>.bool b
  |.int k n=>.int k n
  |.string s=>.str s.data.toList
  |.pointer none=>.nilp
  |.slice none 0 0=>.nils
  |.map none=>.nilm
  |.nilFunc=>.nilf
  |.func (.func f) ⟨[]⟩ ⟨[]⟩=>.func f [] []
  |.nilIface=>.nili
  |.iface t v=>.iface t (I1 d v)
  |.agg ⟨cs⟩=>.agg (xF (I1 d) cs)
  |.tuple ⟨cs⟩=>.tup (xF (I1 d) cs)
  |_=>.unk
def ZiG(v:Value):AV:=I1 20 v
def Znq(v:Value):Bool:=match v with|.agg _=>false|.tuple _=>false|_=>true
def Ly:Nat->Value->Bool
 |0,_=>true
 |d+1,v=>match v with
  |.agg ⟨cs⟩=>cs.all λc=>Znq c&&Ly d c
  |.tuple ⟨cs⟩=>cs.all (Ly d)
  |.iface _ v=>Ly d v
  |_=>true
def W1(v:Value):AV:=cond (Ly 20 v) (ZiG v) .unk
def YV(o:Operand):Z1:=match o with
 |.tmp t=>cond (Nat.ble t 511) (SC t) (k .unk)
 |.const v=>k (W1 v)
 |.global g=>cond (Nat.ble (Nat.succ g) P.globals.size) (k (.ptr g 0)) (k .unk)
 |.func f=>k (.func f [] [])
def Mr(t:Nat):Bool:=match P.underlying t with|some (.struct _)|some (.array _ _)=>true|_=>false
def U1(t:Nat)(f:TypeInfo->Vv):Vv:=match P.info? t with|some i=>f i|none=>VZ
def Zbw(t:Nat):Array (String×TypeId):=match P.underlying t with|some (.interface ms)=>ms|_=> #[]
def args(l:Array Operand):List Z1:=l.toList.map (YV P)
def opt(x:Option Operand):Option Z1:=x.map (YV P)
def Zlm(op:BinOp)(x y:Z1):Vv:=match op with
 |.add=>Yg x y|.sub=>Vs x y|.mul=>O3 x y|.quo=>Jy x y|.rem=>I0 x y
 |.and=>Nz x y RI|.or=>Nz x y eN|.xor=>Nz x y ah|.andNot=>Nz x y Ho
 |.shl=>ZfV x y|.shr=>Kz x y
 |.eql=>VZ|.neq=>VZ
 |.lss=>Yu x y XE YH
 |.gtr=>Yu x y UG WJ
 |.leq=>Yu x y S2 UE
 |.geq=>Yu x y Sc W5
def LN(o:Operand):Bool:=match o with|.const _=>true|_=>false
def eqK(t:Nat)(lit neg:Bool)(x y:Z1)(d:TypeDesc):Vv:=match d with
 |.bool=>WN x y sK neg
 |.int _=>WN x y Vp neg
 |.string=>WN x y PM neg
 |.pointer e=>match P.info? e with|some i=>cond (Nat.beq i.size 0) VZ (WN x y nV neg)|none=>VZ
 |.slice _=>WN x y nU neg
 |.map _ _=>WN x y eqM neg
 |.func _ _ _=>WN x y eqN neg
 |.interface _=>WN x y (jA lit (eqC P (px P 9))) neg
 |.array _ _=>cond (P.eqGuardType P.depth t) VZ (WN x y (px P 10 t) neg)
 |.struct _=>cond (P.eqGuardType P.depth t) VZ (WN x y (px P 10 t) neg)
 |_=>VZ
def V1(t:Nat)(f:TypeDesc->Vv):Vv:=match P.underlying t with|some d=>f d|none=>VZ
def x8(f:Array Field->Vv)(d:TypeDesc):Vv:=match d with|.struct fs=>f fs|_=>VZ
def BU(f:Nat->Vv)(d:TypeDesc):Vv:=match d with|.slice e=>f e|_=>VZ
def Zjq(f:Nat->Vv)(d:TypeDesc):Vv:=match d with|.pointer e=>f e|_=>VZ
def fU(f:(AV->AV->Option Bool)->Vv)(d:TypeDesc):Vv:=match d with|.string=>f PM|.int _=>f Vp|.bool=>f sK|_=>VZ
def oZ(f g:Vv)(d:TypeDesc):Vv:=match d with|.int _=>f|_=>g
def tU8(f:Vv)(d:TypeDesc):Vv:=match d with|.int .u8=>f|_=>VZ
def Pk{α:Type}(x:Option α)(f:α->Vv):Vv:=match x with|some a=>f a|none=>VZ
def j7(b:Builtin)(xs:List Operand)(ts:List TypeId):Vv:=match b with
 |.append=>match xs,ts with
  |[s,x],[t,u]=>V1 P t<|BU λe=>U1 P e λi=>Pk i.zero λz=>cond (Nat.beq (YK (W1 z).cells) i.size) (V1 P u<|oZ (Ny (YV P s) (YV P x) e i.size i.bytes (W1 z).cells) (X1 (YV P s) (YV P x) e i.size i.bytes)) VZ
  |_,_=>VZ
 |.copy=>match xs,ts with
  |[d,s],[t,_]=>V1 P t<|BU λe=>U1 P e λi=>C9 (YV P d) (YV P s) i.size
  |_,_=>VZ
 |.len=>match xs,ts with
  |[x],[t]=>V1 P t λd=>match d with|.string=>Xm (YV P x)|.slice _=>Xs (YV P x)|.map _ _=>ZiE (YV P x)|_=>VZ
  |_,_=>VZ
 |.cap=>match xs,ts with
  |[x],[t]=>V1 P t λd=>match d with|.slice _=>rU (YV P x)|_=>VZ
  |_,_=>VZ
 |.min=>Su false (xs.map (YV P))
 |.max=>Su true (xs.map (YV P))
 |.unsafeString=>match xs,ts with
  |[p,n],[t,_]=>V1 P t<|Zjq λe=>U1 P e λi=>cond (Nat.beq i.size 1) (oz (YV P p) (YV P n) e) VZ
  |_,_=>VZ
 |.unsafeSliceData=>match xs with|[x]=>Di (YV P x)|_=>VZ
 |.panic=>match xs with|[x]=>OM (YV P x)|_=>VZ
 |.recover=>Bd
 |_=>VZ
def j8(c:Call):Vv:=match c.callee with
 |.value (.func f)=>Zv f (args P c.args)
 |.value f=>MO (YV P f) P (args P c.args)
 |.invoke r m=>ZbG (YV P r) P m (args P c.args)
 |.builtin b=>j7 P b c.args.toList c.argTypes.toList
def ZcW(s d:Nat)(x:Z1)(ds dd:TypeDesc):Vv:=match ds,dd with
 |.int _,.int k=>U0 x k
 |.string,.string=>Znm x
 |.int _,.string=>ow x
 |.string,.slice e=>V1 P e<|tU8 (C8 x e)
 |.slice e,.string=>V1 P e<|tU8 (Jz x)
 |.pointer u,.unsafePointer=>U1 P u λi=>cond (Nat.ble 1 i.size) (zD x) VZ
 |.unsafePointer,.pointer u=>U1 P u λi=>cond (Nat.ble 1 i.size) (zC x u i.size) VZ
 |.slice _,.slice e=>cond (Nat.beq s d) (V1 P e<|tU8 (zB x)) VZ
 |_,_=>VZ
def Zg9(s d:Nat)(x:Z1):Vv:=V1 P s λds=>V1 P d λdd=>ZcW P s d x ds dd
def ZdJ(n:String)(a b:List Operand):Vv:=match a,b with|[x],[]=>ZiF n (YV P x)|_,_=>VZ
def PD(place:Nat->Option (Nat×Nat))(p:Nat×Operand):yx:=match place p.1 with
 |some (o,s)=>⟨o,s,YV P p.2⟩
 |none=>⟨0,0,YV P p.2⟩
def aD(kd:IntKind)(m:Int):List Value->Bool
 |[]=>true
 |v::l=>match v with|.int j n=>cond (P3 kd j) (cond (Ge m n) (aD kd m l) false) false|_=>false
def jI(t:Nat)(l:List Value)(cs:List AV):Vv:=match l with
 |.int kd m::l'=>cond (Nat.ble 8 (YK l')) (cond (aD kd m l') (Lr t (Nat.succ (YK l')) (.int kd m)) (Ue t cs)) (Ue t cs)
 |_=>Ue t cs
def ZfW(hi mx:Option Operand):Bool:=match mx,hi with|some _,none=>false|_,_=>true
def VE(o:Op):Vv:=match o with
 |.move x=>ZF (YV P x)
 |.assign x=>ZF (YV P x)
 |.pick c a b=>Yx (YV P c) (YV P a) (YV P b)
 |.alloc t=>U1 P t λi=>Pk i.zero λz=>jI t z.cells.toList (W1 z).cells
 |.box t x=>Lt (YV P x) t
 |.build t ps=>U1 P t λi=>Pk i.zero λz=>V1 P t λd=>match d with
  |.struct fs=>Pk (fs.toList.mapM λf=>(P.info? f.type).map λi=>(f.offset,i.size)) λplaces=>UZ (W1 z).cells (ps.toList.map (PD P (places.toArray[·]?)))
  |.array _ e=>U1 P e λj=>UZ (W1 z).cells (ps.toList.map (PD P λi=>some (i*j.size,j.size)))
  |_=>VZ
 |.buildSlice t n ps=>V1 P t<|BU λe=>U1 P e λj=>Pk j.zero λz=>
   cond (Nat.ble (Nat.mul n j.size) 16777216) (Wt e j.size n ((List.replicate n (W1 z).cells).flatten) (ps.toList.map (PD P λi=>some (i*j.size,j.size)))) VZ
 |.load t a=>U1 P t λi=>V1 P t λ_=>cond (Mr P t) (WS (YV P a) i.size) (ZJ (YV P a))
 |.store t a x=>U1 P t λi=>Xn (YV P a) (YV P x) i.size
 |.nilCheck x=>Qs (YV P x)
 |.binOp op t x y _=>match op with
  |.eql=>V1 P t (eqK P t (LN x||LN y) false (YV P x) (YV P y))
  |.neq=>V1 P t (eqK P t (LN x||LN y) true (YV P x) (YV P y))
  |op=>Zlm op (YV P x) (YV P y)
 |.unOp op _ x=>match op with|.neg=>Ao (YV P x)|.not=>Pf (YV P x)|.xor=>dH (YV P x)|_=>VZ
 |.convert s d x=>Zg9 P s d (YV P x)
 |.makeInterface t x=>V1 P t λd=>match d with|.interface _=>VZ|_=>OK (YV P x) t
 |.makeFunc fn a b=>match fn with
  |.func f=>v9 f (args P a) (args P b)
  |.method n=>ZdJ P n a.toList b.toList
  |_=>VZ
 |.makeMap _ r=>match r with|none=>ZfU|some _=>VZ
 |.mapUpdate t m k v=>V1 P t λd=>match d with|.map kt _=>V1 P kt<|fU λeq=>Dg eq (YV P m) (YV P k) (YV P v)|_=>VZ
 |.insert t m k v=>V1 P t λd=>match d with|.map kt _=>V1 P kt<|fU λeq=>Dg eq (YV P m) (YV P k) (YV P v)|_=>VZ
 |.lookup t m k ok=>V1 P t λd=>match d with
  |.map kt e=>V1 P kt<|fU λeq=>U1 P e λi=>Pk i.zero λz=>Jg eq (W1 z) ok (YV P m) (YV P k)
  |_=>VZ
 |.makeSlice t l c=>V1 P t<|BU λe=>U1 P e λi=>Pk i.zero λz=>NA e i.size i.bytes (W1 z).cells (YV P l) (YV P c)
 |.slice t x lo hi mx=>cond (ZfW hi mx) (V1 P t λd=>match d with
  |.string=>WI (YV P x) (opt P lo) (opt P hi) (opt P mx)
  |.slice e=>U1 P e λi=>Ph i.size (YV P x) (opt P lo) (opt P hi) (opt P mx)
  |.array n e=>U1 P e λi=>Pg n i.size (YV P x) (opt P lo) (opt P hi) (opt P mx)
  |_=>VZ) VZ
 |.fieldAddr t x f=>V1 P t<|x8 λfs=>Pk fs[f]? λg=>U1 P g.type λi=>cond (Nat.ble 1 i.size) (Yr (YV P x) g.offset) VZ
 |.field t x f=>V1 P t<|x8 λfs=>Pk fs[f]? λg=>U1 P g.type λi=>V1 P g.type λ_=>cond (Mr P g.type) (Znl (YV P x) g.offset i.size) (ZiD (YV P x) g.offset)
 |.indexAddr t x i=>V1 P t λd=>match d with
  |.slice e=>U1 P e λj=>XN (YV P x) (YV P i) j.size
  |.array n e=>U1 P e λj=>On (YV P x) (YV P i) n j.size
  |_=>VZ
 |.index t x i=>V1 P t λd=>match d with
  |.string=>Y7 (YV P x) (YV P i)
  |.array n e=>U1 P e λj=>V1 P e λ_=>cond (Mr P e) (xD (YV P x) (YV P i) n j.size) (cond (Nat.beq j.size 1) (Gp (YV P x) (YV P i) n) VZ)
  |_=>VZ
 |.typeAssert x _ t ok=>U1 P t λi=>Pk i.zero λz=>V1 P t λd=>match d with
  |.interface _=>v8 (YV P x) P (Zbw P t) (W1 z) ok
  |_=>Df (YV P x) t (W1 z) ok
 |.extract x i=>XJ (YV P x) i
 |.call c=>j8 P c
 |.defer c=>match c.callee with
  |.value f=>Ba (YV P f) (args P c.args)
  |_=>VZ
 |.panic x=>OM (YV P x)
 |.range t x=>V1 P t λd=>match d with|.string=>Dh (YV P x)|.map _ _=>ZbJ (YV P x)|_=>VZ
 |.next x b=>cond b (ov (YV P x)) VZ
 |.entry x=>ZbH (YV P x)
 |_=>VZ
def PR(o:Op):Hl:=match o with
 |.load .. |.lookup .. =>.read
 |.slice t _ _ _ _=>match P.underlying t with|some (.slice _)=>.read|_=>.free
 |.convert s d _=>match P.underlying s,P.underlying d with|some (.slice _),some (.slice _)=>.eff|some (.slice _),_=>.read|_,_=>.free
 |.call c=>match c.callee,c.argTypes.toList with
  |.builtin b,ts=>match b with
   |.len=>(match ts with|[t]=>(match P.underlying t with|some (.map _ _)=>.read|_=>.free)|_=>.free)
   |.cap|.unsafeSliceData=>.read|.min|.max=>.free|_=>.eff
  |_,_=>.eff
 |.assign _|.store .. |.mapUpdate .. |.insert .. |.mapEntry .. |.entryStore .. |.panic _|.defer _|.next .. |.range .. |.entry _=>.eff
 |_=>.free
def TL(ops:Array Oper)(o:Oper):Option (Z1×Bool):=match o.guard with
 |none=>none
 |some (j,b)=>match(ops[j]?).bind (·.dst) with|some d=>some (YV P (.tmp d),b)|none=>some (k .unk,b)
def Wm(x:Option Nat):ZL:=match x with|some d=>cond (Nat.ble d 511) (PX d) d0|none=>d0
def uh(ops:Array Oper):List Oper->D
 |[]=>Zc
 |o::l=>match TL P ops o with
  |none=>Za (VE P o.op) (Wm o.dst) (uh ops l)
  |some (g,b)=>ZB g b (VE P o.op) (Wm o.dst) (uh ops l)
def Is(acc:List (Nat×Nat))(o:Oper):Nat:=o.after.toList.foldl (λs e=>cond (Region.binds .any e) (Nat.lor (Nat.lor s (Nat.pow 2 e.on)) ((acc.lookup e.on).getD 0)) s) 0
def yC:List Oper->Nat->List (Nat×Nat)->List (Oper×Nat×Nat)
 |[],_,_=>[]
 |o::l,i,acc=>(o,i,Is acc o)::yC l (i+1) ((i,Is acc o)::acc)
def wa(l:List Operand):List Nat:=l.filterMap λx=>match x with|.tmp t=>some t|_=>none
def Uc(o:Oper):List (ZL×Z1):=(wa o.op.operands.toList).filterMap λt=>cond (Nat.ble t 511) (some (PX t,SC t)) none
def WA(ops:Array Oper)(x:Oper×Nat×Nat):PI:=⟨VE P x.1.op,TL P ops x.1,Uc x.1,Wm x.1.dst,PR P x.1.op,x.2.1,x.2.2⟩
def vG(k:Hl):Bool:=Hl.rec false false true k
structure SI where
 i:Nat
 lk:List Nat
 d:Option Nat
 eff:Bool
 bef:Nat
 x:Oper×Nat×Nat
def S6(ops:Array Oper)(o:Oper):List Nat:=wa o.op.operands.toList++(match o.guard with|some (j,_)=>((ops[j]?).bind (·.dst)).toList|none=>[])
def OS(ops:Array Oper)(x:Oper×Nat×Nat):SI:=⟨x.2.1,S6 ops x.1,x.1.dst,vG (PR P x.1.op),x.2.2,x⟩
def Cs:Nat->List SI->Nat->List SI
 |0,_,_=>[]
 |f+1,todo,done=>
  let ready:=todo.filter λp=>Nat.beq (Nat.land p.bef done) p.bef
  match ready.find? (λp=>cond p.eff false true) with
  |some p=>p::Cs f (todo.filter λq=>cond (Nat.beq q.i p.i) false true) (Nat.lor done (Nat.pow 2 p.i))
  |none=>match ready with
   |p::_=>p::Cs f (todo.filter λq=>cond (Nat.beq q.i p.i) false true) (Nat.lor done (Nat.pow 2 p.i))
   |[]=>[]
def bit(n:Nat):Nat:=Nat.pow 2 n
def Kr(l:List Nat):Nat:=List.rec 0 (λt _ ih=>Nat.lor (bit t) ih) l
def ZeN(d:Option Nat):Nat:=match d with|some t=>bit t|none=>0
def dOk(d:Option Nat)(sm:Nat):Bool:=match d with|some t=>cond (Nat.testBit sm t) false true|none=>true
def Zbi(ws:List (Nat×Nat))(im bef t:Nat):Bool:=ws.all λx=>cond (Nat.beq x.1 t) (cond (Nat.testBit im x.2) (Nat.testBit bef x.2) true) true
def yQ(i:Nat)(o:Oper):Bool:=o.after.toList.all λe=>cond (Region.binds .any e) (Nat.ble (Nat.succ e.on) i) true
def dK(p:SI)(d:Option Nat):Bool:=match d with|some t=>cond (p.lk.all λs=>cond (Nat.beq s t) false true) (match p.d with|some s=>cond (Nat.beq s t) false true|none=>true) false|none=>true
def aF(l0:List SI)(q:SI)(im:Nat):Bool:=l0.all λp=>cond (Nat.testBit im p.i) (cond (Nat.testBit q.bef p.i) true (dK p q.d)) true
def ol(l0:List SI)(q:SI)(sm im:Nat):Bool:=cond (dOk q.d (Nat.lor sm (Kr q.lk))) true (cond q.eff (aF l0 q im) false)
def LP(ws:List (Nat×Nat))(l0:List SI):List SI->Nat->Nat->Nat->Nat->Bool
 |[],_,_,im,all=>Nat.beq im all
 |q::l,em,sm,im,all=>cond (Nat.beq (Nat.land q.bef em) em) (cond (ol l0 q sm im) (cond (q.lk.all (Zbi ws im q.bef)) (cond (Nat.testBit im q.i) false
   (LP ws l0 l (cond q.eff (Nat.lor em (bit q.i)) em) (Nat.lor (Nat.lor sm (Kr q.lk)) (ZeN q.d)) (Nat.lor im (bit q.i)) all)) false) false) false
def Pt(l:List SI):List (Nat×Nat):=l.filterMap λq=>match q.d with|some t=>some (t,q.i)|none=>none
def Dc(l:List SI):Option (List SI×SI×SI):=match l.reverse with|b::a::r=>some (r.reverse,a,b)|_=>none
def Rl(o:Oper):Option Z1:=match o.op,o.guard,o.dst with|.store _ a _,none,none=>some (YV P a)|_,_,_=>none
def qf(ops:Array Oper)(ws:List (Nat×Nat))(l0:List SI)(all:Nat)(x:Option (List SI×SI×SI)):D:=match x with
 |some (r,a,b)=>match Rl P a.x.1,Rl P b.x.1 with
  |some e1,some e2=>cond (LP ws l0 (r++[a]) 0 0 0 (Nat.xor all (bit b.i))) (cond (LP ws l0 (r++[b]) 0 0 0 (Nat.xor all (bit a.i)))
    (iI (r.map λq=>WA P ops q.x) (WA P ops a.x) (WA P ops b.x) e1 e2) Q0) Q0
  |_,_=>Q0
 |none=>Q0
def CQ(ops:Array Oper):List SI:=Cs ops.size ((yC ops.toList 0 []).map (OS P ops)) 0
def xL(ops:Array Oper)(l:List SI):D:=
 cond (LP (Pt l) l l 0 0 0 (Nat.sub (bit ops.size) 1)) (W2 (l.map λq=>WA P ops q.x)) (qf P ops (Pt l) l (Nat.sub (bit ops.size) 1) (Dc l))
def ql(ops:Array Oper):D:=
 cond (ops.toList.zipIdx.all λx=>yQ x.2 x.1) (xL P ops (CQ P ops)) Q0
def HE:Code->List Nat
 |.region _ ops _=>ops.toList.filterMap (·.dst)
 |.seq a b=>HE a++HE b
 |.cond _ a b=>HE a++HE b
 |.block _ a=>HE a
 |.loop a=>HE a
 |.scope a=>HE a
 |.rangeFunc _ _ _ _=>[]
 |_=>[]
def P4:Code->Option (Operand×Option Nat)
 |.seq a _=>P4 a
 |.region _ ops false=>match ops.toList with
  |o::_=>match o.op,o.guard with|.next x false,none=>some (x,o.dst)|_,_=>none
  |[]=>none
 |_=>none
def wL(c:Code):D×D:=
 Code.rec (motive:=λ_=>D×D) (Zc,Q0)
  (λ_ ops d=>(cond d (ql P ops) (uh P ops ops.toList),cond d Q0 (uh P ops ops.toList.tail)))
  (λ_ _ a b=>(Zh a.1 b.1,Zh a.2 b.1))
  (λq _ _ a b=>(ZK (YV P q) a.1 b.1,Q0))
  (λid _ a=>(Z0 id a.1,Q0))
  (λb a=>(match P4 b with|some (x,t)=>rL (YV P x) (Wm t) ((HE b).map λt=>Wm (some t)) a.2|none=>X8 a.1,Q0))
  (λf ps _ _ a b=>(cF (YV P f) (ps.toList.map λt=>Wm (some t)) (Zh a.1 b.1),Q0))
  (λid=>(X6 id,Q0))
  (λ_ a=>(a.1,Q0))
  (λ_=>(Zc,Q0))
  (λ_=>(Q0,Q0))
  (Z2,Q0)
  (λ_=>(Q0,Q0)) c
def Zg7(c:Code):D:=(wL P c).1
end
def params:List ZL:=[d N8.u0 N8.u0 N8.u0,d N8.u1 N8.u0 N8.u0,d N8.u2 N8.u0 N8.u0,d N8.u3 N8.u0 N8.u0,d N8.u4 N8.u0 N8.u0,d N8.u5 N8.u0 N8.u0,d N8.u6 N8.u0 N8.u0,d N8.u7 N8.u0 N8.u0,
 d N8.u0 N8.u1 N8.u0,d N8.u1 N8.u1 N8.u0,d N8.u2 N8.u1 N8.u0,d N8.u3 N8.u1 N8.u0,d N8.u4 N8.u1 N8.u0,d N8.u5 N8.u1 N8.u0,d N8.u6 N8.u1 N8.u0,d N8.u7 N8.u1 N8.u0]
def SE(as:List AV):TM:=OO M9 params as
structure CF where
 rs:List (Z1×Option (Nat×Bool))
 body:D
def Zgk(tm:TM)(H:Heap)(r:Z1×Option (Nat×Bool))(k:AV->CR):CR:=match r.2 with
 |none=>k (r.1 tm)
 |some (n,ag)=>match r.1 tm with
  |.ptr b o=>match H.t.get b with
   |some (.row r)=>cond (Nat.ble (Nat.add o n) r.size) (cond ag (k (.agg (Vf r o n))) (k (r.get o))) .fail
   |_=>.fail
  |_=>.fail
def OW(tm:TM)(H:Heap)(k:List AV->CR):List (Z1×Option (Nat×Bool))->CR
 |[]=>k []
 |r::l=>Zgk tm H r λv=>OW tm H (λvs=>k (v::vs)) l
def results(rs:List (Z1×Option (Nat×Bool)))(tm:TM)(H:Heap):CR:=
 OW tm H (λvs=>match vs with|[v]=>.ret v H|vs=>.ret (.tup vs) H) rs
inductive DR where
 |fail
 |ret (v:AV) (H:Heap) (rec:Bool)
 |pan (v:AV) (H:Heap) (rec:Bool)
def MT(rc:Option AV)(x:X):Bool:=match rc,x.rc with|some _,none=>true|_,_=>false
def deferred(dcall:Option AV->Nat->List AV->Heap->DR)(rs:List (Z1×Option (Nat×Bool)))(tm:TM):List (AV×List AV)->Option AV->Heap->CR
 |[],none,H=>results rs tm H
 |[],some v,H=>.pan v H
 |d::l,pn,H=>match d.1 with
  |.func g a b=>match dcall pn g (a++(d.2++b)) H with
   |.ret _ H rec=>deferred dcall rs tm l (cond rec none pn) H
   |_=>.fail
  |_=>.fail
def LY(dcall:Option AV->Nat->List AV->Heap->DR)(rs:List (Z1×Option (Nat×Bool)))(r:WM):CR:=match r with
 |.ok .normal tm H x=>match x.df with|[]=>results rs tm H|df=>deferred dcall rs tm df none H
 |.ok .ret tm H x=>match x.df with|[]=>results rs tm H|df=>deferred dcall rs tm df none H
 |.ok (.pan v) tm H x=>match x.df with|[]=>.pan v H|df=>deferred dcall rs tm df (some v) H
 |_=>.fail
def FU(rc:Option AV)(rs:List (Z1×Option (Nat×Bool)))(r:WM):DR:=match r with
 |.ok .normal tm H x=>match x.df,results rs tm H with|[],.ret v H=>.ret v H (MT rc x)|_,_=>.fail
 |.ok .ret tm H x=>match x.df,results rs tm H with|[],.ret v H=>.ret v H (MT rc x)|_,_=>.fail
 |.ok (.pan v) _ H x=>match x.df with|[]=>.pan v H (MT rc x)|_=>.fail
 |_=>.fail
def ZcV(r:CR)(tm:TM)(x:X):WM:=match r with
 |.ret _ H=>.ok .normal tm H x
 |.pan v H=>.ok (.pan v) tm H x
 |.fail=>.fail
def Bh{α:Type}(d:α)(fs:T CF)(f:Nat)(k:CF->α):α:=match fs.get f with|some cf=>k cf|none=>d
def FV(fs:T CF)(fuel:Nat)(call:Nat->List AV->Heap->CR)(f:AV)(round:List AV->Heap->CR)(tm:TM)(H:Heap)(x:X):WM:=match f with
 |.func g a b=>Bh .fail fs g λcf=>
  ZcV (LY (λ_ _ _ _=>.fail) cf.rs (cf.body ⟨call,λl ys H'=>cond (Nat.beq l H.nx) (round ys H') .fail,UY,fuel,false⟩
   (SE (a++(.yield H.nx::b))) (H.new .loop) ⟨[],none⟩)) tm x
 |_=>.fail
def od(r:Option CR)(k:CR):CR:=Option.rec k (λr=>r) r
def ZE(lib:Nat->List AV->Heap->Option CR)(fs:T CF)(fuel:Nat)(n:Nat):Nat->List AV->Heap->CR:=
 @Nat.rec (λ_=>Nat->List AV->Heap->CR) (λ_ _ _=>.fail) (λ_ ih f args H=>od (lib f args H) (Bh .fail fs f λcf=>
  LY (λpn g as H=>Bh .fail fs g λcg=>FU pn cg.rs (cg.body ⟨ih,UJ,UY,fuel,false⟩ (SE as) H ⟨[],pn⟩))
   cf.rs (cf.body ⟨ih,UJ,FV fs fuel ih,fuel,false⟩ (SE args) H ⟨[],none⟩))) n
def Bg(n:Nat)(d:Option Nat):Bool:=match d with|some t=>Nat.ble (Nat.succ t) n|none=>true
def PJ(n:Nat)(c:Code):Bool:=
 Code.rec (motive:=λ_=>Bool) true (λ_ ops _=>ops.toList.all λo=>Bg n o.dst) (λ_ _ a b=>cond a b false) (λ_ _ _ a b=>cond a b false) (λ_ _ a=>a) (λ_ a=>a)
  (λ_ ps _ _ a b=>cond (ps.toList.all λt=>Bg n (some t)) (cond a b false) false) (λ_=>true) (λ_ a=>a) (λ_=>true) (λ_=>true) true (λ_=>true) c
def GG(P:Program)(r:ResultVar):Bool:=match r with|.tmp _=>true|.cell _ t=>(P.info? t).isSome&&(P.underlying t).isSome&&Nat.ble 1 (P.cellsOf t)
def Ej(P:Program)(f:Func):CF:=
 ⟨f.results.toList.map λr=>match r with|.tmp t=>(YV P (.tmp t),none)|.cell a t=>(YV P (.tmp a),some (P.cellsOf t,Mr P t)),
  match f.body with|some c=>cond (f.results.toList.all (GG P)) (cond (PJ f.ntmps c) (Zg7 P c) Q0) Q0|none=>Q0⟩
def Zoe(P:Program):T CF:=T.ofList (P.funcs.toList.map (Ej P))
def nI(k:IntKind)(n:Nat):AV:=.int k (.ofNat n)
def Yb:Z1:=e N8.a0 N8.a0 N8.a0
def Wc:Z1:=e N8.a1 N8.a0 N8.a0
def VX:Z1:=e N8.a2 N8.a0 N8.a0
def W8:Z1:=e N8.a3 N8.a0 N8.a0
def Y4:Z1:=e N8.a4 N8.a0 N8.a0
def YW:Z1:=e N8.a5 N8.a0 N8.a0
def XI:Z1:=e N8.a6 N8.a0 N8.a0
def XQ:Z1:=e N8.a7 N8.a0 N8.a0
def Wi:Z1:=e N8.a0 N8.a1 N8.a0
def WG:Z1:=e N8.a1 N8.a1 N8.a0
def YY:Z1:=e N8.a2 N8.a1 N8.a0
def Xt:Z1:=e N8.a3 N8.a1 N8.a0
def Xr:Z1:=e N8.a4 N8.a1 N8.a0
def Xf:Z1:=e N8.a5 N8.a1 N8.a0
def Xo:Z1:=e N8.a6 N8.a1 N8.a0
def Wb:Z1:=e N8.a7 N8.a1 N8.a0
def XF:Z1:=e N8.a0 N8.a2 N8.a0
def Wh:Z1:=e N8.a1 N8.a2 N8.a0
def Wo:Z1:=e N8.a2 N8.a2 N8.a0
def Wz:Z1:=e N8.a3 N8.a2 N8.a0
def W6:Z1:=e N8.a4 N8.a2 N8.a0
def Vq:Z1:=e N8.a5 N8.a2 N8.a0
def VH:Z1:=e N8.a6 N8.a2 N8.a0
def WU:Z1:=e N8.a7 N8.a2 N8.a0
def Ve:Z1:=e N8.a0 N8.a3 N8.a0
def Vx:Z1:=e N8.a1 N8.a3 N8.a0
def VY:Z1:=e N8.a2 N8.a3 N8.a0
def V7:Z1:=e N8.a3 N8.a3 N8.a0
def VO:Z1:=e N8.a4 N8.a3 N8.a0
def VQ:Z1:=e N8.a5 N8.a3 N8.a0
def UF:Z1:=e N8.a6 N8.a3 N8.a0
def UR:Z1:=e N8.a7 N8.a3 N8.a0
def UO:Z1:=e N8.a0 N8.a4 N8.a0
def UW:Z1:=e N8.a1 N8.a4 N8.a0
def Tt:Z1:=e N8.a2 N8.a4 N8.a0
def TR:Z1:=e N8.a3 N8.a4 N8.a0
def RP:Z1:=e N8.a4 N8.a4 N8.a0
def TS:Z1:=e N8.a5 N8.a4 N8.a0
def T7:Z1:=e N8.a6 N8.a4 N8.a0
def RQ:Z1:=e N8.a7 N8.a4 N8.a0
def Ru:Z1:=e N8.a0 N8.a5 N8.a0
def Qq:Z1:=e N8.a1 N8.a5 N8.a0
def Rv:Z1:=e N8.a2 N8.a5 N8.a0
def RX:Z1:=e N8.a3 N8.a5 N8.a0
def Rw:Z1:=e N8.a4 N8.a5 N8.a0
def Rx:Z1:=e N8.a5 N8.a5 N8.a0
def Q5:Z1:=e N8.a6 N8.a5 N8.a0
def RY:Z1:=e N8.a7 N8.a5 N8.a0
def OF:Z1:=e N8.a0 N8.a6 N8.a0
def OG:Z1:=e N8.a1 N8.a6 N8.a0
def Og:Z1:=e N8.a2 N8.a6 N8.a0
def RR:Z1:=e N8.a3 N8.a6 N8.a0
def Pw:Z1:=e N8.a4 N8.a6 N8.a0
def NR:Z1:=e N8.a5 N8.a6 N8.a0
def Oh:Z1:=e N8.a6 N8.a6 N8.a0
def Mm:Z1:=e N8.a7 N8.a6 N8.a0
def NS:Z1:=e N8.a0 N8.a7 N8.a0
def NT:Z1:=e N8.a1 N8.a7 N8.a0
def Oi:Z1:=e N8.a2 N8.a7 N8.a0
def Np:Z1:=e N8.a3 N8.a7 N8.a0
def OH:Z1:=e N8.a4 N8.a7 N8.a0
def Nq:Z1:=e N8.a5 N8.a7 N8.a0
def O0:Z1:=e N8.a6 N8.a7 N8.a0
def Nr:Z1:=e N8.a7 N8.a7 N8.a0
def Ns:Z1:=e N8.a0 N8.a0 N8.a1
def Q6:Z1:=e N8.a1 N8.a0 N8.a1
def RZ:Z1:=e N8.a2 N8.a0 N8.a1
def NU:Z1:=e N8.a3 N8.a0 N8.a1
def LS:Z1:=e N8.a4 N8.a0 N8.a1
def PQ:Z1:=e N8.a5 N8.a0 N8.a1
def Li:Z1:=e N8.a6 N8.a0 N8.a1
def Kk:Z1:=e N8.a7 N8.a0 N8.a1
def Oj:Z1:=e N8.a0 N8.a1 N8.a1
def Ok:Z1:=e N8.a1 N8.a1 N8.a1
def Js:Z1:=e N8.a2 N8.a1 N8.a1
def Kl:Z1:=e N8.a3 N8.a1 N8.a1
def II:Z1:=e N8.a4 N8.a1 N8.a1
def IJ:Z1:=e N8.a5 N8.a1 N8.a1
def LU:Z1:=e N8.a6 N8.a1 N8.a1
def LV:Z1:=e N8.a7 N8.a1 N8.a1
def Jt:Z1:=e N8.a0 N8.a2 N8.a1
def Ju:Z1:=e N8.a1 N8.a2 N8.a1
def Ry:Z1:=e N8.a2 N8.a2 N8.a1
def Jv:Z1:=e N8.a3 N8.a2 N8.a1
def Q7:Z1:=e N8.a4 N8.a2 N8.a1
def Lj:Z1:=e N8.a5 N8.a2 N8.a1
def Jw:Z1:=e N8.a6 N8.a2 N8.a1
def Nt:Z1:=e N8.a7 N8.a2 N8.a1
def LW:Z1:=e N8.a0 N8.a3 N8.a1
def Jx:Z1:=e N8.a1 N8.a3 N8.a1
def IK:Z1:=e N8.a2 N8.a3 N8.a1
def Lk:Z1:=e N8.a3 N8.a3 N8.a1
def Km:Z1:=e N8.a4 N8.a3 N8.a1
def Fw:Z1:=e N8.a5 N8.a3 N8.a1
def ER:Z1:=e N8.a6 N8.a3 N8.a1
def ES:Z1:=e N8.a7 N8.a3 N8.a1
def ET:Z1:=e N8.a0 N8.a4 N8.a1
def IL:Z1:=e N8.a1 N8.a4 N8.a1
def Aj:Z1:=e N8.a2 N8.a4 N8.a1
def CH:Z1:=e N8.a3 N8.a4 N8.a1
def JR:Z1:=e N8.a4 N8.a4 N8.a1
def HT:Z1:=e N8.a5 N8.a4 N8.a1
def MG:Z1:=e N8.a6 N8.a4 N8.a1
def MH:Z1:=e N8.a7 N8.a4 N8.a1
def HU:Z1:=e N8.a0 N8.a5 N8.a1
def Of:Z1:=e N8.a1 N8.a5 N8.a1
def Kh:Z1:=e N8.a2 N8.a5 N8.a1
def OV:Z1:=e N8.a3 N8.a5 N8.a1
def Ev:Z1:=e N8.a4 N8.a5 N8.a1
def HV:Z1:=e N8.a5 N8.a5 N8.a1
def HW:Z1:=e N8.a6 N8.a5 N8.a1
def JS:Z1:=e N8.a7 N8.a5 N8.a1
def JT:Z1:=e N8.a0 N8.a6 N8.a1
def JU:Z1:=e N8.a1 N8.a6 N8.a1
def JV:Z1:=e N8.a2 N8.a6 N8.a1
def JW:Z1:=e N8.a3 N8.a6 N8.a1
def JX:Z1:=e N8.a4 N8.a6 N8.a1
def MI:Z1:=e N8.a5 N8.a6 N8.a1
def MJ:Z1:=e N8.a6 N8.a6 N8.a1
def JY:Z1:=e N8.a7 N8.a6 N8.a1
def JZ:Z1:=e N8.a0 N8.a7 N8.a1
def RH:Z1:=e N8.a1 N8.a7 N8.a1
def HY:Z1:=e N8.a2 N8.a7 N8.a1
def Ki:Z1:=e N8.a3 N8.a7 N8.a1
def Kj:Z1:=e N8.a4 N8.a7 N8.a1
def Ew:Z1:=e N8.a5 N8.a7 N8.a1
def Ct:Z1:=e N8.a6 N8.a7 N8.a1
def Cu:Z1:=e N8.a7 N8.a7 N8.a1
def HZ:Z1:=e N8.a0 N8.a0 N8.a2
def ze:Z1:=e N8.a1 N8.a0 N8.a2
def zf:Z1:=e N8.a2 N8.a0 N8.a2
def zg:Z1:=e N8.a3 N8.a0 N8.a2
def LM:Z1:=e N8.a4 N8.a0 N8.a2
def zh:Z1:=e N8.a5 N8.a0 N8.a2
def zi:Z1:=e N8.a6 N8.a0 N8.a2
def zj:Z1:=e N8.a7 N8.a0 N8.a2
def pF:Z1:=e N8.a0 N8.a1 N8.a2
def vh:Z1:=e N8.a1 N8.a1 N8.a2
def vi:Z1:=e N8.a2 N8.a1 N8.a2
def vj:Z1:=e N8.a3 N8.a1 N8.a2
def vk:Z1:=e N8.a4 N8.a1 N8.a2
def vl:Z1:=e N8.a5 N8.a1 N8.a2
def vm:Z1:=e N8.a6 N8.a1 N8.a2
def pG:Z1:=e N8.a7 N8.a1 N8.a2
def vp:Z1:=e N8.a0 N8.a2 N8.a2
def zk:Z1:=e N8.a1 N8.a2 N8.a2
def Cv:Z1:=e N8.a2 N8.a2 N8.a2
def Cw:Z1:=e N8.a3 N8.a2 N8.a2
def Cx:Z1:=e N8.a4 N8.a2 N8.a2
def Cy:Z1:=e N8.a5 N8.a2 N8.a2
def Cz:Z1:=e N8.a6 N8.a2 N8.a2
def CA:Z1:=e N8.a7 N8.a2 N8.a2
def CB:Z1:=e N8.a0 N8.a3 N8.a2
def CC:Z1:=e N8.a1 N8.a3 N8.a2
def CD:Z1:=e N8.a2 N8.a3 N8.a2
def CG:Z1:=e N8.a3 N8.a3 N8.a2
def zl:Z1:=e N8.a4 N8.a3 N8.a2
def zm:Z1:=e N8.a5 N8.a3 N8.a2
def vq:Z1:=e N8.a6 N8.a3 N8.a2
def vr:Z1:=e N8.a7 N8.a3 N8.a2
def vt:Z1:=e N8.a0 N8.a4 N8.a2
def pH:Z1:=e N8.a1 N8.a4 N8.a2
def pI:Z1:=e N8.a2 N8.a4 N8.a2
def zn:Z1:=e N8.a3 N8.a4 N8.a2
def pJ:Z1:=e N8.a4 N8.a4 N8.a2
def pK:Z1:=e N8.a5 N8.a4 N8.a2
def pL:Z1:=e N8.a6 N8.a4 N8.a2
def pM:Z1:=e N8.a7 N8.a4 N8.a2
def gK:Z1:=e N8.a0 N8.a5 N8.a2
def gM:Z1:=e N8.a1 N8.a5 N8.a2
def gN:Z1:=e N8.a2 N8.a5 N8.a2
def gO:Z1:=e N8.a3 N8.a5 N8.a2
def gQ:Z1:=e N8.a4 N8.a5 N8.a2
def gS:Z1:=e N8.a5 N8.a5 N8.a2
def gU:Z1:=e N8.a6 N8.a5 N8.a2
def vu:Z1:=e N8.a7 N8.a5 N8.a2
def vw:Z1:=e N8.a0 N8.a6 N8.a2
def Zc7:Z1:=e N8.a1 N8.a6 N8.a2
def gV:Z1:=e N8.a2 N8.a6 N8.a2
def Zc8:Z1:=e N8.a3 N8.a6 N8.a2
def gW:Z1:=e N8.a4 N8.a6 N8.a2
def gX:Z1:=e N8.a5 N8.a6 N8.a2
def gY:Z1:=e N8.a6 N8.a6 N8.a2
def Zc9:Z1:=e N8.a7 N8.a6 N8.a2
def gZ:Z1:=e N8.a0 N8.a7 N8.a2
def Zda:Z1:=e N8.a1 N8.a7 N8.a2
def fa:Z1:=e N8.a2 N8.a7 N8.a2
def Zhg:Z1:=e N8.a3 N8.a7 N8.a2
def Zdb:Z1:=e N8.a4 N8.a7 N8.a2
def Zhh:Z1:=e N8.a5 N8.a7 N8.a2
def Zdc:Z1:=e N8.a6 N8.a7 N8.a2
def Zdd:Z1:=e N8.a7 N8.a7 N8.a2
def Zde:Z1:=e N8.a0 N8.a0 N8.a3
def Zhi:Z1:=e N8.a1 N8.a0 N8.a3
def Zdf:Z1:=e N8.a2 N8.a0 N8.a3
def Zhj:Z1:=e N8.a3 N8.a0 N8.a3
def Zdg:Z1:=e N8.a4 N8.a0 N8.a3
def Zdh:Z1:=e N8.a5 N8.a0 N8.a3
def Zdi:Z1:=e N8.a6 N8.a0 N8.a3
def Zdj:Z1:=e N8.a7 N8.a0 N8.a3
def Zdk:Z1:=e N8.a0 N8.a1 N8.a3
def Zdl:Z1:=e N8.a1 N8.a1 N8.a3
def Zdm:Z1:=e N8.a2 N8.a1 N8.a3
def Zdn:Z1:=e N8.a3 N8.a1 N8.a3
def Zhk:Z1:=e N8.a4 N8.a1 N8.a3
def Zhl:Z1:=e N8.a5 N8.a1 N8.a3
def Zhm:Z1:=e N8.a6 N8.a1 N8.a3
def Zhn:Z1:=e N8.a7 N8.a1 N8.a3
def Zho:Z1:=e N8.a0 N8.a2 N8.a3
def Zhp:Z1:=e N8.a1 N8.a2 N8.a3
def Zhq:Z1:=e N8.a2 N8.a2 N8.a3
def Zhr:Z1:=e N8.a3 N8.a2 N8.a3
def Zhs:Z1:=e N8.a4 N8.a2 N8.a3
def Zht:Z1:=e N8.a5 N8.a2 N8.a3
def Zhu:Z1:=e N8.a6 N8.a2 N8.a3
def Zhv:Z1:=e N8.a7 N8.a2 N8.a3
def Zhw:Z1:=e N8.a0 N8.a3 N8.a3
def Zhx:Z1:=e N8.a1 N8.a3 N8.a3
def Zhy:Z1:=e N8.a2 N8.a3 N8.a3
def Zhz:Z1:=e N8.a3 N8.a3 N8.a3
def ZhA:Z1:=e N8.a4 N8.a3 N8.a3
def ZhB:Z1:=e N8.a5 N8.a3 N8.a3
def ZhC:Z1:=e N8.a6 N8.a3 N8.a3
def ZhD:Z1:=e N8.a7 N8.a3 N8.a3
def st0:ZL:=d N8.u0 N8.u0 N8.u0
def st1:ZL:=d N8.u1 N8.u0 N8.u0
def st2:ZL:=d N8.u2 N8.u0 N8.u0
def Vl:ZL:=d N8.u3 N8.u0 N8.u0
def Y9:ZL:=d N8.u4 N8.u0 N8.u0
def WX:ZL:=d N8.u5 N8.u0 N8.u0
def W9:ZL:=d N8.u6 N8.u0 N8.u0
def Vw:ZL:=d N8.u7 N8.u0 N8.u0
def Vz:ZL:=d N8.u0 N8.u1 N8.u0
def Um:ZL:=d N8.u1 N8.u1 N8.u0
def XH:ZL:=d N8.u2 N8.u1 N8.u0
def XM:ZL:=d N8.u3 N8.u1 N8.u0
def XW:ZL:=d N8.u4 N8.u1 N8.u0
def XU:ZL:=d N8.u5 N8.u1 N8.u0
def Wp:ZL:=d N8.u6 N8.u1 N8.u0
def Wy:ZL:=d N8.u7 N8.u1 N8.u0
def Ws:ZL:=d N8.u0 N8.u2 N8.u0
def WL:ZL:=d N8.u1 N8.u2 N8.u0
def WW:ZL:=d N8.u2 N8.u2 N8.u0
def Vj:ZL:=d N8.u3 N8.u2 N8.u0
def Vt:ZL:=d N8.u4 N8.u2 N8.u0
def VS:ZL:=d N8.u5 N8.u2 N8.u0
def VT:ZL:=d N8.u6 N8.u2 N8.u0
def V4:ZL:=d N8.u7 N8.u2 N8.u0
def V9:ZL:=d N8.u0 N8.u3 N8.u0
def Uf:ZL:=d N8.u1 N8.u3 N8.u0
def Uw:ZL:=d N8.u2 N8.u3 N8.u0
def Ux:ZL:=d N8.u3 N8.u3 N8.u0
def UH:ZL:=d N8.u4 N8.u3 N8.u0
def Ta:ZL:=d N8.u5 N8.u3 N8.u0
def Tj:ZL:=d N8.u6 N8.u3 N8.u0
def TO:ZL:=d N8.u7 N8.u3 N8.u0
def TP:ZL:=d N8.u0 N8.u4 N8.u0
def TU:ZL:=d N8.u1 N8.u4 N8.u0
def SB:ZL:=d N8.u2 N8.u4 N8.u0
def SJ:ZL:=d N8.u3 N8.u4 N8.u0
def Ri:ZL:=d N8.u4 N8.u4 N8.u0
def Rj:ZL:=d N8.u5 N8.u4 N8.u0
def Rk:ZL:=d N8.u6 N8.u4 N8.u0
def RG:ZL:=d N8.u7 N8.u4 N8.u0
def Qw:ZL:=d N8.u0 N8.u5 N8.u0
def Qx:ZL:=d N8.u1 N8.u5 N8.u0
def Pr:ZL:=d N8.u2 N8.u5 N8.u0
def Qf:ZL:=d N8.u3 N8.u5 N8.u0
def PA:ZL:=d N8.u4 N8.u5 N8.u0
def PZ:ZL:=d N8.u5 N8.u5 N8.u0
def P0:ZL:=d N8.u6 N8.u5 N8.u0
def P1:ZL:=d N8.u7 N8.u5 N8.u0
def Ov:ZL:=d N8.u0 N8.u6 N8.u0
def OP:ZL:=d N8.u1 N8.u6 N8.u0
def O8:ZL:=d N8.u2 N8.u6 N8.u0
def NG:ZL:=d N8.u3 N8.u6 N8.u0
def NH:ZL:=d N8.u4 N8.u6 N8.u0
def NI:ZL:=d N8.u5 N8.u6 N8.u0
def NJ:ZL:=d N8.u6 N8.u6 N8.u0
def NW:ZL:=d N8.u7 N8.u6 N8.u0
def NX:ZL:=d N8.u0 N8.u7 N8.u0
def NY:ZL:=d N8.u1 N8.u7 N8.u0
def Mt:ZL:=d N8.u2 N8.u7 N8.u0
def Mu:ZL:=d N8.u3 N8.u7 N8.u0
def N0:ZL:=d N8.u4 N8.u7 N8.u0
def Mv:ZL:=d N8.u5 N8.u7 N8.u0
def Mw:ZL:=d N8.u6 N8.u7 N8.u0
def Mx:ZL:=d N8.u7 N8.u7 N8.u0
def M1:ZL:=d N8.u0 N8.u0 N8.u1
def M2:ZL:=d N8.u1 N8.u0 N8.u1
def M3:ZL:=d N8.u2 N8.u0 N8.u1
def M4:ZL:=d N8.u3 N8.u0 N8.u1
def LZ:ZL:=d N8.u4 N8.u0 N8.u1
def KL:ZL:=d N8.u5 N8.u0 N8.u1
def KM:ZL:=d N8.u6 N8.u0 N8.u1
def KN:ZL:=d N8.u7 N8.u0 N8.u1
def KO:ZL:=d N8.u0 N8.u1 N8.u1
def KQ:ZL:=d N8.u1 N8.u1 N8.u1
def KR:ZL:=d N8.u2 N8.u1 N8.u1
def KS:ZL:=d N8.u3 N8.u1 N8.u1
def JA:ZL:=d N8.u4 N8.u1 N8.u1
def I9:ZL:=d N8.u5 N8.u1 N8.u1
def Hf:ZL:=d N8.u6 N8.u1 N8.u1
def JB:ZL:=d N8.u7 N8.u1 N8.u1
def JC:ZL:=d N8.u0 N8.u2 N8.u1
def JD:ZL:=d N8.u1 N8.u2 N8.u1
def KT:ZL:=d N8.u2 N8.u2 N8.u1
def KU:ZL:=d N8.u3 N8.u2 N8.u1
def KV:ZL:=d N8.u4 N8.u2 N8.u1
def JE:ZL:=d N8.u5 N8.u2 N8.u1
def JF:ZL:=d N8.u6 N8.u2 N8.u1
def JG:ZL:=d N8.u7 N8.u2 N8.u1
def JH:ZL:=d N8.u0 N8.u3 N8.u1
def JI:ZL:=d N8.u1 N8.u3 N8.u1
def Hg:ZL:=d N8.u2 N8.u3 N8.u1
def Hh:ZL:=d N8.u3 N8.u3 N8.u1
def GV:ZL:=d N8.u4 N8.u3 N8.u1
def F6:ZL:=d N8.u5 N8.u3 N8.u1
def EZ:ZL:=d N8.u6 N8.u3 N8.u1
def E0:ZL:=d N8.u7 N8.u3 N8.u1
def E1:ZL:=d N8.u0 N8.u4 N8.u1
def E2:ZL:=d N8.u1 N8.u4 N8.u1
def BO:ZL:=d N8.u2 N8.u4 N8.u1
def BP:ZL:=d N8.u3 N8.u4 N8.u1
def J8:ZL:=d N8.u4 N8.u4 N8.u1
def J9:ZL:=d N8.u5 N8.u4 N8.u1
def GN:ZL:=d N8.u6 N8.u4 N8.u1
def GO:ZL:=d N8.u7 N8.u4 N8.u1
def GP:ZL:=d N8.u0 N8.u5 N8.u1
def GQ:ZL:=d N8.u1 N8.u5 N8.u1
def GR:ZL:=d N8.u2 N8.u5 N8.u1
def Ia:ZL:=d N8.u3 N8.u5 N8.u1
def GS:ZL:=d N8.u4 N8.u5 N8.u1
def GU:ZL:=d N8.u5 N8.u5 N8.u1
def Ib:ZL:=d N8.u6 N8.u5 N8.u1
def Ic:ZL:=d N8.u7 N8.u5 N8.u1
def Ie:ZL:=d N8.u0 N8.u6 N8.u1
def If:ZL:=d N8.u1 N8.u6 N8.u1
def Ig:ZL:=d N8.u2 N8.u6 N8.u1
def Ih:ZL:=d N8.u3 N8.u6 N8.u1
def Ii:ZL:=d N8.u4 N8.u6 N8.u1
def Ij:ZL:=d N8.u5 N8.u6 N8.u1
def Ik:ZL:=d N8.u6 N8.u6 N8.u1
def Il:ZL:=d N8.u7 N8.u6 N8.u1
def Im:ZL:=d N8.u0 N8.u7 N8.u1
def In:ZL:=d N8.u1 N8.u7 N8.u1
def Io:ZL:=d N8.u2 N8.u7 N8.u1
def KJ:ZL:=d N8.u3 N8.u7 N8.u1
def KK:ZL:=d N8.u4 N8.u7 N8.u1
def EO:ZL:=d N8.u5 N8.u7 N8.u1
def BC:ZL:=d N8.u6 N8.u7 N8.u1
def BD:ZL:=d N8.u7 N8.u7 N8.u1
def ye:ZL:=d N8.u0 N8.u0 N8.u2
def yf:ZL:=d N8.u1 N8.u0 N8.u2
def yg:ZL:=d N8.u2 N8.u0 N8.u2
def yh:ZL:=d N8.u3 N8.u0 N8.u2
def yi:ZL:=d N8.u4 N8.u0 N8.u2
def yj:ZL:=d N8.u5 N8.u0 N8.u2
def yk:ZL:=d N8.u6 N8.u0 N8.u2
def yl:ZL:=d N8.u7 N8.u0 N8.u2
def uX:ZL:=d N8.u0 N8.u1 N8.u2
def uY:ZL:=d N8.u1 N8.u1 N8.u2
def uZ:ZL:=d N8.u2 N8.u1 N8.u2
def ta:ZL:=d N8.u3 N8.u1 N8.u2
def tc:ZL:=d N8.u4 N8.u1 N8.u2
def tf:ZL:=d N8.u5 N8.u1 N8.u2
def tg:ZL:=d N8.u6 N8.u1 N8.u2
def oR:ZL:=d N8.u7 N8.u1 N8.u2
def th:ZL:=d N8.u0 N8.u2 N8.u2
def ym:ZL:=d N8.u1 N8.u2 N8.u2
def BE:ZL:=d N8.u2 N8.u2 N8.u2
def BF:ZL:=d N8.u3 N8.u2 N8.u2
def BG:ZL:=d N8.u4 N8.u2 N8.u2
def BH:ZL:=d N8.u5 N8.u2 N8.u2
def BI:ZL:=d N8.u6 N8.u2 N8.u2
def BJ:ZL:=d N8.u7 N8.u2 N8.u2
def BK:ZL:=d N8.u0 N8.u3 N8.u2
def BL:ZL:=d N8.u1 N8.u3 N8.u2
def BM:ZL:=d N8.u2 N8.u3 N8.u2
def BN:ZL:=d N8.u3 N8.u3 N8.u2
def yn:ZL:=d N8.u4 N8.u3 N8.u2
def yo:ZL:=d N8.u5 N8.u3 N8.u2
def tj:ZL:=d N8.u6 N8.u3 N8.u2
def tk:ZL:=d N8.u7 N8.u3 N8.u2
def tn:ZL:=d N8.u0 N8.u4 N8.u2
def oS:ZL:=d N8.u1 N8.u4 N8.u2
def oT:ZL:=d N8.u2 N8.u4 N8.u2
def oU:ZL:=d N8.u3 N8.u4 N8.u2
def oV:ZL:=d N8.u4 N8.u4 N8.u2
def oW:ZL:=d N8.u5 N8.u4 N8.u2
def oX:ZL:=d N8.u6 N8.u4 N8.u2
def bq:ZL:=d N8.u7 N8.u4 N8.u2
def br:ZL:=d N8.u0 N8.u5 N8.u2
def bz:ZL:=d N8.u1 N8.u5 N8.u2
def bA:ZL:=d N8.u2 N8.u5 N8.u2
def bB:ZL:=d N8.u3 N8.u5 N8.u2
def bC:ZL:=d N8.u4 N8.u5 N8.u2
def bD:ZL:=d N8.u5 N8.u5 N8.u2
def bE:ZL:=d N8.u6 N8.u5 N8.u2
def bF:ZL:=d N8.u7 N8.u5 N8.u2
def bG:ZL:=d N8.u0 N8.u6 N8.u2
def bH:ZL:=d N8.u1 N8.u6 N8.u2
def bI:ZL:=d N8.u2 N8.u6 N8.u2
def bJ:ZL:=d N8.u3 N8.u6 N8.u2
def bK:ZL:=d N8.u4 N8.u6 N8.u2
def bL:ZL:=d N8.u5 N8.u6 N8.u2
def bM:ZL:=d N8.u6 N8.u6 N8.u2
def bN:ZL:=d N8.u7 N8.u6 N8.u2
def bO:ZL:=d N8.u0 N8.u7 N8.u2
def bP:ZL:=d N8.u1 N8.u7 N8.u2
def bQ:ZL:=d N8.u2 N8.u7 N8.u2
def ZdS:ZL:=d N8.u3 N8.u7 N8.u2
def ZdT:ZL:=d N8.u4 N8.u7 N8.u2
def ZdU:ZL:=d N8.u5 N8.u7 N8.u2
def ZdV:ZL:=d N8.u6 N8.u7 N8.u2
def ZdW:ZL:=d N8.u7 N8.u7 N8.u2
def ZdX:ZL:=d N8.u0 N8.u0 N8.u3
def ZdY:ZL:=d N8.u1 N8.u0 N8.u3
def ZdZ:ZL:=d N8.u2 N8.u0 N8.u3
def Zd0:ZL:=d N8.u3 N8.u0 N8.u3
def Zd1:ZL:=d N8.u4 N8.u0 N8.u3
def Zd2:ZL:=d N8.u5 N8.u0 N8.u3
def Zd3:ZL:=d N8.u6 N8.u0 N8.u3
def Zd4:ZL:=d N8.u7 N8.u0 N8.u3
def Zd5:ZL:=d N8.u0 N8.u1 N8.u3
def Zd6:ZL:=d N8.u1 N8.u1 N8.u3
def Zd7:ZL:=d N8.u2 N8.u1 N8.u3
def Zd8:ZL:=d N8.u3 N8.u1 N8.u3
def Zi2:ZL:=d N8.u4 N8.u1 N8.u3
def Zi3:ZL:=d N8.u5 N8.u1 N8.u3
def Zi4:ZL:=d N8.u6 N8.u1 N8.u3
def Zi5:ZL:=d N8.u7 N8.u1 N8.u3
def Zi6:ZL:=d N8.u0 N8.u2 N8.u3
def Zi7:ZL:=d N8.u1 N8.u2 N8.u3
def Zi8:ZL:=d N8.u2 N8.u2 N8.u3
def Zi9:ZL:=d N8.u3 N8.u2 N8.u3
def Zja:ZL:=d N8.u4 N8.u2 N8.u3
def Zjb:ZL:=d N8.u5 N8.u2 N8.u3
def Zjc:ZL:=d N8.u6 N8.u2 N8.u3
def Zjd:ZL:=d N8.u7 N8.u2 N8.u3
def Zje:ZL:=d N8.u0 N8.u3 N8.u3
def Zjf:ZL:=d N8.u1 N8.u3 N8.u3
def Zjg:ZL:=d N8.u2 N8.u3 N8.u3
def Zjh:ZL:=d N8.u3 N8.u3 N8.u3
def Zji:ZL:=d N8.u4 N8.u3 N8.u3
def Zjj:ZL:=d N8.u5 N8.u3 N8.u3
def Zjk:ZL:=d N8.u6 N8.u3 N8.u3
def Zjl:ZL:=d N8.u7 N8.u3 N8.u3
end
end Go.AI
