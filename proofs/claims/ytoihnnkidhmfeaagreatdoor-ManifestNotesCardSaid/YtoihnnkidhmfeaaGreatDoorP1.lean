/- The interpreter of my own for the model's code: its values, its operations, how code is compiled; definitions alone, no conditions. -/
import Derived.Calls
import GoSem.Step
set_option maxRecDepth 1000000
set_option maxHeartbeats 0
set_option linter.unusedVariables false
set_option linter.unusedSimpArgs false
namespace Go.AI
abbrev Zd:= @decide_eq_false
abbrev Zh:= @List.getD_eq_getElem?_getD
abbrev Zj:= @Nat.ble_eq_true_of_le
abbrev Zg:= @decide_eq_true
abbrev Zp:= @of_decide_eq_true
abbrev Zq:= @Nat.le_refl
abbrev Zr:= @List.getElem?_eq_getElem
abbrev Zw:= @List.length_cons
abbrev Zn:= @Nat.zero_add
abbrev YH:= @List.take_of_length_le
abbrev Zv:= @List.mem_cons_self
abbrev ZI:= @Nat.lt_of_lt_of_le
abbrev Zo:= @List.length_append
abbrev ZF:= @List.mem_cons_of_mem
abbrev ZJ:= @Nat.eq_of_beq_eq_true
abbrev ZQ:= @Nat.le_of_ble_eq_true
abbrev Y8:= @List.drop_zero
abbrev Zi:= @List.length_map
abbrev ZU:= @Nat.mod_eq_of_lt
abbrev ZZ:= @List.length_nil
abbrev Yq:= @Nat.lt_succ_self
abbrev ZN:= @Array.getElem?_eq_some_iff
abbrev Z7:= @Nat.add_zero
abbrev Zu:= @List.mem_append
abbrev Yv:= @Nat.zero_le
abbrev YN:= @Nat.le_trans
abbrev HJ:= @Nat.add_sub_cancel
abbrev Yb:= @List.mem_cons
abbrev YC:= @Nat.beq_refl
abbrev VX:= @Bool.true_and
abbrev SU:= @Bool.false_and
abbrev Xg:= @List.getElem?_eq_none
abbrev Ys:= @List.length_take
abbrev Yh:= @Array.getElem?_toList
abbrev ZP:= @Array.getD_eq_getD_getElem?
abbrev We:= @List.length_eq_zero_iff
abbrev Yz:= @List.getElem?_append_left
abbrev YI:= @Int.ofNat_eq_natCast
abbrev O8:= @List.not_mem_nil
abbrev Ft:= @List.cons_append
abbrev Fu:= @List.getElem_mem
abbrev Rf:= @Nat.mul_le_mul_right
abbrev Xd:= @Nat.lt_of_le_of_lt
abbrev OB:= @Nat.le_of_lt
abbrev UN:= @List.length_pos_iff
abbrev Rg:= @Nat.sub_self
abbrev T5:= @Nat.mod_lt
abbrev Us:= @List.drop_eq_nil_of_le
abbrev Z1:= @List.getElem?_map
abbrev Y4:= @List.append_assoc
abbrev Dw:= @Nat.not_lt_zero
abbrev ta:= @List.getElem_of_mem
abbrev NR:= @List.drop_succ_cons
abbrev WT:= @List.take_length
abbrev Rx:= @Nat.lt_irrefl
abbrev Xn:= @Bool.and_eq_true
abbrev Ze:= @List.forall_mem_cons
abbrev VJ:= @Array.mem_of_getElem?
abbrev Xc:= @List.all_eq_true
abbrev Ub:= @Option.isSome_iff_exists
abbrev YQ:= @Array.getElem?_setIfInBounds
abbrev Uj:= @Bool.eq_iff_iff
abbrev XA:= @Bool.false_eq_true
abbrev QM:= @Nat.lt_succ_of_le
abbrev Rq:= @UInt8.toNat_inj
abbrev Ut:= @UInt8.lt_iff_toNat_lt
abbrev Ul:= @Nat.min_eq_left
abbrev Rp:= @Nat.min_eq_right
abbrev UY:= @Nat.add_assoc
abbrev Vp:= @List.extract_eq_take_drop
abbrev Rd:= @List.mem_of_mem_drop
abbrev Re:= @List.mem_of_mem_take
abbrev VO:= @Int.toNat_natCast
abbrev Y0:= @Nat.mul_one
abbrev Xv:= @Option.map_some
abbrev W5:= @Array.getElem?_modify
abbrev Vo:= @Array.getElem?_eq_getElem
abbrev UO:= @List.mem_of_getElem?
abbrev Ww:= @List.getElem?_toArray
abbrev TJ:= @List.getElem?_replicate
abbrev Tw:= @List.replicate_succ
abbrev VC:= @List.ext_getElem?
abbrev ZY:= @List.getElem?_append_right
abbrev Vj:= @List.getElem?_drop
abbrev Ym:= @List.map_cons
abbrev SV:= @Bool.or_eq_true
abbrev RK:= @List.flatten_cons
abbrev Vr:= @Nat.add_mul
abbrev Qm:= @Array.toList_map
abbrev Wb:= @List.getElem?_range
abbrev Wx:= @List.mem_map
abbrev UZ:= @Nat.zero_mul
abbrev Uv:= @Nat.le_succ
abbrev Uw:= @Option.map_none
abbrev Pm:= @Nat.min_comm
abbrev UD:= @List.getElem?_cons_zero
abbrev Y7:= @List.getElem?_cons_succ
abbrev Wa:= @Bool.not_false
abbrev RS:= @Nat.le_mul_of_pos_right
abbrev Wi:= @Bool.not_true
abbrev UE:= @Nat.add_sub_cancel_left
abbrev Qn:= @List.map_map
abbrev YY:= @List.map_nil
abbrev Sr:= @List.mem_map_of_mem
abbrev YJ:= @List.mem_singleton
abbrev U9:= @Array.getElem?_setIfInBounds_ne
abbrev SX:= @List.range'_succ
abbrev T4:= @List.mem_filterMap
abbrev Qx:= @List.range_eq_range'
abbrev Rc:= @Bool.or_eq_false_iff
abbrev Sm:= @List.mem_filter
abbrev TZ:= @List.filter_cons
abbrev XX:= @Array.mem_toList_iff
abbrev WR:= @List.nil_append
abbrev XH:= @List.getElem?_eq_some_iff
abbrev QU:= @Nat.one_mul
abbrev SW:= @List.drop_drop
abbrev YX:= @List.map_append
abbrev XL:= @Nat.div_le_self
abbrev Qo:= @Nat.lt_trans
abbrev Vg:= @List.getElem?_take_of_lt
abbrev ZV:= @List.length_drop
abbrev Wf:= @List.length_replicate
abbrev Ss:= @UInt8.toNat_toUInt32
abbrev VQ:= @List.set_cons_succ
abbrev Sk:= @List.length_set
abbrev WQ:= @List.append_nil
abbrev W9:= @Nat.testBit_eq_decide_div_mod_eq
abbrev Uk:= @List.take_append_of_le_length
abbrev Rh:= @UInt8.toNat_ofNat'
abbrev Vs:= @Nat.le_add_left
abbrev Ua:= @List.set_append_right
abbrev Pn:= @Nat.zero_ne_one
abbrev SQ:= @List.replicate_zero
abbrev Sq:= @List.drop_of_length_le
abbrev VP:= @List.length_range
end Go.AI
namespace Go.AI
open Go
noncomputable section
structure N8(α:Type) where
 a0:α
 a1:α
 a2:α
 a3:α
 a4:α
 a5:α
 a6:α
 a7:α
namespace N8
variable {α:Type}
def u0(f:α->α)(n:N8 α):N8 α:=N8.rec (λa b c d e g h i=>⟨f a,b,c,d,e,g,h,i⟩) n
def u1(f:α->α)(n:N8 α):N8 α:=N8.rec (λa b c d e g h i=>⟨a,f b,c,d,e,g,h,i⟩) n
def u2(f:α->α)(n:N8 α):N8 α:=N8.rec (λa b c d e g h i=>⟨a,b,f c,d,e,g,h,i⟩) n
def u3(f:α->α)(n:N8 α):N8 α:=N8.rec (λa b c d e g h i=>⟨a,b,c,f d,e,g,h,i⟩) n
def u4(f:α->α)(n:N8 α):N8 α:=N8.rec (λa b c d e g h i=>⟨a,b,c,d,f e,g,h,i⟩) n
def u5(f:α->α)(n:N8 α):N8 α:=N8.rec (λa b c d e g h i=>⟨a,b,c,d,e,f g,h,i⟩) n
def u6(f:α->α)(n:N8 α):N8 α:=N8.rec (λa b c d e g h i=>⟨a,b,c,d,e,g,f h,i⟩) n
def u7(f:α->α)(n:N8 α):N8 α:=N8.rec (λa b c d e g h i=>⟨a,b,c,d,e,g,h,f i⟩) n
def all(x:α):N8 α:=⟨x,x,x,x,x,x,x,x⟩
def proj(i:Nat):N8 α->α:=match i with|0=>a0|1=>a1|2=>a2|3=>a3|4=>a4|5=>a5|6=>a6|_=>a7
def upd(i:Nat):(α->α)->N8 α->N8 α:=match i with|0=>u0|1=>u1|2=>u2|3=>u3|4=>u4|5=>u5|6=>u6|_=>u7
end N8
inductive T(α:Type) where
 |leaf
 |node (l:T α) (v:Option α) (r:T α)
def In(f:Nat):Nat->List Bool:= @Nat.rec (λ_=>Nat->List Bool) (λ_=>[]) (λ_ ih n=> @Bool.rec (λ_=>List Bool) (@Bool.rec (λ_=>List Bool) (false::ih (Nat.sub (Nat.div n 2) 1)) (true::ih (Nat.div n 2)) (Nat.beq (Nat.mod n 2) 1)) [] (Nat.beq n 0)) f
def bits(n:Nat):List Bool:=In n n
namespace T
variable {α:Type}
def getB(t:T α):List Bool->Option α:=
 @T.rec α (λ_=>List Bool->Option α) (λ_=>none) (λ_ v _ gl gr bs=> @List.rec Bool (λ_=>Option α) v (λb bs _=> @Bool.rec (λ_=>Option α) (gr bs) (gl bs) b) bs) t
def single(x:α)(bs:List Bool):T α:= @List.rec Bool (λ_=>T α) (node leaf (some x) leaf) (λb _ ih=> @Bool.rec (λ_=>T α) (node leaf none ih) (node ih none leaf) b) bs
def setB(x:α)(t:T α):List Bool->T α:=
 @T.rec α (λ_=>List Bool->T α) (λbs=>single x bs) (λl v r sl sr bs=> @List.rec Bool (λ_=>T α) (node l (some x) r) (λb bs _=> @Bool.rec (λ_=>T α) (node l v (sr bs)) (node (sl bs) v r) b) bs) t
def delB(t:T α):List Bool->T α:=
 @T.rec α (λ_=>List Bool->T α) (λ_=>leaf) (λl v r sl sr bs=> @List.rec Bool (λ_=>T α) (node l none r) (λb bs _=> @Bool.rec (λ_=>T α) (node l v (sr bs)) (node (sl bs) v r) b) bs) t
def get(t:T α)(n:Nat):Option α:=getB t (bits n)
def set(t:T α)(n:Nat)(x:α):T α:=setB x t (bits n)
def del(t:T α)(n:Nat):T α:=delB t (bits n)
def RI:List α->List α
 |[]=>[]
 |[x]=>[x]
 |x::_::l=>x::RI l
def Qt:Nat->List α->T α
 |0,_=>leaf
 |_+1,[]=>leaf
 |f+1,x::l=>node (Qt f (RI l)) (some x) (Qt f (RI l.tail))
def Zee(l:List α):Nat:=List.rec 0 (λ_ _ n=>Nat.succ n) l
def ofList(l:List α):T α:=Qt (Zee l) l
end T
inductive AV where
 |unk
 |bool (b:Bool)
 |int (k:IntKind) (n:Int)
 |str (s:List UInt8)
 |nilp
 |ptr (b o:Nat)
 |nils
 |slice (b o len:Nat) (cap:Option Nat)
 |nilm
 |map (b:Nat)
 |func (f:Nat) (first caps:List AV)
 |meth (name:String) (recv:AV)
 |yield (b:Nat)
 |nilf
 |iface (t:Nat) (v:AV)
 |nili
 |agg (cs:List AV)
 |tup (vs:List AV)
 deriving Inhabited
def AV.cells(v:AV):List AV:=
 AV.casesOn v [] (λb=>[.bool b]) (λk n=>[.int k n]) (λs=>[.str s]) [.nilp] (λb o=>[.ptr b o]) [.nils] (λb o l c=>[.slice b o l c]) [.nilm] (λb=>[.map b])
  (λf a b=>[.func f a b]) (λn r=>[.meth n r]) (λb=>[.yield b]) [.nilf] (λt v=>[.iface t v]) [.nili] (λcs=>cs) (λ_=>[])
structure Row where
 elem:Nat
 sz:Nat
 size:Nat
 cells:T AV
 dflt:AV
 fz:Nat
 sm:Bool
 own:Bool
 exact:Bool
structure Q7 where
 key:AV
 val:AV
 born:Nat
inductive Obj where
 |row (r:Row)
 |map (es:List Q7) (clock:Nat)
 |siter (s:List UInt8) (pos:Nat)
 |miter (m:Option Nat) (since:Nat) (cur:Option (Nat×Nat))
 |loop
 |cmap (es:List Q7)
structure Heap where
 nx:Nat
 t:T Obj
 ro:Nat
def Row.get(r:Row)(i:Nat):AV:=Option.rec r.dflt (λv=>v) (r.cells.get i)
def Row.setCells(r:Row)(t:T AV):Row:=⟨r.elem,r.sz,r.size,t,r.dflt,r.fz,r.sm,r.own,r.exact⟩
def Heap.put(H:Heap)(b:Nat)(o:Obj):Heap:=⟨H.nx,H.t.set b o,H.ro⟩
def Heap.new(H:Heap)(o:Obj):Heap:=⟨Nat.succ H.nx,H.t.set H.nx o,H.ro⟩
inductive OR2 where
 |fail
 |call (f:Nat) (args:List AV) (H:Heap)
 |yield (b:Nat) (args:List AV) (H:Heap)
 |pan (v:AV) (H:Heap)
 |recov
 |defer (f:AV) (args:List AV)
inductive OR where
 |val (v:AV) (H:Heap)
 |oth (o:OR2)
abbrev OR.fail:OR:=.oth .fail
abbrev TM:=N8 (N8 (N8 AV))
abbrev VV:=TM->Heap->OR
abbrev Z0:=TM->AV
abbrev ZC:=TM->AV->TM
def e(f:N8 AV->AV)(g:N8 (N8 AV)->N8 AV)(h:TM->N8 (N8 AV)):Z0:=λtm=>f (g (h tm))
def k(v:AV):Z0:=λ_=>v
def d(f:(AV->AV)->N8 AV->N8 AV)(g:(N8 AV->N8 AV)->N8 (N8 AV)->N8 (N8 AV))(h:(N8 (N8 AV)->N8 (N8 AV))->TM->TM):ZC:=λtm v=>h (g (f (λ_=>v))) tm
def d0:ZC:=λtm _=>tm
def Ro(n:Nat):Z0:=e (N8.proj (n % 8)) (N8.proj (n/8 % 8)) (N8.proj (n/64))
def Ol(n:Nat):ZC:=d (N8.upd (n % 8)) (N8.upd (n/8 % 8)) (N8.upd (n/64))
def u8:N8 AV:=N8.all .unk
def u64:N8 (N8 AV):=N8.all u8
def Nn:TM:=N8.all u64
def RF{α:Type}(a:Nat)(k:Nat->α):α:=Nat.rec (k 0) (λp _=>k (Nat.succ p)) a
def Pq{α:Type}(n:Int)(k:Int->α):α:=Int.rec (λa=>RF a λa=>k (.ofNat a)) (λa=>RF a λa=>k (.negSucc a)) n
def CO(a b:Int):Int:=Int.rec (λx=>Int.rec (λy=>.ofNat (Nat.add x y)) (λ_=>a+b) b) (λ_=>a+b) a
def I7(a b:Int):Int:=Int.rec (λx=>Int.rec (λy=>cond (Nat.ble y x) (.ofNat (Nat.sub x y)) (a - b)) (λ_=>a - b) b) (λ_=>a - b) a
def CQ(a b:Int):Int:=Int.rec (λx=>Int.rec (λy=>.ofNat (Nat.mul x y)) (λ_=>a*b) b) (λ_=>a*b) a
def Zbd(a b:Int):Int:=Int.rec (λx=>Int.rec (λy=>.ofNat (Nat.div x y)) (λ_=>a.tdiv b) b) (λ_=>a.tdiv b) a
def Zbe(a b:Int):Int:=Int.rec (λx=>Int.rec (λy=>.ofNat (Nat.mod x y)) (λ_=>a.tmod b) b) (λ_=>a.tmod b) a
def qy(a b:Int):Bool:=Int.rec (λx=>Int.rec (λy=>Nat.ble (Nat.succ x) y) (λ_=>false) b) (λx=>Int.rec (λ_=>true) (λy=>Nat.ble (Nat.succ y) x) b) a
def E1(a b:Int):Bool:=Int.rec (λx=>Int.rec (λy=>Nat.beq x y) (λ_=>false) b) (λx=>Int.rec (λ_=>false) (λy=>Nat.beq x y) b) a
def yw(k:IntKind)(m:Nat)(n:Int):Int:=Int.rec (λa=>cond (Nat.ble m a) (.ofNat (Nat.mod a m)) (.ofNat a)) (λ_=>k.wrap n) n
def uS(k:IntKind)(h:Nat)(n:Int):Int:=Int.rec (λa=>cond (Nat.ble h a) (k.wrap n) (.ofNat a)) (λa=>cond (Nat.ble h a) (k.wrap n) n) n
def Zad(k:IntKind)(n:Int):Int:=
 IntKind.rec (uS .i8 128 n) (uS .i16 32768 n) (uS .i32 2147483648 n) (uS .i64 9223372036854775808 n) (yw .u8 256 n) (yw .u16 65536 n) (yw .u32 4294967296 n) (yw .u64 18446744073709551616 n) k
def OS(k:IntKind):Nat:=IntKind.rec 256 65536 4294967296 18446744073709551616 256 65536 4294967296 18446744073709551616 k
def RE(m:Nat)(n:Int):Nat:=Int.rec (λa=>Nat.mod a m) (λa=>Nat.sub (Nat.sub m 1) (Nat.mod a m)) n
def Nf(a b:IntKind):Bool:=Nat.beq a.ctorIdx b.ctorIdx
def Pz(v:AV)(k:IntKind->Int->OR):OR:=match v with|.int a b=>k a b|_=>.fail
def QH(v:AV)(k:Nat->OR):OR:=match v with|.int _ (.ofNat b)=>k b|_=>.fail
def FW(v:AV)(k:Bool->OR):OR:=match v with|.bool b=>k b|_=>.fail
def Nv(v:AV)(k:List UInt8->OR):OR:=match v with|.str s=>k s|_=>.fail
def PA(v:AV)(k:Nat->Nat->OR):OR:=match v with|.ptr b o=>k b o|_=>.fail
def Be(v:AV)(k:List AV->OR):OR:=match v with|.agg cs=>k cs|_=>.fail
def qT(v:AV)(k:List AV->OR):OR:=match v with|.tup cs=>k cs|_=>.fail
def QN(v:AV)(n:OR)(k:Nat->AV->OR):OR:=match v with|.iface t x=>k t x|.nili=>n|_=>.fail
def SA(v:AV)(n:OR)(k:Nat->Nat->Nat->Option Nat->OR):OR:=match v with|.slice b o l c=>k b o l c|.nils=>n|_=>.fail
def zW(v:AV)(n:OR)(k:Nat->OR):OR:=match v with|.map b=>k b|.nilm=>n|_=>.fail
def GJ(H:Heap)(b:Nat)(k:Obj->OR):OR:=match H.t.get b with|some o=>k o|none=>.fail
def X6(H:Heap)(b:Nat)(k:Row->OR):OR:=match H.t.get b with|some (.row r)=>k r|_=>.fail
def Rm{α:Type}(x:Option α)(k:α->OR):OR:=match x with|some a=>k a|none=>.fail
def ZR(b:Bool)(k:OR):OR:=cond b k .fail
def K3(a b:UInt8):Bool:=Nat.beq a.toNat b.toNat
def JN:List UInt8->List UInt8->Bool
 |[],[]=>true
 |a::x,b::y=>cond (K3 a b) (JN x y) false
 |_,_=>false
def Yj:List UInt8->List UInt8->Bool
 |_,[]=>false
 |[],_::_=>true
 |a::x,b::y=>cond (Nat.ble (Nat.succ a.toNat) b.toNat) true (cond (K3 a b) (Yj x y) false)
def loadN(r:Row)(o:Nat):Nat->List AV
 |0=>[]
 |n+1=>r.get o::loadN r (Nat.succ o) n
def YV(c:T AV):Nat->List AV->T AV
 |_,[]=>c
 |o,v::l=>YV (c.set o v) (Nat.succ o) l
def YF{α:Type}(l:List α):Nat:=List.rec 0 (λ_ _ n=>Nat.succ n) l
def FU:List AV->Nat->Option AV
 |[],_=>none
 |v::_,0=>some v
 |_::l,n+1=>FU l n
def vB:List UInt8->Nat->Option UInt8
 |[],_=>none
 |v::_,0=>some v
 |_::l,n+1=>vB l n
def Heap.newRow(H:Heap)(elem sz:Nat)(cs:List AV)(exact:Bool):Heap:=
 H.new (.row ⟨elem,sz,YF cs,T.ofList cs,.unk,0,false,true,exact⟩)
def Heap.may(H:Heap)(r:Row)(b:Nat):Bool:=cond r.own (Nat.ble H.ro b) false
section
variable (x y z:Z0)
def Zf:VV:=λtm H=>.val (x tm) H
def ZgW:VV:=λtm H=>Nv (x tm) λs=>.val (.str s) H
def YD:VV:=λtm H=>FW (x tm) λb=>.val (cond b (y tm) (z tm)) H
def Ws(e:Nat)(cs:List AV):VV:=λ_ H=>ZR (Nat.ble 1 (YF cs))<|.val (.ptr H.nx 0) (H.newRow e 1 cs true)
def Sd(e n:Nat)(v:AV):VV:=λ_ H=>.val (.ptr H.nx 0) (H.new (.row ⟨e,1,n,.leaf,v,0,false,true,true⟩))
def T1(e:Nat):VV:=λtm H=>ZR (Nat.ble 1 (YF (x tm).cells))<|.val (.ptr H.nx 0) (H.newRow e 1 (x tm).cells true)
end
structure yB where
 off:Nat
 sz:Nat
 x:Z0
def NC:Nat->List AV->List AV
 |0,_=>[]
 |_+1,[]=>[]
 |n+1,v::l=>v::NC n l
def OD:Nat->List AV->List AV
 |0,l=>l
 |_+1,[]=>[]
 |n+1,_::l=>OD n l
def zk(tm:TM)(k:List AV->OR):List yB->List AV->OR:=λps=>
 List.rec (λcells=>k cells) (λp _ ih cells=>
  ZR (Nat.ble 1 p.sz)<|ZR (Nat.beq (YF (p.x tm).cells) p.sz) (ZR (Nat.ble (Nat.add p.off p.sz) (YF cells)) (ih (NC p.off cells++((p.x tm).cells++OD (Nat.add p.off p.sz) cells))))) ps
def Vw(zs:List AV)(ps:List yB):VV:=λtm H=>ZR (Nat.ble 1 (YF zs))<|zk tm (λcs=>.val (.agg cs) H) ps zs
def Wz(e sz n:Nat)(zs:List AV)(ps:List yB):VV:=λtm H=>ZR (Nat.ble 1 sz)<|ZR (Nat.beq (YF zs) (Nat.mul n sz))<|zk tm (λcs=>.val (.slice H.nx 0 n none) (H.newRow e sz cs true)) ps zs
section
variable (x y z:Z0)
def Zs:VV:=λtm H=>PA (x tm) λb o=>X6 H b λr=>ZR (Nat.ble (Nat.succ o) r.size) (.val (r.get o) H)
def Yg(n:Nat):VV:=λtm H=>PA (x tm) λb o=>X6 H b λr=>ZR (Nat.ble (Nat.add o n) r.size) (.val (.agg (loadN r o n)) H)
def YZ:AV:=.tup []
def ZS(n:Nat):VV:=λtm H=>PA (x tm) λb o=>X6 H b λr=>
 ZR (Nat.ble 1 n)<|ZR (H.may r b) (ZR (Nat.ble (Nat.add o n) r.size) (ZR (Nat.ble r.fz o) (ZR (Nat.beq (YF (y tm).cells) n)
  (.val YZ (H.put b (.row (r.setCells (YV r.cells o (y tm).cells))))))))
def xr(v:AV)(k:OR):OR:=match v with|.ptr .. |.func .. |.iface .. |.yield _=>k|_=>.fail
def SO:VV:=λtm H=>xr (x tm) (.val (x tm) H)
def UV(k:IntKind)(n:Int)(H:Heap):OR:=Pq (Zad k n) λn=>.val (.int k n) H
def FN(x y:AV)(k:IntKind->Int->Int->OR):OR:=Pz x λj a=>Pz y λl b=>ZR (Nf j l) (k j a b)
def Xy:VV:=λtm H=>FN (x tm) (y tm) λk a b=>UV k (I7 a b) H
def RO:VV:=λtm H=>FN (x tm) (y tm) λk a b=>UV k (CQ a b) H
def Ng:VV:=λtm H=>FN (x tm) (y tm) λk a b=>cond (E1 b 0) .fail (UV k (Zbd a b) H)
def KU:VV:=λtm H=>FN (x tm) (y tm) λk a b=>cond (E1 b 0) .fail (Pq (Zbe a b) λn=>.val (.int k n) H)
def XM(f:Nat->Nat->Nat->Nat):VV:=λtm H=>FN (x tm) (y tm) λk a b=>UV k (.ofNat (f (OS k) (RE (OS k) a) (RE (OS k) b))) H
def T8(_ a b:Nat):Nat:=Nat.land a b
def Oi(_ a b:Nat):Nat:=Nat.lor a b
def PY(_ a b:Nat):Nat:=Nat.xor a b
def HL(m a b:Nat):Nat:=Nat.land a (Nat.sub (Nat.sub m 1) b)
def N6:VV:=λtm H=>Pz (x tm) λk a=>QH (y tm) λb=>UV k (CQ a (.ofNat (Nat.pow 2 (cond (Nat.ble b 64) b 64)))) H
def Zbf(a:Int)(b:Nat):Int:=Int.rec (λx=>.ofNat (Nat.div x (Nat.pow 2 b))) (λx=>.negSucc (Nat.div x (Nat.pow 2 b))) a
def rS(k:IntKind):Nat:=IntKind.rec 8 16 32 64 8 16 32 64 k
def LE(a b:Nat):Nat:=cond (Nat.ble a b) a b
def Nh:VV:=λtm H=>Pz (x tm) λk a=>QH (y tm) λb=>Pq (Zbf a (LE b (rS k))) λn=>.val (.int k n) H
def PL(b:Bool)(H:Heap):OR:=cond b (.val (.bool true) H) (.val (.bool false) H)
def Yc(f:Int->Int->Bool)(g:List UInt8->List UInt8->Bool):VV:=λtm H=>match x tm with
 |.int j a=>Pz (y tm) λl b=>ZR (Nf j l) (PL (f a b) H)
 |.str a=>Nv (y tm) λb=>PL (g a b) H
 |_=>.fail
def Xx(a b:Int):Bool:=qy a b
def LA(a b:Int):Bool:=!qy b a
def RH(a b:Int):Bool:=qy b a
def T0(a b:Int):Bool:=!qy a b
def UL(a b:List UInt8):Bool:=Yj b a
def WY(a b:List UInt8):Bool:=!Yj a b
def Q4(a b:List UInt8):Bool:=!Yj b a
def ZK:VV:=λtm H=>match x tm with
 |.int j a=>Pz (y tm) λl b=>ZR (Nf j l) (UV j (CO a b) H)
 |.str a=>Nv (y tm) λb=>ZR (Nat.ble (Nat.add (YF a) (YF b)) 4611686018427387904) (.val (.str (a++b)) H)
 |_=>.fail
def SL(a b:AV):Option Bool:=match a,b with|.int j a,.int k b=>cond (Nf j k) (some (E1 a b)) none|_,_=>none
def K9(a b:AV):Option Bool:=match a,b with|.str a,.str b=>some (JN a b)|_,_=>none
def wJ(a b:AV):Option Bool:=match a,b with|.bool a,.bool b=>some (cond a b (cond b false true))|_,_=>none
def lz(a b:AV):Option Bool:=match a,b with
 |.nilp,.nilp=>some true
 |.nilp,.ptr .. =>some false
 |.ptr ..,.nilp=>some false
 |.ptr b o,.ptr c p=>cond (Nat.beq b c) (some (Nat.beq o p)) none
 |_,_=>none
def gu(a b:AV):Option Bool:=match a,b with|.nils,.nils=>some true|.nils,.slice .. =>some false|.slice ..,.nils=>some false|_,_=>none
def eqM(a b:AV):Option Bool:=match a,b with|.nilm,.nilm=>some true|.nilm,.map _=>some false|.map _,.nilm=>some false|_,_=>none
def eqN(a b:AV):Option Bool:=match a,b with|.nilf,.nilf=>some true|.nilf,.func .. =>some false|.func ..,.nilf=>some false|_,_=>none
def pP(lit:Bool)(g:Nat->AV->AV->Option Bool)(a b:AV):Option Bool:=match a,b with
 |.nili,.nili=>cond lit (some true) none
 |.nili,.iface .. =>some false
 |.iface ..,.nili=>some false
 |.iface t v,.iface u w=>cond (Nat.beq t u) (g t v w) (some false)
 |_,_=>none
def eqC(P:Program)(f:Nat->AV->AV->Option Bool)(t:Nat)(v w:AV):Option Bool:=match P.info? t with|some i=>cond i.comparable (f t v w) none|none=>none
def pD(P:Program)(t:Nat):Option Bool:=match P.underlying t with|some (.struct _)|some (.array _ _)=>some true|some _=>some false|none=>none
def JC(P:Program)(t:Nat)(cs:List AV)(off:Nat)(k:AV->Option Bool):Option Bool:=match P.info? t,pD P t with
 |some i,some ag=>cond ag (k (.agg (NC i.size (OD off cs)))) (match FU cs off with|some v=>k v|none=>none)
 |_,_=>none
def tc(r:Option Bool)(k:Option Bool):Option Bool:=match r with|some b=>cond b k (some false)|none=>none
def QD(P:Program)(f:AV->AV->Option Bool)(e c:Nat)(l m:List AV):List Nat->Option Bool
 |[]=>some true
 |i::is=>JC P e l (i*c) λa=>JC P e m (i*c) λb=>tc (f a b) (QD P f e c l m is)
def NJ(P:Program)(g:Nat->AV->AV->Option Bool)(l m:List AV):List Field->Option Bool
 |[]=>some true
 |f::fs=>cond (f.name== "_") (NJ P g l m fs) (JC P f.type l f.offset λa=>JC P f.type m f.offset λb=>tc (g f.type a b) (NJ P g l m fs))
def wh(a b:AV)(k:List AV->List AV->Option Bool):Option Bool:=match a,b with|.agg l,.agg m=>k l m|_,_=>none
def eqD(P:Program)(lit:Bool)(g:Nat->AV->AV->Option Bool)(t:Nat)(a b:AV)(d:TypeDesc):Option Bool:=match d with
 |.bool=>wJ a b
 |.int _=>SL a b
 |.string=>K9 a b
 |.pointer e=>match P.info? e with|some i=>cond (Nat.beq i.size 0) none (lz a b)|none=>none
 |.slice _=>gu a b
 |.map _ _=>eqM a b
 |.func _ _ _=>eqN a b
 |.interface _=>pP lit (eqC P g) a b
 |.array n e=>wh a b λl m=>match P.info? e with|some i=>QD P (g e) e i.size l m (List.range n)|none=>none
 |.struct fs=>cond (P.stoodInHeld t) none (wh a b λl m=>NJ P g l m fs.toList)
 |_=>none
def zj(P:Program):Nat->Nat->AV->AV->Option Bool
 |0,_,_,_=>none
 |d+1,t,a,b=>match P.underlying t with|some u=>eqD P true (zj P d) t a b u|none=>none
def UX(f:AV->AV->Option Bool)(neg:Bool):VV:=λtm H=>Rm (f (x tm) (y tm)) λb=>PL (cond neg (cond b false true) b) H
def PR:VV:=λtm H=>FW (x tm) λb=>.val (.bool (cond b false true)) H
def xy:VV:=λtm H=>Pz (x tm) λk a=>UV k (I7 0 a) H
def qS:VV:=λtm H=>Pz (x tm) λk a=>UV k (.ofNat (Nat.sub (Nat.sub (OS k) 1) (RE (OS k) a))) H
def US(k:IntKind):VV:=λtm H=>Pz (x tm) λ_ a=>UV k a H
def Gz:List UInt8->List AV
 |[]=>[]
 |b::l=>.int .u8 (.ofNat b.toNat)::Gz l
def C8(e:Nat):VV:=λtm H=>Nv (x tm) λs=>.val (.slice H.nx 0 (YF s) none) (H.new (.row ⟨e,1,YF s,T.ofList (Gz s),.unk,0,true,true,false⟩))
def Oy(k:List UInt8->OR):List AV->OR
 |[]=>k []
 |v::l=>match v with|.int .u8 (.ofNat n)=>Oy (λs=>k (UInt8.ofNat n::s)) l|_=>.fail
def E3:VV:=λtm H=>SA (x tm) (.val (.str []) H) λb o n _=>cond (Nat.beq n 0) (.val (.str []) H) (X6 H b λr=>ZR (Nat.ble (Nat.add o n) r.size) (Oy (λs=>.val (.str s) H) (loadN r o n)))
def zU:VV:=λtm H=>match x tm with
 |.nilp=>.val .nilp H
 |.ptr b o=>X6 H b λr=>ZR (Nat.ble (Nat.succ o) r.size) (.val (.ptr b o) H)
 |_=>.fail
def zT(u n:Nat):VV:=λtm H=>match x tm with
 |.nilp=>.val .nilp H
 |.ptr b o=>X6 H b λr=>ZR r.exact (ZR (Nat.beq r.elem u) (ZR (Nat.beq o 0) (ZR (Nat.ble n r.size) (.val (.ptr b o) H))))
 |_=>.fail
def Zek:VV:=λtm H=>SA (x tm) .fail λb _ _ _=>X6 H b λr=>ZR (cond r.sm false (H.may r b))<|ZR (Nat.beq r.fz 0)<|.val (x tm) (H.put b (.row ⟨r.elem,r.sz,r.size,r.cells,r.dflt,r.fz,true,r.own,r.exact⟩))
def ja:VV:=λtm H=>Pz (x tm) λ_ n=>.val (.str (Utf8.encode n).data.toList) H
def Si(t:Nat):VV:=λtm H=>.val (.iface t (x tm)) H
def evs(tm:TM):List Z0->List AV
 |[]=>[]
 |f::l=>f tm::evs tm l
def MI(f:Nat)(a b:List Z0):VV:=λtm H=>.val (.func f (evs tm a) (evs tm b)) H
def Zel(n:String)(x:Z0):VV:=λtm H=>.val (.meth n (x tm)) H
def kY:VV:=λ_ H=>.val (.map H.nx) (H.new (.map [] 0))
def SR(eq:AV->AV->Option Bool)(k:AV)(no:OR)(yes:AV->OR):List Q7->OR
 |[]=>no
 |e::l=>Option.rec .fail (λt=>cond t (yes e.val) (SR eq k no yes l)) (eq k e.key)
def xo(eq:AV->AV->Option Bool)(k v:AV)(clock:Nat)(done:List Q7->Nat->OR):List Q7->OR
 |[]=>done [⟨k,v,clock⟩] (Nat.succ clock)
 |e::l=>Option.rec .fail (λt=>cond t (done (⟨k,v,e.born⟩::l) clock) (xo eq k v clock (λl' c=>done (e::l') c) l)) (eq k e.key)
def Zai(o:Obj)(k:List Q7->OR):OR:=match o with|.map es _=>k es|.cmap es=>k es|_=>.fail
def rR(o:Obj)(k:List Q7->Nat->OR):OR:=match o with|.map es c=>k es c|_=>.fail
def GE(eq:AV->AV->Option Bool)(m k v:Z0):VV:=λtm H=>zW (m tm) .fail λb=>GJ H b λo=>rR o λes clock=>
 ZR (Nat.ble H.ro b) (xo eq (k tm) (v tm) clock (λes c=>.val YZ (H.put b (.map es c))) es)
def wM(ok:Bool)(H:Heap)(v:AV)(b:Bool):OR:=cond ok (.val (.tup [v,.bool b]) H) (.val v H)
def qQ(eq:AV->AV->Option Bool)(zv:AV)(ok:Bool)(m k:Z0):VV:=λtm H=>zW (m tm) (wM ok H zv false) λb=>GJ H b λo=>Zai o λes=>
 SR eq (k tm) (wM ok H zv false) (λv=>wM ok H v true) es
def bI(H:Heap)(e sz l c:Nat)(zs:List AV):OR:=match zs with
 |[v]=>ZR (Nat.beq sz 1)<|.val (.slice H.nx 0 l none) (H.new (.row ⟨e,1,c,.leaf,v,0,false,true,true⟩))
 |zs=>ZR (Nat.beq (YF zs) sz)<|.val (.slice H.nx 0 l none) (H.newRow e sz ((List.replicate c zs).flatten) true)
def kZ(e sz bytes:Nat)(zs:List AV)(l c:Z0):VV:=λtm H=>QH (l tm) λl=>QH (c tm) λc=>ZR (Nat.ble 1 sz)<|ZR (Nat.ble l c) (ZR (Nat.ble c 140737488355328)<|ZR (Nat.ble (Nat.mul c bytes) 140737488355328) (bI H e sz l c zs))
def rT(tm:TM)(x:Option Z0)(d top:Nat)(k:Nat->OR):OR:=Option.rec (k d) (λf=>QH (f tm) λn=>ZR (Nat.ble n top) (k n)) x
def Fx(tm:TM)(lo hi mx:Option Z0)(len cap:Nat)(k:Nat->Nat->Nat->OR):OR:=
 rT tm mx cap cap λm=>rT tm hi len m λh=>rT tm lo 0 h λl=>k l h m
def KS:Nat->List UInt8->List UInt8
 |0,_=>[]
 |_+1,[]=>[]
 |n+1,v::l=>v::KS n l
def Ip:Nat->List UInt8->List UInt8
 |0,l=>l
 |_+1,[]=>[]
 |n+1,_::l=>Ip n l
def SJ(x:Z0)(lo hi mx:Option Z0):VV:=λtm H=>Option.rec (Nv (x tm) λs=>Fx tm lo hi none (YF s) (YF s) λl h _=>.val (.str (Ip l (KS h s))) H) (λ_=>.fail) mx
def Ta(r:Row)(o:Nat)(cap:Option Nat):Nat:=Option.rec (cond (Nat.beq r.sz 1) (Nat.sub r.size o) (Nat.div (Nat.sub r.size o) r.sz)) (λc=>c) cap
def HC(r:Row)(sz:Nat)(cap:Option Nat):Bool:=Option.rec (Nat.beq r.sz sz) (λ_=>true) cap
def Le(sz:Nat)(x:Z0)(lo hi mx:Option Z0):VV:=λtm H=>
 SA (x tm) (Fx tm lo hi mx 0 0 λ_ _ _=>.val .nils H) λb o len cap=>X6 H b λr=>ZR (HC r sz cap) (Fx tm lo hi mx len (Ta r o cap) λl h m=>ZR (Nat.ble l m)<|
  cond (Nat.beq l m) (Option.rec (Option.rec (.val (.slice H.nx 0 (Nat.sub h l) none) ⟨Nat.succ H.nx,H.t,H.ro⟩) (λ_=>.val (.slice b o (Nat.sub h l) (some 0)) H) cap) (λ_=>.val (.slice b o (Nat.sub h l) (some 0)) H) mx)
   (.val (.slice b (Nat.add o (Nat.mul l sz)) (Nat.sub h l) (Option.rec (Option.rec none (λc=>some (Nat.sub c l)) cap) (λ_=>some (Nat.sub m l)) mx)) H))
def N7(n sz:Nat)(x:Z0)(lo hi mx:Option Z0):VV:=λtm H=>PA (x tm) λb o=>Fx tm lo hi mx n n λl h m=>
  cond (Nat.beq l m) (.val (.slice b o (Nat.sub h l) (some (Nat.sub m l))) H) (.val (.slice b (Nat.add o (Nat.mul l sz)) (Nat.sub h l) (some (Nat.sub m l))) H)
def Yk(n:Nat):VV:=λtm H=>PA (x tm) λb o=>.val (.ptr b (Nat.add o n)) H
def kW(o:Nat):VV:=λtm H=>Be (x tm) λcs=>Rm (FU cs o) λv=>.val v H
def ZgV(o n:Nat):VV:=λtm H=>Be (x tm) λcs=>.val (.agg (NC n (OD o cs))) H
def ZW(sz:Nat):VV:=λtm H=>QH (y tm) λi=>SA (x tm) .fail λb o len _=>ZR (Nat.ble (Nat.succ i) len) (.val (.ptr b (Nat.add o (Nat.mul i sz))) H)
def XN(n sz:Nat):VV:=λtm H=>QH (y tm) λi=>PA (x tm) λb o=>ZR (Nat.ble (Nat.succ i) n) (.val (.ptr b (Nat.add o (Nat.mul i sz))) H)
def YU:VV:=λtm H=>QH (y tm) λi=>Nv (x tm) λs=>Rm (vB s i) λb=>RF b.toNat λn=>.val (.int .u8 (.ofNat n)) H
def vH(n:Nat):VV:=λtm H=>QH (y tm) λi=>Be (x tm) λcs=>ZR (Nat.ble (Nat.succ i) n) (Rm (FU cs i) λv=>.val v H)
def fT(n sz:Nat):VV:=λtm H=>QH (y tm) λi=>Be (x tm) λcs=>ZR (Nat.ble (Nat.succ i) n) (.val (.agg (NC sz (OD (Nat.mul i sz) cs))) H)
def Po(zv:AV)(ok:Bool)(H:Heap)(v:Option AV):OR:=Option.rec (cond ok (.val (.tup [zv,.bool false]) H) .fail) (λv=>cond ok (.val (.tup [v,.bool true]) H) (.val v H)) v
def Ox(t:Nat)(zv:AV)(ok:Bool):VV:=λtm H=>QN (x tm) (Po zv ok H none) λu v=>Po zv ok H (cond (Nat.beq u t) (some v) none)
def vD(P:Program)(ms:Array (String×TypeId))(zv:AV)(ok:Bool):VV:=λtm H=>QN (x tm) (Po zv ok H none) λu v=>Rm (P.info? u) λi=>Po zv ok H (Option.rec (some (.iface u v)) (λ_=>none) (Instr.missingMethod ms i.methods))
def VH(i:Nat):VV:=λtm H=>qT (x tm) λvs=>Rm (FU vs i) λv=>.val v H
def J4(P:Program)(name:String)(u:Nat)(k:Nat->OR):OR:=
 Rm (P.info? u) λi=>Rm (i.methods.find? (·.name==name)) λm=>ZR m.path.isEmpty (match m.func with
  |some (g,ptr)=>match P.underlying u with
   |some (.pointer _)=>ZR ptr (k g)
   |some _=>cond ptr .fail (k g)
   |none=>.fail
  |none=>.fail)
def Zt(f:Nat)(args:List Z0):VV:=λtm H=>.oth (.call f (evs tm args) H)
def SK(P:Program)(args:List Z0):VV:=λtm H=>match x tm with
 |.func f a b=>.oth (.call f (a++(evs tm args++b)) H)
 |.meth n r=>QN r .fail λu v=>J4 P n u λg=>.oth (.call g (v::evs tm args) H)
 |.yield b=>.oth (.yield b (evs tm args) H)
 |_=>.fail
def fU(P:Program)(n:String)(args:List Z0):VV:=λtm H=>QN (x tm) .fail λu v=>J4 P n u λg=>.oth (.call g (v::evs tm args) H)
def vj(v:AV)(k:Nat->OR):OR:=match v with|.nils=>k 0|.slice _ _ n _=>k n|.str s=>k (YF s)|_=>.fail
def UF(H:Heap)(sz:Nat)(v:AV)(n:Nat)(k:List AV->OR):OR:=cond (Nat.beq n 0) (k []) (match v with
 |.slice b o _ _=>X6 H b λr=>ZR (Nat.ble (Nat.add o (Nat.mul n sz)) r.size) (k (loadN r o (Nat.mul n sz)))
 |.str s=>ZR (Nat.beq sz 1) (k (Gz (KS n s)))
 |_=>.fail)
def th(H:Heap)(e b o len n sz:Nat)(r:Row)(new:List AV):OR:=
 ZR (Nat.beq r.elem e)<|ZR (H.may r b)<|ZR (Nat.ble r.fz (Nat.mul len sz))<|ZR (Nat.beq (Nat.mul len sz) r.size)<|ZR (Nat.beq o 0)<|
  .val (.slice H.nx 0 (Nat.add len n) none) ⟨Nat.succ H.nx,(H.t.del b).set H.nx (.row ⟨r.elem,sz,Nat.mul (Nat.add len n) sz,YV r.cells (Nat.mul len sz) new,r.dflt,r.fz,r.sm,true,false⟩),H.ro⟩
def dE(H:Heap)(v:AV)(b o len n sz:Nat)(cap:Option Nat)(r:Row)(new:List AV):OR:=
 cond (Nat.beq n 0) (.val v H) (ZR (H.may r b) (ZR (Nat.ble (Nat.add o (Nat.mul (Nat.add len n) sz)) r.size) (ZR (Nat.ble r.fz (Nat.add o (Nat.mul len sz)))
  (.val (.slice b o (Nat.add len n) cap) (H.put b (.row (r.setCells (YV r.cells (Nat.add o (Nat.mul len sz)) new))))))))
def tf(H:Heap)(e b o len n sz bytes:Nat)(cap:Option Nat)(r:Row)(new:List AV):OR:=
 ZR (Nat.ble (Nat.mul (Nat.add len n) bytes) 140737488355328)<|ZR (Nat.ble (Nat.add o (Nat.mul len sz)) r.size)<|Option.rec
  (cond r.exact (ZR (Nat.beq (Nat.mod o sz) 0) (.val (.slice H.nx 0 (Nat.add len n) none) (H.newRow e sz (loadN r o (Nat.mul len sz)++new) false))) (th H e b o len n sz r new))
  (λ_=>.val (.slice H.nx 0 (Nat.add len n) none) (H.newRow e sz (loadN r o (Nat.mul len sz)++new) false)) cap
def HM(v:AV)(e sz bytes:Nat)(H:Heap)(n:Nat)(new:List AV):OR:=
 SA v (cond (Nat.beq n 0) (.val .nils H) (ZR (Nat.ble (Nat.mul n bytes) 140737488355328) (.val (.slice H.nx 0 n none) (H.newRow e sz new false)))) λb o len cap=>X6 H b λr=>
  ZR (HC r sz cap) (cond (Nat.ble (Nat.add len n) (Ta r o cap)) (dE H v b o len n sz cap r new) (tf H e b o len n sz bytes cap r new))
def W1(e sz bytes:Nat):VV:=λtm H=>ZR (Nat.ble 1 sz)<|ZR (Nat.ble 1 bytes)<|vj (y tm) λn=>UF H sz (y tm) n λnew=>HM (x tm) e sz bytes H n new
def vC(e sz bytes:Nat)(zs:List AV):VV:=λtm H=>ZR (Nat.ble 1 sz)<|ZR (Nat.ble 1 bytes)<|QH (y tm) λn=>ZR (Nat.ble (Nat.mul n bytes) 140737488355328)<|HM (x tm) e sz bytes H n (List.replicate n zs).flatten
def vF(sz:Nat):VV:=λtm H=>vj (y tm) λsn=>SA (x tm) (.val (.int .i64 0) H) λb o dn _=>RF (LE dn sn) λn=>UF H sz (y tm) n λnew=>
 cond (Nat.beq n 0) (.val (.int .i64 0) H) (X6 H b λr=>ZR (H.may r b) (ZR (Nat.ble r.fz o) (ZR (Nat.ble (Nat.add o (Nat.mul n sz)) r.size) (.val (.int .i64 (.ofNat n)) (H.put b (.row (r.setCells (YV r.cells o new))))))))
def RM:VV:=λtm H=>Nv (x tm) λs=>RF (YF s) λn=>.val (.int .i64 (.ofNat n)) H
def Wg:VV:=λtm H=>SA (x tm) (.val (.int .i64 0) H) λ_ _ n _=>RF n λn=>.val (.int .i64 (.ofNat n)) H
def Zej:VV:=λtm H=>zW (x tm) (.val (.int .i64 0) H) λb=>GJ H b λo=>rR o λes _=>.val (.int .i64 (.ofNat (YF es))) H
def ZbA:VV:=λtm H=>SA (x tm) (.val (.int .i64 0) H) λb o _ cap=>Option.rec (X6 H b λr=>ZR r.exact (ZR (Nat.beq (Nat.mod o r.sz) 0) (.val (.int .i64 (.ofNat (Ta r o none))) H))) (λc=>.val (.int .i64 (.ofNat c)) H) cap
def min2(mx:Bool)(k:IntKind)(a:Int)(H:Heap):List AV->OR
 |[]=>.val (.int k a) H
 |v::l=>match v with|.int j b=>ZR (Nf j k) (min2 mx k (cond (cond mx (qy a b) (qy b a)) b a) H l)|_=>.fail
def NG(mx:Bool)(args:List Z0):VV:=λtm H=>match evs tm args with
 |.int k a::l=>min2 mx k a H l
 |_=>.fail
def qR(e:Nat):VV:=λtm H=>QH (y tm) λn=>cond (Nat.beq n 0) (match x tm with|.nilp=>.val (.str []) H|.ptr .. =>.val (.str []) H|_=>.fail)
 (ZR (Nat.ble n 140737488355328)<|PA (x tm) λb o=>X6 H b λr=>ZR (Nat.beq r.elem e)<|ZR (cond r.sm false (H.may r b)) (ZR (Nat.ble (Nat.add o n) r.size) (Oy (λs=>.val (.str s)
  (H.put b (.row ⟨r.elem,r.sz,r.size,r.cells,r.dflt,cond (Nat.ble r.fz (Nat.add o n)) (Nat.add o n) r.fz,r.sm,r.own,r.exact⟩))) (loadN r o n))))
def Dj:VV:=λtm H=>SA (x tm) (.val .nilp H) λb o _ cap=>Option.rec (X6 H b λr=>ZR (Nat.ble (Nat.succ o) r.size) (.val (.ptr b o) H)) (λc=>ZR (Nat.ble 1 c) (.val (.ptr b o) H)) cap
def Jz:VV:=λtm H=>QN (x tm) .fail λ_ _=>.oth (.pan (x tm) H)
def Ba:VV:=λ_ _=>.oth .recov
def C9(args:List Z0):VV:=λtm _=>.oth (.defer (x tm) (evs tm args))
def fW:VV:=λtm H=>zW (x tm) (.val (.ptr H.nx 0) (H.new (.miter none 0 none))) λb=>GJ H b λo=>rR o λ_ c=>.val (.ptr H.nx 0) (H.new (.miter (some b) c none))
def fX:VV:=λtm H=>Nv (x tm) λs=>.val (.ptr H.nx 0) (H.new (.siter s 0))
def iQ(o:Obj)(k:List UInt8->Nat->OR):OR:=match o with|.siter s pos=>k s pos|_=>.fail
def Zem:VV:=λtm H=>PA (x tm) λb o=>ZR (Nat.beq o 0)<|ZR (Nat.ble H.ro b)<|GJ H b λo=>iQ o λs pos=>
 cond (Nat.ble (Nat.succ pos) (YF s)) (match Utf8.decode ⟨s.toArray⟩ pos with|(c,w)=>.val (.tup [.bool true,.int .i64 (.ofNat pos),.int .i32 c]) (H.put b (.siter s (Nat.add pos w)))) (.val (.tup [.bool false]) H)
def yV(n:Nat)(k:Q7->OR):List Q7->OR
 |[]=>.fail
 |e::l=>cond (Nat.beq e.born n) (k e) (yV n k l)
def yH(o:Obj)(k:Nat->Nat->Nat->OR):OR:=match o with|.miter (some m) _ (some (n,st))=>k m n st|_=>.fail
def fV:VV:=λtm H=>PA (x tm) λb o=>ZR (Nat.beq o 0)<|GJ H b λob=>yH ob λm n st=>GJ H m λom=>rR om λes c=>ZR (Nat.beq c st) (yV n (λe=>.val (.tup [e.key,e.val]) H) es)
def Un:VV:=λ_ _=>.fail
end
inductive Out where
 |normal|exit (id:Nat)|ret|pan (v:AV)
inductive CR where
 |fail
 |ret (v:AV) (H:Heap)
 |pan (v:AV) (H:Heap)
structure X where
 df:List (AV×List AV)
 rc:Option AV
inductive WS where
 |fail
 |ok (o:Out) (tm:TM) (H:Heap) (x:X)
structure Ctx where
 call:Nat->List AV->Heap->CR
 yld:Nat->List AV->Heap->CR
 rng:AV->(List AV->Heap->CR)->TM->Heap->X->WS
 fuel:Nat
 rnd:Bool
abbrev D:=Ctx->TM->Heap->X->WS
def Tj:Nat->List AV->Heap->CR:=λ_ _ _=>.fail
def TQ:AV->(List AV->Heap->CR)->TM->Heap->X->WS:=λ_ _ _ _ _=>.fail
def Bg(next:TM->Heap->X->WS)(dst:ZC)(tm:TM)(x:X)(r:CR):WS:=match r with
 |.ret v H=>next (dst tm v) H x
 |.pan v H=>.ok (.pan v) tm H x
 |.fail=>.fail
def nq(next:TM->Heap->X->WS)(dst:ZC)(c:Ctx)(tm:TM)(H:Heap)(x:X)(o:OR2):WS:=match o with
 |.call f args H=>Bg next dst tm x (c.call f args H)
 |.yield b args H=>Bg next dst tm x (c.yld b args H)
 |.pan v H=>.ok (.pan v) tm H x
 |.recov=>cond c.rnd .fail (match x.rc with
  |some v=>next (dst tm v) H ⟨x.df,none⟩
  |none=>next (dst tm .nili) H x)
 |.defer f args=>match f with
  |.func _ _ _=>cond c.rnd .fail (next (dst tm YZ) H ⟨(f,args)::x.df,x.rc⟩)
  |_=>.fail
 |.fail=>.fail
def OF(next:TM->Heap->X->WS)(dst:ZC)(c:Ctx)(tm:TM)(H:Heap)(x:X)(r:OR):WS:=
 @OR.rec (λ_=>WS) (λv H=>next (dst tm v) H x) (λo=>nq next dst c tm H x o) r
def xb(v:AV)(k:Bool->WS):WS:=match v with|.bool c=>k c|_=>.fail
def Za(f:VV)(dst:ZC)(next:D):D:=λc tm H x=>OF (next c) dst c tm H x (f tm H)
def TP(v:AV)(b:Bool)(yes no:WS):WS:=match v with
 |.bool c=> @Bool.rec (λ_=>WS) (@Bool.rec (λ_=>WS) yes no b) (@Bool.rec (λ_=>WS) no yes b) c
 |.tup _=>no
 |_=>.fail
def ZT(g:Z0)(b:Bool)(f:VV)(dst:ZC)(next:D):D:=λc tm H x=>
 TP (g tm) b (OF (next c) dst c tm H x (f tm H)) (next c (dst tm YZ) H x)
def Zb:D:=λ_ tm H x=>.ok .normal tm H x
def Qj(r:WS)(k:TM->Heap->X->WS):WS:=
 @WS.rec (λ_=>WS) .fail (λo tm H x=> @Out.rec (λ_=>WS) (k tm H x) (λi=>.ok (.exit i) tm H x) (.ok .ret tm H x) (λv=>.ok (.pan v) tm H x) o) r
def Zc(a b:D):D:=λc tm H x=>Qj (a c tm H x) (b c)
def HS(a b:TM->Heap->X->WS)(v:Bool)(tm:TM)(H:Heap)(x:X):WS:= @Bool.rec (λ_=>WS) (b tm H x) (a tm H x) v
def ZD(q:Z0)(a b:D):D:=λc tm H x=>xb (q tm) λv=>HS (a c) (b c) v tm H x
def Px(id:Nat)(r:WS):WS:=
 @WS.rec (λ_=>WS) .fail (λo tm H x=> @Out.rec (λ_=>WS) (.ok .normal tm H x) (λi=> @Bool.rec (λ_=>WS) (.ok (.exit i) tm H x) (.ok .normal tm H x) (Nat.beq i id)) (.ok .ret tm H x) (λv=>.ok (.pan v) tm H x) o) r
def ZG(id:Nat)(a:D):D:=λc tm H x=>Px id (a c tm H x)
def Wu(a:TM->Heap->X->WS)(n:Nat):TM->Heap->X->WS:=
 @Nat.rec (λ_=>TM->Heap->X->WS) (λ_ _ _=>.fail) (λ_ ih tm H x=>Qj (a tm H x) ih) n
def Xo(a:D):D:=λc tm H x=>Wu (a c) c.fuel tm H x
def Dk(r:WS)(k:Bool):Bool:=match r with
 |.ok .normal _ _ y=>cond (match y.df,y.rc with|[],none=>true|_,_=>false) k false
 |_=>false
def Bo(body:TM->Heap->X->WS)(b m since:Nat)(dst:ZC)(tm:TM)(H:Heap)(es:List Q7):Bool:=
 List.rec true (λe _ ih=>Dk (body (dst tm (.tup [.bool true,e.key,e.val])) ⟨H.nx,H.t.set b (.miter (some m) since (some (e.born,since))),H.nx⟩ ⟨[],none⟩) ih) es
def Zeq(v:AV)(k:Nat->Nat->WS):WS:=match v with|.ptr b o=>k b o|_=>.fail
def ZgX(o:Option Obj)(no:WS)(k:Nat->Nat->WS):WS:=match o with|some (.miter none _ none)=>no|some (.miter (some m) s none)=>k m s|_=>.fail
def Zep(o:Option Obj)(since:Nat)(k:List Q7->WS):WS:=match o with|some (.map es c)=>cond (Nat.beq c since) (k es) .fail|_=>.fail
def Pp(tm:TM):List ZC->TM
 |[]=>tm
 |d::l=>Pp (d tm .unk) l
def Jv(r:WS):WS:=match r with|.ok .normal _ _ _=>.fail|r=>r
def sK(x:X)(k:WS):WS:=match x.df,x.rc with|[],none=>k|_,_=>.fail
def sj(r a:TM->Heap->X->WS)(q:Z0)(dst:ZC)(tm:TM)(H:Heap)(x:X):WS:=
 Zeq (q tm) λb o=>cond (Nat.beq o 0) (cond (Nat.ble H.ro b) (ZgX (H.t.get b) (Jv (a (dst tm (.tup [.bool false])) H x)) λm s=>Zep (H.t.get m) s λes=>
  sK x (cond (Bo r b m s dst tm H es) (Jv (a (dst tm (.tup [.bool false])) ⟨H.nx,H.t.del b,H.ro⟩ x)) .fail)) .fail) .fail
def si(q:Z0)(dst:ZC)(dead:List ZC)(a:D):D:=λc tm H x=>sj (a ⟨c.call,Tj,TQ,c.fuel,true⟩) (a c) q dst (Pp tm dead) H x
def Xi(id:Nat):D:=λ_ tm H x=>.ok (.exit id) tm H x
def Ya:D:=λ_ tm H x=>.ok .ret tm H x
def P3:D:=λ_ _ _ _=>.fail
def Nj(tm:TM):List ZC->List AV->TM
 |d::ds,v::vs=>Nj (d tm v) ds vs
 |_,_=>tm
def Ho(r:WS):CR:=match r with
 |.ok .normal _ H _=>.ret (.bool true) H
 |_=>.fail
def sM(q:Z0)(ps:List ZC)(a:D):D:=λc tm H x=>
 c.rng (q tm) (λys H=>cond (Nat.beq (YF ys) (YF ps)) (Ho (a ⟨c.call,Tj,TQ,c.fuel,true⟩ (Nj tm ps ys) H ⟨[],none⟩)) .fail) tm H x
inductive HF where|free|read|eff
structure PI where
 f:VV
 g:Option (Z0×Bool)
 os:List (ZC×Z0)
 dst:ZC
 kind:HF
 i:Nat
 bef:Nat
mutual
def Va(n:Nat):AV->Bool
 |.ptr b _=>Nat.ble (Nat.succ b) n
 |.slice b _ _ _=>Nat.ble (Nat.succ b) n
 |.map b=>Nat.ble (Nat.succ b) n
 |.func _ x y=>cond (Pd n x) (Pd n y) false
 |.meth _ v=>Va n v
 |.yield b=>Nat.ble (Nat.succ b) n
 |.iface _ v=>Va n v
 |.agg l=>Pd n l
 |.tup l=>Pd n l
 |_=>true
def Pd(n:Nat):List AV->Bool
 |[]=>true
 |v::l=>cond (Va n v) (Pd n l) false
end
def QT(tm:TM)(os:List (ZC×Z0)):TM:=List.rec Nn (λp _ ih=>p.1 ih (p.2 tm)) os
def Qw(n:Nat)(tm:TM)(os:List (ZC×Z0)):Bool:=List.rec true (λp _ ih=>cond (Va n (p.2 tm)) ih false) os
mutual
def same:AV->AV->Bool
 |.bool a,.bool b=>cond a b (cond b false true)
 |.int k a,.int j b=>cond (Nf k j) (E1 a b) false
 |.str a,.str b=>JN a b
 |.nilp,.nilp=>true
 |.ptr a b,.ptr c d=>cond (Nat.beq a c) (Nat.beq b d) false
 |.nils,.nils=>true
 |.slice a b c d,.slice e f g h=>cond (Nat.beq a e) (cond (Nat.beq b f) (cond (Nat.beq c g) (match d,h with|none,none=>true|some x,some y=>Nat.beq x y|_,_=>false) false) false) false
 |.nilm,.nilm=>true
 |.map a,.map b=>Nat.beq a b
 |.func f a b,.func g c d=>cond (Nat.beq f g) (cond (RN a c) (RN b d) false) false
 |.nilf,.nilf=>true
 |.iface t v,.iface u w=>cond (Nat.beq t u) (same v w) false
 |.nili,.nili=>true
 |.agg a,.agg b=>RN a b
 |.tup a,.tup b=>RN a b
 |_,_=>false
def RN:List AV->List AV->Bool
 |[],[]=>true
 |a::as,b::bs=>cond (same a b) (RN as bs) false
 |_,_=>false
end
structure RD where
 p:PI
 v:AV
def vT(u:RD)(tm:TM)(H:Heap):Bool:=OR.rec (λv H1=>cond (Nat.beq H1.nx H.nx) (same v u.v) false) (λ_=>false) (u.p.f (QT tm u.p.os) ⟨H.nx,H.t,H.nx⟩)
def still(tm:TM)(H:Heap)(rs:List RD):Bool:=List.rec true (λr _ ih=>cond (vT r tm H) ih false) rs
def TD(bef:Nat)(rs:List RD):List RD:=List.rec [] (λr _ ih=>cond (Nat.testBit bef r.p.i) ih (r::ih)) rs
def Lb(g:Option (Z0×Bool))(tm:TM)(yes no:WS):WS:=match g with
 |none=>yes
 |some (e,b)=>TP (e tm) b yes no
def wrO(o:Obj):Bool:=match o with|.row r=>r.own|.loop=>false|_=>true
def jp(o:Option Obj)(k:Obj->WS):WS:=match o with|some x=>cond (wrO x) (k x) .fail|none=>.fail
abbrev PK:=List RD->TM->Heap->X->WS
def Ja(p:PI)(nx:PK)(rs:List RD)(tm:TM)(H:Heap)(x:X)(r:OR):WS:=
 OR.rec (λv H1=>cond (Nat.beq H1.nx H.nx) (nx rs (p.dst tm v) H x) (cond (Nat.beq H1.nx (Nat.succ H.nx)) (jp (H1.t.get H.nx) λo=>nx rs (p.dst tm v) (H.new o) x) .fail)) (λ_=>.fail) r
def lG(p:PI)(nx:PK)(rs:List RD)(tm:TM)(H:Heap)(x:X):WS:=
 cond (Qw H.nx tm p.os) (Ja p nx rs tm H x (p.f (QT tm p.os) ⟨H.nx,.leaf,H.nx⟩)) .fail
def IA(p:PI)(nx:PK)(rs:List RD)(tm:TM)(H:Heap)(x:X)(r:OR):WS:=
 OR.rec (λv H1=>cond (Nat.beq H1.nx H.nx) (nx (⟨p,v⟩::rs) (p.dst tm v) H x) .fail) (λ_=>.fail) r
def ZbU(ds:List ZC)(v:AV)(tm:TM)(H:Heap)(x:X):WS:=.ok (.pan v) (Pp tm ds) H x
def Bn(ds:List ZC)(p:PI)(nx:PK)(rs:List RD)(tm:TM)(x:X)(r:CR):WS:=match r with
 |.ret v H=>nx (TD p.bef rs) (p.dst tm v) H x
 |.pan v H=>ZbU ds v tm H x
 |.fail=>.fail
def Zet(ds:List ZC)(p:PI)(nx:PK)(rs:List RD)(c:Ctx)(tm:TM)(x:X)(o:OR2):WS:=match o with
 |.call f args H=>Bn ds p nx rs tm x (c.call f args H)
 |.yield b args H=>Bn ds p nx rs tm x (c.yld b args H)
 |.pan v H=>ZbU ds v tm H x
 |_=>.fail
def HW(ds:List ZC)(p:PI)(nx:PK)(rs:List RD)(c:Ctx)(tm:TM)(x:X)(r:OR):WS:=
 OR.rec (λv H=>nx (TD p.bef rs) (p.dst tm v) H x) (λo=>Zet ds p nx rs c tm x o) r
def Rv(ds:List ZC)(p:PI)(nx:PK)(c:Ctx)(rs:List RD)(tm:TM)(H:Heap)(x:X):WS:=
 HF.rec (Lb p.g tm (lG p nx rs tm H x) (nx rs (p.dst tm YZ) H x))
  (Lb p.g tm (IA p nx rs tm H x (p.f (QT tm p.os) ⟨H.nx,H.t,H.nx⟩)) (nx rs (p.dst tm YZ) H x))
  (cond (still tm H rs) (Lb p.g tm (HW ds p nx rs c tm x (p.f (QT tm p.os) H)) (nx (TD p.bef rs) (p.dst tm YZ) H x)) .fail) p.kind
def UH(ds:List ZC)(fin:PK)(l:List PI):Ctx->PK:=
 List.rec (λ_ rs tm H x=>cond (still tm H rs) (fin rs tm H x) .fail) (λp _ ih c=>Rv ds p (ih c) c) l
def Jw(_:List RD)(tm:TM)(H:Heap)(x:X):WS:=.ok .normal tm H x
def Zbv(l:List RD)(k:WS):WS:=List.rec k (λ_ _ _=>.fail) l
def Yy(l:List PI):D:=λc tm H x=>UH (l.map (·.dst)) Jw l c [] tm H x
def onV(r:OR)(k:Heap->WS):WS:=OR.rec (λ_ H=>k H) (λ_=>.fail) r
def apart(a b:AV)(k:WS):WS:=match a,b with|.ptr x _,.ptr y _=>cond (Nat.beq x y) .fail k|_,_=>.fail
def EM(p q:PI)(a b:Z0)(rs:List RD)(tm:TM)(H:Heap)(x:X):WS:=
 Zbv (TD p.bef rs) (Zbv (TD q.bef rs) (apart (a (QT tm p.os)) (b (QT tm q.os)) (onV (p.f (QT tm p.os) H) λH1=>onV (q.f (QT tm q.os) H1) λH2=>.ok .normal tm H2 x)))
def tH(l:List PI)(p q:PI)(a b:Z0):D:=λc tm H x=>UH (l.map (·.dst)) (EM p q a b) l c [] tm H x
section
variable (P:Program)
def xz(f:Value->AV):List Value->List AV
 |[]=>[]
 |v::vs=>f v::xz f vs
def Hj:Nat->Value->AV
 |0,_=>.unk
 |d+1,v=>match v with
  |.bool b=>.bool b
  |.int k n=>.int k n
  |.string s=>.str s.data.toList
  |.pointer none=>.nilp
  |.slice none 0 0=>.nils
  |.map none=>.nilm
  |.nilFunc=>.nilf
  |.func (.func f) ⟨[]⟩ ⟨[]⟩=>.func f [] []
  |.nilIface=>.nili
  |.iface t v=>.iface t (Hj d v)
  |.agg ⟨cs⟩=>.agg (xz (Hj d) cs)
  |.tuple ⟨cs⟩=>.tup (xz (Hj d) cs)
  |_=>.unk
def Zen(v:Value):AV:=Hj 20 v
def ZgZ(v:Value):Bool:=match v with|.agg _=>false|.tuple _=>false|_=>true
def Ks:Nat->Value->Bool
 |0,_=>true
 |d+1,v=>match v with
  |.agg ⟨cs⟩=>cs.all λc=>ZgZ c&&Ks d c
  |.tuple ⟨cs⟩=>cs.all (Ks d)
  |.iface _ v=>Ks d v
  |_=>true
def Vm(v:Value):AV:=cond (Ks 20 v) (Zen v) .unk
def YP(o:Operand):Z0:=match o with
 |.tmp t=>cond (Nat.ble t 511) (Ro t) (k .unk)
 |.const v=>k (Vm v)
 |.global g=>cond (Nat.ble (Nat.succ g) P.globals.size) (k (.ptr g 0)) (k .unk)
 |.func f=>k (.func f [] [])
def Ld(t:Nat):Bool:=match P.underlying t with|some (.struct _)|some (.array _ _)=>true|_=>false
def TR(t:Nat)(f:TypeInfo->VV):VV:=match P.info? t with|some i=>f i|none=>Un
def fH(t:Nat):Array (String×TypeId):=match P.underlying t with|some (.interface ms)=>ms|_=> #[]
def args(l:Array Operand):List Z0:=l.toList.map (YP P)
def opt(x:Option Operand):Option Z0:=x.map (YP P)
def ZfB(op:BinOp)(x y:Z0):VV:=match op with
 |.add=>ZK x y|.sub=>Xy x y|.mul=>RO x y|.quo=>Ng x y|.rem=>KU x y
 |.and=>XM x y T8|.or=>XM x y Oi|.xor=>XM x y PY|.andNot=>XM x y HL
 |.shl=>N6 x y|.shr=>Nh x y
 |.eql=>Un|.neq=>Un
 |.lss=>Yc x y Xx Yj
 |.gtr=>Yc x y RH UL
 |.leq=>Yc x y LA Q4
 |.geq=>Yc x y T0 WY
def KN(o:Operand):Bool:=match o with|.const _=>true|_=>false
def eqK(t:Nat)(lit neg:Bool)(x y:Z0)(d:TypeDesc):VV:=match d with
 |.bool=>UX x y wJ neg
 |.int _=>UX x y SL neg
 |.string=>UX x y K9 neg
 |.pointer e=>match P.info? e with|some i=>cond (Nat.beq i.size 0) Un (UX x y lz neg)|none=>Un
 |.slice _=>UX x y gu neg
 |.map _ _=>UX x y eqM neg
 |.func _ _ _=>UX x y eqN neg
 |.interface _=>UX x y (pP lit (eqC P (zj P 9))) neg
 |.array _ _=>cond (P.eqGuardType P.depth t) Un (UX x y (zj P 10 t) neg)
 |.struct _=>cond (P.eqGuardType P.depth t) Un (UX x y (zj P 10 t) neg)
 |_=>Un
def Uo(t:Nat)(f:TypeDesc->VV):VV:=match P.underlying t with|some d=>f d|none=>Un
def xX(f:Array Field->VV)(d:TypeDesc):VV:=match d with|.struct fs=>f fs|_=>Un
def Ax(f:Nat->VV)(d:TypeDesc):VV:=match d with|.slice e=>f e|_=>Un
def ZeO(f:Nat->VV)(d:TypeDesc):VV:=match d with|.pointer e=>f e|_=>Un
def ku(f:(AV->AV->Option Bool)->VV)(d:TypeDesc):VV:=match d with|.string=>f K9|.int _=>f SL|.bool=>f wJ|_=>Un
def pw(f g:VV)(d:TypeDesc):VV:=match d with|.int _=>f|_=>g
def tU8(f:VV)(d:TypeDesc):VV:=match d with|.int .u8=>f|_=>Un
def PB{α:Type}(x:Option α)(f:α->VV):VV:=match x with|some a=>f a|none=>Un
def mJ(b:Builtin)(xs:List Operand)(ts:List TypeId):VV:=match b with
 |.append=>match xs,ts with
  |[s,x],[t,u]=>Uo P t<|Ax λe=>TR P e λi=>PB i.zero λz=>cond (Nat.beq (YF (Vm z).cells) i.size) (Uo P u<|pw (vC (YP P s) (YP P x) e i.size i.bytes (Vm z).cells) (W1 (YP P s) (YP P x) e i.size i.bytes)) Un
  |_,_=>Un
 |.copy=>match xs,ts with
  |[d,s],[t,_]=>Uo P t<|Ax λe=>TR P e λi=>vF (YP P d) (YP P s) i.size
  |_,_=>Un
 |.len=>match xs,ts with
  |[x],[t]=>Uo P t λd=>match d with|.string=>RM (YP P x)|.slice _=>Wg (YP P x)|.map _ _=>Zej (YP P x)|_=>Un
  |_,_=>Un
 |.cap=>match xs,ts with
  |[x],[t]=>Uo P t λd=>match d with|.slice _=>ZbA (YP P x)|_=>Un
  |_,_=>Un
 |.min=>NG false (xs.map (YP P))
 |.max=>NG true (xs.map (YP P))
 |.unsafeString=>match xs,ts with
  |[p,n],[t,_]=>Uo P t<|ZeO λe=>TR P e λi=>cond (Nat.beq i.size 1) (qR (YP P p) (YP P n) e) Un
  |_,_=>Un
 |.unsafeSliceData=>match xs with|[x]=>Dj (YP P x)|_=>Un
 |.panic=>match xs with|[x]=>Jz (YP P x)|_=>Un
 |.recover=>Ba
 |_=>Un
def mK(c:Call):VV:=match c.callee with
 |.value (.func f)=>Zt f (args P c.args)
 |.value f=>SK (YP P f) P (args P c.args)
 |.invoke r m=>fU (YP P r) P m (args P c.args)
 |.builtin b=>mJ P b c.args.toList c.argTypes.toList
def dH(s d:Nat)(x:Z0)(ds dd:TypeDesc):VV:=match ds,dd with
 |.int _,.int k=>US x k
 |.string,.string=>ZgW x
 |.int _,.string=>ja x
 |.string,.slice e=>Uo P e<|tU8 (C8 x e)
 |.slice e,.string=>Uo P e<|tU8 (E3 x)
 |.pointer u,.unsafePointer=>TR P u λi=>cond (Nat.ble 1 i.size) (zU x) Un
 |.unsafePointer,.pointer u=>TR P u λi=>cond (Nat.ble 1 i.size) (zT x u i.size) Un
 |.slice _,.slice e=>cond (Nat.beq s d) (Uo P e<|tU8 (Zek x)) Un
 |_,_=>Un
def Zdh(s d:Nat)(x:Z0):VV:=Uo P s λds=>Uo P d λdd=>dH P s d x ds dd
def bH(n:String)(a b:List Operand):VV:=match a,b with|[x],[]=>Zel n (YP P x)|_,_=>Un
def P0(place:Nat->Option (Nat×Nat))(p:Nat×Operand):yB:=match place p.1 with
 |some (o,s)=>⟨o,s,YP P p.2⟩
 |none=>⟨0,0,YP P p.2⟩
def iK(kd:IntKind)(m:Int):List Value->Bool
 |[]=>true
 |v::l=>match v with|.int j n=>cond (Nf kd j) (cond (E1 m n) (iK kd m l) false) false|_=>false
def my(t:Nat)(l:List Value)(cs:List AV):VV:=match l with
 |.int kd m::l'=>cond (Nat.ble 8 (YF l')) (cond (iK kd m l') (Sd t (Nat.succ (YF l')) (.int kd m)) (Ws t cs)) (Ws t cs)
 |_=>Ws t cs
def ZbC(hi mx:Option Operand):Bool:=match mx,hi with|some _,none=>false|_,_=>true
def V3(o:Op):VV:=match o with
 |.move x=>Zf (YP P x)
 |.assign x=>Zf (YP P x)
 |.pick c a b=>YD (YP P c) (YP P a) (YP P b)
 |.alloc t=>TR P t λi=>PB i.zero λz=>my t z.cells.toList (Vm z).cells
 |.box t x=>T1 (YP P x) t
 |.build t ps=>TR P t λi=>PB i.zero λz=>Uo P t λd=>match d with
  |.struct fs=>PB (fs.toList.mapM λf=>(P.info? f.type).map λi=>(f.offset,i.size)) λplaces=>Vw (Vm z).cells (ps.toList.map (P0 P (places.toArray[·]?)))
  |.array _ e=>TR P e λj=>Vw (Vm z).cells (ps.toList.map (P0 P λi=>some (i*j.size,j.size)))
  |_=>Un
 |.buildSlice t n ps=>Uo P t<|Ax λe=>TR P e λj=>PB j.zero λz=>
   cond (Nat.ble (Nat.mul n j.size) 16777216) (Wz e j.size n ((List.replicate n (Vm z).cells).flatten) (ps.toList.map (P0 P λi=>some (i*j.size,j.size)))) Un
 |.load t a=>TR P t λi=>Uo P t λ_=>cond (Ld P t) (Yg (YP P a) i.size) (Zs (YP P a))
 |.store t a x=>TR P t λi=>ZS (YP P a) (YP P x) i.size
 |.nilCheck x=>SO (YP P x)
 |.binOp op t x y _=>match op with
  |.eql=>Uo P t (eqK P t (KN x||KN y) false (YP P x) (YP P y))
  |.neq=>Uo P t (eqK P t (KN x||KN y) true (YP P x) (YP P y))
  |op=>ZfB op (YP P x) (YP P y)
 |.unOp op _ x=>match op with|.neg=>xy (YP P x)|.not=>PR (YP P x)|.xor=>qS (YP P x)|_=>Un
 |.convert s d x=>Zdh P s d (YP P x)
 |.makeInterface t x=>Uo P t λd=>match d with|.interface _=>Un|_=>Si (YP P x) t
 |.makeFunc fn a b=>match fn with
  |.func f=>MI f (args P a) (args P b)
  |.method n=>bH P n a.toList b.toList
  |_=>Un
 |.makeMap _ r=>match r with|none=>kY|some _=>Un
 |.mapUpdate t m k v=>Uo P t λd=>match d with|.map kt _=>Uo P kt<|ku λeq=>GE eq (YP P m) (YP P k) (YP P v)|_=>Un
 |.insert t m k v=>Uo P t λd=>match d with|.map kt _=>Uo P kt<|ku λeq=>GE eq (YP P m) (YP P k) (YP P v)|_=>Un
 |.lookup t m k ok=>Uo P t λd=>match d with
  |.map kt e=>Uo P kt<|ku λeq=>TR P e λi=>PB i.zero λz=>qQ eq (Vm z) ok (YP P m) (YP P k)
  |_=>Un
 |.makeSlice t l c=>Uo P t<|Ax λe=>TR P e λi=>PB i.zero λz=>kZ e i.size i.bytes (Vm z).cells (YP P l) (YP P c)
 |.slice t x lo hi mx=>cond (ZbC hi mx) (Uo P t λd=>match d with
  |.string=>SJ (YP P x) (opt P lo) (opt P hi) (opt P mx)
  |.slice e=>TR P e λi=>Le i.size (YP P x) (opt P lo) (opt P hi) (opt P mx)
  |.array n e=>TR P e λi=>N7 n i.size (YP P x) (opt P lo) (opt P hi) (opt P mx)
  |_=>Un) Un
 |.fieldAddr t x f=>Uo P t<|xX λfs=>PB fs[f]? λg=>TR P g.type λi=>cond (Nat.ble 1 i.size) (Yk (YP P x) g.offset) Un
 |.field t x f=>Uo P t<|xX λfs=>PB fs[f]? λg=>TR P g.type λi=>Uo P g.type λ_=>cond (Ld P g.type) (ZgV (YP P x) g.offset i.size) (kW (YP P x) g.offset)
 |.indexAddr t x i=>Uo P t λd=>match d with
  |.slice e=>TR P e λj=>ZW (YP P x) (YP P i) j.size
  |.array n e=>TR P e λj=>XN (YP P x) (YP P i) n j.size
  |_=>Un
 |.index t x i=>Uo P t λd=>match d with
  |.string=>YU (YP P x) (YP P i)
  |.array n e=>TR P e λj=>Uo P e λ_=>cond (Ld P e) (fT (YP P x) (YP P i) n j.size) (cond (Nat.beq j.size 1) (vH (YP P x) (YP P i) n) Un)
  |_=>Un
 |.typeAssert x _ t ok=>TR P t λi=>PB i.zero λz=>Uo P t λd=>match d with
  |.interface _=>vD (YP P x) P (fH P t) (Vm z) ok
  |_=>Ox (YP P x) t (Vm z) ok
 |.extract x i=>VH (YP P x) i
 |.call c=>mK P c
 |.defer c=>match c.callee with
  |.value f=>C9 (YP P f) (args P c.args)
  |_=>Un
 |.panic x=>Jz (YP P x)
 |.range t x=>Uo P t λd=>match d with|.string=>fX (YP P x)|.map _ _=>fW (YP P x)|_=>Un
 |.next x b=>cond b (Zem (YP P x)) Un
 |.entry x=>fV (YP P x)
 |_=>Un
def Of(o:Op):HF:=match o with
 |.load .. |.lookup .. =>.read
 |.slice t _ _ _ _=>match P.underlying t with|some (.slice _)=>.read|_=>.free
 |.convert s d _=>match P.underlying s,P.underlying d with|some (.slice _),some (.slice _)=>.eff|some (.slice _),_=>.read|_,_=>.free
 |.call c=>match c.callee,c.argTypes.toList with
  |.builtin b,ts=>match b with
   |.len=>(match ts with|[t]=>(match P.underlying t with|some (.map _ _)=>.read|_=>.free)|_=>.free)
   |.cap|.unsafeSliceData=>.read|.min|.max=>.free|_=>.eff
  |_,_=>.eff
 |.assign _|.store .. |.mapUpdate .. |.insert .. |.mapEntry .. |.entryStore .. |.panic _|.defer _|.next .. |.range .. |.entry _=>.eff
 |_=>.free
def SH(ops:Array Oper)(o:Oper):Option (Z0×Bool):=match o.guard with
 |none=>none
 |some (j,b)=>match(ops[j]?).bind (·.dst) with|some d=>some (YP P (.tmp d),b)|none=>some (k .unk,b)
def Wy(x:Option Nat):ZC:=match x with|some d=>cond (Nat.ble d 511) (Ol d) d0|none=>d0
def vN(ops:Array Oper):List Oper->D
 |[]=>Zb
 |o::l=>match SH P ops o with
  |none=>Za (V3 P o.op) (Wy o.dst) (vN ops l)
  |some (g,b)=>ZT g b (V3 P o.op) (Wy o.dst) (vN ops l)
def IP(acc:List (Nat×Nat))(o:Oper):Nat:=o.after.toList.foldl (λs e=>cond (Region.binds .any e) (Nat.lor (Nat.lor s (Nat.pow 2 e.on)) ((acc.lookup e.on).getD 0)) s) 0
def yI:List Oper->Nat->List (Nat×Nat)->List (Oper×Nat×Nat)
 |[],_,_=>[]
 |o::l,i,acc=>(o,i,IP acc o)::yI l (i+1) ((i,IP acc o)::acc)
def xY(l:List Operand):List Nat:=l.filterMap λx=>match x with|.tmp t=>some t|_=>none
def Uy(o:Oper):List (ZC×Z0):=(xY o.op.operands.toList).filterMap λt=>cond (Nat.ble t 511) (some (Ol t,Ro t)) none
def W4(ops:Array Oper)(x:Oper×Nat×Nat):PI:=⟨V3 P x.1.op,SH P ops x.1,Uy x.1,Wy x.1.dst,Of P x.1.op,x.2.1,x.2.2⟩
def vi(k:HF):Bool:=HF.rec false false true k
structure SI where
 i:Nat
 lk:List Nat
 d:Option Nat
 eff:Bool
 bef:Nat
 x:Oper×Nat×Nat
def R7(ops:Array Oper)(o:Oper):List Nat:=xY o.op.operands.toList++(match o.guard with|some (j,_)=>((ops[j]?).bind (·.dst)).toList|none=>[])
def No(ops:Array Oper)(x:Oper×Nat×Nat):SI:=⟨x.2.1,R7 ops x.1,x.1.dst,vi (Of P x.1.op),x.2.2,x⟩
def DY:Nat->List SI->Nat->List SI
 |0,_,_=>[]
 |f+1,todo,done=>
  let ready:=todo.filter λp=>Nat.beq (Nat.land p.bef done) p.bef
  match ready.find? (λp=>cond p.eff false true) with
  |some p=>p::DY f (todo.filter λq=>cond (Nat.beq q.i p.i) false true) (Nat.lor done (Nat.pow 2 p.i))
  |none=>match ready with
   |p::_=>p::DY f (todo.filter λq=>cond (Nat.beq q.i p.i) false true) (Nat.lor done (Nat.pow 2 p.i))
   |[]=>[]
def bit(n:Nat):Nat:=Nat.pow 2 n
def Js(l:List Nat):Nat:=List.rec 0 (λt _ ih=>Nat.lor (bit t) ih) l
def Zax(d:Option Nat):Nat:=match d with|some t=>bit t|none=>0
def dOk(d:Option Nat)(sm:Nat):Bool:=match d with|some t=>cond (Nat.testBit sm t) false true|none=>true
def fE(ws:List (Nat×Nat))(im bef t:Nat):Bool:=ws.all λx=>cond (Nat.beq x.1 t) (cond (Nat.testBit im x.2) (Nat.testBit bef x.2) true) true
def yU(i:Nat)(o:Oper):Bool:=o.after.toList.all λe=>cond (Region.binds .any e) (Nat.ble (Nat.succ e.on) i) true
def jc(p:SI)(d:Option Nat):Bool:=match d with|some t=>cond (p.lk.all λs=>cond (Nat.beq s t) false true) (match p.d with|some s=>cond (Nat.beq s t) false true|none=>true) false|none=>true
def iM(l0:List SI)(q:SI)(im:Nat):Bool:=l0.all λp=>cond (Nat.testBit im p.i) (cond (Nat.testBit q.bef p.i) true (jc p q.d)) true
def qM(l0:List SI)(q:SI)(sm im:Nat):Bool:=cond (dOk q.d (Nat.lor sm (Js q.lk))) true (cond q.eff (iM l0 q im) false)
def KO(ws:List (Nat×Nat))(l0:List SI):List SI->Nat->Nat->Nat->Nat->Bool
 |[],_,_,im,all=>Nat.beq im all
 |q::l,em,sm,im,all=>cond (Nat.beq (Nat.land q.bef em) em) (cond (qM l0 q sm im) (cond (q.lk.all (fE ws im q.bef)) (cond (Nat.testBit im q.i) false
   (KO ws l0 l (cond q.eff (Nat.lor em (bit q.i)) em) (Nat.lor (Nat.lor sm (Js q.lk)) (Zax q.d)) (Nat.lor im (bit q.i)) all)) false) false) false
def PN(l:List SI):List (Nat×Nat):=l.filterMap λq=>match q.d with|some t=>some (t,q.i)|none=>none
def Dc(l:List SI):Option (List SI×SI×SI):=match l.reverse with|b::a::r=>some (r.reverse,a,b)|_=>none
def Qg(o:Oper):Option Z0:=match o.op,o.guard,o.dst with|.store _ a _,none,none=>some (YP P a)|_,_,_=>none
def sJ(ops:Array Oper)(ws:List (Nat×Nat))(l0:List SI)(all:Nat)(x:Option (List SI×SI×SI)):D:=match x with
 |some (r,a,b)=>match Qg P a.x.1,Qg P b.x.1 with
  |some e1,some e2=>cond (KO ws l0 (r++[a]) 0 0 0 (Nat.xor all (bit b.i))) (cond (KO ws l0 (r++[b]) 0 0 0 (Nat.xor all (bit a.i)))
    (tH (r.map λq=>W4 P ops q.x) (W4 P ops a.x) (W4 P ops b.x) e1 e2) P3) P3
  |_,_=>P3
 |none=>P3
def CX(ops:Array Oper):List SI:=DY ops.size ((yI ops.toList 0 []).map (No P ops)) 0
def xF(ops:Array Oper)(l:List SI):D:=
 cond (KO (PN l) l l 0 0 0 (Nat.sub (bit ops.size) 1)) (Yy (l.map λq=>W4 P ops q.x)) (sJ P ops (PN l) l (Nat.sub (bit ops.size) 1) (Dc l))
def sL(ops:Array Oper):D:=
 cond (ops.toList.zipIdx.all λx=>yU x.2 x.1) (xF P ops (CX P ops)) P3
def HV:Code->List Nat
 |.region _ ops _=>ops.toList.filterMap (·.dst)
 |.seq a b=>HV a++HV b
 |.cond _ a b=>HV a++HV b
 |.block _ a=>HV a
 |.loop a=>HV a
 |.scope a=>HV a
 |.rangeFunc _ _ _ _=>[]
 |_=>[]
def Ow:Code->Option (Operand×Option Nat)
 |.seq a _=>Ow a
 |.region _ ops false=>match ops.toList with
  |o::_=>match o.op,o.guard with|.next x false,none=>some (x,o.dst)|_,_=>none
  |[]=>none
 |_=>none
def wC(c:Code):D×D:=
 Code.rec (motive:=λ_=>D×D) (Zb,P3)
  (λ_ ops d=>(cond d (sL P ops) (vN P ops ops.toList),cond d P3 (vN P ops ops.toList.tail)))
  (λ_ _ a b=>(Zc a.1 b.1,Zc a.2 b.1))
  (λq _ _ a b=>(ZD (YP P q) a.1 b.1,P3))
  (λid _ a=>(ZG id a.1,P3))
  (λb a=>(match Ow b with|some (x,t)=>si (YP P x) (Wy t) ((HV b).map λt=>Wy (some t)) a.2|none=>Xo a.1,P3))
  (λf ps _ _ a b=>(sM (YP P f) (ps.toList.map λt=>Wy (some t)) (Zc a.1 b.1),P3))
  (λid=>(Xi id,P3))
  (λ_ a=>(a.1,P3))
  (λ_=>(Zb,P3))
  (λ_=>(P3,P3))
  (Ya,P3)
  (λ_=>(P3,P3)) c
def Zdg(c:Code):D:=(wC P c).1
end
def params:List ZC:=[d N8.u0 N8.u0 N8.u0,d N8.u1 N8.u0 N8.u0,d N8.u2 N8.u0 N8.u0,d N8.u3 N8.u0 N8.u0,d N8.u4 N8.u0 N8.u0,d N8.u5 N8.u0 N8.u0,d N8.u6 N8.u0 N8.u0,d N8.u7 N8.u0 N8.u0,
 d N8.u0 N8.u1 N8.u0,d N8.u1 N8.u1 N8.u0,d N8.u2 N8.u1 N8.u0,d N8.u3 N8.u1 N8.u0,d N8.u4 N8.u1 N8.u0,d N8.u5 N8.u1 N8.u0,d N8.u6 N8.u1 N8.u0,d N8.u7 N8.u1 N8.u0]
def RL(as:List AV):TM:=Nj Nn params as
structure CF where
 rs:List (Z0×Option (Nat×Bool))
 body:D
def eO(tm:TM)(H:Heap)(r:Z0×Option (Nat×Bool))(k:AV->CR):CR:=match r.2 with
 |none=>k (r.1 tm)
 |some (n,ag)=>match r.1 tm with
  |.ptr b o=>match H.t.get b with
   |some (.row r)=>cond (Nat.ble (Nat.add o n) r.size) (cond ag (k (.agg (loadN r o n))) (k (r.get o))) .fail
   |_=>.fail
  |_=>.fail
def OW(tm:TM)(H:Heap)(k:List AV->CR):List (Z0×Option (Nat×Bool))->CR
 |[]=>k []
 |r::l=>eO tm H r λv=>OW tm H (λvs=>k (v::vs)) l
def results(rs:List (Z0×Option (Nat×Bool)))(tm:TM)(H:Heap):CR:=
 OW tm H (λvs=>match vs with|[v]=>.ret v H|vs=>.ret (.tup vs) H) rs
inductive DR where
 |fail
 |ret (v:AV) (H:Heap) (rec:Bool)
 |pan (v:AV) (H:Heap) (rec:Bool)
def LH(rc:Option AV)(x:X):Bool:=match rc,x.rc with|some _,none=>true|_,_=>false
def deferred(dcall:Option AV->Nat->List AV->Heap->DR)(rs:List (Z0×Option (Nat×Bool)))(tm:TM):List (AV×List AV)->Option AV->Heap->CR
 |[],none,H=>results rs tm H
 |[],some v,H=>.pan v H
 |d::l,pn,H=>match d.1 with
  |.func g a b=>match dcall pn g (a++(d.2++b)) H with
   |.ret _ H rec=>deferred dcall rs tm l (cond rec none pn) H
   |_=>.fail
  |_=>.fail
def KV(dcall:Option AV->Nat->List AV->Heap->DR)(rs:List (Z0×Option (Nat×Bool)))(r:WS):CR:=match r with
 |.ok .normal tm H x=>match x.df with|[]=>results rs tm H|df=>deferred dcall rs tm df none H
 |.ok .ret tm H x=>match x.df with|[]=>results rs tm H|df=>deferred dcall rs tm df none H
 |.ok (.pan v) tm H x=>match x.df with|[]=>.pan v H|df=>deferred dcall rs tm df (some v) H
 |_=>.fail
def FX(rc:Option AV)(rs:List (Z0×Option (Nat×Bool)))(r:WS):DR:=match r with
 |.ok .normal tm H x=>match x.df,results rs tm H with|[],.ret v H=>.ret v H (LH rc x)|_,_=>.fail
 |.ok .ret tm H x=>match x.df,results rs tm H with|[],.ret v H=>.ret v H (LH rc x)|_,_=>.fail
 |.ok (.pan v) _ H x=>match x.df with|[]=>.pan v H (LH rc x)|_=>.fail
 |_=>.fail
def dG(r:CR)(tm:TM)(x:X):WS:=match r with
 |.ret _ H=>.ok .normal tm H x
 |.pan v H=>.ok (.pan v) tm H x
 |.fail=>.fail
def Bf{α:Type}(d:α)(fs:T CF)(f:Nat)(k:CF->α):α:=match fs.get f with|some cf=>k cf|none=>d
def FZ(fs:T CF)(fuel:Nat)(call:Nat->List AV->Heap->CR)(f:AV)(round:List AV->Heap->CR)(tm:TM)(H:Heap)(x:X):WS:=match f with
 |.func g a b=>Bf .fail fs g λcf=>
  dG (KV (λ_ _ _ _=>.fail) cf.rs (cf.body ⟨call,λl ys H'=>cond (Nat.beq l H.nx) (round ys H') .fail,TQ,fuel,false⟩
   (RL (a++(.yield H.nx::b))) (H.new .loop) ⟨[],none⟩)) tm x
 |_=>.fail
def qF(r:Option CR)(k:CR):CR:=Option.rec k (λr=>r) r
def Yo(lib:Nat->List AV->Heap->Option CR)(fs:T CF)(fuel:Nat)(n:Nat):Nat->List AV->Heap->CR:=
 @Nat.rec (λ_=>Nat->List AV->Heap->CR) (λ_ _ _=>.fail) (λ_ ih f args H=>qF (lib f args H) (Bf .fail fs f λcf=>
  KV (λpn g as H=>Bf .fail fs g λcg=>FX pn cg.rs (cg.body ⟨ih,Tj,TQ,fuel,false⟩ (RL as) H ⟨[],pn⟩))
   cf.rs (cf.body ⟨ih,Tj,FZ fs fuel ih,fuel,false⟩ (RL args) H ⟨[],none⟩))) n
def Bd(n:Nat)(d:Option Nat):Bool:=match d with|some t=>Nat.ble (Nat.succ t) n|none=>true
def P5(n:Nat)(c:Code):Bool:=
 Code.rec (motive:=λ_=>Bool) true (λ_ ops _=>ops.toList.all λo=>Bd n o.dst) (λ_ _ a b=>cond a b false) (λ_ _ _ a b=>cond a b false) (λ_ _ a=>a) (λ_ a=>a)
  (λ_ ps _ _ a b=>cond (ps.toList.all λt=>Bd n (some t)) (cond a b false) false) (λ_=>true) (λ_ a=>a) (λ_=>true) (λ_=>true) true (λ_=>true) c
def GR(P:Program)(r:ResultVar):Bool:=match r with|.tmp _=>true|.cell _ t=>(P.info? t).isSome&&(P.underlying t).isSome&&Nat.ble 1 (P.cellsOf t)
def Ek(P:Program)(f:Func):CF:=
 ⟨f.results.toList.map λr=>match r with|.tmp t=>(YP P (.tmp t),none)|.cell a t=>(YP P (.tmp a),some (P.cellsOf t,Ld P t)),
  match f.body with|some c=>cond (f.results.toList.all (GR P)) (cond (P5 f.ntmps c) (Zdg P c) P3) P3|none=>P3⟩
def ZiO(P:Program):T CF:=T.ofList (P.funcs.toList.map (Ek P))
def nI(k:IntKind)(n:Nat):AV:=.int k (.ofNat n)
def ZO:Z0:=e N8.a0 N8.a0 N8.a0
def YL:Z0:=e N8.a1 N8.a0 N8.a0
def Xw:Z0:=e N8.a2 N8.a0 N8.a0
def Xa:Z0:=e N8.a3 N8.a0 N8.a0
def YT:Z0:=e N8.a4 N8.a0 N8.a0
def XW:Z0:=e N8.a5 N8.a0 N8.a0
def W2:Z0:=e N8.a6 N8.a0 N8.a0
def Wp:Z0:=e N8.a7 N8.a0 N8.a0
def XG:Z0:=e N8.a0 N8.a1 N8.a0
def Wq:Z0:=e N8.a1 N8.a1 N8.a0
def YA:Z0:=e N8.a2 N8.a1 N8.a0
def Ye:Z0:=e N8.a3 N8.a1 N8.a0
def Yi:Z0:=e N8.a4 N8.a1 N8.a0
def YE:Z0:=e N8.a5 N8.a1 N8.a0
def XY:Z0:=e N8.a6 N8.a1 N8.a0
def XQ:Z0:=e N8.a7 N8.a1 N8.a0
def XZ:Z0:=e N8.a0 N8.a2 N8.a0
def X7:Z0:=e N8.a1 N8.a2 N8.a0
def Wc:Z0:=e N8.a2 N8.a2 N8.a0
def WO:Z0:=e N8.a3 N8.a2 N8.a0
def Vk:Z0:=e N8.a4 N8.a2 N8.a0
def Wk:Z0:=e N8.a5 N8.a2 N8.a0
def WP:Z0:=e N8.a6 N8.a2 N8.a0
def Wl:Z0:=e N8.a7 N8.a2 N8.a0
def VK:Z0:=e N8.a0 N8.a3 N8.a0
def Vy:Z0:=e N8.a1 N8.a3 N8.a0
def V6:Z0:=e N8.a2 N8.a3 N8.a0
def VL:Z0:=e N8.a3 N8.a3 N8.a0
def Uf:Z0:=e N8.a4 N8.a3 N8.a0
def Ug:Z0:=e N8.a5 N8.a3 N8.a0
def VT:Z0:=e N8.a6 N8.a3 N8.a0
def VM:Z0:=e N8.a7 N8.a3 N8.a0
def V7:Z0:=e N8.a0 N8.a4 N8.a0
def Uz:Z0:=e N8.a1 N8.a4 N8.a0
def V8:Z0:=e N8.a2 N8.a4 N8.a0
def VF:Z0:=e N8.a3 N8.a4 N8.a0
def Ty:Z0:=e N8.a4 N8.a4 N8.a0
def UP:Z0:=e N8.a5 N8.a4 N8.a0
def Tb:Z0:=e N8.a6 N8.a4 N8.a0
def Tf:Z0:=e N8.a7 N8.a4 N8.a0
def TA:Z0:=e N8.a0 N8.a5 N8.a0
def U1:Z0:=e N8.a1 N8.a5 N8.a0
def Uh:Z0:=e N8.a2 N8.a5 N8.a0
def Um:Z0:=e N8.a3 N8.a5 N8.a0
def TN:Z0:=e N8.a4 N8.a5 N8.a0
def VY:Z0:=e N8.a5 N8.a5 N8.a0
def UG:Z0:=e N8.a6 N8.a5 N8.a0
def U2:Z0:=e N8.a7 N8.a5 N8.a0
def Tl:Z0:=e N8.a0 N8.a6 N8.a0
def TO:Z0:=e N8.a1 N8.a6 N8.a0
def U3:Z0:=e N8.a2 N8.a6 N8.a0
def U4:Z0:=e N8.a3 N8.a6 N8.a0
def Tm:Z0:=e N8.a4 N8.a6 N8.a0
def VG:Z0:=e N8.a5 N8.a6 N8.a0
def S1:Z0:=e N8.a6 N8.a6 N8.a0
def SM:Z0:=e N8.a7 N8.a6 N8.a0
def Sw:Z0:=e N8.a0 N8.a7 N8.a0
def S2:Z0:=e N8.a1 N8.a7 N8.a0
def T6:Z0:=e N8.a2 N8.a7 N8.a0
def SN:Z0:=e N8.a3 N8.a7 N8.a0
def Sx:Z0:=e N8.a4 N8.a7 N8.a0
def Rs:Z0:=e N8.a5 N8.a7 N8.a0
def R1:Z0:=e N8.a6 N8.a7 N8.a0
def RG:Z0:=e N8.a7 N8.a7 N8.a0
def Rj:Z0:=e N8.a0 N8.a0 N8.a1
def Qz:Z0:=e N8.a1 N8.a0 N8.a1
def Q8:Z0:=e N8.a2 N8.a0 N8.a1
def Oa:Z0:=e N8.a3 N8.a0 N8.a1
def OP:Z0:=e N8.a4 N8.a0 N8.a1
def QG:Z0:=e N8.a5 N8.a0 N8.a1
def PO:Z0:=e N8.a6 N8.a0 N8.a1
def S8:Z0:=e N8.a7 N8.a0 N8.a1
def Sh:Z0:=e N8.a0 N8.a1 N8.a1
def QQ:Z0:=e N8.a1 N8.a1 N8.a1
def Q9:Z0:=e N8.a2 N8.a1 N8.a1
def QR:Z0:=e N8.a3 N8.a1 N8.a1
def Pu:Z0:=e N8.a4 N8.a1 N8.a1
def PP:Z0:=e N8.a5 N8.a1 N8.a1
def Pv:Z0:=e N8.a6 N8.a1 N8.a1
def PQ:Z0:=e N8.a7 N8.a1 N8.a1
def Pa:Z0:=e N8.a0 N8.a2 N8.a1
def Pb:Z0:=e N8.a1 N8.a2 N8.a1
def Nb:Z0:=e N8.a2 N8.a2 N8.a1
def Rt:Z0:=e N8.a3 N8.a2 N8.a1
def Ob:Z0:=e N8.a4 N8.a2 N8.a1
def N1:Z0:=e N8.a5 N8.a2 N8.a1
def Mn:Z0:=e N8.a6 N8.a2 N8.a1
def Nc:Z0:=e N8.a7 N8.a2 N8.a1
def Oc:Z0:=e N8.a0 N8.a3 N8.a1
def Mo:Z0:=e N8.a1 N8.a3 N8.a1
def M7:Z0:=e N8.a2 N8.a3 N8.a1
def M8:Z0:=e N8.a3 N8.a3 N8.a1
def NE:Z0:=e N8.a4 N8.a3 N8.a1
def Lx:Z0:=e N8.a5 N8.a3 N8.a1
def KT:Z0:=e N8.a6 N8.a3 N8.a1
def M9:Z0:=e N8.a7 N8.a3 N8.a1
def La:Z0:=e N8.a0 N8.a4 N8.a1
def Kf:Z0:=e N8.a1 N8.a4 N8.a1
def Kg:Z0:=e N8.a2 N8.a4 N8.a1
def Ly:Z0:=e N8.a3 N8.a4 N8.a1
def QX:Z0:=e N8.a4 N8.a4 N8.a1
def PZ:Z0:=e N8.a5 N8.a4 N8.a1
def Qv:Z0:=e N8.a6 N8.a4 N8.a1
def Ps:Z0:=e N8.a7 N8.a4 N8.a1
def Nr:Z0:=e N8.a0 N8.a5 N8.a1
def S0:Z0:=e N8.a1 N8.a5 N8.a1
def OH:Z0:=e N8.a2 N8.a5 N8.a1
def OI:Z0:=e N8.a3 N8.a5 N8.a1
def Sg:Z0:=e N8.a4 N8.a5 N8.a1
def Pt:Z0:=e N8.a5 N8.a5 N8.a1
def NX:Z0:=e N8.a6 N8.a5 N8.a1
def NY:Z0:=e N8.a7 N8.a5 N8.a1
def Ns:Z0:=e N8.a0 N8.a6 N8.a1
def QY:Z0:=e N8.a1 N8.a6 N8.a1
def OJ:Z0:=e N8.a2 N8.a6 N8.a1
def OK:Z0:=e N8.a3 N8.a6 N8.a1
def QZ:Z0:=e N8.a4 N8.a6 N8.a1
def OL:Z0:=e N8.a5 N8.a6 N8.a1
def OM:Z0:=e N8.a6 N8.a6 N8.a1
def Nt:Z0:=e N8.a7 N8.a6 N8.a1
def NZ:Z0:=e N8.a0 N8.a7 N8.a1
def ON:Z0:=e N8.a1 N8.a7 N8.a1
def My:Z0:=e N8.a2 N8.a7 N8.a1
def N0:Z0:=e N8.a3 N8.a7 N8.a1
def Mz:Z0:=e N8.a4 N8.a7 N8.a1
def MA:Z0:=e N8.a5 N8.a7 N8.a1
def Ra:Z0:=e N8.a6 N8.a7 N8.a1
def MB:Z0:=e N8.a7 N8.a7 N8.a1
def MC:Z0:=e N8.a0 N8.a0 N8.a2
def Lu:Z0:=e N8.a1 N8.a0 N8.a2
def MD:Z0:=e N8.a2 N8.a0 N8.a2
def ME:Z0:=e N8.a3 N8.a0 N8.a2
def Lv:Z0:=e N8.a4 N8.a0 N8.a2
def OO:Z0:=e N8.a5 N8.a0 N8.a2
def Is:Z0:=e N8.a6 N8.a0 N8.a2
def Jd:Z0:=e N8.a7 N8.a0 N8.a2
def It:Z0:=e N8.a0 N8.a1 N8.a2
def Iu:Z0:=e N8.a1 N8.a1 N8.a2
def Iv:Z0:=e N8.a2 N8.a1 N8.a2
def Ge:Z0:=e N8.a3 N8.a1 N8.a2
def MF:Z0:=e N8.a4 N8.a1 N8.a2
def Ev:Z0:=e N8.a5 N8.a1 N8.a2
def Ew:Z0:=e N8.a6 N8.a1 N8.a2
def Ex:Z0:=e N8.a7 N8.a1 N8.a2
def Ey:Z0:=e N8.a0 N8.a2 N8.a2
def Iw:Z0:=e N8.a1 N8.a2 N8.a2
def Gf:Z0:=e N8.a2 N8.a2 N8.a2
def Lw:Z0:=e N8.a3 N8.a2 N8.a2
def Gg:Z0:=e N8.a4 N8.a2 N8.a2
def Gh:Z0:=e N8.a5 N8.a2 N8.a2
def Gi:Z0:=e N8.a6 N8.a2 N8.a2
def Gj:Z0:=e N8.a7 N8.a2 N8.a2
def KK:Z0:=e N8.a0 N8.a3 N8.a2
def Gk:Z0:=e N8.a1 N8.a3 N8.a2
def Gl:Z0:=e N8.a2 N8.a3 N8.a2
def Gm:Z0:=e N8.a3 N8.a3 N8.a2
def Gn:Z0:=e N8.a4 N8.a3 N8.a2
def KL:Z0:=e N8.a5 N8.a3 N8.a2
def Ez:Z0:=e N8.a6 N8.a3 N8.a2
def D0:Z0:=e N8.a7 N8.a3 N8.a2
def D1:Z0:=e N8.a0 N8.a4 N8.a2
def zC:Z0:=e N8.a1 N8.a4 N8.a2
def Gp:Z0:=e N8.a2 N8.a4 N8.a2
def D2:Z0:=e N8.a3 N8.a4 N8.a2
def D3:Z0:=e N8.a4 N8.a4 N8.a2
def D4:Z0:=e N8.a5 N8.a4 N8.a2
def zD:Z0:=e N8.a6 N8.a4 N8.a2
def wW:Z0:=e N8.a7 N8.a4 N8.a2
def wX:Z0:=e N8.a0 N8.a5 N8.a2
def qf:Z0:=e N8.a1 N8.a5 N8.a2
def qg:Z0:=e N8.a2 N8.a5 N8.a2
def qh:Z0:=e N8.a3 N8.a5 N8.a2
def qi:Z0:=e N8.a4 N8.a5 N8.a2
def qj:Z0:=e N8.a5 N8.a5 N8.a2
def qk:Z0:=e N8.a6 N8.a5 N8.a2
def ql:Z0:=e N8.a7 N8.a5 N8.a2
def qm:Z0:=e N8.a0 N8.a6 N8.a2
def lM:Z0:=e N8.a1 N8.a6 N8.a2
def dI:Z0:=e N8.a2 N8.a6 N8.a2
def dJ:Z0:=e N8.a3 N8.a6 N8.a2
def dK:Z0:=e N8.a4 N8.a6 N8.a2
def dL:Z0:=e N8.a5 N8.a6 N8.a2
def dM:Z0:=e N8.a6 N8.a6 N8.a2
def dN:Z0:=e N8.a7 N8.a6 N8.a2
def dO:Z0:=e N8.a0 N8.a7 N8.a2
def dP:Z0:=e N8.a1 N8.a7 N8.a2
def dQ:Z0:=e N8.a2 N8.a7 N8.a2
def dR:Z0:=e N8.a3 N8.a7 N8.a2
def dS:Z0:=e N8.a4 N8.a7 N8.a2
def dT:Z0:=e N8.a5 N8.a7 N8.a2
def dU:Z0:=e N8.a6 N8.a7 N8.a2
def dV:Z0:=e N8.a7 N8.a7 N8.a2
def dW:Z0:=e N8.a0 N8.a0 N8.a3
def dX:Z0:=e N8.a1 N8.a0 N8.a3
def dY:Z0:=e N8.a2 N8.a0 N8.a3
def dZ:Z0:=e N8.a3 N8.a0 N8.a3
def d4:Z0:=e N8.a4 N8.a0 N8.a3
def d5:Z0:=e N8.a5 N8.a0 N8.a3
def d6:Z0:=e N8.a6 N8.a0 N8.a3
def d7:Z0:=e N8.a7 N8.a0 N8.a3
def d8:Z0:=e N8.a0 N8.a1 N8.a3
def d9:Z0:=e N8.a1 N8.a1 N8.a3
def ce:Z0:=e N8.a2 N8.a1 N8.a3
def ci:Z0:=e N8.a3 N8.a1 N8.a3
def cj:Z0:=e N8.a4 N8.a1 N8.a3
def cq:Z0:=e N8.a5 N8.a1 N8.a3
def cr:Z0:=e N8.a6 N8.a1 N8.a3
def cu:Z0:=e N8.a7 N8.a1 N8.a3
def cz:Z0:=e N8.a0 N8.a2 N8.a3
def cA:Z0:=e N8.a1 N8.a2 N8.a3
def cC:Z0:=e N8.a2 N8.a2 N8.a3
def cD:Z0:=e N8.a3 N8.a2 N8.a3
def cE:Z0:=e N8.a4 N8.a2 N8.a3
def cF:Z0:=e N8.a5 N8.a2 N8.a3
def cG:Z0:=e N8.a6 N8.a2 N8.a3
def cH:Z0:=e N8.a7 N8.a2 N8.a3
def Zds:Z0:=e N8.a0 N8.a3 N8.a3
def Zdt:Z0:=e N8.a1 N8.a3 N8.a3
def Zdu:Z0:=e N8.a2 N8.a3 N8.a3
def Zdv:Z0:=e N8.a3 N8.a3 N8.a3
def Zdw:Z0:=e N8.a4 N8.a3 N8.a3
def Zdx:Z0:=e N8.a5 N8.a3 N8.a3
def Zdy:Z0:=e N8.a6 N8.a3 N8.a3
def Zdz:Z0:=e N8.a7 N8.a3 N8.a3
def st0:ZC:=d N8.u0 N8.u0 N8.u0
def st1:ZC:=d N8.u1 N8.u0 N8.u0
def st2:ZC:=d N8.u2 N8.u0 N8.u0
def WZ:ZC:=d N8.u3 N8.u0 N8.u0
def Xp:ZC:=d N8.u4 N8.u0 N8.u0
def VA:ZC:=d N8.u5 N8.u0 N8.u0
def Ui:ZC:=d N8.u6 N8.u0 N8.u0
def VE:ZC:=d N8.u7 N8.u0 N8.u0
def W0:ZC:=d N8.u0 N8.u1 N8.u0
def VB:ZC:=d N8.u1 N8.u1 N8.u0
def Xe:ZC:=d N8.u2 N8.u1 N8.u0
def YS:ZC:=d N8.u3 N8.u1 N8.u0
def YR:ZC:=d N8.u4 N8.u1 N8.u0
def Xl:ZC:=d N8.u5 N8.u1 N8.u0
def X8:ZC:=d N8.u6 N8.u1 N8.u0
def Wh:ZC:=d N8.u7 N8.u1 N8.u0
def Wt:ZC:=d N8.u0 N8.u2 N8.u0
def W7:ZC:=d N8.u1 N8.u2 N8.u0
def W3:ZC:=d N8.u2 N8.u2 N8.u0
def Vf:ZC:=d N8.u3 N8.u2 N8.u0
def Vx:ZC:=d N8.u4 N8.u2 N8.u0
def VD:ZC:=d N8.u5 N8.u2 N8.u0
def VZ:ZC:=d N8.u6 N8.u2 N8.u0
def V0:ZC:=d N8.u7 N8.u2 N8.u0
def VU:ZC:=d N8.u0 N8.u3 N8.u0
def V9:ZC:=d N8.u1 N8.u3 N8.u0
def Up:ZC:=d N8.u2 N8.u3 N8.u0
def Uq:ZC:=d N8.u3 N8.u3 N8.u0
def Ur:ZC:=d N8.u4 N8.u3 N8.u0
def Uu:ZC:=d N8.u5 N8.u3 N8.u0
def UJ:ZC:=d N8.u6 N8.u3 N8.u0
def UK:ZC:=d N8.u7 N8.u3 N8.u0
def U7:ZC:=d N8.u0 N8.u4 N8.u0
def U8:ZC:=d N8.u1 N8.u4 N8.u0
def Ts:ZC:=d N8.u2 N8.u4 N8.u0
def Tt:ZC:=d N8.u3 N8.u4 N8.u0
def TF:ZC:=d N8.u4 N8.u4 N8.u0
def Tu:ZC:=d N8.u5 N8.u4 N8.u0
def Tg:ZC:=d N8.u6 N8.u4 N8.u0
def Tv:ZC:=d N8.u7 N8.u4 N8.u0
def TG:ZC:=d N8.u0 N8.u5 N8.u0
def TH:ZC:=d N8.u1 N8.u5 N8.u0
def Th:ZC:=d N8.u2 N8.u5 N8.u0
def Te:ZC:=d N8.u3 N8.u5 N8.u0
def TI:ZC:=d N8.u4 N8.u5 N8.u0
def TS:ZC:=d N8.u5 N8.u5 N8.u0
def TT:ZC:=d N8.u6 N8.u5 N8.u0
def T9:ZC:=d N8.u7 N8.u5 N8.u0
def Sf:ZC:=d N8.u0 N8.u6 N8.u0
def Sa:ZC:=d N8.u1 N8.u6 N8.u0
def Sb:ZC:=d N8.u2 N8.u6 N8.u0
def T2:ZC:=d N8.u3 N8.u6 N8.u0
def T3:ZC:=d N8.u4 N8.u6 N8.u0
def SD:ZC:=d N8.u5 N8.u6 N8.u0
def S4:ZC:=d N8.u6 N8.u6 N8.u0
def S5:ZC:=d N8.u7 N8.u6 N8.u0
def S6:ZC:=d N8.u0 N8.u7 N8.u0
def SP:ZC:=d N8.u1 N8.u7 N8.u0
def S7:ZC:=d N8.u2 N8.u7 N8.u0
def S9:ZC:=d N8.u3 N8.u7 N8.u0
def RP:ZC:=d N8.u4 N8.u7 N8.u0
def RQ:ZC:=d N8.u5 N8.u7 N8.u0
def Qf:ZC:=d N8.u6 N8.u7 N8.u0
def QA:ZC:=d N8.u7 N8.u7 N8.u0
def QB:ZC:=d N8.u0 N8.u0 N8.u1
def QK:ZC:=d N8.u1 N8.u0 N8.u1
def Pe:ZC:=d N8.u2 N8.u0 N8.u1
def Om:ZC:=d N8.u3 N8.u0 N8.u1
def O6:ZC:=d N8.u4 N8.u0 N8.u1
def On:ZC:=d N8.u5 N8.u0 N8.u1
def PT:ZC:=d N8.u6 N8.u0 N8.u1
def PU:ZC:=d N8.u7 N8.u0 N8.u1
def Pf:ZC:=d N8.u0 N8.u1 N8.u1
def Pg:ZC:=d N8.u1 N8.u1 N8.u1
def Ph:ZC:=d N8.u2 N8.u1 N8.u1
def PF:ZC:=d N8.u3 N8.u1 N8.u1
def PG:ZC:=d N8.u4 N8.u1 N8.u1
def PV:ZC:=d N8.u5 N8.u1 N8.u1
def PH:ZC:=d N8.u6 N8.u1 N8.u1
def PW:ZC:=d N8.u7 N8.u1 N8.u1
def PX:ZC:=d N8.u0 N8.u2 N8.u1
def Oo:ZC:=d N8.u1 N8.u2 N8.u1
def Nl:ZC:=d N8.u2 N8.u2 N8.u1
def Nm:ZC:=d N8.u3 N8.u2 N8.u1
def Mg:ZC:=d N8.u4 N8.u2 N8.u1
def Mh:ZC:=d N8.u5 N8.u2 N8.u1
def Mq:ZC:=d N8.u6 N8.u2 N8.u1
def Mi:ZC:=d N8.u7 N8.u2 N8.u1
def Mr:ZC:=d N8.u0 N8.u3 N8.u1
def Ms:ZC:=d N8.u1 N8.u3 N8.u1
def Lh:ZC:=d N8.u2 N8.u3 N8.u1
def Li:ZC:=d N8.u3 N8.u3 N8.u1
def Mt:ZC:=d N8.u4 N8.u3 N8.u1
def LR:ZC:=d N8.u5 N8.u3 N8.u1
def KW:ZC:=d N8.u6 N8.u3 N8.u1
def LS:ZC:=d N8.u7 N8.u3 N8.u1
def LT:ZC:=d N8.u0 N8.u4 N8.u1
def Kz:ZC:=d N8.u1 N8.u4 N8.u1
def KA:ZC:=d N8.u2 N8.u4 N8.u1
def LU:ZC:=d N8.u3 N8.u4 N8.u1
def Q3:ZC:=d N8.u4 N8.u4 N8.u1
def P1:ZC:=d N8.u5 N8.u4 N8.u1
def OX:ZC:=d N8.u6 N8.u4 N8.u1
def Nw:ZC:=d N8.u7 N8.u4 N8.u1
def Nx:ZC:=d N8.u0 N8.u5 N8.u1
def OY:ZC:=d N8.u1 N8.u5 N8.u1
def OZ:ZC:=d N8.u2 N8.u5 N8.u1
def O0:ZC:=d N8.u3 N8.u5 N8.u1
def Ny:ZC:=d N8.u4 N8.u5 N8.u1
def MQ:ZC:=d N8.u5 N8.u5 N8.u1
def Mc:ZC:=d N8.u6 N8.u5 N8.u1
def Md:ZC:=d N8.u7 N8.u5 N8.u1
def Nz:ZC:=d N8.u0 N8.u6 N8.u1
def O1:ZC:=d N8.u1 N8.u6 N8.u1
def O2:ZC:=d N8.u2 N8.u6 N8.u1
def O3:ZC:=d N8.u3 N8.u6 N8.u1
def O4:ZC:=d N8.u4 N8.u6 N8.u1
def O5:ZC:=d N8.u5 N8.u6 N8.u1
def NA:ZC:=d N8.u6 N8.u6 N8.u1
def NB:ZC:=d N8.u7 N8.u6 N8.u1
def Me:ZC:=d N8.u0 N8.u7 N8.u1
def MR:ZC:=d N8.u1 N8.u7 N8.u1
def MT:ZC:=d N8.u2 N8.u7 N8.u1
def Mf:ZC:=d N8.u3 N8.u7 N8.u1
def MU:ZC:=d N8.u4 N8.u7 N8.u1
def MV:ZC:=d N8.u5 N8.u7 N8.u1
def MW:ZC:=d N8.u6 N8.u7 N8.u1
def MX:ZC:=d N8.u7 N8.u7 N8.u1
def MY:ZC:=d N8.u0 N8.u0 N8.u2
def LP:ZC:=d N8.u1 N8.u0 N8.u2
def MZ:ZC:=d N8.u2 N8.u0 N8.u2
def M0:ZC:=d N8.u3 N8.u0 N8.u2
def LQ:ZC:=d N8.u4 N8.u0 N8.u2
def KQ:ZC:=d N8.u5 N8.u0 N8.u2
def JL:ZC:=d N8.u6 N8.u0 N8.u2
def JM:ZC:=d N8.u7 N8.u0 N8.u2
def ID:ZC:=d N8.u0 N8.u1 N8.u2
def IE:ZC:=d N8.u1 N8.u1 N8.u2
def IF:ZC:=d N8.u2 N8.u1 N8.u2
def G2:ZC:=d N8.u3 N8.u1 N8.u2
def G3:ZC:=d N8.u4 N8.u1 N8.u2
def EP:ZC:=d N8.u5 N8.u1 N8.u2
def EQ:ZC:=d N8.u6 N8.u1 N8.u2
def ER:ZC:=d N8.u7 N8.u1 N8.u2
def ES:ZC:=d N8.u0 N8.u2 N8.u2
def IG:ZC:=d N8.u1 N8.u2 N8.u2
def IH:ZC:=d N8.u2 N8.u2 N8.u2
def II:ZC:=d N8.u3 N8.u2 N8.u2
def G4:ZC:=d N8.u4 N8.u2 N8.u2
def G5:ZC:=d N8.u5 N8.u2 N8.u2
def G6:ZC:=d N8.u6 N8.u2 N8.u2
def G7:ZC:=d N8.u7 N8.u2 N8.u2
def G8:ZC:=d N8.u0 N8.u3 N8.u2
def G9:ZC:=d N8.u1 N8.u3 N8.u2
def Fa:ZC:=d N8.u2 N8.u3 N8.u2
def Fb:ZC:=d N8.u3 N8.u3 N8.u2
def Fc:ZC:=d N8.u4 N8.u3 N8.u2
def Fd:ZC:=d N8.u5 N8.u3 N8.u2
def ET:ZC:=d N8.u6 N8.u3 N8.u2
def BA:ZC:=d N8.u7 N8.u3 N8.u2
def BB:ZC:=d N8.u0 N8.u4 N8.u2
def yi:ZC:=d N8.u1 N8.u4 N8.u2
def yj:ZC:=d N8.u2 N8.u4 N8.u2
def BC:ZC:=d N8.u3 N8.u4 N8.u2
def BD:ZC:=d N8.u4 N8.u4 N8.u2
def BE:ZC:=d N8.u5 N8.u4 N8.u2
def yk:ZC:=d N8.u6 N8.u4 N8.u2
def uy:ZC:=d N8.u7 N8.u4 N8.u2
def uz:ZC:=d N8.u0 N8.u5 N8.u2
def pe:ZC:=d N8.u1 N8.u5 N8.u2
def pg:ZC:=d N8.u2 N8.u5 N8.u2
def ph:ZC:=d N8.u3 N8.u5 N8.u2
def pi:ZC:=d N8.u4 N8.u5 N8.u2
def pj:ZC:=d N8.u5 N8.u5 N8.u2
def pk:ZC:=d N8.u6 N8.u5 N8.u2
def pm:ZC:=d N8.u7 N8.u5 N8.u2
def pp:ZC:=d N8.u0 N8.u6 N8.u2
def jO:ZC:=d N8.u1 N8.u6 N8.u2
def bN:ZC:=d N8.u2 N8.u6 N8.u2
def bO:ZC:=d N8.u3 N8.u6 N8.u2
def bP:ZC:=d N8.u4 N8.u6 N8.u2
def bR:ZC:=d N8.u5 N8.u6 N8.u2
def bS:ZC:=d N8.u6 N8.u6 N8.u2
def bT:ZC:=d N8.u7 N8.u6 N8.u2
def bU:ZC:=d N8.u0 N8.u7 N8.u2
def bV:ZC:=d N8.u1 N8.u7 N8.u2
def bW:ZC:=d N8.u2 N8.u7 N8.u2
def bX:ZC:=d N8.u3 N8.u7 N8.u2
def bY:ZC:=d N8.u4 N8.u7 N8.u2
def bZ:ZC:=d N8.u5 N8.u7 N8.u2
def b8:ZC:=d N8.u6 N8.u7 N8.u2
def b9:ZC:=d N8.u7 N8.u7 N8.u2
def aa:ZC:=d N8.u0 N8.u0 N8.u3
def ae:ZC:=d N8.u1 N8.u0 N8.u3
def af:ZC:=d N8.u2 N8.u0 N8.u3
def ah:ZC:=d N8.u3 N8.u0 N8.u3
def ai:ZC:=d N8.u4 N8.u0 N8.u3
def aj:ZC:=d N8.u5 N8.u0 N8.u3
def ak:ZC:=d N8.u6 N8.u0 N8.u3
def al:ZC:=d N8.u7 N8.u0 N8.u3
def am:ZC:=d N8.u0 N8.u1 N8.u3
def an:ZC:=d N8.u1 N8.u1 N8.u3
def aq:ZC:=d N8.u2 N8.u1 N8.u3
def au:ZC:=d N8.u3 N8.u1 N8.u3
def av:ZC:=d N8.u4 N8.u1 N8.u3
def aw:ZC:=d N8.u5 N8.u1 N8.u3
def ax:ZC:=d N8.u6 N8.u1 N8.u3
def ay:ZC:=d N8.u7 N8.u1 N8.u3
def az:ZC:=d N8.u0 N8.u2 N8.u3
def aA:ZC:=d N8.u1 N8.u2 N8.u3
def aB:ZC:=d N8.u2 N8.u2 N8.u3
def aC:ZC:=d N8.u3 N8.u2 N8.u3
def aD:ZC:=d N8.u4 N8.u2 N8.u3
def aE:ZC:=d N8.u5 N8.u2 N8.u3
def aF:ZC:=d N8.u6 N8.u2 N8.u3
def aG:ZC:=d N8.u7 N8.u2 N8.u3
def ZeF:ZC:=d N8.u0 N8.u3 N8.u3
def ZeG:ZC:=d N8.u1 N8.u3 N8.u3
def ZeH:ZC:=d N8.u2 N8.u3 N8.u3
def ZeI:ZC:=d N8.u3 N8.u3 N8.u3
def ZeJ:ZC:=d N8.u4 N8.u3 N8.u3
def ZeK:ZC:=d N8.u5 N8.u3 N8.u3
def ZeL:ZC:=d N8.u6 N8.u3 N8.u3
def ZeM:ZC:=d N8.u7 N8.u3 N8.u3
end
end Go.AI
