/- The interpreter of my own for the model's code: its values, its operations, how code is compiled; definitions alone, no conditions. -/
import Derived.Calls
import GoSem.Step
set_option maxRecDepth 1000000
set_option maxHeartbeats 0
set_option linter.unusedVariables false
set_option linter.unusedSimpArgs false
namespace Go.AI
abbrev Zb:= @decide_eq_false
abbrev Ze:= @List.getD_eq_getElem?_getD
abbrev Zl:= @Nat.ble_eq_true_of_le
abbrev Zd:= @decide_eq_true
abbrev Zm:= @of_decide_eq_true
abbrev Zo:= @Nat.le_refl
abbrev Zk:= @List.getElem?_eq_getElem
abbrev Ye:= @List.length_cons
abbrev Zf:= @Nat.zero_add
abbrev Xq:= @List.take_of_length_le
abbrev Zs:= @List.mem_cons_self
abbrev ZF:= @Nat.lt_of_lt_of_le
abbrev ZE:= @List.length_append
abbrev ZC:= @List.mem_cons_of_mem
abbrev ZM:= @Nat.eq_of_beq_eq_true
abbrev ZT:= @Nat.le_of_ble_eq_true
abbrev Zz:= @List.drop_zero
abbrev Zp:= @List.length_map
abbrev Yx:= @Nat.mod_eq_of_lt
abbrev Nd:= @List.length_nil
abbrev Yo:= @Nat.lt_succ_self
abbrev ZO:= @Array.getElem?_eq_some_iff
abbrev Zj:= @Nat.add_zero
abbrev Zt:= @List.mem_append
abbrev Ym:= @Nat.zero_le
abbrev ZX:= @Nat.le_trans
abbrev W3:= @Nat.add_sub_cancel
abbrev ZR:= @List.mem_cons
abbrev Ys:= @Nat.beq_refl
abbrev Xf:= @Bool.true_and
abbrev Y0:= @Bool.false_and
abbrev YP:= @List.getElem?_eq_none
abbrev ZW:= @List.length_take
abbrev Yd:= @Array.getElem?_toList
abbrev ZV:= @Array.getD_eq_getD_getElem?
abbrev YR:= @List.length_eq_zero_iff
abbrev Z1:= @List.getElem?_append_left
abbrev YD:= @Int.ofNat_eq_natCast
abbrev U7:= @List.not_mem_nil
abbrev Wq:= @List.cons_append
abbrev Xp:= @List.getElem_mem
abbrev UC:= @Nat.mul_le_mul_right
abbrev Xz:= @Nat.lt_of_le_of_lt
abbrev Pt:= @Nat.le_of_lt
abbrev Uz:= @List.length_pos_iff
abbrev Ti:= @Nat.sub_self
abbrev Vy:= @Nat.mod_lt
abbrev X8:= @List.drop_eq_nil_of_le
abbrev ZZ:= @List.getElem?_map
abbrev Xk:= @List.append_assoc
abbrev je:= @Nat.not_lt_zero
abbrev S5:= @List.getElem_of_mem
abbrev Y2:= @List.drop_succ_cons
abbrev Xg:= @List.take_length
abbrev XT:= @Nat.lt_irrefl
abbrev Yv:= @Bool.and_eq_true
abbrev Zh:= @List.forall_mem_cons
abbrev Vx:= @Array.mem_of_getElem?
abbrev YH:= @List.all_eq_true
abbrev WN:= @List.getElem?_eq_some_iff
abbrev Z5:= @List.getElem?_append_right
abbrev VT:= @Option.isSome_iff_exists
abbrev YO:= @Array.getElem?_setIfInBounds
abbrev Vi:= @Bool.eq_iff_iff
abbrev XH:= @Bool.false_eq_true
abbrev Pa:= @Nat.lt_succ_of_le
abbrev U9:= @UInt8.toNat_inj
abbrev Uj:= @UInt8.lt_iff_toNat_lt
abbrev Wb:= @Nat.min_eq_left
abbrev U8:= @Nat.min_eq_right
abbrev UJ:= @Nat.add_assoc
abbrev Ve:= @List.extract_eq_take_drop
abbrev UA:= @List.mem_of_mem_drop
abbrev VO:= @List.mem_of_mem_take
abbrev WD:= @Int.toNat_natCast
abbrev Xr:= @Nat.mul_one
abbrev XA:= @Option.map_some
abbrev WH:= @Array.getElem?_modify
abbrev Vd:= @Array.getElem?_eq_getElem
abbrev VN:= @List.mem_of_getElem?
abbrev Wa:= @List.getElem?_toArray
abbrev Vr:= @List.getElem?_replicate
abbrev Wo:= @List.replicate_succ
abbrev U6:= @List.foldl_cons
abbrev WS:= @List.ext_getElem?
abbrev Xl:= @List.getElem?_drop
abbrev Zy:= @List.map_cons
abbrev V7:= @Bool.or_eq_true
abbrev V8:= @List.flatten_cons
abbrev WI:= @Nat.add_mul
abbrev Qk:= @Array.toList_map
abbrev XL:= @List.getElem?_range
abbrev YV:= @List.mem_map
abbrev W4:= @Nat.zero_mul
abbrev Vj:= @Nat.le_succ
abbrev RM:= @Nat.div_add_mod
abbrev UK:= @Nat.mul_comm
abbrev Rk:= @Option.map_none
abbrev Sp:= @Bool.and_true
abbrev PO:= @Bool.true_or
abbrev Qm:= @Option.getD_some
abbrev Uu:= @List.getElem?_cons_zero
abbrev Ut:= @List.getElem?_cons_succ
abbrev Y7:= @Bool.not_false
abbrev RN:= @Nat.le_mul_of_pos_right
abbrev YJ:= @Bool.not_true
abbrev RL:= @List.mem_range
abbrev Uv:= @Nat.add_sub_cancel_left
abbrev Pd:= @Bool.and_eq_true_iff
abbrev S6:= @List.map_map
abbrev S7:= @List.pairwise_cons
abbrev ZH:= @List.map_nil
abbrev Ql:= @List.getElem?_set
abbrev Sc:= @List.mem_map_of_mem
abbrev ZD:= @List.mem_singleton
abbrev UQ:= @Array.getElem?_setIfInBounds_ne
abbrev TB:= @List.range'_succ
abbrev TF:= @List.mem_filterMap
abbrev SD:= @List.range_eq_range'
abbrev T8:= @List.mem_filter
abbrev TA:= @List.filter_cons
abbrev Xd:= @Array.mem_toList_iff
abbrev ZQ:= @List.nil_append
abbrev S2:= @Nat.one_mul
abbrev SG:= @List.drop_drop
abbrev RO:= @Option.map_eq_some_iff
abbrev PP:= @Nat.div_lt_of_lt_mul
abbrev YA:= @List.map_append
abbrev X2:= @Nat.div_le_self
abbrev XK:= @List.getElem?_take_of_lt
abbrev Ya:= @List.length_drop
abbrev Y5:= @List.length_replicate
abbrev Sf:= @UInt8.toNat_toUInt32
abbrev Ws:= @List.drop_eq_getElem_cons
abbrev UZ:= @List.set_cons_succ
abbrev Um:= @List.length_set
abbrev Yn:= @List.append_nil
abbrev VK:= @Nat.testBit_eq_decide_div_mod_eq
abbrev UB:= @List.take_add_one
abbrev S8:= @UInt8.toNat_ofNat'
abbrev Ty:= @Bool.eq_false_iff
abbrev VH:= @Bool.and_false
abbrev Zn:= @List.getD_cons_zero
abbrev ZA:= @List.take_succ_cons
abbrev ZJ:= @List.take_zero
abbrev Zq:= @List.getD_cons_succ
abbrev Q9:= @List.any_eq_true
abbrev Se:= @List.take_append_drop
abbrev Ui:= @List.replicate_zero
abbrev Sd:= @List.set_append_right
abbrev Sb:= @List.drop_of_length_le
abbrev PQ:= @Nat.min_le_left
abbrev SH:= @List.take_take
end Go.AI
namespace Go.AI
open Go
noncomputable section
structure N8(α:Type) where
 a0:α
 a1:α
 a2:α
 a3:α
 a4:α
 a5:α
 a6:α
 a7:α
namespace N8
variable {α:Type}
def u0(f:α->α)(n:N8 α):N8 α:=N8.rec (λa b c d e g h i=>⟨f a,b,c,d,e,g,h,i⟩) n
def u1(f:α->α)(n:N8 α):N8 α:=N8.rec (λa b c d e g h i=>⟨a,f b,c,d,e,g,h,i⟩) n
def u2(f:α->α)(n:N8 α):N8 α:=N8.rec (λa b c d e g h i=>⟨a,b,f c,d,e,g,h,i⟩) n
def u3(f:α->α)(n:N8 α):N8 α:=N8.rec (λa b c d e g h i=>⟨a,b,c,f d,e,g,h,i⟩) n
def u4(f:α->α)(n:N8 α):N8 α:=N8.rec (λa b c d e g h i=>⟨a,b,c,d,f e,g,h,i⟩) n
def u5(f:α->α)(n:N8 α):N8 α:=N8.rec (λa b c d e g h i=>⟨a,b,c,d,e,f g,h,i⟩) n
def u6(f:α->α)(n:N8 α):N8 α:=N8.rec (λa b c d e g h i=>⟨a,b,c,d,e,g,f h,i⟩) n
def u7(f:α->α)(n:N8 α):N8 α:=N8.rec (λa b c d e g h i=>⟨a,b,c,d,e,g,h,f i⟩) n
def all(x:α):N8 α:=⟨x,x,x,x,x,x,x,x⟩
def proj(i:Nat):N8 α->α:=match i with|0=>a0|1=>a1|2=>a2|3=>a3|4=>a4|5=>a5|6=>a6|_=>a7
def upd(i:Nat):(α->α)->N8 α->N8 α:=match i with|0=>u0|1=>u1|2=>u2|3=>u3|4=>u4|5=>u5|6=>u6|_=>u7
end N8
inductive T(α:Type) where
 |leaf
 |node (l:T α) (v:Option α) (r:T α)
def J1(f:Nat):Nat->List Bool:= @Nat.rec (λ_=>Nat->List Bool) (λ_=>[]) (λ_ ih n=> @Bool.rec (λ_=>List Bool) (@Bool.rec (λ_=>List Bool) (false::ih (Nat.sub (Nat.div n 2) 1)) (true::ih (Nat.div n 2)) (Nat.beq (Nat.mod n 2) 1)) [] (Nat.beq n 0)) f
def bits(n:Nat):List Bool:=J1 n n
namespace T
variable {α:Type}
def getB(t:T α):List Bool->Option α:=
 @T.rec α (λ_=>List Bool->Option α) (λ_=>none) (λ_ v _ gl gr bs=> @List.rec Bool (λ_=>Option α) v (λb bs _=> @Bool.rec (λ_=>Option α) (gr bs) (gl bs) b) bs) t
def single(x:α)(bs:List Bool):T α:= @List.rec Bool (λ_=>T α) (node leaf (some x) leaf) (λb _ ih=> @Bool.rec (λ_=>T α) (node leaf none ih) (node ih none leaf) b) bs
def setB(x:α)(t:T α):List Bool->T α:=
 @T.rec α (λ_=>List Bool->T α) (λbs=>single x bs) (λl v r sl sr bs=> @List.rec Bool (λ_=>T α) (node l (some x) r) (λb bs _=> @Bool.rec (λ_=>T α) (node l v (sr bs)) (node (sl bs) v r) b) bs) t
def delB(t:T α):List Bool->T α:=
 @T.rec α (λ_=>List Bool->T α) (λ_=>leaf) (λl v r sl sr bs=> @List.rec Bool (λ_=>T α) (node l none r) (λb bs _=> @Bool.rec (λ_=>T α) (node l v (sr bs)) (node (sl bs) v r) b) bs) t
def get(t:T α)(n:Nat):Option α:=getB t (bits n)
def set(t:T α)(n:Nat)(x:α):T α:=setB x t (bits n)
def del(t:T α)(n:Nat):T α:=delB t (bits n)
def Rz:List α->List α
 |[]=>[]
 |[x]=>[x]
 |x::_::l=>x::Rz l
def Qs:Nat->List α->T α
 |0,_=>leaf
 |_+1,[]=>leaf
 |f+1,x::l=>node (Qs f (Rz l)) (some x) (Qs f (Rz l.tail))
def Zi5(l:List α):Nat:=List.rec 0 (λ_ _ n=>Nat.succ n) l
def ofList(l:List α):T α:=Qs (Zi5 l) l
end T
inductive AV where
 |unk
 |bool (b:Bool)
 |int (k:IntKind) (n:Int)
 |str (s:List UInt8)
 |nilp
 |ptr (b o:Nat)
 |nils
 |slice (b o len:Nat) (cap:Option Nat)
 |slice0
 |nilm
 |map (b:Nat)
 |func (f:Nat) (first caps:List AV)
 |meth (name:String) (recv:AV)
 |yield (b:Nat)
 |nilf
 |iface (t:Nat) (v:AV)
 |nili
 |agg (cs:List AV)
 |tup (vs:List AV)
 deriving Inhabited
def AV.cells(v:AV):List AV:=
 AV.casesOn v [] (λb=>[.bool b]) (λk n=>[.int k n]) (λs=>[.str s]) [.nilp] (λb o=>[.ptr b o]) [.nils] (λb o l c=>[.slice b o l c]) [.slice0] [.nilm] (λb=>[.map b])
  (λf a b=>[.func f a b]) (λn r=>[.meth n r]) (λb=>[.yield b]) [.nilf] (λt v=>[.iface t v]) [.nili] (λcs=>cs) (λ_=>[])
structure Row where
 elem:Nat
 sz:Nat
 size:Nat
 cells:T AV
 dflt:AV
 fz:Nat
 sm:Bool
 own:Bool
 exact:Bool
structure RF where
 key:AV
 val:AV
 born:Nat
inductive Obj where
 |row (r:Row)
 |map (es:List RF) (clock:Nat)
 |siter (s:List UInt8) (pos:Nat)
 |miter (m:Option Nat) (since:Nat) (cur:Option (Nat×Nat))
 |loop
 |cmap (es:List RF)
structure Heap where
 nx:Nat
 t:T Obj
 ro:Nat
def Row.get(r:Row)(i:Nat):AV:=Option.rec r.dflt (λv=>v) (r.cells.get i)
def Row.setCells(r:Row)(t:T AV):Row:=⟨r.elem,r.sz,r.size,t,r.dflt,r.fz,r.sm,r.own,r.exact⟩
def Heap.put(H:Heap)(b:Nat)(o:Obj):Heap:=⟨H.nx,H.t.set b o,H.ro⟩
def Heap.new(H:Heap)(o:Obj):Heap:=⟨Nat.succ H.nx,H.t.set H.nx o,H.ro⟩
inductive OR2 where
 |fail
 |call (f:Nat) (args:List AV) (H:Heap)
 |yield (b:Nat) (args:List AV) (H:Heap)
 |pan (v:AV) (H:Heap)
 |recov
 |defer (f:AV) (args:List AV)
inductive OR where
 |val (v:AV) (H:Heap)
 |oth (o:OR2)
abbrev OR.fail:OR:=.oth .fail
abbrev TM:=N8 (N8 (N8 AV))
abbrev VG:=TM->Heap->OR
abbrev Z2:=TM->AV
abbrev ZK:=TM->AV->TM
def e(f:N8 AV->AV)(g:N8 (N8 AV)->N8 AV)(h:TM->N8 (N8 AV)):Z2:=λtm=>f (g (h tm))
def k(v:AV):Z2:=λ_=>v
def d(f:(AV->AV)->N8 AV->N8 AV)(g:(N8 AV->N8 AV)->N8 (N8 AV)->N8 (N8 AV))(h:(N8 (N8 AV)->N8 (N8 AV))->TM->TM):ZK:=λtm v=>h (g (f (λ_=>v))) tm
def d0:ZK:=λtm _=>tm
def Rj(n:Nat):Z2:=e (N8.proj (n % 8)) (N8.proj (n/8 % 8)) (N8.proj (n/64))
def OE(n:Nat):ZK:=d (N8.upd (n % 8)) (N8.upd (n/8 % 8)) (N8.upd (n/64))
def u8:N8 AV:=N8.all .unk
def u64:N8 (N8 AV):=N8.all u8
def Nr:TM:=N8.all u64
def Rv{α:Type}(a:Nat)(k:Nat->α):α:=Nat.rec (k 0) (λp _=>k (Nat.succ p)) a
def Nj{α:Type}(n:Int)(k:Int->α):α:=Int.rec (λa=>Rv a λa=>k (.ofNat a)) (λa=>Rv a λa=>k (.negSucc a)) n
def sK(a b:Int):Int:=Int.rec (λx=>Int.rec (λy=>.ofNat (Nat.add x y)) (λ_=>a+b) b) (λ_=>a+b) a
def IK(a b:Int):Int:=Int.rec (λx=>Int.rec (λy=>cond (Nat.ble y x) (.ofNat (Nat.sub x y)) (a - b)) (λ_=>a - b) b) (λ_=>a - b) a
def Ai(a b:Int):Int:=Int.rec (λx=>Int.rec (λy=>.ofNat (Nat.mul x y)) (λ_=>a*b) b) (λ_=>a*b) a
def Zff(a b:Int):Int:=Int.rec (λx=>Int.rec (λy=>.ofNat (Nat.div x y)) (λ_=>a.tdiv b) b) (λ_=>a.tdiv b) a
def Zfg(a b:Int):Int:=Int.rec (λx=>Int.rec (λy=>.ofNat (Nat.mod x y)) (λ_=>a.tmod b) b) (λ_=>a.tmod b) a
def vx(a b:Int):Bool:=Int.rec (λx=>Int.rec (λy=>Nat.ble (Nat.succ x) y) (λ_=>false) b) (λx=>Int.rec (λ_=>true) (λy=>Nat.ble (Nat.succ y) x) b) a
def Fc(a b:Int):Bool:=Int.rec (λx=>Int.rec (λy=>Nat.beq x y) (λ_=>false) b) (λx=>Int.rec (λ_=>false) (λy=>Nat.beq x y) b) a
def yz(k:IntKind)(m:Nat)(n:Int):Int:=Int.rec (λa=>cond (Nat.ble m a) (.ofNat (Nat.mod a m)) (.ofNat a)) (λ_=>k.wrap n) n
def tG(k:IntKind)(h:Nat)(n:Int):Int:=Int.rec (λa=>cond (Nat.ble h a) (k.wrap n) (.ofNat a)) (λa=>cond (Nat.ble h a) (k.wrap n) n) n
def Zd8(k:IntKind)(n:Int):Int:=
 IntKind.rec (tG .i8 128 n) (tG .i16 32768 n) (tG .i32 2147483648 n) (tG .i64 9223372036854775808 n) (yz .u8 256 n) (yz .u16 65536 n) (yz .u32 4294967296 n) (yz .u64 18446744073709551616 n) k
def R4(k:IntKind):Nat:=IntKind.rec 256 65536 4294967296 18446744073709551616 256 65536 4294967296 18446744073709551616 k
def T1(m:Nat)(n:Int):Nat:=Int.rec (λa=>Nat.mod a m) (λa=>Nat.sub (Nat.sub m 1) (Nat.mod a m)) n
def Nl(a b:IntKind):Bool:=Nat.beq a.ctorIdx b.ctorIdx
def Pz(v:AV)(k:IntKind->Int->OR):OR:=match v with|.int a b=>k a b|_=>.fail
def R6(v:AV)(k:Nat->OR):OR:=match v with|.int _ (.ofNat b)=>k b|_=>.fail
def FS(v:AV)(k:Bool->OR):OR:=match v with|.bool b=>k b|_=>.fail
def O3(v:AV)(k:List UInt8->OR):OR:=match v with|.str s=>k s|_=>.fail
def QC(v:AV)(k:Nat->Nat->OR):OR:=match v with|.ptr b o=>k b o|_=>.fail
def zJ(v:AV)(k:List AV->OR):OR:=match v with|.agg cs=>k cs|_=>.fail
def oe(v:AV)(k:List AV->OR):OR:=match v with|.tup cs=>k cs|_=>.fail
def Pb(v:AV)(n:OR)(k:Nat->AV->OR):OR:=match v with|.iface t x=>k t x|.nili=>n|_=>.fail
def Sm(v:AV)(n:OR)(k:Nat->Nat->Nat->Option Nat->OR):OR:=match v with|.slice b o l c=>k b o l c|.nils=>n|_=>.fail
def onZ(v:AV)(z n:OR):OR:=match v with|.slice0=>z|_=>n
def Bl(v:AV)(n:OR)(k:Nat->OR):OR:=match v with|.map b=>k b|.nilm=>n|_=>.fail
def Ic(H:Heap)(b:Nat)(k:Obj->OR):OR:=match H.t.get b with|some o=>k o|none=>.fail
def XB(H:Heap)(b:Nat)(k:Row->OR):OR:=match H.t.get b with|some (.row r)=>k r|_=>.fail
def UU{α:Type}(x:Option α)(k:α->OR):OR:=match x with|some a=>k a|none=>.fail
def ZP(b:Bool)(k:OR):OR:=cond b k .fail
def Fg(a b:UInt8):Bool:=Nat.beq a.toNat b.toNat
def Jq:List UInt8->List UInt8->Bool
 |[],[]=>true
 |a::x,b::y=>cond (Fg a b) (Jq x y) false
 |_,_=>false
def YK:List UInt8->List UInt8->Bool
 |_,[]=>false
 |[],_::_=>true
 |a::x,b::y=>cond (Nat.ble (Nat.succ a.toNat) b.toNat) true (cond (Fg a b) (YK x y) false)
def VB(r:Row)(o:Nat):Nat->List AV
 |0=>[]
 |n+1=>r.get o::VB r (Nat.succ o) n
def YQ(c:T AV):Nat->List AV->T AV
 |_,[]=>c
 |o,v::l=>YQ (c.set o v) (Nat.succ o) l
def YL{α:Type}(l:List α):Nat:=List.rec 0 (λ_ _ n=>Nat.succ n) l
def De:List AV->Nat->Option AV
 |[],_=>none
 |v::_,0=>some v
 |_::l,n+1=>De l n
def vN:List UInt8->Nat->Option UInt8
 |[],_=>none
 |v::_,0=>some v
 |_::l,n+1=>vN l n
def Heap.newRow(H:Heap)(elem sz:Nat)(cs:List AV)(exact:Bool):Heap:=
 H.new (.row ⟨elem,sz,YL cs,T.ofList cs,.unk,0,false,true,exact⟩)
def Heap.may(H:Heap)(r:Row)(b:Nat):Bool:=cond r.own (Nat.ble H.ro b) false
section
variable (x y z:Z2)
def Zi:VG:=λtm H=>.val (x tm) H
def Zm5:VG:=λtm H=>O3 (x tm) λs=>.val (.str s) H
def Yg:VG:=λtm H=>FS (x tm) λb=>.val (cond b (y tm) (z tm)) H
def WF(e:Nat)(cs:List AV):VG:=λ_ H=>ZP (Nat.ble 1 (YL cs))<|.val (.ptr H.nx 0) (H.newRow e 1 cs true)
def TV(e n:Nat)(v:AV):VG:=λ_ H=>.val (.ptr H.nx 0) (H.new (.row ⟨e,1,n,.leaf,v,0,false,true,true⟩))
def Mc(e:Nat):VG:=λtm H=>ZP (Nat.ble 1 (YL (x tm).cells))<|.val (.ptr H.nx 0) (H.newRow e 1 (x tm).cells true)
end
structure yF where
 off:Nat
 sz:Nat
 x:Z2
def Nx:Nat->List AV->List AV
 |0,_=>[]
 |_+1,[]=>[]
 |n+1,v::l=>v::Nx n l
def ON:Nat->List AV->List AV
 |0,l=>l
 |_+1,[]=>[]
 |n+1,_::l=>ON n l
def AN(tm:TM)(k:List AV->OR):List yF->List AV->OR:=λps=>
 List.rec (λcells=>k cells) (λp _ ih cells=>
  ZP (Nat.ble 1 p.sz)<|ZP (Nat.beq (YL (p.x tm).cells) p.sz) (ZP (Nat.ble (Nat.add p.off p.sz) (YL cells)) (ih (Nx p.off cells++((p.x tm).cells++ON (Nat.add p.off p.sz) cells))))) ps
def UF(zs:List AV)(ps:List yF):VG:=λtm H=>ZP (Nat.ble 1 (YL zs))<|AN tm (λcs=>.val (.agg cs) H) ps zs
def We(e sz n:Nat)(zs:List AV)(ps:List yF):VG:=λtm H=>ZP (Nat.ble 1 sz)<|ZP (Nat.beq (YL zs) (Nat.mul n sz))<|AN tm (λcs=>.val (.slice H.nx 0 n none) (H.newRow e sz cs true)) ps zs
section
variable (x y z:Z2)
def Zu:VG:=λtm H=>QC (x tm) λb o=>XB H b λr=>ZP (Nat.ble (Nat.succ o) r.size) (.val (r.get o) H)
def Wk(n:Nat):VG:=λtm H=>QC (x tm) λb o=>XB H b λr=>ZP (Nat.ble (Nat.add o n) r.size) (.val (.agg (VB r o n)) H)
def YS:AV:=.tup []
def YC(n:Nat):VG:=λtm H=>QC (x tm) λb o=>XB H b λr=>
 ZP (Nat.ble 1 n)<|ZP (H.may r b) (ZP (Nat.ble (Nat.add o n) r.size) (ZP (Nat.ble r.fz o) (ZP (Nat.beq (YL (y tm).cells) n)
  (.val YS (H.put b (.row (r.setCells (YQ r.cells o (y tm).cells))))))))
def xC(v:AV)(k:OR):OR:=match v with|.ptr .. |.func .. |.iface .. |.yield _=>k|_=>.fail
def TD:VG:=λtm H=>xC (x tm) (.val (x tm) H)
def TU(k:IntKind)(n:Int)(H:Heap):OR:=Nj (Zd8 k n) λn=>.val (.int k n) H
def FH(x y:AV)(k:IntKind->Int->Int->OR):OR:=Pz x λj a=>Pz y λl b=>ZP (Nl j l) (k j a b)
def VZ:VG:=λtm H=>FH (x tm) (y tm) λk a b=>TU k (IK a b) H
def Nm:VG:=λtm H=>FH (x tm) (y tm) λk a b=>TU k (Ai a b) H
def xH:VG:=λtm H=>FH (x tm) (y tm) λk a b=>cond (Fc b 0) .fail (TU k (Zff a b) H)
def vX:VG:=λtm H=>FH (x tm) (y tm) λk a b=>cond (Fc b 0) .fail (Nj (Zfg a b) λn=>.val (.int k n) H)
def WP(f:Nat->Nat->Nat->Nat):VG:=λtm H=>FH (x tm) (y tm) λk a b=>TU k (.ofNat (f (R4 k) (T1 (R4 k) a) (T1 (R4 k) b))) H
def TZ(_ a b:Nat):Nat:=Nat.land a b
def Dc(_ a b:Nat):Nat:=Nat.lor a b
def Nt(_ a b:Nat):Nat:=Nat.xor a b
def I8(m a b:Nat):Nat:=Nat.land a (Nat.sub (Nat.sub m 1) b)
def Al:VG:=λtm H=>Pz (x tm) λk a=>R6 (y tm) λb=>TU k (Ai a (.ofNat (Nat.pow 2 (cond (Nat.ble b 64) b 64)))) H
def Zfj(a:Int)(b:Nat):Int:=Int.rec (λx=>.ofNat (Nat.div x (Nat.pow 2 b))) (λx=>.negSucc (Nat.div x (Nat.pow 2 b))) a
def qN(k:IntKind):Nat:=IntKind.rec 8 16 32 64 8 16 32 64 k
def K5(a b:Nat):Nat:=cond (Nat.ble a b) a b
def Md:VG:=λtm H=>Pz (x tm) λk a=>R6 (y tm) λb=>Nj (Zfj a (K5 b (qN k))) λn=>.val (.int k n) H
def So(b:Bool)(H:Heap):OR:=cond b (.val (.bool true) H) (.val (.bool false) H)
def Yj(f:Int->Int->Bool)(g:List UInt8->List UInt8->Bool):VG:=λtm H=>match x tm with
 |.int j a=>Pz (y tm) λl b=>ZP (Nl j l) (So (f a b) H)
 |.str a=>O3 (y tm) λb=>So (g a b) H
 |_=>.fail
def X1(a b:Int):Bool:=vx a b
def Rm(a b:Int):Bool:=!vx b a
def Tf(a b:Int):Bool:=vx b a
def SA(a b:Int):Bool:=!vx a b
def W0(a b:List UInt8):Bool:=YK b a
def Wx(a b:List UInt8):Bool:=!YK a b
def Uo(a b:List UInt8):Bool:=!YK b a
def Yc:VG:=λtm H=>match x tm with
 |.int j a=>Pz (y tm) λl b=>ZP (Nl j l) (TU j (sK a b) H)
 |.str a=>O3 (y tm) λb=>ZP (Nat.ble (Nat.add (YL a) (YL b)) 4611686018427387904) (.val (.str (a++b)) H)
 |_=>.fail
def Uk(a b:AV):Option Bool:=match a,b with|.int j a,.int k b=>cond (Nl j k) (some (Fc a b)) none|_,_=>none
def Mj(a b:AV):Option Bool:=match a,b with|.str a,.str b=>some (Jq a b)|_,_=>none
def kR(a b:AV):Option Bool:=match a,b with|.bool a,.bool b=>some (cond a b (cond b false true))|_,_=>none
def nA(a b:AV):Option Bool:=match a,b with
 |.nilp,.nilp=>some true
 |.nilp,.ptr .. =>some false
 |.ptr ..,.nilp=>some false
 |.ptr b o,.ptr c p=>cond (Nat.beq b c) (some (Nat.beq o p)) none
 |_,_=>none
def jV(a b:AV):Option Bool:=match a,b with|.nils,.nils=>some true|.nils,.slice .. =>some false|.slice ..,.nils=>some false|.nils,.slice0=>some false|.slice0,.nils=>some false|_,_=>none
def eqM(a b:AV):Option Bool:=match a,b with|.nilm,.nilm=>some true|.nilm,.map _=>some false|.map _,.nilm=>some false|_,_=>none
def eqN(a b:AV):Option Bool:=match a,b with|.nilf,.nilf=>some true|.nilf,.func .. =>some false|.func ..,.nilf=>some false|_,_=>none
def kS(lit:Bool)(g:Nat->AV->AV->Option Bool)(a b:AV):Option Bool:=match a,b with
 |.nili,.nili=>cond lit (some true) none
 |.nili,.iface .. =>some false
 |.iface ..,.nili=>some false
 |.iface t v,.iface u w=>cond (Nat.beq t u) (g t v w) (some false)
 |_,_=>none
def eqC(P:Program)(f:Nat->AV->AV->Option Bool)(t:Nat)(v w:AV):Option Bool:=match P.info? t with|some i=>cond i.comparable (f t v w) none|none=>none
def oT(P:Program)(t:Nat):Option Bool:=match P.underlying t with|some (.struct _)|some (.array _ _)=>some true|some _=>some false|none=>none
def Je(P:Program)(t:Nat)(cs:List AV)(off:Nat)(k:AV->Option Bool):Option Bool:=match P.info? t,oT P t with
 |some i,some ag=>cond ag (k (.agg (Nx i.size (ON off cs)))) (match De cs off with|some v=>k v|none=>none)
 |_,_=>none
def tM(r:Option Bool)(k:Option Bool):Option Bool:=match r with|some b=>cond b k (some false)|none=>none
def QS(P:Program)(f:AV->AV->Option Bool)(e c:Nat)(l m:List AV):List Nat->Option Bool
 |[]=>some true
 |i::is=>Je P e l (i*c) λa=>Je P e m (i*c) λb=>tM (f a b) (QS P f e c l m is)
def NH(P:Program)(g:Nat->AV->AV->Option Bool)(l m:List AV):List Field->Option Bool
 |[]=>some true
 |f::fs=>cond (f.name== "_") (NH P g l m fs) (Je P f.type l f.offset λa=>Je P f.type m f.offset λb=>tM (g f.type a b) (NH P g l m fs))
def wo(a b:AV)(k:List AV->List AV->Option Bool):Option Bool:=match a,b with|.agg l,.agg m=>k l m|_,_=>none
def eqD(P:Program)(lit:Bool)(g:Nat->AV->AV->Option Bool)(t:Nat)(a b:AV)(d:TypeDesc):Option Bool:=match d with
 |.bool=>kR a b
 |.int _=>Uk a b
 |.string=>Mj a b
 |.pointer e=>match P.info? e with|some i=>cond (Nat.beq i.size 0) none (nA a b)|none=>none
 |.slice _=>jV a b
 |.map _ _=>eqM a b
 |.func _ _ _=>eqN a b
 |.interface _=>kS lit (eqC P g) a b
 |.array n e=>wo a b λl m=>match P.info? e with|some i=>QS P (g e) e i.size l m (List.range n)|none=>none
 |.struct fs=>cond (P.stoodInHeld t) none (wo a b λl m=>NH P g l m fs.toList)
 |_=>none
def Ag(P:Program):Nat->Nat->AV->AV->Option Bool
 |0,_,_,_=>none
 |d+1,t,a,b=>match P.underlying t with|some u=>eqD P true (Ag P d) t a b u|none=>none
def Vu(f:AV->AV->Option Bool)(neg:Bool):VG:=λtm H=>UU (f (x tm) (y tm)) λb=>So (cond neg (cond b false true) b) H
def PH:VG:=λtm H=>FS (x tm) λb=>.val (.bool (cond b false true)) H
def xG:VG:=λtm H=>Pz (x tm) λk a=>TU k (IK 0 a) H
def p9:VG:=λtm H=>Pz (x tm) λk a=>TU k (.ofNat (Nat.sub (Nat.sub (R4 k) 1) (T1 (R4 k) a))) H
def SQ(k:IntKind):VG:=λtm H=>Pz (x tm) λ_ a=>TU k a H
def Dd:List UInt8->List AV
 |[]=>[]
 |b::l=>.int .u8 (.ofNat b.toNat)::Dd l
def Ba(e:Nat):VG:=λtm H=>O3 (x tm) λs=>.val (.slice H.nx 0 (YL s) none) (H.new (.row ⟨e,1,YL s,T.ofList (Dd s),.unk,0,true,true,false⟩))
def OI(k:List UInt8->OR):List AV->OR
 |[]=>k []
 |v::l=>match v with|.int .u8 (.ofNat n)=>OI (λs=>k (UInt8.ofNat n::s)) l|_=>.fail
def vZ:VG:=λtm H=>onZ (x tm) (.val (.str []) H)<|Sm (x tm) (.val (.str []) H) λb o n _=>cond (Nat.beq n 0) (.val (.str []) H) (XB H b λr=>ZP (Nat.ble (Nat.add o n) r.size) (OI (λs=>.val (.str s) H) (VB r o n)))
def zF:VG:=λtm H=>match x tm with
 |.nilp=>.val .nilp H
 |.ptr b o=>XB H b λr=>ZP (Nat.ble (Nat.succ o) r.size) (.val (.ptr b o) H)
 |_=>.fail
def zE(u n:Nat):VG:=λtm H=>match x tm with
 |.nilp=>.val .nilp H
 |.ptr b o=>XB H b λr=>ZP r.exact (ZP (Nat.beq r.elem u) (ZP (Nat.beq o 0) (ZP (Nat.ble n r.size) (.val (.ptr b o) H))))
 |_=>.fail
def p5:VG:=λtm H=>Sm (x tm) .fail λb _ _ _=>XB H b λr=>ZP (cond r.sm false (H.may r b))<|ZP (Nat.beq r.fz 0)<|.val (x tm) (H.put b (.row ⟨r.elem,r.sz,r.size,r.cells,r.dflt,r.fz,true,r.own,r.exact⟩))
def p7:VG:=λtm H=>Pz (x tm) λ_ n=>.val (.str (Utf8.encode n).data.toList) H
def MN(t:Nat):VG:=λtm H=>.val (.iface t (x tm)) H
def evs(tm:TM):List Z2->List AV
 |[]=>[]
 |f::l=>f tm::evs tm l
def Ib(f:Nat)(a b:List Z2):VG:=λtm H=>.val (.func f (evs tm a) (evs tm b)) H
def Zjg(n:String)(x:Z2):VG:=λtm H=>.val (.meth n (x tm)) H
def ZfH:VG:=λ_ H=>.val (.map H.nx) (H.new (.map [] 0))
def Ur(eq:AV->AV->Option Bool)(k:AV)(no:OR)(yes:AV->OR):List RF->OR
 |[]=>no
 |e::l=>Option.rec .fail (λt=>cond t (yes e.val) (Ur eq k no yes l)) (eq k e.key)
def xv(eq:AV->AV->Option Bool)(k v:AV)(clock:Nat)(done:List RF->Nat->OR):List RF->OR
 |[]=>done [⟨k,v,clock⟩] (Nat.succ clock)
 |e::l=>Option.rec .fail (λt=>cond t (done (⟨k,v,e.born⟩::l) clock) (xv eq k v clock (λl' c=>done (e::l') c) l)) (eq k e.key)
def tO(o:Obj)(k:List RF->OR):OR:=match o with|.map es _=>k es|.cmap es=>k es|_=>.fail
def qL(o:Obj)(k:List RF->Nat->OR):OR:=match o with|.map es c=>k es c|_=>.fail
def Dw(eq:AV->AV->Option Bool)(m k v:Z2):VG:=λtm H=>Bl (m tm) .fail λb=>Ic H b λo=>qL o λes clock=>
 ZP (Nat.ble H.ro b) (xv eq (k tm) (v tm) clock (λes c=>.val YS (H.put b (.map es c))) es)
def J5(ok:Bool)(H:Heap)(v:AV)(b:Bool):OR:=cond ok (.val (.tup [v,.bool b]) H) (.val v H)
def JH(eq:AV->AV->Option Bool)(zv:AV)(ok:Bool)(m k:Z2):VG:=λtm H=>Bl (m tm) (J5 ok H zv false) λb=>Ic H b λo=>tO o λes=>
 Ur eq (k tm) (J5 ok H zv false) (λv=>J5 ok H v true) es
def pU(H:Heap)(e sz l c:Nat)(zs:List AV):OR:=match zs with
 |[v]=>ZP (Nat.beq sz 1)<|.val (.slice H.nx 0 l none) (H.new (.row ⟨e,1,c,.leaf,v,0,false,true,true⟩))
 |zs=>ZP (Nat.beq (YL zs) sz)<|.val (.slice H.nx 0 l none) (H.newRow e sz ((List.replicate c zs).flatten) true)
def Gi(e sz bytes:Nat)(zs:List AV)(l c:Z2):VG:=λtm H=>R6 (l tm) λl=>R6 (c tm) λc=>ZP (Nat.ble 1 sz)<|ZP (Nat.ble l c) (ZP (Nat.ble c 140737488355328)<|ZP (Nat.ble (Nat.mul c bytes) 140737488355328) (pU H e sz l c zs))
def qO(tm:TM)(x:Option Z2)(d top:Nat)(k:Nat->OR):OR:=Option.rec (k d) (λf=>R6 (f tm) λn=>ZP (Nat.ble n top) (k n)) x
def Io(tm:TM)(lo hi mx:Option Z2)(len cap:Nat)(k:Nat->Nat->Nat->OR):OR:=
 qO tm mx cap cap λm=>qO tm hi len m λh=>qO tm lo 0 h λl=>k l h m
def Jt:Nat->List UInt8->List UInt8
 |0,_=>[]
 |_+1,[]=>[]
 |n+1,v::l=>v::Jt n l
def J3:Nat->List UInt8->List UInt8
 |0,l=>l
 |_+1,[]=>[]
 |n+1,_::l=>J3 n l
def Vm(x:Z2)(lo hi mx:Option Z2):VG:=λtm H=>Option.rec (O3 (x tm) λs=>Io tm lo hi none (YL s) (YL s) λl h _=>.val (.str (J3 l (Jt h s))) H) (λ_=>.fail) mx
def VI(r:Row)(o:Nat)(cap:Option Nat):Nat:=Option.rec (cond (Nat.beq r.sz 1) (Nat.sub r.size o) (Nat.div (Nat.sub r.size o) r.sz)) (λc=>c) cap
def Js(r:Row)(sz:Nat)(cap:Option Nat):Bool:=Option.rec (Nat.beq r.sz sz) (λ_=>true) cap
def TQ(sz:Nat)(x:Z2)(lo hi mx:Option Z2):VG:=λtm H=>
 onZ (x tm) (Io tm lo hi mx 0 0 λ_ _ _=>.val .slice0 H)<|Sm (x tm) (Io tm lo hi mx 0 0 λ_ _ _=>.val .nils H) λb o len cap=>XB H b λr=>ZP (Js r sz cap) (Io tm lo hi mx len (VI r o cap) λl h m=>ZP (Nat.ble l m)<|
  cond (Nat.beq l m) (Option.rec (Option.rec (.val (.slice H.nx 0 (Nat.sub h l) none) ⟨Nat.succ H.nx,H.t,H.ro⟩) (λ_=>.val (.slice b o (Nat.sub h l) (some 0)) H) cap) (λ_=>.val (.slice b o (Nat.sub h l) (some 0)) H) mx)
   (.val (.slice b (Nat.add o (Nat.mul l sz)) (Nat.sub h l) (Option.rec (Option.rec none (λc=>some (Nat.sub c l)) cap) (λ_=>some (Nat.sub m l)) mx)) H))
def Pm(n sz:Nat)(x:Z2)(lo hi mx:Option Z2):VG:=λtm H=>QC (x tm) λb o=>Io tm lo hi mx n n λl h m=>
  cond (Nat.beq l m) (.val (.slice b o (Nat.sub h l) (some (Nat.sub m l))) H) (.val (.slice b (Nat.add o (Nat.mul l sz)) (Nat.sub h l) (some (Nat.sub m l))) H)
def Z7(n:Nat):VG:=λtm H=>QC (x tm) λb o=>.val (.ptr b (Nat.add o n)) H
def Zje(o:Nat):VG:=λtm H=>zJ (x tm) λcs=>UU (De cs o) λv=>.val v H
def Zm4(o n:Nat):VG:=λtm H=>zJ (x tm) λcs=>.val (.agg (Nx n (ON o cs))) H
def WJ(sz:Nat):VG:=λtm H=>R6 (y tm) λi=>Sm (x tm) .fail λb o len _=>ZP (Nat.ble (Nat.succ i) len) (.val (.ptr b (Nat.add o (Nat.mul i sz))) H)
def XI(n sz:Nat):VG:=λtm H=>R6 (y tm) λi=>QC (x tm) λb o=>ZP (Nat.ble (Nat.succ i) n) (.val (.ptr b (Nat.add o (Nat.mul i sz))) H)
def Wp:VG:=λtm H=>R6 (y tm) λi=>O3 (x tm) λs=>UU (vN s i) λb=>Rv b.toNat λn=>.val (.int .u8 (.ofNat n)) H
def Bc(n:Nat):VG:=λtm H=>R6 (y tm) λi=>zJ (x tm) λcs=>ZP (Nat.ble (Nat.succ i) n) (UU (De cs i) λv=>.val v H)
def p4(n sz:Nat):VG:=λtm H=>R6 (y tm) λi=>zJ (x tm) λcs=>ZP (Nat.ble (Nat.succ i) n) (.val (.agg (Nx sz (ON (Nat.mul i sz) cs))) H)
def PR(zv:AV)(ok:Bool)(H:Heap)(v:Option AV):OR:=Option.rec (cond ok (.val (.tup [zv,.bool false]) H) .fail) (λv=>cond ok (.val (.tup [v,.bool true]) H) (.val v H)) v
def Du(t:Nat)(zv:AV)(ok:Bool):VG:=λtm H=>Pb (x tm) (PR zv ok H none) λu v=>PR zv ok H (cond (Nat.beq u t) (some v) none)
def vP(P:Program)(ms:Array (String×TypeId))(zv:AV)(ok:Bool):VG:=λtm H=>Pb (x tm) (PR zv ok H none) λu v=>UU (P.info? u) λi=>PR zv ok H (Option.rec (some (.iface u v)) (λ_=>none) (Instr.missingMethod ms i.methods))
def Wf(i:Nat):VG:=λtm H=>oe (x tm) λvs=>UU (De vs i) λv=>.val v H
def JE(P:Program)(name:String)(u:Nat)(k:Nat->OR):OR:=
 UU (P.info? u) λi=>UU (i.methods.find? (·.name==name)) λm=>ZP m.path.isEmpty (match m.func with
  |some (g,ptr)=>match P.underlying u with
   |some (.pointer _)=>ZP ptr (k g)
   |some _=>cond ptr .fail (k g)
   |none=>.fail
  |none=>.fail)
def ZB(f:Nat)(args:List Z2):VG:=λtm H=>.oth (.call f (evs tm args) H)
def OZ(P:Program)(args:List Z2):VG:=λtm H=>match x tm with
 |.func f a b=>.oth (.call f (a++(evs tm args++b)) H)
 |.meth n r=>Pb r .fail λu v=>JE P n u λg=>.oth (.call g (v::evs tm args) H)
 |.yield b=>.oth (.yield b (evs tm args) H)
 |_=>.fail
def Zbs(P:Program)(n:String)(args:List Z2):VG:=λtm H=>Pb (x tm) .fail λu v=>JE P n u λg=>.oth (.call g (v::evs tm args) H)
def xm(v:AV)(k:Nat->OR):OR:=match v with|.nils=>k 0|.slice0=>k 0|.slice _ _ n _=>k n|.str s=>k (YL s)|_=>.fail
def VV(H:Heap)(sz:Nat)(v:AV)(n:Nat)(k:List AV->OR):OR:=cond (Nat.beq n 0) (k []) (match v with
 |.slice b o _ _=>XB H b λr=>ZP (Nat.ble (Nat.add o (Nat.mul n sz)) r.size) (k (VB r o (Nat.mul n sz)))
 |.str s=>ZP (Nat.beq sz 1) (k (Dd (Jt n s)))
 |_=>.fail)
def Ij(H:Heap)(e b o len n sz:Nat)(r:Row)(new:List AV):OR:=
 ZP (Nat.beq r.elem e)<|ZP (H.may r b)<|ZP (Nat.ble r.fz (Nat.mul len sz))<|ZP (Nat.beq (Nat.mul len sz) r.size)<|ZP (Nat.beq o 0)<|
  .val (.slice H.nx 0 (Nat.add len n) none) ⟨Nat.succ H.nx,(H.t.del b).set H.nx (.row ⟨r.elem,sz,Nat.mul (Nat.add len n) sz,YQ r.cells (Nat.mul len sz) new,r.dflt,r.fz,r.sm,true,false⟩),H.ro⟩
def DX(H:Heap)(v:AV)(b o len n sz:Nat)(cap:Option Nat)(r:Row)(new:List AV):OR:=
 cond (Nat.beq n 0) (.val v H) (ZP (H.may r b) (ZP (Nat.ble (Nat.add o (Nat.mul (Nat.add len n) sz)) r.size) (ZP (Nat.ble r.fz (Nat.add o (Nat.mul len sz)))
  (.val (.slice b o (Nat.add len n) cap) (H.put b (.row (r.setCells (YQ r.cells (Nat.add o (Nat.mul len sz)) new))))))))
def Lz(H:Heap)(e b o len n sz bytes:Nat)(cap:Option Nat)(r:Row)(new:List AV):OR:=
 ZP (Nat.ble (Nat.mul (Nat.add len n) bytes) 140737488355328)<|ZP (Nat.ble (Nat.add o (Nat.mul len sz)) r.size)<|Option.rec
  (cond r.exact (ZP (Nat.beq (Nat.mod o sz) 0) (.val (.slice H.nx 0 (Nat.add len n) none) (H.newRow e sz (VB r o (Nat.mul len sz)++new) false))) (Ij H e b o len n sz r new))
  (λ_=>.val (.slice H.nx 0 (Nat.add len n) none) (H.newRow e sz (VB r o (Nat.mul len sz)++new) false)) cap
def MW(v:AV)(e sz bytes:Nat)(H:Heap)(n:Nat)(new:List AV):OR:=
 onZ v (cond (Nat.beq n 0) (.val .slice0 H) (ZP (Nat.ble (Nat.mul n bytes) 140737488355328) (.val (.slice H.nx 0 n none) (H.newRow e sz new false))))<|
 Sm v (cond (Nat.beq n 0) (.val .nils H) (ZP (Nat.ble (Nat.mul n bytes) 140737488355328) (.val (.slice H.nx 0 n none) (H.newRow e sz new false)))) λb o len cap=>XB H b λr=>
  ZP (Js r sz cap) (cond (Nat.ble (Nat.add len n) (VI r o cap)) (DX H v b o len n sz cap r new) (Lz H e b o len n sz bytes cap r new))
def W7(e sz bytes:Nat):VG:=λtm H=>ZP (Nat.ble 1 sz)<|ZP (Nat.ble 1 bytes)<|xm (y tm) λn=>VV H sz (y tm) n λnew=>MW (x tm) e sz bytes H n new
def Gh(e sz bytes:Nat)(zs:List AV):VG:=λtm H=>ZP (Nat.ble 1 sz)<|ZP (Nat.ble 1 bytes)<|R6 (y tm) λn=>ZP (Nat.ble (Nat.mul n bytes) 140737488355328)<|MW (x tm) e sz bytes H n (List.replicate n zs).flatten
def EU(sz:Nat):VG:=λtm H=>xm (y tm) λsn=>Sm (x tm) (.val (.int .i64 0) H) λb o dn _=>Rv (K5 dn sn) λn=>VV H sz (y tm) n λnew=>
 cond (Nat.beq n 0) (.val (.int .i64 0) H) (XB H b λr=>ZP (H.may r b) (ZP (Nat.ble r.fz o) (ZP (Nat.ble (Nat.add o (Nat.mul n sz)) r.size) (.val (.int .i64 (.ofNat n)) (H.put b (.row (r.setCells (YQ r.cells o new))))))))
def XN:VG:=λtm H=>O3 (x tm) λs=>Rv (YL s) λn=>.val (.int .i64 (.ofNat n)) H
def Xe:VG:=λtm H=>onZ (x tm) (.val (.int .i64 0) H)<|Sm (x tm) (.val (.int .i64 0) H) λ_ _ n _=>Rv n λn=>.val (.int .i64 (.ofNat n)) H
def Zjf:VG:=λtm H=>Bl (x tm) (.val (.int .i64 0) H) λb=>Ic H b λo=>qL o λes _=>.val (.int .i64 (.ofNat (YL es))) H
def ZfG:VG:=λtm H=>Sm (x tm) (.val (.int .i64 0) H) λb o _ cap=>Option.rec (XB H b λr=>ZP r.exact (ZP (Nat.beq (Nat.mod o r.sz) 0) (.val (.int .i64 (.ofNat (VI r o none))) H))) (λc=>.val (.int .i64 (.ofNat c)) H) cap
def min2(mx:Bool)(k:IntKind)(a:Int)(H:Heap):List AV->OR
 |[]=>.val (.int k a) H
 |v::l=>match v with|.int j b=>ZP (Nl j k) (min2 mx k (cond (cond mx (vx a b) (vx b a)) b a) H l)|_=>.fail
def TW(mx:Bool)(args:List Z2):VG:=λtm H=>match evs tm args with
 |.int k a::l=>min2 mx k a H l
 |_=>.fail
def p8(e:Nat):VG:=λtm H=>R6 (y tm) λn=>cond (Nat.beq n 0) (match x tm with|.nilp=>.val (.str []) H|.ptr .. =>.val (.str []) H|_=>.fail)
 (ZP (Nat.ble n 140737488355328)<|QC (x tm) λb o=>XB H b λr=>ZP (Nat.beq r.elem e)<|ZP (cond r.sm false (H.may r b)) (ZP (Nat.ble (Nat.add o n) r.size) (OI (λs=>.val (.str s)
  (H.put b (.row ⟨r.elem,r.sz,r.size,r.cells,r.dflt,cond (Nat.ble r.fz (Nat.add o n)) (Nat.add o n) r.fz,r.sm,r.own,r.exact⟩))) (VB r o n))))
def Dy:VG:=λtm H=>Sm (x tm) (.val .nilp H) λb o _ cap=>Option.rec (XB H b λr=>ZP (Nat.ble (Nat.succ o) r.size) (.val (.ptr b o) H)) (λc=>ZP (Nat.ble 1 c) (.val (.ptr b o) H)) cap
def MO:VG:=λtm H=>Pb (x tm) .fail λ_ _=>.oth (.pan (x tm) H)
def Be:VG:=λ_ _=>.oth .recov
def Bb(args:List Z2):VG:=λtm _=>.oth (.defer (x tm) (evs tm args))
def Zbu:VG:=λtm H=>Bl (x tm) (.val (.ptr H.nx 0) (H.new (.miter none 0 none))) λb=>Ic H b λo=>qL o λ_ c=>.val (.ptr H.nx 0) (H.new (.miter (some b) c none))
def Dx:VG:=λtm H=>O3 (x tm) λs=>.val (.ptr H.nx 0) (H.new (.siter s 0))
def qM(o:Obj)(k:List UInt8->Nat->OR):OR:=match o with|.siter s pos=>k s pos|_=>.fail
def p6:VG:=λtm H=>QC (x tm) λb o=>ZP (Nat.beq o 0)<|ZP (Nat.ble H.ro b)<|Ic H b λo=>qM o λs pos=>
 cond (Nat.ble (Nat.succ pos) (YL s)) (match Utf8.decode ⟨s.toArray⟩ pos with|(c,w)=>.val (.tup [.bool true,.int .i64 (.ofNat pos),.int .i32 c]) (H.put b (.siter s (Nat.add pos w)))) (.val (.tup [.bool false]) H)
def yX(n:Nat)(k:RF->OR):List RF->OR
 |[]=>.fail
 |e::l=>cond (Nat.beq e.born n) (k e) (yX n k l)
def yJ(o:Obj)(k:Nat->Nat->Nat->OR):OR:=match o with|.miter (some m) _ (some (n,st))=>k m n st|_=>.fail
def Zbt:VG:=λtm H=>QC (x tm) λb o=>ZP (Nat.beq o 0)<|Ic H b λob=>yJ ob λm n st=>Ic H m λom=>qL om λes c=>ZP (Nat.beq c st) (yX n (λe=>.val (.tup [e.key,e.val]) H) es)
def Ub:VG:=λ_ _=>.fail
end
inductive Out where
 |normal|exit (id:Nat)|ret|pan (v:AV)
inductive CR where
 |fail
 |ret (v:AV) (H:Heap)
 |pan (v:AV) (H:Heap)
structure X where
 df:List (AV×List AV)
 rc:Option AV
inductive WC where
 |fail
 |ok (o:Out) (tm:TM) (H:Heap) (x:X)
structure Ctx where
 call:Nat->List AV->Heap->CR
 yld:Nat->List AV->Heap->CR
 rng:AV->(List AV->Heap->CR)->TM->Heap->X->WC
 fuel:Nat
 rnd:Bool
abbrev D:=Ctx->TM->Heap->X->WC
def U2:Nat->List AV->Heap->CR:=λ_ _ _=>.fail
def Tq:AV->(List AV->Heap->CR)->TM->Heap->X->WC:=λ_ _ _ _ _=>.fail
def Bk(next:TM->Heap->X->WC)(dst:ZK)(tm:TM)(x:X)(r:CR):WC:=match r with
 |.ret v H=>next (dst tm v) H x
 |.pan v H=>.ok (.pan v) tm H x
 |.fail=>.fail
def lM(next:TM->Heap->X->WC)(dst:ZK)(c:Ctx)(tm:TM)(H:Heap)(x:X)(o:OR2):WC:=match o with
 |.call f args H=>Bk next dst tm x (c.call f args H)
 |.yield b args H=>Bk next dst tm x (c.yld b args H)
 |.pan v H=>.ok (.pan v) tm H x
 |.recov=>cond c.rnd .fail (match x.rc with
  |some v=>next (dst tm v) H ⟨x.df,none⟩
  |none=>next (dst tm .nili) H x)
 |.defer f args=>match f with
  |.func _ _ _=>cond c.rnd .fail (next (dst tm YS) H ⟨(f,args)::x.df,x.rc⟩)
  |_=>.fail
 |.fail=>.fail
def OO(next:TM->Heap->X->WC)(dst:ZK)(c:Ctx)(tm:TM)(H:Heap)(x:X)(r:OR):WC:=
 @OR.rec (λ_=>WC) (λv H=>next (dst tm v) H x) (λo=>lM next dst c tm H x o) r
def xf(v:AV)(k:Bool->WC):WC:=match v with|.bool c=>k c|_=>.fail
def Za(f:VG)(dst:ZK)(next:D):D:=λc tm H x=>OO (next c) dst c tm H x (f tm H)
def Tp(v:AV)(b:Bool)(yes no:WC):WC:=match v with
 |.bool c=> @Bool.rec (λ_=>WC) (@Bool.rec (λ_=>WC) yes no b) (@Bool.rec (λ_=>WC) no yes b) c
 |.tup _=>no
 |_=>.fail
def Zx(g:Z2)(b:Bool)(f:VG)(dst:ZK)(next:D):D:=λc tm H x=>
 Tp (g tm) b (OO (next c) dst c tm H x (f tm H)) (next c (dst tm YS) H x)
def Zc:D:=λ_ tm H x=>.ok .normal tm H x
def Q7(r:WC)(k:TM->Heap->X->WC):WC:=
 @WC.rec (λ_=>WC) .fail (λo tm H x=> @Out.rec (λ_=>WC) (k tm H x) (λi=>.ok (.exit i) tm H x) (.ok .ret tm H x) (λv=>.ok (.pan v) tm H x) o) r
def Zg(a b:D):D:=λc tm H x=>Q7 (a c tm H x) (b c)
def Hq(a b:TM->Heap->X->WC)(v:Bool)(tm:TM)(H:Heap)(x:X):WC:= @Bool.rec (λ_=>WC) (b tm H x) (a tm H x) v
def ZL(q:Z2)(a b:D):D:=λc tm H x=>xf (q tm) λv=>Hq (a c) (b c) v tm H x
def PZ(id:Nat)(r:WC):WC:=
 @WC.rec (λ_=>WC) .fail (λo tm H x=> @Out.rec (λ_=>WC) (.ok .normal tm H x) (λi=> @Bool.rec (λ_=>WC) (.ok (.exit i) tm H x) (.ok .normal tm H x) (Nat.beq i id)) (.ok .ret tm H x) (λv=>.ok (.pan v) tm H x) o) r
def ZY(id:Nat)(a:D):D:=λc tm H x=>PZ id (a c tm H x)
def XD(a:TM->Heap->X->WC)(n:Nat):TM->Heap->X->WC:=
 @Nat.rec (λ_=>TM->Heap->X->WC) (λ_ _ _=>.fail) (λ_ ih tm H x=>Q7 (a tm H x) ih) n
def XS(a:D):D:=λc tm H x=>XD (a c) c.fuel tm H x
def DA(r:WC)(k:Bool):Bool:=match r with
 |.ok .normal _ _ y=>cond (match y.df,y.rc with|[],none=>true|_,_=>false) k false
 |_=>false
def Bu(body:TM->Heap->X->WC)(b m since:Nat)(dst:ZK)(tm:TM)(H:Heap)(es:List RF):Bool:=
 List.rec true (λe _ ih=>DA (body (dst tm (.tup [.bool true,e.key,e.val])) ⟨H.nx,H.t.set b (.miter (some m) since (some (e.born,since))),H.nx⟩ ⟨[],none⟩) ih) es
def Zjk(v:AV)(k:Nat->Nat->WC):WC:=match v with|.ptr b o=>k b o|_=>.fail
def Zm6(o:Option Obj)(no:WC)(k:Nat->Nat->WC):WC:=match o with|some (.miter none _ none)=>no|some (.miter (some m) s none)=>k m s|_=>.fail
def Zjj(o:Option Obj)(since:Nat)(k:List RF->WC):WC:=match o with|some (.map es c)=>cond (Nat.beq c since) (k es) .fail|_=>.fail
def PU(tm:TM):List ZK->TM
 |[]=>tm
 |d::l=>PU (d tm .unk) l
def K7(r:WC):WC:=match r with|.ok .normal _ _ _=>.fail|r=>r
def rP(x:X)(k:WC):WC:=match x.df,x.rc with|[],none=>k|_,_=>.fail
def rt(r a:TM->Heap->X->WC)(q:Z2)(dst:ZK)(tm:TM)(H:Heap)(x:X):WC:=
 Zjk (q tm) λb o=>cond (Nat.beq o 0) (cond (Nat.ble H.ro b) (Zm6 (H.t.get b) (K7 (a (dst tm (.tup [.bool false])) H x)) λm s=>Zjj (H.t.get m) s λes=>
  rP x (cond (Bu r b m s dst tm H es) (K7 (a (dst tm (.tup [.bool false])) ⟨H.nx,H.t.del b,H.ro⟩ x)) .fail)) .fail) .fail
def rq(q:Z2)(dst:ZK)(dead:List ZK)(a:D):D:=λc tm H x=>rt (a ⟨c.call,U2,Tq,c.fuel,true⟩) (a c) q dst (PU tm dead) H x
def XG(id:Nat):D:=λ_ tm H x=>.ok (.exit id) tm H x
def Z8:D:=λ_ tm H x=>.ok .ret tm H x
def PS:D:=λ_ _ _ _=>.fail
def Np(tm:TM):List ZK->List AV->TM
 |d::ds,v::vs=>Np (d tm v) ds vs
 |_,_=>tm
def IW(r:WC):CR:=match r with
 |.ok .normal _ H _=>.ret (.bool true) H
 |_=>.fail
def eZ(q:Z2)(ps:List ZK)(a:D):D:=λc tm H x=>
 c.rng (q tm) (λys H=>cond (Nat.beq (YL ys) (YL ps)) (IW (a ⟨c.call,U2,Tq,c.fuel,true⟩ (Np tm ps ys) H ⟨[],none⟩)) .fail) tm H x
inductive I5 where|free|read|eff
structure PI where
 f:VG
 g:Option (Z2×Bool)
 os:List (ZK×Z2)
 dst:ZK
 kind:I5
 i:Nat
 bef:Nat
mutual
def Wl(n:Nat):AV->Bool
 |.ptr b _=>Nat.ble (Nat.succ b) n
 |.slice b _ _ _=>Nat.ble (Nat.succ b) n
 |.map b=>Nat.ble (Nat.succ b) n
 |.func _ x y=>cond (RJ n x) (RJ n y) false
 |.meth _ v=>Wl n v
 |.yield b=>Nat.ble (Nat.succ b) n
 |.iface _ v=>Wl n v
 |.agg l=>RJ n l
 |.tup l=>RJ n l
 |_=>true
def RJ(n:Nat):List AV->Bool
 |[]=>true
 |v::l=>cond (Wl n v) (RJ n l) false
end
def Po(tm:TM)(os:List (ZK×Z2)):TM:=List.rec Nr (λp _ ih=>p.1 ih (p.2 tm)) os
def QB(n:Nat)(tm:TM)(os:List (ZK×Z2)):Bool:=List.rec true (λp _ ih=>cond (Wl n (p.2 tm)) ih false) os
mutual
def same:AV->AV->Bool
 |.bool a,.bool b=>cond a b (cond b false true)
 |.int k a,.int j b=>cond (Nl k j) (Fc a b) false
 |.str a,.str b=>Jq a b
 |.nilp,.nilp=>true
 |.ptr a b,.ptr c d=>cond (Nat.beq a c) (Nat.beq b d) false
 |.nils,.nils=>true
 |.slice0,.slice0=>true
 |.slice a b c d,.slice e f g h=>cond (Nat.beq a e) (cond (Nat.beq b f) (cond (Nat.beq c g) (match d,h with|none,none=>true|some x,some y=>Nat.beq x y|_,_=>false) false) false) false
 |.nilm,.nilm=>true
 |.map a,.map b=>Nat.beq a b
 |.func f a b,.func g c d=>cond (Nat.beq f g) (cond (sameL a c) (sameL b d) false) false
 |.nilf,.nilf=>true
 |.iface t v,.iface u w=>cond (Nat.beq t u) (same v w) false
 |.nili,.nili=>true
 |.agg a,.agg b=>sameL a b
 |.tup a,.tup b=>sameL a b
 |_,_=>false
def sameL:List AV->List AV->Bool
 |[],[]=>true
 |a::as,b::bs=>cond (same a b) (sameL as bs) false
 |_,_=>false
end
structure RD where
 p:PI
 v:AV
def ug(u:RD)(tm:TM)(H:Heap):Bool:=OR.rec (λv H1=>cond (Nat.beq H1.nx H.nx) (same v u.v) false) (λ_=>false) (u.p.f (Po tm u.p.os) ⟨H.nx,H.t,H.nx⟩)
def still(tm:TM)(H:Heap)(rs:List RD):Bool:=List.rec true (λr _ ih=>cond (ug r tm H) ih false) rs
def Tg(bef:Nat)(rs:List RD):List RD:=List.rec [] (λr _ ih=>cond (Nat.testBit bef r.p.i) ih (r::ih)) rs
def MJ(g:Option (Z2×Bool))(tm:TM)(yes no:WC):WC:=match g with
 |none=>yes
 |some (e,b)=>Tp (e tm) b yes no
def wrO(o:Obj):Bool:=match o with|.row r=>r.own|.loop=>false|_=>true
def eC(o:Option Obj)(k:Obj->WC):WC:=match o with|some x=>cond (wrO x) (k x) .fail|none=>.fail
abbrev PK:=List RD->TM->Heap->X->WC
def KQ(p:PI)(nx:PK)(rs:List RD)(tm:TM)(H:Heap)(x:X)(r:OR):WC:=
 OR.rec (λv H1=>cond (Nat.beq H1.nx H.nx) (nx rs (p.dst tm v) H x) (cond (Nat.beq H1.nx (Nat.succ H.nx)) (eC (H1.t.get H.nx) λo=>nx rs (p.dst tm v) (H.new o) x) .fail)) (λ_=>.fail) r
def j9(p:PI)(nx:PK)(rs:List RD)(tm:TM)(H:Heap)(x:X):WC:=
 cond (QB H.nx tm p.os) (KQ p nx rs tm H x (p.f (Po tm p.os) ⟨H.nx,.leaf,H.nx⟩)) .fail
def Ie(p:PI)(nx:PK)(rs:List RD)(tm:TM)(H:Heap)(x:X)(r:OR):WC:=
 OR.rec (λv H1=>cond (Nat.beq H1.nx H.nx) (nx (⟨p,v⟩::rs) (p.dst tm v) H x) .fail) (λ_=>.fail) r
def Zf0(ds:List ZK)(v:AV)(tm:TM)(H:Heap)(x:X):WC:=.ok (.pan v) (PU tm ds) H x
def Bt(ds:List ZK)(p:PI)(nx:PK)(rs:List RD)(tm:TM)(x:X)(r:CR):WC:=match r with
 |.ret v H=>nx (Tg p.bef rs) (p.dst tm v) H x
 |.pan v H=>Zf0 ds v tm H x
 |.fail=>.fail
def Zjm(ds:List ZK)(p:PI)(nx:PK)(rs:List RD)(c:Ctx)(tm:TM)(x:X)(o:OR2):WC:=match o with
 |.call f args H=>Bt ds p nx rs tm x (c.call f args H)
 |.yield b args H=>Bt ds p nx rs tm x (c.yld b args H)
 |.pan v H=>Zf0 ds v tm H x
 |_=>.fail
def Hw(ds:List ZK)(p:PI)(nx:PK)(rs:List RD)(c:Ctx)(tm:TM)(x:X)(r:OR):WC:=
 OR.rec (λv H=>nx (Tg p.bef rs) (p.dst tm v) H x) (λo=>Zjm ds p nx rs c tm x o) r
def Rp(ds:List ZK)(p:PI)(nx:PK)(c:Ctx)(rs:List RD)(tm:TM)(H:Heap)(x:X):WC:=
 I5.rec (MJ p.g tm (j9 p nx rs tm H x) (nx rs (p.dst tm YS) H x))
  (MJ p.g tm (Ie p nx rs tm H x (p.f (Po tm p.os) ⟨H.nx,H.t,H.nx⟩)) (nx rs (p.dst tm YS) H x))
  (cond (still tm H rs) (MJ p.g tm (Hw ds p nx rs c tm x (p.f (Po tm p.os) H)) (nx (Tg p.bef rs) (p.dst tm YS) H x)) .fail) p.kind
def Ux(ds:List ZK)(fin:PK)(l:List PI):Ctx->PK:=
 List.rec (λ_ rs tm H x=>cond (still tm H rs) (fin rs tm H x) .fail) (λp _ ih c=>Rp ds p (ih c) c) l
def K8(_:List RD)(tm:TM)(H:Heap)(x:X):WC:=.ok .normal tm H x
def ZfD(l:List RD)(k:WC):WC:=List.rec k (λ_ _ _=>.fail) l
def WE(l:List PI):D:=λc tm H x=>Ux (l.map (·.dst)) K8 l c [] tm H x
def onV(r:OR)(k:Heap->WC):WC:=OR.rec (λ_ H=>k H) (λ_=>.fail) r
def apart(a b:AV)(k:WC):WC:=match a,b with|.ptr x _,.ptr y _=>cond (Nat.beq x y) .fail k|_,_=>.fail
def EX(p q:PI)(a b:Z2)(rs:List RD)(tm:TM)(H:Heap)(x:X):WC:=
 ZfD (Tg p.bef rs) (ZfD (Tg q.bef rs) (apart (a (Po tm p.os)) (b (Po tm q.os)) (onV (p.f (Po tm p.os) H) λH1=>onV (q.f (Po tm q.os) H1) λH2=>.ok .normal tm H2 x)))
def jO(l:List PI)(p q:PI)(a b:Z2):D:=λc tm H x=>Ux (l.map (·.dst)) (EX p q a b) l c [] tm H x
section
variable (P:Program)
def xI(f:Value->AV):List Value->List AV
 |[]=>[]
 |v::vs=>f v::xI f vs
def IR:Nat->Value->AV
 |0,_=>.unk
 |d+1,v=>match v with
  |.bool b=>.bool b
  |.int k n=>.int k n
  |.string s=>.str s.data.toList
  |.pointer none=>.nilp
  |.slice none 0 0=>.nils
  |.map none=>.nilm
  |.nilFunc=>.nilf
  |.func (.func f) ⟨[]⟩ ⟨[]⟩=>.func f [] []
  |.nilIface=>.nili
  |.iface t v=>.iface t (IR d v)
  |.agg ⟨cs⟩=>.agg (xI (IR d) cs)
  |.tuple ⟨cs⟩=>.tup (xI (IR d) cs)
  |_=>.unk
def Zjh(v:Value):AV:=IR 20 v
def Zm8(v:Value):Bool:=match v with|.agg _=>false|.tuple _=>false|_=>true
def LX:Nat->Value->Bool
 |0,_=>true
 |d+1,v=>match v with
  |.agg ⟨cs⟩=>cs.all λc=>Zm8 c&&LX d c
  |.tuple ⟨cs⟩=>cs.all (LX d)
  |.iface _ v=>LX d v
  |_=>true
def W9(v:Value):AV:=cond (LX 20 v) (Zjh v) .unk
def YM(o:Operand):Z2:=match o with
 |.tmp t=>cond (Nat.ble t 511) (Rj t) (k .unk)
 |.const v=>k (W9 v)
 |.global g=>cond (Nat.ble (Nat.succ g) P.globals.size) (k (.ptr g 0)) (k .unk)
 |.func f=>k (.func f [] [])
def ML(t:Nat):Bool:=match P.underlying t with|some (.struct _)|some (.array _ _)=>true|_=>false
def Ts(t:Nat)(f:TypeInfo->VG):VG:=match P.info? t with|some i=>f i|none=>Ub
def Zbi(t:Nat):Array (String×TypeId):=match P.underlying t with|some (.interface ms)=>ms|_=> #[]
def args(l:Array Operand):List Z2:=l.toList.map (YM P)
def opt(x:Option Operand):Option Z2:=x.map (YM P)
def Zlm(op:BinOp)(x y:Z2):VG:=match op with
 |.add=>Yc x y|.sub=>VZ x y|.mul=>Nm x y|.quo=>xH x y|.rem=>vX x y
 |.and=>WP x y TZ|.or=>WP x y Dc|.xor=>WP x y Nt|.andNot=>WP x y I8
 |.shl=>Al x y|.shr=>Md x y
 |.eql=>Ub|.neq=>Ub
 |.lss=>Yj x y X1 YK
 |.gtr=>Yj x y Tf W0
 |.leq=>Yj x y Rm Uo
 |.geq=>Yj x y SA Wx
def Kn(o:Operand):Bool:=match o with|.const _=>true|_=>false
def eqK(t:Nat)(lit neg:Bool)(x y:Z2)(d:TypeDesc):VG:=match d with
 |.bool=>Vu x y kR neg
 |.int _=>Vu x y Uk neg
 |.string=>Vu x y Mj neg
 |.pointer e=>match P.info? e with|some i=>cond (Nat.beq i.size 0) Ub (Vu x y nA neg)|none=>Ub
 |.slice _=>Vu x y jV neg
 |.map _ _=>Vu x y eqM neg
 |.func _ _ _=>Vu x y eqN neg
 |.interface _=>Vu x y (kS lit (eqC P (Ag P 9))) neg
 |.array _ _=>cond (P.eqGuardType P.depth t) Ub (Vu x y (Ag P 10 t) neg)
 |.struct _=>cond (P.eqGuardType P.depth t) Ub (Vu x y (Ag P 10 t) neg)
 |_=>Ub
def Uc(t:Nat)(f:TypeDesc->VG):VG:=match P.underlying t with|some d=>f d|none=>Ub
def x4(f:Array Field->VG)(d:TypeDesc):VG:=match d with|.struct fs=>f fs|_=>Ub
def BZ(f:Nat->VG)(d:TypeDesc):VG:=match d with|.slice e=>f e|_=>Ub
def Zj2(f:Nat->VG)(d:TypeDesc):VG:=match d with|.pointer e=>f e|_=>Ub
def fj(f:(AV->AV->Option Bool)->VG)(d:TypeDesc):VG:=match d with|.string=>f Mj|.int _=>f Uk|.bool=>f kR|_=>Ub
def oL(f g:VG)(d:TypeDesc):VG:=match d with|.int _=>f|_=>g
def tU8(f:VG)(d:TypeDesc):VG:=match d with|.int .u8=>f|_=>Ub
def P1{α:Type}(x:Option α)(f:α->VG):VG:=match x with|some a=>f a|none=>Ub
def ju(b:Builtin)(xs:List Operand)(ts:List TypeId):VG:=match b with
 |.append=>match xs,ts with
  |[s,x],[t,u]=>Uc P t<|BZ λe=>Ts P e λi=>P1 i.zero λz=>cond (Nat.beq (YL (W9 z).cells) i.size) (Uc P u<|oL (Gh (YM P s) (YM P x) e i.size i.bytes (W9 z).cells) (W7 (YM P s) (YM P x) e i.size i.bytes)) Ub
  |_,_=>Ub
 |.copy=>match xs,ts with
  |[d,s],[t,_]=>Uc P t<|BZ λe=>Ts P e λi=>EU (YM P d) (YM P s) i.size
  |_,_=>Ub
 |.len=>match xs,ts with
  |[x],[t]=>Uc P t λd=>match d with|.string=>XN (YM P x)|.slice _=>Xe (YM P x)|.map _ _=>Zjf (YM P x)|_=>Ub
  |_,_=>Ub
 |.cap=>match xs,ts with
  |[x],[t]=>Uc P t λd=>match d with|.slice _=>ZfG (YM P x)|_=>Ub
  |_,_=>Ub
 |.min=>TW false (xs.map (YM P))
 |.max=>TW true (xs.map (YM P))
 |.unsafeString=>match xs,ts with
  |[p,n],[t,_]=>Uc P t<|Zj2 λe=>Ts P e λi=>cond (Nat.beq i.size 1) (p8 (YM P p) (YM P n) e) Ub
  |_,_=>Ub
 |.unsafeSliceData=>match xs with|[x]=>Dy (YM P x)|_=>Ub
 |.panic=>match xs with|[x]=>MO (YM P x)|_=>Ub
 |.recover=>Be
 |_=>Ub
def jv(c:Call):VG:=match c.callee with
 |.value (.func f)=>ZB f (args P c.args)
 |.value f=>OZ (YM P f) P (args P c.args)
 |.invoke r m=>Zbs (YM P r) P m (args P c.args)
 |.builtin b=>ju P b c.args.toList c.argTypes.toList
def Zcm(s d:Nat)(x:Z2)(ds dd:TypeDesc):VG:=match ds,dd with
 |.int _,.int k=>SQ x k
 |.string,.string=>Zm5 x
 |.int _,.string=>p7 x
 |.string,.slice e=>Uc P e<|tU8 (Ba x e)
 |.slice e,.string=>Uc P e<|tU8 (vZ x)
 |.pointer u,.unsafePointer=>Ts P u λi=>cond (Nat.ble 1 i.size) (zF x) Ub
 |.unsafePointer,.pointer u=>Ts P u λi=>cond (Nat.ble 1 i.size) (zE x u i.size) Ub
 |.slice _,.slice e=>cond (Nat.beq s d) (Uc P e<|tU8 (p5 x)) Ub
 |_,_=>Ub
def ZhJ(s d:Nat)(x:Z2):VG:=Uc P s λds=>Uc P d λdd=>Zcm P s d x ds dd
def Zdm(n:String)(a b:List Operand):VG:=match a,b with|[x],[]=>Zjg n (YM P x)|_,_=>Ub
def Og(place:Nat->Option (Nat×Nat))(p:Nat×Operand):yF:=match place p.1 with
 |some (o,s)=>⟨o,s,YM P p.2⟩
 |none=>⟨0,0,YM P p.2⟩
def ak(kd:IntKind)(m:Int):List Value->Bool
 |[]=>true
 |v::l=>match v with|.int j n=>cond (Nl kd j) (cond (Fc m n) (ak kd m l) false) false|_=>false
def jf(t:Nat)(l:List Value)(cs:List AV):VG:=match l with
 |.int kd m::l'=>cond (Nat.ble 8 (YL l')) (cond (ak kd m l') (TV t (Nat.succ (YL l')) (.int kd m)) (WF t cs)) (WF t cs)
 |_=>WF t cs
def ZfI(hi mx:Option Operand):Bool:=match mx,hi with|some _,none=>false|_,_=>true
def VP(o:Op):VG:=match o with
 |.move x=>Zi (YM P x)
 |.assign x=>Zi (YM P x)
 |.pick c a b=>Yg (YM P c) (YM P a) (YM P b)
 |.alloc t=>Ts P t λi=>P1 i.zero λz=>jf t z.cells.toList (W9 z).cells
 |.box t x=>Mc (YM P x) t
 |.build t ps=>Ts P t λi=>P1 i.zero λz=>Uc P t λd=>match d with
  |.struct fs=>P1 (fs.toList.mapM λf=>(P.info? f.type).map λi=>(f.offset,i.size)) λplaces=>UF (W9 z).cells (ps.toList.map (Og P (places.toArray[·]?)))
  |.array _ e=>Ts P e λj=>UF (W9 z).cells (ps.toList.map (Og P λi=>some (i*j.size,j.size)))
  |_=>Ub
 |.buildSlice t n ps=>Uc P t<|BZ λe=>Ts P e λj=>P1 j.zero λz=>
   cond (Nat.ble (Nat.mul n j.size) 16777216) (We e j.size n ((List.replicate n (W9 z).cells).flatten) (ps.toList.map (Og P λi=>some (i*j.size,j.size)))) Ub
 |.load t a=>Ts P t λi=>Uc P t λ_=>cond (ML P t) (Wk (YM P a) i.size) (Zu (YM P a))
 |.store t a x=>Ts P t λi=>YC (YM P a) (YM P x) i.size
 |.nilCheck x=>TD (YM P x)
 |.binOp op t x y _=>match op with
  |.eql=>Uc P t (eqK P t (Kn x||Kn y) false (YM P x) (YM P y))
  |.neq=>Uc P t (eqK P t (Kn x||Kn y) true (YM P x) (YM P y))
  |op=>Zlm op (YM P x) (YM P y)
 |.unOp op _ x=>match op with|.neg=>xG (YM P x)|.not=>PH (YM P x)|.xor=>p9 (YM P x)|_=>Ub
 |.convert s d x=>ZhJ P s d (YM P x)
 |.makeInterface t x=>Uc P t λd=>match d with|.interface _=>Ub|_=>MN (YM P x) t
 |.makeFunc fn a b=>match fn with
  |.func f=>Ib f (args P a) (args P b)
  |.method n=>Zdm P n a.toList b.toList
  |_=>Ub
 |.makeMap _ r=>match r with|none=>ZfH|some _=>Ub
 |.mapUpdate t m k v=>Uc P t λd=>match d with|.map kt _=>Uc P kt<|fj λeq=>Dw eq (YM P m) (YM P k) (YM P v)|_=>Ub
 |.insert t m k v=>Uc P t λd=>match d with|.map kt _=>Uc P kt<|fj λeq=>Dw eq (YM P m) (YM P k) (YM P v)|_=>Ub
 |.lookup t m k ok=>Uc P t λd=>match d with
  |.map kt e=>Uc P kt<|fj λeq=>Ts P e λi=>P1 i.zero λz=>JH eq (W9 z) ok (YM P m) (YM P k)
  |_=>Ub
 |.makeSlice t l c=>Uc P t<|BZ λe=>Ts P e λi=>P1 i.zero λz=>Gi e i.size i.bytes (W9 z).cells (YM P l) (YM P c)
 |.slice t x lo hi mx=>cond (ZfI hi mx) (Uc P t λd=>match d with
  |.string=>Vm (YM P x) (opt P lo) (opt P hi) (opt P mx)
  |.slice e=>Ts P e λi=>TQ i.size (YM P x) (opt P lo) (opt P hi) (opt P mx)
  |.array n e=>Ts P e λi=>Pm n i.size (YM P x) (opt P lo) (opt P hi) (opt P mx)
  |_=>Ub) Ub
 |.fieldAddr t x f=>Uc P t<|x4 λfs=>P1 fs[f]? λg=>Ts P g.type λi=>cond (Nat.ble 1 i.size) (Z7 (YM P x) g.offset) Ub
 |.field t x f=>Uc P t<|x4 λfs=>P1 fs[f]? λg=>Ts P g.type λi=>Uc P g.type λ_=>cond (ML P g.type) (Zm4 (YM P x) g.offset i.size) (Zje (YM P x) g.offset)
 |.indexAddr t x i=>Uc P t λd=>match d with
  |.slice e=>Ts P e λj=>WJ (YM P x) (YM P i) j.size
  |.array n e=>Ts P e λj=>XI (YM P x) (YM P i) n j.size
  |_=>Ub
 |.index t x i=>Uc P t λd=>match d with
  |.string=>Wp (YM P x) (YM P i)
  |.array n e=>Ts P e λj=>Uc P e λ_=>cond (ML P e) (p4 (YM P x) (YM P i) n j.size) (cond (Nat.beq j.size 1) (Bc (YM P x) (YM P i) n) Ub)
  |_=>Ub
 |.typeAssert x _ t ok=>Ts P t λi=>P1 i.zero λz=>Uc P t λd=>match d with
  |.interface _=>vP (YM P x) P (Zbi P t) (W9 z) ok
  |_=>Du (YM P x) t (W9 z) ok
 |.extract x i=>Wf (YM P x) i
 |.call c=>jv P c
 |.defer c=>match c.callee with
  |.value f=>Bb (YM P f) (args P c.args)
  |_=>Ub
 |.panic x=>MO (YM P x)
 |.range t x=>Uc P t λd=>match d with|.string=>Dx (YM P x)|.map _ _=>Zbu (YM P x)|_=>Ub
 |.next x b=>cond b (p6 (YM P x)) Ub
 |.entry x=>Zbt (YM P x)
 |_=>Ub
def Ow(o:Op):I5:=match o with
 |.load .. |.lookup .. =>.read
 |.slice t _ _ _ _=>match P.underlying t with|some (.slice _)=>.read|_=>.free
 |.convert s d _=>match P.underlying s,P.underlying d with|some (.slice _),some (.slice _)=>.eff|some (.slice _),_=>.read|_,_=>.free
 |.call c=>match c.callee,c.argTypes.toList with
  |.builtin b,ts=>match b with
   |.len=>(match ts with|[t]=>(match P.underlying t with|some (.map _ _)=>.read|_=>.free)|_=>.free)
   |.cap|.unsafeSliceData=>.read|.min|.max=>.free|_=>.eff
  |_,_=>.eff
 |.assign _|.store .. |.mapUpdate .. |.insert .. |.mapEntry .. |.entryStore .. |.panic _|.defer _|.next .. |.range .. |.entry _=>.eff
 |_=>.free
def Su(ops:Array Oper)(o:Oper):Option (Z2×Bool):=match o.guard with
 |none=>none
 |some (j,b)=>match(ops[j]?).bind (·.dst) with|some d=>some (YM P (.tmp d),b)|none=>some (k .unk,b)
def Wc(x:Option Nat):ZK:=match x with|some d=>cond (Nat.ble d 511) (OE d) d0|none=>d0
def ub(ops:Array Oper):List Oper->D
 |[]=>Zc
 |o::l=>match Su P ops o with
  |none=>Za (VP P o.op) (Wc o.dst) (ub ops l)
  |some (g,b)=>Zx g b (VP P o.op) (Wc o.dst) (ub ops l)
def Il(acc:List (Nat×Nat))(o:Oper):Nat:=o.after.toList.foldl (λs e=>cond (Region.binds .any e) (Nat.lor (Nat.lor s (Nat.pow 2 e.on)) ((acc.lookup e.on).getD 0)) s) 0
def yL:List Oper->Nat->List (Nat×Nat)->List (Oper×Nat×Nat)
 |[],_,_=>[]
 |o::l,i,acc=>(o,i,Il acc o)::yL l (i+1) ((i,Il acc o)::acc)
def x6(l:List Operand):List Nat:=l.filterMap λx=>match x with|.tmp t=>some t|_=>none
def Un(o:Oper):List (ZK×Z2):=(x6 o.op.operands.toList).filterMap λt=>cond (Nat.ble t 511) (some (OE t,Rj t)) none
def WG(ops:Array Oper)(x:Oper×Nat×Nat):PI:=⟨VP P x.1.op,Su P ops x.1,Un x.1,Wc x.1.dst,Ow P x.1.op,x.2.1,x.2.2⟩
def vA(k:I5):Bool:=I5.rec false false true k
structure SI where
 i:Nat
 lk:List Nat
 d:Option Nat
 eff:Bool
 bef:Nat
 x:Oper×Nat×Nat
def R1(ops:Array Oper)(o:Oper):List Nat:=x6 o.op.operands.toList++(match o.guard with|some (j,_)=>((ops[j]?).bind (·.dst)).toList|none=>[])
def Ns(ops:Array Oper)(x:Oper×Nat×Nat):SI:=⟨x.2.1,R1 ops x.1,x.1.dst,vA (Ow P x.1.op),x.2.2,x⟩
def Cx:Nat->List SI->Nat->List SI
 |0,_,_=>[]
 |f+1,todo,done=>
  let ready:=todo.filter λp=>Nat.beq (Nat.land p.bef done) p.bef
  match ready.find? (λp=>cond p.eff false true) with
  |some p=>p::Cx f (todo.filter λq=>cond (Nat.beq q.i p.i) false true) (Nat.lor done (Nat.pow 2 p.i))
  |none=>match ready with
   |p::_=>p::Cx f (todo.filter λq=>cond (Nat.beq q.i p.i) false true) (Nat.lor done (Nat.pow 2 p.i))
   |[]=>[]
def bit(n:Nat):Nat:=Nat.pow 2 n
def K3(l:List Nat):Nat:=List.rec 0 (λt _ ih=>Nat.lor (bit t) ih) l
def Zep(d:Option Nat):Nat:=match d with|some t=>bit t|none=>0
def dOk(d:Option Nat)(sm:Nat):Bool:=match d with|some t=>cond (Nat.testBit sm t) false true|none=>true
def Zbc(ws:List (Nat×Nat))(im bef t:Nat):Bool:=ws.all λx=>cond (Nat.beq x.1 t) (cond (Nat.testBit im x.2) (Nat.testBit bef x.2) true) true
def yW(i:Nat)(o:Oper):Bool:=o.after.toList.all λe=>cond (Region.binds .any e) (Nat.ble (Nat.succ e.on) i) true
def fX(p:SI)(d:Option Nat):Bool:=match d with|some t=>cond (p.lk.all λs=>cond (Nat.beq s t) false true) (match p.d with|some s=>cond (Nat.beq s t) false true|none=>true) false|none=>true
def am(l0:List SI)(q:SI)(im:Nat):Bool:=l0.all λp=>cond (Nat.testBit im p.i) (cond (Nat.testBit q.bef p.i) true (fX p q.d)) true
def pV(l0:List SI)(q:SI)(sm im:Nat):Bool:=cond (dOk q.d (Nat.lor sm (K3 q.lk))) true (cond q.eff (am l0 q im) false)
def Ko(ws:List (Nat×Nat))(l0:List SI):List SI->Nat->Nat->Nat->Nat->Bool
 |[],_,_,im,all=>Nat.beq im all
 |q::l,em,sm,im,all=>cond (Nat.beq (Nat.land q.bef em) em) (cond (pV l0 q sm im) (cond (q.lk.all (Zbc ws im q.bef)) (cond (Nat.testBit im q.i) false
   (Ko ws l0 l (cond q.eff (Nat.lor em (bit q.i)) em) (Nat.lor (Nat.lor sm (K3 q.lk)) (Zep q.d)) (Nat.lor im (bit q.i)) all)) false) false) false
def P7(l:List SI):List (Nat×Nat):=l.filterMap λq=>match q.d with|some t=>some (t,q.i)|none=>none
def Ds(l:List SI):Option (List SI×SI×SI):=match l.reverse with|b::a::r=>some (r.reverse,a,b)|_=>none
def Qf(o:Oper):Option Z2:=match o.op,o.guard,o.dst with|.store _ a _,none,none=>some (YM P a)|_,_,_=>none
def rN(ops:Array Oper)(ws:List (Nat×Nat))(l0:List SI)(all:Nat)(x:Option (List SI×SI×SI)):D:=match x with
 |some (r,a,b)=>match Qf P a.x.1,Qf P b.x.1 with
  |some e1,some e2=>cond (Ko ws l0 (r++[a]) 0 0 0 (Nat.xor all (bit b.i))) (cond (Ko ws l0 (r++[b]) 0 0 0 (Nat.xor all (bit a.i)))
    (jO (r.map λq=>WG P ops q.x) (WG P ops a.x) (WG P ops b.x) e1 e2) PS) PS
  |_,_=>PS
 |none=>PS
def C1(ops:Array Oper):List SI:=Cx ops.size ((yL ops.toList 0 []).map (Ns P ops)) 0
def xP(ops:Array Oper)(l:List SI):D:=
 cond (Ko (P7 l) l l 0 0 0 (Nat.sub (bit ops.size) 1)) (WE (l.map λq=>WG P ops q.x)) (rN P ops (P7 l) l (Nat.sub (bit ops.size) 1) (Ds l))
def rQ(ops:Array Oper):D:=
 cond (ops.toList.zipIdx.all λx=>yW x.2 x.1) (xP P ops (C1 P ops)) PS
def Hv:Code->List Nat
 |.region _ ops _=>ops.toList.filterMap (·.dst)
 |.seq a b=>Hv a++Hv b
 |.cond _ a b=>Hv a++Hv b
 |.block _ a=>Hv a
 |.loop a=>Hv a
 |.scope a=>Hv a
 |.rangeFunc _ _ _ _=>[]
 |_=>[]
def OH:Code->Option (Operand×Option Nat)
 |.seq a _=>OH a
 |.region _ ops false=>match ops.toList with
  |o::_=>match o.op,o.guard with|.next x false,none=>some (x,o.dst)|_,_=>none
  |[]=>none
 |_=>none
def wJ(c:Code):D×D:=
 Code.rec (motive:=λ_=>D×D) (Zc,PS)
  (λ_ ops d=>(cond d (rQ P ops) (ub P ops ops.toList),cond d PS (ub P ops ops.toList.tail)))
  (λ_ _ a b=>(Zg a.1 b.1,Zg a.2 b.1))
  (λq _ _ a b=>(ZL (YM P q) a.1 b.1,PS))
  (λid _ a=>(ZY id a.1,PS))
  (λb a=>(match OH b with|some (x,t)=>rq (YM P x) (Wc t) ((Hv b).map λt=>Wc (some t)) a.2|none=>XS a.1,PS))
  (λf ps _ _ a b=>(eZ (YM P f) (ps.toList.map λt=>Wc (some t)) (Zg a.1 b.1),PS))
  (λid=>(XG id,PS))
  (λ_ a=>(a.1,PS))
  (λ_=>(Zc,PS))
  (λ_=>(PS,PS))
  (Z8,PS)
  (λ_=>(PS,PS)) c
def ZhG(c:Code):D:=(wJ P c).1
end
def params:List ZK:=[d N8.u0 N8.u0 N8.u0,d N8.u1 N8.u0 N8.u0,d N8.u2 N8.u0 N8.u0,d N8.u3 N8.u0 N8.u0,d N8.u4 N8.u0 N8.u0,d N8.u5 N8.u0 N8.u0,d N8.u6 N8.u0 N8.u0,d N8.u7 N8.u0 N8.u0,
 d N8.u0 N8.u1 N8.u0,d N8.u1 N8.u1 N8.u0,d N8.u2 N8.u1 N8.u0,d N8.u3 N8.u1 N8.u0,d N8.u4 N8.u1 N8.u0,d N8.u5 N8.u1 N8.u0,d N8.u6 N8.u1 N8.u0,d N8.u7 N8.u1 N8.u0]
def RC(as:List AV):TM:=Np Nr params as
structure CF where
 rs:List (Z2×Option (Nat×Bool))
 body:D
def ZbU(tm:TM)(H:Heap)(r:Z2×Option (Nat×Bool))(k:AV->CR):CR:=match r.2 with
 |none=>k (r.1 tm)
 |some (n,ag)=>match r.1 tm with
  |.ptr b o=>match H.t.get b with
   |some (.row r)=>cond (Nat.ble (Nat.add o n) r.size) (cond ag (k (.agg (VB r o n))) (k (r.get o))) .fail
   |_=>.fail
  |_=>.fail
def O8(tm:TM)(H:Heap)(k:List AV->CR):List (Z2×Option (Nat×Bool))->CR
 |[]=>k []
 |r::l=>ZbU tm H r λv=>O8 tm H (λvs=>k (v::vs)) l
def results(rs:List (Z2×Option (Nat×Bool)))(tm:TM)(H:Heap):CR:=
 O8 tm H (λvs=>match vs with|[v]=>.ret v H|vs=>.ret (.tup vs) H) rs
inductive DR where
 |fail
 |ret (v:AV) (H:Heap) (rec:Bool)
 |pan (v:AV) (H:Heap) (rec:Bool)
def Lf(rc:Option AV)(x:X):Bool:=match rc,x.rc with|some _,none=>true|_,_=>false
def deferred(dcall:Option AV->Nat->List AV->Heap->DR)(rs:List (Z2×Option (Nat×Bool)))(tm:TM):List (AV×List AV)->Option AV->Heap->CR
 |[],none,H=>results rs tm H
 |[],some v,H=>.pan v H
 |d::l,pn,H=>match d.1 with
  |.func g a b=>match dcall pn g (a++(d.2++b)) H with
   |.ret _ H rec=>deferred dcall rs tm l (cond rec none pn) H
   |_=>.fail
  |_=>.fail
def KA(dcall:Option AV->Nat->List AV->Heap->DR)(rs:List (Z2×Option (Nat×Bool)))(r:WC):CR:=match r with
 |.ok .normal tm H x=>match x.df with|[]=>results rs tm H|df=>deferred dcall rs tm df none H
 |.ok .ret tm H x=>match x.df with|[]=>results rs tm H|df=>deferred dcall rs tm df none H
 |.ok (.pan v) tm H x=>match x.df with|[]=>.pan v H|df=>deferred dcall rs tm df (some v) H
 |_=>.fail
def FT(rc:Option AV)(rs:List (Z2×Option (Nat×Bool)))(r:WC):DR:=match r with
 |.ok .normal tm H x=>match x.df,results rs tm H with|[],.ret v H=>.ret v H (Lf rc x)|_,_=>.fail
 |.ok .ret tm H x=>match x.df,results rs tm H with|[],.ret v H=>.ret v H (Lf rc x)|_,_=>.fail
 |.ok (.pan v) _ H x=>match x.df with|[]=>.pan v H (Lf rc x)|_=>.fail
 |_=>.fail
def Zck(r:CR)(tm:TM)(x:X):WC:=match r with
 |.ret _ H=>.ok .normal tm H x
 |.pan v H=>.ok (.pan v) tm H x
 |.fail=>.fail
def Bj{α:Type}(d:α)(fs:T CF)(f:Nat)(k:CF->α):α:=match fs.get f with|some cf=>k cf|none=>d
def FU(fs:T CF)(fuel:Nat)(call:Nat->List AV->Heap->CR)(f:AV)(round:List AV->Heap->CR)(tm:TM)(H:Heap)(x:X):WC:=match f with
 |.func g a b=>Bj .fail fs g λcf=>
  Zck (KA (λ_ _ _ _=>.fail) cf.rs (cf.body ⟨call,λl ys H'=>cond (Nat.beq l H.nx) (round ys H') .fail,Tq,fuel,false⟩
   (RC (a++(.yield H.nx::b))) (H.new .loop) ⟨[],none⟩)) tm x
 |_=>.fail
def pO(r:Option CR)(k:CR):CR:=Option.rec k (λr=>r) r
def ZU(lib:Nat->List AV->Heap->Option CR)(fs:T CF)(fuel:Nat)(n:Nat):Nat->List AV->Heap->CR:=
 @Nat.rec (λ_=>Nat->List AV->Heap->CR) (λ_ _ _=>.fail) (λ_ ih f args H=>pO (lib f args H) (Bj .fail fs f λcf=>
  KA (λpn g as H=>Bj .fail fs g λcg=>FT pn cg.rs (cg.body ⟨ih,U2,Tq,fuel,false⟩ (RC as) H ⟨[],pn⟩))
   cf.rs (cf.body ⟨ih,U2,FU fs fuel ih,fuel,false⟩ (RC args) H ⟨[],none⟩))) n
def Bi(n:Nat)(d:Option Nat):Bool:=match d with|some t=>Nat.ble (Nat.succ t) n|none=>true
def Ok(n:Nat)(c:Code):Bool:=
 Code.rec (motive:=λ_=>Bool) true (λ_ ops _=>ops.toList.all λo=>Bi n o.dst) (λ_ _ a b=>cond a b false) (λ_ _ _ a b=>cond a b false) (λ_ _ a=>a) (λ_ a=>a)
  (λ_ ps _ _ a b=>cond (ps.toList.all λt=>Bi n (some t)) (cond a b false) false) (λ_=>true) (λ_ a=>a) (λ_=>true) (λ_=>true) true (λ_=>true) c
def GA(P:Program)(r:ResultVar):Bool:=match r with|.tmp _=>true|.cell _ t=>(P.info? t).isSome&&(P.underlying t).isSome&&Nat.ble 1 (P.cellsOf t)
def Et(P:Program)(f:Func):CF:=
 ⟨f.results.toList.map λr=>match r with|.tmp t=>(YM P (.tmp t),none)|.cell a t=>(YM P (.tmp a),some (P.cellsOf t,ML P t)),
  match f.body with|some c=>cond (f.results.toList.all (GA P)) (cond (Ok f.ntmps c) (ZhG P c) PS) PS|none=>PS⟩
def ZoI(P:Program):T CF:=T.ofList (P.funcs.toList.map (Et P))
def nI(k:IntKind)(n:Nat):AV:=.int k (.ofNat n)
def Yu:Z2:=e N8.a0 N8.a0 N8.a0
def XR:Z2:=e N8.a1 N8.a0 N8.a0
def Vt:Z2:=e N8.a2 N8.a0 N8.a0
def Xx:Z2:=e N8.a3 N8.a0 N8.a0
def Xu:Z2:=e N8.a4 N8.a0 N8.a0
def YT:Z2:=e N8.a5 N8.a0 N8.a0
def Wm:Z2:=e N8.a6 N8.a0 N8.a0
def XY:Z2:=e N8.a7 N8.a0 N8.a0
def Xt:Z2:=e N8.a0 N8.a1 N8.a0
def WO:Z2:=e N8.a1 N8.a1 N8.a0
def YB:Z2:=e N8.a2 N8.a1 N8.a0
def YN:Z2:=e N8.a3 N8.a1 N8.a0
def Xj:Z2:=e N8.a4 N8.a1 N8.a0
def Y6:Z2:=e N8.a5 N8.a1 N8.a0
def XQ:Z2:=e N8.a6 N8.a1 N8.a0
def XW:Z2:=e N8.a7 N8.a1 N8.a0
def X6:Z2:=e N8.a0 N8.a2 N8.a0
def Wt:Z2:=e N8.a1 N8.a2 N8.a0
def Wd:Z2:=e N8.a2 N8.a2 N8.a0
def XO:Z2:=e N8.a3 N8.a2 N8.a0
def Vg:Z2:=e N8.a4 N8.a2 N8.a0
def WU:Z2:=e N8.a5 N8.a2 N8.a0
def WV:Z2:=e N8.a6 N8.a2 N8.a0
def Va:Z2:=e N8.a7 N8.a2 N8.a0
def Wz:Z2:=e N8.a0 N8.a3 N8.a0
def VX:Z2:=e N8.a1 N8.a3 N8.a0
def VD:Z2:=e N8.a2 N8.a3 N8.a0
def VR:Z2:=e N8.a3 N8.a3 N8.a0
def VE:Z2:=e N8.a4 N8.a3 N8.a0
def Vq:Z2:=e N8.a5 N8.a3 N8.a0
def UX:Z2:=e N8.a6 N8.a3 N8.a0
def UM:Z2:=e N8.a7 N8.a3 N8.a0
def UY:Z2:=e N8.a0 N8.a4 N8.a0
def Tl:Z2:=e N8.a1 N8.a4 N8.a0
def UR:Z2:=e N8.a2 N8.a4 N8.a0
def Tm:Z2:=e N8.a3 N8.a4 N8.a0
def T3:Z2:=e N8.a4 N8.a4 N8.a0
def SM:Z2:=e N8.a5 N8.a4 N8.a0
def TX:Z2:=e N8.a6 N8.a4 N8.a0
def Sj:Z2:=e N8.a7 N8.a4 N8.a0
def T4:Z2:=e N8.a0 N8.a5 N8.a0
def SX:Z2:=e N8.a1 N8.a5 N8.a0
def Sq:Z2:=e N8.a2 N8.a5 N8.a0
def Rb:Z2:=e N8.a3 N8.a5 N8.a0
def To:Z2:=e N8.a4 N8.a5 N8.a0
def SN:Z2:=e N8.a5 N8.a5 N8.a0
def RH:Z2:=e N8.a6 N8.a5 N8.a0
def TY:Z2:=e N8.a7 N8.a5 N8.a0
def QD:Z2:=e N8.a0 N8.a6 N8.a0
def SY:Z2:=e N8.a1 N8.a6 N8.a0
def QE:Z2:=e N8.a2 N8.a6 N8.a0
def Sr:Z2:=e N8.a3 N8.a6 N8.a0
def QF:Z2:=e N8.a4 N8.a6 N8.a0
def QV:Z2:=e N8.a5 N8.a6 N8.a0
def Te:Z2:=e N8.a6 N8.a6 N8.a0
def Qo:Z2:=e N8.a7 N8.a6 N8.a0
def SZ:Z2:=e N8.a0 N8.a7 N8.a0
def QG:Z2:=e N8.a1 N8.a7 N8.a0
def S0:Z2:=e N8.a2 N8.a7 N8.a0
def RV:Z2:=e N8.a3 N8.a7 N8.a0
def Rx:Z2:=e N8.a4 N8.a7 N8.a0
def RI:Z2:=e N8.a5 N8.a7 N8.a0
def RW:Z2:=e N8.a6 N8.a7 N8.a0
def RX:Z2:=e N8.a7 N8.a7 N8.a0
def Ph:Z2:=e N8.a0 N8.a0 N8.a1
def PF:Z2:=e N8.a1 N8.a0 N8.a1
def PG:Z2:=e N8.a2 N8.a0 N8.a1
def P9:Z2:=e N8.a3 N8.a0 N8.a1
def Ot:Z2:=e N8.a4 N8.a0 N8.a1
def Ma:Z2:=e N8.a5 N8.a0 N8.a1
def Ou:Z2:=e N8.a6 N8.a0 N8.a1
def MG:Z2:=e N8.a7 N8.a0 N8.a1
def PX:Z2:=e N8.a0 N8.a1 N8.a1
def QH:Z2:=e N8.a1 N8.a1 N8.a1
def MH:Z2:=e N8.a2 N8.a1 N8.a1
def OV:Z2:=e N8.a3 N8.a1 N8.a1
def M5:Z2:=e N8.a4 N8.a1 N8.a1
def Kw:Z2:=e N8.a5 N8.a1 N8.a1
def Mb:Z2:=e N8.a6 N8.a1 N8.a1
def Nk:Z2:=e N8.a7 N8.a1 N8.a1
def Kx:Z2:=e N8.a0 N8.a2 N8.a1
def IF:Z2:=e N8.a1 N8.a2 N8.a1
def JT:Z2:=e N8.a2 N8.a2 N8.a1
def JU:Z2:=e N8.a3 N8.a2 N8.a1
def Oa:Z2:=e N8.a4 N8.a2 N8.a1
def Ky:Z2:=e N8.a5 N8.a2 N8.a1
def HU:Z2:=e N8.a6 N8.a2 N8.a1
def M6:Z2:=e N8.a7 N8.a2 N8.a1
def IG:Z2:=e N8.a0 N8.a3 N8.a1
def FC:Z2:=e N8.a1 N8.a3 N8.a1
def FD:Z2:=e N8.a2 N8.a3 N8.a1
def KX:Z2:=e N8.a3 N8.a3 N8.a1
def Kz:Z2:=e N8.a4 N8.a3 N8.a1
def E8:Z2:=e N8.a5 N8.a3 N8.a1
def E9:Z2:=e N8.a6 N8.a3 N8.a1
def IH:Z2:=e N8.a7 N8.a3 N8.a1
def II:Z2:=e N8.a0 N8.a4 N8.a1
def JV:Z2:=e N8.a1 N8.a4 N8.a1
def Da:Z2:=e N8.a2 N8.a4 N8.a1
def FE:Z2:=e N8.a3 N8.a4 N8.a1
def M0:Z2:=e N8.a4 N8.a4 N8.a1
def M1:Z2:=e N8.a5 N8.a4 N8.a1
def Nv:Z2:=e N8.a6 N8.a4 N8.a1
def Nw:Z2:=e N8.a7 N8.a4 N8.a1
def Ki:Z2:=e N8.a0 N8.a5 N8.a1
def M2:Z2:=e N8.a1 N8.a5 N8.a1
def Kj:Z2:=e N8.a2 N8.a5 N8.a1
def OS:Z2:=e N8.a3 N8.a5 N8.a1
def M3:Z2:=e N8.a4 N8.a5 N8.a1
def HK:Z2:=e N8.a5 N8.a5 N8.a1
def ED:Z2:=e N8.a6 N8.a5 N8.a1
def HL:Z2:=e N8.a7 N8.a5 N8.a1
def HM:Z2:=e N8.a0 N8.a6 N8.a1
def Kk:Z2:=e N8.a1 N8.a6 N8.a1
def HN:Z2:=e N8.a2 N8.a6 N8.a1
def HR:Z2:=e N8.a3 N8.a6 N8.a1
def HS:Z2:=e N8.a4 N8.a6 N8.a1
def M4:Z2:=e N8.a5 N8.a6 N8.a1
def EE:Z2:=e N8.a6 N8.a6 N8.a1
def EF:Z2:=e N8.a7 N8.a6 N8.a1
def EG:Z2:=e N8.a0 N8.a7 N8.a1
def OT:Z2:=e N8.a1 N8.a7 N8.a1
def Cy:Z2:=e N8.a2 N8.a7 N8.a1
def EH:Z2:=e N8.a3 N8.a7 N8.a1
def HT:Z2:=e N8.a4 N8.a7 N8.a1
def A6:Z2:=e N8.a5 N8.a7 N8.a1
def A7:Z2:=e N8.a6 N8.a7 N8.a1
def A8:Z2:=e N8.a7 N8.a7 N8.a1
def EI:Z2:=e N8.a0 N8.a0 N8.a2
def wZ:Z2:=e N8.a1 N8.a0 N8.a2
def w7:Z2:=e N8.a2 N8.a0 N8.a2
def vd:Z2:=e N8.a3 N8.a0 N8.a2
def KV:Z2:=e N8.a4 N8.a0 N8.a2
def ve:Z2:=e N8.a5 N8.a0 N8.a2
def vf:Z2:=e N8.a6 N8.a0 N8.a2
def vg:Z2:=e N8.a7 N8.a0 N8.a2
def vh:Z2:=e N8.a0 N8.a1 N8.a2
def A9:Z2:=e N8.a1 N8.a1 N8.a2
def za:Z2:=e N8.a2 N8.a1 N8.a2
def zb:Z2:=e N8.a3 N8.a1 N8.a2
def zd:Z2:=e N8.a4 N8.a1 N8.a2
def Cz:Z2:=e N8.a5 N8.a1 N8.a2
def Kl:Z2:=e N8.a6 N8.a1 N8.a2
def ze:Z2:=e N8.a7 N8.a1 N8.a2
def zf:Z2:=e N8.a0 N8.a2 N8.a2
def zg:Z2:=e N8.a1 N8.a2 N8.a2
def CA:Z2:=e N8.a2 N8.a2 N8.a2
def CB:Z2:=e N8.a3 N8.a2 N8.a2
def CC:Z2:=e N8.a4 N8.a2 N8.a2
def KW:Z2:=e N8.a5 N8.a2 N8.a2
def CD:Z2:=e N8.a6 N8.a2 N8.a2
def CG:Z2:=e N8.a7 N8.a2 N8.a2
def OU:Z2:=e N8.a0 N8.a3 N8.a2
def CH:Z2:=e N8.a1 N8.a3 N8.a2
def CI:Z2:=e N8.a2 N8.a3 N8.a2
def CJ:Z2:=e N8.a3 N8.a3 N8.a2
def zh:Z2:=e N8.a4 N8.a3 N8.a2
def zi:Z2:=e N8.a5 N8.a3 N8.a2
def zj:Z2:=e N8.a6 N8.a3 N8.a2
def zk:Z2:=e N8.a7 N8.a3 N8.a2
def zl:Z2:=e N8.a0 N8.a4 N8.a2
def vi:Z2:=e N8.a1 N8.a4 N8.a2
def vj:Z2:=e N8.a2 N8.a4 N8.a2
def CK:Z2:=e N8.a3 N8.a4 N8.a2
def pe:Z2:=e N8.a4 N8.a4 N8.a2
def iq:Z2:=e N8.a5 N8.a4 N8.a2
def ir:Z2:=e N8.a6 N8.a4 N8.a2
def it:Z2:=e N8.a7 N8.a4 N8.a2
def iv:Z2:=e N8.a0 N8.a5 N8.a2
def iz:Z2:=e N8.a1 N8.a5 N8.a2
def iA:Z2:=e N8.a2 N8.a5 N8.a2
def iB:Z2:=e N8.a3 N8.a5 N8.a2
def iC:Z2:=e N8.a4 N8.a5 N8.a2
def iD:Z2:=e N8.a5 N8.a5 N8.a2
def iE:Z2:=e N8.a6 N8.a5 N8.a2
def vk:Z2:=e N8.a7 N8.a5 N8.a2
def vl:Z2:=e N8.a0 N8.a6 N8.a2
def iF:Z2:=e N8.a1 N8.a6 N8.a2
def iG:Z2:=e N8.a2 N8.a6 N8.a2
def iH:Z2:=e N8.a3 N8.a6 N8.a2
def iI:Z2:=e N8.a4 N8.a6 N8.a2
def iJ:Z2:=e N8.a5 N8.a6 N8.a2
def iK:Z2:=e N8.a6 N8.a6 N8.a2
def iL:Z2:=e N8.a7 N8.a6 N8.a2
def iM:Z2:=e N8.a0 N8.a7 N8.a2
def iN:Z2:=e N8.a1 N8.a7 N8.a2
def iO:Z2:=e N8.a2 N8.a7 N8.a2
def Zcr:Z2:=e N8.a3 N8.a7 N8.a2
def Zcs:Z2:=e N8.a4 N8.a7 N8.a2
def Zct:Z2:=e N8.a5 N8.a7 N8.a2
def Zcu:Z2:=e N8.a6 N8.a7 N8.a2
def Zcv:Z2:=e N8.a7 N8.a7 N8.a2
def Zcw:Z2:=e N8.a0 N8.a0 N8.a3
def Zcx:Z2:=e N8.a1 N8.a0 N8.a3
def Zcy:Z2:=e N8.a2 N8.a0 N8.a3
def Zcz:Z2:=e N8.a3 N8.a0 N8.a3
def ZcA:Z2:=e N8.a4 N8.a0 N8.a3
def ZcB:Z2:=e N8.a5 N8.a0 N8.a3
def ZcC:Z2:=e N8.a6 N8.a0 N8.a3
def ZcD:Z2:=e N8.a7 N8.a0 N8.a3
def ZcE:Z2:=e N8.a0 N8.a1 N8.a3
def ZcF:Z2:=e N8.a1 N8.a1 N8.a3
def ZcG:Z2:=e N8.a2 N8.a1 N8.a3
def ZcH:Z2:=e N8.a3 N8.a1 N8.a3
def ZcI:Z2:=e N8.a4 N8.a1 N8.a3
def ZcJ:Z2:=e N8.a5 N8.a1 N8.a3
def ZcK:Z2:=e N8.a6 N8.a1 N8.a3
def ZcL:Z2:=e N8.a7 N8.a1 N8.a3
def ZcM:Z2:=e N8.a0 N8.a2 N8.a3
def ZcN:Z2:=e N8.a1 N8.a2 N8.a3
def ZcO:Z2:=e N8.a2 N8.a2 N8.a3
def ZcP:Z2:=e N8.a3 N8.a2 N8.a3
def ZcQ:Z2:=e N8.a4 N8.a2 N8.a3
def ZcR:Z2:=e N8.a5 N8.a2 N8.a3
def ZcS:Z2:=e N8.a6 N8.a2 N8.a3
def ZcT:Z2:=e N8.a7 N8.a2 N8.a3
def ZhT:Z2:=e N8.a0 N8.a3 N8.a3
def ZhU:Z2:=e N8.a1 N8.a3 N8.a3
def ZhV:Z2:=e N8.a2 N8.a3 N8.a3
def ZhW:Z2:=e N8.a3 N8.a3 N8.a3
def ZhX:Z2:=e N8.a4 N8.a3 N8.a3
def ZhY:Z2:=e N8.a5 N8.a3 N8.a3
def ZhZ:Z2:=e N8.a6 N8.a3 N8.a3
def Zh0:Z2:=e N8.a7 N8.a3 N8.a3
def st0:ZK:=d N8.u0 N8.u0 N8.u0
def st1:ZK:=d N8.u1 N8.u0 N8.u0
def st2:ZK:=d N8.u2 N8.u0 N8.u0
def VM:ZK:=d N8.u3 N8.u0 N8.u0
def Xi:ZK:=d N8.u4 N8.u0 N8.u0
def WZ:ZK:=d N8.u5 N8.u0 N8.u0
def Vv:ZK:=d N8.u6 N8.u0 N8.u0
def Vw:ZK:=d N8.u7 N8.u0 N8.u0
def Vc:ZK:=d N8.u0 N8.u1 N8.u0
def Uh:ZK:=d N8.u1 N8.u1 N8.u0
def XJ:ZK:=d N8.u2 N8.u1 N8.u0
def XF:ZK:=d N8.u3 N8.u1 N8.u0
def X7:ZK:=d N8.u4 N8.u1 N8.u0
def X5:ZK:=d N8.u5 N8.u1 N8.u0
def WK:ZK:=d N8.u6 N8.u1 N8.u0
def WA:ZK:=d N8.u7 N8.u1 N8.u0
def WB:ZK:=d N8.u0 N8.u2 N8.u0
def WX:ZK:=d N8.u1 N8.u2 N8.u0
def WY:ZK:=d N8.u2 N8.u2 N8.u0
def Vo:ZK:=d N8.u3 N8.u2 N8.u0
def VA:ZK:=d N8.u4 N8.u2 N8.u0
def V1:ZK:=d N8.u5 N8.u2 N8.u0
def V2:ZK:=d N8.u6 N8.u2 N8.u0
def V5:ZK:=d N8.u7 N8.u2 N8.u0
def V3:ZK:=d N8.u0 N8.u3 N8.u0
def Uf:ZK:=d N8.u1 N8.u3 N8.u0
def Ug:ZK:=d N8.u2 N8.u3 N8.u0
def Ul:ZK:=d N8.u3 N8.u3 N8.u0
def Uq:ZK:=d N8.u4 N8.u3 N8.u0
def UP:ZK:=d N8.u5 N8.u3 N8.u0
def UV:ZK:=d N8.u6 N8.u3 N8.u0
def Th:ZK:=d N8.u7 N8.u3 N8.u0
def TS:ZK:=d N8.u0 N8.u4 N8.u0
def T7:ZK:=d N8.u1 N8.u4 N8.u0
def Sw:ZK:=d N8.u2 N8.u4 N8.u0
def SB:ZK:=d N8.u3 N8.u4 N8.u0
def SU:ZK:=d N8.u4 N8.u4 N8.u0
def SV:ZK:=d N8.u5 N8.u4 N8.u0
def SC:ZK:=d N8.u6 N8.u4 N8.u0
def S1:ZK:=d N8.u7 N8.u4 N8.u0
def Rh:ZK:=d N8.u0 N8.u5 N8.u0
def Ri:ZK:=d N8.u1 N8.u5 N8.u0
def Ro:ZK:=d N8.u2 N8.u5 N8.u0
def SW:ZK:=d N8.u3 N8.u5 N8.u0
def RA:ZK:=d N8.u4 N8.u5 N8.u0
def Qe:ZK:=d N8.u5 N8.u5 N8.u0
def Qw:ZK:=d N8.u6 N8.u5 N8.u0
def Qx:ZK:=d N8.u7 N8.u5 N8.u0
def QK:ZK:=d N8.u0 N8.u6 N8.u0
def QL:ZK:=d N8.u1 N8.u6 N8.u0
def Q1:ZK:=d N8.u2 N8.u6 N8.u0
def Q2:ZK:=d N8.u3 N8.u6 N8.u0
def Q3:ZK:=d N8.u4 N8.u6 N8.u0
def QM:ZK:=d N8.u5 N8.u6 N8.u0
def Qy:ZK:=d N8.u6 N8.u6 N8.u0
def QN:ZK:=d N8.u7 N8.u6 N8.u0
def Qz:ZK:=d N8.u0 N8.u7 N8.u0
def QO:ZK:=d N8.u1 N8.u7 N8.u0
def Q4:ZK:=d N8.u2 N8.u7 N8.u0
def Q5:ZK:=d N8.u3 N8.u7 N8.u0
def QA:ZK:=d N8.u4 N8.u7 N8.u0
def Pr:ZK:=d N8.u5 N8.u7 N8.u0
def Q6:ZK:=d N8.u6 N8.u7 N8.u0
def QP:ZK:=d N8.u7 N8.u7 N8.u0
def Ps:ZK:=d N8.u0 N8.u0 N8.u1
def PJ:ZK:=d N8.u1 N8.u0 N8.u1
def Od:ZK:=d N8.u2 N8.u0 N8.u1
def Na:ZK:=d N8.u3 N8.u0 N8.u1
def NE:ZK:=d N8.u4 N8.u0 N8.u1
def Me:ZK:=d N8.u5 N8.u0 N8.u1
def Mf:ZK:=d N8.u6 N8.u0 N8.u1
def MQ:ZK:=d N8.u7 N8.u0 N8.u1
def Lo:ZK:=d N8.u0 N8.u1 N8.u1
def MR:ZK:=d N8.u1 N8.u1 N8.u1
def MT:ZK:=d N8.u2 N8.u1 N8.u1
def MU:ZK:=d N8.u3 N8.u1 N8.u1
def Lq:ZK:=d N8.u4 N8.u1 N8.u1
def KB:ZK:=d N8.u5 N8.u1 N8.u1
def KC:ZK:=d N8.u6 N8.u1 N8.u1
def KD:ZK:=d N8.u7 N8.u1 N8.u1
def KE:ZK:=d N8.u0 N8.u2 N8.u1
def Jp:ZK:=d N8.u1 N8.u2 N8.u1
def JW:ZK:=d N8.u2 N8.u2 N8.u1
def JX:ZK:=d N8.u3 N8.u2 N8.u1
def JY:ZK:=d N8.u4 N8.u2 N8.u1
def GX:ZK:=d N8.u5 N8.u2 N8.u1
def GY:ZK:=d N8.u6 N8.u2 N8.u1
def F5:ZK:=d N8.u7 N8.u2 N8.u1
def F6:ZK:=d N8.u0 N8.u3 N8.u1
def F7:ZK:=d N8.u1 N8.u3 N8.u1
def F8:ZK:=d N8.u2 N8.u3 N8.u1
def F9:ZK:=d N8.u3 N8.u3 N8.u1
def Ea:ZK:=d N8.u4 N8.u3 N8.u1
def Dg:ZK:=d N8.u5 N8.u3 N8.u1
def Dh:ZK:=d N8.u6 N8.u3 N8.u1
def GZ:ZK:=d N8.u7 N8.u3 N8.u1
def G0:ZK:=d N8.u0 N8.u4 N8.u1
def Eb:ZK:=d N8.u1 N8.u4 N8.u1
def Ec:ZK:=d N8.u2 N8.u4 N8.u1
def Ed:ZK:=d N8.u3 N8.u4 N8.u1
def Lk:ZK:=d N8.u4 N8.u4 N8.u1
def Ll:ZK:=d N8.u5 N8.u4 N8.u1
def Kq:ZK:=d N8.u6 N8.u4 N8.u1
def Kr:ZK:=d N8.u7 N8.u4 N8.u1
def Ks:ZK:=d N8.u0 N8.u5 N8.u1
def Kt:ZK:=d N8.u1 N8.u5 N8.u1
def Ku:ZK:=d N8.u2 N8.u5 N8.u1
def Ln:ZK:=d N8.u3 N8.u5 N8.u1
def Jo:ZK:=d N8.u4 N8.u5 N8.u1
def GL:ZK:=d N8.u5 N8.u5 N8.u1
def GM:ZK:=d N8.u6 N8.u5 N8.u1
def GN:ZK:=d N8.u7 N8.u5 N8.u1
def GO:ZK:=d N8.u0 N8.u6 N8.u1
def GP:ZK:=d N8.u1 N8.u6 N8.u1
def GQ:ZK:=d N8.u2 N8.u6 N8.u1
def GR:ZK:=d N8.u3 N8.u6 N8.u1
def GS:ZK:=d N8.u4 N8.u6 N8.u1
def GU:ZK:=d N8.u5 N8.u6 N8.u1
def E0:ZK:=d N8.u6 N8.u6 N8.u1
def E1:ZK:=d N8.u7 N8.u6 N8.u1
def E2:ZK:=d N8.u0 N8.u7 N8.u1
def E3:ZK:=d N8.u1 N8.u7 N8.u1
def E4:ZK:=d N8.u2 N8.u7 N8.u1
def GV:ZK:=d N8.u3 N8.u7 N8.u1
def GW:ZK:=d N8.u4 N8.u7 N8.u1
def z9:ZK:=d N8.u5 N8.u7 N8.u1
def ya:ZK:=d N8.u6 N8.u7 N8.u1
def yb:ZK:=d N8.u7 N8.u7 N8.u1
def uO:ZK:=d N8.u0 N8.u0 N8.u2
def uP:ZK:=d N8.u1 N8.u0 N8.u2
def uQ:ZK:=d N8.u2 N8.u0 N8.u2
def uR:ZK:=d N8.u3 N8.u0 N8.u2
def uS:ZK:=d N8.u4 N8.u0 N8.u2
def uT:ZK:=d N8.u5 N8.u0 N8.u2
def uU:ZK:=d N8.u6 N8.u0 N8.u2
def uV:ZK:=d N8.u7 N8.u0 N8.u2
def uW:ZK:=d N8.u0 N8.u1 N8.u2
def yc:ZK:=d N8.u1 N8.u1 N8.u2
def yd:ZK:=d N8.u2 N8.u1 N8.u2
def ye:ZK:=d N8.u3 N8.u1 N8.u2
def yf:ZK:=d N8.u4 N8.u1 N8.u2
def BG:ZK:=d N8.u5 N8.u1 N8.u2
def BH:ZK:=d N8.u6 N8.u1 N8.u2
def yg:ZK:=d N8.u7 N8.u1 N8.u2
def yh:ZK:=d N8.u0 N8.u2 N8.u2
def yi:ZK:=d N8.u1 N8.u2 N8.u2
def BI:ZK:=d N8.u2 N8.u2 N8.u2
def BJ:ZK:=d N8.u3 N8.u2 N8.u2
def BK:ZK:=d N8.u4 N8.u2 N8.u2
def BL:ZK:=d N8.u5 N8.u2 N8.u2
def BM:ZK:=d N8.u6 N8.u2 N8.u2
def BN:ZK:=d N8.u7 N8.u2 N8.u2
def BO:ZK:=d N8.u0 N8.u3 N8.u2
def BP:ZK:=d N8.u1 N8.u3 N8.u2
def BQ:ZK:=d N8.u2 N8.u3 N8.u2
def BR:ZK:=d N8.u3 N8.u3 N8.u2
def yj:ZK:=d N8.u4 N8.u3 N8.u2
def yk:ZK:=d N8.u5 N8.u3 N8.u2
def yl:ZK:=d N8.u6 N8.u3 N8.u2
def ym:ZK:=d N8.u7 N8.u3 N8.u2
def yn:ZK:=d N8.u0 N8.u4 N8.u2
def uX:ZK:=d N8.u1 N8.u4 N8.u2
def uY:ZK:=d N8.u2 N8.u4 N8.u2
def uZ:ZK:=d N8.u3 N8.u4 N8.u2
def oz:ZK:=d N8.u4 N8.u4 N8.u2
def dM:ZK:=d N8.u5 N8.u4 N8.u2
def dN:ZK:=d N8.u6 N8.u4 N8.u2
def dO:ZK:=d N8.u7 N8.u4 N8.u2
def dP:ZK:=d N8.u0 N8.u5 N8.u2
def dQ:ZK:=d N8.u1 N8.u5 N8.u2
def dR:ZK:=d N8.u2 N8.u5 N8.u2
def dS:ZK:=d N8.u3 N8.u5 N8.u2
def dT:ZK:=d N8.u4 N8.u5 N8.u2
def dU:ZK:=d N8.u5 N8.u5 N8.u2
def dV:ZK:=d N8.u6 N8.u5 N8.u2
def dW:ZK:=d N8.u7 N8.u5 N8.u2
def dX:ZK:=d N8.u0 N8.u6 N8.u2
def dY:ZK:=d N8.u1 N8.u6 N8.u2
def dZ:ZK:=d N8.u2 N8.u6 N8.u2
def ce:ZK:=d N8.u3 N8.u6 N8.u2
def ci:ZK:=d N8.u4 N8.u6 N8.u2
def cj:ZK:=d N8.u5 N8.u6 N8.u2
def cq:ZK:=d N8.u6 N8.u6 N8.u2
def cr:ZK:=d N8.u7 N8.u6 N8.u2
def ct:ZK:=d N8.u0 N8.u7 N8.u2
def cu:ZK:=d N8.u1 N8.u7 N8.u2
def cA:ZK:=d N8.u2 N8.u7 N8.u2
def Zdt:ZK:=d N8.u3 N8.u7 N8.u2
def Zdu:ZK:=d N8.u4 N8.u7 N8.u2
def Zdv:ZK:=d N8.u5 N8.u7 N8.u2
def Zdw:ZK:=d N8.u6 N8.u7 N8.u2
def Zdx:ZK:=d N8.u7 N8.u7 N8.u2
def Zdy:ZK:=d N8.u0 N8.u0 N8.u3
def Zdz:ZK:=d N8.u1 N8.u0 N8.u3
def ZdA:ZK:=d N8.u2 N8.u0 N8.u3
def ZdB:ZK:=d N8.u3 N8.u0 N8.u3
def ZdC:ZK:=d N8.u4 N8.u0 N8.u3
def ZdD:ZK:=d N8.u5 N8.u0 N8.u3
def ZdE:ZK:=d N8.u6 N8.u0 N8.u3
def ZdF:ZK:=d N8.u7 N8.u0 N8.u3
def ZdG:ZK:=d N8.u0 N8.u1 N8.u3
def ZdH:ZK:=d N8.u1 N8.u1 N8.u3
def ZdI:ZK:=d N8.u2 N8.u1 N8.u3
def ZdJ:ZK:=d N8.u3 N8.u1 N8.u3
def ZdK:ZK:=d N8.u4 N8.u1 N8.u3
def ZdL:ZK:=d N8.u5 N8.u1 N8.u3
def ZdM:ZK:=d N8.u6 N8.u1 N8.u3
def ZdN:ZK:=d N8.u7 N8.u1 N8.u3
def ZdO:ZK:=d N8.u0 N8.u2 N8.u3
def ZdP:ZK:=d N8.u1 N8.u2 N8.u3
def ZdQ:ZK:=d N8.u2 N8.u2 N8.u3
def ZdR:ZK:=d N8.u3 N8.u2 N8.u3
def ZdS:ZK:=d N8.u4 N8.u2 N8.u3
def ZdT:ZK:=d N8.u5 N8.u2 N8.u3
def ZdU:ZK:=d N8.u6 N8.u2 N8.u3
def ZdV:ZK:=d N8.u7 N8.u2 N8.u3
def Zjx:ZK:=d N8.u0 N8.u3 N8.u3
def Zjy:ZK:=d N8.u1 N8.u3 N8.u3
def Zjz:ZK:=d N8.u2 N8.u3 N8.u3
def ZjA:ZK:=d N8.u3 N8.u3 N8.u3
def ZjB:ZK:=d N8.u4 N8.u3 N8.u3
def ZjC:ZK:=d N8.u5 N8.u3 N8.u3
def ZjD:ZK:=d N8.u6 N8.u3 N8.u3
def ZjE:ZK:=d N8.u7 N8.u3 N8.u3
end
end Go.AI
