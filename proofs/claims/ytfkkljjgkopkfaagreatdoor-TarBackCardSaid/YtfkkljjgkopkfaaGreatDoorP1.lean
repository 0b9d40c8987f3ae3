/- My interpreter of the model's code: definitions alone, no conditions. -/
import Derived.Calls
import GoSem.Step
set_option maxRecDepth 1000000
set_option maxHeartbeats 0
set_option linter.all false
namespace Go.AI
abbrev Zd:=List UInt8
abbrev Zc:= @decide_eq_false
abbrev Ze:= @List.getD_eq_getElem?_getD
abbrev Zj:= @Nat.ble_eq_true_of_le
abbrev Zi:= @decide_eq_true
abbrev Zr:= @of_decide_eq_true
abbrev Zs:= @Nat.le_refl
abbrev Zm:= @List.getElem?_eq_getElem
abbrev ZL:= @List.length_cons
abbrev Zl:= @Nat.zero_add
abbrev Z1:= @List.take_of_length_le
abbrev Zw:= @List.mem_cons_self
abbrev ZK:= @Nat.lt_of_lt_of_le
abbrev Zh:= @List.length_append
abbrev ZC:= @List.mem_cons_of_mem
abbrev Yf:= @Nat.eq_of_beq_eq_true
abbrev ZS:= @Nat.le_of_ble_eq_true
abbrev YL:= @List.drop_zero
abbrev Zx:= @List.length_map
abbrev Yd:= @Nat.mod_eq_of_lt
abbrev XU:= @List.length_nil
abbrev ZU:= @Nat.lt_succ_self
abbrev ZX:= @Array.getElem?_eq_some_iff
abbrev Zo:= @Nat.add_zero
abbrev Zt:= @List.mem_append
abbrev ZN:= @Nat.zero_le
abbrev Yb:= @Nat.le_trans
abbrev X8:= @Nat.add_sub_cancel
abbrev ZY:= @List.mem_cons
abbrev YD:= @Nat.beq_refl
abbrev S0:= @Bool.true_and
abbrev Q2:= @Bool.false_and
abbrev Z8:= @List.getElem?_eq_none
abbrev Zy:= @List.length_take
abbrev Z7:= @Array.getElem?_toList
abbrev ZV:= @Array.getD_eq_getD_getElem?
abbrev YF:= @List.length_eq_zero_iff
abbrev ZW:= @List.getElem?_append_left
abbrev YA:= @Int.ofNat_eq_natCast
abbrev TV:= @List.not_mem_nil
abbrev WE:= @List.cons_append
abbrev XD:= @List.getElem_mem
abbrev Ub:= @Nat.mul_le_mul_right
abbrev UD:= @Nat.lt_of_le_of_lt
abbrev QH:= @Nat.le_of_lt
abbrev Ws:= @List.length_pos_iff
abbrev Ut:= @Nat.sub_self
abbrev Wh:= @Nat.mod_lt
abbrev Uz:= @List.drop_eq_nil_of_le
abbrev Z3:= @List.getElem?_map
abbrev Yq:= @List.append_assoc
abbrev UZ:= @Nat.not_lt_zero
abbrev I9:= @List.getElem_of_mem
abbrev Wq:= @List.drop_succ_cons
abbrev Vb:= @List.take_length
abbrev Vc:= @Nat.lt_irrefl
abbrev Z4:= @Bool.and_eq_true
abbrev Zg:= @List.forall_mem_cons
abbrev Vf:= @Array.mem_of_getElem?
abbrev Ya:= @List.all_eq_true
abbrev Tc:= @Option.isSome_iff_exists
abbrev YK:= @Array.getElem?_setIfInBounds
abbrev VX:= @Bool.eq_iff_iff
abbrev Xp:= @Bool.false_eq_true
abbrev Qs:= @Nat.lt_succ_of_le
abbrev Wj:= @UInt8.toNat_inj
abbrev VK:= @UInt8.lt_iff_toNat_lt
abbrev QI:= @Nat.pow_add
abbrev Xy:= @Nat.min_eq_left
abbrev SP:= @Nat.min_eq_right
abbrev XT:= @Nat.add_assoc
abbrev Vp:= @List.extract_eq_take_drop
abbrev Ua:= @List.mem_of_mem_drop
abbrev Vu:= @List.mem_of_mem_take
abbrev VP:= @Int.toNat_natCast
abbrev Y6:= @Nat.mul_one
abbrev YY:= @Option.map_some
abbrev Wl:= @Array.getElem?_modify
abbrev WU:= @Array.getElem?_eq_getElem
abbrev Vt:= @List.mem_of_getElem?
abbrev X3:= @List.getElem?_toArray
abbrev XJ:= @List.getElem?_replicate
abbrev XY:= @List.replicate_succ
abbrev Vz:= @List.foldl_cons
abbrev Y7:= @List.ext_getElem?
abbrev Z0:= @List.getElem?_append_right
abbrev Y8:= @List.getElem?_drop
abbrev ZD:= @List.map_cons
abbrev UX:= @Bool.or_eq_true
abbrev XC:= @List.flatten_cons
abbrev WR:= @Nat.add_mul
abbrev RH:= @Array.toList_map
abbrev WQ:= @List.getElem?_range
abbrev YC:= @List.mem_map
abbrev SC:= @List.map_replicate
abbrev Vl:= @Nat.zero_mul
abbrev Ve:= @Nat.le_succ
abbrev Rh:= @Nat.div_add_mod
abbrev VE:= @Nat.mul_comm
abbrev XH:= @Option.map_none
abbrev Q4:= @Nat.zero_div
abbrev RM:= @Option.getD_some
abbrev Qz:= @Nat.div_lt_iff_lt_mul
abbrev Uf:= @List.getElem?_cons_zero
abbrev Ue:= @List.getElem?_cons_succ
abbrev YX:= @Bool.not_false
abbrev Rj:= @Nat.le_mul_of_pos_right
abbrev YI:= @Bool.not_true
abbrev XM:= @List.mem_range
abbrev WA:= @Nat.add_sub_cancel_left
abbrev QG:= @Nat.div_one
abbrev Qx:= @Bool.and_eq_true_iff
abbrev RI:= @List.map_map
abbrev TC:= @List.pairwise_cons
abbrev ZO:= @List.map_nil
abbrev T1:= @List.pairwise_map
abbrev VQ:= @List.mem_map_of_mem
abbrev Zn:= @List.mem_singleton
abbrev RJ:= @List.range'_succ
abbrev Qy:= @Bool.or_eq_false_iff
abbrev TU:= @List.mem_filter
abbrev Xq:= @Array.mem_toList_iff
abbrev ZQ:= @List.nil_append
abbrev VY:= @List.getElem?_eq_some_iff
abbrev Rk:= @Nat.one_mul
abbrev Sj:= @List.drop_drop
abbrev U0:= @Option.map_eq_some_iff
abbrev T0:= @List.nodup_append
abbrev SO:= @List.nodup_cons
abbrev Q3:= @Nat.div_lt_of_lt_mul
abbrev Xg:= @List.map_append
abbrev Ri:= @Nat.div_le_self
abbrev Yu:= @List.getElem?_take_of_lt
abbrev Ye:= @List.length_drop
abbrev ZB:= @List.length_replicate
abbrev VR:= @List.set_cons_succ
abbrev Tw:= @List.length_tail
abbrev Tf:= @List.length_set
abbrev ZM:= @List.append_nil
abbrev WF:= @List.take_add_one
abbrev SD:= @UInt8.toNat_ofNat'
abbrev WB:= @Nat.pow_succ
abbrev TD:= @Nat.pow_le_pow_right
abbrev UY:= @List.drop_left
abbrev RK:= @Nat.sub_zero
abbrev UA:= @List.flatten_append
abbrev YV:= @List.getD_cons_zero
abbrev Wt:= @List.take_succ_cons
abbrev Xd:= @List.take_zero
abbrev V9:= @List.getD_cons_succ
abbrev Tm:= @Nat.div_div_eq_div_mul
abbrev TR:= @Nat.and_two_pow_sub_one_eq_mod
abbrev Sk:= @List.take_take
abbrev RL:= @Nat.succ_pos
abbrev Tl:= @List.mem_iff_getElem
abbrev UM:= @Bool.not_eq_true'
abbrev XN:= @List.take_append_drop
abbrev W3:= @List.take_left
abbrev S2:= @List.filterMap_append
abbrev S3:= @List.getElem?_append
end Go.AI
namespace Go.AI
open Go
noncomputable section
structure N8(α:Type) where
 a0:α
 a1:α
 a2:α
 a3:α
 a4:α
 a5:α
 a6:α
 a7:α
namespace N8
variable {α:Type}
def u0(f:α->α)(n:N8 α):N8 α:=N8.rec (λa b c d e g h i=>⟨f a,b,c,d,e,g,h,i⟩) n
def u1(f:α->α)(n:N8 α):N8 α:=N8.rec (λa b c d e g h i=>⟨a,f b,c,d,e,g,h,i⟩) n
def u2(f:α->α)(n:N8 α):N8 α:=N8.rec (λa b c d e g h i=>⟨a,b,f c,d,e,g,h,i⟩) n
def u3(f:α->α)(n:N8 α):N8 α:=N8.rec (λa b c d e g h i=>⟨a,b,c,f d,e,g,h,i⟩) n
def u4(f:α->α)(n:N8 α):N8 α:=N8.rec (λa b c d e g h i=>⟨a,b,c,d,f e,g,h,i⟩) n
def u5(f:α->α)(n:N8 α):N8 α:=N8.rec (λa b c d e g h i=>⟨a,b,c,d,e,f g,h,i⟩) n
def u6(f:α->α)(n:N8 α):N8 α:=N8.rec (λa b c d e g h i=>⟨a,b,c,d,e,g,f h,i⟩) n
def u7(f:α->α)(n:N8 α):N8 α:=N8.rec (λa b c d e g h i=>⟨a,b,c,d,e,g,h,f i⟩) n
def all(x:α):N8 α:=⟨x,x,x,x,x,x,x,x⟩
def proj(i:Nat):N8 α->α:=match i with|0=>a0|1=>a1|2=>a2|3=>a3|4=>a4|5=>a5|6=>a6|_=>a7
def upd(i:Nat):(α->α)->N8 α->N8 α:=match i with|0=>u0|1=>u1|2=>u2|3=>u3|4=>u4|5=>u5|6=>u6|_=>u7
end N8
inductive T(α:Type) where
 |leaf
 |node (l:T α) (v:Option α) (r:T α)
def Iu(f:Nat):Nat->List Bool:= @Nat.rec (λ_=>Nat->List Bool) (λ_=>[]) (λ_ ih n=> @Bool.rec (λ_=>List Bool) (@Bool.rec (λ_=>List Bool) (false::ih (Nat.sub (Nat.div n 2) 1)) (true::ih (Nat.div n 2)) (Nat.beq (Nat.mod n 2) 1)) [] (Nat.beq n 0)) f
def bits(n:Nat):List Bool:=Iu n n
namespace T
variable {α:Type}
def getB(t:T α):List Bool->Option α:=
 @T.rec α (λ_=>List Bool->Option α) (λ_=>none) (λ_ v _ gl gr bs=> @List.rec Bool (λ_=>Option α) v (λb bs _=> @Bool.rec (λ_=>Option α) (gr bs) (gl bs) b) bs) t
def single(x:α)(bs:List Bool):T α:= @List.rec Bool (λ_=>T α) (node leaf (some x) leaf) (λb _ ih=> @Bool.rec (λ_=>T α) (node leaf none ih) (node ih none leaf) b) bs
def setB(x:α)(t:T α):List Bool->T α:=
 @T.rec α (λ_=>List Bool->T α) (λbs=>single x bs) (λl v r sl sr bs=> @List.rec Bool (λ_=>T α) (node l (some x) r) (λb bs _=> @Bool.rec (λ_=>T α) (node l v (sr bs)) (node (sl bs) v r) b) bs) t
def delB(t:T α):List Bool->T α:=
 @T.rec α (λ_=>List Bool->T α) (λ_=>leaf) (λl v r sl sr bs=> @List.rec Bool (λ_=>T α) (node l none r) (λb bs _=> @Bool.rec (λ_=>T α) (node l v (sr bs)) (node (sl bs) v r) b) bs) t
def get(t:T α)(n:Nat):Option α:=getB t (bits n)
def set(t:T α)(n:Nat)(x:α):T α:=setB x t (bits n)
def del(t:T α)(n:Nat):T α:=delB t (bits n)
def Ty:List α->List α
 |[]=>[]
 |[x]=>[x]
 |x::_::l=>x::Ty l
def T6:Nat->List α->T α
 |0,_=>leaf
 |_+1,[]=>leaf
 |f+1,x::l=>node (T6 f (Ty l)) (some x) (T6 f (Ty l.tail))
def ZlA(l:List α):Nat:=List.rec 0 (λ_ _ n=>Nat.succ n) l
def ofList(l:List α):T α:=T6 (ZlA l) l
end T
inductive AV where
 |unk
 |bool (b:Bool)
 |int (k:IntKind) (n:Int)
 |str (s:Zd)
 |nilp
 |ptr (b o:Nat)
 |nils
 |slice (b o len:Nat) (cap:Option Nat)
 |slice0
 |nilm
 |map (b:Nat)
 |func (f:Nat) (first caps:List AV)
 |meth (name:String) (recv:AV)
 |yield (b:Nat)
 |nilf
 |iface (t:Nat) (v:AV)
 |nili
 |agg (cs:List AV)
 |tup (vs:List AV)
 deriving Inhabited
def AV.cells(v:AV):List AV:=
 AV.casesOn v [] (λb=>[.bool b]) (λk n=>[.int k n]) (λs=>[.str s]) [.nilp] (λb o=>[.ptr b o]) [.nils] (λb o l c=>[.slice b o l c]) [.slice0] [.nilm] (λb=>[.map b])
  (λf a b=>[.func f a b]) (λn r=>[.meth n r]) (λb=>[.yield b]) [.nilf] (λt v=>[.iface t v]) [.nili] (λcs=>cs) (λ_=>[])
structure Row where
 elem:Nat
 sz:Nat
 size:Nat
 cells:T AV
 dflt:AV
 fz:Nat
 sm:Bool
 own:Bool
 exact:Bool
structure Ss where
 key:AV
 val:AV
 born:Nat
inductive Obj where
 |row (r:Row)
 |map (es:List Ss) (clock:Nat)
 |siter (s:Zd) (pos:Nat)
 |miter (m:Option Nat) (since:Nat) (cur:Option (Nat×Nat))
 |loop
 |cmap (es:List Ss)
structure Heap where
 nx:Nat
 t:T Obj
 ro:Nat
def Row.get(r:Row)(i:Nat):AV:=Option.rec r.dflt (λv=>v) (r.cells.get i)
def Row.setCells(r:Row)(t:T AV):Row:=⟨r.elem,r.sz,r.size,t,r.dflt,r.fz,r.sm,r.own,r.exact⟩
def Heap.put(H:Heap)(b:Nat)(o:Obj):Heap:=⟨H.nx,H.t.set b o,H.ro⟩
def Heap.new(H:Heap)(o:Obj):Heap:=⟨Nat.succ H.nx,H.t.set H.nx o,H.ro⟩
inductive OR2 where
 |fail
 |call (f:Nat) (args:List AV) (H:Heap)
 |yield (b:Nat) (args:List AV) (H:Heap)
 |pan (v:AV) (H:Heap)
 |recov
 |defer (f:AV) (args:List AV)
inductive OR where
 |val (v:AV) (H:Heap)
 |oth (o:OR2)
abbrev OR.fail:OR:=.oth .fail
abbrev TM:=N8 (N8 (N8 AV))
abbrev Us:=TM->Heap->OR
abbrev WI:=TM->AV
abbrev VJ:=TM->AV->TM
def e(f:N8 AV->AV)(g:N8 (N8 AV)->N8 AV)(h:TM->N8 (N8 AV)):WI:=λtm=>f (g (h tm))
def k(v:AV):WI:=λ_=>v
def d(f:(AV->AV)->N8 AV->N8 AV)(g:(N8 AV->N8 AV)->N8 (N8 AV)->N8 (N8 AV))(h:(N8 (N8 AV)->N8 (N8 AV))->TM->TM):VJ:=λtm v=>h (g (f (λ_=>v))) tm
def d0:VJ:=λtm _=>tm
def SN(n:Nat):WI:=e (N8.proj (n % 8)) (N8.proj (n/8 % 8)) (N8.proj (n/64))
def P8(n:Nat):VJ:=d (N8.upd (n % 8)) (N8.upd (n/8 % 8)) (N8.upd (n/64))
def u8:N8 AV:=N8.all .unk
def u64:N8 (N8 AV):=N8.all u8
def ot:TM:=N8.all u64
def Ts{α:Type}(a:Nat)(k:Nat->α):α:=Nat.rec (k 0) (λp _=>k (Nat.succ p)) a
def OX{α:Type}(n:Int)(k:Int->α):α:=Int.rec (λa=>Ts a λa=>k (.ofNat a)) (λa=>Ts a λa=>k (.negSucc a)) n
def rn(a b:Int):Int:=Int.rec (λx=>Int.rec (λy=>.ofNat (Nat.add x y)) (λ_=>a+b) b) (λ_=>a+b) a
def Ff(a b:Int):Int:=Int.rec (λx=>Int.rec (λy=>cond (Nat.ble y x) (.ofNat (Nat.sub x y)) (a - b)) (λ_=>a - b) b) (λ_=>a - b) a
def B4(a b:Int):Int:=Int.rec (λx=>Int.rec (λy=>.ofNat (Nat.mul x y)) (λ_=>a*b) b) (λ_=>a*b) a
def Zig(a b:Int):Int:=Int.rec (λx=>Int.rec (λy=>.ofNat (Nat.div x y)) (λ_=>a.tdiv b) b) (λ_=>a.tdiv b) a
def Zii(a b:Int):Int:=Int.rec (λx=>Int.rec (λy=>.ofNat (Nat.mod x y)) (λ_=>a.tmod b) b) (λ_=>a.tmod b) a
def rq(a b:Int):Bool:=Int.rec (λx=>Int.rec (λy=>Nat.ble (Nat.succ x) y) (λ_=>false) b) (λx=>Int.rec (λ_=>true) (λy=>Nat.ble (Nat.succ y) x) b) a
def Dw(a b:Int):Bool:=Int.rec (λx=>Int.rec (λy=>Nat.beq x y) (λ_=>false) b) (λx=>Int.rec (λ_=>false) (λy=>Nat.beq x y) b) a
def vq(k:IntKind)(m:Nat)(n:Int):Int:=Int.rec (λa=>cond (Nat.ble m a) (.ofNat (Nat.mod a m)) (.ofNat a)) (λ_=>k.wrap n) n
def oD(k:IntKind)(h:Nat)(n:Int):Int:=Int.rec (λa=>cond (Nat.ble h a) (k.wrap n) (.ofNat a)) (λa=>cond (Nat.ble h a) (k.wrap n) n) n
def ZgN(k:IntKind)(n:Int):Int:=
 IntKind.rec (oD .i8 128 n) (oD .i16 32768 n) (oD .i32 2147483648 n) (oD .i64 9223372036854775808 n) (vq .u8 256 n) (vq .u16 65536 n) (vq .u32 4294967296 n) (vq .u64 18446744073709551616 n) k
def Uh(k:IntKind):Nat:=IntKind.rec 256 65536 4294967296 18446744073709551616 256 65536 4294967296 18446744073709551616 k
def U1(m:Nat)(n:Int):Nat:=Int.rec (λa=>Nat.mod a m) (λa=>Nat.sub (Nat.sub m 1) (Nat.mod a m)) n
def PV(a b:IntKind):Bool:=Nat.beq a.ctorIdx b.ctorIdx
def Qo(v:AV)(k:IntKind->Int->OR):OR:=match v with|.int a b=>k a b|_=>.fail
def SA(v:AV)(k:Nat->OR):OR:=match v with|.int _ (.ofNat b)=>k b|_=>.fail
def EI(v:AV)(k:Bool->OR):OR:=match v with|.bool b=>k b|_=>.fail
def OD(v:AV)(k:Zd->OR):OR:=match v with|.str s=>k s|_=>.fail
def Qp(v:AV)(k:Nat->Nat->OR):OR:=match v with|.ptr b o=>k b o|_=>.fail
def Fu(v:AV)(k:List AV->OR):OR:=match v with|.agg cs=>k cs|_=>.fail
def ic(v:AV)(k:List AV->OR):OR:=match v with|.tup cs=>k cs|_=>.fail
def Pf(v:AV)(n:OR)(k:Nat->AV->OR):OR:=match v with|.iface t x=>k t x|.nili=>n|_=>.fail
def Td(v:AV)(n:OR)(k:Nat->Nat->Nat->Option Nat->OR):OR:=match v with|.slice b o l c=>k b o l c|.nils=>n|_=>.fail
def onZ(v:AV)(z n:OR):OR:=match v with|.slice0=>z|_=>n
def DH(v:AV)(n:OR)(k:Nat->OR):OR:=match v with|.map b=>k b|.nilm=>n|_=>.fail
def Fw(H:Heap)(b:Nat)(k:Obj->OR):OR:=match H.t.get b with|some o=>k o|none=>.fail
def Yx(H:Heap)(b:Nat)(k:Row->OR):OR:=match H.t.get b with|some (.row r)=>k r|_=>.fail
def Tu{α:Type}(x:Option α)(k:α->OR):OR:=match x with|some a=>k a|none=>.fail
def ZJ(b:Bool)(k:OR):OR:=cond b k .fail
def KI(a b:UInt8):Bool:=Nat.beq a.toNat b.toNat
def Mf:Zd->Zd->Bool
 |[],[]=>true
 |a::x,b::y=>cond (KI a b) (Mf x y) false
 |_,_=>false
def Yt:Zd->Zd->Bool
 |_,[]=>false
 |[],_::_=>true
 |a::x,b::y=>cond (Nat.ble (Nat.succ a.toNat) b.toNat) true (cond (KI a b) (Yt x y) false)
def Vw(r:Row)(o:Nat):Nat->List AV
 |0=>[]
 |n+1=>r.get o::Vw r (Nat.succ o) n
def XV(c:T AV):Nat->List AV->T AV
 |_,[]=>c
 |o,v::l=>XV (c.set o v) (Nat.succ o) l
def YN{α:Type}(l:List α):Nat:=List.rec 0 (λ_ _ n=>Nat.succ n) l
def HN:List AV->Nat->Option AV
 |[],_=>none
 |v::_,0=>some v
 |_::l,n+1=>HN l n
def qw:Zd->Nat->Option UInt8
 |[],_=>none
 |v::_,0=>some v
 |_::l,n+1=>qw l n
def Heap.newRow(H:Heap)(elem sz:Nat)(cs:List AV)(exact:Bool):Heap:=
 H.new (.row ⟨elem,sz,YN cs,T.ofList cs,.unk,0,false,true,exact⟩)
def Heap.may(H:Heap)(r:Row)(b:Nat):Bool:=cond r.own (Nat.ble H.ro b) false
section
variable (x y z:WI)
def ZI:Us:=λtm H=>.val (x tm) H
def Zqd:Us:=λtm H=>OD (x tm) λs=>.val (.str s) H
def Yo:Us:=λtm H=>EI (x tm) λb=>.val (cond b (y tm) (z tm)) H
def VN(e:Nat)(cs:List AV):Us:=λ_ H=>ZJ (Nat.ble 1 (YN cs))<|.val (.ptr H.nx 0) (H.newRow e 1 cs true)
def JZ(e n:Nat)(v:AV):Us:=λ_ H=>.val (.ptr H.nx 0) (H.new (.row ⟨e,1,n,.leaf,v,0,false,true,true⟩))
def Jb(e:Nat):Us:=λtm H=>ZJ (Nat.ble 1 (YN (x tm).cells))<|.val (.ptr H.nx 0) (H.newRow e 1 (x tm).cells true)
end
structure oI where
 off:Nat
 sz:Nat
 x:WI
def OQ:Nat->List AV->List AV
 |0,_=>[]
 |_+1,[]=>[]
 |n+1,v::l=>v::OQ n l
def Py:Nat->List AV->List AV
 |0,l=>l
 |_+1,[]=>[]
 |n+1,_::l=>Py n l
def yM(tm:TM)(k:List AV->OR):List oI->List AV->OR:=λps=>
 List.rec (λcells=>k cells) (λp _ ih cells=>
  ZJ (Nat.ble 1 p.sz)<|ZJ (Nat.beq (YN (p.x tm).cells) p.sz) (ZJ (Nat.ble (Nat.add p.off p.sz) (YN cells)) (ih (OQ p.off cells++((p.x tm).cells++Py (Nat.add p.off p.sz) cells))))) ps
def Vx(zs:List AV)(ps:List oI):Us:=λtm H=>ZJ (Nat.ble 1 (YN zs))<|yM tm (λcs=>.val (.agg cs) H) ps zs
def V5(e sz n:Nat)(zs:List AV)(ps:List oI):Us:=λtm H=>ZJ (Nat.ble 1 sz)<|ZJ (Nat.beq (YN zs) (Nat.mul n sz))<|yM tm (λcs=>.val (.slice H.nx 0 n none) (H.newRow e sz cs true)) ps zs
section
variable (x y z:WI)
def ZP:Us:=λtm H=>Qp (x tm) λb o=>Yx H b λr=>ZJ (Nat.ble (Nat.succ o) r.size) (.val (r.get o) H)
def UE(n:Nat):Us:=λtm H=>Qp (x tm) λb o=>Yx H b λr=>ZJ (Nat.ble (Nat.add o n) r.size) (.val (.agg (Vw r o n)) H)
def Y9:AV:=.tup []
def YB(n:Nat):Us:=λtm H=>Qp (x tm) λb o=>Yx H b λr=>
 ZJ (Nat.ble 1 n)<|ZJ (H.may r b) (ZJ (Nat.ble (Nat.add o n) r.size) (ZJ (Nat.ble r.fz o) (ZJ (Nat.beq (YN (y tm).cells) n)
  (.val Y9 (H.put b (.row (r.setCells (XV r.cells o (y tm).cells))))))))
def um(v:AV)(k:OR):OR:=match v with|.ptr .. |.func .. |.iface .. |.yield _=>k|_=>.fail
def Um:Us:=λtm H=>um (x tm) (.val (x tm) H)
def Tp(k:IntKind)(n:Int)(H:Heap):OR:=OX (ZgN k n) λn=>.val (.int k n) H
def Es(x y:AV)(k:IntKind->Int->Int->OR):OR:=Qo x λj a=>Qo y λl b=>ZJ (PV j l) (k j a b)
def Vs:Us:=λtm H=>Es (x tm) (y tm) λk a b=>Tp k (Ff a b) H
def OC:Us:=λtm H=>Es (x tm) (y tm) λk a b=>Tp k (B4 a b) H
def HU:Us:=λtm H=>Es (x tm) (y tm) λk a b=>cond (Dw b 0) .fail (Tp k (Zig a b) H)
def Cf:Us:=λtm H=>Es (x tm) (y tm) λk a b=>cond (Dw b 0) .fail (OX (Zii a b) λn=>.val (.int k n) H)
def N5(f:Nat->Nat->Nat->Nat):Us:=λtm H=>Es (x tm) (y tm) λk a b=>Tp k (.ofNat (f (Uh k) (U1 (Uh k) a) (U1 (Uh k) b))) H
def SU(_ a b:Nat):Nat:=Nat.land a b
def zW(_ a b:Nat):Nat:=Nat.lor a b
def Zcv(_ a b:Nat):Nat:=Nat.xor a b
def Gp(m a b:Nat):Nat:=Nat.land a (Nat.sub (Nat.sub m 1) b)
def Za9:Us:=λtm H=>Qo (x tm) λk a=>SA (y tm) λb=>Tp k (B4 a (.ofNat (Nat.pow 2 (cond (Nat.ble b 64) b 64)))) H
def Zim(a:Int)(b:Nat):Int:=Int.rec (λx=>.ofNat (Nat.div x (Nat.pow 2 b))) (λx=>.negSucc (Nat.div x (Nat.pow 2 b))) a
def ko(k:IntKind):Nat:=IntKind.rec 8 16 32 64 8 16 32 64 k
def O3(a b:Nat):Nat:=cond (Nat.ble a b) a b
def HV:Us:=λtm H=>Qo (x tm) λk a=>SA (y tm) λb=>OX (Zim a (O3 b (ko k))) λn=>.val (.int k n) H
def S9(b:Bool)(H:Heap):OR:=cond b (.val (.bool true) H) (.val (.bool false) H)
def Yk(f:Int->Int->Bool)(g:Zd->Zd->Bool):Us:=λtm H=>match x tm with
 |.int j a=>Qo (y tm) λl b=>ZJ (PV j l) (S9 (f a b) H)
 |.str a=>OD (y tm) λb=>S9 (g a b) H
 |_=>.fail
def XF(a b:Int):Bool:=rq a b
def Ro(a b:Int):Bool:=!rq b a
def U9(a b:Int):Bool:=rq b a
def UQ(a b:Int):Bool:=!rq a b
def W1(a b:Zd):Bool:=Yt b a
def Wd(a b:Zd):Bool:=!Yt a b
def U5(a b:Zd):Bool:=!Yt b a
def Yz:Us:=λtm H=>match x tm with
 |.int j a=>Qo (y tm) λl b=>ZJ (PV j l) (Tp j (rn a b) H)
 |.str a=>OD (y tm) λb=>ZJ (Nat.ble (Nat.add (YN a) (YN b)) 4611686018427387904) (.val (.str (a++b)) H)
 |_=>.fail
def WX(a b:AV):Option Bool:=match a,b with|.int j a,.int k b=>cond (PV j k) (some (Dw a b)) none|_,_=>none
def QJ(a b:AV):Option Bool:=match a,b with|.str a,.str b=>some (Mf a b)|_,_=>none
def gX(a b:AV):Option Bool:=match a,b with|.bool a,.bool b=>some (cond a b (cond b false true))|_,_=>none
def zT(a b:AV):Option Bool:=match a,b with
 |.nilp,.nilp=>some true
 |.nilp,.ptr .. =>some false
 |.ptr ..,.nilp=>some false
 |.ptr b o,.ptr c p=>cond (Nat.beq b c) (some (Nat.beq o p)) none
 |_,_=>none
def kV(a b:AV):Option Bool:=match a,b with|.nils,.nils=>some true|.nils,.slice .. =>some false|.slice ..,.nils=>some false|.nils,.slice0=>some false|.slice0,.nils=>some false|_,_=>none
def eqM(a b:AV):Option Bool:=match a,b with|.nilm,.nilm=>some true|.nilm,.map _=>some false|.map _,.nilm=>some false|_,_=>none
def eqN(a b:AV):Option Bool:=match a,b with|.nilf,.nilf=>some true|.nilf,.func .. =>some false|.func ..,.nilf=>some false|_,_=>none
def zS(lit:Bool)(g:Nat->AV->AV->Option Bool)(a b:AV):Option Bool:=match a,b with
 |.nili,.nili=>cond lit (some true) none
 |.nili,.iface .. =>some false
 |.iface ..,.nili=>some false
 |.iface t v,.iface u w=>cond (Nat.beq t u) (g t v w) (some false)
 |_,_=>none
def vK(P:Program)(f:Nat->AV->AV->Option Bool)(t:Nat)(v w:AV):Option Bool:=match P.info? t with|some i=>cond i.comparable (f t v w) none|none=>none
def ZgV(P:Program)(t:Nat):Option Bool:=match P.underlying t with|some (.struct _)|some (.array _ _)=>some true|some _=>some false|none=>none
def x9(P:Program)(t:Nat)(cs:List AV)(off:Nat)(k:AV->Option Bool):Option Bool:=match P.info? t,ZgV P t with
 |some i,some ag=>cond ag (k (.agg (OQ i.size (Py off cs)))) (match HN cs off with|some v=>k v|none=>none)
 |_,_=>none
def i7(r:Option Bool)(k:Option Bool):Option Bool:=match r with|some b=>cond b k (some false)|none=>none
def GN(P:Program)(f:AV->AV->Option Bool)(e c:Nat)(l m:List AV):List Nat->Option Bool
 |[]=>some true
 |i::is=>x9 P e l (i*c) λa=>x9 P e m (i*c) λb=>i7 (f a b) (GN P f e c l m is)
def Nv(P:Program)(g:Nat->AV->AV->Option Bool)(l m:List AV):List Field->Option Bool
 |[]=>some true
 |f::fs=>cond (f.name== "_") (Nv P g l m fs) (x9 P f.type l f.offset λa=>x9 P f.type m f.offset λb=>i7 (g f.type a b) (Nv P g l m fs))
def oL(a b:AV)(k:List AV->List AV->Option Bool):Option Bool:=match a,b with|.agg l,.agg m=>k l m|_,_=>none
def eqD(P:Program)(lit:Bool)(g:Nat->AV->AV->Option Bool)(t:Nat)(a b:AV)(d:TypeDesc):Option Bool:=match d with
 |.bool=>gX a b
 |.int _=>WX a b
 |.string=>QJ a b
 |.pointer e=>match P.info? e with|some i=>cond (Nat.beq i.size 0) none (zT a b)|none=>none
 |.slice _=>kV a b
 |.map _ _=>eqM a b
 |.func _ _ _=>eqN a b
 |.interface _=>zS lit (vK P g) a b
 |.array n e=>oL a b λl m=>match P.info? e with|some i=>GN P (g e) e i.size l m (List.range n)|none=>none
 |.struct fs=>cond (P.stoodInHeld t) none (oL a b λl m=>Nv P g l m fs.toList)
 |_=>none
def Dg(P:Program):Nat->Nat->AV->AV->Option Bool
 |0,_,_,_=>none
 |d+1,t,a,b=>match P.underlying t with|some u=>eqD P true (Dg P d) t a b u|none=>none
def Wf(f:AV->AV->Option Bool)(neg:Bool):Us:=λtm H=>Tu (f (x tm) (y tm)) λb=>S9 (cond neg (cond b false true) b) H
def S6:Us:=λtm H=>EI (x tm) λb=>.val (.bool (cond b false true)) H
def ux:Us:=λtm H=>Qo (x tm) λk a=>Tp k (Ff 0 a) H
def Zgl:Us:=λtm H=>Qo (x tm) λk a=>Tp k (.ofNat (Nat.sub (Nat.sub (Uh k) 1) (U1 (Uh k) a))) H
def Tx(k:IntKind):Us:=λtm H=>Qo (x tm) λ_ a=>Tp k a H
def Hz:Zd->List AV
 |[]=>[]
 |b::l=>.int .u8 (.ofNat b.toNat)::Hz l
def Ax(e:Nat):Us:=λtm H=>OD (x tm) λs=>.val (.slice H.nx 0 (YN s) none) (H.new (.row ⟨e,1,YN s,T.ofList (Hz s),.unk,0,true,true,false⟩))
def Pn(k:Zd->OR):List AV->OR
 |[]=>k []
 |v::l=>match v with|.int .u8 (.ofNat n)=>Pn (λs=>k (UInt8.ofNat n::s)) l|_=>.fail
def Cg:Us:=λtm H=>onZ (x tm) (.val (.str []) H)<|Td (x tm) (.val (.str []) H) λb o n _=>cond (Nat.beq n 0) (.val (.str []) H) (Yx H b λr=>ZJ (Nat.ble (Nat.add o n) r.size) (Pn (λs=>.val (.str s) H) (Vw r o n)))
def qI:Us:=λtm H=>match x tm with
 |.nilp=>.val .nilp H
 |.ptr b o=>Yx H b λr=>ZJ (Nat.ble (Nat.succ o) r.size) (.val (.ptr b o) H)
 |_=>.fail
def qH(u n:Nat):Us:=λtm H=>match x tm with
 |.nilp=>.val .nilp H
 |.ptr b o=>Yx H b λr=>ZJ r.exact (ZJ (Nat.beq r.elem u) (ZJ (Nat.beq o 0) (ZJ (Nat.ble n r.size) (.val (.ptr b o) H))))
 |_=>.fail
def xQ:Us:=λtm H=>Td (x tm) .fail λb _ _ _=>Yx H b λr=>ZJ (cond r.sm false (H.may r b))<|ZJ (Nat.beq r.fz 0)<|.val (x tm) (H.put b (.row ⟨r.elem,r.sz,r.size,r.cells,r.dflt,r.fz,true,r.own,r.exact⟩))
def j6:Us:=λtm H=>Qo (x tm) λ_ n=>.val (.str (Utf8.encode n).data.toList) H
def VF(t:Nat):Us:=λtm H=>.val (.iface t (x tm)) H
def evs(tm:TM):List WI->List AV
 |[]=>[]
 |f::l=>f tm::evs tm l
def AB(f:Nat)(a b:List WI):Us:=λtm H=>.val (.func f (evs tm a) (evs tm b)) H
def ZlN(n:String)(x:WI):Us:=λtm H=>.val (.meth n (x tm)) H
def mA:Us:=λ_ H=>.val (.map H.nx) (H.new (.map [] 0))
def V4(eq:AV->AV->Option Bool)(k:AV)(no:OR)(yes:AV->OR):List Ss->OR
 |[]=>no
 |e::l=>Option.rec .fail (λt=>cond t (yes e.val) (V4 eq k no yes l)) (eq k e.key)
def N1(eq:AV->AV->Option Bool)(k v:AV)(clock:Nat)(done:List Ss->Nat->OR):List Ss->OR
 |[]=>done [⟨k,v,clock⟩] (Nat.succ clock)
 |e::l=>Option.rec .fail (λt=>cond t (done (⟨k,v,e.born⟩::l) clock) (N1 eq k v clock (λl' c=>done (e::l') c) l)) (eq k e.key)
def oM(o:Obj)(k:List Ss->OR):OR:=match o with|.map es _=>k es|.cmap es=>k es|_=>.fail
def tG(o:Obj)(k:List Ss->Nat->OR):OR:=match o with|.map es c=>k es c|_=>.fail
def J2(eq:AV->AV->Option Bool)(m k v:WI):Us:=λtm H=>DH (m tm) .fail λb=>Fw H b λo=>tG o λes clock=>
 ZJ (Nat.ble H.ro b) (N1 eq (k tm) (v tm) clock (λes c=>.val Y9 (H.put b (.map es c))) es)
def found(ok:Bool)(H:Heap)(v:AV)(b:Bool):OR:=cond ok (.val (.tup [v,.bool b]) H) (.val v H)
def ME(eq:AV->AV->Option Bool)(zv:AV)(ok:Bool)(m k:WI):Us:=λtm H=>DH (m tm) (found ok H zv false) λb=>Fw H b λo=>oM o λes=>
 V4 eq (k tm) (found ok H zv false) (λv=>found ok H v true) es
def jR(H:Heap)(e sz l c:Nat)(zs:List AV):OR:=match zs with
 |[v]=>ZJ (Nat.beq sz 1)<|.val (.slice H.nx 0 l none) (H.new (.row ⟨e,1,c,.leaf,v,0,false,true,true⟩))
 |zs=>ZJ (Nat.beq (YN zs) sz)<|.val (.slice H.nx 0 l none) (H.newRow e sz ((List.replicate c zs).flatten) true)
def Jc(e sz bytes:Nat)(zs:List AV)(l c:WI):Us:=λtm H=>SA (l tm) λl=>SA (c tm) λc=>ZJ (Nat.ble 1 sz)<|ZJ (Nat.ble l c) (ZJ (Nat.ble c 140737488355328)<|ZJ (Nat.ble (Nat.mul c bytes) 140737488355328) (jR H e sz l c zs))
def kr(tm:TM)(x:Option WI)(d top:Nat)(k:Nat->OR):OR:=Option.rec (k d) (λf=>SA (f tm) λn=>ZJ (Nat.ble n top) (k n)) x
def Hj(tm:TM)(lo hi mx:Option WI)(len cap:Nat)(k:Nat->Nat->Nat->OR):OR:=
 kr tm mx cap cap λm=>kr tm hi len m λh=>kr tm lo 0 h λl=>k l h m
def Lj:Nat->Zd->Zd
 |0,_=>[]
 |_+1,[]=>[]
 |n+1,v::l=>v::Lj n l
def Iw:Nat->Zd->Zd
 |0,l=>l
 |_+1,[]=>[]
 |n+1,_::l=>Iw n l
def Wy(x:WI)(lo hi mx:Option WI):Us:=λtm H=>Option.rec (OD (x tm) λs=>Hj tm lo hi none (YN s) (YN s) λl h _=>.val (.str (Iw l (Lj h s))) H) (λ_=>.fail) mx
def Wa(r:Row)(o:Nat)(cap:Option Nat):Nat:=Option.rec (cond (Nat.beq r.sz 1) (Nat.sub r.size o) (Nat.div (Nat.sub r.size o) r.sz)) (λc=>c) cap
def Oa(r:Row)(sz:Nat)(cap:Option Nat):Bool:=Option.rec (Nat.beq r.sz sz) (λ_=>true) cap
def Tt(sz:Nat)(x:WI)(lo hi mx:Option WI):Us:=λtm H=>
 onZ (x tm) (Hj tm lo hi mx 0 0 λ_ _ _=>.val .slice0 H)<|Td (x tm) (Hj tm lo hi mx 0 0 λ_ _ _=>.val .nils H) λb o len cap=>Yx H b λr=>ZJ (Oa r sz cap) (Hj tm lo hi mx len (Wa r o cap) λl h m=>ZJ (Nat.ble l m)<|
  cond (Nat.beq l m) (Option.rec (Option.rec (.val (.slice H.nx 0 (Nat.sub h l) none) ⟨Nat.succ H.nx,H.t,H.ro⟩) (λ_=>.val (.slice b o (Nat.sub h l) (some 0)) H) cap) (λ_=>.val (.slice b o (Nat.sub h l) (some 0)) H) mx)
   (.val (.slice b (Nat.add o (Nat.mul l sz)) (Nat.sub h l) (Option.rec (Option.rec none (λc=>some (Nat.sub c l)) cap) (λ_=>some (Nat.sub m l)) mx)) H))
def QE(n sz:Nat)(x:WI)(lo hi mx:Option WI):Us:=λtm H=>Qp (x tm) λb o=>Hj tm lo hi mx n n λl h m=>
  cond (Nat.beq l m) (.val (.slice b o (Nat.sub h l) (some (Nat.sub m l))) H) (.val (.slice b (Nat.add o (Nat.mul l sz)) (Nat.sub h l) (some (Nat.sub m l))) H)
def YG(n:Nat):Us:=λtm H=>Qp (x tm) λb o=>.val (.ptr b (Nat.add o n)) H
def Za7(o:Nat):Us:=λtm H=>Fu (x tm) λcs=>Tu (HN cs o) λv=>.val v H
def Zqc(o n:Nat):Us:=λtm H=>Fu (x tm) λcs=>.val (.agg (OQ n (Py o cs))) H
def Wn(sz:Nat):Us:=λtm H=>SA (y tm) λi=>Td (x tm) .fail λb o len _=>ZJ (Nat.ble (Nat.succ i) len) (.val (.ptr b (Nat.add o (Nat.mul i sz))) H)
def N7(n sz:Nat):Us:=λtm H=>SA (y tm) λi=>Qp (x tm) λb o=>ZJ (Nat.ble (Nat.succ i) n) (.val (.ptr b (Nat.add o (Nat.mul i sz))) H)
def Xj:Us:=λtm H=>SA (y tm) λi=>OD (x tm) λs=>Tu (qw s i) λb=>Ts b.toNat λn=>.val (.int .u8 (.ofNat n)) H
def Fp(n:Nat):Us:=λtm H=>SA (y tm) λi=>Fu (x tm) λcs=>ZJ (Nat.ble (Nat.succ i) n) (Tu (HN cs i) λv=>.val v H)
def uw(n sz:Nat):Us:=λtm H=>SA (y tm) λi=>Fu (x tm) λcs=>ZJ (Nat.ble (Nat.succ i) n) (.val (.agg (OQ sz (Py (Nat.mul i sz) cs))) H)
def Q5(zv:AV)(ok:Bool)(H:Heap)(v:Option AV):OR:=Option.rec (cond ok (.val (.tup [zv,.bool false]) H) .fail) (λv=>cond ok (.val (.tup [v,.bool true]) H) (.val v H)) v
def Cz(t:Nat)(zv:AV)(ok:Bool):Us:=λtm H=>Pf (x tm) (Q5 zv ok H none) λu v=>Q5 zv ok H (cond (Nat.beq u t) (some v) none)
def qy(P:Program)(ms:Array (String×TypeId))(zv:AV)(ok:Bool):Us:=λtm H=>Pf (x tm) (Q5 zv ok H none) λu v=>Tu (P.info? u) λi=>Q5 zv ok H (Option.rec (some (.iface u v)) (λ_=>none) (Instr.missingMethod ms i.methods))
def Yy(i:Nat):Us:=λtm H=>ic (x tm) λvs=>Tu (HN vs i) λv=>.val v H
def Fk(P:Program)(name:String)(u:Nat)(k:Nat->OR):OR:=
 Tu (P.info? u) λi=>Tu (i.methods.find? (·.name==name)) λm=>ZJ m.path.isEmpty (match m.func with
  |some (g,ptr)=>match P.underlying u with
   |some (.pointer _)=>ZJ ptr (k g)
   |some _=>cond ptr .fail (k g)
   |none=>.fail
  |none=>.fail)
def Zv(f:Nat)(args:List WI):Us:=λtm H=>.oth (.call f (evs tm args) H)
def N6(P:Program)(args:List WI):Us:=λtm H=>match x tm with
 |.func f a b=>.oth (.call f (a++(evs tm args++b)) H)
 |.meth n r=>Pf r .fail λu v=>Fk P n u λg=>.oth (.call g (v::evs tm args) H)
 |.yield b=>.oth (.yield b (evs tm args) H)
 |_=>.fail
def ZeA(P:Program)(n:String)(args:List WI):Us:=λtm H=>Pf (x tm) .fail λu v=>Fk P n u λg=>.oth (.call g (v::evs tm args) H)
def ub(v:AV)(k:Nat->OR):OR:=match v with|.nils=>k 0|.slice0=>k 0|.slice _ _ n _=>k n|.str s=>k (YN s)|_=>.fail
def Ww(H:Heap)(sz:Nat)(v:AV)(n:Nat)(k:List AV->OR):OR:=cond (Nat.beq n 0) (k []) (match v with
 |.slice b o _ _=>Yx H b λr=>ZJ (Nat.ble (Nat.add o (Nat.mul n sz)) r.size) (k (Vw r o (Nat.mul n sz)))
 |.str s=>ZJ (Nat.beq sz 1) (k (Hz (Lj n s)))
 |_=>.fail)
def F5(H:Heap)(e b o len n sz:Nat)(r:Row)(new:List AV):OR:=
 ZJ (Nat.beq r.elem e)<|ZJ (H.may r b)<|ZJ (Nat.ble r.fz (Nat.mul len sz))<|ZJ (Nat.beq (Nat.mul len sz) r.size)<|ZJ (Nat.beq o 0)<|
  .val (.slice H.nx 0 (Nat.add len n) none) ⟨Nat.succ H.nx,(H.t.del b).set H.nx (.row ⟨r.elem,sz,Nat.mul (Nat.add len n) sz,XV r.cells (Nat.mul len sz) new,r.dflt,r.fz,r.sm,true,false⟩),H.ro⟩
def KG(H:Heap)(v:AV)(b o len n sz:Nat)(cap:Option Nat)(r:Row)(new:List AV):OR:=
 cond (Nat.beq n 0) (.val v H) (ZJ (H.may r b) (ZJ (Nat.ble (Nat.add o (Nat.mul (Nat.add len n) sz)) r.size) (ZJ (Nat.ble r.fz (Nat.add o (Nat.mul len sz)))
  (.val (.slice b o (Nat.add len n) cap) (H.put b (.row (r.setCells (XV r.cells (Nat.add o (Nat.mul len sz)) new))))))))
def NG(H:Heap)(e b o len n sz bytes:Nat)(cap:Option Nat)(r:Row)(new:List AV):OR:=
 ZJ (Nat.ble (Nat.mul (Nat.add len n) bytes) 140737488355328)<|ZJ (Nat.ble (Nat.add o (Nat.mul len sz)) r.size)<|Option.rec
  (cond r.exact (ZJ (Nat.beq (Nat.mod o sz) 0) (.val (.slice H.nx 0 (Nat.add len n) none) (H.newRow e sz (Vw r o (Nat.mul len sz)++new) false))) (F5 H e b o len n sz r new))
  (λ_=>.val (.slice H.nx 0 (Nat.add len n) none) (H.newRow e sz (Vw r o (Nat.mul len sz)++new) false)) cap
def Oh(v:AV)(e sz bytes:Nat)(H:Heap)(n:Nat)(new:List AV):OR:=
 onZ v (cond (Nat.beq n 0) (.val .slice0 H) (ZJ (Nat.ble (Nat.mul n bytes) 140737488355328) (.val (.slice H.nx 0 n none) (H.newRow e sz new false))))<|
 Td v (cond (Nat.beq n 0) (.val .nils H) (ZJ (Nat.ble (Nat.mul n bytes) 140737488355328) (.val (.slice H.nx 0 n none) (H.newRow e sz new false)))) λb o len cap=>Yx H b λr=>
  ZJ (Oa r sz cap) (cond (Nat.ble (Nat.add len n) (Wa r o cap)) (KG H v b o len n sz cap r new) (NG H e b o len n sz bytes cap r new))
def WM(e sz bytes:Nat):Us:=λtm H=>ZJ (Nat.ble 1 sz)<|ZJ (Nat.ble 1 bytes)<|ub (y tm) λn=>Ww H sz (y tm) n λnew=>Oh (x tm) e sz bytes H n new
def Oy(e sz bytes:Nat)(zs:List AV):Us:=λtm H=>ZJ (Nat.ble 1 sz)<|ZJ (Nat.ble 1 bytes)<|SA (y tm) λn=>ZJ (Nat.ble (Nat.mul n bytes) 140737488355328)<|Oh (x tm) e sz bytes H n (List.replicate n zs).flatten
def Az(sz:Nat):Us:=λtm H=>ub (y tm) λsn=>Td (x tm) (.val (.int .i64 0) H) λb o dn _=>Ts (O3 dn sn) λn=>Ww H sz (y tm) n λnew=>
 cond (Nat.beq n 0) (.val (.int .i64 0) H) (Yx H b λr=>ZJ (H.may r b) (ZJ (Nat.ble r.fz o) (ZJ (Nat.ble (Nat.add o (Nat.mul n sz)) r.size) (.val (.int .i64 (.ofNat n)) (H.put b (.row (r.setCells (XV r.cells o new))))))))
def mw(sz:Nat)(zs:List AV):Us:=λtm H=>ZJ (Nat.ble 1 sz)<|onZ (x tm) (.val (.tup []) H)<|Td (x tm) (.val (.tup []) H) λb o n _=>Ts n λn=>
 cond (Nat.beq n 0) (.val (.tup []) H) (Yx H b λr=>ZJ (H.may r b) (ZJ (Nat.ble r.fz o) (ZJ (Nat.ble (Nat.add o (Nat.mul n sz)) r.size) (.val (.tup []) (H.put b (.row (r.setCells (XV r.cells o (List.replicate n zs).flatten))))))))
def Xu:Us:=λtm H=>OD (x tm) λs=>Ts (YN s) λn=>.val (.int .i64 (.ofNat n)) H
def Xf:Us:=λtm H=>onZ (x tm) (.val (.int .i64 0) H)<|Td (x tm) (.val (.int .i64 0) H) λ_ _ n _=>Ts n λn=>.val (.int .i64 (.ofNat n)) H
def ZlM:Us:=λtm H=>DH (x tm) (.val (.int .i64 0) H) λb=>Fw H b λo=>tG o λes _=>.val (.int .i64 (.ofNat (YN es))) H
def qz:Us:=λtm H=>Td (x tm) (.val (.int .i64 0) H) λb o _ cap=>Option.rec (Yx H b λr=>ZJ r.exact (ZJ (Nat.beq (Nat.mod o r.sz) 0) (.val (.int .i64 (.ofNat (Wa r o none))) H))) (λc=>.val (.int .i64 (.ofNat c)) H) cap
def min2(mx:Bool)(k:IntKind)(a:Int)(H:Heap):List AV->OR
 |[]=>.val (.int k a) H
 |v::l=>match v with|.int j b=>ZJ (PV j k) (min2 mx k (cond (cond mx (rq a b) (rq b a)) b a) H l)|_=>.fail
def SJ(mx:Bool)(args:List WI):Us:=λtm H=>match evs tm args with
 |.int k a::l=>min2 mx k a H l
 |_=>.fail
def Zba(e:Nat):Us:=λtm H=>SA (y tm) λn=>cond (Nat.beq n 0) (match x tm with|.nilp=>.val (.str []) H|.ptr .. =>.val (.str []) H|_=>.fail)
 (ZJ (Nat.ble n 140737488355328)<|Qp (x tm) λb o=>Yx H b λr=>ZJ (Nat.beq r.elem e)<|ZJ (cond r.sm false (H.may r b)) (ZJ (Nat.ble (Nat.add o n) r.size) (Pn (λs=>.val (.str s)
  (H.put b (.row ⟨r.elem,r.sz,r.size,r.cells,r.dflt,cond (Nat.ble r.fz (Nat.add o n)) (Nat.add o n) r.fz,r.sm,r.own,r.exact⟩))) (Vw r o n))))
def uy:Us:=λtm H=>Td (x tm) (.val .nilp H) λb o _ cap=>Option.rec (Yx H b λr=>ZJ (Nat.ble (Nat.succ o) r.size) (.val (.ptr b o) H)) (λc=>ZJ (Nat.ble 1 c) (.val (.ptr b o) H)) cap
def QD:Us:=λtm H=>Pf (x tm) .fail λ_ _=>.oth (.pan (x tm) H)
def AG:Us:=λ_ _=>.oth .recov
def AA(args:List WI):Us:=λtm _=>.oth (.defer (x tm) (evs tm args))
def ZeB:Us:=λtm H=>DH (x tm) (.val (.ptr H.nx 0) (H.new (.miter none 0 none))) λb=>Fw H b λo=>tG o λ_ c=>.val (.ptr H.nx 0) (H.new (.miter (some b) c none))
def CA:Us:=λtm H=>OD (x tm) λs=>.val (.ptr H.nx 0) (H.new (.siter s 0))
def km(o:Obj)(k:Zd->Nat->OR):OR:=match o with|.siter s pos=>k s pos|_=>.fail
def j0:Us:=λtm H=>Qp (x tm) λb o=>ZJ (Nat.beq o 0)<|ZJ (Nat.ble H.ro b)<|Fw H b λo=>km o λs pos=>
 cond (Nat.ble (Nat.succ pos) (YN s)) (match Utf8.decode ⟨s.toArray⟩ pos with|(c,w)=>.val (.tup [.bool true,.int .i64 (.ofNat pos),.int .i32 c]) (H.put b (.siter s (Nat.add pos w)))) (.val (.tup [.bool false]) H)
def Ul:Us:=λ_ _=>.fail
end
inductive Out where
 |normal|exit (id:Nat)|ret|pan (v:AV)
inductive CR where
 |fail
 |ret (v:AV) (H:Heap)
 |pan (v:AV) (H:Heap)
structure X where
 df:List (AV×List AV)
 rc:Option AV
inductive UG where
 |fail
 |ok (o:Out) (tm:TM) (H:Heap) (x:X)
structure Ctx where
 call:Nat->List AV->Heap->CR
 yld:Nat->List AV->Heap->CR
 rng:AV->(List AV->Heap->CR)->TM->Heap->X->UG
 fu:Nat
 rnd:Bool
abbrev D:=Ctx->TM->Heap->X->UG
def Qu:Nat->List AV->Heap->CR:=λ_ _ _=>.fail
def RS:AV->(List AV->Heap->CR)->TM->Heap->X->UG:=λ_ _ _ _ _=>.fail
def qO(next:TM->Heap->X->UG)(dst:VJ)(tm:TM)(x:X)(r:CR):UG:=match r with
 |.ret v H=>next (dst tm v) H x
 |.pan v H=>.ok (.pan v) tm H x
 |.fail=>.fail
def dB(next:TM->Heap->X->UG)(dst:VJ)(c:Ctx)(tm:TM)(H:Heap)(x:X)(o:OR2):UG:=match o with
 |.call f args H=>qO next dst tm x (c.call f args H)
 |.yield b args H=>qO next dst tm x (c.yld b args H)
 |.pan v H=>.ok (.pan v) tm H x
 |.recov=>cond c.rnd .fail (match x.rc with
  |some v=>next (dst tm v) H ⟨x.df,none⟩
  |none=>next (dst tm .nili) H x)
 |.defer f args=>match f with
  |.func _ _ _=>cond c.rnd .fail (next (dst tm Y9) H ⟨(f,args)::x.df,x.rc⟩)
  |_=>.fail
 |.fail=>.fail
def Kj(next:TM->Heap->X->UG)(dst:VJ)(c:Ctx)(tm:TM)(H:Heap)(x:X)(r:OR):UG:=
 @OR.rec (λ_=>UG) (λv H=>next (dst tm v) H x) (λo=>dB next dst c tm H x o) r
def nS(v:AV)(k:Bool->UG):UG:=match v with|.bool c=>k c|_=>.fail
def Za(f:Us)(dst:VJ)(next:D):D:=λc tm H x=>Kj (next c) dst c tm H x (f tm H)
def Qd(v:AV)(b:Bool)(yes no:UG):UG:=match v with
 |.bool c=> @Bool.rec (λ_=>UG) (@Bool.rec (λ_=>UG) yes no b) (@Bool.rec (λ_=>UG) no yes b) c
 |.tup _=>no
 |_=>.fail
def ZF(g:WI)(b:Bool)(f:Us)(dst:VJ)(next:D):D:=λc tm H x=>
 Qd (g tm) b (Kj (next c) dst c tm H x (f tm H)) (next c (dst tm Y9) H x)
def Zb:D:=λ_ tm H x=>.ok .normal tm H x
def Ll(r:UG)(k:TM->Heap->X->UG):UG:=
 @UG.rec (λ_=>UG) .fail (λo tm H x=> @Out.rec (λ_=>UG) (k tm H x) (λi=>.ok (.exit i) tm H x) (.ok .ret tm H x) (λv=>.ok (.pan v) tm H x) o) r
def Zf(a b:D):D:=λc tm H x=>Ll (a c tm H x) (b c)
def yy(a b:TM->Heap->X->UG)(v:Bool)(tm:TM)(H:Heap)(x:X):UG:= @Bool.rec (λ_=>UG) (b tm H x) (a tm H x) v
def ZH(q:WI)(a b:D):D:=λc tm H x=>nS (q tm) λv=>yy (a c) (b c) v tm H x
def LM(id:Nat)(r:UG):UG:=
 @UG.rec (λ_=>UG) .fail (λo tm H x=> @Out.rec (λ_=>UG) (.ok .normal tm H x) (λi=> @Bool.rec (λ_=>UG) (.ok (.exit i) tm H x) (.ok .normal tm H x) (Nat.beq i id)) (.ok .ret tm H x) (λv=>.ok (.pan v) tm H x) o) r
def Z2(id:Nat)(a:D):D:=λc tm H x=>LM id (a c tm H x)
def Vq(a:TM->Heap->X->UG)(n:Nat):TM->Heap->X->UG:=
 @Nat.rec (λ_=>TM->Heap->X->UG) (λ_ _ _=>.fail) (λ_ ih tm H x=>Ll (a tm H x) ih) n
def WL(a:D):D:=λc tm H x=>Vq (a c) c.fu tm H x
def ZeE(r:UG)(k:Bool):Bool:=match r with
 |.ok .normal _ _ y=>cond (match y.df,y.rc with|[],none=>true|_,_=>false) k false
 |_=>false
def Zqs(body:TM->Heap->X->UG)(b m since:Nat)(dst:VJ)(tm:TM)(H:Heap)(es:List Ss):Bool:=
 List.rec true (λe _ ih=>ZeE (body (dst tm (.tup [.bool true,e.key,e.val])) ⟨H.nx,H.t.set b (.miter (some m) since (some (e.born,since))),H.nx⟩ ⟨[],none⟩) ih) es
def KQ(tm:TM):List VJ->TM
 |[]=>tm
 |d::l=>KQ (d tm .unk) l
def WK(id:Nat):D:=λ_ tm H x=>.ok (.exit id) tm H x
def ZT:D:=λ_ tm H x=>.ok .ret tm H x
def Qg:D:=λ_ _ _ _=>.fail
def uM(tm:TM):List VJ->List AV->TM
 |d::ds,v::vs=>uM (d tm v) ds vs
 |_,_=>tm
inductive th where|free|read|eff
structure PI where
 f:Us
 g:Option (WI×Bool)
 os:List (VJ×WI)
 dst:VJ
 kind:th
 i:Nat
 bef:Nat
mutual
def WZ(n:Nat):AV->Bool
 |.ptr b _=>Nat.ble (Nat.succ b) n
 |.slice b _ _ _=>Nat.ble (Nat.succ b) n
 |.map b=>Nat.ble (Nat.succ b) n
 |.func _ x y=>cond (Pu n x) (Pu n y) false
 |.meth _ v=>WZ n v
 |.yield b=>Nat.ble (Nat.succ b) n
 |.iface _ v=>WZ n v
 |.agg l=>Pu n l
 |.tup l=>Pu n l
 |_=>true
def Pu(n:Nat):List AV->Bool
 |[]=>true
 |v::l=>cond (WZ n v) (Pu n l) false
end
def OG(tm:TM)(os:List (VJ×WI)):TM:=List.rec ot (λp _ ih=>p.1 ih (p.2 tm)) os
def Ou(n:Nat)(tm:TM)(os:List (VJ×WI)):Bool:=List.rec true (λp _ ih=>cond (WZ n (p.2 tm)) ih false) os
mutual
def same:AV->AV->Bool
 |.bool a,.bool b=>cond a b (cond b false true)
 |.int k a,.int j b=>cond (PV k j) (Dw a b) false
 |.str a,.str b=>Mf a b
 |.nilp,.nilp=>true
 |.ptr a b,.ptr c d=>cond (Nat.beq a c) (Nat.beq b d) false
 |.nils,.nils=>true
 |.slice0,.slice0=>true
 |.slice a b c d,.slice e f g h=>cond (Nat.beq a e) (cond (Nat.beq b f) (cond (Nat.beq c g) (match d,h with|none,none=>true|some x,some y=>Nat.beq x y|_,_=>false) false) false) false
 |.nilm,.nilm=>true
 |.map a,.map b=>Nat.beq a b
 |.func f a b,.func g c d=>cond (Nat.beq f g) (cond (sameL a c) (sameL b d) false) false
 |.nilf,.nilf=>true
 |.iface t v,.iface u w=>cond (Nat.beq t u) (same v w) false
 |.nili,.nili=>true
 |.agg a,.agg b=>sameL a b
 |.tup a,.tup b=>sameL a b
 |_,_=>false
def sameL:List AV->List AV->Bool
 |[],[]=>true
 |a::as,b::bs=>cond (same a b) (sameL as bs) false
 |_,_=>false
end
structure RD where
 p:PI
 v:AV
def dD(u:RD)(tm:TM)(H:Heap):Bool:=OR.rec (λv H1=>cond (Nat.beq H1.nx H.nx) (same v u.v) false) (λ_=>false) (u.p.f (OG tm u.p.os) ⟨H.nx,H.t,H.nx⟩)
def still(tm:TM)(H:Heap)(rs:List RD):Bool:=List.rec true (λr _ ih=>cond (dD r tm H) ih false) rs
def Sx(bef:Nat)(rs:List RD):List RD:=List.rec [] (λr _ ih=>cond (Nat.testBit bef r.p.i) ih (r::ih)) rs
def MM(g:Option (WI×Bool))(tm:TM)(yes no:UG):UG:=match g with
 |none=>yes
 |some (e,b)=>Qd (e tm) b yes no
def wrO(o:Obj):Bool:=match o with|.row r=>r.own|.loop=>false|_=>true
def Zbr(o:Option Obj)(k:Obj->UG):UG:=match o with|some x=>cond (wrO x) (k x) .fail|none=>.fail
abbrev PK:=List RD->TM->Heap->X->UG
def GS(p:PI)(nx:PK)(rs:List RD)(tm:TM)(H:Heap)(x:X)(r:OR):UG:=
 OR.rec (λv H1=>cond (Nat.beq H1.nx H.nx) (nx rs (p.dst tm v) H x) (cond (Nat.beq H1.nx (Nat.succ H.nx)) (Zbr (H1.t.get H.nx) λo=>nx rs (p.dst tm v) (H.new o) x) .fail)) (λ_=>.fail) r
def aI(p:PI)(nx:PK)(rs:List RD)(tm:TM)(H:Heap)(x:X):UG:=
 cond (Ou H.nx tm p.os) (GS p nx rs tm H x (p.f (OG tm p.os) ⟨H.nx,.leaf,H.nx⟩)) .fail
def AY(p:PI)(nx:PK)(rs:List RD)(tm:TM)(H:Heap)(x:X)(r:OR):UG:=
 OR.rec (λv H1=>cond (Nat.beq H1.nx H.nx) (nx (⟨p,v⟩::rs) (p.dst tm v) H x) .fail) (λ_=>.fail) r
def Zja(ds:List VJ)(v:AV)(tm:TM)(H:Heap)(x:X):UG:=.ok (.pan v) (KQ tm ds) H x
def pk(ds:List VJ)(p:PI)(nx:PK)(rs:List RD)(tm:TM)(x:X)(r:CR):UG:=match r with
 |.ret v H=>nx (Sx p.bef rs) (p.dst tm v) H x
 |.pan v H=>Zja ds v tm H x
 |.fail=>.fail
def Zl0(ds:List VJ)(p:PI)(nx:PK)(rs:List RD)(c:Ctx)(tm:TM)(x:X)(o:OR2):UG:=match o with
 |.call f args H=>pk ds p nx rs tm x (c.call f args H)
 |.yield b args H=>pk ds p nx rs tm x (c.yld b args H)
 |.pan v H=>Zja ds v tm H x
 |_=>.fail
def zR(ds:List VJ)(p:PI)(nx:PK)(rs:List RD)(c:Ctx)(tm:TM)(x:X)(r:OR):UG:=
 OR.rec (λv H=>nx (Sx p.bef rs) (p.dst tm v) H x) (λo=>Zl0 ds p nx rs c tm x o) r
def PC(ds:List VJ)(p:PI)(nx:PK)(c:Ctx)(rs:List RD)(tm:TM)(H:Heap)(x:X):UG:=
 th.rec (MM p.g tm (aI p nx rs tm H x) (nx rs (p.dst tm Y9) H x))
  (MM p.g tm (AY p nx rs tm H x (p.f (OG tm p.os) ⟨H.nx,H.t,H.nx⟩)) (nx rs (p.dst tm Y9) H x))
  (cond (still tm H rs) (MM p.g tm (zR ds p nx rs c tm x (p.f (OG tm p.os) H)) (nx (Sx p.bef rs) (p.dst tm Y9) H x)) .fail) p.kind
def To(ds:List VJ)(fin:PK)(l:List PI):Ctx->PK:=
 List.rec (λ_ rs tm H x=>cond (still tm H rs) (fin rs tm H x) .fail) (λp _ ih c=>PC ds p (ih c) c) l
def Fo(_:List RD)(tm:TM)(H:Heap)(x:X):UG:=.ok .normal tm H x
def ZiL(l:List RD)(k:UG):UG:=List.rec k (λ_ _ _=>.fail) l
def W5(l:List PI):D:=λc tm H x=>To (l.map (·.dst)) Fo l c [] tm H x
def onV(r:OR)(k:Heap->UG):UG:=OR.rec (λ_ H=>k H) (λ_=>.fail) r
def apart(a b:AV)(k:UG):UG:=match a,b with|.ptr x _,.ptr y _=>cond (Nat.beq x y) .fail k|_,_=>.fail
def DJ(p q:PI)(a b:WI)(rs:List RD)(tm:TM)(H:Heap)(x:X):UG:=
 ZiL (Sx p.bef rs) (ZiL (Sx q.bef rs) (apart (a (OG tm p.os)) (b (OG tm q.os)) (onV (p.f (OG tm p.os) H) λH1=>onV (q.f (OG tm q.os) H1) λH2=>.ok .normal tm H2 x)))
def bU(l:List PI)(p q:PI)(a b:WI):D:=λc tm H x=>To (l.map (·.dst)) (DJ p q a b) l c [] tm H x
section
variable (P:Program)
def uA(f:Value->AV):List Value->List AV
 |[]=>[]
 |v::vs=>f v::uA f vs
def HX:Nat->Value->AV
 |0,_=>.unk
 |d+1,v=>match v with
  |.bool b=>.bool b
  |.int k n=>.int k n
  |.string s=>.str s.data.toList
  |.pointer none=>.nilp
  |.slice none 0 0=>.nils
  |.map none=>.nilm
  |.nilFunc=>.nilf
  |.func (.func f) ⟨[]⟩ ⟨[]⟩=>.func f [] []
  |.nilIface=>.nili
  |.iface t v=>.iface t (HX d v)
  |.agg ⟨cs⟩=>.agg (uA (HX d) cs)
  |.tuple ⟨cs⟩=>.tup (uA (HX d) cs)
  |_=>.unk
def ZlO(v:Value):AV:=HX 20 v
def Zqg(v:Value):Bool:=match v with|.agg _=>false|.tuple _=>false|_=>true
def LS:Nat->Value->Bool
 |0,_=>true
 |d+1,v=>match v with
  |.agg ⟨cs⟩=>cs.all λc=>Zqg c&&LS d c
  |.tuple ⟨cs⟩=>cs.all (LS d)
  |.iface _ v=>LS d v
  |_=>true
def WO(v:Value):AV:=cond (LS 20 v) (ZlO v) .unk
def YZ(o:Operand):WI:=match o with
 |.tmp t=>cond (Nat.ble t 511) (SN t) (k .unk)
 |.const v=>k (WO v)
 |.global g=>cond (Nat.ble (Nat.succ g) P.globals.size) (k (.ptr g 0)) (k .unk)
 |.func f=>k (.func f [] [])
def MO(t:Nat):Bool:=match P.underlying t with|some (.struct _)|some (.array _ _)=>true|_=>false
def Ti(t:Nat)(f:TypeInfo->Us):Us:=match P.info? t with|some i=>f i|none=>Ul
def Zet(t:Nat):Array (String×TypeId):=match P.underlying t with|some (.interface ms)=>ms|_=> #[]
def args(l:Array Operand):List WI:=l.toList.map (YZ P)
def opt(x:Option Operand):Option WI:=x.map (YZ P)
def Zoe(op:BinOp)(x y:WI):Us:=match op with
 |.add=>Yz x y|.sub=>Vs x y|.mul=>OC x y|.quo=>HU x y|.rem=>Cf x y
 |.and=>N5 x y SU|.or=>N5 x y zW|.xor=>N5 x y Zcv|.andNot=>N5 x y Gp
 |.shl=>Za9 x y|.shr=>HV x y
 |.eql=>Ul|.neq=>Ul
 |.lss=>Yk x y XF Yt
 |.gtr=>Yk x y U9 W1
 |.leq=>Yk x y Ro U5
 |.geq=>Yk x y UQ Wd
def Ke(o:Operand):Bool:=match o with|.const _=>true|_=>false
def eqK(t:Nat)(lit neg:Bool)(x y:WI)(d:TypeDesc):Us:=match d with
 |.bool=>Wf x y gX neg
 |.int _=>Wf x y WX neg
 |.string=>Wf x y QJ neg
 |.pointer e=>match P.info? e with|some i=>cond (Nat.beq i.size 0) Ul (Wf x y zT neg)|none=>Ul
 |.slice _=>Wf x y kV neg
 |.map _ _=>Wf x y eqM neg
 |.func _ _ _=>Wf x y eqN neg
 |.interface _=>Wf x y (zS lit (vK P (Dg P 9))) neg
 |.array _ _=>cond (P.eqGuardType P.depth t) Ul (Wf x y (Dg P 10 t) neg)
 |.struct _=>cond (P.eqGuardType P.depth t) Ul (Wf x y (Dg P 10 t) neg)
 |_=>Ul
def Up(t:Nat)(f:TypeDesc->Us):Us:=match P.underlying t with|some d=>f d|none=>Ul
def uQ(f:Array Field->Us)(d:TypeDesc):Us:=match d with|.struct fs=>f fs|_=>Ul
def EY(f:Nat->Us)(d:TypeDesc):Us:=match d with|.slice e=>f e|_=>Ul
def Zmp(f:Nat->Us)(d:TypeDesc):Us:=match d with|.pointer e=>f e|_=>Ul
def Zat(f:(AV->AV->Option Bool)->Us)(d:TypeDesc):Us:=match d with|.string=>f QJ|.int _=>f WX|.bool=>f gX|_=>Ul
def iL(f g:Us)(d:TypeDesc):Us:=match d with|.int _=>f|_=>g
def tU8(f:Us)(d:TypeDesc):Us:=match d with|.int .u8=>f|_=>Ul
def Qv{α:Type}(x:Option α)(f:α->Us):Us:=match x with|some a=>f a|none=>Ul
def bj(b:Builtin)(xs:List Operand)(ts:List TypeId):Us:=match b with
 |.append=>match xs,ts with
  |[s,x],[t,u]=>Up P t<|EY λe=>Ti P e λi=>Qv i.zero λz=>cond (Nat.beq (YN (WO z).cells) i.size) (Up P u<|iL (Oy (YZ P s) (YZ P x) e i.size i.bytes (WO z).cells) (WM (YZ P s) (YZ P x) e i.size i.bytes)) Ul
  |_,_=>Ul
 |.copy=>match xs,ts with
  |[d,s],[t,_]=>Up P t<|EY λe=>Ti P e λi=>Az (YZ P d) (YZ P s) i.size
  |_,_=>Ul
 |.clear=>match xs,ts with
  |[x],[t]=>Up P t<|EY λe=>Ti P e λi=>Qv i.zero λz=>cond (Nat.beq (YN (WO z).cells) i.size) (mw (YZ P x) i.size (WO z).cells) Ul
  |_,_=>Ul
 |.len=>match xs,ts with
  |[x],[t]=>Up P t λd=>match d with|.string=>Xu (YZ P x)|.slice _=>Xf (YZ P x)|.map _ _=>ZlM (YZ P x)|_=>Ul
  |_,_=>Ul
 |.cap=>match xs,ts with
  |[x],[t]=>Up P t λd=>match d with|.slice _=>qz (YZ P x)|_=>Ul
  |_,_=>Ul
 |.min=>SJ false (xs.map (YZ P))
 |.max=>SJ true (xs.map (YZ P))
 |.unsafeString=>match xs,ts with
  |[p,n],[t,_]=>Up P t<|Zmp λe=>Ti P e λi=>cond (Nat.beq i.size 1) (Zba (YZ P p) (YZ P n) e) Ul
  |_,_=>Ul
 |.unsafeSliceData=>match xs with|[x]=>uy (YZ P x)|_=>Ul
 |.panic=>match xs with|[x]=>QD (YZ P x)|_=>Ul
 |.recover=>AG
 |_=>Ul
def bm(c:Call):Us:=match c.callee with
 |.value (.func f)=>Zv f (args P c.args)
 |.value f=>N6 (YZ P f) P (args P c.args)
 |.invoke r m=>ZeA (YZ P r) P m (args P c.args)
 |.builtin b=>bj P b c.args.toList c.argTypes.toList
def ZfC(s d:Nat)(x:WI)(ds dd:TypeDesc):Us:=match ds,dd with
 |.int _,.int k=>Tx x k
 |.string,.string=>Zqd x
 |.int _,.string=>j6 x
 |.string,.slice e=>Up P e<|tU8 (Ax x e)
 |.slice e,.string=>Up P e<|tU8 (Cg x)
 |.pointer u,.unsafePointer=>Ti P u λi=>cond (Nat.ble 1 i.size) (qI x) Ul
 |.unsafePointer,.pointer u=>Ti P u λi=>cond (Nat.ble 1 i.size) (qH x u i.size) Ul
 |.slice _,.slice e=>cond (Nat.beq s d) (Up P e<|tU8 (xQ x)) Ul
 |_,_=>Ul
def Zkr(s d:Nat)(x:WI):Us:=Up P s λds=>Up P d λdd=>ZfC P s d x ds dd
def Zgh(n:String)(a b:List Operand):Us:=match a,b with|[x],[]=>ZlN n (YZ P x)|_,_=>Ul
def PA(place:Nat->Option (Nat×Nat))(p:Nat×Operand):oI:=match place p.1 with
 |some (o,s)=>⟨o,s,YZ P p.2⟩
 |none=>⟨0,0,YZ P p.2⟩
def ZcM(kd:IntKind)(m:Int):List Value->Bool
 |[]=>true
 |v::l=>match v with|.int j n=>cond (PV kd j) (cond (Dw m n) (ZcM kd m l) false) false|_=>false
def cO(t:Nat)(l:List Value)(cs:List AV):Us:=match l with
 |.int kd m::l'=>cond (Nat.ble 8 (YN l')) (cond (ZcM kd m l') (JZ t (Nat.succ (YN l')) (.int kd m)) (VN t cs)) (VN t cs)
 |_=>VN t cs
def ZiR(hi mx:Option Operand):Bool:=match mx,hi with|some _,none=>false|_,_=>true
def Uc(o:Op):Us:=match o with
 |.move x=>ZI (YZ P x)
 |.assign x=>ZI (YZ P x)
 |.pick c a b=>Yo (YZ P c) (YZ P a) (YZ P b)
 |.alloc t=>Ti P t λi=>Qv i.zero λz=>cO t z.cells.toList (WO z).cells
 |.box t x=>Jb (YZ P x) t
 |.build t ps=>Ti P t λi=>Qv i.zero λz=>Up P t λd=>match d with
  |.struct fs=>Qv (fs.toList.mapM λf=>(P.info? f.type).map λi=>(f.offset,i.size)) λplaces=>Vx (WO z).cells (ps.toList.map (PA P (places.toArray[·]?)))
  |.array _ e=>Ti P e λj=>Vx (WO z).cells (ps.toList.map (PA P λi=>some (i*j.size,j.size)))
  |_=>Ul
 |.buildSlice t n ps=>Up P t<|EY λe=>Ti P e λj=>Qv j.zero λz=>
   cond (Nat.ble (Nat.mul n j.size) 16777216) (V5 e j.size n ((List.replicate n (WO z).cells).flatten) (ps.toList.map (PA P λi=>some (i*j.size,j.size)))) Ul
 |.load t a=>Ti P t λi=>Up P t λ_=>cond (MO P t) (UE (YZ P a) i.size) (ZP (YZ P a))
 |.store t a x=>Ti P t λi=>YB (YZ P a) (YZ P x) i.size
 |.nilCheck x=>Um (YZ P x)
 |.binOp op t x y _=>match op with
  |.eql=>Up P t (eqK P t (Ke x||Ke y) false (YZ P x) (YZ P y))
  |.neq=>Up P t (eqK P t (Ke x||Ke y) true (YZ P x) (YZ P y))
  |op=>Zoe op (YZ P x) (YZ P y)
 |.unOp op _ x=>match op with|.neg=>ux (YZ P x)|.not=>S6 (YZ P x)|.xor=>Zgl (YZ P x)|_=>Ul
 |.convert s d x=>Zkr P s d (YZ P x)
 |.makeInterface t x=>Up P t λd=>match d with|.interface _=>Ul|_=>VF (YZ P x) t
 |.makeFunc fn a b=>match fn with
  |.func f=>AB f (args P a) (args P b)
  |.method n=>Zgh P n a.toList b.toList
  |_=>Ul
 |.makeMap _ r=>match r with|none=>mA|some _=>Ul
 |.mapUpdate t m k v=>Up P t λd=>match d with|.map kt _=>Up P kt<|Zat λeq=>J2 eq (YZ P m) (YZ P k) (YZ P v)|_=>Ul
 |.insert t m k v=>Up P t λd=>match d with|.map kt _=>Up P kt<|Zat λeq=>J2 eq (YZ P m) (YZ P k) (YZ P v)|_=>Ul
 |.lookup t m k ok=>Up P t λd=>match d with
  |.map kt e=>Up P kt<|Zat λeq=>Ti P e λi=>Qv i.zero λz=>ME eq (WO z) ok (YZ P m) (YZ P k)
  |_=>Ul
 |.makeSlice t l c=>Up P t<|EY λe=>Ti P e λi=>Qv i.zero λz=>Jc e i.size i.bytes (WO z).cells (YZ P l) (YZ P c)
 |.slice t x lo hi mx=>cond (ZiR hi mx) (Up P t λd=>match d with
  |.string=>Wy (YZ P x) (opt P lo) (opt P hi) (opt P mx)
  |.slice e=>Ti P e λi=>Tt i.size (YZ P x) (opt P lo) (opt P hi) (opt P mx)
  |.array n e=>Ti P e λi=>QE n i.size (YZ P x) (opt P lo) (opt P hi) (opt P mx)
  |_=>Ul) Ul
 |.fieldAddr t x f=>Up P t<|uQ λfs=>Qv fs[f]? λg=>Ti P g.type λi=>cond (Nat.ble 1 i.size) (YG (YZ P x) g.offset) Ul
 |.field t x f=>Up P t<|uQ λfs=>Qv fs[f]? λg=>Ti P g.type λi=>Up P g.type λ_=>cond (MO P g.type) (Zqc (YZ P x) g.offset i.size) (Za7 (YZ P x) g.offset)
 |.indexAddr t x i=>Up P t λd=>match d with
  |.slice e=>Ti P e λj=>Wn (YZ P x) (YZ P i) j.size
  |.array n e=>Ti P e λj=>N7 (YZ P x) (YZ P i) n j.size
  |_=>Ul
 |.index t x i=>Up P t λd=>match d with
  |.string=>Xj (YZ P x) (YZ P i)
  |.array n e=>Ti P e λj=>Up P e λ_=>cond (MO P e) (uw (YZ P x) (YZ P i) n j.size) (cond (Nat.beq j.size 1) (Fp (YZ P x) (YZ P i) n) Ul)
  |_=>Ul
 |.typeAssert x _ t ok=>Ti P t λi=>Qv i.zero λz=>Up P t λd=>match d with
  |.interface _=>qy (YZ P x) P (Zet P t) (WO z) ok
  |_=>Cz (YZ P x) t (WO z) ok
 |.extract x i=>Yy (YZ P x) i
 |.call c=>bm P c
 |.defer c=>match c.callee with
  |.value f=>AA (YZ P f) (args P c.args)
  |_=>Ul
 |.panic x=>QD (YZ P x)
 |.range t x=>Up P t λd=>match d with|.string=>CA (YZ P x)|.map _ _=>ZeB (YZ P x)|_=>Ul
 |.next x b=>cond b (j0 (YZ P x)) Ul
 |_=>Ul
def PW(o:Op):th:=match o with
 |.load .. |.lookup .. =>.read
 |.slice t _ _ _ _=>match P.underlying t with|some (.slice _)=>.read|_=>.free
 |.convert s d _=>match P.underlying s,P.underlying d with|some (.slice _),some (.slice _)=>.eff|some (.slice _),_=>.read|_,_=>.free
 |.call c=>match c.callee,c.argTypes.toList with
  |.builtin b,ts=>match b with
   |.len=>(match ts with|[t]=>(match P.underlying t with|some (.map _ _)=>.read|_=>.free)|_=>.free)
   |.cap|.unsafeSliceData=>.read|.min|.max=>.free|_=>.eff
  |_,_=>.eff
 |.assign _|.store .. |.mapUpdate .. |.insert .. |.mapEntry .. |.entryStore .. |.panic _|.defer _|.next .. |.range .. |.entry _=>.eff
 |_=>.free
def Sd(ops:Array Oper)(o:Oper):Option (WI×Bool):=match o.guard with
 |none=>none
 |some (j,b)=>match(ops[j]?).bind (·.dst) with|some d=>some (YZ P (.tmp d),b)|none=>some (k .unk,b)
def UN(x:Option Nat):VJ:=match x with|some d=>cond (Nat.ble d 511) (P8 d) d0|none=>d0
def mM(ops:Array Oper):List Oper->D
 |[]=>Zb
 |o::l=>match Sd P ops o with
  |none=>Za (Uc P o.op) (UN o.dst) (mM ops l)
  |some (g,b)=>ZF g b (Uc P o.op) (UN o.dst) (mM ops l)
def Hh(acc:List (Nat×Nat))(o:Oper):Nat:=o.after.toList.foldl (λs e=>cond (Region.binds .any e) (Nat.lor (Nat.lor s (Nat.pow 2 e.on)) ((acc.lookup e.on).getD 0)) s) 0
def vC:List Oper->Nat->List (Nat×Nat)->List (Oper×Nat×Nat)
 |[],_,_=>[]
 |o::l,i,acc=>(o,i,Hh acc o)::vC l (i+1) ((i,Hh acc o)::acc)
def uS(l:List Operand):List Nat:=l.filterMap λx=>match x with|.tmp t=>some t|_=>none
def UF(o:Oper):List (VJ×WI):=(uS o.op.operands.toList).filterMap λt=>cond (Nat.ble t 511) (some (P8 t,SN t)) none
def WP(ops:Array Oper)(x:Oper×Nat×Nat):PI:=⟨Uc P x.1.op,Sd P ops x.1,UF x.1,UN x.1.dst,PW P x.1.op,x.2.1,x.2.2⟩
def rI(k:th):Bool:=th.rec false false true k
structure SI where
 i:Nat
 lk:List Nat
 d:Option Nat
 eff:Bool
 bef:Nat
 x:Oper×Nat×Nat
def Rt(ops:Array Oper)(o:Oper):List Nat:=uS o.op.operands.toList++(match o.guard with|some (j,_)=>((ops[j]?).bind (·.dst)).toList|none=>[])
def Nb(ops:Array Oper)(x:Oper×Nat×Nat):SI:=⟨x.2.1,Rt ops x.1,x.1.dst,rI (PW P x.1.op),x.2.2,x⟩
def BL:Nat->List SI->Nat->List SI
 |0,_,_=>[]
 |f+1,todo,done=>
  let ready:=todo.filter λp=>Nat.beq (Nat.land p.bef done) p.bef
  match ready.find? (λp=>cond p.eff false true) with
  |some p=>p::BL f (todo.filter λq=>cond (Nat.beq q.i p.i) false true) (Nat.lor done (Nat.pow 2 p.i))
  |none=>match ready with
   |p::_=>p::BL f (todo.filter λq=>cond (Nat.beq q.i p.i) false true) (Nat.lor done (Nat.pow 2 p.i))
   |[]=>[]
def bit(n:Nat):Nat:=Nat.pow 2 n
def K9(l:List Nat):Nat:=List.rec 0 (λt _ ih=>Nat.lor (bit t) ih) l
def ZhF(d:Option Nat):Nat:=match d with|some t=>bit t|none=>0
def dOk(d:Option Nat)(sm:Nat):Bool:=match d with|some t=>cond (Nat.testBit sm t) false true|none=>true
def Zeh(ws:List (Nat×Nat))(im bef t:Nat):Bool:=ws.all λx=>cond (Nat.beq x.1 t) (cond (Nat.testBit im x.2) (Nat.testBit bef x.2) true) true
def vJ(i:Nat)(o:Oper):Bool:=o.after.toList.all λe=>cond (Region.binds .any e) (Nat.ble (Nat.succ e.on) i) true
def Zbe(p:SI)(d:Option Nat):Bool:=match d with|some t=>cond (p.lk.all λs=>cond (Nat.beq s t) false true) (match p.d with|some s=>cond (Nat.beq s t) false true|none=>true) false|none=>true
def ZcO(l0:List SI)(q:SI)(im:Nat):Bool:=l0.all λp=>cond (Nat.testBit im p.i) (cond (Nat.testBit q.bef p.i) true (Zbe p q.d)) true
def jS(l0:List SI)(q:SI)(sm im:Nat):Bool:=cond (dOk q.d (Nat.lor sm (K9 q.lk))) true (cond q.eff (ZcO l0 q im) false)
def Kg(ws:List (Nat×Nat))(l0:List SI):List SI->Nat->Nat->Nat->Nat->Bool
 |[],_,_,im,all=>Nat.beq im all
 |q::l,em,sm,im,all=>cond (Nat.beq (Nat.land q.bef em) em) (cond (jS l0 q sm im) (cond (q.lk.all (Zeh ws im q.bef)) (cond (Nat.testBit im q.i) false
   (Kg ws l0 l (cond q.eff (Nat.lor em (bit q.i)) em) (Nat.lor (Nat.lor sm (K9 q.lk)) (ZhF q.d)) (Nat.lor im (bit q.i)) all)) false) false) false
def Pp(l:List SI):List (Nat×Nat):=l.filterMap λq=>match q.d with|some t=>some (t,q.i)|none=>none
def Cw(l:List SI):Option (List SI×SI×SI):=match l.reverse with|b::a::r=>some (r.reverse,a,b)|_=>none
def RE(o:Oper):Option WI:=match o.op,o.guard,o.dst with|.store _ a _,none,none=>some (YZ P a)|_,_,_=>none
def mN(ops:Array Oper)(ws:List (Nat×Nat))(l0:List SI)(all:Nat)(x:Option (List SI×SI×SI)):D:=match x with
 |some (r,a,b)=>match RE P a.x.1,RE P b.x.1 with
  |some e1,some e2=>cond (Kg ws l0 (r++[a]) 0 0 0 (Nat.xor all (bit b.i))) (cond (Kg ws l0 (r++[b]) 0 0 0 (Nat.xor all (bit a.i)))
    (bU (r.map λq=>WP P ops q.x) (WP P ops a.x) (WP P ops b.x) e1 e2) Qg) Qg
  |_,_=>Qg
 |none=>Qg
def Ai(ops:Array Oper):List SI:=BL ops.size ((vC ops.toList 0 []).map (Nb P ops)) 0
def uE(ops:Array Oper)(l:List SI):D:=
 cond (Kg (Pp l) l l 0 0 0 (Nat.sub (bit ops.size) 1)) (W5 (l.map λq=>WP P ops q.x)) (mN P ops (Pp l) l (Nat.sub (bit ops.size) 1) (Cw l))
def mS(ops:Array Oper):D:=
 cond (ops.toList.zipIdx.all λx=>vJ x.2 x.1) (uE P ops (Ai P ops)) Qg
def zQ:Code->List Nat
 |.region _ ops _=>ops.toList.filterMap (·.dst)
 |.seq a b=>zQ a++zQ b
 |.cond _ a b=>zQ a++zQ b
 |.block _ a=>zQ a
 |.loop a=>zQ a
 |.scope a=>zQ a
 |.rangeFunc _ _ _ _=>[]
 |_=>[]
def Cy:Code->Option (Operand×Option Nat)
 |.seq a _=>Cy a
 |.region _ ops false=>match ops.toList with
  |o::_=>match o.op,o.guard with|.next x false,none=>some (x,o.dst)|_,_=>none
  |[]=>none
 |_=>none
def bD(c:Code):D×D:=
 Code.rec (motive:=λ_=>D×D) (Zb,Qg)
  (λ_ ops d=>(cond d (mS P ops) (mM P ops ops.toList),cond d Qg (mM P ops ops.toList.tail)))
  (λ_ _ a b=>(Zf a.1 b.1,Zf a.2 b.1))
  (λq _ _ a b=>(ZH (YZ P q) a.1 b.1,Qg))
  (λid _ a=>(Z2 id a.1,Qg))
  (λb a=>(match Cy b with|some _=>Qg|none=>WL a.1,Qg))
  (λf ps _ _ a b=>(Qg,Qg))
  (λid=>(WK id,Qg))
  (λ_ a=>(a.1,Qg))
  (λ_=>(Zb,Qg))
  (λ_=>(Qg,Qg))
  (ZT,Qg)
  (λ_=>(Qg,Qg)) c
def comp(c:Code):D:=(bD P c).1
end
def params:List VJ:=[d N8.u0 N8.u0 N8.u0,d N8.u1 N8.u0 N8.u0,d N8.u2 N8.u0 N8.u0,d N8.u3 N8.u0 N8.u0,d N8.u4 N8.u0 N8.u0,d N8.u5 N8.u0 N8.u0,d N8.u6 N8.u0 N8.u0,d N8.u7 N8.u0 N8.u0,
 d N8.u0 N8.u1 N8.u0,d N8.u1 N8.u1 N8.u0,d N8.u2 N8.u1 N8.u0,d N8.u3 N8.u1 N8.u0,d N8.u4 N8.u1 N8.u0,d N8.u5 N8.u1 N8.u0,d N8.u6 N8.u1 N8.u0,d N8.u7 N8.u1 N8.u0]
def Qb(as:List AV):TM:=uM ot params as
structure CF where
 rs:List (WI×Option (Nat×Bool))
 body:D
def Zjh(tm:TM)(H:Heap)(r:WI×Option (Nat×Bool))(k:AV->CR):CR:=match r.2 with
 |none=>k (r.1 tm)
 |some (n,ag)=>match r.1 tm with
  |.ptr b o=>match H.t.get b with
   |some (.row r)=>cond (Nat.ble (Nat.add o n) r.size) (cond ag (k (.agg (Vw r o n))) (k (r.get o))) .fail
   |_=>.fail
  |_=>.fail
def IL(tm:TM)(H:Heap)(k:List AV->CR):List (WI×Option (Nat×Bool))->CR
 |[]=>k []
 |r::l=>Zjh tm H r λv=>IL tm H (λvs=>k (v::vs)) l
def results(rs:List (WI×Option (Nat×Bool)))(tm:TM)(H:Heap):CR:=
 IL tm H (λvs=>match vs with|[v]=>.ret v H|vs=>.ret (.tup vs) H) rs
inductive DR where
 |fail
 |ret (v:AV) (H:Heap) (rec:Bool)
 |pan (v:AV) (H:Heap) (rec:Bool)
def Im(rc:Option AV)(x:X):Bool:=match rc,x.rc with|some _,none=>true|_,_=>false
def deferred(dcall:Option AV->Nat->List AV->Heap->DR)(rs:List (WI×Option (Nat×Bool)))(tm:TM):List (AV×List AV)->Option AV->Heap->CR
 |[],none,H=>results rs tm H
 |[],some v,H=>.pan v H
 |d::l,pn,H=>match d.1 with
  |.func g a b=>match dcall pn g (a++(d.2++b)) H with
   |.ret _ H rec=>deferred dcall rs tm l (cond rec none pn) H
   |_=>.fail
  |_=>.fail
def EK(dcall:Option AV->Nat->List AV->Heap->DR)(rs:List (WI×Option (Nat×Bool)))(r:UG):CR:=match r with
 |.ok .normal tm H x=>match x.df with|[]=>results rs tm H|df=>deferred dcall rs tm df none H
 |.ok .ret tm H x=>match x.df with|[]=>results rs tm H|df=>deferred dcall rs tm df none H
 |.ok (.pan v) tm H x=>match x.df with|[]=>.pan v H|df=>deferred dcall rs tm df (some v) H
 |_=>.fail
def AP(rc:Option AV)(rs:List (WI×Option (Nat×Bool)))(r:UG):DR:=match r with
 |.ok .normal tm H x=>match x.df,results rs tm H with|[],.ret v H=>.ret v H (Im rc x)|_,_=>.fail
 |.ok .ret tm H x=>match x.df,results rs tm H with|[],.ret v H=>.ret v H (Im rc x)|_,_=>.fail
 |.ok (.pan v) _ H x=>match x.df with|[]=>.pan v H (Im rc x)|_=>.fail
 |_=>.fail
def EJ{α:Type}(d:α)(fs:T CF)(f:Nat)(k:CF->α):α:=match fs.get f with|some cf=>k cf|none=>d
def jI(r:Option CR)(k:CR):CR:=Option.rec k (λr=>r) r
def ZA(lib:Nat->List AV->Heap->Option CR)(fs:T CF)(Zk:Nat)(n:Nat):Nat->List AV->Heap->CR:=
 @Nat.rec (λ_=>Nat->List AV->Heap->CR) (λ_ _ _=>.fail) (λ_ ih f args H=>jI (lib f args H) (EJ .fail fs f λcf=>
  EK (λpn g as H=>EJ .fail fs g λcg=>AP pn cg.rs (cg.body ⟨ih,Qu,RS,Zk,false⟩ (Qb as) H ⟨[],pn⟩))
   cf.rs (cf.body ⟨ih,Qu,RS,Zk,false⟩ (Qb args) H ⟨[],none⟩))) n
def oH(n:Nat)(d:Option Nat):Bool:=match d with|some t=>Nat.ble (Nat.succ t) n|none=>true
def KL(n:Nat)(c:Code):Bool:=
 Code.rec (motive:=λ_=>Bool) true (λ_ ops _=>ops.toList.all λo=>oH n o.dst) (λ_ _ a b=>cond a b false) (λ_ _ _ a b=>cond a b false) (λ_ _ a=>a) (λ_ a=>a)
  (λ_ ps _ _ a b=>cond (ps.toList.all λt=>oH n (some t)) (cond a b false) false) (λ_=>true) (λ_ a=>a) (λ_=>true) (λ_=>true) true (λ_=>true) c
def FG(P:Program)(r:ResultVar):Bool:=match r with|.tmp _=>true|.cell _ t=>(P.info? t).isSome&&(P.underlying t).isSome&&Nat.ble 1 (P.cellsOf t)
def Db(P:Program)(f:Func):CF:=
 ⟨f.results.toList.map λr=>match r with|.tmp t=>(YZ P (.tmp t),none)|.cell a t=>(YZ P (.tmp a),some (P.cellsOf t,MO P t)),
  match f.body with|some c=>cond (f.results.toList.all (FG P)) (cond (KL f.ntmps c) (comp P c) Qg) Qg|none=>Qg⟩
def ZrH(P:Program):T CF:=T.ofList (P.funcs.toList.map (Db P))
def nI(k:IntKind)(n:Nat):AV:=.int k (.ofNat n)
def ga{α:Type}:Nat->N8 α->α
 |0=>N8.a0|1=>N8.a1|2=>N8.a2|3=>N8.a3|4=>N8.a4|5=>N8.a5|6=>N8.a6|_=>N8.a7
def gu{α:Type}:Nat->(α->α)->N8 α->N8 α
 |0=>N8.u0|1=>N8.u1|2=>N8.u2|3=>N8.u3|4=>N8.u4|5=>N8.u5|6=>N8.u6|_=>N8.u7
def ge(i j k:Nat):WI:=e (ga i) (ga j) (ga k)
def gs(i j k:Nat):VJ:=d (gu i) (gu j) (gu k)
def Z6:=ge 0 0 0
def Xn:=ge 1 0 0
def Va:=ge 2 0 0
def V0:=ge 3 0 0
def Xo:=ge 4 0 0
def Xi:=ge 5 0 0
def XL:=ge 6 0 0
def XE:=ge 7 0 0
def Xt:=ge 0 1 0
def Wv:=ge 1 1 0
def YH:=ge 2 1 0
def Y1:=ge 3 1 0
def Y2:=ge 4 1 0
def YS:=ge 5 1 0
def Xl:=ge 6 1 0
def Xs:=ge 7 1 0
def Xr:=ge 0 2 0
def XK:=ge 1 2 0
def X1:=ge 2 2 0
def X6:=ge 3 2 0
def WC:=ge 4 2 0
def Vd:=ge 5 2 0
def W6:=ge 6 2 0
def W7:=ge 7 2 0
def WG:=ge 0 3 0
def Vv:=ge 1 3 0
def VA:=ge 2 3 0
def VB:=ge 3 3 0
def Vg:=ge 4 3 0
def W8:=ge 5 3 0
def Uv:=ge 6 3 0
def Uw:=ge 7 3 0
def UU:=ge 0 4 0
def U6:=ge 1 4 0
def U7:=ge 2 4 0
def U8:=ge 3 4 0
def Rc:=ge 4 4 0
def SR:=ge 5 4 0
def Sa:=ge 6 4 0
def Sb:=ge 7 4 0
def Sn:=ge 0 5 0
def SG:=ge 1 5 0
def Sc:=ge 2 5 0
def S4:=ge 3 5 0
def So:=ge 4 5 0
def Re:=ge 5 5 0
def Qc:=ge 6 5 0
def RO:=ge 7 5 0
def QV:=ge 0 6 0
def Pq:=ge 1 6 0
def OY:=ge 2 6 0
def Pr:=ge 3 6 0
def RP:=ge 4 6 0
def OZ:=ge 5 6 0
def Ot:=ge 6 6 0
def Nh:=ge 7 6 0
def QW:=ge 0 7 0
def Ni:=ge 1 7 0
def RQ:=ge 2 7 0
def Nj:=ge 3 7 0
def Q9:=ge 4 7 0
def O0:=ge 5 7 0
def Nk:=ge 6 7 0
def QX:=ge 7 7 0
def Nl:=ge 0 0 1
def Ps:=ge 1 0 1
def RR:=ge 2 0 1
def NV:=ge 3 0 1
def NW:=ge 4 0 1
def K0:=ge 5 0 1
def LD:=ge 6 0 1
def Kk:=ge 7 0 1
def PR:=ge 0 1 1
def Kl:=ge 1 1 1
def M4:=ge 2 1 1
def K1:=ge 3 1 1
def Ii:=ge 4 1 1
def Ht:=ge 5 1 1
def LF:=ge 6 1 1
def LG:=ge 7 1 1
def Km:=ge 0 2 1
def Ij:=ge 1 2 1
def K2:=ge 2 2 1
def K3:=ge 3 2 1
def Ql:=ge 4 2 1
def Mo:=ge 5 2 1
def Ik:=ge 6 2 1
def Kn:=ge 7 2 1
def M5:=ge 0 3 1
def Ko:=ge 1 3 1
def LH:=ge 2 3 1
def K4:=ge 3 3 1
def LI:=ge 4 3 1
def Hu:=ge 5 3 1
def G4:=ge 6 3 1
def G5:=ge 7 3 1
def Em:=ge 0 4 1
def En:=ge 1 4 1
def Eo:=ge 2 4 1
def G6:=ge 3 4 1
def NQ:=ge 4 4 1
def NR:=ge 5 4 1
def Q8:=ge 6 4 1
def GY:=ge 7 4 1
def NS:=ge 0 5 1
def Kd:=ge 1 5 1
def KX:=ge 2 5 1
def M1:=ge 3 5 1
def Do:=ge 4 5 1
def Mx:=ge 5 5 1
def GZ:=ge 6 5 1
def My:=ge 7 5 1
def IA:=ge 0 6 1
def IB:=ge 1 6 1
def M2:=ge 2 6 1
def Nd:=ge 3 6 1
def IC:=ge 4 6 1
def G0:=ge 5 6 1
def ID:=ge 6 6 1
def IE:=ge 7 6 1
def IF:=ge 0 7 1
def NT:=ge 1 7 1
def G1:=ge 2 7 1
def IG:=ge 3 7 1
def NU:=ge 4 7 1
def KY:=ge 5 7 1
def G2:=ge 6 7 1
def Dp:=ge 7 7 1
def KZ:=ge 0 0 2
def Dq:=ge 1 0 2
def M3:=ge 2 0 2
def Dr:=ge 3 0 2
def Mz:=ge 4 0 2
def Ds:=ge 5 0 2
def Dt:=ge 6 0 2
def G3:=ge 7 0 2
def BM:=ge 0 1 2
def BN:=ge 1 1 2
def yX:=ge 2 1 2
def yY:=ge 3 1 2
def yZ:=ge 4 1 2
def y4:=ge 5 1 2
def y5:=ge 6 1 2
def sX:=ge 7 1 2
def sY:=ge 0 2 2
def y6:=ge 1 2 2
def BO:=ge 2 2 2
def BP:=ge 3 2 2
def BQ:=ge 4 2 2
def BR:=ge 5 2 2
def BT:=ge 6 2 2
def BU:=ge 7 2 2
def BW:=ge 0 3 2
def BX:=ge 1 3 2
def BY:=ge 2 3 2
def IH:=ge 3 3 2
def y7:=ge 4 3 2
def y8:=ge 5 3 2
def jk:=ge 6 3 2
def jl:=ge 7 3 2
def jm:=ge 0 4 2
def jn:=ge 1 4 2
def jo:=ge 2 4 2
def y9:=ge 3 4 2
def jp:=ge 4 4 2
def BZ:=ge 5 4 2
def jq:=ge 6 4 2
def aT:=ge 7 4 2
def aU:=ge 0 5 2
def aV:=ge 1 5 2
def aW:=ge 2 5 2
def aX:=ge 3 5 2
def ZfH:=ge 4 5 2
def ZfI:=ge 5 5 2
def ZfJ:=ge 6 5 2
def jr:=ge 7 5 2
def js:=ge 0 6 2
def ZfK:=ge 1 6 2
def ZfL:=ge 2 6 2
def ZfM:=ge 3 6 2
def ZfN:=ge 4 6 2
def ZfO:=ge 5 6 2
def ZfP:=ge 6 6 2
def ZfQ:=ge 7 6 2
def ZfR:=ge 0 7 2
def ZfS:=ge 1 7 2
def ZfT:=ge 2 7 2
def ZkM:=ge 3 7 2
def ZkN:=ge 4 7 2
def ZkO:=ge 5 7 2
def ZkP:=ge 6 7 2
def ZkQ:=ge 7 7 2
def st0:=gs 0 0 0
def st1:=gs 1 0 0
def st2:=gs 2 0 0
def VS:=gs 3 0 0
def YU:=gs 4 0 0
def WN:=gs 5 0 0
def Wg:=gs 6 0 0
def WD:=gs 7 0 0
def Vi:=gs 0 1 0
def Ur:=gs 1 1 0
def Xe:=gs 2 1 0
def Xw:=gs 3 1 0
def XB:=gs 4 1 0
def Xx:=gs 5 1 0
def X5:=gs 6 1 0
def X9:=gs 7 1 0
def X4:=gs 0 2 0
def We:=gs 1 2 0
def Wk:=gs 2 2 0
def WJ:=gs 3 2 0
def W0:=gs 4 2 0
def VD:=gs 5 2 0
def VG:=gs 6 2 0
def VH:=gs 7 2 0
def VI:=gs 0 3 0
def VU:=gs 1 3 0
def V6:=gs 2 3 0
def V7:=gs 3 3 0
def Uj:=gs 4 3 0
def Uq:=gs 5 3 0
def UB:=gs 6 3 0
def Tb:=gs 7 3 0
def Tk:=gs 0 4 0
def TA:=gs 1 4 0
def T8:=gs 2 4 0
def Sf:=gs 3 4 0
def SX:=gs 4 4 0
def SY:=gs 5 4 0
def S7:=gs 6 4 0
def RB:=gs 7 4 0
def RY:=gs 0 5 0
def RC:=gs 1 5 0
def RZ:=gs 2 5 0
def R0:=gs 3 5 0
def QY:=gs 4 5 0
def Pj:=gs 5 5 0
def Pk:=gs 6 5 0
def Pm:=gs 7 5 0
def Pw:=gs 0 6 0
def Px:=gs 1 6 0
def OI:=gs 2 6 0
def O6:=gs 3 6 0
def O7:=gs 4 6 0
def OJ:=gs 5 6 0
def OK:=gs 6 6 0
def O8:=gs 7 6 0
def OM:=gs 0 7 0
def ON:=gs 1 7 0
def O9:=gs 2 7 0
def Na:=gs 3 7 0
def OO:=gs 4 7 0
def Nr:=gs 5 7 0
def Ns:=gs 6 7 0
def Nt:=gs 7 7 0
def Mq:=gs 0 0 1
def Me:=gs 1 0 1
def Mr:=gs 2 0 1
def MQ:=gs 3 0 1
def LY:=gs 4 0 1
def Kr:=gs 5 0 1
def Ks:=gs 6 0 1
def Kt:=gs 7 0 1
def LZ:=gs 0 1 1
def Ku:=gs 1 1 1
def Kv:=gs 2 1 1
def Ju:=gs 3 1 1
def In:=gs 4 1 1
def Gf:=gs 5 1 1
def Gg:=gs 6 1 1
def Io:=gs 7 1 1
def Ip:=gs 0 2 1
def Iq:=gs 1 2 1
def Jv:=gs 2 2 1
def Jw:=gs 3 2 1
def L0:=gs 4 2 1
def Jx:=gs 5 2 1
def Jy:=gs 6 2 1
def Kw:=gs 7 2 1
def Kx:=gs 0 3 1
def Ky:=gs 1 3 1
def Jz:=gs 2 3 1
def JA:=gs 3 3 1
def Ir:=gs 4 3 1
def Gh:=gs 5 3 1
def FU:=gs 6 3 1
def FV:=gs 7 3 1
def EV:=gs 0 4 1
def EW:=gs 1 4 1
def Cj:=gs 2 4 1
def zn:=gs 3 4 1
def Jr:=gs 4 4 1
def Kh:=gs 5 4 1
def IP:=gs 6 4 1
def IR:=gs 7 4 1
def IS:=gs 0 5 1
def FP:=gs 1 5 1
def FQ:=gs 2 5 1
def IT:=gs 3 5 1
def FR:=gs 4 5 1
def FT:=gs 5 5 1
def IU:=gs 6 5 1
def IV:=gs 7 5 1
def IW:=gs 0 6 1
def IX:=gs 1 6 1
def IY:=gs 2 6 1
def IZ:=gs 3 6 1
def I0:=gs 4 6 1
def I1:=gs 5 6 1
def I2:=gs 6 6 1
def I3:=gs 7 6 1
def I4:=gs 0 7 1
def I5:=gs 1 7 1
def I6:=gs 2 7 1
def Js:=gs 3 7 1
def Jt:=gs 4 7 1
def DQ:=gs 5 7 1
def DT:=gs 6 7 1
def DU:=gs 7 7 1
def DV:=gs 0 0 2
def DW:=gs 1 0 2
def DX:=gs 2 0 2
def DY:=gs 3 0 2
def DZ:=gs 4 0 2
def D1:=gs 5 0 2
def D2:=gs 6 0 2
def D3:=gs 7 0 2
def za:=gs 0 1 2
def zb:=gs 1 1 2
def wP:=gs 2 1 2
def wR:=gs 3 1 2
def wS:=gs 4 1 2
def wT:=gs 5 1 2
def wU:=gs 6 1 2
def pW:=gs 7 1 2
def pX:=gs 0 2 2
def wV:=gs 1 2 2
def zd:=gs 2 2 2
def ze:=gs 3 2 2
def zf:=gs 4 2 2
def zg:=gs 5 2 2
def zh:=gs 6 2 2
def zi:=gs 7 2 2
def zj:=gs 0 3 2
def zk:=gs 1 3 2
def zl:=gs 2 3 2
def zm:=gs 3 3 2
def wW:=gs 4 3 2
def wX:=gs 5 3 2
def iz:=gs 6 3 2
def iA:=gs 7 3 2
def iB:=gs 0 4 2
def iC:=gs 1 4 2
def iD:=gs 2 4 2
def iE:=gs 3 4 2
def iF:=gs 4 4 2
def iG:=gs 5 4 2
def iH:=gs 6 4 2
def Zca:=gs 7 4 2
def Zcb:=gs 0 5 2
def Zcc:=gs 1 5 2
def Zcd:=gs 2 5 2
def Zce:=gs 3 5 2
def Zgu:=gs 4 5 2
def Zgv:=gs 5 5 2
def Zgw:=gs 6 5 2
def Zgx:=gs 7 5 2
def Zgy:=gs 0 6 2
def Zgz:=gs 1 6 2
def ZgA:=gs 2 6 2
def ZgB:=gs 3 6 2
def ZgC:=gs 4 6 2
def ZgD:=gs 5 6 2
def ZgE:=gs 6 6 2
def ZgF:=gs 7 6 2
def ZgG:=gs 0 7 2
def ZgH:=gs 1 7 2
def ZgI:=gs 2 7 2
def Zme:=gs 3 7 2
def Zmf:=gs 4 7 2
def Zmg:=gs 5 7 2
def Zmh:=gs 6 7 2
def Zmi:=gs 7 7 2
end
end Go.AI
