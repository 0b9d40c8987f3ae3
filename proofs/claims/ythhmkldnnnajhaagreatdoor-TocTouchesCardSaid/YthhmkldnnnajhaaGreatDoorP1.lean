/- The interpreter of my own for the model's code: its values, its operations, how code is compiled; definitions alone, no conditions. -/
import Derived.Calls
import GoSem.Step
set_option maxRecDepth 1000000
set_option maxHeartbeats 0
set_option linter.unusedVariables false
set_option linter.unusedSimpArgs false
namespace Go.AI
abbrev Zj:= @decide_eq_false
abbrev ZN:= @List.getD_eq_getElem?_getD
abbrev Z1:= @Nat.ble_eq_true_of_le
abbrev Zr:= @decide_eq_true
abbrev ZB:= @of_decide_eq_true
abbrev Z2:= @Nat.le_refl
abbrev ZW:= @List.getElem?_eq_getElem
abbrev Zm:= @List.length_cons
abbrev Zd:= @Nat.zero_add
abbrev VI:= @List.take_of_length_le
abbrev Z5:= @List.mem_cons_self
abbrev YV:= @Nat.lt_of_lt_of_le
abbrev X3:= @List.length_append
abbrev Yd:= @List.mem_cons_of_mem
abbrev Yt:= @Nat.eq_of_beq_eq_true
abbrev YE:= @Nat.le_of_ble_eq_true
abbrev Zw:= @List.drop_zero
abbrev VU:= @List.length_map
abbrev Sf:= @Nat.mod_eq_of_lt
abbrev Zu:= @List.length_nil
abbrev Xl:= @Nat.lt_succ_self
abbrev Yy:= @Array.getElem?_eq_some_iff
abbrev Zf:= @Nat.add_zero
abbrev Z6:= @List.mem_append
abbrev Zi:= @Nat.zero_le
abbrev YZ:= @Nat.le_trans
abbrev SA:= @Nat.add_sub_cancel
abbrev Yv:= @List.mem_cons
abbrev Xt:= @Nat.beq_refl
abbrev Ur:= @Bool.true_and
abbrev PB:= @Bool.false_and
abbrev WC:= @List.getElem?_eq_none
abbrev Xo:= @List.length_take
abbrev YO:= @Array.getElem?_toList
abbrev YF:= @Array.getD_eq_getD_getElem?
abbrev Vs:= @List.length_eq_zero_iff
abbrev Xb:= @List.getElem?_append_left
abbrev Xz:= @Int.ofNat_eq_natCast
abbrev Sr:= @List.not_mem_nil
abbrev ZQ:= @List.cons_append
abbrev Vc:= @List.getElem_mem
abbrev To:= @Nat.mul_le_mul_right
abbrev uY:= @Nat.lt_of_le_of_lt
abbrev LD:= @Nat.le_of_lt
abbrev NQ:= @List.length_pos_iff
abbrev NB:= @Nat.sub_self
abbrev Rk:= @Nat.mod_lt
abbrev V5:= @List.drop_eq_nil_of_le
abbrev Vx:= @List.getElem?_map
abbrev JU:= @List.append_assoc
abbrev tv:= @Nat.not_lt_zero
abbrev Q9:= @List.getElem_of_mem
abbrev Zn:= @List.drop_succ_cons
abbrev V1:= @List.take_length
abbrev Zh:= @Nat.lt_irrefl
abbrev Xv:= @Bool.and_eq_true
abbrev Zg:= @List.forall_mem_cons
abbrev Ux:= @Array.mem_of_getElem?
abbrev Xw:= @List.all_eq_true
abbrev UU:= @Option.isSome_iff_exists
abbrev XQ:= @Array.getElem?_setIfInBounds
abbrev Um:= @Bool.eq_iff_iff
abbrev WO:= @Bool.false_eq_true
abbrev Q3:= @Nat.lt_succ_of_le
abbrev Q4:= @UInt8.toNat_inj
abbrev Ta:= @UInt8.lt_iff_toNat_lt
abbrev VV:= @Nat.min_eq_left
abbrev TQ:= @Nat.min_eq_right
abbrev SL:= @Nat.add_assoc
abbrev Ui:= @List.extract_eq_take_drop
abbrev Se:= @List.mem_of_mem_drop
abbrev Tn:= @List.mem_of_mem_take
abbrev UA:= @Int.toNat_natCast
abbrev RV:= @Nat.mul_one
abbrev VW:= @Option.map_some
abbrev VH:= @Array.getElem?_modify
abbrev Uh:= @Array.getElem?_eq_getElem
abbrev UO:= @List.mem_of_getElem?
abbrev Ve:= @List.getElem?_toArray
abbrev Uu:= @List.getElem?_replicate
abbrev TV:= @List.replicate_succ
abbrev Q2:= @List.foldl_cons
abbrev UT:= @List.ext_getElem?
abbrev Xs:= @List.getElem?_append_right
abbrev Ua:= @List.getElem?_drop
abbrev VC:= @List.map_cons
abbrev Sc:= @Bool.or_eq_true
abbrev Sx:= @List.flatten_cons
abbrev VJ:= @Nat.add_mul
abbrev Qm:= @Array.toList_map
abbrev UN:= @List.getElem?_range
abbrev Wj:= @List.mem_map
abbrev UH:= @Nat.zero_mul
abbrev Un:= @Nat.le_succ
abbrev RT:= @Nat.div_add_mod
abbrev T1:= @Nat.mul_comm
abbrev Tg:= @List.getElem?_cons_zero
abbrev Tf:= @List.getElem?_cons_succ
abbrev RU:= @Nat.le_mul_of_pos_right
abbrev SU:= @List.mem_range
abbrev Q8:= @Bool.and_eq_true_iff
abbrev Ri:= @List.map_map
abbrev Rj:= @List.pairwise_cons
abbrev Qn:= @List.map_nil
abbrev Sy:= @List.mem_map_of_mem
abbrev YM:= @List.mem_singleton
abbrev TC:= @Array.getElem?_setIfInBounds_ne
abbrev SV:= @List.range'_succ
abbrev Sd:= @List.mem_filterMap
abbrev QA:= @List.range_eq_range'
abbrev Sq:= @List.mem_filter
abbrev Sa:= @List.filter_cons
abbrev X2:= @Array.mem_toList_iff
abbrev Zk:= @List.nil_append
abbrev Ut:= @List.getElem?_eq_some_iff
abbrev RW:= @Nat.one_mul
abbrev TD:= @Option.map_eq_some_iff
abbrev PC:= @Nat.div_lt_of_lt_mul
abbrev TP:= @List.map_append
abbrev UE:= @List.getElem?_take_of_lt
abbrev V0:= @List.length_drop
abbrev Th:= @List.length_replicate
abbrev TI:= @List.set_cons_succ
abbrev TO:= @List.length_set
abbrev Zl:= @List.append_nil
abbrev Sw:= @List.append_eq_nil_iff
abbrev Zq:= @List.take_succ_cons
abbrev ZA:= @List.take_zero
abbrev Zo:= @List.getD_cons_zero
abbrev Zp:= @List.getD_cons_succ
abbrev US:= @List.drop_eq_getElem_cons
abbrev SW:= @List.take_take
end Go.AI
namespace Go.AI
open Go
noncomputable section
structure N8(α:Type) where
 a0:α
 a1:α
 a2:α
 a3:α
 a4:α
 a5:α
 a6:α
 a7:α
namespace N8
variable {α:Type}
def u0(f:α->α)(n:N8 α):N8 α:=N8.rec (λa b c d e g h i=>⟨f a,b,c,d,e,g,h,i⟩) n
def u1(f:α->α)(n:N8 α):N8 α:=N8.rec (λa b c d e g h i=>⟨a,f b,c,d,e,g,h,i⟩) n
def u2(f:α->α)(n:N8 α):N8 α:=N8.rec (λa b c d e g h i=>⟨a,b,f c,d,e,g,h,i⟩) n
def u3(f:α->α)(n:N8 α):N8 α:=N8.rec (λa b c d e g h i=>⟨a,b,c,f d,e,g,h,i⟩) n
def u4(f:α->α)(n:N8 α):N8 α:=N8.rec (λa b c d e g h i=>⟨a,b,c,d,f e,g,h,i⟩) n
def u5(f:α->α)(n:N8 α):N8 α:=N8.rec (λa b c d e g h i=>⟨a,b,c,d,e,f g,h,i⟩) n
def u6(f:α->α)(n:N8 α):N8 α:=N8.rec (λa b c d e g h i=>⟨a,b,c,d,e,g,f h,i⟩) n
def u7(f:α->α)(n:N8 α):N8 α:=N8.rec (λa b c d e g h i=>⟨a,b,c,d,e,g,h,f i⟩) n
def all(x:α):N8 α:=⟨x,x,x,x,x,x,x,x⟩
def proj(i:Nat):N8 α->α:=match i with|0=>a0|1=>a1|2=>a2|3=>a3|4=>a4|5=>a5|6=>a6|_=>a7
def upd(i:Nat):(α->α)->N8 α->N8 α:=match i with|0=>u0|1=>u1|2=>u2|3=>u3|4=>u4|5=>u5|6=>u6|_=>u7
end N8
inductive T(α:Type) where
 |leaf
 |node (l:T α) (v:Option α) (r:T α)
def K3(f:Nat):Nat->List Bool:= @Nat.rec (λ_=>Nat->List Bool) (λ_=>[]) (λ_ ih n=> @Bool.rec (λ_=>List Bool) (@Bool.rec (λ_=>List Bool) (false::ih (Nat.sub (Nat.div n 2) 1)) (true::ih (Nat.div n 2)) (Nat.beq (Nat.mod n 2) 1)) [] (Nat.beq n 0)) f
def bits(n:Nat):List Bool:=K3 n n
namespace T
variable {α:Type}
def getB(t:T α):List Bool->Option α:=
 @T.rec α (λ_=>List Bool->Option α) (λ_=>none) (λ_ v _ gl gr bs=> @List.rec Bool (λ_=>Option α) v (λb bs _=> @Bool.rec (λ_=>Option α) (gr bs) (gl bs) b) bs) t
def single(x:α)(bs:List Bool):T α:= @List.rec Bool (λ_=>T α) (node leaf (some x) leaf) (λb _ ih=> @Bool.rec (λ_=>T α) (node leaf none ih) (node ih none leaf) b) bs
def setB(x:α)(t:T α):List Bool->T α:=
 @T.rec α (λ_=>List Bool->T α) (λbs=>single x bs) (λl v r sl sr bs=> @List.rec Bool (λ_=>T α) (node l (some x) r) (λb bs _=> @Bool.rec (λ_=>T α) (node l v (sr bs)) (node (sl bs) v r) b) bs) t
def delB(t:T α):List Bool->T α:=
 @T.rec α (λ_=>List Bool->T α) (λ_=>leaf) (λl v r sl sr bs=> @List.rec Bool (λ_=>T α) (node l none r) (λb bs _=> @Bool.rec (λ_=>T α) (node l v (sr bs)) (node (sl bs) v r) b) bs) t
def get(t:T α)(n:Nat):Option α:=getB t (bits n)
def set(t:T α)(n:Nat)(x:α):T α:=setB x t (bits n)
def del(t:T α)(n:Nat):T α:=delB t (bits n)
def RG:List α->List α
 |[]=>[]
 |[x]=>[x]
 |x::_::l=>x::RG l
def Qr:Nat->List α->T α
 |0,_=>leaf
 |_+1,[]=>leaf
 |f+1,x::l=>node (Qr f (RG l)) (some x) (Qr f (RG l.tail))
def bm(l:List α):Nat:=List.rec 0 (λ_ _ n=>Nat.succ n) l
def ofList(l:List α):T α:=Qr (bm l) l
end T
inductive AV where
 |unk
 |bool (b:Bool)
 |int (k:IntKind) (n:Int)
 |str (s:List UInt8)
 |nilp
 |ptr (b o:Nat)
 |nils
 |slice (b o len:Nat) (cap:Option Nat)
 |slice0
 |nilm
 |map (b:Nat)
 |func (f:Nat) (first caps:List AV)
 |meth (name:String) (recv:AV)
 |yield (b:Nat)
 |nilf
 |iface (t:Nat) (v:AV)
 |nili
 |agg (cs:List AV)
 |tup (vs:List AV)
 deriving Inhabited
def AV.cells(v:AV):List AV:=
 AV.casesOn v [] (λb=>[.bool b]) (λk n=>[.int k n]) (λs=>[.str s]) [.nilp] (λb o=>[.ptr b o]) [.nils] (λb o l c=>[.slice b o l c]) [.slice0] [.nilm] (λb=>[.map b])
  (λf a b=>[.func f a b]) (λn r=>[.meth n r]) (λb=>[.yield b]) [.nilf] (λt v=>[.iface t v]) [.nili] (λcs=>cs) (λ_=>[])
structure Row where
 elem:Nat
 sz:Nat
 size:Nat
 cells:T AV
 dflt:AV
 fz:Nat
 sm:Bool
 own:Bool
 exact:Bool
structure RP where
 key:AV
 val:AV
 born:Nat
inductive Obj where
 |row (r:Row)
 |map (es:List RP) (clock:Nat)
 |siter (s:List UInt8) (pos:Nat)
 |miter (m:Option Nat) (since:Nat) (cur:Option (Nat×Nat))
 |loop
 |cmap (es:List RP)
structure Heap where
 nx:Nat
 t:T Obj
 ro:Nat
def Row.get(r:Row)(i:Nat):AV:=Option.rec r.dflt (λv=>v) (r.cells.get i)
def Row.setCells(r:Row)(t:T AV):Row:=⟨r.elem,r.sz,r.size,t,r.dflt,r.fz,r.sm,r.own,r.exact⟩
def Heap.put(H:Heap)(b:Nat)(o:Obj):Heap:=⟨H.nx,H.t.set b o,H.ro⟩
def Heap.new(H:Heap)(o:Obj):Heap:=⟨Nat.succ H.nx,H.t.set H.nx o,H.ro⟩
inductive OR2 where
 |fail
 |call (f:Nat) (args:List AV) (H:Heap)
 |yield (b:Nat) (args:List AV) (H:Heap)
 |pan (v:AV) (H:Heap)
 |recov
 |defer (f:AV) (args:List AV)
inductive OR where
 |val (v:AV) (H:Heap)
 |oth (o:OR2)
abbrev OR.fail:OR:=.oth .fail
abbrev TM:=N8 (N8 (N8 AV))
abbrev UD:=TM->Heap->OR
abbrev YR:=TM->AV
abbrev Yu:=TM->AV->TM
def e(f:N8 AV->AV)(g:N8 (N8 AV)->N8 AV)(h:TM->N8 (N8 AV)):YR:=λtm=>f (g (h tm))
def k(v:AV):YR:=λ_=>v
def d(f:(AV->AV)->N8 AV->N8 AV)(g:(N8 AV->N8 AV)->N8 (N8 AV)->N8 (N8 AV))(h:(N8 (N8 AV)->N8 (N8 AV))->TM->TM):Yu:=λtm v=>h (g (f (λ_=>v))) tm
def d0:Yu:=λtm _=>tm
def Ru(n:Nat):YR:=e (N8.proj (n % 8)) (N8.proj (n/8 % 8)) (N8.proj (n/64))
def OK(n:Nat):Yu:=d (N8.upd (n % 8)) (N8.upd (n/8 % 8)) (N8.upd (n/64))
def u8:N8 AV:=N8.all .unk
def u64:N8 (N8 AV):=N8.all u8
def LA:TM:=N8.all u64
def RZ{α:Type}(a:Nat)(k:Nat->α):α:=Nat.rec (k 0) (λp _=>k (Nat.succ p)) a
def Jv{α:Type}(n:Int)(k:Int->α):α:=Int.rec (λa=>RZ a λa=>k (.ofNat a)) (λa=>RZ a λa=>k (.negSucc a)) n
def w8(a b:Int):Int:=Int.rec (λx=>Int.rec (λy=>.ofNat (Nat.add x y)) (λ_=>a+b) b) (λ_=>a+b) a
def Cv(a b:Int):Int:=Int.rec (λx=>Int.rec (λy=>cond (Nat.ble y x) (.ofNat (Nat.sub x y)) (a - b)) (λ_=>a - b) b) (λ_=>a - b) a
def s0(a b:Int):Int:=Int.rec (λx=>Int.rec (λy=>.ofNat (Nat.mul x y)) (λ_=>a*b) b) (λ_=>a*b) a
def kX(a b:Int):Int:=Int.rec (λx=>Int.rec (λy=>.ofNat (Nat.div x y)) (λ_=>a.tdiv b) b) (λ_=>a.tdiv b) a
def kY(a b:Int):Int:=Int.rec (λx=>Int.rec (λy=>.ofNat (Nat.mod x y)) (λ_=>a.tmod b) b) (λ_=>a.tmod b) a
def Ct(a b:Int):Bool:=Int.rec (λx=>Int.rec (λy=>Nat.ble (Nat.succ x) y) (λ_=>false) b) (λx=>Int.rec (λ_=>true) (λy=>Nat.ble (Nat.succ y) x) b) a
def Eu(a b:Int):Bool:=Int.rec (λx=>Int.rec (λy=>Nat.beq x y) (λ_=>false) b) (λx=>Int.rec (λ_=>false) (λy=>Nat.beq x y) b) a
def DV(k:IntKind)(m:Nat)(n:Int):Int:=Int.rec (λa=>cond (Nat.ble m a) (.ofNat (Nat.mod a m)) (.ofNat a)) (λ_=>k.wrap n) n
def AX(k:IntKind)(h:Nat)(n:Int):Int:=Int.rec (λa=>cond (Nat.ble h a) (k.wrap n) (.ofNat a)) (λa=>cond (Nat.ble h a) (k.wrap n) n) n
def lY(k:IntKind)(n:Int):Int:=
 IntKind.rec (AX .i8 128 n) (AX .i16 32768 n) (AX .i32 2147483648 n) (AX .i64 9223372036854775808 n) (DV .u8 256 n) (DV .u16 65536 n) (DV .u32 4294967296 n) (DV .u64 18446744073709551616 n) k
def O7(k:IntKind):Nat:=IntKind.rec 256 65536 4294967296 18446744073709551616 256 65536 4294967296 18446744073709551616 k
def Ms(m:Nat)(n:Int):Nat:=Int.rec (λa=>Nat.mod a m) (λa=>Nat.sub (Nat.sub m 1) (Nat.mod a m)) n
def MU(a b:IntKind):Bool:=Nat.beq a.ctorIdx b.ctorIdx
def Pm(v:AV)(k:IntKind->Int->OR):OR:=match v with|.int a b=>k a b|_=>.fail
def R6(v:AV)(k:Nat->OR):OR:=match v with|.int _ (.ofNat b)=>k b|_=>.fail
def Hm(v:AV)(k:Bool->OR):OR:=match v with|.bool b=>k b|_=>.fail
def O8(v:AV)(k:List UInt8->OR):OR:=match v with|.str s=>k s|_=>.fail
def Qz(v:AV)(k:Nat->Nat->OR):OR:=match v with|.ptr b o=>k b o|_=>.fail
def Dt(v:AV)(k:List AV->OR):OR:=match v with|.agg cs=>k cs|_=>.fail
def xG(v:AV)(k:List AV->OR):OR:=match v with|.tup cs=>k cs|_=>.fail
def PT(v:AV)(n:OR)(k:Nat->AV->OR):OR:=match v with|.iface t x=>k t x|.nili=>n|_=>.fail
def SH(v:AV)(n:OR)(k:Nat->Nat->Nat->Option Nat->OR):OR:=match v with|.slice b o l c=>k b o l c|.nils=>n|_=>.fail
def nT(v:AV)(z n:OR):OR:=match v with|.slice0=>z|_=>n
def FO(v:AV)(n:OR)(k:Nat->OR):OR:=match v with|.map b=>k b|.nilm=>n|_=>.fail
def Jb(H:Heap)(b:Nat)(k:Obj->OR):OR:=match H.t.get b with|some o=>k o|none=>.fail
def Uc(H:Heap)(b:Nat)(k:Row->OR):OR:=match H.t.get b with|some (.row r)=>k r|_=>.fail
def S0{α:Type}(x:Option α)(k:α->OR):OR:=match x with|some a=>k a|none=>.fail
def YP(b:Bool)(k:OR):OR:=cond b k .fail
def I5(a b:UInt8):Bool:=Nat.beq a.toNat b.toNat
def KB:List UInt8->List UInt8->Bool
 |[],[]=>true
 |a::x,b::y=>cond (I5 a b) (KB x y) false
 |_,_=>false
def YB:List UInt8->List UInt8->Bool
 |_,[]=>false
 |[],_::_=>true
 |a::x,b::y=>cond (Nat.ble (Nat.succ a.toNat) b.toNat) true (cond (I5 a b) (YB x y) false)
def U5(r:Row)(o:Nat):Nat->List AV
 |0=>[]
 |n+1=>r.get o::U5 r (Nat.succ o) n
def Tv(c:T AV):Nat->List AV->T AV
 |_,[]=>c
 |o,v::l=>Tv (c.set o v) (Nat.succ o) l
def XX{α:Type}(l:List α):Nat:=List.rec 0 (λ_ _ n=>Nat.succ n) l
def FG:List AV->Nat->Option AV
 |[],_=>none
 |v::_,0=>some v
 |_::l,n+1=>FG l n
def B1:List UInt8->Nat->Option UInt8
 |[],_=>none
 |v::_,0=>some v
 |_::l,n+1=>B1 l n
def Heap.newRow(H:Heap)(elem sz:Nat)(cs:List AV)(exact:Bool):Heap:=
 H.new (.row ⟨elem,sz,XX cs,T.ofList cs,.unk,0,false,true,exact⟩)
def Heap.may(H:Heap)(r:Row)(b:Nat):Bool:=cond r.own (Nat.ble H.ro b) false
section
variable (x y z:YR)
def Ze:UD:=λtm H=>.val (x tm) H
def Zep:UD:=λtm H=>O8 (x tm) λs=>.val (.str s) H
def Yx:UD:=λtm H=>Hm (x tm) λb=>.val (cond b (y tm) (z tm)) H
def Xa(e:Nat)(cs:List AV):UD:=λ_ H=>YP (Nat.ble 1 (XX cs))<|.val (.ptr H.nx 0) (H.newRow e 1 cs true)
def Mh(e n:Nat)(v:AV):UD:=λ_ H=>.val (.ptr H.nx 0) (H.new (.row ⟨e,1,n,.leaf,v,0,false,true,true⟩))
def U0(e:Nat):UD:=λtm H=>YP (Nat.ble 1 (XX (x tm).cells))<|.val (.ptr H.nx 0) (H.newRow e 1 (x tm).cells true)
end
structure DY where
 off:Nat
 sz:Nat
 x:YR
def NA:Nat->List AV->List AV
 |0,_=>[]
 |_+1,[]=>[]
 |n+1,v::l=>v::NA n l
def OU:Nat->List AV->List AV
 |0,l=>l
 |_+1,[]=>[]
 |n+1,_::l=>OU n l
def EW(tm:TM)(k:List AV->OR):List DY->List AV->OR:=λps=>
 List.rec (λcells=>k cells) (λp _ ih cells=>
  YP (Nat.ble 1 p.sz)<|YP (Nat.beq (XX (p.x tm).cells) p.sz) (YP (Nat.ble (Nat.add p.off p.sz) (XX cells)) (ih (NA p.off cells++((p.x tm).cells++OU (Nat.add p.off p.sz) cells))))) ps
def W7(zs:List AV)(ps:List DY):UD:=λtm H=>YP (Nat.ble 1 (XX zs))<|EW tm (λcs=>.val (.agg cs) H) ps zs
def VR(e sz n:Nat)(zs:List AV)(ps:List DY):UD:=λtm H=>YP (Nat.ble 1 sz)<|YP (Nat.beq (XX zs) (Nat.mul n sz))<|EW tm (λcs=>.val (.slice H.nx 0 n none) (H.newRow e sz cs true)) ps zs
section
variable (x y z:YR)
def ZI:UD:=λtm H=>Qz (x tm) λb o=>Uc H b λr=>YP (Nat.ble (Nat.succ o) r.size) (.val (r.get o) H)
def Yk(n:Nat):UD:=λtm H=>Qz (x tm) λb o=>Uc H b λr=>YP (Nat.ble (Nat.add o n) r.size) (.val (.agg (U5 r o n)) H)
def WK:AV:=.tup []
def Z4(n:Nat):UD:=λtm H=>Qz (x tm) λb o=>Uc H b λr=>
 YP (Nat.ble 1 n)<|YP (H.may r b) (YP (Nat.ble (Nat.add o n) r.size) (YP (Nat.ble r.fz o) (YP (Nat.beq (XX (y tm).cells) n)
  (.val WK (H.put b (.row (r.setCells (Tv r.cells o (y tm).cells))))))))
def CP(v:AV)(k:OR):OR:=match v with|.ptr .. |.func .. |.iface .. |.yield _=>k|_=>.fail
def Wq:UD:=λtm H=>CP (x tm) (.val (x tm) H)
def OM(k:IntKind)(n:Int)(H:Heap):OR:=Jv (lY k n) λn=>.val (.int k n) H
def Hg(x y:AV)(k:IntKind->Int->Int->OR):OR:=Pm x λj a=>Pm y λl b=>YP (MU j l) (k j a b)
def Xq:UD:=λtm H=>Hg (x tm) (y tm) λk a b=>OM k (Cv a b) H
def S9:UD:=λtm H=>Hg (x tm) (y tm) λk a b=>OM k (s0 a b) H
def Pw:UD:=λtm H=>Hg (x tm) (y tm) λk a b=>cond (Eu b 0) .fail (OM k (kX a b) H)
def Ey:UD:=λtm H=>Hg (x tm) (y tm) λk a b=>cond (Eu b 0) .fail (Jv (kY a b) λn=>.val (.int k n) H)
def W6(f:Nat->Nat->Nat->Nat):UD:=λtm H=>Hg (x tm) (y tm) λk a b=>OM k (.ofNat (f (O7 k) (Ms (O7 k) a) (Ms (O7 k) b))) H
def So(_ a b:Nat):Nat:=Nat.land a b
def QQ(_ a b:Nat):Nat:=Nat.lor a b
def AZ(_ a b:Nat):Nat:=Nat.xor a b
def KG(m a b:Nat):Nat:=Nat.land a (Nat.sub (Nat.sub m 1) b)
def PS:UD:=λtm H=>Pm (x tm) λk a=>R6 (y tm) λb=>OM k (s0 a (.ofNat (Nat.pow 2 (cond (Nat.ble b 64) b 64)))) H
def k9(a:Int)(b:Nat):Int:=Int.rec (λx=>.ofNat (Nat.div x (Nat.pow 2 b))) (λx=>.negSucc (Nat.div x (Nat.pow 2 b))) a
def yW(k:IntKind):Nat:=IntKind.rec 8 16 32 64 8 16 32 64 k
def BY(a b:Nat):Nat:=cond (Nat.ble a b) a b
def N7:UD:=λtm H=>Pm (x tm) λk a=>R6 (y tm) λb=>Jv (k9 a (BY b (yW k))) λn=>.val (.int k n) H
def RO(b:Bool)(H:Heap):OR:=cond b (.val (.bool true) H) (.val (.bool false) H)
def Yl(f:Int->Int->Bool)(g:List UInt8->List UInt8->Bool):UD:=λtm H=>match x tm with
 |.int j a=>Pm (y tm) λl b=>YP (MU j l) (RO (f a b) H)
 |.str a=>O8 (y tm) λb=>RO (g a b) H
 |_=>.fail
def Y9(a b:Int):Bool:=Ct a b
def TG(a b:Int):Bool:=!Ct b a
def Tb(a b:Int):Bool:=Ct b a
def VE(a b:Int):Bool:=!Ct a b
def Vl(a b:List UInt8):Bool:=YB b a
def XW(a b:List UInt8):Bool:=!YB a b
def VN(a b:List UInt8):Bool:=!YB b a
def Yh:UD:=λtm H=>match x tm with
 |.int j a=>Pm (y tm) λl b=>YP (MU j l) (OM j (w8 a b) H)
 |.str a=>O8 (y tm) λb=>YP (Nat.ble (Nat.add (XX a) (XX b)) 4611686018427387904) (.val (.str (a++b)) H)
 |_=>.fail
def Vj(a b:AV):Option Bool:=match a,b with|.int j a,.int k b=>cond (MU j k) (some (Eu a b)) none|_,_=>none
def Nw(a b:AV):Option Bool:=match a,b with|.str a,.str b=>some (KB a b)|_,_=>none
def tc(a b:AV):Option Bool:=match a,b with|.bool a,.bool b=>some (cond a b (cond b false true))|_,_=>none
def oh(a b:AV):Option Bool:=match a,b with
 |.nilp,.nilp=>some true
 |.nilp,.ptr .. =>some false
 |.ptr ..,.nilp=>some false
 |.ptr b o,.ptr c p=>cond (Nat.beq b c) (some (Nat.beq o p)) none
 |_,_=>none
def og(a b:AV):Option Bool:=match a,b with|.nils,.nils=>some true|.nils,.slice .. =>some false|.slice ..,.nils=>some false|.nils,.slice0=>some false|.slice0,.nils=>some false|_,_=>none
def il(a b:AV):Option Bool:=match a,b with|.nilm,.nilm=>some true|.nilm,.map _=>some false|.map _,.nilm=>some false|_,_=>none
def ip(a b:AV):Option Bool:=match a,b with|.nilf,.nilf=>some true|.nilf,.func .. =>some false|.func ..,.nilf=>some false|_,_=>none
def Fb(lit:Bool)(g:Nat->AV->AV->Option Bool)(a b:AV):Option Bool:=match a,b with
 |.nili,.nili=>cond lit (some true) none
 |.nili,.iface .. =>some false
 |.iface ..,.nili=>some false
 |.iface t v,.iface u w=>cond (Nat.beq t u) (g t v w) (some false)
 |_,_=>none
def By(P:Program)(f:Nat->AV->AV->Option Bool)(t:Nat)(v w:AV):Option Bool:=match P.info? t with|some i=>cond i.comparable (f t v w) none|none=>none
def l7(P:Program)(t:Nat):Option Bool:=match P.underlying t with|some (.struct _)|some (.array _ _)=>some true|some _=>some false|none=>none
def Du(P:Program)(t:Nat)(cs:List AV)(off:Nat)(k:AV->Option Bool):Option Bool:=match P.info? t,l7 P t with
 |some i,some ag=>cond ag (k (.agg (NA i.size (OU off cs)))) (match FG cs off with|some v=>k v|none=>none)
 |_,_=>none
def pz(r:Option Bool)(k:Option Bool):Option Bool:=match r with|some b=>cond b k (some false)|none=>none
def J8(P:Program)(f:AV->AV->Option Bool)(e c:Nat)(l m:List AV):List Nat->Option Bool
 |[]=>some true
 |i::is=>Du P e l (i*c) λa=>Du P e m (i*c) λb=>pz (f a b) (J8 P f e c l m is)
def NK(P:Program)(g:Nat->AV->AV->Option Bool)(l m:List AV):List Field->Option Bool
 |[]=>some true
 |f::fs=>cond (f.name== "_") (NK P g l m fs) (Du P f.type l f.offset λa=>Du P f.type m f.offset λb=>pz (g f.type a b) (NK P g l m fs))
def A3(a b:AV)(k:List AV->List AV->Option Bool):Option Bool:=match a,b with|.agg l,.agg m=>k l m|_,_=>none
def aG(P:Program)(lit:Bool)(g:Nat->AV->AV->Option Bool)(t:Nat)(a b:AV)(d:TypeDesc):Option Bool:=match d with
 |.bool=>tc a b
 |.int _=>Vj a b
 |.string=>Nw a b
 |.pointer e=>match P.info? e with|some i=>cond (Nat.beq i.size 0) none (oh a b)|none=>none
 |.slice _=>og a b
 |.map _ _=>il a b
 |.func _ _ _=>ip a b
 |.interface _=>Fb lit (By P g) a b
 |.array n e=>A3 a b λl m=>match P.info? e with|some i=>J8 P (g e) e i.size l m (List.range n)|none=>none
 |.struct fs=>cond (P.stoodInHeld t) none (A3 a b λl m=>NK P g l m fs.toList)
 |_=>none
def Ek(P:Program):Nat->Nat->AV->AV->Option Bool
 |0,_,_,_=>none
 |d+1,t,a,b=>match P.underlying t with|some u=>aG P true (Ek P d) t a b u|none=>none
def WM(f:AV->AV->Option Bool)(neg:Bool):UD:=λtm H=>S0 (f (x tm) (y tm)) λb=>RO (cond neg (cond b false true) b) H
def Ts:UD:=λtm H=>Hm (x tm) λb=>.val (.bool (cond b false true)) H
def CT:UD:=λtm H=>Pm (x tm) λk a=>OM k (Cv 0 a) H
def r6:UD:=λtm H=>Pm (x tm) λk a=>OM k (.ofNat (Nat.sub (Nat.sub (O7 k) 1) (Ms (O7 k) a))) H
def VS(k:IntKind):UD:=λtm H=>Pm (x tm) λ_ a=>OM k a H
def Gu:List UInt8->List AV
 |[]=>[]
 |b::l=>.int .u8 (.ofNat b.toNat)::Gu l
def Hk(e:Nat):UD:=λtm H=>O8 (x tm) λs=>.val (.slice H.nx 0 (XX s) none) (H.new (.row ⟨e,1,XX s,T.ofList (Gu s),.unk,0,true,true,false⟩))
def Li(k:List UInt8->OR):List AV->OR
 |[]=>k []
 |v::l=>match v with|.int .u8 (.ofNat n)=>Li (λs=>k (UInt8.ofNat n::s)) l|_=>.fail
def CU:UD:=λtm H=>nT (x tm) (.val (.str []) H)<|SH (x tm) (.val (.str []) H) λb o n _=>cond (Nat.beq n 0) (.val (.str []) H) (Uc H b λr=>YP (Nat.ble (Nat.add o n) r.size) (Li (λs=>.val (.str s) H) (U5 r o n)))
def Dr:UD:=λtm H=>match x tm with
 |.nilp=>.val .nilp H
 |.ptr b o=>Uc H b λr=>YP (Nat.ble (Nat.succ o) r.size) (.val (.ptr b o) H)
 |_=>.fail
def Dq(u n:Nat):UD:=λtm H=>match x tm with
 |.nilp=>.val .nilp H
 |.ptr b o=>Uc H b λr=>YP r.exact (YP (Nat.beq r.elem u) (YP (Nat.beq o 0) (YP (Nat.ble n r.size) (.val (.ptr b o) H))))
 |_=>.fail
def bz:UD:=λtm H=>SH (x tm) .fail λb _ _ _=>Uc H b λr=>YP (cond r.sm false (H.may r b))<|YP (Nat.beq r.fz 0)<|.val (x tm) (H.put b (.row ⟨r.elem,r.sz,r.size,r.cells,r.dflt,r.fz,true,r.own,r.exact⟩))
def FI:UD:=λtm H=>Pm (x tm) λ_ n=>.val (.str (Utf8.encode n).data.toList) H
def Wn(t:Nat):UD:=λtm H=>.val (.iface t (x tm)) H
def evs(tm:TM):List YR->List AV
 |[]=>[]
 |f::l=>f tm::evs tm l
def Oj(f:Nat)(a b:List YR):UD:=λtm H=>.val (.func f (evs tm a) (evs tm b)) H
def bA(n:String)(x:YR):UD:=λtm H=>.val (.meth n (x tm)) H
def zZ:UD:=λ_ H=>.val (.map H.nx) (H.new (.map [] 0))
def Te(eq:AV->AV->Option Bool)(k:AV)(no:OR)(yes:AV->OR):List RP->OR
 |[]=>no
 |e::l=>Option.rec .fail (λt=>cond t (yes e.val) (Te eq k no yes l)) (eq k e.key)
def CL(eq:AV->AV->Option Bool)(k v:AV)(clock:Nat)(done:List RP->Nat->OR):List RP->OR
 |[]=>done [⟨k,v,clock⟩] (Nat.succ clock)
 |e::l=>Option.rec .fail (λt=>cond t (done (⟨k,v,e.born⟩::l) clock) (CL eq k v clock (λl' c=>done (e::l') c) l)) (eq k e.key)
def A5(o:Obj)(k:List RP->OR):OR:=match o with|.map es _=>k es|.cmap es=>k es|_=>.fail
def yU(o:Obj)(k:List RP->Nat->OR):OR:=match o with|.map es c=>k es c|_=>.fail
def KQ(eq:AV->AV->Option Bool)(m k v:YR):UD:=λtm H=>FO (m tm) .fail λb=>Jb H b λo=>yU o λes clock=>
 YP (Nat.ble H.ro b) (CL eq (k tm) (v tm) clock (λes c=>.val WK (H.put b (.map es c))) es)
def K5(ok:Bool)(H:Heap)(v:AV)(b:Bool):OR:=cond ok (.val (.tup [v,.bool b]) H) (.val v H)
def KO(eq:AV->AV->Option Bool)(zv:AV)(ok:Bool)(m k:YR):UD:=λtm H=>FO (m tm) (K5 ok H zv false) λb=>Jb H b λo=>A5 o λes=>
 Te eq (k tm) (K5 ok H zv false) (λv=>K5 ok H v true) es
def xA(H:Heap)(e sz l c:Nat)(zs:List AV):OR:=match zs with
 |[v]=>YP (Nat.beq sz 1)<|.val (.slice H.nx 0 l none) (H.new (.row ⟨e,1,c,.leaf,v,0,false,true,true⟩))
 |zs=>YP (Nat.beq (XX zs) sz)<|.val (.slice H.nx 0 l none) (H.newRow e sz ((List.replicate c zs).flatten) true)
def Kf(e sz bytes:Nat)(zs:List AV)(l c:YR):UD:=λtm H=>R6 (l tm) λl=>R6 (c tm) λc=>YP (Nat.ble 1 sz)<|YP (Nat.ble l c) (YP (Nat.ble c 140737488355328)<|YP (Nat.ble (Nat.mul c bytes) 140737488355328) (xA H e sz l c zs))
def yX(tm:TM)(x:Option YR)(d top:Nat)(k:Nat->OR):OR:=Option.rec (k d) (λf=>R6 (f tm) λn=>YP (Nat.ble n top) (k n)) x
def Jq(tm:TM)(lo hi mx:Option YR)(len cap:Nat)(k:Nat->Nat->Nat->OR):OR:=
 yX tm mx cap cap λm=>yX tm hi len m λh=>yX tm lo 0 h λl=>k l h m
def Jj:Nat->List UInt8->List UInt8
 |0,_=>[]
 |_+1,[]=>[]
 |n+1,v::l=>v::Jj n l
def J5:Nat->List UInt8->List UInt8
 |0,l=>l
 |_+1,[]=>[]
 |n+1,_::l=>J5 n l
def WF(x:YR)(lo hi mx:Option YR):UD:=λtm H=>Option.rec (O8 (x tm) λs=>Jq tm lo hi none (XX s) (XX s) λl h _=>.val (.str (J5 l (Jj h s))) H) (λ_=>.fail) mx
def RK(r:Row)(o:Nat)(cap:Option Nat):Nat:=Option.rec (cond (Nat.beq r.sz 1) (Nat.sub r.size o) (Nat.div (Nat.sub r.size o) r.sz)) (λc=>c) cap
def AP(r:Row)(sz:Nat)(cap:Option Nat):Bool:=Option.rec (Nat.beq r.sz sz) (λ_=>true) cap
def Kh(sz:Nat)(x:YR)(lo hi mx:Option YR):UD:=λtm H=>
 nT (x tm) (Jq tm lo hi mx 0 0 λ_ _ _=>.val .slice0 H)<|SH (x tm) (Jq tm lo hi mx 0 0 λ_ _ _=>.val .nils H) λb o len cap=>Uc H b λr=>YP (AP r sz cap) (Jq tm lo hi mx len (RK r o cap) λl h m=>YP (Nat.ble l m)<|
  cond (Nat.beq l m) (Option.rec (Option.rec (.val (.slice H.nx 0 (Nat.sub h l) none) ⟨Nat.succ H.nx,H.t,H.ro⟩) (λ_=>.val (.slice b o (Nat.sub h l) (some 0)) H) cap) (λ_=>.val (.slice b o (Nat.sub h l) (some 0)) H) mx)
   (.val (.slice b (Nat.add o (Nat.mul l sz)) (Nat.sub h l) (Option.rec (Option.rec none (λc=>some (Nat.sub c l)) cap) (λ_=>some (Nat.sub m l)) mx)) H))
def M9(n sz:Nat)(x:YR)(lo hi mx:Option YR):UD:=λtm H=>Qz (x tm) λb o=>Jq tm lo hi mx n n λl h m=>
  cond (Nat.beq l m) (.val (.slice b o (Nat.sub h l) (some (Nat.sub m l))) H) (.val (.slice b (Nat.add o (Nat.mul l sz)) (Nat.sub h l) (some (Nat.sub m l))) H)
def Yo(n:Nat):UD:=λtm H=>Qz (x tm) λb o=>.val (.ptr b (Nat.add o n)) H
def Iu(o:Nat):UD:=λtm H=>Dt (x tm) λcs=>S0 (FG cs o) λv=>.val v H
def Zeo(o n:Nat):UD:=λtm H=>Dt (x tm) λcs=>.val (.agg (NA n (OU o cs))) H
def Yi(sz:Nat):UD:=λtm H=>R6 (y tm) λi=>SH (x tm) .fail λb o len _=>YP (Nat.ble (Nat.succ i) len) (.val (.ptr b (Nat.add o (Nat.mul i sz))) H)
def QR(n sz:Nat):UD:=λtm H=>R6 (y tm) λi=>Qz (x tm) λb o=>YP (Nat.ble (Nat.succ i) n) (.val (.ptr b (Nat.add o (Nat.mul i sz))) H)
def YA:UD:=λtm H=>R6 (y tm) λi=>O8 (x tm) λs=>S0 (B1 s i) λb=>RZ b.toNat λn=>.val (.int .u8 (.ofNat n)) H
def B7(n:Nat):UD:=λtm H=>R6 (y tm) λi=>Dt (x tm) λcs=>YP (Nat.ble (Nat.succ i) n) (S0 (FG cs i) λv=>.val v H)
def nB(n sz:Nat):UD:=λtm H=>R6 (y tm) λi=>Dt (x tm) λcs=>YP (Nat.ble (Nat.succ i) n) (.val (.agg (NA sz (OU (Nat.mul i sz) cs))) H)
def PD(zv:AV)(ok:Bool)(H:Heap)(v:Option AV):OR:=Option.rec (cond ok (.val (.tup [zv,.bool false]) H) .fail) (λv=>cond ok (.val (.tup [v,.bool true]) H) (.val v H)) v
def Q5(t:Nat)(zv:AV)(ok:Bool):UD:=λtm H=>PT (x tm) (PD zv ok H none) λu v=>PD zv ok H (cond (Nat.beq u t) (some v) none)
def B5(P:Program)(ms:Array (String×TypeId))(zv:AV)(ok:Bool):UD:=λtm H=>PT (x tm) (PD zv ok H none) λu v=>S0 (P.info? u) λi=>PD zv ok H (Option.rec (some (.iface u v)) (λ_=>none) (Instr.missingMethod ms i.methods))
def XH(i:Nat):UD:=λtm H=>xG (x tm) λvs=>S0 (FG vs i) λv=>.val v H
def Ir(P:Program)(name:String)(u:Nat)(k:Nat->OR):OR:=
 S0 (P.info? u) λi=>S0 (i.methods.find? (·.name==name)) λm=>YP m.path.isEmpty (match m.func with
  |some (g,ptr)=>match P.underlying u with
   |some (.pointer _)=>YP ptr (k g)
   |some _=>cond ptr .fail (k g)
   |none=>.fail
  |none=>.fail)
def Zy(f:Nat)(args:List YR):UD:=λtm H=>.oth (.call f (evs tm args) H)
def Uo(P:Program)(args:List YR):UD:=λtm H=>match x tm with
 |.func f a b=>.oth (.call f (a++(evs tm args++b)) H)
 |.meth n r=>PT r .fail λu v=>Ir P n u λg=>.oth (.call g (v::evs tm args) H)
 |.yield b=>.oth (.yield b (evs tm args) H)
 |_=>.fail
def nC(P:Program)(n:String)(args:List YR):UD:=λtm H=>PT (x tm) .fail λu v=>Ir P n u λg=>.oth (.call g (v::evs tm args) H)
def CB(v:AV)(k:Nat->OR):OR:=match v with|.nils=>k 0|.slice0=>k 0|.slice _ _ n _=>k n|.str s=>k (XX s)|_=>.fail
def Ti(H:Heap)(sz:Nat)(v:AV)(n:Nat)(k:List AV->OR):OR:=cond (Nat.beq n 0) (k []) (match v with
 |.slice b o _ _=>Uc H b λr=>YP (Nat.ble (Nat.add o (Nat.mul n sz)) r.size) (k (U5 r o (Nat.mul n sz)))
 |.str s=>YP (Nat.beq sz 1) (k (Gu (Jj n s)))
 |_=>.fail)
def I2(H:Heap)(e b o len n sz:Nat)(r:Row)(new:List AV):OR:=
 YP (Nat.beq r.elem e)<|YP (H.may r b)<|YP (Nat.ble r.fz (Nat.mul len sz))<|YP (Nat.beq (Nat.mul len sz) r.size)<|YP (Nat.beq o 0)<|
  .val (.slice H.nx 0 (Nat.add len n) none) ⟨Nat.succ H.nx,(H.t.del b).set H.nx (.row ⟨r.elem,sz,Nat.mul (Nat.add len n) sz,Tv r.cells (Nat.mul len sz) new,r.dflt,r.fz,r.sm,true,false⟩),H.ro⟩
def EH(H:Heap)(v:AV)(b o len n sz:Nat)(cap:Option Nat)(r:Row)(new:List AV):OR:=
 cond (Nat.beq n 0) (.val v H) (YP (H.may r b) (YP (Nat.ble (Nat.add o (Nat.mul (Nat.add len n) sz)) r.size) (YP (Nat.ble r.fz (Nat.add o (Nat.mul len sz)))
  (.val (.slice b o (Nat.add len n) cap) (H.put b (.row (r.setCells (Tv r.cells (Nat.add o (Nat.mul len sz)) new))))))))
def LH(H:Heap)(e b o len n sz bytes:Nat)(cap:Option Nat)(r:Row)(new:List AV):OR:=
 YP (Nat.ble (Nat.mul (Nat.add len n) bytes) 140737488355328)<|YP (Nat.ble (Nat.add o (Nat.mul len sz)) r.size)<|Option.rec
  (cond r.exact (YP (Nat.beq (Nat.mod o sz) 0) (.val (.slice H.nx 0 (Nat.add len n) none) (H.newRow e sz (U5 r o (Nat.mul len sz)++new) false))) (I2 H e b o len n sz r new))
  (λ_=>.val (.slice H.nx 0 (Nat.add len n) none) (H.newRow e sz (U5 r o (Nat.mul len sz)++new) false)) cap
def Jm(v:AV)(e sz bytes:Nat)(H:Heap)(n:Nat)(new:List AV):OR:=
 nT v (cond (Nat.beq n 0) (.val .slice0 H) (YP (Nat.ble (Nat.mul n bytes) 140737488355328) (.val (.slice H.nx 0 n none) (H.newRow e sz new false))))<|
 SH v (cond (Nat.beq n 0) (.val .nils H) (YP (Nat.ble (Nat.mul n bytes) 140737488355328) (.val (.slice H.nx 0 n none) (H.newRow e sz new false)))) λb o len cap=>Uc H b λr=>
  YP (AP r sz cap) (cond (Nat.ble (Nat.add len n) (RK r o cap)) (EH H v b o len n sz cap r new) (LH H e b o len n sz bytes cap r new))
def UJ(e sz bytes:Nat):UD:=λtm H=>YP (Nat.ble 1 sz)<|YP (Nat.ble 1 bytes)<|CB (y tm) λn=>Ti H sz (y tm) n λnew=>Jm (x tm) e sz bytes H n new
def B4(e sz bytes:Nat)(zs:List AV):UD:=λtm H=>YP (Nat.ble 1 sz)<|YP (Nat.ble 1 bytes)<|R6 (y tm) λn=>YP (Nat.ble (Nat.mul n bytes) 140737488355328)<|Jm (x tm) e sz bytes H n (List.replicate n zs).flatten
def B6(sz:Nat):UD:=λtm H=>CB (y tm) λsn=>SH (x tm) (.val (.int .i64 0) H) λb o dn _=>RZ (BY dn sn) λn=>Ti H sz (y tm) n λnew=>
 cond (Nat.beq n 0) (.val (.int .i64 0) H) (Uc H b λr=>YP (H.may r b) (YP (Nat.ble r.fz o) (YP (Nat.ble (Nat.add o (Nat.mul n sz)) r.size) (.val (.int .i64 (.ofNat n)) (H.put b (.row (r.setCells (Tv r.cells o new))))))))
def Wc:UD:=λtm H=>O8 (x tm) λs=>RZ (XX s) λn=>.val (.int .i64 (.ofNat n)) H
def WJ:UD:=λtm H=>nT (x tm) (.val (.int .i64 0) H)<|SH (x tm) (.val (.int .i64 0) H) λ_ _ n _=>RZ n λn=>.val (.int .i64 (.ofNat n)) H
def bx:UD:=λtm H=>FO (x tm) (.val (.int .i64 0) H) λb=>Jb H b λo=>yU o λes _=>.val (.int .i64 (.ofNat (XX es))) H
def jt:UD:=λtm H=>SH (x tm) (.val (.int .i64 0) H) λb o _ cap=>Option.rec (Uc H b λr=>YP r.exact (YP (Nat.beq (Nat.mod o r.sz) 0) (.val (.int .i64 (.ofNat (RK r o none))) H))) (λc=>.val (.int .i64 (.ofNat c)) H) cap
def min2(mx:Bool)(k:IntKind)(a:Int)(H:Heap):List AV->OR
 |[]=>.val (.int k a) H
 |v::l=>match v with|.int j b=>YP (MU j k) (min2 mx k (cond (cond mx (Ct a b) (Ct b a)) b a) H l)|_=>.fail
def T6(mx:Bool)(args:List YR):UD:=λtm H=>match evs tm args with
 |.int k a::l=>min2 mx k a H l
 |_=>.fail
def Ac(e:Nat):UD:=λtm H=>R6 (y tm) λn=>cond (Nat.beq n 0) (match x tm with|.nilp=>.val (.str []) H|.ptr .. =>.val (.str []) H|_=>.fail)
 (YP (Nat.ble n 140737488355328)<|Qz (x tm) λb o=>Uc H b λr=>YP (Nat.beq r.elem e)<|YP (cond r.sm false (H.may r b)) (YP (Nat.ble (Nat.add o n) r.size) (Li (λs=>.val (.str s)
  (H.put b (.row ⟨r.elem,r.sz,r.size,r.cells,r.dflt,cond (Nat.ble r.fz (Nat.add o n)) (Nat.add o n) r.fz,r.sm,r.own,r.exact⟩))) (U5 r o n))))
def GF:UD:=λtm H=>SH (x tm) (.val .nilp H) λb o _ cap=>Option.rec (Uc H b λr=>YP (Nat.ble (Nat.succ o) r.size) (.val (.ptr b o) H)) (λc=>YP (Nat.ble 1 c) (.val (.ptr b o) H)) cap
def Pd:UD:=λtm H=>PT (x tm) .fail λ_ _=>.oth (.pan (x tm) H)
def Kg:UD:=λ_ _=>.oth .recov
def JG(args:List YR):UD:=λtm _=>.oth (.defer (x tm) (evs tm args))
def nF:UD:=λtm H=>FO (x tm) (.val (.ptr H.nx 0) (H.new (.miter none 0 none))) λb=>Jb H b λo=>yU o λ_ c=>.val (.ptr H.nx 0) (H.new (.miter (some b) c none))
def KR:UD:=λtm H=>O8 (x tm) λs=>.val (.ptr H.nx 0) (H.new (.siter s 0))
def yV(o:Obj)(k:List UInt8->Nat->OR):OR:=match o with|.siter s pos=>k s pos|_=>.fail
def Dp:UD:=λtm H=>Qz (x tm) λb o=>YP (Nat.beq o 0)<|YP (Nat.ble H.ro b)<|Jb H b λo=>yV o λs pos=>
 cond (Nat.ble (Nat.succ pos) (XX s)) (match Utf8.decode ⟨s.toArray⟩ pos with|(c,w)=>.val (.tup [.bool true,.int .i64 (.ofNat pos),.int .i32 c]) (H.put b (.siter s (Nat.add pos w)))) (.val (.tup [.bool false]) H)
def Ck(n:Nat)(k:RP->OR):List RP->OR
 |[]=>.fail
 |e::l=>cond (Nat.beq e.born n) (k e) (Ck n k l)
def D4(o:Obj)(k:Nat->Nat->Nat->OR):OR:=match o with|.miter (some m) _ (some (n,st))=>k m n st|_=>.fail
def nD:UD:=λtm H=>Qz (x tm) λb o=>YP (Nat.beq o 0)<|Jb H b λob=>D4 ob λm n st=>Jb H m λom=>yU om λes c=>YP (Nat.beq c st) (Ck n (λe=>.val (.tup [e.key,e.val]) H) es)
def U6:UD:=λ_ _=>.fail
end
inductive Out where
 |normal|exit (id:Nat)|ret|pan (v:AV)
inductive CR where
 |fail
 |ret (v:AV) (H:Heap)
 |pan (v:AV) (H:Heap)
structure X where
 df:List (AV×List AV)
 rc:Option AV
inductive VZ where
 |fail
 |ok (o:Out) (tm:TM) (H:Heap) (x:X)
structure Ctx where
 call:Nat->List AV->Heap->CR
 yld:Nat->List AV->Heap->CR
 rng:AV->(List AV->Heap->CR)->TM->Heap->X->VZ
 fuel:Nat
 rnd:Bool
abbrev D:=Ctx->TM->Heap->X->VZ
def TK:Nat->List AV->Heap->CR:=λ_ _ _=>.fail
def T5:AV->(List AV->Heap->CR)->TM->Heap->X->VZ:=λ_ _ _ _ _=>.fail
def FN(next:TM->Heap->X->VZ)(dst:Yu)(tm:TM)(x:X)(r:CR):VZ:=match r with
 |.ret v H=>next (dst tm v) H x
 |.pan v H=>.ok (.pan v) tm H x
 |.fail=>.fail
def ur(next:TM->Heap->X->VZ)(dst:Yu)(c:Ctx)(tm:TM)(H:Heap)(x:X)(o:OR2):VZ:=match o with
 |.call f args H=>FN next dst tm x (c.call f args H)
 |.yield b args H=>FN next dst tm x (c.yld b args H)
 |.pan v H=>.ok (.pan v) tm H x
 |.recov=>cond c.rnd .fail (match x.rc with
  |some v=>next (dst tm v) H ⟨x.df,none⟩
  |none=>next (dst tm .nili) H x)
 |.defer f args=>match f with
  |.func _ _ _=>cond c.rnd .fail (next (dst tm WK) H ⟨(f,args)::x.df,x.rc⟩)
  |_=>.fail
 |.fail=>.fail
def OV(next:TM->Heap->X->VZ)(dst:Yu)(c:Ctx)(tm:TM)(H:Heap)(x:X)(r:OR):VZ:=
 @OR.rec (λ_=>VZ) (λv H=>next (dst tm v) H x) (λo=>ur next dst c tm H x o) r
def Cu(v:AV)(k:Bool->VZ):VZ:=match v with|.bool c=>k c|_=>.fail
def Za(f:UD)(dst:Yu)(next:D):D:=λc tm H x=>OV (next c) dst c tm H x (f tm H)
def T3(v:AV)(b:Bool)(yes no:VZ):VZ:=match v with
 |.bool c=> @Bool.rec (λ_=>VZ) (@Bool.rec (λ_=>VZ) yes no b) (@Bool.rec (λ_=>VZ) no yes b) c
 |.tup _=>no
 |_=>.fail
def ZR(g:YR)(b:Bool)(f:UD)(dst:Yu)(next:D):D:=λc tm H x=>
 T3 (g tm) b (OV (next c) dst c tm H x (f tm H)) (next c (dst tm WK) H x)
def Zb:D:=λ_ tm H x=>.ok .normal tm H x
def Oy(r:VZ)(k:TM->Heap->X->VZ):VZ:=
 @VZ.rec (λ_=>VZ) .fail (λo tm H x=> @Out.rec (λ_=>VZ) (k tm H x) (λi=>.ok (.exit i) tm H x) (.ok .ret tm H x) (λv=>.ok (.pan v) tm H x) o) r
def Zc(a b:D):D:=λc tm H x=>Oy (a c tm H x) (b c)
def J3(a b:TM->Heap->X->VZ)(v:Bool)(tm:TM)(H:Heap)(x:X):VZ:= @Bool.rec (λ_=>VZ) (b tm H x) (a tm H x) v
def ZL(q:YR)(a b:D):D:=λc tm H x=>Cu (q tm) λv=>J3 (a c) (b c) v tm H x
def PQ(id:Nat)(r:VZ):VZ:=
 @VZ.rec (λ_=>VZ) .fail (λo tm H x=> @Out.rec (λ_=>VZ) (.ok .normal tm H x) (λi=> @Bool.rec (λ_=>VZ) (.ok (.exit i) tm H x) (.ok .normal tm H x) (Nat.beq i id)) (.ok .ret tm H x) (λv=>.ok (.pan v) tm H x) o) r
def Z3(id:Nat)(a:D):D:=λc tm H x=>PQ id (a c tm H x)
def TH(a:TM->Heap->X->VZ)(n:Nat):TM->Heap->X->VZ:=
 @Nat.rec (λ_=>TM->Heap->X->VZ) (λ_ _ _=>.fail) (λ_ ih tm H x=>Oy (a tm H x) ih) n
def Xj(a:D):D:=λc tm H x=>TH (a c) c.fuel tm H x
def GG(r:VZ)(k:Bool):Bool:=match r with
 |.ok .normal _ _ y=>cond (match y.df,y.rc with|[],none=>true|_,_=>false) k false
 |_=>false
def FV(body:TM->Heap->X->VZ)(b m since:Nat)(dst:Yu)(tm:TM)(H:Heap)(es:List RP):Bool:=
 List.rec true (λe _ ih=>GG (body (dst tm (.tup [.bool true,e.key,e.val])) ⟨H.nx,H.t.set b (.miter (some m) since (some (e.born,since))),H.nx⟩ ⟨[],none⟩) ih) es
def bE(v:AV)(k:Nat->Nat->VZ):VZ:=match v with|.ptr b o=>k b o|_=>.fail
def Zeq(o:Option Obj)(no:VZ)(k:Nat->Nat->VZ):VZ:=match o with|some (.miter none _ none)=>no|some (.miter (some m) s none)=>k m s|_=>.fail
def bD(o:Option Obj)(since:Nat)(k:List RP->VZ):VZ:=match o with|some (.map es c)=>cond (Nat.beq c since) (k es) .fail|_=>.fail
def PF(tm:TM):List Yu->TM
 |[]=>tm
 |d::l=>PF (d tm .unk) l
def Ka(r:VZ):VZ:=match r with|.ok .normal _ _ _=>.fail|r=>r
def yi(x:X)(k:VZ):VZ:=match x.df,x.rc with|[],none=>k|_,_=>.fail
def zU(r a:TM->Heap->X->VZ)(q:YR)(dst:Yu)(tm:TM)(H:Heap)(x:X):VZ:=
 bE (q tm) λb o=>cond (Nat.beq o 0) (cond (Nat.ble H.ro b) (Zeq (H.t.get b) (Ka (a (dst tm (.tup [.bool false])) H x)) λm s=>bD (H.t.get m) s λes=>
  yi x (cond (FV r b m s dst tm H es) (Ka (a (dst tm (.tup [.bool false])) ⟨H.nx,H.t.del b,H.ro⟩ x)) .fail)) .fail) .fail
def zT(q:YR)(dst:Yu)(dead:List Yu)(a:D):D:=λc tm H x=>zU (a ⟨c.call,TK,T5,c.fuel,true⟩) (a c) q dst (PF tm dead) H x
def Y6(id:Nat):D:=λ_ tm H x=>.ok (.exit id) tm H x
def Ym:D:=λ_ tm H x=>.ok .ret tm H x
def PE:D:=λ_ _ _ _=>.fail
def Nt(tm:TM):List Yu->List AV->TM
 |d::ds,v::vs=>Nt (d tm v) ds vs
 |_,_=>tm
def JK(r:VZ):CR:=match r with
 |.ok .normal _ H _=>.ret (.bool true) H
 |_=>.fail
def ym(q:YR)(ps:List Yu)(a:D):D:=λc tm H x=>
 c.rng (q tm) (λys H=>cond (Nat.beq (XX ys) (XX ps)) (JK (a ⟨c.call,TK,T5,c.fuel,true⟩ (Nt tm ps ys) H ⟨[],none⟩)) .fail) tm H x
inductive JS where|free|read|eff
structure PI where
 f:UD
 g:Option (YR×Bool)
 os:List (Yu×YR)
 dst:Yu
 kind:JS
 i:Nat
 bef:Nat
mutual
def VB(n:Nat):AV->Bool
 |.ptr b _=>Nat.ble (Nat.succ b) n
 |.slice b _ _ _=>Nat.ble (Nat.succ b) n
 |.map b=>Nat.ble (Nat.succ b) n
 |.func _ x y=>cond (Pb n x) (Pb n y) false
 |.meth _ v=>VB n v
 |.yield b=>Nat.ble (Nat.succ b) n
 |.iface _ v=>VB n v
 |.agg l=>Pb n l
 |.tup l=>Pb n l
 |_=>true
def Pb(n:Nat):List AV->Bool
 |[]=>true
 |v::l=>cond (VB n v) (Pb n l) false
end
def Pe(tm:TM)(os:List (Yu×YR)):TM:=List.rec LA (λp _ ih=>p.1 ih (p.2 tm)) os
def Qy(n:Nat)(tm:TM)(os:List (Yu×YR)):Bool:=List.rec true (λp _ ih=>cond (VB n (p.2 tm)) ih false) os
mutual
def same:AV->AV->Bool
 |.bool a,.bool b=>cond a b (cond b false true)
 |.int k a,.int j b=>cond (MU k j) (Eu a b) false
 |.str a,.str b=>KB a b
 |.nilp,.nilp=>true
 |.ptr a b,.ptr c d=>cond (Nat.beq a c) (Nat.beq b d) false
 |.nils,.nils=>true
 |.slice0,.slice0=>true
 |.slice a b c d,.slice e f g h=>cond (Nat.beq a e) (cond (Nat.beq b f) (cond (Nat.beq c g) (match d,h with|none,none=>true|some x,some y=>Nat.beq x y|_,_=>false) false) false) false
 |.nilm,.nilm=>true
 |.map a,.map b=>Nat.beq a b
 |.func f a b,.func g c d=>cond (Nat.beq f g) (cond (sameL a c) (sameL b d) false) false
 |.nilf,.nilf=>true
 |.iface t v,.iface u w=>cond (Nat.beq t u) (same v w) false
 |.nili,.nili=>true
 |.agg a,.agg b=>sameL a b
 |.tup a,.tup b=>sameL a b
 |_,_=>false
def sameL:List AV->List AV->Bool
 |[],[]=>true
 |a::as,b::bs=>cond (same a b) (sameL as bs) false
 |_,_=>false
end
structure RD where
 p:PI
 v:AV
def Aj(u:RD)(tm:TM)(H:Heap):Bool:=OR.rec (λv H1=>cond (Nat.beq H1.nx H.nx) (same v u.v) false) (λ_=>false) (u.p.f (Pe tm u.p.os) ⟨H.nx,H.t,H.nx⟩)
def still(tm:TM)(H:Heap)(rs:List RD):Bool:=List.rec true (λr _ ih=>cond (Aj r tm H) ih false) rs
def TZ(bef:Nat)(rs:List RD):List RD:=List.rec [] (λr _ ih=>cond (Nat.testBit bef r.p.i) ih (r::ih)) rs
def Mu(g:Option (YR×Bool))(tm:TM)(yes no:VZ):VZ:=match g with
 |none=>yes
 |some (e,b)=>T3 (e tm) b yes no
def wrO(o:Obj):Bool:=match o with|.row r=>r.own|.loop=>false|_=>true
def qn(o:Option Obj)(k:Obj->VZ):VZ:=match o with|some x=>cond (wrO x) (k x) .fail|none=>.fail
abbrev PK:=List RD->TM->Heap->X->VZ
def LP(p:PI)(nx:PK)(rs:List RD)(tm:TM)(H:Heap)(x:X)(r:OR):VZ:=
 OR.rec (λv H1=>cond (Nat.beq H1.nx H.nx) (nx rs (p.dst tm v) H x) (cond (Nat.beq H1.nx (Nat.succ H.nx)) (qn (H1.t.get H.nx) λo=>nx rs (p.dst tm v) (H.new o) x) .fail)) (λ_=>.fail) r
def sy(p:PI)(nx:PK)(rs:List RD)(tm:TM)(H:Heap)(x:X):VZ:=
 cond (Qy H.nx tm p.os) (LP p nx rs tm H x (p.f (Pe tm p.os) ⟨H.nx,.leaf,H.nx⟩)) .fail
def IE(p:PI)(nx:PK)(rs:List RD)(tm:TM)(H:Heap)(x:X)(r:OR):VZ:=
 OR.rec (λv H1=>cond (Nat.beq H1.nx H.nx) (nx (⟨p,v⟩::rs) (p.dst tm v) H x) .fail) (λ_=>.fail) r
def jM(ds:List Yu)(v:AV)(tm:TM)(H:Heap)(x:X):VZ:=.ok (.pan v) (PF tm ds) H x
def FU(ds:List Yu)(p:PI)(nx:PK)(rs:List RD)(tm:TM)(x:X)(r:CR):VZ:=match r with
 |.ret v H=>nx (TZ p.bef rs) (p.dst tm v) H x
 |.pan v H=>jM ds v tm H x
 |.fail=>.fail
def bI(ds:List Yu)(p:PI)(nx:PK)(rs:List RD)(c:Ctx)(tm:TM)(x:X)(o:OR2):VZ:=match o with
 |.call f args H=>FU ds p nx rs tm x (c.call f args H)
 |.yield b args H=>FU ds p nx rs tm x (c.yld b args H)
 |.pan v H=>jM ds v tm H x
 |_=>.fail
def J7(ds:List Yu)(p:PI)(nx:PK)(rs:List RD)(c:Ctx)(tm:TM)(x:X)(r:OR):VZ:=
 OR.rec (λv H=>nx (TZ p.bef rs) (p.dst tm v) H x) (λo=>bI ds p nx rs c tm x o) r
def RB(ds:List Yu)(p:PI)(nx:PK)(c:Ctx)(rs:List RD)(tm:TM)(H:Heap)(x:X):VZ:=
 JS.rec (Mu p.g tm (sy p nx rs tm H x) (nx rs (p.dst tm WK) H x))
  (Mu p.g tm (IE p nx rs tm H x (p.f (Pe tm p.os) ⟨H.nx,H.t,H.nx⟩)) (nx rs (p.dst tm WK) H x))
  (cond (still tm H rs) (Mu p.g tm (J7 ds p nx rs c tm x (p.f (Pe tm p.os) H)) (nx (TZ p.bef rs) (p.dst tm WK) H x)) .fail) p.kind
def Tk(ds:List Yu)(fin:PK)(l:List PI):Ctx->PK:=
 List.rec (λ_ rs tm H x=>cond (still tm H rs) (fin rs tm H x) .fail) (λp _ ih c=>RB ds p (ih c) c) l
def Kb(_:List RD)(tm:TM)(H:Heap)(x:X):VZ:=.ok .normal tm H x
def jr(l:List RD)(k:VZ):VZ:=List.rec k (λ_ _ _=>.fail) l
def YK(l:List PI):D:=λc tm H x=>Tk (l.map (·.dst)) Kb l c [] tm H x
def onV(r:OR)(k:Heap->VZ):VZ:=OR.rec (λ_ H=>k H) (λ_=>.fail) r
def apart(a b:AV)(k:VZ):VZ:=match a,b with|.ptr x _,.ptr y _=>cond (Nat.beq x y) .fail k|_,_=>.fail
def Gh(p q:PI)(a b:YR)(rs:List RD)(tm:TM)(H:Heap)(x:X):VZ:=
 jr (TZ p.bef rs) (jr (TZ q.bef rs) (apart (a (Pe tm p.os)) (b (Pe tm q.os)) (onV (p.f (Pe tm p.os) H) λH1=>onV (q.f (Pe tm q.os) H1) λH2=>.ok .normal tm H2 x)))
def G7(l:List PI)(p q:PI)(a b:YR):D:=λc tm H x=>Tk (l.map (·.dst)) (Gh p q a b) l c [] tm H x
section
variable (P:Program)
def CV(f:Value->AV):List Value->List AV
 |[]=>[]
 |v::vs=>f v::CV f vs
def JH:Nat->Value->AV
 |0,_=>.unk
 |d+1,v=>match v with
  |.bool b=>.bool b
  |.int k n=>.int k n
  |.string s=>.str s.data.toList
  |.pointer none=>.nilp
  |.slice none 0 0=>.nils
  |.map none=>.nilm
  |.nilFunc=>.nilf
  |.func (.func f) ⟨[]⟩ ⟨[]⟩=>.func f [] []
  |.nilIface=>.nili
  |.iface t v=>.iface t (JH d v)
  |.agg ⟨cs⟩=>.agg (CV (JH d) cs)
  |.tuple ⟨cs⟩=>.tup (CV (JH d) cs)
  |_=>.unk
def bB(v:Value):AV:=JH 20 v
def Zes(v:Value):Bool:=match v with|.agg _=>false|.tuple _=>false|_=>true
def Ld:Nat->Value->Bool
 |0,_=>true
 |d+1,v=>match v with
  |.agg ⟨cs⟩=>cs.all λc=>Zes c&&Ld d c
  |.tuple ⟨cs⟩=>cs.all (Ld d)
  |.iface _ v=>Ld d v
  |_=>true
def Ud(v:Value):AV:=cond (Ld 20 v) (bB v) .unk
def XO(o:Operand):YR:=match o with
 |.tmp t=>cond (Nat.ble t 511) (Ru t) (k .unk)
 |.const v=>k (Ud v)
 |.global g=>cond (Nat.ble (Nat.succ g) P.globals.size) (k (.ptr g 0)) (k .unk)
 |.func f=>k (.func f [] [])
def Mx(t:Nat):Bool:=match P.underlying t with|some (.struct _)|some (.array _ _)=>true|_=>false
def T7(t:Nat)(f:TypeInfo->UD):UD:=match P.info? t with|some i=>f i|none=>U6
def nq(t:Nat):Array (String×TypeId):=match P.underlying t with|some (.interface ms)=>ms|_=> #[]
def args(l:Array Operand):List YR:=l.toList.map (XO P)
def opt(x:Option Operand):Option YR:=x.map (XO P)
def Zak(op:BinOp)(x y:YR):UD:=match op with
 |.add=>Yh x y|.sub=>Xq x y|.mul=>S9 x y|.quo=>Pw x y|.rem=>Ey x y
 |.and=>W6 x y So|.or=>W6 x y QQ|.xor=>W6 x y AZ|.andNot=>W6 x y KG
 |.shl=>PS x y|.shr=>N7 x y
 |.eql=>U6|.neq=>U6
 |.lss=>Yl x y Y9 YB
 |.gtr=>Yl x y Tb Vl
 |.leq=>Yl x y TG VN
 |.geq=>Yl x y VE XW
def Lr(o:Operand):Bool:=match o with|.const _=>true|_=>false
def eqK(t:Nat)(lit neg:Bool)(x y:YR)(d:TypeDesc):UD:=match d with
 |.bool=>WM x y tc neg
 |.int _=>WM x y Vj neg
 |.string=>WM x y Nw neg
 |.pointer e=>match P.info? e with|some i=>cond (Nat.beq i.size 0) U6 (WM x y oh neg)|none=>U6
 |.slice _=>WM x y og neg
 |.map _ _=>WM x y il neg
 |.func _ _ _=>WM x y ip neg
 |.interface _=>WM x y (Fb lit (By P (Ek P 9))) neg
 |.array _ _=>cond (P.eqGuardType P.depth t) U6 (WM x y (Ek P 10 t) neg)
 |.struct _=>cond (P.eqGuardType P.depth t) U6 (WM x y (Ek P 10 t) neg)
 |_=>U6
def U7(t:Nat)(f:TypeDesc->UD):UD:=match P.underlying t with|some d=>f d|none=>U6
def Ba(f:Array Field->UD)(d:TypeDesc):UD:=match d with|.struct fs=>f fs|_=>U6
def Eb(f:Nat->UD)(d:TypeDesc):UD:=match d with|.slice e=>f e|_=>U6
def b8(f:Nat->UD)(d:TypeDesc):UD:=match d with|.pointer e=>f e|_=>U6
def rh(f:(AV->AV->Option Bool)->UD)(d:TypeDesc):UD:=match d with|.string=>f Nw|.int _=>f Vj|.bool=>f tc|_=>U6
def xU(f g:UD)(d:TypeDesc):UD:=match d with|.int _=>f|_=>g
def aO(f:UD)(d:TypeDesc):UD:=match d with|.int .u8=>f|_=>U6
def PU{α:Type}(x:Option α)(f:α->UD):UD:=match x with|some a=>f a|none=>U6
def tL(b:Builtin)(xs:List Operand)(ts:List TypeId):UD:=match b with
 |.append=>match xs,ts with
  |[s,x],[t,u]=>U7 P t<|Eb λe=>T7 P e λi=>PU i.zero λz=>cond (Nat.beq (XX (Ud z).cells) i.size) (U7 P u<|xU (B4 (XO P s) (XO P x) e i.size i.bytes (Ud z).cells) (UJ (XO P s) (XO P x) e i.size i.bytes)) U6
  |_,_=>U6
 |.copy=>match xs,ts with
  |[d,s],[t,_]=>U7 P t<|Eb λe=>T7 P e λi=>B6 (XO P d) (XO P s) i.size
  |_,_=>U6
 |.len=>match xs,ts with
  |[x],[t]=>U7 P t λd=>match d with|.string=>Wc (XO P x)|.slice _=>WJ (XO P x)|.map _ _=>bx (XO P x)|_=>U6
  |_,_=>U6
 |.cap=>match xs,ts with
  |[x],[t]=>U7 P t λd=>match d with|.slice _=>jt (XO P x)|_=>U6
  |_,_=>U6
 |.min=>T6 false (xs.map (XO P))
 |.max=>T6 true (xs.map (XO P))
 |.unsafeString=>match xs,ts with
  |[p,n],[t,_]=>U7 P t<|b8 λe=>T7 P e λi=>cond (Nat.beq i.size 1) (Ac (XO P p) (XO P n) e) U6
  |_,_=>U6
 |.unsafeSliceData=>match xs with|[x]=>GF (XO P x)|_=>U6
 |.panic=>match xs with|[x]=>Pd (XO P x)|_=>U6
 |.recover=>Kg
 |_=>U6
def tM(c:Call):UD:=match c.callee with
 |.value (.func f)=>Zy f (args P c.args)
 |.value f=>Uo (XO P f) P (args P c.args)
 |.invoke r m=>nC (XO P r) P m (args P c.args)
 |.builtin b=>tL P b c.args.toList c.argTypes.toList
def mF(s d:Nat)(x:YR)(ds dd:TypeDesc):UD:=match ds,dd with
 |.int _,.int k=>VS x k
 |.string,.string=>Zep x
 |.int _,.string=>FI x
 |.string,.slice e=>U7 P e<|aO (Hk x e)
 |.slice e,.string=>U7 P e<|aO (CU x)
 |.pointer u,.unsafePointer=>T7 P u λi=>cond (Nat.ble 1 i.size) (Dr x) U6
 |.unsafePointer,.pointer u=>T7 P u λi=>cond (Nat.ble 1 i.size) (Dq x u i.size) U6
 |.slice _,.slice e=>cond (Nat.beq s d) (U7 P e<|aO (bz x)) U6
 |_,_=>U6
def dE(s d:Nat)(x:YR):UD:=U7 P s λds=>U7 P d λdd=>mF P s d x ds dd
def lv(n:String)(a b:List Operand):UD:=match a,b with|[x],[]=>bA n (XO P x)|_,_=>U6
def Ok(place:Nat->Option (Nat×Nat))(p:Nat×Operand):DY:=match place p.1 with
 |some (o,s)=>⟨o,s,XO P p.2⟩
 |none=>⟨0,0,XO P p.2⟩
def py(kd:IntKind)(m:Int):List Value->Bool
 |[]=>true
 |v::l=>match v with|.int j n=>cond (MU kd j) (cond (Eu m n) (py kd m l) false) false|_=>false
def tw(t:Nat)(l:List Value)(cs:List AV):UD:=match l with
 |.int kd m::l'=>cond (Nat.ble 8 (XX l')) (cond (py kd m l') (Mh t (Nat.succ (XX l')) (.int kd m)) (Xa t cs)) (Xa t cs)
 |_=>Xa t cs
def ju(hi mx:Option Operand):Bool:=match mx,hi with|some _,none=>false|_,_=>true
def UP(o:Op):UD:=match o with
 |.move x=>Ze (XO P x)
 |.assign x=>Ze (XO P x)
 |.pick c a b=>Yx (XO P c) (XO P a) (XO P b)
 |.alloc t=>T7 P t λi=>PU i.zero λz=>tw t z.cells.toList (Ud z).cells
 |.box t x=>U0 (XO P x) t
 |.build t ps=>T7 P t λi=>PU i.zero λz=>U7 P t λd=>match d with
  |.struct fs=>PU (fs.toList.mapM λf=>(P.info? f.type).map λi=>(f.offset,i.size)) λplaces=>W7 (Ud z).cells (ps.toList.map (Ok P (places.toArray[·]?)))
  |.array _ e=>T7 P e λj=>W7 (Ud z).cells (ps.toList.map (Ok P λi=>some (i*j.size,j.size)))
  |_=>U6
 |.buildSlice t n ps=>U7 P t<|Eb λe=>T7 P e λj=>PU j.zero λz=>
   cond (Nat.ble (Nat.mul n j.size) 16777216) (VR e j.size n ((List.replicate n (Ud z).cells).flatten) (ps.toList.map (Ok P λi=>some (i*j.size,j.size)))) U6
 |.load t a=>T7 P t λi=>U7 P t λ_=>cond (Mx P t) (Yk (XO P a) i.size) (ZI (XO P a))
 |.store t a x=>T7 P t λi=>Z4 (XO P a) (XO P x) i.size
 |.nilCheck x=>Wq (XO P x)
 |.binOp op t x y _=>match op with
  |.eql=>U7 P t (eqK P t (Lr x||Lr y) false (XO P x) (XO P y))
  |.neq=>U7 P t (eqK P t (Lr x||Lr y) true (XO P x) (XO P y))
  |op=>Zak op (XO P x) (XO P y)
 |.unOp op _ x=>match op with|.neg=>CT (XO P x)|.not=>Ts (XO P x)|.xor=>r6 (XO P x)|_=>U6
 |.convert s d x=>dE P s d (XO P x)
 |.makeInterface t x=>U7 P t λd=>match d with|.interface _=>U6|_=>Wn (XO P x) t
 |.makeFunc fn a b=>match fn with
  |.func f=>Oj f (args P a) (args P b)
  |.method n=>lv P n a.toList b.toList
  |_=>U6
 |.makeMap _ r=>match r with|none=>zZ|some _=>U6
 |.mapUpdate t m k v=>U7 P t λd=>match d with|.map kt _=>U7 P kt<|rh λeq=>KQ eq (XO P m) (XO P k) (XO P v)|_=>U6
 |.insert t m k v=>U7 P t λd=>match d with|.map kt _=>U7 P kt<|rh λeq=>KQ eq (XO P m) (XO P k) (XO P v)|_=>U6
 |.lookup t m k ok=>U7 P t λd=>match d with
  |.map kt e=>U7 P kt<|rh λeq=>T7 P e λi=>PU i.zero λz=>KO eq (Ud z) ok (XO P m) (XO P k)
  |_=>U6
 |.makeSlice t l c=>U7 P t<|Eb λe=>T7 P e λi=>PU i.zero λz=>Kf e i.size i.bytes (Ud z).cells (XO P l) (XO P c)
 |.slice t x lo hi mx=>cond (ju hi mx) (U7 P t λd=>match d with
  |.string=>WF (XO P x) (opt P lo) (opt P hi) (opt P mx)
  |.slice e=>T7 P e λi=>Kh i.size (XO P x) (opt P lo) (opt P hi) (opt P mx)
  |.array n e=>T7 P e λi=>M9 n i.size (XO P x) (opt P lo) (opt P hi) (opt P mx)
  |_=>U6) U6
 |.fieldAddr t x f=>U7 P t<|Ba λfs=>PU fs[f]? λg=>T7 P g.type λi=>cond (Nat.ble 1 i.size) (Yo (XO P x) g.offset) U6
 |.field t x f=>U7 P t<|Ba λfs=>PU fs[f]? λg=>T7 P g.type λi=>U7 P g.type λ_=>cond (Mx P g.type) (Zeo (XO P x) g.offset i.size) (Iu (XO P x) g.offset)
 |.indexAddr t x i=>U7 P t λd=>match d with
  |.slice e=>T7 P e λj=>Yi (XO P x) (XO P i) j.size
  |.array n e=>T7 P e λj=>QR (XO P x) (XO P i) n j.size
  |_=>U6
 |.index t x i=>U7 P t λd=>match d with
  |.string=>YA (XO P x) (XO P i)
  |.array n e=>T7 P e λj=>U7 P e λ_=>cond (Mx P e) (nB (XO P x) (XO P i) n j.size) (cond (Nat.beq j.size 1) (B7 (XO P x) (XO P i) n) U6)
  |_=>U6
 |.typeAssert x _ t ok=>T7 P t λi=>PU i.zero λz=>U7 P t λd=>match d with
  |.interface _=>B5 (XO P x) P (nq P t) (Ud z) ok
  |_=>Q5 (XO P x) t (Ud z) ok
 |.extract x i=>XH (XO P x) i
 |.call c=>tM P c
 |.defer c=>match c.callee with
  |.value f=>JG (XO P f) (args P c.args)
  |_=>U6
 |.panic x=>Pd (XO P x)
 |.range t x=>U7 P t λd=>match d with|.string=>KR (XO P x)|.map _ _=>nF (XO P x)|_=>U6
 |.next x b=>cond b (Dp (XO P x)) U6
 |.entry x=>nD (XO P x)
 |_=>U6
def OG(o:Op):JS:=match o with
 |.load .. |.lookup .. =>.read
 |.slice t _ _ _ _=>match P.underlying t with|some (.slice _)=>.read|_=>.free
 |.convert s d _=>match P.underlying s,P.underlying d with|some (.slice _),some (.slice _)=>.eff|some (.slice _),_=>.read|_,_=>.free
 |.call c=>match c.callee,c.argTypes.toList with
  |.builtin b,ts=>match b with
   |.len=>(match ts with|[t]=>(match P.underlying t with|some (.map _ _)=>.read|_=>.free)|_=>.free)
   |.cap|.unsafeSliceData=>.read|.min|.max=>.free|_=>.eff
  |_,_=>.eff
 |.assign _|.store .. |.mapUpdate .. |.insert .. |.mapEntry .. |.entryStore .. |.panic _|.defer _|.next .. |.range .. |.entry _=>.eff
 |_=>.free
def SP(ops:Array Oper)(o:Oper):Option (YR×Bool):=match o.guard with
 |none=>none
 |some (j,b)=>match(ops[j]?).bind (·.dst) with|some d=>some (XO P (.tmp d),b)|none=>some (k .unk,b)
def Vf(x:Option Nat):Yu:=match x with|some d=>cond (Nat.ble d 511) (OK d) d0|none=>d0
def Af(ops:Array Oper):List Oper->D
 |[]=>Zb
 |o::l=>match SP P ops o with
  |none=>Za (UP P o.op) (Vf o.dst) (Af ops l)
  |some (g,b)=>ZR g b (UP P o.op) (Vf o.dst) (Af ops l)
def Jo(acc:List (Nat×Nat))(o:Oper):Nat:=o.after.toList.foldl (λs e=>cond (Region.binds .any e) (Nat.lor (Nat.lor s (Nat.pow 2 e.on)) ((acc.lookup e.on).getD 0)) s) 0
def D7:List Oper->Nat->List (Nat×Nat)->List (Oper×Nat×Nat)
 |[],_,_=>[]
 |o::l,i,acc=>(o,i,Jo acc o)::D7 l (i+1) ((i,Jo acc o)::acc)
def Bc(l:List Operand):List Nat:=l.filterMap λx=>match x with|.tmp t=>some t|_=>none
def Tc(o:Oper):List (Yu×YR):=(Bc o.op.operands.toList).filterMap λt=>cond (Nat.ble t 511) (some (OK t,Ru t)) none
def VG(ops:Array Oper)(x:Oper×Nat×Nat):PI:=⟨UP P x.1.op,SP P ops x.1,Tc x.1,Vf x.1.dst,OG P x.1.op,x.2.1,x.2.2⟩
def BL(k:JS):Bool:=JS.rec false false true k
structure SI where
 i:Nat
 lk:List Nat
 d:Option Nat
 eff:Bool
 bef:Nat
 x:Oper×Nat×Nat
def R5(ops:Array Oper)(o:Oper):List Nat:=Bc o.op.operands.toList++(match o.guard with|some (j,_)=>((ops[j]?).bind (·.dst)).toList|none=>[])
def Nv(ops:Array Oper)(x:Oper×Nat×Nat):SI:=⟨x.2.1,R5 ops x.1,x.1.dst,BL (OG P x.1.op),x.2.2,x⟩
def Fj:Nat->List SI->Nat->List SI
 |0,_,_=>[]
 |f+1,todo,done=>
  let ready:=todo.filter λp=>Nat.beq (Nat.land p.bef done) p.bef
  match ready.find? (λp=>cond p.eff false true) with
  |some p=>p::Fj f (todo.filter λq=>cond (Nat.beq q.i p.i) false true) (Nat.lor done (Nat.pow 2 p.i))
  |none=>match ready with
   |p::_=>p::Fj f (todo.filter λq=>cond (Nat.beq q.i p.i) false true) (Nat.lor done (Nat.pow 2 p.i))
   |[]=>[]
def bit(n:Nat):Nat:=Nat.pow 2 n
def L8(l:List Nat):Nat:=List.rec 0 (λt _ ih=>Nat.lor (bit t) ih) l
def km(d:Option Nat):Nat:=match d with|some t=>bit t|none=>0
def dOk(d:Option Nat)(sm:Nat):Bool:=match d with|some t=>cond (Nat.testBit sm t) false true|none=>true
def ng(ws:List (Nat×Nat))(im bef t:Nat):Bool:=ws.all λx=>cond (Nat.beq x.1 t) (cond (Nat.testBit im x.2) (Nat.testBit bef x.2) true) true
def Cj(i:Nat)(o:Oper):Bool:=o.after.toList.all λe=>cond (Region.binds .any e) (Nat.ble (Nat.succ e.on) i) true
def r7(p:SI)(d:Option Nat):Bool:=match d with|some t=>cond (p.lk.all λs=>cond (Nat.beq s t) false true) (match p.d with|some s=>cond (Nat.beq s t) false true|none=>true) false|none=>true
def pA(l0:List SI)(q:SI)(im:Nat):Bool:=l0.all λp=>cond (Nat.testBit im p.i) (cond (Nat.testBit q.bef p.i) true (r7 p q.d)) true
def xB(l0:List SI)(q:SI)(sm im:Nat):Bool:=cond (dOk q.d (Nat.lor sm (L8 q.lk))) true (cond q.eff (pA l0 q im) false)
def Lu(ws:List (Nat×Nat))(l0:List SI):List SI->Nat->Nat->Nat->Nat->Bool
 |[],_,_,im,all=>Nat.beq im all
 |q::l,em,sm,im,all=>cond (Nat.beq (Nat.land q.bef em) em) (cond (xB l0 q sm im) (cond (q.lk.all (ng ws im q.bef)) (cond (Nat.testBit im q.i) false
   (Lu ws l0 l (cond q.eff (Nat.lor em (bit q.i)) em) (Nat.lor (Nat.lor sm (L8 q.lk)) (km q.d)) (Nat.lor im (bit q.i)) all)) false) false) false
def P7(l:List SI):List (Nat×Nat):=l.filterMap λq=>match q.d with|some t=>some (t,q.i)|none=>none
def GE(l:List SI):Option (List SI×SI×SI):=match l.reverse with|b::a::r=>some (r.reverse,a,b)|_=>none
def Qi(o:Oper):Option YR:=match o.op,o.guard,o.dst with|.store _ a _,none,none=>some (XO P a)|_,_,_=>none
def yg(ops:Array Oper)(ws:List (Nat×Nat))(l0:List SI)(all:Nat)(x:Option (List SI×SI×SI)):D:=match x with
 |some (r,a,b)=>match Qi P a.x.1,Qi P b.x.1 with
  |some e1,some e2=>cond (Lu ws l0 (r++[a]) 0 0 0 (Nat.xor all (bit b.i))) (cond (Lu ws l0 (r++[b]) 0 0 0 (Nat.xor all (bit a.i)))
    (G7 (r.map λq=>VG P ops q.x) (VG P ops a.x) (VG P ops b.x) e1 e2) PE) PE
  |_,_=>PE
 |none=>PE
def Fz(ops:Array Oper):List SI:=Fj ops.size ((D7 ops.toList 0 []).map (Nv P ops)) 0
def C0(ops:Array Oper)(l:List SI):D:=
 cond (Lu (P7 l) l l 0 0 0 (Nat.sub (bit ops.size) 1)) (YK (l.map λq=>VG P ops q.x)) (yg P ops (P7 l) l (Nat.sub (bit ops.size) 1) (GE l))
def yk(ops:Array Oper):D:=
 cond (ops.toList.zipIdx.all λx=>Cj x.2 x.1) (C0 P ops (Fz P ops)) PE
def J6:Code->List Nat
 |.region _ ops _=>ops.toList.filterMap (·.dst)
 |.seq a b=>J6 a++J6 b
 |.cond _ a b=>J6 a++J6 b
 |.block _ a=>J6 a
 |.loop a=>J6 a
 |.scope a=>J6 a
 |.rangeFunc _ _ _ _=>[]
 |_=>[]
def OO:Code->Option (Operand×Option Nat)
 |.seq a _=>OO a
 |.region _ ops false=>match ops.toList with
  |o::_=>match o.op,o.guard with|.next x false,none=>some (x,o.dst)|_,_=>none
  |[]=>none
 |_=>none
def Bu(c:Code):D×D:=
 Code.rec (motive:=λ_=>D×D) (Zb,PE)
  (λ_ ops d=>(cond d (yk P ops) (Af P ops ops.toList),cond d PE (Af P ops ops.toList.tail)))
  (λ_ _ a b=>(Zc a.1 b.1,Zc a.2 b.1))
  (λq _ _ a b=>(ZL (XO P q) a.1 b.1,PE))
  (λid _ a=>(Z3 id a.1,PE))
  (λb a=>(match OO b with|some (x,t)=>zT (XO P x) (Vf t) ((J6 b).map λt=>Vf (some t)) a.2|none=>Xj a.1,PE))
  (λf ps _ _ a b=>(ym (XO P f) (ps.toList.map λt=>Vf (some t)) (Zc a.1 b.1),PE))
  (λid=>(Y6 id,PE))
  (λ_ a=>(a.1,PE))
  (λ_=>(Zb,PE))
  (λ_=>(PE,PE))
  (Ym,PE)
  (λ_=>(PE,PE)) c
def dC(c:Code):D:=(Bu P c).1
end
def params:List Yu:=[d N8.u0 N8.u0 N8.u0,d N8.u1 N8.u0 N8.u0,d N8.u2 N8.u0 N8.u0,d N8.u3 N8.u0 N8.u0,d N8.u4 N8.u0 N8.u0,d N8.u5 N8.u0 N8.u0,d N8.u6 N8.u0 N8.u0,d N8.u7 N8.u0 N8.u0,
 d N8.u0 N8.u1 N8.u0,d N8.u1 N8.u1 N8.u0,d N8.u2 N8.u1 N8.u0,d N8.u3 N8.u1 N8.u0,d N8.u4 N8.u1 N8.u0,d N8.u5 N8.u1 N8.u0,d N8.u6 N8.u1 N8.u0,d N8.u7 N8.u1 N8.u0]
def RJ(as:List AV):TM:=Nt LA params as
structure CF where
 rs:List (YR×Option (Nat×Bool))
 body:D
def jP(tm:TM)(H:Heap)(r:YR×Option (Nat×Bool))(k:AV->CR):CR:=match r.2 with
 |none=>k (r.1 tm)
 |some (n,ag)=>match r.1 tm with
  |.ptr b o=>match H.t.get b with
   |some (.row r)=>cond (Nat.ble (Nat.add o n) r.size) (cond ag (k (.agg (U5 r o n))) (k (r.get o))) .fail
   |_=>.fail
  |_=>.fail
def Nz(tm:TM)(H:Heap)(k:List AV->CR):List (YR×Option (Nat×Bool))->CR
 |[]=>k []
 |r::l=>jP tm H r λv=>Nz tm H (λvs=>k (v::vs)) l
def results(rs:List (YR×Option (Nat×Bool)))(tm:TM)(H:Heap):CR:=
 Nz tm H (λvs=>match vs with|[v]=>.ret v H|vs=>.ret (.tup vs) H) rs
inductive DR where
 |fail
 |ret (v:AV) (H:Heap) (rec:Bool)
 |pan (v:AV) (H:Heap) (rec:Bool)
def MK(rc:Option AV)(x:X):Bool:=match rc,x.rc with|some _,none=>true|_,_=>false
def deferred(dcall:Option AV->Nat->List AV->Heap->DR)(rs:List (YR×Option (Nat×Bool)))(tm:TM):List (AV×List AV)->Option AV->Heap->CR
 |[],none,H=>results rs tm H
 |[],some v,H=>.pan v H
 |d::l,pn,H=>match d.1 with
  |.func g a b=>match dcall pn g (a++(d.2++b)) H with
   |.ret _ H rec=>deferred dcall rs tm l (cond rec none pn) H
   |_=>.fail
  |_=>.fail
def Ly(dcall:Option AV->Nat->List AV->Heap->DR)(rs:List (YR×Option (Nat×Bool)))(r:VZ):CR:=match r with
 |.ok .normal tm H x=>match x.df with|[]=>results rs tm H|df=>deferred dcall rs tm df none H
 |.ok .ret tm H x=>match x.df with|[]=>results rs tm H|df=>deferred dcall rs tm df none H
 |.ok (.pan v) tm H x=>match x.df with|[]=>.pan v H|df=>deferred dcall rs tm df (some v) H
 |_=>.fail
def Hn(rc:Option AV)(rs:List (YR×Option (Nat×Bool)))(r:VZ):DR:=match r with
 |.ok .normal tm H x=>match x.df,results rs tm H with|[],.ret v H=>.ret v H (MK rc x)|_,_=>.fail
 |.ok .ret tm H x=>match x.df,results rs tm H with|[],.ret v H=>.ret v H (MK rc x)|_,_=>.fail
 |.ok (.pan v) _ H x=>match x.df with|[]=>.pan v H (MK rc x)|_=>.fail
 |_=>.fail
def mD(r:CR)(tm:TM)(x:X):VZ:=match r with
 |.ret _ H=>.ok .normal tm H x
 |.pan v H=>.ok (.pan v) tm H x
 |.fail=>.fail
def FM{α:Type}(d:α)(fs:T CF)(f:Nat)(k:CF->α):α:=match fs.get f with|some cf=>k cf|none=>d
def Ho(fs:T CF)(fuel:Nat)(call:Nat->List AV->Heap->CR)(f:AV)(round:List AV->Heap->CR)(tm:TM)(H:Heap)(x:X):VZ:=match f with
 |.func g a b=>FM .fail fs g λcf=>
  mD (Ly (λ_ _ _ _=>.fail) cf.rs (cf.body ⟨call,λl ys H'=>cond (Nat.beq l H.nx) (round ys H') .fail,T5,fuel,false⟩
   (RJ (a++(.yield H.nx::b))) (H.new .loop) ⟨[],none⟩)) tm x
 |_=>.fail
def xr(r:Option CR)(k:CR):CR:=Option.rec k (λr=>r) r
def Xd(lib:Nat->List AV->Heap->Option CR)(fs:T CF)(fuel:Nat)(n:Nat):Nat->List AV->Heap->CR:=
 @Nat.rec (λ_=>Nat->List AV->Heap->CR) (λ_ _ _=>.fail) (λ_ ih f args H=>xr (lib f args H) (FM .fail fs f λcf=>
  Ly (λpn g as H=>FM .fail fs g λcg=>Hn pn cg.rs (cg.body ⟨ih,TK,T5,fuel,false⟩ (RJ as) H ⟨[],pn⟩))
   cf.rs (cf.body ⟨ih,TK,Ho fs fuel ih,fuel,false⟩ (RJ args) H ⟨[],none⟩))) n
def FL(n:Nat)(d:Option Nat):Bool:=match d with|some t=>Nat.ble (Nat.succ t) n|none=>true
def OB(n:Nat)(c:Code):Bool:=
 Code.rec (motive:=λ_=>Bool) true (λ_ ops _=>ops.toList.all λo=>FL n o.dst) (λ_ _ a b=>cond a b false) (λ_ _ _ a b=>cond a b false) (λ_ _ a=>a) (λ_ a=>a)
  (λ_ ps _ _ a b=>cond (ps.toList.all λt=>FL n (some t)) (cond a b false) false) (λ_=>true) (λ_ a=>a) (λ_=>true) (λ_=>true) true (λ_=>true) c
def IF(P:Program)(r:ResultVar):Bool:=match r with|.tmp _=>true|.cell _ t=>(P.info? t).isSome&&(P.underlying t).isSome&&Nat.ble 1 (P.cellsOf t)
def HH(P:Program)(f:Func):CF:=
 ⟨f.results.toList.map λr=>match r with|.tmp t=>(XO P (.tmp t),none)|.cell a t=>(XO P (.tmp a),some (P.cellsOf t,Mx P t)),
  match f.body with|some c=>cond (f.results.toList.all (IF P)) (cond (OB f.ntmps c) (dC P c) PE) PE|none=>PE⟩
def Zfl(P:Program):T CF:=T.ofList (P.funcs.toList.map (HH P))
def nI(k:IntKind)(n:Nat):AV:=.int k (.ofNat n)
def Z0:YR:=e N8.a0 N8.a0 N8.a0
def YQ:YR:=e N8.a1 N8.a0 N8.a0
def XC:YR:=e N8.a2 N8.a0 N8.a0
def Xm:YR:=e N8.a3 N8.a0 N8.a0
def Xh:YR:=e N8.a4 N8.a0 N8.a0
def Xy:YR:=e N8.a5 N8.a0 N8.a0
def X5:YR:=e N8.a6 N8.a0 N8.a0
def Wl:YR:=e N8.a7 N8.a0 N8.a0
def XD:YR:=e N8.a0 N8.a1 N8.a0
def XP:YR:=e N8.a1 N8.a1 N8.a0
def YG:YR:=e N8.a2 N8.a1 N8.a0
def Yz:YR:=e N8.a3 N8.a1 N8.a0
def Yn:YR:=e N8.a4 N8.a1 N8.a0
def YD:YR:=e N8.a5 N8.a1 N8.a0
def Xi:YR:=e N8.a6 N8.a1 N8.a0
def Xr:YR:=e N8.a7 N8.a1 N8.a0
def Y7:YR:=e N8.a0 N8.a2 N8.a0
def Xu:YR:=e N8.a1 N8.a2 N8.a0
def XT:YR:=e N8.a2 N8.a2 N8.a0
def XE:YR:=e N8.a3 N8.a2 N8.a0
def XZ:YR:=e N8.a4 N8.a2 N8.a0
def Xp:YR:=e N8.a5 N8.a2 N8.a0
def XA:YR:=e N8.a6 N8.a2 N8.a0
def Y8:YR:=e N8.a7 N8.a2 N8.a0
def XI:YR:=e N8.a0 N8.a3 N8.a0
def Wa:YR:=e N8.a1 N8.a3 N8.a0
def Wf:YR:=e N8.a2 N8.a3 N8.a0
def Wm:YR:=e N8.a3 N8.a3 N8.a0
def Wv:YR:=e N8.a4 N8.a3 N8.a0
def Wg:YR:=e N8.a5 N8.a3 N8.a0
def Ws:YR:=e N8.a6 N8.a3 N8.a0
def Wd:YR:=e N8.a7 N8.a3 N8.a0
def WU:YR:=e N8.a0 N8.a4 N8.a0
def WI:YR:=e N8.a1 N8.a4 N8.a0
def X6:YR:=e N8.a2 N8.a4 N8.a0
def Wb:YR:=e N8.a3 N8.a4 N8.a0
def W4:YR:=e N8.a4 N8.a4 N8.a0
def W8:YR:=e N8.a5 N8.a4 N8.a0
def Vg:YR:=e N8.a6 N8.a4 N8.a0
def W5:YR:=e N8.a7 N8.a4 N8.a0
def WZ:YR:=e N8.a0 N8.a5 N8.a0
def Vz:YR:=e N8.a1 N8.a5 N8.a0
def Va:YR:=e N8.a2 N8.a5 N8.a0
def Vt:YR:=e N8.a3 N8.a5 N8.a0
def Vp:YR:=e N8.a4 N8.a5 N8.a0
def WX:YR:=e N8.a5 N8.a5 N8.a0
def Vm:YR:=e N8.a6 N8.a5 N8.a0
def Vu:YR:=e N8.a7 N8.a5 N8.a0
def Vq:YR:=e N8.a0 N8.a6 N8.a0
def Vv:YR:=e N8.a1 N8.a6 N8.a0
def VX:YR:=e N8.a2 N8.a6 N8.a0
def Vn:YR:=e N8.a3 N8.a6 N8.a0
def Vb:YR:=e N8.a4 N8.a6 N8.a0
def Wp:YR:=e N8.a5 N8.a6 N8.a0
def Ue:YR:=e N8.a6 N8.a6 N8.a0
def Uv:YR:=e N8.a7 N8.a6 N8.a0
def Uj:YR:=e N8.a0 N8.a7 N8.a0
def Ub:YR:=e N8.a1 N8.a7 N8.a0
def VD:YR:=e N8.a2 N8.a7 N8.a0
def Uy:YR:=e N8.a3 N8.a7 N8.a0
def UI:YR:=e N8.a4 N8.a7 N8.a0
def UZ:YR:=e N8.a5 N8.a7 N8.a0
def U4:YR:=e N8.a6 N8.a7 N8.a0
def Tq:YR:=e N8.a7 N8.a7 N8.a0
def TR:YR:=e N8.a0 N8.a0 N8.a1
def Tx:YR:=e N8.a1 N8.a0 N8.a1
def Sk:YR:=e N8.a2 N8.a0 N8.a1
def Sb:YR:=e N8.a3 N8.a0 N8.a1
def Tj:YR:=e N8.a4 N8.a0 N8.a1
def Sm:YR:=e N8.a5 N8.a0 N8.a1
def SM:YR:=e N8.a6 N8.a0 N8.a1
def SY:YR:=e N8.a7 N8.a0 N8.a1
def TE:YR:=e N8.a0 N8.a1 N8.a1
def SD:YR:=e N8.a1 N8.a1 N8.a1
def SN:YR:=e N8.a2 N8.a1 N8.a1
def SS:YR:=e N8.a3 N8.a1 N8.a1
def Sn:YR:=e N8.a4 N8.a1 N8.a1
def SO:YR:=e N8.a5 N8.a1 N8.a1
def SE:YR:=e N8.a6 N8.a1 N8.a1
def S8:YR:=e N8.a7 N8.a1 N8.a1
def SF:YR:=e N8.a0 N8.a2 N8.a1
def SG:YR:=e N8.a1 N8.a2 N8.a1
def Rn:YR:=e N8.a2 N8.a2 N8.a1
def UR:YR:=e N8.a3 N8.a2 N8.a1
def Sg:YR:=e N8.a4 N8.a2 N8.a1
def SZ:YR:=e N8.a5 N8.a2 N8.a1
def R3:YR:=e N8.a6 N8.a2 N8.a1
def QB:YR:=e N8.a7 N8.a2 N8.a1
def Ro:YR:=e N8.a0 N8.a3 N8.a1
def Qp:YR:=e N8.a1 N8.a3 N8.a1
def Qq:YR:=e N8.a2 N8.a3 N8.a1
def RA:YR:=e N8.a3 N8.a3 N8.a1
def RR:YR:=e N8.a4 N8.a3 N8.a1
def QN:YR:=e N8.a5 N8.a3 N8.a1
def Pv:YR:=e N8.a6 N8.a3 N8.a1
def QO:YR:=e N8.a7 N8.a3 N8.a1
def PN:YR:=e N8.a0 N8.a4 N8.a1
def O5:YR:=e N8.a1 N8.a4 N8.a1
def O6:YR:=e N8.a2 N8.a4 N8.a1
def OF:YR:=e N8.a3 N8.a4 N8.a1
def RL:YR:=e N8.a4 N8.a4 N8.a1
def QJ:YR:=e N8.a5 N8.a4 N8.a1
def SR:YR:=e N8.a6 N8.a4 N8.a1
def PH:YR:=e N8.a7 N8.a4 N8.a1
def PJ:YR:=e N8.a0 N8.a5 N8.a1
def Qx:YR:=e N8.a1 N8.a5 N8.a1
def SC:YR:=e N8.a2 N8.a5 N8.a1
def PL:YR:=e N8.a3 N8.a5 N8.a1
def UX:YR:=e N8.a4 N8.a5 N8.a1
def Rw:YR:=e N8.a5 N8.a5 N8.a1
def QK:YR:=e N8.a6 N8.a5 N8.a1
def QL:YR:=e N8.a7 N8.a5 N8.a1
def R0:YR:=e N8.a0 N8.a6 N8.a1
def R1:YR:=e N8.a1 N8.a6 N8.a1
def Rx:YR:=e N8.a2 N8.a6 N8.a1
def Ry:YR:=e N8.a3 N8.a6 N8.a1
def Rg:YR:=e N8.a4 N8.a6 N8.a1
def Pg:YR:=e N8.a5 N8.a6 N8.a1
def Ph:YR:=e N8.a6 N8.a6 N8.a1
def Od:YR:=e N8.a7 N8.a6 N8.a1
def Oe:YR:=e N8.a0 N8.a7 N8.a1
def Rz:YR:=e N8.a1 N8.a7 N8.a1
def OY:YR:=e N8.a2 N8.a7 N8.a1
def PM:YR:=e N8.a3 N8.a7 N8.a1
def OZ:YR:=e N8.a4 N8.a7 N8.a1
def QM:YR:=e N8.a5 N8.a7 N8.a1
def UM:YR:=e N8.a6 N8.a7 N8.a1
def Of:YR:=e N8.a7 N8.a7 N8.a1
def Pi:YR:=e N8.a0 N8.a0 N8.a2
def O0:YR:=e N8.a1 N8.a0 N8.a2
def Og:YR:=e N8.a2 N8.a0 N8.a2
def Oh:YR:=e N8.a3 N8.a0 N8.a2
def RM:YR:=e N8.a4 N8.a0 N8.a2
def R2:YR:=e N8.a5 N8.a0 N8.a2
def O1:YR:=e N8.a6 N8.a0 N8.a2
def Oi:YR:=e N8.a7 N8.a0 N8.a2
def O2:YR:=e N8.a0 N8.a1 N8.a2
def O3:YR:=e N8.a1 N8.a1 N8.a2
def O4:YR:=e N8.a2 N8.a1 N8.a2
def NV:YR:=e N8.a3 N8.a1 N8.a2
def Pj:YR:=e N8.a4 N8.a1 N8.a2
def LT:YR:=e N8.a5 N8.a1 N8.a2
def LU:YR:=e N8.a6 N8.a1 N8.a2
def Ig:YR:=e N8.a7 N8.a1 N8.a2
def Ih:YR:=e N8.a0 N8.a2 N8.a2
def Lo:YR:=e N8.a1 N8.a2 N8.a2
def LV:YR:=e N8.a2 N8.a2 N8.a2
def Nx:YR:=e N8.a3 N8.a2 N8.a2
def LW:YR:=e N8.a4 N8.a2 N8.a2
def LX:YR:=e N8.a5 N8.a2 N8.a2
def LY:YR:=e N8.a6 N8.a2 N8.a2
def LZ:YR:=e N8.a7 N8.a2 N8.a2
def Mc:YR:=e N8.a0 N8.a3 N8.a2
def L0:YR:=e N8.a1 N8.a3 N8.a2
def L1:YR:=e N8.a2 N8.a3 N8.a2
def Md:YR:=e N8.a3 N8.a3 N8.a2
def K7:YR:=e N8.a4 N8.a3 N8.a2
def MG:YR:=e N8.a5 N8.a3 N8.a2
def Ii:YR:=e N8.a6 N8.a3 N8.a2
def Fk:YR:=e N8.a7 N8.a3 N8.a2
def HV:YR:=e N8.a0 N8.a4 N8.a2
def HW:YR:=e N8.a1 N8.a4 N8.a2
def L3:YR:=e N8.a2 N8.a4 N8.a2
def Lq:YR:=e N8.a3 N8.a4 N8.a2
def K8:YR:=e N8.a4 N8.a4 N8.a2
def MH:YR:=e N8.a5 N8.a4 N8.a2
def Ij:YR:=e N8.a6 N8.a4 N8.a2
def HX:YR:=e N8.a7 N8.a4 N8.a2
def HY:YR:=e N8.a0 N8.a5 N8.a2
def Fl:YR:=e N8.a1 N8.a5 N8.a2
def Fm:YR:=e N8.a2 N8.a5 N8.a2
def Fo:YR:=e N8.a3 N8.a5 N8.a2
def Dc:YR:=e N8.a4 N8.a5 N8.a2
def Dd:YR:=e N8.a5 N8.a5 N8.a2
def De:YR:=e N8.a6 N8.a5 N8.a2
def HZ:YR:=e N8.a7 N8.a5 N8.a2
def H7:YR:=e N8.a0 N8.a6 N8.a2
def y8:YR:=e N8.a1 N8.a6 N8.a2
def mL:YR:=e N8.a2 N8.a6 N8.a2
def mM:YR:=e N8.a3 N8.a6 N8.a2
def mN:YR:=e N8.a4 N8.a6 N8.a2
def mO:YR:=e N8.a5 N8.a6 N8.a2
def mP:YR:=e N8.a6 N8.a6 N8.a2
def mQ:YR:=e N8.a7 N8.a6 N8.a2
def mR:YR:=e N8.a0 N8.a7 N8.a2
def mS:YR:=e N8.a1 N8.a7 N8.a2
def mT:YR:=e N8.a2 N8.a7 N8.a2
def dM:YR:=e N8.a3 N8.a7 N8.a2
def dN:YR:=e N8.a4 N8.a7 N8.a2
def dO:YR:=e N8.a5 N8.a7 N8.a2
def dP:YR:=e N8.a6 N8.a7 N8.a2
def dQ:YR:=e N8.a7 N8.a7 N8.a2
def st0:Yu:=d N8.u0 N8.u0 N8.u0
def st1:Yu:=d N8.u1 N8.u0 N8.u0
def st2:Yu:=d N8.u2 N8.u0 N8.u0
def Wz:Yu:=d N8.u3 N8.u0 N8.u0
def Xn:Yu:=d N8.u4 N8.u0 N8.u0
def WN:Yu:=d N8.u5 N8.u0 N8.u0
def WA:Yu:=d N8.u6 N8.u0 N8.u0
def WT:Yu:=d N8.u7 N8.u0 N8.u0
def Wx:Yu:=d N8.u0 N8.u1 N8.u0
def WG:Yu:=d N8.u1 N8.u1 N8.u0
def Y1:Yu:=d N8.u2 N8.u1 N8.u0
def YS:Yu:=d N8.u3 N8.u1 N8.u0
def YL:Yu:=d N8.u4 N8.u1 N8.u0
def YY:Yu:=d N8.u5 N8.u1 N8.u0
def XF:Yu:=d N8.u6 N8.u1 N8.u0
def XS:Yu:=d N8.u7 N8.u1 N8.u0
def XJ:Yu:=d N8.u0 N8.u2 N8.u0
def XU:Yu:=d N8.u1 N8.u2 N8.u0
def XV:Yu:=d N8.u2 N8.u2 N8.u0
def X4:Yu:=d N8.u3 N8.u2 N8.u0
def X7:Yu:=d N8.u4 N8.u2 N8.u0
def X9:Yu:=d N8.u5 N8.u2 N8.u0
def We:Yu:=d N8.u6 N8.u2 N8.u0
def Wh:Yu:=d N8.u7 N8.u2 N8.u0
def Wi:Yu:=d N8.u0 N8.u3 N8.u0
def Wo:Yu:=d N8.u1 N8.u3 N8.u0
def Wt:Yu:=d N8.u2 N8.u3 N8.u0
def Ww:Yu:=d N8.u3 N8.u3 N8.u0
def WL:Yu:=d N8.u4 N8.u3 N8.u0
def WP:Yu:=d N8.u5 N8.u3 N8.u0
def WV:Yu:=d N8.u6 N8.u3 N8.u0
def WR:Yu:=d N8.u7 N8.u3 N8.u0
def W0:Yu:=d N8.u0 N8.u4 N8.u0
def W1:Yu:=d N8.u1 N8.u4 N8.u0
def W9:Yu:=d N8.u2 N8.u4 N8.u0
def Vh:Yu:=d N8.u3 N8.u4 N8.u0
def Vi:Yu:=d N8.u4 N8.u4 N8.u0
def Vk:Yu:=d N8.u5 N8.u4 N8.u0
def Vr:Yu:=d N8.u6 N8.u4 N8.u0
def Vw:Yu:=d N8.u7 N8.u4 N8.u0
def VK:Yu:=d N8.u0 N8.u5 N8.u0
def VL:Yu:=d N8.u1 N8.u5 N8.u0
def VM:Yu:=d N8.u2 N8.u5 N8.u0
def VF:Yu:=d N8.u3 N8.u5 N8.u0
def VT:Yu:=d N8.u4 N8.u5 N8.u0
def V2:Yu:=d N8.u5 N8.u5 N8.u0
def V3:Yu:=d N8.u6 N8.u5 N8.u0
def Uf:Yu:=d N8.u7 N8.u5 N8.u0
def Uq:Yu:=d N8.u0 N8.u6 N8.u0
def Ug:Yu:=d N8.u1 N8.u6 N8.u0
def V8:Yu:=d N8.u2 N8.u6 N8.u0
def V4:Yu:=d N8.u3 N8.u6 N8.u0
def V9:Yu:=d N8.u4 N8.u6 N8.u0
def Us:Yu:=d N8.u5 N8.u6 N8.u0
def Uw:Yu:=d N8.u6 N8.u6 N8.u0
def Uz:Yu:=d N8.u7 N8.u6 N8.u0
def UG:Yu:=d N8.u0 N8.u7 N8.u0
def UC:Yu:=d N8.u1 N8.u7 N8.u0
def UK:Yu:=d N8.u2 N8.u7 N8.u0
def UL:Yu:=d N8.u3 N8.u7 N8.u0
def U1:Yu:=d N8.u4 N8.u7 N8.u0
def U2:Yu:=d N8.u5 N8.u7 N8.u0
def Td:Yu:=d N8.u6 N8.u7 N8.u0
def TB:Yu:=d N8.u7 N8.u7 N8.u0
def TU:Yu:=d N8.u0 N8.u0 N8.u1
def T8:Yu:=d N8.u1 N8.u0 N8.u1
def Sp:Yu:=d N8.u2 N8.u0 N8.u1
def S3:Yu:=d N8.u3 N8.u0 N8.u1
def Ra:Yu:=d N8.u4 N8.u0 N8.u1
def Rq:Yu:=d N8.u5 N8.u0 N8.u1
def Rb:Yu:=d N8.u6 N8.u0 N8.u1
def S4:Yu:=d N8.u7 N8.u0 N8.u1
def SK:Yu:=d N8.u0 N8.u1 N8.u1
def S5:Yu:=d N8.u1 N8.u1 N8.u1
def S6:Yu:=d N8.u2 N8.u1 N8.u1
def Rc:Yu:=d N8.u3 N8.u1 N8.u1
def Rd:Yu:=d N8.u4 N8.u1 N8.u1
def Rr:Yu:=d N8.u5 N8.u1 N8.u1
def Rs:Yu:=d N8.u6 N8.u1 N8.u1
def Re:Yu:=d N8.u7 N8.u1 N8.u1
def Rf:Yu:=d N8.u0 N8.u2 N8.u1
def Rt:Yu:=d N8.u1 N8.u2 N8.u1
def RH:Yu:=d N8.u2 N8.u2 N8.u1
def RI:Yu:=d N8.u3 N8.u2 N8.u1
def Qg:Yu:=d N8.u4 N8.u2 N8.u1
def Qh:Yu:=d N8.u5 N8.u2 N8.u1
def QC:Yu:=d N8.u6 N8.u2 N8.u1
def QD:Yu:=d N8.u7 N8.u2 N8.u1
def Qu:Yu:=d N8.u0 N8.u3 N8.u1
def Qv:Yu:=d N8.u1 N8.u3 N8.u1
def QX:Yu:=d N8.u2 N8.u3 N8.u1
def QY:Yu:=d N8.u3 N8.u3 N8.u1
def QZ:Yu:=d N8.u4 N8.u3 N8.u1
def Q0:Yu:=d N8.u5 N8.u3 N8.u1
def Px:Yu:=d N8.u6 N8.u3 N8.u1
def Py:Yu:=d N8.u7 N8.u3 N8.u1
def Oa:Yu:=d N8.u0 N8.u4 N8.u1
def Nl:Yu:=d N8.u1 N8.u4 N8.u1
def Nm:Yu:=d N8.u2 N8.u4 N8.u1
def Nn:Yu:=d N8.u3 N8.u4 N8.u1
def RN:Yu:=d N8.u4 N8.u4 N8.u1
def QT:Yu:=d N8.u5 N8.u4 N8.u1
def PZ:Yu:=d N8.u6 N8.u4 N8.u1
def P0:Yu:=d N8.u7 N8.u4 N8.u1
def Ol:Yu:=d N8.u0 N8.u5 N8.u1
def Pp:Yu:=d N8.u1 N8.u5 N8.u1
def QU:Yu:=d N8.u2 N8.u5 N8.u1
def P1:Yu:=d N8.u3 N8.u5 N8.u1
def P2:Yu:=d N8.u4 N8.u5 N8.u1
def P3:Yu:=d N8.u5 N8.u5 N8.u1
def QV:Yu:=d N8.u6 N8.u5 N8.u1
def QW:Yu:=d N8.u7 N8.u5 N8.u1
def Qb:Yu:=d N8.u0 N8.u6 N8.u1
def Qc:Yu:=d N8.u1 N8.u6 N8.u1
def Qd:Yu:=d N8.u2 N8.u6 N8.u1
def Qe:Yu:=d N8.u3 N8.u6 N8.u1
def Qf:Yu:=d N8.u4 N8.u6 N8.u1
def Pq:Yu:=d N8.u5 N8.u6 N8.u1
def Pr:Yu:=d N8.u6 N8.u6 N8.u1
def P4:Yu:=d N8.u7 N8.u6 N8.u1
def Nb:Yu:=d N8.u0 N8.u7 N8.u1
def Nc:Yu:=d N8.u1 N8.u7 N8.u1
def Nd:Yu:=d N8.u2 N8.u7 N8.u1
def P5:Yu:=d N8.u3 N8.u7 N8.u1
def Nf:Yu:=d N8.u4 N8.u7 N8.u1
def Om:Yu:=d N8.u5 N8.u7 N8.u1
def On:Yu:=d N8.u6 N8.u7 N8.u1
def Oo:Yu:=d N8.u7 N8.u7 N8.u1
def Ng:Yu:=d N8.u0 N8.u0 N8.u2
def Nh:Yu:=d N8.u1 N8.u0 N8.u2
def Oq:Yu:=d N8.u2 N8.u0 N8.u2
def Ot:Yu:=d N8.u3 N8.u0 N8.u2
def Ou:Yu:=d N8.u4 N8.u0 N8.u2
def Ov:Yu:=d N8.u5 N8.u0 N8.u2
def Ow:Yu:=d N8.u6 N8.u0 N8.u2
def Ox:Yu:=d N8.u7 N8.u0 N8.u2
def Ni:Yu:=d N8.u0 N8.u1 N8.u2
def Nj:Yu:=d N8.u1 N8.u1 N8.u2
def Nk:Yu:=d N8.u2 N8.u1 N8.u2
def N1:Yu:=d N8.u3 N8.u1 N8.u2
def N2:Yu:=d N8.u4 N8.u1 N8.u2
def Kr:Yu:=d N8.u5 N8.u1 N8.u2
def Ks:Yu:=d N8.u6 N8.u1 N8.u2
def IP:Yu:=d N8.u7 N8.u1 N8.u2
def IR:Yu:=d N8.u0 N8.u2 N8.u2
def Lv:Yu:=d N8.u1 N8.u2 N8.u2
def MO:Yu:=d N8.u2 N8.u2 N8.u2
def MP:Yu:=d N8.u3 N8.u2 N8.u2
def Kt:Yu:=d N8.u4 N8.u2 N8.u2
def Ku:Yu:=d N8.u5 N8.u2 N8.u2
def Kv:Yu:=d N8.u6 N8.u2 N8.u2
def Kw:Yu:=d N8.u7 N8.u2 N8.u2
def Kx:Yu:=d N8.u0 N8.u3 N8.u2
def Ky:Yu:=d N8.u1 N8.u3 N8.u2
def Kz:Yu:=d N8.u2 N8.u3 N8.u2
def KA:Yu:=d N8.u3 N8.u3 N8.u2
def Je:Yu:=d N8.u4 N8.u3 N8.u2
def Jf:Yu:=d N8.u5 N8.u3 N8.u2
def IS:Yu:=d N8.u6 N8.u3 N8.u2
def F5:Yu:=d N8.u7 N8.u3 N8.u2
def Gk:Yu:=d N8.u0 N8.u4 N8.u2
def Gl:Yu:=d N8.u1 N8.u4 N8.u2
def Gm:Yu:=d N8.u2 N8.u4 N8.u2
def Jg:Yu:=d N8.u3 N8.u4 N8.u2
def Jh:Yu:=d N8.u4 N8.u4 N8.u2
def Ji:Yu:=d N8.u5 N8.u4 N8.u2
def IT:Yu:=d N8.u6 N8.u4 N8.u2
def Gn:Yu:=d N8.u7 N8.u4 N8.u2
def Gp:Yu:=d N8.u0 N8.u5 N8.u2
def F6:Yu:=d N8.u1 N8.u5 N8.u2
def F7:Yu:=d N8.u2 N8.u5 N8.u2
def F8:Yu:=d N8.u3 N8.u5 N8.u2
def DM:Yu:=d N8.u4 N8.u5 N8.u2
def DN:Yu:=d N8.u5 N8.u5 N8.u2
def DO:Yu:=d N8.u6 N8.u5 N8.u2
def DP:Yu:=d N8.u7 N8.u5 N8.u2
def DQ:Yu:=d N8.u0 N8.u6 N8.u2
def xR:Yu:=d N8.u1 N8.u6 N8.u2
def lH:Yu:=d N8.u2 N8.u6 N8.u2
def lI:Yu:=d N8.u3 N8.u6 N8.u2
def lJ:Yu:=d N8.u4 N8.u6 N8.u2
def lK:Yu:=d N8.u5 N8.u6 N8.u2
def lL:Yu:=d N8.u6 N8.u6 N8.u2
def lM:Yu:=d N8.u7 N8.u6 N8.u2
def lN:Yu:=d N8.u0 N8.u7 N8.u2
def lO:Yu:=d N8.u1 N8.u7 N8.u2
def lP:Yu:=d N8.u2 N8.u7 N8.u2
def bT:Yu:=d N8.u3 N8.u7 N8.u2
def bU:Yu:=d N8.u4 N8.u7 N8.u2
def bV:Yu:=d N8.u5 N8.u7 N8.u2
def bW:Yu:=d N8.u6 N8.u7 N8.u2
def bX:Yu:=d N8.u7 N8.u7 N8.u2
end
end Go.AI
