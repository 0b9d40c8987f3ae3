/- The interpreter of my own: definitions alone. -/
import Derived.Calls
import GoSem.Step
set_option maxRecDepth 1000000
set_option maxHeartbeats 0
set_option linter.unusedVariables false
set_option linter.unusedSimpArgs false
namespace Go.AI
abbrev Za:= @decide_eq_false
abbrev Zf:= @List.getD_eq_getElem?_getD
abbrev Zg:= @Nat.ble_eq_true_of_le
abbrev Ze:= @decide_eq_true
abbrev Zn:= @of_decide_eq_true
abbrev Zj:= @Nat.le_refl
abbrev Zi:= @List.getElem?_eq_getElem
abbrev Zl:= @List.length_cons
abbrev Zt:= @Nat.zero_add
abbrev ZM:= @List.take_of_length_le
abbrev Zx:= @List.mem_cons_self
abbrev ZH:= @Nat.lt_of_lt_of_le
abbrev Zm:= @List.length_append
abbrev ZI:= @List.mem_cons_of_mem
abbrev ZT:= @Nat.eq_of_beq_eq_true
abbrev ZN:= @Nat.le_of_ble_eq_true
abbrev Ye:= @List.drop_zero
abbrev Zr:= @List.length_map
abbrev ZV:= @Nat.mod_eq_of_lt
abbrev ZA:= @List.length_nil
abbrev YZ:= @Nat.lt_succ_self
abbrev ZW:= @Array.getElem?_eq_some_iff
abbrev Zv:= @Nat.add_zero
abbrev Zs:= @List.mem_append
abbrev Z1:= @Nat.zero_le
abbrev Yt:= @Nat.le_trans
abbrev XF:= @Nat.add_sub_cancel
abbrev Ya:= @List.mem_cons
abbrev Yb:= @Nat.beq_refl
abbrev YG:= @Bool.true_and
abbrev Xy:= @Bool.false_and
abbrev YF:= @List.getElem?_eq_none
abbrev Z9:= @List.length_take
abbrev Yd:= @Array.getElem?_toList
abbrev Z0:= @Array.getD_eq_getD_getElem?
abbrev Yj:= @List.length_eq_zero_iff
abbrev Yr:= @List.getElem?_append_left
abbrev Yx:= @Int.ofNat_eq_natCast
abbrev P2:= @List.not_mem_nil
abbrev Xj:= @List.cons_append
abbrev YJ:= @List.getElem_mem
abbrev Vg:= @Nat.mul_le_mul_right
abbrev VJ:= @Nat.lt_of_le_of_lt
abbrev PG:= @Nat.le_of_lt
abbrev XU:= @List.length_pos_iff
abbrev Sm:= @Nat.sub_self
abbrev W1:= @Nat.mod_lt
abbrev Y0:= @List.drop_eq_nil_of_le
abbrev YR:= @List.getElem?_map
abbrev Yl:= @List.append_assoc
abbrev Xa:= @Nat.not_lt_zero
abbrev OT:= @List.getElem_of_mem
abbrev Ve:= @List.drop_succ_cons
abbrev U4:= @List.take_length
abbrev Vw:= @Nat.lt_irrefl
abbrev XE:= @Bool.and_eq_true
abbrev Zk:= @List.forall_mem_cons
abbrev W0:= @Array.mem_of_getElem?
abbrev Y7:= @List.all_eq_true
abbrev Vo:= @Option.isSome_iff_exists
abbrev Xh:= @Array.getElem?_setIfInBounds
abbrev W7:= @Bool.eq_iff_iff
abbrev YO:= @Bool.false_eq_true
abbrev R8:= @Nat.lt_succ_of_le
abbrev WO:= @UInt8.toNat_inj
abbrev VF:= @UInt8.lt_iff_toNat_lt
abbrev Qj:= @Nat.pow_add
abbrev VA:= @Nat.min_eq_left
abbrev Sv:= @Nat.min_eq_right
abbrev XC:= @Nat.add_assoc
abbrev WA:= @List.extract_eq_take_drop
abbrev Sk:= @List.mem_of_mem_drop
abbrev Tb:= @List.mem_of_mem_take
abbrev W3:= @Int.toNat_natCast
abbrev Xr:= @Nat.mul_one
abbrev Wj:= @Option.map_some
abbrev Wb:= @Array.getElem?_modify
abbrev Wz:= @Array.getElem?_eq_getElem
abbrev V2:= @List.mem_of_getElem?
abbrev XP:= @List.getElem?_toArray
abbrev Sj:= @List.getElem?_replicate
abbrev Wl:= @List.ext_getElem?
abbrev YI:= @List.getElem?_append_right
abbrev X9:= @List.getElem?_drop
abbrev Y8:= @List.map_cons
abbrev Vx:= @Bool.or_eq_true
abbrev Vy:= @List.flatten_cons
abbrev XQ:= @Nat.add_mul
abbrev Rq:= @Array.toList_map
abbrev Vf:= @List.getElem?_range
abbrev YV:= @List.mem_map
abbrev TB:= @Nat.zero_mul
abbrev XZ:= @Nat.le_succ
abbrev Ty:= @Nat.mul_comm
abbrev UO:= @Bool.true_or
abbrev TA:= @Nat.mul_div_cancel
abbrev Qa:= @Nat.div_lt_iff_lt_mul
abbrev VV:= @List.getElem?_cons_zero
abbrev Th:= @List.getElem?_cons_succ
abbrev Uk:= @Bool.not_false
abbrev S5:= @Nat.le_mul_of_pos_right
abbrev Uc:= @Bool.not_true
abbrev S3:= @List.mem_range
abbrev Rr:= @Nat.eq_zero_or_pos
abbrev SN:= @Nat.add_sub_cancel_left
abbrev UP:= @List.map_map
abbrev Un:= @Nat.lt_or_ge
abbrev Tx:= @List.mem_map_of_mem
abbrev Y1:= @List.mem_singleton
abbrev Uj:= @Array.getElem?_setIfInBounds_ne
abbrev TV:= @List.range'_succ
abbrev Ta:= @List.mem_filterMap
abbrev RK:= @List.range_eq_range'
abbrev XI:= @Bool.or_eq_false_iff
abbrev Tu:= @List.mem_filter
abbrev U3:= @List.filter_cons
abbrev Xn:= @Array.mem_toList_iff
abbrev V1:= @List.map_congr_left
abbrev Xp:= @List.nil_append
abbrev Vz:= @List.getElem?_eq_some_iff
abbrev U0:= @Nat.one_mul
abbrev U8:= @List.drop_drop
abbrev S6:= @Option.map_eq_some_iff
abbrev SU:= @List.nodup_append
abbrev R7:= @List.nodup_cons
abbrev Xo:= @List.map_append
abbrev S4:= @Nat.div_le_self
abbrev XJ:= @List.getElem?_take_of_lt
abbrev Z7:= @List.length_drop
abbrev W4:= @List.set_cons_succ
abbrev Xv:= @List.length_set
abbrev Xu:= @List.append_nil
abbrev Rs:= @Nat.pow_succ
abbrev RL:= @Nat.div_div_eq_div_mul
abbrev TW:= @List.take_add_one
abbrev WI:= @List.take_append_drop
abbrev Um:= @List.take_zero
abbrev Xs:= @List.drop_eq_getElem_cons
abbrev Wn:= @List.takeWhile_cons_of_pos
abbrev Wm:= @List.takeWhile_cons_of_neg
abbrev Qx:= @Nat.sub_zero
abbrev VE:= @List.flatten_append
abbrev Ti:= @List.singleton_append
abbrev X2:= @List.any_eq_false
abbrev TR:= @List.flatMap_append
abbrev X8:= @List.flatMap_cons
abbrev SM:= @List.mem_or_eq_of_mem_set
abbrev Ul:= @List.getElem?_set_self
abbrev U9:= @List.getElem?_set_ne
abbrev TK:= @List.sum_cons
abbrev Sw:= @Nat.or_lt_two_pow
abbrev TC:= @UInt8.ofNat_toNat
abbrev WN:= @Bool.false_or
abbrev Tc:= @List.take_succ_cons
abbrev Uv:= @List.length_range
end Go.AI
namespace Go.AI
open Go
noncomputable section
structure N8(α:Type) where
 a0:α
 a1:α
 a2:α
 a3:α
 a4:α
 a5:α
 a6:α
 a7:α
namespace N8
variable {α:Type}
def u0(f:α->α)(n:N8 α):N8 α:=N8.rec (λa b c d e g h i=>⟨f a,b,c,d,e,g,h,i⟩) n
def u1(f:α->α)(n:N8 α):N8 α:=N8.rec (λa b c d e g h i=>⟨a,f b,c,d,e,g,h,i⟩) n
def u2(f:α->α)(n:N8 α):N8 α:=N8.rec (λa b c d e g h i=>⟨a,b,f c,d,e,g,h,i⟩) n
def u3(f:α->α)(n:N8 α):N8 α:=N8.rec (λa b c d e g h i=>⟨a,b,c,f d,e,g,h,i⟩) n
def u4(f:α->α)(n:N8 α):N8 α:=N8.rec (λa b c d e g h i=>⟨a,b,c,d,f e,g,h,i⟩) n
def u5(f:α->α)(n:N8 α):N8 α:=N8.rec (λa b c d e g h i=>⟨a,b,c,d,e,f g,h,i⟩) n
def u6(f:α->α)(n:N8 α):N8 α:=N8.rec (λa b c d e g h i=>⟨a,b,c,d,e,g,f h,i⟩) n
def u7(f:α->α)(n:N8 α):N8 α:=N8.rec (λa b c d e g h i=>⟨a,b,c,d,e,g,h,f i⟩) n
def all(x:α):N8 α:=⟨x,x,x,x,x,x,x,x⟩
def proj(i:Nat):N8 α->α:=match i with|0=>a0|1=>a1|2=>a2|3=>a3|4=>a4|5=>a5|6=>a6|_=>a7
def upd(i:Nat):(α->α)->N8 α->N8 α:=match i with|0=>u0|1=>u1|2=>u2|3=>u3|4=>u4|5=>u5|6=>u6|_=>u7
end N8
inductive T(α:Type) where
 |leaf
 |node (l:T α) (v:Option α) (r:T α)
def JA(f:Nat):Nat->List Bool:= @Nat.rec (λ_=>Nat->List Bool) (λ_=>[]) (λ_ ih n=> @Bool.rec (λ_=>List Bool) (@Bool.rec (λ_=>List Bool) (false::ih (Nat.sub (Nat.div n 2) 1)) (true::ih (Nat.div n 2)) (Nat.beq (Nat.mod n 2) 1)) [] (Nat.beq n 0)) f
def bits(n:Nat):List Bool:=JA n n
namespace T
variable {α:Type}
def getB(t:T α):List Bool->Option α:=
 @T.rec α (λ_=>List Bool->Option α) (λ_=>none) (λ_ v _ gl gr bs=> @List.rec Bool (λ_=>Option α) v (λb bs _=> @Bool.rec (λ_=>Option α) (gr bs) (gl bs) b) bs) t
def single(x:α)(bs:List Bool):T α:= @List.rec Bool (λ_=>T α) (node leaf (some x) leaf) (λb _ ih=> @Bool.rec (λ_=>T α) (node leaf none ih) (node ih none leaf) b) bs
def setB(x:α)(t:T α):List Bool->T α:=
 @T.rec α (λ_=>List Bool->T α) (λbs=>single x bs) (λl v r sl sr bs=> @List.rec Bool (λ_=>T α) (node l (some x) r) (λb bs _=> @Bool.rec (λ_=>T α) (node l v (sr bs)) (node (sl bs) v r) b) bs) t
def delB(t:T α):List Bool->T α:=
 @T.rec α (λ_=>List Bool->T α) (λ_=>leaf) (λl v r sl sr bs=> @List.rec Bool (λ_=>T α) (node l none r) (λb bs _=> @Bool.rec (λ_=>T α) (node l v (sr bs)) (node (sl bs) v r) b) bs) t
def get(t:T α)(n:Nat):Option α:=getB t (bits n)
def set(t:T α)(n:Nat)(x:α):T α:=setB x t (bits n)
def del(t:T α)(n:Nat):T α:=delB t (bits n)
def ST:List α->List α
 |[]=>[]
 |[x]=>[x]
 |x::_::l=>x::ST l
def Rw:Nat->List α->T α
 |0,_=>leaf
 |_+1,[]=>leaf
 |f+1,x::l=>node (Rw f (ST l)) (some x) (Rw f (ST l.tail))
def Zkx(l:List α):Nat:=List.rec 0 (λ_ _ n=>Nat.succ n) l
def ofList(l:List α):T α:=Rw (Zkx l) l
end T
inductive AV where
 |unk
 |bool (b:Bool)
 |int (k:IntKind) (n:Int)
 |str (s:List UInt8)
 |nilp
 |ptr (b o:Nat)
 |nils
 |slice (b o len:Nat) (cap:Option Nat)
 |nilm
 |map (b:Nat)
 |func (f:Nat) (first caps:List AV)
 |meth (name:String) (recv:AV)
 |yield (b:Nat)
 |nilf
 |iface (t:Nat) (v:AV)
 |nili
 |agg (cs:List AV)
 |tup (vs:List AV)
 deriving Inhabited
def AV.cells(v:AV):List AV:=
 AV.casesOn v [] (λb=>[.bool b]) (λk n=>[.int k n]) (λs=>[.str s]) [.nilp] (λb o=>[.ptr b o]) [.nils] (λb o l c=>[.slice b o l c]) [.nilm] (λb=>[.map b])
  (λf a b=>[.func f a b]) (λn r=>[.meth n r]) (λb=>[.yield b]) [.nilf] (λt v=>[.iface t v]) [.nili] (λcs=>cs) (λ_=>[])
structure Row where
 elem:Nat
 sz:Nat
 size:Nat
 cells:T AV
 dflt:AV
 fz:Nat
 sm:Bool
 own:Bool
 exact:Bool
structure RH where
 key:AV
 val:AV
 born:Nat
inductive Obj where
 |row (r:Row)
 |map (es:List RH) (clock:Nat)
 |siter (s:List UInt8) (pos:Nat)
 |miter (m:Option Nat) (since:Nat) (cur:Option (Nat×Nat))
 |loop
 |cmap (es:List RH)
structure Zc where
 nx:Nat
 t:T Obj
 ro:Nat
def Row.get(r:Row)(i:Nat):AV:=Option.rec r.dflt (λv=>v) (r.cells.get i)
def Row.setCells(r:Row)(t:T AV):Row:=⟨r.elem,r.sz,r.size,t,r.dflt,r.fz,r.sm,r.own,r.exact⟩
def Zc.put(H:Zc)(b:Nat)(o:Obj):Zc:=⟨H.nx,H.t.set b o,H.ro⟩
def Zc.new(H:Zc)(o:Obj):Zc:=⟨Nat.succ H.nx,H.t.set H.nx o,H.ro⟩
inductive OR2 where
 |fail
 |call (f:Nat) (args:List AV) (H:Zc)
 |yield (b:Nat) (args:List AV) (H:Zc)
 |pan (v:AV) (H:Zc)
 |recov
 |defer (f:AV) (args:List AV)
inductive OR where
 |val (v:AV) (H:Zc)
 |oth (o:OR2)
abbrev OR.fail:OR:=.oth .fail
abbrev TM:=N8 (N8 (N8 AV))
abbrev W2:=TM->Zc->OR
abbrev Yc:=TM->AV
abbrev ZP:=TM->AV->TM
def e(f:N8 AV->AV)(g:N8 (N8 AV)->N8 AV)(h:TM->N8 (N8 AV)):Yc:=λtm=>f (g (h tm))
def k(v:AV):Yc:=λ_=>v
def d(f:(AV->AV)->N8 AV->N8 AV)(g:(N8 AV->N8 AV)->N8 (N8 AV)->N8 (N8 AV))(h:(N8 (N8 AV)->N8 (N8 AV))->TM->TM):ZP:=λtm v=>h (g (f (λ_=>v))) tm
def d0:ZP:=λtm _=>tm
def Su(n:Nat):Yc:=e (N8.proj (n % 8)) (N8.proj (n/8 % 8)) (N8.proj (n/64))
def Pq(n:Nat):ZP:=d (N8.upd (n % 8)) (N8.upd (n/8 % 8)) (N8.upd (n/64))
def u8:N8 AV:=N8.all .unk
def u64:N8 (N8 AV):=N8.all u8
def Lb:TM:=N8.all u64
def SO{α:Type}(a:Nat)(k:Nat->α):α:=Nat.rec (k 0) (λp _=>k (Nat.succ p)) a
def QB{α:Type}(n:Int)(k:Int->α):α:=Int.rec (λa=>SO a λa=>k (.ofNat a)) (λa=>SO a λa=>k (.negSucc a)) n
def xB(a b:Int):Int:=Int.rec (λx=>Int.rec (λy=>.ofNat (Nat.add x y)) (λ_=>a+b) b) (λ_=>a+b) a
def Km(a b:Int):Int:=Int.rec (λx=>Int.rec (λy=>cond (Nat.ble y x) (.ofNat (Nat.sub x y)) (a - b)) (λ_=>a - b) b) (λ_=>a - b) a
def Kk(a b:Int):Int:=Int.rec (λx=>Int.rec (λy=>.ofNat (Nat.mul x y)) (λ_=>a*b) b) (λ_=>a*b) a
def Zgq(a b:Int):Int:=Int.rec (λx=>Int.rec (λy=>.ofNat (Nat.div x y)) (λ_=>a.tdiv b) b) (λ_=>a.tdiv b) a
def Zgr(a b:Int):Int:=Int.rec (λx=>Int.rec (λy=>.ofNat (Nat.mod x y)) (λ_=>a.tmod b) b) (λ_=>a.tmod b) a
def rT(a b:Int):Bool:=Int.rec (λx=>Int.rec (λy=>Nat.ble (Nat.succ x) y) (λ_=>false) b) (λx=>Int.rec (λ_=>true) (λy=>Nat.ble (Nat.succ y) x) b) a
def G5(a b:Int):Bool:=Int.rec (λx=>Int.rec (λy=>Nat.beq x y) (λ_=>false) b) (λx=>Int.rec (λ_=>false) (λy=>Nat.beq x y) b) a
def yL(k:IntKind)(m:Nat)(n:Int):Int:=Int.rec (λa=>cond (Nat.ble m a) (.ofNat (Nat.mod a m)) (.ofNat a)) (λ_=>k.wrap n) n
def sB(k:IntKind)(h:Nat)(n:Int):Int:=Int.rec (λa=>cond (Nat.ble h a) (k.wrap n) (.ofNat a)) (λa=>cond (Nat.ble h a) (k.wrap n) n) n
def ZeE(k:IntKind)(n:Int):Int:=
 IntKind.rec (sB .i8 128 n) (sB .i16 32768 n) (sB .i32 2147483648 n) (sB .i64 9223372036854775808 n) (yL .u8 256 n) (yL .u16 65536 n) (yL .u32 4294967296 n) (yL .u64 18446744073709551616 n) k
def Rf(k:IntKind):Nat:=IntKind.rec 256 65536 4294967296 18446744073709551616 256 65536 4294967296 18446744073709551616 k
def Qy(m:Nat)(n:Int):Nat:=Int.rec (λa=>Nat.mod a m) (λa=>Nat.sub (Nat.sub m 1) (Nat.mod a m)) n
def Qd(a b:IntKind):Bool:=Nat.beq a.ctorIdx b.ctorIdx
def RC(v:AV)(k:IntKind->Int->OR):OR:=match v with|.int a b=>k a b|_=>.fail
def SW(v:AV)(k:Nat->OR):OR:=match v with|.int _ (.ofNat b)=>k b|_=>.fail
def Fk(v:AV)(k:Bool->OR):OR:=match v with|.bool b=>k b|_=>.fail
def Ol(v:AV)(k:List UInt8->OR):OR:=match v with|.str s=>k s|_=>.fail
def QO(v:AV)(k:Nat->Nat->OR):OR:=match v with|.ptr b o=>k b o|_=>.fail
def CY(v:AV)(k:List AV->OR):OR:=match v with|.agg cs=>k cs|_=>.fail
def nM(v:AV)(k:List AV->OR):OR:=match v with|.tup cs=>k cs|_=>.fail
def QN(v:AV)(n:OR)(k:Nat->AV->OR):OR:=match v with|.iface t x=>k t x|.nili=>n|_=>.fail
def Tk(v:AV)(n:OR)(k:Nat->Nat->Nat->Option Nat->OR):OR:=match v with|.slice b o l c=>k b o l c|.nils=>n|_=>.fail
def Et(v:AV)(n:OR)(k:Nat->OR):OR:=match v with|.map b=>k b|.nilm=>n|_=>.fail
def KC(H:Zc)(b:Nat)(k:Obj->OR):OR:=match H.t.get b with|some o=>k o|none=>.fail
def Y3(H:Zc)(b:Nat)(k:Row->OR):OR:=match H.t.get b with|some (.row r)=>k r|_=>.fail
def TN{α:Type}(x:Option α)(k:α->OR):OR:=match x with|some a=>k a|none=>.fail
def ZL(b:Bool)(k:OR):OR:=cond b k .fail
def My(a b:UInt8):Bool:=Nat.beq a.toNat b.toNat
def Lo:List UInt8->List UInt8->Bool
 |[],[]=>true
 |a::x,b::y=>cond (My a b) (Lo x y) false
 |_,_=>false
def YD:List UInt8->List UInt8->Bool
 |_,[]=>false
 |[],_::_=>true
 |a::x,b::y=>cond (Nat.ble (Nat.succ a.toNat) b.toNat) true (cond (My a b) (YD x y) false)
def loadN(r:Row)(o:Nat):Nat->List AV
 |0=>[]
 |n+1=>r.get o::loadN r (Nat.succ o) n
def XM(c:T AV):Nat->List AV->T AV
 |_,[]=>c
 |o,v::l=>XM (c.set o v) (Nat.succ o) l
def YH{α:Type}(l:List α):Nat:=List.rec 0 (λ_ _ n=>Nat.succ n) l
def E2:List AV->Nat->Option AV
 |[],_=>none
 |v::_,0=>some v
 |_::l,n+1=>E2 l n
def uz:List UInt8->Nat->Option UInt8
 |[],_=>none
 |v::_,0=>some v
 |_::l,n+1=>uz l n
def Zc.newRow(H:Zc)(elem sz:Nat)(cs:List AV)(exact:Bool):Zc:=
 H.new (.row ⟨elem,sz,YH cs,T.ofList cs,.unk,0,false,true,exact⟩)
def Zc.may(H:Zc)(r:Row)(b:Nat):Bool:=cond r.own (Nat.ble H.ro b) false
section
variable (x y z:Yc)
def Z6:W2:=λtm H=>.val (x tm) H
def ZoW:W2:=λtm H=>Ol (x tm) λs=>.val (.str s) H
def YU:W2:=λtm H=>Fk (x tm) λb=>.val (cond b (y tm) (z tm)) H
def XV(e:Nat)(cs:List AV):W2:=λ_ H=>ZL (Nat.ble 1 (YH cs))<|.val (.ptr H.nx 0) (H.newRow e 1 cs true)
def Du(e n:Nat)(v:AV):W2:=λ_ H=>.val (.ptr H.nx 0) (H.new (.row ⟨e,1,n,.leaf,v,0,false,true,true⟩))
def RN(e:Nat):W2:=λtm H=>ZL (Nat.ble 1 (YH (x tm).cells))<|.val (.ptr H.nx 0) (H.newRow e 1 (x tm).cells true)
end
structure yO where
 off:Nat
 sz:Nat
 x:Yc
def Oo:Nat->List AV->List AV
 |0,_=>[]
 |_+1,[]=>[]
 |n+1,v::l=>v::Oo n l
def PH:Nat->List AV->List AV
 |0,l=>l
 |_+1,[]=>[]
 |n+1,_::l=>PH n l
def AT(tm:TM)(k:List AV->OR):List yO->List AV->OR:=λps=>
 List.rec (λcells=>k cells) (λp _ ih cells=>
  ZL (Nat.ble 1 p.sz)<|ZL (Nat.beq (YH (p.x tm).cells) p.sz) (ZL (Nat.ble (Nat.add p.off p.sz) (YH cells)) (ih (Oo p.off cells++((p.x tm).cells++PH (Nat.add p.off p.sz) cells))))) ps
def W9(zs:List AV)(ps:List yO):W2:=λtm H=>ZL (Nat.ble 1 (YH zs))<|AT tm (λcs=>.val (.agg cs) H) ps zs
def Sp(e sz n:Nat)(zs:List AV)(ps:List yO):W2:=λtm H=>ZL (Nat.ble 1 sz)<|ZL (Nat.beq (YH zs) (Nat.mul n sz))<|AT tm (λcs=>.val (.slice H.nx 0 n none) (H.newRow e sz cs true)) ps zs
section
variable (x y z:Yc)
def ZE:W2:=λtm H=>QO (x tm) λb o=>Y3 H b λr=>ZL (Nat.ble (Nat.succ o) r.size) (.val (r.get o) H)
def Ww(n:Nat):W2:=λtm H=>QO (x tm) λb o=>Y3 H b λr=>ZL (Nat.ble (Nat.add o n) r.size) (.val (.agg (loadN r o n)) H)
def YS:AV:=.tup []
def Yi(n:Nat):W2:=λtm H=>QO (x tm) λb o=>Y3 H b λr=>
 ZL (Nat.ble 1 n)<|ZL (H.may r b) (ZL (Nat.ble (Nat.add o n) r.size) (ZL (Nat.ble r.fz o) (ZL (Nat.beq (YH (y tm).cells) n)
  (.val YS (H.put b (.row (r.setCells (XM r.cells o (y tm).cells))))))))
def xX(v:AV)(k:OR):OR:=match v with|.ptr .. |.func .. |.iface .. |.yield _=>k|_=>.fail
def XA:W2:=λtm H=>xX (x tm) (.val (x tm) H)
def Vm(k:IntKind)(n:Int)(H:Zc):OR:=QB (ZeE k n) λn=>.val (.int k n) H
def G6(x y:AV)(k:IntKind->Int->Int->OR):OR:=RC x λj a=>RC y λl b=>ZL (Qd j l) (k j a b)
def V5:W2:=λtm H=>G6 (x tm) (y tm) λk a b=>Vm k (Km a b) H
def M1:W2:=λtm H=>G6 (x tm) (y tm) λk a b=>Vm k (Kk a b) H
def If:W2:=λtm H=>G6 (x tm) (y tm) λk a b=>cond (G5 b 0) .fail (Vm k (Zgq a b) H)
def Jr:W2:=λtm H=>G6 (x tm) (y tm) λk a b=>cond (G5 b 0) .fail (QB (Zgr a b) λn=>.val (.int k n) H)
def Wv(f:Nat->Nat->Nat->Nat):W2:=λtm H=>G6 (x tm) (y tm) λk a b=>Vm k (.ofNat (f (Rf k) (Qy (Rf k) a) (Qy (Rf k) b))) H
def Sf(_ a b:Nat):Nat:=Nat.land a b
def Re(_ a b:Nat):Nat:=Nat.lor a b
def Zaf(_ a b:Nat):Nat:=Nat.xor a b
def Mv(m a b:Nat):Nat:=Nat.land a (Nat.sub (Nat.sub m 1) b)
def Oe:W2:=λtm H=>RC (x tm) λk a=>SW (y tm) λb=>Vm k (Kk a (.ofNat (Nat.pow 2 (cond (Nat.ble b 64) b 64)))) H
def Zgt(a:Int)(b:Nat):Int:=Int.rec (λx=>.ofNat (Nat.div x (Nat.pow 2 b))) (λx=>.negSucc (Nat.div x (Nat.pow 2 b))) a
def oq(k:IntKind):Nat:=IntKind.rec 8 16 32 64 8 16 32 64 k
def Me(a b:Nat):Nat:=cond (Nat.ble a b) a b
def CT:W2:=λtm H=>RC (x tm) λk a=>SW (y tm) λb=>QB (Zgt a (Me b (oq k))) λn=>.val (.int k n) H
def SE(b:Bool)(H:Zc):OR:=cond b (.val (.bool true) H) (.val (.bool false) H)
def YP(f:Int->Int->Bool)(g:List UInt8->List UInt8->Bool):W2:=λtm H=>match x tm with
 |.int j a=>RC (y tm) λl b=>ZL (Qd j l) (SE (f a b) H)
 |.str a=>Ol (y tm) λb=>SE (g a b) H
 |_=>.fail
def XY(a b:Int):Bool:=rT a b
def Nm(a b:Int):Bool:=!rT b a
def OA(a b:Int):Bool:=rT b a
def T3(a b:Int):Bool:=!rT a b
def SX(a b:List UInt8):Bool:=YD b a
def Vs(a b:List UInt8):Bool:=!YD a b
def RG(a b:List UInt8):Bool:=!YD b a
def YT:W2:=λtm H=>match x tm with
 |.int j a=>RC (y tm) λl b=>ZL (Qd j l) (Vm j (xB a b) H)
 |.str a=>Ol (y tm) λb=>ZL (Nat.ble (Nat.add (YH a) (YH b)) 4611686018427387904) (.val (.str (a++b)) H)
 |_=>.fail
def VN(a b:AV):Option Bool:=match a,b with|.int j a,.int k b=>cond (Qd j k) (some (G5 a b)) none|_,_=>none
def Lt(a b:AV):Option Bool:=match a,b with|.str a,.str b=>some (Lo a b)|_,_=>none
def oG(a b:AV):Option Bool:=match a,b with|.bool a,.bool b=>some (cond a b (cond b false true))|_,_=>none
def iV(a b:AV):Option Bool:=match a,b with
 |.nilp,.nilp=>some true
 |.nilp,.ptr .. =>some false
 |.ptr ..,.nilp=>some false
 |.ptr b o,.ptr c p=>cond (Nat.beq b c) (some (Nat.beq o p)) none
 |_,_=>none
def eqL(a b:AV):Option Bool:=match a,b with|.nils,.nils=>some true|.nils,.slice .. =>some false|.slice ..,.nils=>some false|_,_=>none
def eqM(a b:AV):Option Bool:=match a,b with|.nilm,.nilm=>some true|.nilm,.map _=>some false|.map _,.nilm=>some false|_,_=>none
def eqN(a b:AV):Option Bool:=match a,b with|.nilf,.nilf=>some true|.nilf,.func .. =>some false|.func ..,.nilf=>some false|_,_=>none
def B1(lit:Bool)(g:Nat->AV->AV->Option Bool)(a b:AV):Option Bool:=match a,b with
 |.nili,.nili=>cond lit (some true) none
 |.nili,.iface .. =>some false
 |.iface ..,.nili=>some false
 |.iface t v,.iface u w=>cond (Nat.beq t u) (g t v w) (some false)
 |_,_=>none
def wO(P:Program)(f:Nat->AV->AV->Option Bool)(t:Nat)(v w:AV):Option Bool:=match P.info? t with|some i=>cond i.comparable (f t v w) none|none=>none
def ZeM(P:Program)(t:Nat):Option Bool:=match P.underlying t with|some (.struct _)|some (.array _ _)=>some true|some _=>some false|none=>none
def z5(P:Program)(t:Nat)(cs:List AV)(off:Nat)(k:AV->Option Bool):Option Bool:=match P.info? t,ZeM P t with
 |some i,some ag=>cond ag (k (.agg (Oo i.size (PH off cs)))) (match E2 cs off with|some v=>k v|none=>none)
 |_,_=>none
def ZaI(r:Option Bool)(k:Option Bool):Option Bool:=match r with|some b=>cond b k (some false)|none=>none
def IP(P:Program)(f:AV->AV->Option Bool)(e c:Nat)(l m:List AV):List Nat->Option Bool
 |[]=>some true
 |i::is=>z5 P e l (i*c) λa=>z5 P e m (i*c) λb=>ZaI (f a b) (IP P f e c l m is)
def OJ(P:Program)(g:Nat->AV->AV->Option Bool)(l m:List AV):List Field->Option Bool
 |[]=>some true
 |f::fs=>cond (f.name== "_") (OJ P g l m fs) (z5 P f.type l f.offset λa=>z5 P f.type m f.offset λb=>ZaI (g f.type a b) (OJ P g l m fs))
def sH(a b:AV)(k:List AV->List AV->Option Bool):Option Bool:=match a,b with|.agg l,.agg m=>k l m|_,_=>none
def eqD(P:Program)(lit:Bool)(g:Nat->AV->AV->Option Bool)(t:Nat)(a b:AV)(d:TypeDesc):Option Bool:=match d with
 |.bool=>oG a b
 |.int _=>VN a b
 |.string=>Lt a b
 |.pointer e=>match P.info? e with|some i=>cond (Nat.beq i.size 0) none (iV a b)|none=>none
 |.slice _=>eqL a b
 |.map _ _=>eqM a b
 |.func _ _ _=>eqN a b
 |.interface _=>B1 lit (wO P g) a b
 |.array n e=>sH a b λl m=>match P.info? e with|some i=>IP P (g e) e i.size l m (List.range n)|none=>none
 |.struct fs=>cond (P.stoodInHeld t) none (sH a b λl m=>OJ P g l m fs.toList)
 |_=>none
def Ac(P:Program):Nat->Nat->AV->AV->Option Bool
 |0,_,_,_=>none
 |d+1,t,a,b=>match P.underlying t with|some u=>eqD P true (Ac P d) t a b u|none=>none
def Vd(f:AV->AV->Option Bool)(neg:Bool):W2:=λtm H=>TN (f (x tm) (y tm)) λb=>SE (cond neg (cond b false true) b) H
def OB:W2:=λtm H=>Fk (x tm) λb=>.val (.bool (cond b false true)) H
def jh:W2:=λtm H=>RC (x tm) λk a=>Vm k (Km 0 a) H
def cH:W2:=λtm H=>RC (x tm) λk a=>Vm k (.ofNat (Nat.sub (Nat.sub (Rf k) 1) (Qy (Rf k) a))) H
def UD(k:IntKind):W2:=λtm H=>RC (x tm) λ_ a=>Vm k a H
def Kr:List UInt8->List AV
 |[]=>[]
 |b::l=>.int .u8 (.ofNat b.toNat)::Kr l
def Ky(e:Nat):W2:=λtm H=>Ol (x tm) λs=>.val (.slice H.nx 0 (YH s) none) (H.new (.row ⟨e,1,YH s,T.ofList (Kr s),.unk,0,true,true,false⟩))
def Rz(k:List UInt8->OR):List AV->OR
 |[]=>k []
 |v::l=>match v with|.int .u8 (.ofNat n)=>Rz (λs=>k (UInt8.ofNat n::s)) l|_=>.fail
def qL:W2:=λtm H=>Tk (x tm) (.val (.str []) H) λb o n _=>cond (Nat.beq n 0) (.val (.str []) H) (Y3 H b λr=>ZL (Nat.ble (Nat.add o n) r.size) (Rz (λs=>.val (.str s) H) (loadN r o n)))
def zX:W2:=λtm H=>match x tm with
 |.nilp=>.val .nilp H
 |.ptr b o=>Y3 H b λr=>ZL (Nat.ble (Nat.succ o) r.size) (.val (.ptr b o) H)
 |_=>.fail
def zU(u n:Nat):W2:=λtm H=>match x tm with
 |.nilp=>.val .nilp H
 |.ptr b o=>Y3 H b λr=>ZL r.exact (ZL (Nat.beq r.elem u) (ZL (Nat.beq o 0) (ZL (Nat.ble n r.size) (.val (.ptr b o) H))))
 |_=>.fail
def Zeu:W2:=λtm H=>Tk (x tm) .fail λb _ _ _=>Y3 H b λr=>ZL (cond r.sm false (H.may r b))<|ZL (Nat.beq r.fz 0)<|.val (x tm) (H.put b (.row ⟨r.elem,r.sz,r.size,r.cells,r.dflt,r.fz,true,r.own,r.exact⟩))
def uL:W2:=λtm H=>RC (x tm) λ_ n=>.val (.str (Utf8.encode n).data.toList) H
def X3(t:Nat):W2:=λtm H=>.val (.iface t (x tm)) H
def evs(tm:TM):List Yc->List AV
 |[]=>[]
 |f::l=>f tm::evs tm l
def Nz(f:Nat)(a b:List Yc):W2:=λtm H=>.val (.func f (evs tm a) (evs tm b)) H
def ZkK(n:String)(x:Yc):W2:=λtm H=>.val (.meth n (x tm)) H
def x4:W2:=λ_ H=>.val (.map H.nx) (H.new (.map [] 0))
def VT(eq:AV->AV->Option Bool)(k:AV)(no:OR)(yes:AV->OR):List RH->OR
 |[]=>no
 |e::l=>Option.rec .fail (λt=>cond t (yes e.val) (VT eq k no yes l)) (eq k e.key)
def O4(eq:AV->AV->Option Bool)(k v:AV)(clock:Nat)(done:List RH->Nat->OR):List RH->OR
 |[]=>done [⟨k,v,clock⟩] (Nat.succ clock)
 |e::l=>Option.rec .fail (λt=>cond t (done (⟨k,v,e.born⟩::l) clock) (O4 eq k v clock (λl' c=>done (e::l') c) l)) (eq k e.key)
def sL(o:Obj)(k:List RH->OR):OR:=match o with|.map es _=>k es|.cmap es=>k es|_=>.fail
def AE(o:Obj)(k:List RH->Nat->OR):OR:=match o with|.map es c=>k es c|_=>.fail
def MY(eq:AV->AV->Option Bool)(m k v:Yc):W2:=λtm H=>Et (m tm) .fail λb=>KC H b λo=>AE o λes clock=>
 ZL (Nat.ble H.ro b) (O4 eq (k tm) (v tm) clock (λes c=>.val YS (H.put b (.map es c))) es)
def JD(ok:Bool)(H:Zc)(v:AV)(b:Bool):OR:=cond ok (.val (.tup [v,.bool b]) H) (.val v H)
def Dv(eq:AV->AV->Option Bool)(zv:AV)(ok:Bool)(m k:Yc):W2:=λtm H=>Et (m tm) (JD ok H zv false) λb=>KC H b λo=>sL o λes=>
 VT eq (k tm) (JD ok H zv false) (λv=>JD ok H v true) es
def dW(H:Zc)(e sz l c:Nat)(zs:List AV):OR:=match zs with
 |[v]=>ZL (Nat.beq sz 1)<|.val (.slice H.nx 0 l none) (H.new (.row ⟨e,1,c,.leaf,v,0,false,true,true⟩))
 |zs=>ZL (Nat.beq (YH zs) sz)<|.val (.slice H.nx 0 l none) (H.newRow e sz ((List.replicate c zs).flatten) true)
def CS(e sz bytes:Nat)(zs:List AV)(l c:Yc):W2:=λtm H=>SW (l tm) λl=>SW (c tm) λc=>ZL (Nat.ble 1 sz)<|ZL (Nat.ble l c) (ZL (Nat.ble c 140737488355328)<|ZL (Nat.ble (Nat.mul c bytes) 140737488355328) (dW H e sz l c zs))
def ou(tm:TM)(x:Option Yc)(d top:Nat)(k:Nat->OR):OR:=Option.rec (k d) (λf=>SW (f tm) λn=>ZL (Nat.ble n top) (k n)) x
def Gy(tm:TM)(lo hi mx:Option Yc)(len cap:Nat)(k:Nat->Nat->Nat->OR):OR:=
 ou tm mx cap cap λm=>ou tm hi len m λh=>ou tm lo 0 h λl=>k l h m
def Ng:Nat->List UInt8->List UInt8
 |0,_=>[]
 |_+1,[]=>[]
 |n+1,v::l=>v::Ng n l
def JB:Nat->List UInt8->List UInt8
 |0,l=>l
 |_+1,[]=>[]
 |n+1,_::l=>JB n l
def Vu(x:Yc)(lo hi mx:Option Yc):W2:=λtm H=>Option.rec (Ol (x tm) λs=>Gy tm lo hi none (YH s) (YH s) λl h _=>.val (.str (JB l (Ng h s))) H) (λ_=>.fail) mx
def Uo(r:Row)(o:Nat)(cap:Option Nat):Nat:=Option.rec (cond (Nat.beq r.sz 1) (Nat.sub r.size o) (Nat.div (Nat.sub r.size o) r.sz)) (λc=>c) cap
def Jx(r:Row)(sz:Nat)(cap:Option Nat):Bool:=Option.rec (Nat.beq r.sz sz) (λ_=>true) cap
def Kz(sz:Nat)(x:Yc)(lo hi mx:Option Yc):W2:=λtm H=>
 Tk (x tm) (Gy tm lo hi mx 0 0 λ_ _ _=>.val .nils H) λb o len cap=>Y3 H b λr=>ZL (Jx r sz cap) (Gy tm lo hi mx len (Uo r o cap) λl h m=>ZL (Nat.ble l m)<|
  cond (Nat.beq l m) (Option.rec (Option.rec (.val (.slice H.nx 0 (Nat.sub h l) none) ⟨Nat.succ H.nx,H.t,H.ro⟩) (λ_=>.val (.slice b o (Nat.sub h l) (some 0)) H) cap) (λ_=>.val (.slice b o (Nat.sub h l) (some 0)) H) mx)
   (.val (.slice b (Nat.add o (Nat.mul l sz)) (Nat.sub h l) (Option.rec (Option.rec none (λc=>some (Nat.sub c l)) cap) (λ_=>some (Nat.sub m l)) mx)) H))
def Fh(n sz:Nat)(x:Yc)(lo hi mx:Option Yc):W2:=λtm H=>QO (x tm) λb o=>Gy tm lo hi mx n n λl h m=>
  cond (Nat.beq l m) (.val (.slice b o (Nat.sub h l) (some (Nat.sub m l))) H) (.val (.slice b (Nat.add o (Nat.mul l sz)) (Nat.sub h l) (some (Nat.sub m l))) H)
def YB(n:Nat):W2:=λtm H=>QO (x tm) λb o=>.val (.ptr b (Nat.add o n)) H
def ZkI(o:Nat):W2:=λtm H=>CY (x tm) λcs=>TN (E2 cs o) λv=>.val v H
def ZoV(o n:Nat):W2:=λtm H=>CY (x tm) λcs=>.val (.agg (Oo n (PH o cs))) H
def Wg(sz:Nat):W2:=λtm H=>SW (y tm) λi=>Tk (x tm) .fail λb o len _=>ZL (Nat.ble (Nat.succ i) len) (.val (.ptr b (Nat.add o (Nat.mul i sz))) H)
def JJ(n sz:Nat):W2:=λtm H=>SW (y tm) λi=>QO (x tm) λb o=>ZL (Nat.ble (Nat.succ i) n) (.val (.ptr b (Nat.add o (Nat.mul i sz))) H)
def YA:W2:=λtm H=>SW (y tm) λi=>Ol (x tm) λs=>TN (uz s i) λb=>SO b.toNat λn=>.val (.int .u8 (.ofNat n)) H
def Mf(n:Nat):W2:=λtm H=>SW (y tm) λi=>CY (x tm) λcs=>ZL (Nat.ble (Nat.succ i) n) (TN (E2 cs i) λv=>.val v H)
def ZcH(n sz:Nat):W2:=λtm H=>SW (y tm) λi=>CY (x tm) λcs=>ZL (Nat.ble (Nat.succ i) n) (.val (.agg (Oo sz (PH (Nat.mul i sz) cs))) H)
def S7(zv:AV)(ok:Bool)(H:Zc)(v:Option AV):OR:=Option.rec (cond ok (.val (.tup [zv,.bool false]) H) .fail) (λv=>cond ok (.val (.tup [v,.bool true]) H) (.val v H)) v
def QM(t:Nat)(zv:AV)(ok:Bool):W2:=λtm H=>QN (x tm) (S7 zv ok H none) λu v=>S7 zv ok H (cond (Nat.beq u t) (some v) none)
def uE(P:Program)(ms:Array (String×TypeId))(zv:AV)(ok:Bool):W2:=λtm H=>QN (x tm) (S7 zv ok H none) λu v=>TN (P.info? u) λi=>S7 zv ok H (Option.rec (some (.iface u v)) (λ_=>none) (Instr.missingMethod ms i.methods))
def WS(i:Nat):W2:=λtm H=>nM (x tm) λvs=>TN (E2 vs i) λv=>.val v H
def Hh(P:Program)(name:String)(u:Nat)(k:Nat->OR):OR:=
 TN (P.info? u) λi=>TN (i.methods.find? (·.name==name)) λm=>ZL m.path.isEmpty (match m.func with
  |some (g,ptr)=>match P.underlying u with
   |some (.pointer _)=>ZL ptr (k g)
   |some _=>cond ptr .fail (k g)
   |none=>.fail
  |none=>.fail)
def Zy(f:Nat)(args:List Yc):W2:=λtm H=>.oth (.call f (evs tm args) H)
def R2(P:Program)(args:List Yc):W2:=λtm H=>match x tm with
 |.func f a b=>.oth (.call f (a++(evs tm args++b)) H)
 |.meth n r=>QN r .fail λu v=>Hh P n u λg=>.oth (.call g (v::evs tm args) H)
 |.yield b=>.oth (.yield b (evs tm args) H)
 |_=>.fail
def ZcI(P:Program)(n:String)(args:List Yc):W2:=λtm H=>QN (x tm) .fail λu v=>Hh P n u λg=>.oth (.call g (v::evs tm args) H)
def ul(v:AV)(k:Nat->OR):OR:=match v with|.nils=>k 0|.slice _ _ n _=>k n|.str s=>k (YH s)|_=>.fail
def Wt(H:Zc)(sz:Nat)(v:AV)(n:Nat)(k:List AV->OR):OR:=cond (Nat.beq n 0) (k []) (match v with
 |.slice b o _ _=>Y3 H b λr=>ZL (Nat.ble (Nat.add o (Nat.mul n sz)) r.size) (k (loadN r o (Nat.mul n sz)))
 |.str s=>ZL (Nat.beq sz 1) (k (Kr (Ng n s)))
 |_=>.fail)
def LI(H:Zc)(e b o len n sz:Nat)(r:Row)(new:List AV):OR:=
 ZL (Nat.beq r.elem e)<|ZL (H.may r b)<|ZL (Nat.ble r.fz (Nat.mul len sz))<|ZL (Nat.beq (Nat.mul len sz) r.size)<|ZL (Nat.beq o 0)<|
  .val (.slice H.nx 0 (Nat.add len n) none) ⟨Nat.succ H.nx,(H.t.del b).set H.nx (.row ⟨r.elem,sz,Nat.mul (Nat.add len n) sz,XM r.cells (Nat.mul len sz) new,r.dflt,r.fz,r.sm,true,false⟩),H.ro⟩
def DO(H:Zc)(v:AV)(b o len n sz:Nat)(cap:Option Nat)(r:Row)(new:List AV):OR:=
 cond (Nat.beq n 0) (.val v H) (ZL (H.may r b) (ZL (Nat.ble (Nat.add o (Nat.mul (Nat.add len n) sz)) r.size) (ZL (Nat.ble r.fz (Nat.add o (Nat.mul len sz)))
  (.val (.slice b o (Nat.add len n) cap) (H.put b (.row (r.setCells (XM r.cells (Nat.add o (Nat.mul len sz)) new))))))))
def Mw(H:Zc)(e b o len n sz bytes:Nat)(cap:Option Nat)(r:Row)(new:List AV):OR:=
 ZL (Nat.ble (Nat.mul (Nat.add len n) bytes) 140737488355328)<|ZL (Nat.ble (Nat.add o (Nat.mul len sz)) r.size)<|Option.rec
  (cond r.exact (ZL (Nat.beq (Nat.mod o sz) 0) (.val (.slice H.nx 0 (Nat.add len n) none) (H.newRow e sz (loadN r o (Nat.mul len sz)++new) false))) (LI H e b o len n sz r new))
  (λ_=>.val (.slice H.nx 0 (Nat.add len n) none) (H.newRow e sz (loadN r o (Nat.mul len sz)++new) false)) cap
def Q8(v:AV)(e sz bytes:Nat)(H:Zc)(n:Nat)(new:List AV):OR:=
 Tk v (cond (Nat.beq n 0) (.val .nils H) (ZL (Nat.ble (Nat.mul n bytes) 140737488355328) (.val (.slice H.nx 0 n none) (H.newRow e sz new false)))) λb o len cap=>Y3 H b λr=>
  ZL (Jx r sz cap) (cond (Nat.ble (Nat.add len n) (Uo r o cap)) (DO H v b o len n sz cap r new) (Mw H e b o len n sz bytes cap r new))
def TT(e sz bytes:Nat):W2:=λtm H=>ZL (Nat.ble 1 sz)<|ZL (Nat.ble 1 bytes)<|ul (y tm) λn=>Wt H sz (y tm) n λnew=>Q8 (x tm) e sz bytes H n new
def uD(e sz bytes:Nat)(zs:List AV):W2:=λtm H=>ZL (Nat.ble 1 sz)<|ZL (Nat.ble 1 bytes)<|SW (y tm) λn=>ZL (Nat.ble (Nat.mul n bytes) 140737488355328)<|Q8 (x tm) e sz bytes H n (List.replicate n zs).flatten
def uF(sz:Nat):W2:=λtm H=>ul (y tm) λsn=>Tk (x tm) (.val (.int .i64 0) H) λb o dn _=>SO (Me dn sn) λn=>Wt H sz (y tm) n λnew=>
 cond (Nat.beq n 0) (.val (.int .i64 0) H) (Y3 H b λr=>ZL (H.may r b) (ZL (Nat.ble r.fz o) (ZL (Nat.ble (Nat.add o (Nat.mul n sz)) r.size) (.val (.int .i64 (.ofNat n)) (H.put b (.row (r.setCells (XM r.cells o new))))))))
def Ub:W2:=λtm H=>Ol (x tm) λs=>SO (YH s) λn=>.val (.int .i64 (.ofNat n)) H
def WY:W2:=λtm H=>Tk (x tm) (.val (.int .i64 0) H) λ_ _ n _=>SO n λn=>.val (.int .i64 (.ofNat n)) H
def ZkJ:W2:=λtm H=>Et (x tm) (.val (.int .i64 0) H) λb=>KC H b λo=>AE o λes _=>.val (.int .i64 (.ofNat (YH es))) H
def ZcF:W2:=λtm H=>Tk (x tm) (.val (.int .i64 0) H) λb o _ cap=>Option.rec (Y3 H b λr=>ZL r.exact (ZL (Nat.beq (Nat.mod o r.sz) 0) (.val (.int .i64 (.ofNat (Uo r o none))) H))) (λc=>.val (.int .i64 (.ofNat c)) H) cap
def min2(mx:Bool)(k:IntKind)(a:Int)(H:Zc):List AV->OR
 |[]=>.val (.int k a) H
 |v::l=>match v with|.int j b=>ZL (Qd j k) (min2 mx k (cond (cond mx (rT a b) (rT b a)) b a) H l)|_=>.fail
def M0(mx:Bool)(args:List Yc):W2:=λtm H=>match evs tm args with
 |.int k a::l=>min2 mx k a H l
 |_=>.fail
def uM(e:Nat):W2:=λtm H=>SW (y tm) λn=>cond (Nat.beq n 0) (match x tm with|.nilp=>.val (.str []) H|.ptr .. =>.val (.str []) H|_=>.fail)
 (ZL (Nat.ble n 140737488355328)<|QO (x tm) λb o=>Y3 H b λr=>ZL (Nat.beq r.elem e)<|ZL (cond r.sm false (H.may r b)) (ZL (Nat.ble (Nat.add o n) r.size) (Rz (λs=>.val (.str s)
  (H.put b (.row ⟨r.elem,r.sz,r.size,r.cells,r.dflt,cond (Nat.ble r.fz (Nat.add o n)) (Nat.add o n) r.fz,r.sm,r.own,r.exact⟩))) (loadN r o n))))
def Dw:W2:=λtm H=>Tk (x tm) (.val .nilp H) λb o _ cap=>Option.rec (Y3 H b λr=>ZL (Nat.ble (Nat.succ o) r.size) (.val (.ptr b o) H)) (λc=>ZL (Nat.ble 1 c) (.val (.ptr b o) H)) cap
def Od:W2:=λtm H=>QN (x tm) .fail λ_ _=>.oth (.pan (x tm) H)
def Hl:W2:=λ_ _=>.oth .recov
def Ff(args:List Yc):W2:=λtm _=>.oth (.defer (x tm) (evs tm args))
def ZcL:W2:=λtm H=>Et (x tm) (.val (.ptr H.nx 0) (H.new (.miter none 0 none))) λb=>KC H b λo=>AE o λ_ c=>.val (.ptr H.nx 0) (H.new (.miter (some b) c none))
def ZcM:W2:=λtm H=>Ol (x tm) λs=>.val (.ptr H.nx 0) (H.new (.siter s 0))
def ZaQ(o:Obj)(k:List UInt8->Nat->OR):OR:=match o with|.siter s pos=>k s pos|_=>.fail
def ZkL:W2:=λtm H=>QO (x tm) λb o=>ZL (Nat.beq o 0)<|ZL (Nat.ble H.ro b)<|KC H b λo=>ZaQ o λs pos=>
 cond (Nat.ble (Nat.succ pos) (YH s)) (match Utf8.decode ⟨s.toArray⟩ pos with|(c,w)=>.val (.tup [.bool true,.int .i64 (.ofNat pos),.int .i32 c]) (H.put b (.siter s (Nat.add pos w)))) (.val (.tup [.bool false]) H)
def xj(n:Nat)(k:RH->OR):List RH->OR
 |[]=>.fail
 |e::l=>cond (Nat.beq e.born n) (k e) (xj n k l)
def yW(o:Obj)(k:Nat->Nat->Nat->OR):OR:=match o with|.miter (some m) _ (some (n,st))=>k m n st|_=>.fail
def ZcJ:W2:=λtm H=>QO (x tm) λb o=>ZL (Nat.beq o 0)<|KC H b λob=>yW ob λm n st=>KC H m λom=>AE om λes c=>ZL (Nat.beq c st) (xj n (λe=>.val (.tup [e.key,e.val]) H) es)
def VC:W2:=λ_ _=>.fail
end
inductive Out where
 |normal|exit (id:Nat)|ret|pan (v:AV)
inductive CR where
 |fail
 |ret (v:AV) (H:Zc)
 |pan (v:AV) (H:Zc)
structure X where
 df:List (AV×List AV)
 rc:Option AV
inductive X6 where
 |fail
 |ok (o:Out) (tm:TM) (H:Zc) (x:X)
structure Ctx where
 call:Nat->List AV->Zc->CR
 yld:Nat->List AV->Zc->CR
 rng:AV->(List AV->Zc->CR)->TM->Zc->X->X6
 fuel:Nat
 rnd:Bool
abbrev D:=Ctx->TM->Zc->X->X6
def Vt:Nat->List AV->Zc->CR:=λ_ _ _=>.fail
def VB:AV->(List AV->Zc->CR)->TM->Zc->X->X6:=λ_ _ _ _ _=>.fail
def E3(next:TM->Zc->X->X6)(dst:ZP)(tm:TM)(x:X)(r:CR):X6:=match r with
 |.ret v H=>next (dst tm v) H x
 |.pan v H=>.ok (.pan v) tm H x
 |.fail=>.fail
def jU(next:TM->Zc->X->X6)(dst:ZP)(c:Ctx)(tm:TM)(H:Zc)(x:X)(o:OR2):X6:=match o with
 |.call f args H=>E3 next dst tm x (c.call f args H)
 |.yield b args H=>E3 next dst tm x (c.yld b args H)
 |.pan v H=>.ok (.pan v) tm H x
 |.recov=>cond c.rnd .fail (match x.rc with
  |some v=>next (dst tm v) H ⟨x.df,none⟩
  |none=>next (dst tm .nili) H x)
 |.defer f args=>match f with
  |.func _ _ _=>cond c.rnd .fail (next (dst tm YS) H ⟨(f,args)::x.df,x.rc⟩)
  |_=>.fail
 |.fail=>.fail
def Pf(next:TM->Zc->X->X6)(dst:ZP)(c:Ctx)(tm:TM)(H:Zc)(x:X)(r:OR):X6:=
 @OR.rec (λ_=>X6) (λv H=>next (dst tm v) H x) (λo=>jU next dst c tm H x o) r
def isB(b:Bool)(v:AV):Bool:=match v with|.bool c=>cond b c (cond c false true)|_=>false
def xE(v:AV)(k:Bool->X6):X6:=match v with|.bool c=>k c|_=>.fail
def Zb(f:W2)(dst:ZP)(next:D):D:=λc tm H x=>Pf (next c) dst c tm H x (f tm H)
def UT(v:AV)(b:Bool)(yes no:X6):X6:=match v with
 |.bool c=> @Bool.rec (λ_=>X6) (@Bool.rec (λ_=>X6) yes no b) (@Bool.rec (λ_=>X6) no yes b) c
 |.tup _=>no
 |_=>.fail
def Z8(g:Yc)(b:Bool)(f:W2)(dst:ZP)(next:D):D:=λc tm H x=>
 UT (g tm) b (Pf (next c) dst c tm H x (f tm H)) (next c (dst tm YS) H x)
def Zd:D:=λ_ tm H x=>.ok .normal tm H x
def QV(r:X6)(k:TM->Zc->X->X6):X6:=
 @X6.rec (λ_=>X6) .fail (λo tm H x=> @Out.rec (λ_=>X6) (k tm H x) (λi=>.ok (.exit i) tm H x) (.ok .ret tm H x) (λv=>.ok (.pan v) tm H x) o) r
def Zh(a b:D):D:=λc tm H x=>QV (a c tm H x) (b c)
def IH(a b:TM->Zc->X->X6)(v:Bool)(tm:TM)(H:Zc)(x:X):X6:= @Bool.rec (λ_=>X6) (b tm H x) (a tm H x) v
def ZR(q:Yc)(a b:D):D:=λc tm H x=>xE (q tm) λv=>IH (a c) (b c) v tm H x
def QJ(id:Nat)(r:X6):X6:=
 @X6.rec (λ_=>X6) .fail (λo tm H x=> @Out.rec (λ_=>X6) (.ok .normal tm H x) (λi=> @Bool.rec (λ_=>X6) (.ok (.exit i) tm H x) (.ok .normal tm H x) (Nat.beq i id)) (.ok .ret tm H x) (λv=>.ok (.pan v) tm H x) o) r
def Yy(id:Nat)(a:D):D:=λc tm H x=>QJ id (a c tm H x)
def WR(a:TM->Zc->X->X6)(n:Nat):TM->Zc->X->X6:=
 @Nat.rec (λ_=>TM->Zc->X->X6) (λ_ _ _=>.fail) (λ_ ih tm H x=>QV (a tm H x) ih) n
def Ua(a:D):D:=λc tm H x=>WR (a c) c.fuel tm H x
def Dx(r:X6)(k:Bool):Bool:=match r with
 |.ok .normal _ _ y=>cond (match y.df,y.rc with|[],none=>true|_,_=>false) k false
 |_=>false
def Ba(body:TM->Zc->X->X6)(b m since:Nat)(dst:ZP)(tm:TM)(H:Zc)(es:List RH):Bool:=
 List.rec true (λe _ ih=>Dx (body (dst tm (.tup [.bool true,e.key,e.val])) ⟨H.nx,H.t.set b (.miter (some m) since (some (e.born,since))),H.nx⟩ ⟨[],none⟩) ih) es
def ZkQ(v:AV)(k:Nat->Nat->X6):X6:=match v with|.ptr b o=>k b o|_=>.fail
def ZoX(o:Option Obj)(no:X6)(k:Nat->Nat->X6):X6:=match o with|some (.miter none _ none)=>no|some (.miter (some m) s none)=>k m s|_=>.fail
def ZkP(o:Option Obj)(since:Nat)(k:List RH->X6):X6:=match o with|some (.map es c)=>cond (Nat.beq c since) (k es) .fail|_=>.fail
def QA(tm:TM):List ZP->TM
 |[]=>tm
 |d::l=>QA (d tm .unk) l
def Ku(r:X6):X6:=match r with|.ok .normal _ _ _=>.fail|r=>r
def pc(x:X)(k:X6):X6:=match x.df,x.rc with|[],none=>k|_,_=>.fail
def qw(r a:TM->Zc->X->X6)(q:Yc)(dst:ZP)(tm:TM)(H:Zc)(x:X):X6:=
 ZkQ (q tm) λb o=>cond (Nat.beq o 0) (cond (Nat.ble H.ro b) (ZoX (H.t.get b) (Ku (a (dst tm (.tup [.bool false])) H x)) λm s=>ZkP (H.t.get m) s λes=>
  pc x (cond (Ba r b m s dst tm H es) (Ku (a (dst tm (.tup [.bool false])) ⟨H.nx,H.t.del b,H.ro⟩ x)) .fail)) .fail) .fail
def qu(q:Yc)(dst:ZP)(dead:List ZP)(a:D):D:=λc tm H x=>qw (a ⟨c.call,Vt,VB,c.fuel,true⟩) (a c) q dst (QA tm dead) H x
def VK(id:Nat):D:=λ_ tm H x=>.ok (.exit id) tm H x
def Yw:D:=λ_ tm H x=>.ok .ret tm H x
def Q9:D:=λ_ _ _ _=>.fail
def Pp(tm:TM):List ZP->List AV->TM
 |d::ds,v::vs=>Pp (d tm v) ds vs
 |_,_=>tm
def M6(r:X6):CR:=match r with
 |.ok .normal _ H _=>.ret (.bool true) H
 |_=>.fail
def wo(q:Yc)(ps:List ZP)(a:D):D:=λc tm H x=>
 c.rng (q tm) (λys H=>cond (Nat.beq (YH ys) (YH ps)) (M6 (a ⟨c.call,Vt,VB,c.fuel,true⟩ (Pp tm ps ys) H ⟨[],none⟩)) .fail) tm H x
inductive JR where|free|read|eff
structure PI where
 f:W2
 g:Option (Yc×Bool)
 os:List (ZP×Yc)
 dst:ZP
 kind:JR
 i:Nat
 bef:Nat
mutual
def Xt(n:Nat):AV->Bool
 |.ptr b _=>Nat.ble (Nat.succ b) n
 |.slice b _ _ _=>Nat.ble (Nat.succ b) n
 |.map b=>Nat.ble (Nat.succ b) n
 |.func _ x y=>cond (Ob n x) (Ob n y) false
 |.meth _ v=>Xt n v
 |.yield b=>Nat.ble (Nat.succ b) n
 |.iface _ v=>Xt n v
 |.agg l=>Ob n l
 |.tup l=>Ob n l
 |_=>true
def Ob(n:Nat):List AV->Bool
 |[]=>true
 |v::l=>cond (Xt n v) (Ob n l) false
end
def RP(tm:TM)(os:List (ZP×Yc)):TM:=List.rec Lb (λp _ ih=>p.1 ih (p.2 tm)) os
def RB(n:Nat)(tm:TM)(os:List (ZP×Yc)):Bool:=List.rec true (λp _ ih=>cond (Xt n (p.2 tm)) ih false) os
mutual
def same:AV->AV->Bool
 |.bool a,.bool b=>cond a b (cond b false true)
 |.int k a,.int j b=>cond (Qd k j) (G5 a b) false
 |.str a,.str b=>Lo a b
 |.nilp,.nilp=>true
 |.ptr a b,.ptr c d=>cond (Nat.beq a c) (Nat.beq b d) false
 |.nils,.nils=>true
 |.slice a b c d,.slice e f g h=>cond (Nat.beq a e) (cond (Nat.beq b f) (cond (Nat.beq c g) (match d,h with|none,none=>true|some x,some y=>Nat.beq x y|_,_=>false) false) false) false
 |.nilm,.nilm=>true
 |.map a,.map b=>Nat.beq a b
 |.func f a b,.func g c d=>cond (Nat.beq f g) (cond (Sg a c) (Sg b d) false) false
 |.nilf,.nilf=>true
 |.iface t v,.iface u w=>cond (Nat.beq t u) (same v w) false
 |.nili,.nili=>true
 |.agg a,.agg b=>Sg a b
 |.tup a,.tup b=>Sg a b
 |_,_=>false
def Sg:List AV->List AV->Bool
 |[],[]=>true
 |a::as,b::bs=>cond (same a b) (Sg as bs) false
 |_,_=>false
end
structure RD where
 p:PI
 v:AV
def uZ(u:RD)(tm:TM)(H:Zc):Bool:=OR.rec (λv H1=>cond (Nat.beq H1.nx H.nx) (same v u.v) false) (λ_=>false) (u.p.f (RP tm u.p.os) ⟨H.nx,H.t,H.nx⟩)
def still(tm:TM)(H:Zc)(rs:List RD):Bool:=List.rec true (λr _ ih=>cond (uZ r tm H) ih false) rs
def Uq(bef:Nat)(rs:List RD):List RD:=List.rec [] (λr _ ih=>cond (Nat.testBit bef r.p.i) ih (r::ih)) rs
def NP(g:Option (Yc×Bool))(tm:TM)(yes no:X6):X6:=match g with
 |none=>yes
 |some (e,b)=>UT (e tm) b yes no
def wrO(o:Obj):Bool:=match o with|.row r=>r.own|.loop=>false|_=>true
def bc(o:Option Obj)(k:Obj->X6):X6:=match o with|some x=>cond (wrO x) (k x) .fail|none=>.fail
abbrev PK:=List RD->TM->Zc->X->X6
def LW(p:PI)(nx:PK)(rs:List RD)(tm:TM)(H:Zc)(x:X)(r:OR):X6:=
 OR.rec (λv H1=>cond (Nat.beq H1.nx H.nx) (nx rs (p.dst tm v) H x) (cond (Nat.beq H1.nx (Nat.succ H.nx)) (bc (H1.t.get H.nx) λo=>nx rs (p.dst tm v) (H.new o) x) .fail)) (λ_=>.fail) r
def fP(p:PI)(nx:PK)(rs:List RD)(tm:TM)(H:Zc)(x:X):X6:=
 cond (RB H.nx tm p.os) (LW p nx rs tm H x (p.f (RP tm p.os) ⟨H.nx,.leaf,H.nx⟩)) .fail
def HJ(p:PI)(nx:PK)(rs:List RD)(tm:TM)(H:Zc)(x:X)(r:OR):X6:=
 OR.rec (λv H1=>cond (Nat.beq H1.nx H.nx) (nx (⟨p,v⟩::rs) (p.dst tm v) H x) .fail) (λ_=>.fail) r
def ZgU(ds:List ZP)(v:AV)(tm:TM)(H:Zc)(x:X):X6:=.ok (.pan v) (QA tm ds) H x
def C8(ds:List ZP)(p:PI)(nx:PK)(rs:List RD)(tm:TM)(x:X)(r:CR):X6:=match r with
 |.ret v H=>nx (Uq p.bef rs) (p.dst tm v) H x
 |.pan v H=>ZgU ds v tm H x
 |.fail=>.fail
def ZkY(ds:List ZP)(p:PI)(nx:PK)(rs:List RD)(c:Ctx)(tm:TM)(x:X)(o:OR2):X6:=match o with
 |.call f args H=>C8 ds p nx rs tm x (c.call f args H)
 |.yield b args H=>C8 ds p nx rs tm x (c.yld b args H)
 |.pan v H=>ZgU ds v tm H x
 |_=>.fail
def IN(ds:List ZP)(p:PI)(nx:PK)(rs:List RD)(c:Ctx)(tm:TM)(x:X)(r:OR):X6:=
 OR.rec (λv H=>nx (Uq p.bef rs) (p.dst tm v) H x) (λo=>ZkY ds p nx rs c tm x o) r
def SC(ds:List ZP)(p:PI)(nx:PK)(c:Ctx)(rs:List RD)(tm:TM)(H:Zc)(x:X):X6:=
 JR.rec (NP p.g tm (fP p nx rs tm H x) (nx rs (p.dst tm YS) H x))
  (NP p.g tm (HJ p nx rs tm H x (p.f (RP tm p.os) ⟨H.nx,H.t,H.nx⟩)) (nx rs (p.dst tm YS) H x))
  (cond (still tm H rs) (NP p.g tm (IN ds p nx rs c tm x (p.f (RP tm p.os) H)) (nx (Uq p.bef rs) (p.dst tm YS) H x)) .fail) p.kind
def VL(ds:List ZP)(fin:PK)(l:List PI):Ctx->PK:=
 List.rec (λ_ rs tm H x=>cond (still tm H rs) (fin rs tm H x) .fail) (λp _ ih c=>SC ds p (ih c) c) l
def Kv(_:List RD)(tm:TM)(H:Zc)(x:X):X6:=.ok .normal tm H x
def kM(l:List RD)(k:X6):X6:=List.rec k (λ_ _ _=>.fail) l
def XL(l:List PI):D:=λc tm H x=>VL (l.map (·.dst)) Kv l c [] tm H x
def onV(r:OR)(k:Zc->X6):X6:=OR.rec (λ_ H=>k H) (λ_=>.fail) r
def apart(a b:AV)(k:X6):X6:=match a,b with|.ptr x _,.ptr y _=>cond (Nat.beq x y) .fail k|_,_=>.fail
def JK(p q:PI)(a b:Yc)(rs:List RD)(tm:TM)(H:Zc)(x:X):X6:=
 kM (Uq p.bef rs) (kM (Uq q.bef rs) (apart (a (RP tm p.os)) (b (RP tm q.os)) (onV (p.f (RP tm p.os) H) λH1=>onV (q.f (RP tm q.os) H1) λH2=>.ok .normal tm H2 x)))
def GG(l:List PI)(p q:PI)(a b:Yc):D:=λc tm H x=>VL (l.map (·.dst)) (JK p q a b) l c [] tm H x
section
variable (P:Program)
def x7(f:Value->AV):List Value->List AV
 |[]=>[]
 |v::vs=>f v::x7 f vs
def Ig:Nat->Value->AV
 |0,_=>.unk
 |d+1,v=>match v with
  |.bool b=>.bool b
  |.int k n=>.int k n
  |.string s=>.str s.data.toList
  |.pointer none=>.nilp
  |.slice none 0 0=>.nils
  |.map none=>.nilm
  |.nilFunc=>.nilf
  |.func (.func f) ⟨[]⟩ ⟨[]⟩=>.func f [] []
  |.nilIface=>.nili
  |.iface t v=>.iface t (Ig d v)
  |.agg ⟨cs⟩=>.agg (x7 (Ig d) cs)
  |.tuple ⟨cs⟩=>.tup (x7 (Ig d) cs)
  |_=>.unk
def ZkN(v:Value):AV:=Ig 20 v
def ZoY(v:Value):Bool:=match v with|.agg _=>false|.tuple _=>false|_=>true
def M3:Nat->Value->Bool
 |0,_=>true
 |d+1,v=>match v with
  |.agg ⟨cs⟩=>cs.all λc=>ZoY c&&M3 d c
  |.tuple ⟨cs⟩=>cs.all (M3 d)
  |.iface _ v=>M3 d v
  |_=>true
def Wx(v:Value):AV:=cond (M3 20 v) (ZkN v) .unk
def YN(o:Operand):Yc:=match o with
 |.tmp t=>cond (Nat.ble t 511) (Su t) (k .unk)
 |.const v=>k (Wx v)
 |.global g=>cond (Nat.ble (Nat.succ g) P.globals.size) (k (.ptr g 0)) (k .unk)
 |.func f=>k (.func f [] [])
def NR(t:Nat):Bool:=match P.underlying t with|some (.struct _)|some (.array _ _)=>true|_=>false
def UV(t:Nat)(f:TypeInfo->W2):W2:=match P.info? t with|some i=>f i|none=>VC
def Zcx(t:Nat):Array (String×TypeId):=match P.underlying t with|some (.interface ms)=>ms|_=> #[]
def args(l:Array Operand):List Yc:=l.toList.map (YN P)
def jE(x:Option Operand):Option Yc:=x.map (YN P)
def ZmV(op:BinOp)(x y:Yc):W2:=match op with
 |.add=>YT x y|.sub=>V5 x y|.mul=>M1 x y|.quo=>If x y|.rem=>Jr x y
 |.and=>Wv x y Sf|.or=>Wv x y Re|.xor=>Wv x y Zaf|.andNot=>Wv x y Mv
 |.shl=>Oe x y|.shr=>CT x y
 |.eql=>VC|.neq=>VC
 |.lss=>YP x y XY YD
 |.gtr=>YP x y OA SX
 |.leq=>YP x y Nm RG
 |.geq=>YP x y T3 Vs
def Lk(o:Operand):Bool:=match o with|.const _=>true|_=>false
def eqK(t:Nat)(lit neg:Bool)(x y:Yc)(d:TypeDesc):W2:=match d with
 |.bool=>Vd x y oG neg
 |.int _=>Vd x y VN neg
 |.string=>Vd x y Lt neg
 |.pointer e=>match P.info? e with|some i=>cond (Nat.beq i.size 0) VC (Vd x y iV neg)|none=>VC
 |.slice _=>Vd x y eqL neg
 |.map _ _=>Vd x y eqM neg
 |.func _ _ _=>Vd x y eqN neg
 |.interface _=>Vd x y (B1 lit (wO P (Ac P 9))) neg
 |.array _ _=>cond (P.eqGuardType P.depth t) VC (Vd x y (Ac P 10 t) neg)
 |.struct _=>cond (P.eqGuardType P.depth t) VC (Vd x y (Ac P 10 t) neg)
 |_=>VC
def VD(t:Nat)(f:TypeDesc->W2):W2:=match P.underlying t with|some d=>f d|none=>VC
def wG(f:Array Field->W2)(d:TypeDesc):W2:=match d with|.struct fs=>f fs|_=>VC
def BM(f:Nat->W2)(d:TypeDesc):W2:=match d with|.slice e=>f e|_=>VC
def Zly(f:Nat->W2)(d:TypeDesc):W2:=match d with|.pointer e=>f e|_=>VC
def dB(f:(AV->AV->Option Bool)->W2)(d:TypeDesc):W2:=match d with|.string=>f Lt|.int _=>f VN|.bool=>f oG|_=>VC
def mE(f g:W2)(d:TypeDesc):W2:=match d with|.int _=>f|_=>g
def tU8(f:W2)(d:TypeDesc):W2:=match d with|.int .u8=>f|_=>VC
def QP{α:Type}(x:Option α)(f:α->W2):W2:=match x with|some a=>f a|none=>VC
def gP(b:Builtin)(xs:List Operand)(ts:List TypeId):W2:=match b with
 |.append=>match xs,ts with
  |[s,x],[t,u]=>VD P t<|BM λe=>UV P e λi=>QP i.zero λz=>cond (Nat.beq (YH (Wx z).cells) i.size) (VD P u<|mE (uD (YN P s) (YN P x) e i.size i.bytes (Wx z).cells) (TT (YN P s) (YN P x) e i.size i.bytes)) VC
  |_,_=>VC
 |.copy=>match xs,ts with
  |[d,s],[t,_]=>VD P t<|BM λe=>UV P e λi=>uF (YN P d) (YN P s) i.size
  |_,_=>VC
 |.len=>match xs,ts with
  |[x],[t]=>VD P t λd=>match d with|.string=>Ub (YN P x)|.slice _=>WY (YN P x)|.map _ _=>ZkJ (YN P x)|_=>VC
  |_,_=>VC
 |.cap=>match xs,ts with
  |[x],[t]=>VD P t λd=>match d with|.slice _=>ZcF (YN P x)|_=>VC
  |_,_=>VC
 |.min=>M0 false (xs.map (YN P))
 |.max=>M0 true (xs.map (YN P))
 |.unsafeString=>match xs,ts with
  |[p,n],[t,_]=>VD P t<|Zly λe=>UV P e λi=>cond (Nat.beq i.size 1) (uM (YN P p) (YN P n) e) VC
  |_,_=>VC
 |.unsafeSliceData=>match xs with|[x]=>Dw (YN P x)|_=>VC
 |.panic=>match xs with|[x]=>Od (YN P x)|_=>VC
 |.recover=>Hl
 |_=>VC
def gQ(c:Call):W2:=match c.callee with
 |.value (.func f)=>Zy f (args P c.args)
 |.value f=>R2 (YN P f) P (args P c.args)
 |.invoke r m=>ZcI (YN P r) P m (args P c.args)
 |.builtin b=>gP P b c.args.toList c.argTypes.toList
def ZdH(s d:Nat)(x:Yc)(ds dd:TypeDesc):W2:=match ds,dd with
 |.int _,.int k=>UD x k
 |.string,.string=>ZoW x
 |.int _,.string=>uL x
 |.string,.slice e=>VD P e<|tU8 (Ky x e)
 |.slice e,.string=>VD P e<|tU8 (qL x)
 |.pointer u,.unsafePointer=>UV P u λi=>cond (Nat.ble 1 i.size) (zX x) VC
 |.unsafePointer,.pointer u=>UV P u λi=>cond (Nat.ble 1 i.size) (zU x u i.size) VC
 |.slice _,.slice e=>cond (Nat.beq s d) (VD P e<|tU8 (Zeu x)) VC
 |_,_=>VC
def Zif(s d:Nat)(x:Yc):W2:=VD P s λds=>VD P d λdd=>ZdH P s d x ds dd
def Zes(n:String)(a b:List Operand):W2:=match a,b with|[x],[]=>ZkK n (YN P x)|_,_=>VC
def Q7(place:Nat->Option (Nat×Nat))(p:Nat×Operand):yO:=match place p.1 with
 |some (o,s)=>⟨o,s,YN P p.2⟩
 |none=>⟨0,0,YN P p.2⟩
def ZaG(kd:IntKind)(m:Int):List Value->Bool
 |[]=>true
 |v::l=>match v with|.int j n=>cond (Qd kd j) (cond (G5 m n) (ZaG kd m l) false) false|_=>false
def gh(t:Nat)(l:List Value)(cs:List AV):W2:=match l with
 |.int kd m::l'=>cond (Nat.ble 8 (YH l')) (cond (ZaG kd m l') (Du t (Nat.succ (YH l')) (.int kd m)) (XV t cs)) (XV t cs)
 |_=>XV t cs
def ZgC(hi mx:Option Operand):Bool:=match mx,hi with|some _,none=>false|_,_=>true
def Vh(o:Op):W2:=match o with
 |.move x=>Z6 (YN P x)
 |.assign x=>Z6 (YN P x)
 |.pick c a b=>YU (YN P c) (YN P a) (YN P b)
 |.alloc t=>UV P t λi=>QP i.zero λz=>gh t z.cells.toList (Wx z).cells
 |.box t x=>RN (YN P x) t
 |.build t ps=>UV P t λi=>QP i.zero λz=>VD P t λd=>match d with
  |.struct fs=>QP (fs.toList.mapM λf=>(P.info? f.type).map λi=>(f.offset,i.size)) λplaces=>W9 (Wx z).cells (ps.toList.map (Q7 P (places.toArray[·]?)))
  |.array _ e=>UV P e λj=>W9 (Wx z).cells (ps.toList.map (Q7 P λi=>some (i*j.size,j.size)))
  |_=>VC
 |.buildSlice t n ps=>VD P t<|BM λe=>UV P e λj=>QP j.zero λz=>
   cond (Nat.ble (Nat.mul n j.size) 16777216) (Sp e j.size n ((List.replicate n (Wx z).cells).flatten) (ps.toList.map (Q7 P λi=>some (i*j.size,j.size)))) VC
 |.load t a=>UV P t λi=>VD P t λ_=>cond (NR P t) (Ww (YN P a) i.size) (ZE (YN P a))
 |.store t a x=>UV P t λi=>Yi (YN P a) (YN P x) i.size
 |.nilCheck x=>XA (YN P x)
 |.binOp op t x y _=>match op with
  |.eql=>VD P t (eqK P t (Lk x||Lk y) false (YN P x) (YN P y))
  |.neq=>VD P t (eqK P t (Lk x||Lk y) true (YN P x) (YN P y))
  |op=>ZmV op (YN P x) (YN P y)
 |.unOp op _ x=>match op with|.neg=>jh (YN P x)|.not=>OB (YN P x)|.xor=>cH (YN P x)|_=>VC
 |.convert s d x=>Zif P s d (YN P x)
 |.makeInterface t x=>VD P t λd=>match d with|.interface _=>VC|_=>X3 (YN P x) t
 |.makeFunc fn a b=>match fn with
  |.func f=>Nz f (args P a) (args P b)
  |.method n=>Zes P n a.toList b.toList
  |_=>VC
 |.makeMap _ r=>match r with|none=>x4|some _=>VC
 |.mapUpdate t m k v=>VD P t λd=>match d with|.map kt _=>VD P kt<|dB λeq=>MY eq (YN P m) (YN P k) (YN P v)|_=>VC
 |.insert t m k v=>VD P t λd=>match d with|.map kt _=>VD P kt<|dB λeq=>MY eq (YN P m) (YN P k) (YN P v)|_=>VC
 |.lookup t m k ok=>VD P t λd=>match d with
  |.map kt e=>VD P kt<|dB λeq=>UV P e λi=>QP i.zero λz=>Dv eq (Wx z) ok (YN P m) (YN P k)
  |_=>VC
 |.makeSlice t l c=>VD P t<|BM λe=>UV P e λi=>QP i.zero λz=>CS e i.size i.bytes (Wx z).cells (YN P l) (YN P c)
 |.slice t x lo hi mx=>cond (ZgC hi mx) (VD P t λd=>match d with
  |.string=>Vu (YN P x) (jE P lo) (jE P hi) (jE P mx)
  |.slice e=>UV P e λi=>Kz i.size (YN P x) (jE P lo) (jE P hi) (jE P mx)
  |.array n e=>UV P e λi=>Fh n i.size (YN P x) (jE P lo) (jE P hi) (jE P mx)
  |_=>VC) VC
 |.fieldAddr t x f=>VD P t<|wG λfs=>QP fs[f]? λg=>UV P g.type λi=>cond (Nat.ble 1 i.size) (YB (YN P x) g.offset) VC
 |.field t x f=>VD P t<|wG λfs=>QP fs[f]? λg=>UV P g.type λi=>VD P g.type λ_=>cond (NR P g.type) (ZoV (YN P x) g.offset i.size) (ZkI (YN P x) g.offset)
 |.indexAddr t x i=>VD P t λd=>match d with
  |.slice e=>UV P e λj=>Wg (YN P x) (YN P i) j.size
  |.array n e=>UV P e λj=>JJ (YN P x) (YN P i) n j.size
  |_=>VC
 |.index t x i=>VD P t λd=>match d with
  |.string=>YA (YN P x) (YN P i)
  |.array n e=>UV P e λj=>VD P e λ_=>cond (NR P e) (ZcH (YN P x) (YN P i) n j.size) (cond (Nat.beq j.size 1) (Mf (YN P x) (YN P i) n) VC)
  |_=>VC
 |.typeAssert x _ t ok=>UV P t λi=>QP i.zero λz=>VD P t λd=>match d with
  |.interface _=>uE (YN P x) P (Zcx P t) (Wx z) ok
  |_=>QM (YN P x) t (Wx z) ok
 |.extract x i=>WS (YN P x) i
 |.call c=>gQ P c
 |.defer c=>match c.callee with
  |.value f=>Ff (YN P f) (args P c.args)
  |_=>VC
 |.panic x=>Od (YN P x)
 |.range t x=>VD P t λd=>match d with|.string=>ZcM (YN P x)|.map _ _=>ZcL (YN P x)|_=>VC
 |.next x b=>cond b (ZkL (YN P x)) VC
 |.entry x=>ZcJ (YN P x)
 |_=>VC
def Pk(o:Op):JR:=match o with
 |.load .. |.lookup .. =>.read
 |.slice t _ _ _ _=>match P.underlying t with|some (.slice _)=>.read|_=>.free
 |.convert s d _=>match P.underlying s,P.underlying d with|some (.slice _),some (.slice _)=>.eff|some (.slice _),_=>.read|_,_=>.free
 |.call c=>match c.callee,c.argTypes.toList with
  |.builtin b,ts=>match b with
   |.len=>(match ts with|[t]=>(match P.underlying t with|some (.map _ _)=>.read|_=>.free)|_=>.free)
   |.cap|.unsafeSliceData=>.read|.min|.max=>.free|_=>.eff
  |_,_=>.eff
 |.assign _|.store .. |.mapUpdate .. |.insert .. |.mapEntry .. |.entryStore .. |.panic _|.defer _|.next .. |.range .. |.entry _=>.eff
 |_=>.free
def TL(ops:Array Oper)(o:Oper):Option (Yc×Bool):=match o.guard with
 |none=>none
 |some (j,b)=>match(ops[j]?).bind (·.dst) with|some d=>some (YN P (.tmp d),b)|none=>some (k .unk,b)
def XR(x:Option Nat):ZP:=match x with|some d=>cond (Nat.ble d 511) (Pq d) d0|none=>d0
def uQ(ops:Array Oper):List Oper->D
 |[]=>Zd
 |o::l=>match TL P ops o with
  |none=>Zb (Vh P o.op) (XR o.dst) (uQ ops l)
  |some (g,b)=>Z8 g b (Vh P o.op) (XR o.dst) (uQ ops l)
def JU(acc:List (Nat×Nat))(o:Oper):Nat:=o.after.toList.foldl (λs e=>cond (Region.binds .any e) (Nat.lor (Nat.lor s (Nat.pow 2 e.on)) ((acc.lookup e.on).getD 0)) s) 0
def yY:List Oper->Nat->List (Nat×Nat)->List (Oper×Nat×Nat)
 |[],_,_=>[]
 |o::l,i,acc=>(o,i,JU acc o)::yY l (i+1) ((i,JU acc o)::acc)
def wH(l:List Operand):List Nat:=l.filterMap λx=>match x with|.tmp t=>some t|_=>none
def VM(o:Oper):List (ZP×Yc):=(wH o.op.operands.toList).filterMap λt=>cond (Nat.ble t 511) (some (Pq t,Su t)) none
def Wa(ops:Array Oper)(x:Oper×Nat×Nat):PI:=⟨Vh P x.1.op,TL P ops x.1,VM x.1,XR x.1.dst,Pk P x.1.op,x.2.1,x.2.2⟩
def uh(k:JR):Bool:=JR.rec false false true k
structure SI where
 i:Nat
 lk:List Nat
 d:Option Nat
 eff:Bool
 bef:Nat
 x:Oper×Nat×Nat
def Rd(ops:Array Oper)(o:Oper):List Nat:=wH o.op.operands.toList++(match o.guard with|some (j,_)=>((ops[j]?).bind (·.dst)).toList|none=>[])
def Oj(ops:Array Oper)(x:Oper×Nat×Nat):SI:=⟨x.2.1,Rd ops x.1,x.1.dst,uh (Pk P x.1.op),x.2.2,x⟩
def Ce:Nat->List SI->Nat->List SI
 |0,_,_=>[]
 |f+1,todo,done=>
  let ready:=todo.filter λp=>Nat.beq (Nat.land p.bef done) p.bef
  match ready.find? (λp=>cond p.eff false true) with
  |some p=>p::Ce f (todo.filter λq=>cond (Nat.beq q.i p.i) false true) (Nat.lor done (Nat.pow 2 p.i))
  |none=>match ready with
   |p::_=>p::Ce f (todo.filter λq=>cond (Nat.beq q.i p.i) false true) (Nat.lor done (Nat.pow 2 p.i))
   |[]=>[]
def bit(n:Nat):Nat:=Nat.pow 2 n
def Ks(l:List Nat):Nat:=List.rec 0 (λt _ ih=>Nat.lor (bit t) ih) l
def Zfx(d:Option Nat):Nat:=match d with|some t=>bit t|none=>0
def dOk(d:Option Nat)(sm:Nat):Bool:=match d with|some t=>cond (Nat.testBit sm t) false true|none=>true
def Zcp(ws:List (Nat×Nat))(im bef t:Nat):Bool:=ws.all λx=>cond (Nat.beq x.1 t) (cond (Nat.testBit im x.2) (Nat.testBit bef x.2) true) true
def xh(i:Nat)(o:Oper):Bool:=o.after.toList.all λe=>cond (Region.binds .any e) (Nat.ble (Nat.succ e.on) i) true
def cL(p:SI)(d:Option Nat):Bool:=match d with|some t=>cond (p.lk.all λs=>cond (Nat.beq s t) false true) (match p.d with|some s=>cond (Nat.beq s t) false true|none=>true) false|none=>true
def ZaJ(l0:List SI)(q:SI)(im:Nat):Bool:=l0.all λp=>cond (Nat.testBit im p.i) (cond (Nat.testBit q.bef p.i) true (cL p q.d)) true
def nD(l0:List SI)(q:SI)(sm im:Nat):Bool:=cond (dOk q.d (Nat.lor sm (Ks q.lk))) true (cond q.eff (ZaJ l0 q im) false)
def Ll(ws:List (Nat×Nat))(l0:List SI):List SI->Nat->Nat->Nat->Nat->Bool
 |[],_,_,im,all=>Nat.beq im all
 |q::l,em,sm,im,all=>cond (Nat.beq (Nat.land q.bef em) em) (cond (nD l0 q sm im) (cond (q.lk.all (Zcp ws im q.bef)) (cond (Nat.testBit im q.i) false
   (Ll ws l0 l (cond q.eff (Nat.lor em (bit q.i)) em) (Nat.lor (Nat.lor sm (Ks q.lk)) (Zfx q.d)) (Nat.lor im (bit q.i)) all)) false) false) false
def QX(l:List SI):List (Nat×Nat):=l.filterMap λq=>match q.d with|some t=>some (t,q.i)|none=>none
def Ds(l:List SI):Option (List SI×SI×SI):=match l.reverse with|b::a::r=>some (r.reverse,a,b)|_=>none
def Rn(o:Oper):Option Yc:=match o.op,o.guard,o.dst with|.store _ a _,none,none=>some (YN P a)|_,_,_=>none
def q7(ops:Array Oper)(ws:List (Nat×Nat))(l0:List SI)(all:Nat)(x:Option (List SI×SI×SI)):D:=match x with
 |some (r,a,b)=>match Rn P a.x.1,Rn P b.x.1 with
  |some e1,some e2=>cond (Ll ws l0 (r++[a]) 0 0 0 (Nat.xor all (bit b.i))) (cond (Ll ws l0 (r++[b]) 0 0 0 (Nat.xor all (bit a.i)))
    (GG (r.map λq=>Wa P ops q.x) (Wa P ops a.x) (Wa P ops b.x) e1 e2) Q9) Q9
  |_,_=>Q9
 |none=>Q9
def CI(ops:Array Oper):List SI:=Ce ops.size ((yY ops.toList 0 []).map (Oj P ops)) 0
def wh(ops:Array Oper)(l:List SI):D:=
 cond (Ll (QX l) l l 0 0 0 (Nat.sub (bit ops.size) 1)) (XL (l.map λq=>Wa P ops q.x)) (q7 P ops (QX l) l (Nat.sub (bit ops.size) 1) (Ds l))
def pe(ops:Array Oper):D:=
 cond (ops.toList.zipIdx.all λx=>xh x.2 x.1) (wh P ops (CI P ops)) Q9
def IM:Code->List Nat
 |.region _ ops _=>ops.toList.filterMap (·.dst)
 |.seq a b=>IM a++IM b
 |.cond _ a b=>IM a++IM b
 |.block _ a=>IM a
 |.loop a=>IM a
 |.scope a=>IM a
 |.rangeFunc _ _ _ _=>[]
 |_=>[]
def PD:Code->Option (Operand×Option Nat)
 |.seq a _=>PD a
 |.region _ ops false=>match ops.toList with
  |o::_=>match o.op,o.guard with|.next x false,none=>some (x,o.dst)|_,_=>none
  |[]=>none
 |_=>none
def vB(c:Code):D×D:=
 Code.rec (motive:=λ_=>D×D) (Zd,Q9)
  (λ_ ops d=>(cond d (pe P ops) (uQ P ops ops.toList),cond d Q9 (uQ P ops ops.toList.tail)))
  (λ_ _ a b=>(Zh a.1 b.1,Zh a.2 b.1))
  (λq _ _ a b=>(ZR (YN P q) a.1 b.1,Q9))
  (λid _ a=>(Yy id a.1,Q9))
  (λb a=>(match PD b with|some (x,t)=>qu (YN P x) (XR t) ((IM b).map λt=>XR (some t)) a.2|none=>Ua a.1,Q9))
  (λf ps _ _ a b=>(wo (YN P f) (ps.toList.map λt=>XR (some t)) (Zh a.1 b.1),Q9))
  (λid=>(VK id,Q9))
  (λ_ a=>(a.1,Q9))
  (λ_=>(Zd,Q9))
  (λ_=>(Q9,Q9))
  (Yw,Q9)
  (λ_=>(Q9,Q9)) c
def Zie(c:Code):D:=(vB P c).1
end
def params:List ZP:=[d N8.u0 N8.u0 N8.u0,d N8.u1 N8.u0 N8.u0,d N8.u2 N8.u0 N8.u0,d N8.u3 N8.u0 N8.u0,d N8.u4 N8.u0 N8.u0,d N8.u5 N8.u0 N8.u0,d N8.u6 N8.u0 N8.u0,d N8.u7 N8.u0 N8.u0,
 d N8.u0 N8.u1 N8.u0,d N8.u1 N8.u1 N8.u0,d N8.u2 N8.u1 N8.u0,d N8.u3 N8.u1 N8.u0,d N8.u4 N8.u1 N8.u0,d N8.u5 N8.u1 N8.u0,d N8.u6 N8.u1 N8.u0,d N8.u7 N8.u1 N8.u0]
def TX(as:List AV):TM:=Pp Lb params as
structure CF where
 rs:List (Yc×Option (Nat×Bool))
 body:D
def Zg6(tm:TM)(H:Zc)(r:Yc×Option (Nat×Bool))(k:AV->CR):CR:=match r.2 with
 |none=>k (r.1 tm)
 |some (n,ag)=>match r.1 tm with
  |.ptr b o=>match H.t.get b with
   |some (.row r)=>cond (Nat.ble (Nat.add o n) r.size) (cond ag (k (.agg (loadN r o n))) (k (r.get o))) .fail
   |_=>.fail
  |_=>.fail
def Om(tm:TM)(H:Zc)(k:List AV->CR):List (Yc×Option (Nat×Bool))->CR
 |[]=>k []
 |r::l=>Zg6 tm H r λv=>Om tm H (λvs=>k (v::vs)) l
def results(rs:List (Yc×Option (Nat×Bool)))(tm:TM)(H:Zc):CR:=
 Om tm H (λvs=>match vs with|[v]=>.ret v H|vs=>.ret (.tup vs) H) rs
inductive DR where
 |fail
 |ret (v:AV) (H:Zc) (rec:Bool)
 |pan (v:AV) (H:Zc) (rec:Bool)
def M5(rc:Option AV)(x:X):Bool:=match rc,x.rc with|some _,none=>true|_,_=>false
def deferred(dcall:Option AV->Nat->List AV->Zc->DR)(rs:List (Yc×Option (Nat×Bool)))(tm:TM):List (AV×List AV)->Option AV->Zc->CR
 |[],none,H=>results rs tm H
 |[],some v,H=>.pan v H
 |d::l,pn,H=>match d.1 with
  |.func g a b=>match dcall pn g (a++(d.2++b)) H with
   |.ret _ H rec=>deferred dcall rs tm l (cond rec none pn) H
   |_=>.fail
  |_=>.fail
def Mh(dcall:Option AV->Nat->List AV->Zc->DR)(rs:List (Yc×Option (Nat×Bool)))(r:X6):CR:=match r with
 |.ok .normal tm H x=>match x.df with|[]=>results rs tm H|df=>deferred dcall rs tm df none H
 |.ok .ret tm H x=>match x.df with|[]=>results rs tm H|df=>deferred dcall rs tm df none H
 |.ok (.pan v) tm H x=>match x.df with|[]=>.pan v H|df=>deferred dcall rs tm df (some v) H
 |_=>.fail
def Hu(rc:Option AV)(rs:List (Yc×Option (Nat×Bool)))(r:X6):DR:=match r with
 |.ok .normal tm H x=>match x.df,results rs tm H with|[],.ret v H=>.ret v H (M5 rc x)|_,_=>.fail
 |.ok .ret tm H x=>match x.df,results rs tm H with|[],.ret v H=>.ret v H (M5 rc x)|_,_=>.fail
 |.ok (.pan v) _ H x=>match x.df with|[]=>.pan v H (M5 rc x)|_=>.fail
 |_=>.fail
def gR(r:CR)(tm:TM)(x:X):X6:=match r with
 |.ret _ H=>.ok .normal tm H x
 |.pan v H=>.ok (.pan v) tm H x
 |.fail=>.fail
def Js{α:Type}(d:α)(fs:T CF)(f:Nat)(k:CF->α):α:=match fs.get f with|some cf=>k cf|none=>d
def NV(fs:T CF)(fuel:Nat)(call:Nat->List AV->Zc->CR)(f:AV)(round:List AV->Zc->CR)(tm:TM)(H:Zc)(x:X):X6:=match f with
 |.func g a b=>Js .fail fs g λcf=>
  gR (Mh (λ_ _ _ _=>.fail) cf.rs (cf.body ⟨call,λl ys H'=>cond (Nat.beq l H.nx) (round ys H') .fail,VB,fuel,false⟩
   (TX (a++(.yield H.nx::b))) (H.new .loop) ⟨[],none⟩)) tm x
 |_=>.fail
def ny(r:Option CR)(k:CR):CR:=Option.rec k (λr=>r) r
def ZG(lib:Nat->List AV->Zc->Option CR)(fs:T CF)(fuel:Nat)(n:Nat):Nat->List AV->Zc->CR:=
 @Nat.rec (λ_=>Nat->List AV->Zc->CR) (λ_ _ _=>.fail) (λ_ ih f args H=>ny (lib f args H) (Js .fail fs f λcf=>
  Mh (λpn g as H=>Js .fail fs g λcg=>Hu pn cg.rs (cg.body ⟨ih,Vt,VB,fuel,false⟩ (TX as) H ⟨[],pn⟩))
   cf.rs (cf.body ⟨ih,Vt,NV fs fuel ih,fuel,false⟩ (TX args) H ⟨[],none⟩))) n
def CX(n:Nat)(d:Option Nat):Bool:=match d with|some t=>Nat.ble (Nat.succ t) n|none=>true
def Pa(n:Nat)(c:Code):Bool:=
 Code.rec (motive:=λ_=>Bool) true (λ_ ops _=>ops.toList.all λo=>CX n o.dst) (λ_ _ a b=>cond a b false) (λ_ _ _ a b=>cond a b false) (λ_ _ a=>a) (λ_ a=>a)
  (λ_ ps _ _ a b=>cond (ps.toList.all λt=>CX n (some t)) (cond a b false) false) (λ_=>true) (λ_ a=>a) (λ_=>true) (λ_=>true) true (λ_=>true) c
def HL(P:Program)(r:ResultVar):Bool:=match r with|.tmp _=>true|.cell _ t=>(P.info? t).isSome&&(P.underlying t).isSome&&Nat.ble 1 (P.cellsOf t)
def FT(P:Program)(f:Func):CF:=
 ⟨f.results.toList.map λr=>match r with|.tmp t=>(YN P (.tmp t),none)|.cell a t=>(YN P (.tmp a),some (P.cellsOf t,NR P t)),
  match f.body with|some c=>cond (f.results.toList.all (HL P)) (cond (Pa f.ntmps c) (Zie P c) Q9) Q9|none=>Q9⟩
def Zqw(P:Program):T CF:=T.ofList (P.funcs.toList.map (FT P))
def nI(k:IntKind)(n:Nat):AV:=.int k (.ofNat n)
def Z4:Yc:=e N8.a0 N8.a0 N8.a0
def Xz:Yc:=e N8.a1 N8.a0 N8.a0
def Wc:Yc:=e N8.a2 N8.a0 N8.a0
def W6:Yc:=e N8.a3 N8.a0 N8.a0
def XG:Yc:=e N8.a4 N8.a0 N8.a0
def Wp:Yc:=e N8.a5 N8.a0 N8.a0
def Wi:Yc:=e N8.a6 N8.a0 N8.a0
def Vk:Yc:=e N8.a7 N8.a0 N8.a0
def Wk:Yc:=e N8.a0 N8.a1 N8.a0
def Vn:Yc:=e N8.a1 N8.a1 N8.a0
def YW:Yc:=e N8.a2 N8.a1 N8.a0
def Xf:Yc:=e N8.a3 N8.a1 N8.a0
def Xq:Yc:=e N8.a4 N8.a1 N8.a0
def Xx:Yc:=e N8.a5 N8.a1 N8.a0
def X7:Yc:=e N8.a6 N8.a1 N8.a0
def XS:Yc:=e N8.a7 N8.a1 N8.a0
def XT:Yc:=e N8.a0 N8.a2 N8.a0
def X1:Yc:=e N8.a1 N8.a2 N8.a0
def Vj:Yc:=e N8.a2 N8.a2 N8.a0
def WX:Yc:=e N8.a3 N8.a2 N8.a0
def W8:Yc:=e N8.a4 N8.a2 N8.a0
def Wu:Yc:=e N8.a5 N8.a2 N8.a0
def UA:Yc:=e N8.a6 N8.a2 N8.a0
def WU:Yc:=e N8.a7 N8.a2 N8.a0
def Td:Yc:=e N8.a0 N8.a3 N8.a0
def VX:Yc:=e N8.a1 N8.a3 N8.a0
def UH:Yc:=e N8.a2 N8.a3 N8.a0
def Va:Yc:=e N8.a3 N8.a3 N8.a0
def Us:Yc:=e N8.a4 N8.a3 N8.a0
def Ue:Yc:=e N8.a5 N8.a3 N8.a0
def UB:Yc:=e N8.a6 N8.a3 N8.a0
def VO:Yc:=e N8.a7 N8.a3 N8.a0
def Sb:Yc:=e N8.a0 N8.a4 N8.a0
def UI:Yc:=e N8.a1 N8.a4 N8.a0
def Uf:Yc:=e N8.a2 N8.a4 N8.a0
def Tp:Yc:=e N8.a3 N8.a4 N8.a0
def Tq:Yc:=e N8.a4 N8.a4 N8.a0
def Rv:Yc:=e N8.a5 N8.a4 N8.a0
def SQ:Yc:=e N8.a6 N8.a4 N8.a0
def Ra:Yc:=e N8.a7 N8.a4 N8.a0
def Sz:Yc:=e N8.a0 N8.a5 N8.a0
def Sc:Yc:=e N8.a1 N8.a5 N8.a0
def UJ:Yc:=e N8.a2 N8.a5 N8.a0
def T1:Yc:=e N8.a3 N8.a5 N8.a0
def SR:Yc:=e N8.a4 N8.a5 N8.a0
def UR:Yc:=e N8.a5 N8.a5 N8.a0
def Sd:Yc:=e N8.a6 N8.a5 N8.a0
def RY:Yc:=e N8.a7 N8.a5 N8.a0
def T2:Yc:=e N8.a0 N8.a6 N8.a0
def QD:Yc:=e N8.a1 N8.a6 N8.a0
def QE:Yc:=e N8.a2 N8.a6 N8.a0
def SZ:Yc:=e N8.a3 N8.a6 N8.a0
def US:Yc:=e N8.a4 N8.a6 N8.a0
def Qu:Yc:=e N8.a5 N8.a6 N8.a0
def Pg:Yc:=e N8.a6 N8.a6 N8.a0
def Q0:Yc:=e N8.a7 N8.a6 N8.a0
def QF:Yc:=e N8.a0 N8.a7 N8.a0
def PL:Yc:=e N8.a1 N8.a7 N8.a0
def Q1:Yc:=e N8.a2 N8.a7 N8.a0
def PM:Yc:=e N8.a3 N8.a7 N8.a0
def Ph:Yc:=e N8.a4 N8.a7 N8.a0
def O0:Yc:=e N8.a5 N8.a7 N8.a0
def O1:Yc:=e N8.a6 N8.a7 N8.a0
def P8:Yc:=e N8.a7 N8.a7 N8.a0
def O2:Yc:=e N8.a0 N8.a0 N8.a1
def NM:Yc:=e N8.a1 N8.a0 N8.a1
def L6:Yc:=e N8.a2 N8.a0 N8.a1
def Lu:Yc:=e N8.a3 N8.a0 N8.a1
def NN:Yc:=e N8.a4 N8.a0 N8.a1
def Lv:Yc:=e N8.a5 N8.a0 N8.a1
def Jn:Yc:=e N8.a6 N8.a0 N8.a1
def Jo:Yc:=e N8.a7 N8.a0 N8.a1
def MO:Yc:=e N8.a0 N8.a1 N8.a1
def GP:Yc:=e N8.a1 N8.a1 N8.a1
def GQ:Yc:=e N8.a2 N8.a1 N8.a1
def Nj:Yc:=e N8.a3 N8.a1 N8.a1
def EU:Yc:=e N8.a4 N8.a1 N8.a1
def Ox:Yc:=e N8.a5 N8.a1 N8.a1
def EV:Yc:=e N8.a6 N8.a1 N8.a1
def EW:Yc:=e N8.a7 N8.a1 N8.a1
def Jp:Yc:=e N8.a0 N8.a2 N8.a1
def Lw:Yc:=e N8.a1 N8.a2 N8.a1
def GR:Yc:=e N8.a2 N8.a2 N8.a1
def PN:Yc:=e N8.a3 N8.a2 N8.a1
def J6:Yc:=e N8.a4 N8.a2 N8.a1
def L7:Yc:=e N8.a5 N8.a2 N8.a1
def EX:Yc:=e N8.a6 N8.a2 N8.a1
def GS:Yc:=e N8.a7 N8.a2 N8.a1
def MP:Yc:=e N8.a0 N8.a3 N8.a1
def EY:Yc:=e N8.a1 N8.a3 N8.a1
def I6:Yc:=e N8.a2 N8.a3 N8.a1
def EZ:Yc:=e N8.a3 N8.a3 N8.a1
def E0:Yc:=e N8.a4 N8.a3 N8.a1
def E1:Yc:=e N8.a5 N8.a3 N8.a1
def Cr:Yc:=e N8.a6 N8.a3 N8.a1
def GT:Yc:=e N8.a7 N8.a3 N8.a1
def Cs:Yc:=e N8.a0 N8.a4 N8.a1
def Af:Yc:=e N8.a1 N8.a4 N8.a1
def Ag:Yc:=e N8.a2 N8.a4 N8.a1
def L8:Yc:=e N8.a3 N8.a4 N8.a1
def N4:Yc:=e N8.a4 N8.a4 N8.a1
def OZ:Yc:=e N8.a5 N8.a4 N8.a1
def Ok:Yc:=e N8.a6 N8.a4 N8.a1
def LZ:Yc:=e N8.a7 N8.a4 N8.a1
def L0:Yc:=e N8.a0 N8.a5 N8.a1
def L1:Yc:=e N8.a1 N8.a5 N8.a1
def IX:Yc:=e N8.a2 N8.a5 N8.a1
def F2:Yc:=e N8.a3 N8.a5 N8.a1
def F3:Yc:=e N8.a4 N8.a5 N8.a1
def Nw:Yc:=e N8.a5 N8.a5 N8.a1
def IY:Yc:=e N8.a6 N8.a5 N8.a1
def IZ:Yc:=e N8.a7 N8.a5 N8.a1
def I0:Yc:=e N8.a0 N8.a6 N8.a1
def I1:Yc:=e N8.a1 N8.a6 N8.a1
def L3:Yc:=e N8.a2 N8.a6 N8.a1
def L4:Yc:=e N8.a3 N8.a6 N8.a1
def Lh:Yc:=e N8.a4 N8.a6 N8.a1
def F4:Yc:=e N8.a5 N8.a6 N8.a1
def F5:Yc:=e N8.a6 N8.a6 N8.a1
def Cf:Yc:=e N8.a7 N8.a6 N8.a1
def I2:Yc:=e N8.a0 N8.a7 N8.a1
def L5:Yc:=e N8.a1 N8.a7 N8.a1
def F6:Yc:=e N8.a2 N8.a7 N8.a1
def F7:Yc:=e N8.a3 N8.a7 N8.a1
def F8:Yc:=e N8.a4 N8.a7 N8.a1
def JF:Yc:=e N8.a5 N8.a7 N8.a1
def Cg:Yc:=e N8.a6 N8.a7 N8.a1
def Ch:Yc:=e N8.a7 N8.a7 N8.a1
def Ci:Yc:=e N8.a0 N8.a0 N8.a2
def Cj:Yc:=e N8.a1 N8.a0 N8.a2
def F9:Yc:=e N8.a2 N8.a0 N8.a2
def Ea:Yc:=e N8.a3 N8.a0 N8.a2
def Eb:Yc:=e N8.a4 N8.a0 N8.a2
def N5:Yc:=e N8.a5 N8.a0 N8.a2
def Ec:Yc:=e N8.a6 N8.a0 N8.a2
def Ed:Yc:=e N8.a7 N8.a0 N8.a2
def Ck:Yc:=e N8.a0 N8.a1 N8.a2
def Cl:Yc:=e N8.a1 N8.a1 N8.a2
def Cm:Yc:=e N8.a2 N8.a1 N8.a2
def Cn:Yc:=e N8.a3 N8.a1 N8.a2
def Li:Yc:=e N8.a4 N8.a1 N8.a2
def Co:Yc:=e N8.a5 N8.a1 N8.a2
def Cp:Yc:=e N8.a6 N8.a1 N8.a2
def zg:Yc:=e N8.a7 N8.a1 N8.a2
def zh:Yc:=e N8.a0 N8.a2 N8.a2
def Cq:Yc:=e N8.a1 N8.a2 N8.a2
def zi:Yc:=e N8.a2 N8.a2 N8.a2
def JG:Yc:=e N8.a3 N8.a2 N8.a2
def zj:Yc:=e N8.a4 N8.a2 N8.a2
def zk:Yc:=e N8.a5 N8.a2 N8.a2
def zl:Yc:=e N8.a6 N8.a2 N8.a2
def zm:Yc:=e N8.a7 N8.a2 N8.a2
def I3:Yc:=e N8.a0 N8.a3 N8.a2
def zn:Yc:=e N8.a1 N8.a3 N8.a2
def zo:Yc:=e N8.a2 N8.a3 N8.a2
def I4:Yc:=e N8.a3 N8.a3 N8.a2
def zp:Yc:=e N8.a4 N8.a3 N8.a2
def I5:Yc:=e N8.a5 N8.a3 N8.a2
def vT:Yc:=e N8.a6 N8.a3 N8.a2
def vU:Yc:=e N8.a7 N8.a3 N8.a2
def vV:Yc:=e N8.a0 N8.a4 N8.a2
def vW:Yc:=e N8.a1 N8.a4 N8.a2
def Ee:Yc:=e N8.a2 N8.a4 N8.a2
def vX:Yc:=e N8.a3 N8.a4 N8.a2
def vY:Yc:=e N8.a4 N8.a4 N8.a2
def Ef:Yc:=e N8.a5 N8.a4 N8.a2
def oR:Yc:=e N8.a6 N8.a4 N8.a2
def f5:Yc:=e N8.a7 N8.a4 N8.a2
def f6:Yc:=e N8.a0 N8.a5 N8.a2
def ZdL:Yc:=e N8.a1 N8.a5 N8.a2
def ZdM:Yc:=e N8.a2 N8.a5 N8.a2
def ZdN:Yc:=e N8.a3 N8.a5 N8.a2
def ZiC:Yc:=e N8.a4 N8.a5 N8.a2
def ZiD:Yc:=e N8.a5 N8.a5 N8.a2
def ZiE:Yc:=e N8.a6 N8.a5 N8.a2
def ZiF:Yc:=e N8.a7 N8.a5 N8.a2
def ZiG:Yc:=e N8.a0 N8.a6 N8.a2
def ZiH:Yc:=e N8.a1 N8.a6 N8.a2
def ZiI:Yc:=e N8.a2 N8.a6 N8.a2
def ZiJ:Yc:=e N8.a3 N8.a6 N8.a2
def ZiK:Yc:=e N8.a4 N8.a6 N8.a2
def ZiL:Yc:=e N8.a5 N8.a6 N8.a2
def ZiM:Yc:=e N8.a6 N8.a6 N8.a2
def ZiN:Yc:=e N8.a7 N8.a6 N8.a2
def ZiO:Yc:=e N8.a0 N8.a7 N8.a2
def ZiP:Yc:=e N8.a1 N8.a7 N8.a2
def ZiQ:Yc:=e N8.a2 N8.a7 N8.a2
def ZiR:Yc:=e N8.a3 N8.a7 N8.a2
def ZiS:Yc:=e N8.a4 N8.a7 N8.a2
def ZiT:Yc:=e N8.a5 N8.a7 N8.a2
def ZiU:Yc:=e N8.a6 N8.a7 N8.a2
def ZiV:Yc:=e N8.a7 N8.a7 N8.a2
def WZ:ZP:=d N8.u0 N8.u0 N8.u0
def st1:ZP:=d N8.u1 N8.u0 N8.u0
def st2:ZP:=d N8.u2 N8.u0 N8.u0
def Tl:ZP:=d N8.u3 N8.u0 N8.u0
def Wf:ZP:=d N8.u4 N8.u0 N8.u0
def UX:ZP:=d N8.u5 N8.u0 N8.u0
def Vr:ZP:=d N8.u6 N8.u0 N8.u0
def VG:ZP:=d N8.u7 N8.u0 N8.u0
def UN:ZP:=d N8.u0 N8.u1 N8.u0
def U2:ZP:=d N8.u1 N8.u1 N8.u0
def XB:ZP:=d N8.u2 N8.u1 N8.u0
def XX:ZP:=d N8.u3 N8.u1 N8.u0
def XW:ZP:=d N8.u4 N8.u1 N8.u0
def X4:ZP:=d N8.u5 N8.u1 N8.u0
def Ws:ZP:=d N8.u6 N8.u1 N8.u0
def WE:ZP:=d N8.u7 N8.u1 N8.u0
def WP:ZP:=d N8.u0 N8.u2 N8.u0
def Vc:ZP:=d N8.u1 N8.u2 N8.u0
def Vv:ZP:=d N8.u2 N8.u2 N8.u0
def VQ:ZP:=d N8.u3 N8.u2 N8.u0
def Ui:ZP:=d N8.u4 N8.u2 N8.u0
def Uu:ZP:=d N8.u5 N8.u2 N8.u0
def UE:ZP:=d N8.u6 N8.u2 N8.u0
def UF:ZP:=d N8.u7 N8.u2 N8.u0
def UW:ZP:=d N8.u0 N8.u3 N8.u0
def Tm:ZP:=d N8.u1 N8.u3 N8.u0
def Tg:ZP:=d N8.u2 N8.u3 N8.u0
def U6:ZP:=d N8.u3 N8.u3 N8.u0
def TJ:ZP:=d N8.u4 N8.u3 N8.u0
def Tt:ZP:=d N8.u5 N8.u3 N8.u0
def TO:ZP:=d N8.u6 N8.u3 N8.u0
def TP:ZP:=d N8.u7 N8.u3 N8.u0
def Sr:ZP:=d N8.u0 N8.u4 N8.u0
def TQ:ZP:=d N8.u1 N8.u4 N8.u0
def T9:ZP:=d N8.u2 N8.u4 N8.u0
def Se:ZP:=d N8.u3 N8.u4 N8.u0
def SB:ZP:=d N8.u4 N8.u4 N8.u0
def Rl:ZP:=d N8.u5 N8.u4 N8.u0
def Ry:ZP:=d N8.u6 N8.u4 N8.u0
def RQ:ZP:=d N8.u7 N8.u4 N8.u0
def RS:ZP:=d N8.u0 N8.u5 N8.u0
def Rm:ZP:=d N8.u1 N8.u5 N8.u0
def S0:ZP:=d N8.u2 N8.u5 N8.u0
def S1:ZP:=d N8.u3 N8.u5 N8.u0
def RT:ZP:=d N8.u4 N8.u5 N8.u0
def RU:ZP:=d N8.u5 N8.u5 N8.u0
def Qf:ZP:=d N8.u6 N8.u5 N8.u0
def Qg:ZP:=d N8.u7 N8.u5 N8.u0
def Qh:ZP:=d N8.u0 N8.u6 N8.u0
def QT:ZP:=d N8.u1 N8.u6 N8.u0
def QU:ZP:=d N8.u2 N8.u6 N8.u0
def R4:ZP:=d N8.u3 N8.u6 N8.u0
def Qi:ZP:=d N8.u4 N8.u6 N8.u0
def Q4:ZP:=d N8.u5 N8.u6 N8.u0
def Pt:ZP:=d N8.u6 N8.u6 N8.u0
def Q5:ZP:=d N8.u7 N8.u6 N8.u0
def Pu:ZP:=d N8.u0 N8.u7 N8.u0
def Pv:ZP:=d N8.u1 N8.u7 N8.u0
def Pw:ZP:=d N8.u2 N8.u7 N8.u0
def Oh:ZP:=d N8.u3 N8.u7 N8.u0
def PY:ZP:=d N8.u4 N8.u7 N8.u0
def Oi:ZP:=d N8.u5 N8.u7 N8.u0
def OG:ZP:=d N8.u6 N8.u7 N8.u0
def No:ZP:=d N8.u7 N8.u7 N8.u0
def NW:ZP:=d N8.u0 N8.u0 N8.u1
def Ms:ZP:=d N8.u1 N8.u0 N8.u1
def LB:ZP:=d N8.u2 N8.u0 N8.u1
def LC:ZP:=d N8.u3 N8.u0 N8.u1
def KN:ZP:=d N8.u4 N8.u0 N8.u1
def Jt:ZP:=d N8.u5 N8.u0 N8.u1
def Ju:ZP:=d N8.u6 N8.u0 N8.u1
def Jv:ZP:=d N8.u7 N8.u0 N8.u1
def Jw:ZP:=d N8.u0 N8.u1 N8.u1
def Fx:ZP:=d N8.u1 N8.u1 N8.u1
def Fy:ZP:=d N8.u2 N8.u1 N8.u1
def E6:ZP:=d N8.u3 N8.u1 N8.u1
def E7:ZP:=d N8.u4 N8.u1 N8.u1
def E8:ZP:=d N8.u5 N8.u1 N8.u1
def E9:ZP:=d N8.u6 N8.u1 N8.u1
def Da:ZP:=d N8.u7 N8.u1 N8.u1
def Db:ZP:=d N8.u0 N8.u2 N8.u1
def Fz:ZP:=d N8.u1 N8.u2 N8.u1
def FA:ZP:=d N8.u2 N8.u2 N8.u1
def FC:ZP:=d N8.u3 N8.u2 N8.u1
def FD:ZP:=d N8.u4 N8.u2 N8.u1
def Gj:ZP:=d N8.u5 N8.u2 N8.u1
def FE:ZP:=d N8.u6 N8.u2 N8.u1
def FF:ZP:=d N8.u7 N8.u2 N8.u1
def Dc:ZP:=d N8.u0 N8.u3 N8.u1
def Dd:ZP:=d N8.u1 N8.u3 N8.u1
def De:ZP:=d N8.u2 N8.u3 N8.u1
def Df:ZP:=d N8.u3 N8.u3 N8.u1
def Dg:ZP:=d N8.u4 N8.u3 N8.u1
def Dh:ZP:=d N8.u5 N8.u3 N8.u1
def BA:ZP:=d N8.u6 N8.u3 N8.u1
def BB:ZP:=d N8.u7 N8.u3 N8.u1
def BC:ZP:=d N8.u0 N8.u4 N8.u1
def Aw:ZP:=d N8.u1 N8.u4 N8.u1
def Ax:ZP:=d N8.u2 N8.u4 N8.u1
def BD:ZP:=d N8.u3 N8.u4 N8.u1
def KK:ZP:=d N8.u4 N8.u4 N8.u1
def Ln:ZP:=d N8.u5 N8.u4 N8.u1
def KL:ZP:=d N8.u6 N8.u4 N8.u1
def KM:ZP:=d N8.u7 N8.u4 N8.u1
def JN:ZP:=d N8.u0 N8.u5 N8.u1
def JO:ZP:=d N8.u1 N8.u5 N8.u1
def Gb:ZP:=d N8.u2 N8.u5 N8.u1
def Ey:ZP:=d N8.u3 N8.u5 N8.u1
def Ez:ZP:=d N8.u4 N8.u5 N8.u1
def EA:ZP:=d N8.u5 N8.u5 N8.u1
def Gc:ZP:=d N8.u6 N8.u5 N8.u1
def Gd:ZP:=d N8.u7 N8.u5 N8.u1
def Ge:ZP:=d N8.u0 N8.u6 N8.u1
def Gf:ZP:=d N8.u1 N8.u6 N8.u1
def Gg:ZP:=d N8.u2 N8.u6 N8.u1
def Gh:ZP:=d N8.u3 N8.u6 N8.u1
def Gi:ZP:=d N8.u4 N8.u6 N8.u1
def EB:ZP:=d N8.u5 N8.u6 N8.u1
def EC:ZP:=d N8.u6 N8.u6 N8.u1
def ED:ZP:=d N8.u7 N8.u6 N8.u1
def EE:ZP:=d N8.u0 N8.u7 N8.u1
def EF:ZP:=d N8.u1 N8.u7 N8.u1
def EG:ZP:=d N8.u2 N8.u7 N8.u1
def EH:ZP:=d N8.u3 N8.u7 N8.u1
def EI:ZP:=d N8.u4 N8.u7 N8.u1
def Bk:ZP:=d N8.u5 N8.u7 N8.u1
def Bm:ZP:=d N8.u6 N8.u7 N8.u1
def Bn:ZP:=d N8.u7 N8.u7 N8.u1
def Bo:ZP:=d N8.u0 N8.u0 N8.u2
def Bp:ZP:=d N8.u1 N8.u0 N8.u2
def EJ:ZP:=d N8.u2 N8.u0 N8.u2
def EK:ZP:=d N8.u3 N8.u0 N8.u2
def EL:ZP:=d N8.u4 N8.u0 N8.u2
def EM:ZP:=d N8.u5 N8.u0 N8.u2
def EN:ZP:=d N8.u6 N8.u0 N8.u2
def EO:ZP:=d N8.u7 N8.u0 N8.u2
def Bq:ZP:=d N8.u0 N8.u1 N8.u2
def Br:ZP:=d N8.u1 N8.u1 N8.u2
def Bs:ZP:=d N8.u2 N8.u1 N8.u2
def Bt:ZP:=d N8.u3 N8.u1 N8.u2
def Bu:ZP:=d N8.u4 N8.u1 N8.u2
def Bv:ZP:=d N8.u5 N8.u1 N8.u2
def Bw:ZP:=d N8.u6 N8.u1 N8.u2
def yq:ZP:=d N8.u7 N8.u1 N8.u2
def yr:ZP:=d N8.u0 N8.u2 N8.u2
def Bx:ZP:=d N8.u1 N8.u2 N8.u2
def By:ZP:=d N8.u2 N8.u2 N8.u2
def Bz:ZP:=d N8.u3 N8.u2 N8.u2
def yt:ZP:=d N8.u4 N8.u2 N8.u2
def yu:ZP:=d N8.u5 N8.u2 N8.u2
def yv:ZP:=d N8.u6 N8.u2 N8.u2
def yw:ZP:=d N8.u7 N8.u2 N8.u2
def yx:ZP:=d N8.u0 N8.u3 N8.u2
def yy:ZP:=d N8.u1 N8.u3 N8.u2
def yz:ZP:=d N8.u2 N8.u3 N8.u2
def yA:ZP:=d N8.u3 N8.u3 N8.u2
def yB:ZP:=d N8.u4 N8.u3 N8.u2
def yC:ZP:=d N8.u5 N8.u3 N8.u2
def tN:ZP:=d N8.u6 N8.u3 N8.u2
def tO:ZP:=d N8.u7 N8.u3 N8.u2
def tP:ZP:=d N8.u0 N8.u4 N8.u2
def tQ:ZP:=d N8.u1 N8.u4 N8.u2
def tR:ZP:=d N8.u2 N8.u4 N8.u2
def tS:ZP:=d N8.u3 N8.u4 N8.u2
def tT:ZP:=d N8.u4 N8.u4 N8.u2
def tU:ZP:=d N8.u5 N8.u4 N8.u2
def my:ZP:=d N8.u6 N8.u4 N8.u2
def aE:ZP:=d N8.u7 N8.u4 N8.u2
def aF:ZP:=d N8.u0 N8.u5 N8.u2
def ZeA:ZP:=d N8.u1 N8.u5 N8.u2
def ZeB:ZP:=d N8.u2 N8.u5 N8.u2
def ZeC:ZP:=d N8.u3 N8.u5 N8.u2
def Zlb:ZP:=d N8.u4 N8.u5 N8.u2
def Zlc:ZP:=d N8.u5 N8.u5 N8.u2
def Zld:ZP:=d N8.u6 N8.u5 N8.u2
def Zle:ZP:=d N8.u7 N8.u5 N8.u2
def Zlf:ZP:=d N8.u0 N8.u6 N8.u2
def Zlg:ZP:=d N8.u1 N8.u6 N8.u2
def Zlh:ZP:=d N8.u2 N8.u6 N8.u2
def Zli:ZP:=d N8.u3 N8.u6 N8.u2
def Zlj:ZP:=d N8.u4 N8.u6 N8.u2
def Zlk:ZP:=d N8.u5 N8.u6 N8.u2
def Zll:ZP:=d N8.u6 N8.u6 N8.u2
def Zlm:ZP:=d N8.u7 N8.u6 N8.u2
def Zln:ZP:=d N8.u0 N8.u7 N8.u2
def Zlo:ZP:=d N8.u1 N8.u7 N8.u2
def Zlp:ZP:=d N8.u2 N8.u7 N8.u2
def Zlq:ZP:=d N8.u3 N8.u7 N8.u2
def Zlr:ZP:=d N8.u4 N8.u7 N8.u2
def Zls:ZP:=d N8.u5 N8.u7 N8.u2
def Zlt:ZP:=d N8.u6 N8.u7 N8.u2
def Zlu:ZP:=d N8.u7 N8.u7 N8.u2
end
end Go.AI
