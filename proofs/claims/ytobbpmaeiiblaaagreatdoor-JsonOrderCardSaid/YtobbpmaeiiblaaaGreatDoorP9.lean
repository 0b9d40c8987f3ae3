/- Numbers in digits, walked on any number: proved without conditions but those that each names. -/
import Derived.Test.YtobbpmaeiiblaaaGreatDoorP8
import Derived.KernelRfl
set_option maxRecDepth 1000000
set_option maxHeartbeats 0
set_option linter.unusedVariables false
set_option linter.unusedSimpArgs false
namespace Go.AI
def dig(d:Nat):UInt8:=UInt8.ofNat (48+d)
theorem Zj7{d:Nat}(h:d<10):(dig d).toNat=48+d:=by
 unfold dig
 rw[UInt8.toNat_ofNat_of_lt' (show 48+d<UInt8.size by unfold UInt8.size;omega)]
def Zof:Nat→Nat→List UInt8
 |0,_=>[]
 |k+1,n=>Zof k (n/10)++[dig (n % 10)]
theorem Zeo: ∀k n,(Zof k n).length=k
 |0,_=>rfl
 |k+1,n=>by show(Zof k (n/10)++[dig (n % 10)]).length=_;rw[Zx,Zeo k];rfl
def Zx7(l:List UInt8):Nat:=l.foldl (fun n c=>10*n+(c.toNat - 48)) 0
def Za3(n:Nat):Nat:=if n<10 then 1 else Za3 (n/10)+1
theorem ZeG{n:Nat}(h:n<10):Za3 n=1:=by rw[Za3,if_pos h]
theorem Zhv{n:Nat}(h:10≤n):Za3 n=Za3 (n/10)+1:=by rw[Za3,if_neg (by omega)]
theorem Zhw(n:Nat):1≤Za3 n:=by
 by_cases h:n<10
 ·rw[ZeG h];exact Zl _
 ·rw[Zhv (by omega)];omega
theorem Zog: ∀k n,10^k≤n→n<10^(k+1)→Za3 n=k+1
 |0,n,_,h=>ZeG (by simpa using h)
 |k+1,n,h1,h2=>by
  have h3:10^(k+1)=10^k*10:=Nat.pow_succ ..
  have h4:10^(k+1+1)=10^(k+1)*10:=Nat.pow_succ ..
  have h5:1≤10^k:=Nat.one_le_pow _ _ (by decide)
  rw[Zhv (by omega),Zog k (n/10) (by omega) (by omega)]
theorem ZsO(n:Nat):n<10^Za3 n:=by
 induction n using Nat.strongRecOn with
 |ind n ih=>
  by_cases h:n<10
  ·rw[ZeG h];simpa using h
  ·rw[Zhv (by omega),Nat.pow_succ]
   have:=ih (n/10) (by omega)
   omega
theorem Zoh{n k:Nat}(hk:1≤k)(h:n<10^k):Za3 n≤k:=by
 by_cases h0:n<10
 ·rw[ZeG h0];exact hk
 ·obtain⟨j,hj⟩: ∃j,Za3 n=j+1:=⟨Za3 n - 1,by have:=Zhw n;omega⟩
  rw[hj]
  by_cases hlt:k<j+1
  ·have h1:10^j≤n:=by
    have: ∀n j,Za3 n=j+1→10≤n→10^j≤n:=by
     intro n
     induction n using Nat.strongRecOn with
     |ind n ih=>
      intro j hj hn
      rw[Zhv hn] at hj
      by_cases h2:n/10<10
      ·rw[ZeG h2] at hj
       obtain rfl:j=1:=by omega
       simpa using hn
      ·obtain⟨i,rfl⟩: ∃i,j=i+1:=⟨j - 1,by have:=Zhw (n/10);omega⟩
       have:=ih (n/10) (by omega) i (by omega) (by omega)
       rw[Nat.pow_succ];omega
    exact this n j hj (by omega)
   have h2:10^k≤10^j:=Nat.pow_le_pow_right (by decide) (by omega)
   omega
  ·omega
def dec(n:Nat):List UInt8:=Zof (Za3 n) n
theorem Zoi(n:Nat):(dec n).length=Za3 n:=Zeo ..
theorem Zx8{n:Nat}(h:n<10):dec n=[dig n]:=by
 unfold dec;rw[ZeG h];show []++[dig (n % 10)]=_;rw[ZX h];rfl
theorem ZCu{n:Nat}(h:10≤n):dec n=dec (n/10)++[dig (n % 10)]:=by
 unfold dec;rw[Zhv h];rfl
def ZiH(z:Int):List UInt8:=if z<0 then 45::dec z.natAbs else dec z.natAbs
end Go.AI
namespace Go.AI
open Go
noncomputable section
def V7:Nat→Nat
 |33=>4
 |36=>2
 |40=>7
 |42=>5
 |43=>1
 |45=>4
 |68=>5
 |70=>3
 |71=>3
 |75=>1
 |79=>3
 |80=>1
 |82=>3
 |83=>2
 |90=>3
 |107=>2
 |112=>2
 |113=>2
 |114=>2
 |117=>3
 |120=>1
 |129=>1
 |134=>5
 |135=>1
 |137=>1
 |138=>2
 |151=>1
 |155=>1
 |167=>2
 |171=>1
 |172=>1
 |173=>1
 |189=>3
 |205=>2
 |217=>1
 |219=>1
 |_=>0
def rd(s:List UInt8)(i:Nat):Obj:=rG 144 1 [.str s,nI .i64 i] 0 false true true
def ZCv(o:Option Obj):Option (List UInt8×Nat):=match o with
 |some (.row r)=>(match r.get 0,r.get 1 with| .str s, .int .i64 (.ofNat i)=>some (s,i)|_,_=>none)
 |_=>none
def ZEd(e i:Nat):AV:= .iface 141 (.agg [nI .i64 e,nI .i64 i])
def blk(c:UInt8):Bool:=c.toNat==32||c.toNat==9||c.toNat==10||c.toNat==13
def Zx9(s:List UInt8)(i:Nat):Nat:=i+((s.drop i).takeWhile blk).length
def dg(c:UInt8):Bool:=decide (48≤c.toNat)&&decide (c.toNat≤57)
def ZEe(s:List UInt8)(i:Nat):Nat:=i+((s.drop i).takeWhile dg).length
inductive NO where
 |ok (z:Int) (q:Nat)
 |bad (at_ q:Nat)
def ZAy(s:List UInt8)(i:Nat):Nat:=if (s.getD i 0).toNat=45 then i+1 else i
def ZEf(s:List UInt8)(p:Nat):Nat:=if (s.getD p 0).toNat=48 then p+1 else ZEe s p
def ZCw(s:List UInt8)(i:Nat):NO:=
 let p:=ZAy s i
 if dg (s.getD p 0)=false then .bad p p
 else
  let q:=ZEf s p
  let u:=Zx7 ((s.take q).drop p)
  if p=i then(if u<9223372036854775808 then .ok u q else .bad i q) else(if u≤9223372036854775808 then .ok (-(u:Int)) q else .bad i q)
def ZCx(z:Int):AV:= .agg [nI .i64 3, .bool false, .int .i64 z, .str [], .nils, .nils]
def Qg:Lib:=fun f args H=>match f,args with
 |79,[.ptr b 0]=>(ZCv (H.t.get b)).map fun x=> .ret (.tup []) (H.put b (rd x.1 (Zx9 x.1 x.2)))
 |80,[.ptr b 0]=>(ZCv (H.t.get b)).map fun x=> .pan (ZEd 5 x.2) H
 |134,[.ptr b 0]=>(ZCv (H.t.get b)).map fun x=>match ZCw x.1 x.2 with
  | .ok z q=> .ret (ZCx z) (H.put b (rd x.1 q))
  | .bad p q=> .pan (ZEd 5 p) (H.put b (rd x.1 q))
 |_,_=>none
abbrev LK(Zk:Lib)(fs:T CF)(fuel k:Nat):Lib:=Zhq Zk fs fuel V7 Qg k
def ZsP:List UInt64:=[1,10,100,1000,10000,100000,1000000,10000000,100000000,1000000000,10000000000,100000000000,1000000000000,10000000000000,100000000000000,1000000000000000,10000000000000000,100000000000000000,1000000000000000000,10000000000000000000]
def Glob(H:Heap):Prop:=100≤H.nx∧(∃r,H.t.get 3=some (.row r)∧Cells r (ZsP.map ZzT))∧ ∃r t p,H.t.get 9=some (.row r)∧0<r.size∧r.get 0= .iface t (.ptr p 0)∧p<100
theorem Glob.keep{H H':Heap}(g:Glob H){S:List Nat}(k:Keep H H' S)(hS: ∀x∈S,100≤x):Glob H':=by
 obtain⟨h,⟨r,h1,h2⟩,e,t,p,h3,h4⟩:=g
 exact⟨Nat.le_trans h k.nx,⟨r,by rw[k.get _ (by omega) (fun h=>by have:=hS _ h;omega)];exact h1,h2⟩,e,t,p,by rw[k.get _ (by omega) (fun h=>by have:=hS _ h;omega)];exact h3,h4⟩
theorem Glob.put{H:Heap}(g:Glob H){b:Nat}(hb:100≤b)(o:Obj):Glob (H.put b o):=g.keep (S:=[b]) (Keep.put fun _=>by simp) (by simp;exact hb)
theorem Glob.new{H:Heap}(g:Glob H)(o:Obj):Glob (H.new o):=g.keep (S:=[]) (Keep.new H o _) (by simp)
structure Env(Zk:Lib)(fs:T CF)(fuel:Nat):Prop where
 big:100000≤fuel
 f7:fs.get 7=some c7
 n7: ∀l H,Zk 7 l H=none
 f28:fs.get 28=some c28
 n28: ∀l H,Zk 28 l H=none
 f29:fs.get 29=some c29
 n29: ∀l H,Zk 29 l H=none
 f32:fs.get 32=some c32
 n32: ∀l H,Zk 32 l H=none
 f33:fs.get 33=some c33
 n33: ∀l H,Zk 33 l H=none
 f36:fs.get 36=some c36
 n36: ∀l H,Zk 36 l H=none
 f37:fs.get 37=some c37
 n37: ∀l H,Zk 37 l H=none
 f38:fs.get 38=some c38
 n38: ∀l H,Zk 38 l H=none
 f40:fs.get 40=some c40
 n40: ∀l H,Zk 40 l H=none
 f41:fs.get 41=some c41
 n41: ∀l H,Zk 41 l H=none
 f42:fs.get 42=some c42
 n42: ∀l H,Zk 42 l H=none
 f43:fs.get 43=some c43
 n43: ∀l H,Zk 43 l H=none
 f44:fs.get 44=some c44
 n44: ∀l H,Zk 44 l H=none
 f45:fs.get 45=some c45
 n45: ∀l H,Zk 45 l H=none
 f66:fs.get 66=some c66
 n66: ∀l H,Zk 66 l H=none
 f67:fs.get 67=some c67
 n67: ∀l H,Zk 67 l H=none
 f68:fs.get 68=some c68
 n68: ∀l H,Zk 68 l H=none
 f70:fs.get 70=some c70
 n70: ∀l H,Zk 70 l H=none
 f71:fs.get 71=some c71
 n71: ∀l H,Zk 71 l H=none
 f75:fs.get 75=some c75
 n75: ∀l H,Zk 75 l H=none
 f76:fs.get 76=some c76
 n76: ∀l H,Zk 76 l H=none
 f77:fs.get 77=some c77
 n77: ∀l H,Zk 77 l H=none
 f78:fs.get 78=some c78
 n78: ∀l H,Zk 78 l H=none
 f79:fs.get 79=some c79
 n79: ∀l H,Zk 79 l H=none
 f80:fs.get 80=some c80
 n80: ∀l H,Zk 80 l H=none
 f81:fs.get 81=some c81
 n81: ∀l H,Zk 81 l H=none
 f82:fs.get 82=some c82
 n82: ∀l H,Zk 82 l H=none
 f83:fs.get 83=some c83
 n83: ∀l H,Zk 83 l H=none
 f84:fs.get 84=some c84
 n84: ∀l H,Zk 84 l H=none
 f85:fs.get 85=some c85
 n85: ∀l H,Zk 85 l H=none
 f86:fs.get 86=some c86
 n86: ∀l H,Zk 86 l H=none
 f87:fs.get 87=some c87
 n87: ∀l H,Zk 87 l H=none
 f88:fs.get 88=some c88
 n88: ∀l H,Zk 88 l H=none
 f89:fs.get 89=some c89
 n89: ∀l H,Zk 89 l H=none
 f90:fs.get 90=some c90
 n90: ∀l H,Zk 90 l H=none
 f92:fs.get 92=some c92
 n92: ∀l H,Zk 92 l H=none
 f107:fs.get 107=some ZuT
 n107: ∀l H,Zk 107 l H=none
 f111:fs.get 111=some Zx1
 n111: ∀l H,Zk 111 l H=none
 f112:fs.get 112=some ZAq
 n112: ∀l H,Zk 112 l H=none
 f113:fs.get 113=some Zx2
 n113: ∀l H,Zk 113 l H=none
 f114:fs.get 114=some Zp4
 n114: ∀l H,Zk 114 l H=none
 f115:fs.get 115=some ZAr
 n115: ∀l H,Zk 115 l H=none
 f116:fs.get 116=some ZAt
 n116: ∀l H,Zk 116 l H=none
 f117:fs.get 117=some ZAu
 n117: ∀l H,Zk 117 l H=none
 f120:fs.get 120=some ZuR
 n120: ∀l H,Zk 120 l H=none
 f121:fs.get 121=some ZAf
 n121: ∀l H,Zk 121 l H=none
 f122:fs.get 122=some ZAl
 n122: ∀l H,Zk 122 l H=none
 f123:fs.get 123=some ZAm
 n123: ∀l H,Zk 123 l H=none
 f124:fs.get 124=some ZAg
 n124: ∀l H,Zk 124 l H=none
 f125:fs.get 125=some ZAn
 n125: ∀l H,Zk 125 l H=none
 f129:fs.get 129=some ZCk
 n129: ∀l H,Zk 129 l H=none
 f134:fs.get 134=some ZCl
 n134: ∀l H,Zk 134 l H=none
 f135:fs.get 135=some ZAv
 n135: ∀l H,Zk 135 l H=none
 f136:fs.get 136=some ZuU
 n136: ∀l H,Zk 136 l H=none
 f137:fs.get 137=some ZxZ
 n137: ∀l H,Zk 137 l H=none
 f138:fs.get 138=some ZrQ
 n138: ∀l H,Zk 138 l H=none
 f139:fs.get 139=some ZjT
 n139: ∀l H,Zk 139 l H=none
 f143:fs.get 143=some ZAp
 n143: ∀l H,Zk 143 l H=none
 f151:fs.get 151=some ZAo
 n151: ∀l H,Zk 151 l H=none
 f155:fs.get 155=some Zx3
 n155: ∀l H,Zk 155 l H=none
 f156:fs.get 156=some ZAs
 n156: ∀l H,Zk 156 l H=none
 f157:fs.get 157=some Zx6
 n157: ∀l H,Zk 157 l H=none
 f158:fs.get 158=some Zx5
 n158: ∀l H,Zk 158 l H=none
 f160:fs.get 160=some ZuS
 n160: ∀l H,Zk 160 l H=none
 f167:fs.get 167=some ZCm
 n167: ∀l H,Zk 167 l H=none
 f168:fs.get 168=some ZCn
 n168: ∀l H,Zk 168 l H=none
 f169:fs.get 169=some Zoc
 n169: ∀l H,Zk 169 l H=none
 f171:fs.get 171=some ZAj
 n171: ∀l H,Zk 171 l H=none
 f172:fs.get 172=some Zlu
 n172: ∀l H,Zk 172 l H=none
 f173:fs.get 173=some Zx0
 n173: ∀l H,Zk 173 l H=none
 f184:fs.get 184=some Zx4
 n184: ∀l H,Zk 184 l H=none
 f185:fs.get 185=some ZrR
 n185: ∀l H,Zk 185 l H=none
 f186:fs.get 186=some ZAw
 n186: ∀l H,Zk 186 l H=none
 f189:fs.get 189=some ZCo
 n189: ∀l H,Zk 189 l H=none
 f190:fs.get 190=some ZCr
 n190: ∀l H,Zk 190 l H=none
 f205:fs.get 205=some ZCp
 n205: ∀l H,Zk 205 l H=none
 f207:fs.get 207=some ZCs
 n207: ∀l H,Zk 207 l H=none
 f217:fs.get 217=some ZCq
 n217: ∀l H,Zk 217 l H=none
 f219:fs.get 219=some ZCt
 n219: ∀l H,Zk 219 l H=none
 ix: ∀(s:List UInt8) (x:Nat) (H:Heap),x<256→Zk 127 [.str s,nI .u8 x] H=some (.ret (.int .i64 (ZbV x s 0)) H)
 nesc: ∀(x:AV) (H:Heap),Zk 128 [x] H=some (.ret x H)
end
end Go.AI
namespace Go.AI
open Go
noncomputable section
def QU(x:Nat):Nat:=if x=0 then 0 else Nat.log2 x+1
theorem Zp5: ∀x,x<256→(Zp3.getD x 0).toNat=QU x:=by decide
theorem Zlw{x k:Nat}(h:2^k≤x):QU x=k+QU (x/2^k):=by
 have hp:0<2^k:=Nat.two_pow_pos k
 have h1:x≠0:=by omega
 have h2:x/2^k≠0:=by
  have:=Nat.div_pos h hp;omega
 unfold QU
 rw[if_neg h1,if_neg h2]
 have e1:=(Nat.log2_eq_iff h2 (k:=Nat.log2 (x/2^k))).1 rfl
 have:Nat.log2 x=k+Nat.log2 (x/2^k):=by
  refine(Nat.log2_eq_iff h1).2 ⟨?_,?_⟩
  ·rw[Nat.pow_add]
   calc 2^k*2^Nat.log2 (x/2^k)≤2^k*(x/2^k):=Nat.mul_le_mul_left _ e1.1
    _≤x:=Nat.mul_div_le x _
  ·rw[Nat.add_assoc,Nat.pow_add,Nat.mul_comm]
   exact(Nat.div_lt_iff_lt_mul hp).1 e1.2
 omega
theorem ZAz{x:Nat}(h:4294967296≤x):QU x=32+QU (x/4294967296):=Zlw (k:=32) h
theorem ZsQ{x:Nat}(h:65536≤x):QU x=16+QU (x/65536):=Zlw (k:=16) h
theorem Zoj{x:Nat}(h:256≤x):QU x=8+QU (x/256):=Zlw (k:=8) h
theorem Zok{x k:Nat}(h:x<2^k):QU x≤k:=by
 unfold QU
 split
 ·omega
 ·rename_i h0
  have:=(Nat.log2_lt h0).2 h
  omega
theorem ZuV{Zk:Lib}{fs:T CF}{fuel:Nat}(E:Env Zk fs fuel){n:Nat}{x:Nat}{H:Heap}(hx:x<18446744073709551616):
  ∃H',ZQ (LK Zk fs fuel 0) fs fuel (n+2) 172 [nI .u64 x] H= .ret (nI .i64 (QU x)) H'∧Keep H H' []:=by
 rw[ZV (ZL E.n172 (.inl (by decide)) _ _) E.f172]
 have hl:Zp3.length=256:=by decide
 have tab: ∀y,y<256→Zp3.getD (y % 256) 0=UInt8.ofNat (QU y):=fun y hy=>by
  rw[ZX hy,←Zp5 y hy];simp
 have tb: ∀y,y<256→(Zp3.getD (y % 256) 0).toNat=QU y:=fun y hy=>by rw[ZX hy,Zp5 y hy]
 have bl: ∀y,QU (y % 256)≤8:=fun y=>Zok (k:=8) (Nat.mod_lt _ (by decide))
 by_cases h1:4294967296≤x
 ·have d1:decide (4294967296≤x)=true:=Zh h1
  rw[ZAz h1]
  generalize hy:x/4294967296=y
  have hy2:y<4294967296:=by omega
  by_cases h2:65536≤y
  ·have d2:decide (65536≤y)=true:=Zh h2
   rw[ZsQ h2]
   generalize hz:y/65536=z
   have hz2:z<65536:=by omega
   by_cases h3:256≤z
   ·have d3:decide (256≤z)=true:=Zh h3
    rw[Zoj h3]
    generalize hw:z/256=w
    have hw2:w<256:=by omega
    have hm:=ZX hw2
    have hb:=bl w
    rw[hm] at hb
    have hb2:=tb w hw2
    rw[hm] at hb2
    simp(disch:=first|omega|decide) only[YO,QQ,Zb0,U3,Zad,Yt,Nat.reducePow,d1,hy,d2,hz,d3,hw,hm,hb2,Zlu,ZG,N8G,Zr,Zs,Zd,Ze,Zf,Nat.reducePow,Nat.reduceDiv,Nat.reduceMod,Nat.reduceEqDiff,reduceCtorEq,TB0]
    exact⟨_,by first|rfl|simp only[Nat.add_assoc],Keep.refl _ _⟩
   ·have d3:decide (256≤z)=false:=Zc h3
    have hw2:z<256:=by omega
    have hm:=ZX hw2
    have hb:=bl z
    rw[hm] at hb
    have hb2:=tb z hw2
    rw[hm] at hb2
    simp(disch:=first|omega|decide) only[YO,QQ,Zb0,U3,Zad,Yt,Nat.reducePow,d1,hy,d2,hz,d3,hm,hb2,Zlu,ZG,N8G,Zr,Zs,Zd,Ze,Zf,Nat.reducePow,Nat.reduceDiv,Nat.reduceMod,Nat.reduceEqDiff,reduceCtorEq,TB0]
    exact⟨_,by first|rfl|simp only[Nat.add_assoc],Keep.refl _ _⟩
  ·have d2:decide (65536≤y)=false:=Zc h2
   have hz2:y<65536:=by omega
   by_cases h3:256≤y
   ·have d3:decide (256≤y)=true:=Zh h3
    rw[Zoj h3]
    generalize hw:y/256=w
    have hw2:w<256:=by omega
    have hm:=ZX hw2
    have hb:=bl w
    rw[hm] at hb
    have hb2:=tb w hw2
    rw[hm] at hb2
    simp(disch:=first|omega|decide) only[YO,QQ,Zb0,U3,Zad,Yt,Nat.reducePow,d1,hy,d2,d3,hw,hm,hb2,Zlu,ZG,N8G,Zr,Zs,Zd,Ze,Zf,Nat.reducePow,Nat.reduceDiv,Nat.reduceMod,Nat.reduceEqDiff,reduceCtorEq,TB0]
    exact⟨_,by first|rfl|simp only[Nat.add_assoc],Keep.refl _ _⟩
   ·have d3:decide (256≤y)=false:=Zc h3
    have hw2:y<256:=by omega
    have hm:=ZX hw2
    have hb:=bl y
    rw[hm] at hb
    have hb2:=tb y hw2
    rw[hm] at hb2
    simp(disch:=first|omega|decide) only[YO,QQ,Zb0,U3,Zad,Yt,Nat.reducePow,d1,hy,d2,d3,hm,hb2,Zlu,ZG,N8G,Zr,Zs,Zd,Ze,Zf,Nat.reducePow,Nat.reduceDiv,Nat.reduceMod,Nat.reduceEqDiff,reduceCtorEq,TB0]
    exact⟨_,by first|rfl|simp only[Nat.add_assoc],Keep.refl _ _⟩
 ·have d1:decide (4294967296≤x)=false:=Zc h1
  have hy2:x<4294967296:=by omega
  by_cases h2:65536≤x
  ·have d2:decide (65536≤x)=true:=Zh h2
   rw[ZsQ h2]
   generalize hz:x/65536=z
   have hz2:z<65536:=by omega
   by_cases h3:256≤z
   ·have d3:decide (256≤z)=true:=Zh h3
    rw[Zoj h3]
    generalize hw:z/256=w
    have hw2:w<256:=by omega
    have hm:=ZX hw2
    have hb:=bl w
    rw[hm] at hb
    have hb2:=tb w hw2
    rw[hm] at hb2
    simp(disch:=first|omega|decide) only[YO,QQ,Zb0,U3,Zad,Yt,Nat.reducePow,d1,d2,hz,d3,hw,hm,hb2,Zlu,ZG,N8G,Zr,Zs,Zd,Ze,Zf,Nat.reducePow,Nat.reduceDiv,Nat.reduceMod,Nat.reduceEqDiff,reduceCtorEq,TB0]
    exact⟨_,by first|rfl|simp only[Nat.add_assoc],Keep.refl _ _⟩
   ·have d3:decide (256≤z)=false:=Zc h3
    have hw2:z<256:=by omega
    have hm:=ZX hw2
    have hb:=bl z
    rw[hm] at hb
    have hb2:=tb z hw2
    rw[hm] at hb2
    simp(disch:=first|omega|decide) only[YO,QQ,Zb0,U3,Zad,Yt,Nat.reducePow,d1,d2,hz,d3,hm,hb2,Zlu,ZG,N8G,Zr,Zs,Zd,Ze,Zf,Nat.reducePow,Nat.reduceDiv,Nat.reduceMod,Nat.reduceEqDiff,reduceCtorEq,TB0]
    exact⟨_,by first|rfl|simp only[Nat.add_assoc],Keep.refl _ _⟩
  ·have d2:decide (65536≤x)=false:=Zc h2
   have hz2:x<65536:=by omega
   by_cases h3:256≤x
   ·have d3:decide (256≤x)=true:=Zh h3
    rw[Zoj h3]
    generalize hw:x/256=w
    have hw2:w<256:=by omega
    have hm:=ZX hw2
    have hb:=bl w
    rw[hm] at hb
    have hb2:=tb w hw2
    rw[hm] at hb2
    simp(disch:=first|omega|decide) only[YO,QQ,Zb0,U3,Zad,Yt,Nat.reducePow,d1,d2,d3,hw,hm,hb2,Zlu,ZG,N8G,Zr,Zs,Zd,Ze,Zf,Nat.reducePow,Nat.reduceDiv,Nat.reduceMod,Nat.reduceEqDiff,reduceCtorEq,TB0]
    exact⟨_,by first|rfl|simp only[Nat.add_assoc],Keep.refl _ _⟩
   ·have d3:decide (256≤x)=false:=Zc h3
    have hw2:x<256:=by omega
    have hm:=ZX hw2
    have hb:=bl x
    rw[hm] at hb
    have hb2:=tb x hw2
    rw[hm] at hb2
    simp(disch:=first|omega|decide) only[YO,QQ,Zb0,U3,Zad,Yt,Nat.reducePow,d1,d2,d3,hm,hb2,Zlu,ZG,N8G,Zr,Zs,Zd,Ze,Zf,Nat.reducePow,Nat.reduceDiv,Nat.reduceMod,Nat.reduceEqDiff,reduceCtorEq,TB0]
    exact⟨_,by first|rfl|simp only[Nat.add_assoc],Keep.refl _ _⟩
theorem ZBn{Zk:Lib}{fs:T CF}{fuel:Nat}(E:Env Zk fs fuel){k n:Nat}(hk:1≤k){x:Nat}{H:Heap}(hx:x<18446744073709551616):
  ZQ (LK Zk fs fuel k) fs fuel (n+1) 172 [nI .u64 x] H= .ret (nI .i64 (QU x)) H:=by
 obtain⟨H',e,g⟩:=ZuV E (n:=898) (H:=H) hx
 exact YI (r:=0) rfl rfl e g (rfl) hk
theorem ZrS{Zk:Lib}{fs:T CF}{fuel:Nat}(E:Env Zk fs fuel){n:Nat}{x:Nat}{H:Heap}(hx:x≤64):
  ∃H',ZQ (LK Zk fs fuel 0) fs fuel (n+2) 171 [nI .i64 x] H= .ret (nI .i64 (x*78913/262144)) H'∧Keep H H' []:=by
 rw[ZV (ZL E.n171 (.inl (by decide)) _ _) E.f171]
 simp(disch:=first|omega|decide) only[Zla,Zuw,Nat.reducePow,ZAj,ZG,N8G,Zr,Zs,Zd,Ze,Zf,Nat.reducePow,Nat.reduceDiv,Nat.reduceMod,Nat.reduceEqDiff,reduceCtorEq,TB0]
 exact⟨_,rfl,Keep.refl _ _⟩
theorem ZCy{Zk:Lib}{fs:T CF}{fuel:Nat}(E:Env Zk fs fuel){k n:Nat}(hk:1≤k){x:Nat}{H:Heap}(hx:x≤64):
  ZQ (LK Zk fs fuel k) fs fuel (n+1) 171 [nI .i64 x] H= .ret (nI .i64 (x*78913/262144)) H:=by
 obtain⟨H',e,g⟩:=ZrS E (n:=898) (H:=H) hx
 exact YI (r:=0) rfl rfl e g (rfl) hk
theorem ZuW{Zk:Lib}{fs:T CF}{fuel:Nat}(E:Env Zk fs fuel){n:Nat}{b:Bool}{H:Heap}:
  ∃H',ZQ (LK Zk fs fuel 0) fs fuel (n+2) 173 [.bool b] H= .ret (nI .i64 (if b then 1 else 0)) H'∧Keep H H' []:=by
 rw[ZV (ZL E.n173 (.inl (by decide)) _ _) E.f173]
 cases b
 ·simp(disch:=first|omega|decide) only[Zx0,ZG,N8G,Zr,Zs,Zd,Ze,Zf,Nat.reduceEqDiff,reduceCtorEq,TB0]
  exact⟨_,rfl,Keep.refl _ _⟩
 ·simp(disch:=first|omega|decide) only[Zx0,ZG,N8G,Zr,Zs,Zd,Ze,Zf,Nat.reduceEqDiff,reduceCtorEq,TB0]
  exact⟨_,rfl,Keep.refl _ _⟩
theorem ZEg{Zk:Lib}{fs:T CF}{fuel:Nat}(E:Env Zk fs fuel){k n:Nat}(hk:1≤k){b:Bool}{H:Heap}:
  ZQ (LK Zk fs fuel k) fs fuel (n+1) 173 [.bool b] H= .ret (nI .i64 (if b then 1 else 0)) H:=by
 obtain⟨H',e,g⟩:=ZuW E (n:=898) (H:=H)
 exact YI (r:=0) rfl rfl e g (rfl) hk
theorem ZuX: ∀x,x<100→(if x<10 then(ZsN.take (x+1)).drop x else(UV.take (x*2+2)).drop (x*2))=dec x:=by
 intro x hx
 by_cases h:x<10
 ·rw[if_pos h,Zx8 h]
  have: ∀x,x<10→(ZsN.take (x+1)).drop x=[dig x]:=by decide
  exact this x h
 ·rw[if_neg h,ZCu (by omega),Zx8 (by omega)]
  have: ∀x,x<100→(UV.take (x*2+2)).drop (x*2)=[dig (x/10)]++[dig (x % 10)]:=by decide
  exact this x hx
theorem ZuY{Zk:Lib}{fs:T CF}{fuel:Nat}(E:Env Zk fs fuel){n:Nat}{x:Nat}{H:Heap}(hx:x<100):
  ∃H',ZQ (LK Zk fs fuel 0) fs fuel (n+2) 137 [nI .i64 x] H= .ret (.str (dec x)) H'∧Keep H H' []:=by
 rw[ZV (ZL E.n137 (.inl (by decide)) _ _) E.f137]
 have l1:ZsN.length=36:=by decide
 have l2:UV.length=200:=by decide
 have st:=ZuX x hx
 by_cases h:x<10
 ·have d:decide (x<10)=true:=Zh h
  rw[if_pos h] at st
  simp(disch:=first|omega|decide) only[ZU,Yt,Zla,ZeC,d,st,ZxZ,ZG,N8G,Zr,Zs,Zd,Ze,Zf,Nat.reducePow,Nat.reduceDiv,Nat.reduceMod,Nat.reduceEqDiff,reduceCtorEq,TB0]
  exact⟨_,rfl,Keep.refl _ _⟩
 ·have d:decide (x<10)=false:=Zc h
  rw[if_neg h] at st
  simp(disch:=first|omega|decide) only[ZU,Yt,Zla,ZeC,d,st,ZxZ,ZG,N8G,Zr,Zs,Zd,Ze,Zf,Nat.reducePow,Nat.reduceDiv,Nat.reduceMod,Nat.reduceEqDiff,reduceCtorEq,TB0]
  exact⟨_,rfl,Keep.refl _ _⟩
theorem ZEh{Zk:Lib}{fs:T CF}{fuel:Nat}(E:Env Zk fs fuel){k n:Nat}(hk:1≤k){x:Nat}{H:Heap}(hx:x<100):
  ZQ (LK Zk fs fuel k) fs fuel (n+1) 137 [nI .i64 x] H= .ret (.str (dec x)) H:=by
 obtain⟨H',e,g⟩:=ZuY E (n:=898) (H:=H) hx
 exact YI (r:=0) rfl rfl e g (rfl) hk
def ndF(d:Nat):Nat:=QU d*78913/262144
theorem ZFZ: ∀L,L<65→1≤L→(L*78913/262144≤19∧10^(L*78913/262144)≤2^(L - 1)*10∧2^L≤10^(L*78913/262144+1)∧(L*78913/262144=0∨10^(L*78913/262144 - 1)≤2^(L - 1))):=by decide
theorem ZEi{d:Nat}(h0:d≠0)(h:d<18446744073709551616):ndF d≤19∧Za3 d=ndF d+(if 10^ndF d≤d then 1 else 0):=by
 have hb:QU d=Nat.log2 d+1:=by unfold QU;rw[if_neg h0]
 have e1:=(Nat.log2_eq_iff h0 (k:=Nat.log2 d)).1 rfl
 have hL:QU d≤64:=Zok (k:=64) h
 obtain⟨p0,p1,p2,p3⟩:=ZFZ (QU d) (by omega) (by omega)
 have g:QU d - 1=Nat.log2 d:=by omega
 rw[g] at p1 p3
 have p2':d<10^(ndF d+1):=ZC (by rw[hb];exact e1.2) p2
 refine⟨p0,?_⟩
 by_cases hc:10^ndF d≤d
 ·rw[if_pos hc]
  exact Zog _ _ hc p2'
 ·rw[if_neg hc]
  rcases p3 with p3|p3
  ·have:ndF d=0:=p3
   rw[this] at hc
   simp at hc;omega
  ·by_cases hz:ndF d=0
   ·rw[hz] at hc;simp at hc;omega
   ·have:Za3 d=(ndF d - 1)+1:=Zog _ _ (Nat.le_trans p3 e1.1) (by rw[show ndF d - 1+1=ndF d by omega];omega)
    omega
theorem ZAA: ∀i,i<20→(ZsP.getD i 0).toNat=10^i:=by decide
theorem ZlX{Zk:Lib}{fs:T CF}{fuel:Nat}(E:Env Zk fs fuel){n:Nat}{d:Nat}{H:Heap}(g:Glob H)(h0:d≠0)(hd:d<18446744073709551616):
  ∃H',ZQ (LK Zk fs fuel 1) fs fuel (n+2) 138 [nI .u64 d] H= .ret (nI .i64 (Za3 d)) H'∧Keep H H' []:=by
 rw[ZV (ZL E.n138 (.inl (by decide)) _ _) E.f138]
 obtain⟨g0,⟨r,gr,gc⟩,_⟩:=g
 obtain⟨p1,p2⟩:=ZEi h0 hd
 have hbl:QU d≤64:=Zok (k:=64) hd
 have e1:=fun{k m} (hk:1≤k)=>ZBn (Zk:=Zk) (fs:=fs) (fuel:=fuel) E (k:=k) (n:=m) hk (H:=H) hd
 have e2:=fun{k m} (hk:1≤k)=>ZCy (Zk:=Zk) (fs:=fs) (fuel:=fuel) E (k:=k) (n:=m) hk (H:=H) hbl
 have e3:=fun{k m} (hk:1≤k) (b)=>ZEg (Zk:=Zk) (fs:=fs) (fuel:=fuel) E (k:=k) (n:=m) hk (b:=b) (H:=H)
 have ld:Zit (.ptr 3 (ndF d)) H= .val (nI .u64 (10^ndF d)) H:=by
  rw[Zrb gr gc (by rw[Zy];show _<20;omega),Zi,List.getElem?_map]
  have:=ZAA (ndF d) (by omega)
  rw[Zi] at this
  rw[Zp (show ndF d<ZsP.length by show _<20;omega)] at this ⊢
  show OR.val (ZzT _) H=_
  unfold ZzT nI
  rw[←this];rfl
 unfold ndF at ld p1 p2
 simp(disch:=first|omega|decide) only[e1,e2,e3,Zef,VF,YO,Yt,Zo,ZrQ,ZG,N8G,Zr,Zs,Zd,Ze,Zf,Nat.reduceEqDiff,reduceCtorEq,TB0]
 rw[ZmQ] at ld
 simp(disch:=first|omega|decide) only[ld,e3,Zef,YO,ZrQ,ZG,N8G,Zr,Zs,Zd,Ze,Zf,Nat.reduceEqDiff,reduceCtorEq,TB0]
 by_cases hc:10^(QU d*78913/262144)≤d
 ·rw[if_pos hc] at p2
  have dc:decide (10^(QU d*78913/262144)≤d)=true:=Zh hc
  simp(disch:=first|omega|decide) only[dc,e3,Zef,if_true,Yt,ZrQ,ZG,N8G,Zr,Zs,Zd,Ze,Zf,Nat.reduceEqDiff,reduceCtorEq,TB0]
  exact⟨_,by rw[p2],Keep.refl _ _⟩
 ·rw[if_neg hc] at p2
  have dc:decide (10^(QU d*78913/262144)≤d)=false:=Zc hc
  simp(disch:=first|omega|decide) only[dc,e3,Zef,Bool.false_eq_true,if_false,Yt,ZrQ,ZG,N8G,Zr,Zs,Zd,Ze,Zf,Nat.reduceEqDiff,reduceCtorEq,TB0]
  exact⟨_,by rw[p2],Keep.refl _ _⟩
theorem ZmY{Zk:Lib}{fs:T CF}{fuel:Nat}(E:Env Zk fs fuel){k n:Nat}(hk:2≤k){d:Nat}{H:Heap}(g:Glob H)(h0:d≠0)(hd:d<18446744073709551616):
  ZQ (LK Zk fs fuel k) fs fuel (n+1) 138 [nI .u64 d] H= .ret (nI .i64 (Za3 d)) H:=by
 obtain⟨H',e,g⟩:=ZlX E (n:=898) (H:=H) g h0 hd
 exact YI (r:=1) rfl rfl e g (rfl) hk
end
end Go.AI
namespace Go.AI
open Go
noncomputable section
namespace T
variable {α:Type}
theorem setB_same(x:α): ∀(t:T α) (bs:List Bool),t.getB bs=some x→setB x t bs=t
 |leaf,bs,h=>by cases h
 |node l v r,[],h=>by
  have h:v=some x:=h
  subst h;rfl
 |node l v r,true::bs,h=>by rw[Ziz,setB_same x l bs h]
 |node l v r,false::bs,h=>by rw[ZiA,setB_same x r bs h]
end T
theorem Zhx{H:Heap}{b:Nat}{o:Obj}(h:H.t.get b=some o):H.put b o=H:=by
 unfold Heap.put T.set
 rw[T.setB_same o H.t (bits b) h]
theorem Zp6: ∀k n i,i<k→(Zof k n).getD i 0=dig (n/10^(k - 1 - i) % 10)
 |0,_,_,h=>by omega
 |k+1,n,i,h=>by
  show(Zof k (n/10)++[dig (n % 10)]).getD i 0=_
  rw[Zi]
  by_cases hi:i<k
  ·rw[List.getElem?_append_left (by rw[Zeo];exact hi),←Zi,Zp6 k (n/10) i hi,Nat.div_div_eq_div_mul]
   congr 3
   rw[show k+1 - 1 - i=(k - 1 - i)+1 by omega,Nat.pow_succ,Nat.mul_comm]
  ·obtain rfl:i=k:=by omega
   rw[List.getElem?_append_right (by rw[Zeo];exact Zl _),Zeo,Nat.sub_self,show i+1 - 1 - i=0 by omega,Nat.pow_zero,Nat.div_one];rfl
theorem Zya:UV.length=200:=by decide
theorem ZF0: ∀x,x<100→UV.getD (x*2) 0=dig (x/10):=by decide
theorem ZF1: ∀x,x<100→UV.getD (x*2+1) 0=dig (x % 10):=by decide
theorem ZlY{x:Nat}(hx:x<100)(H:Heap):ZcU (.str UV) (nI .u32 (x*2)) H= .val (u8V (dig (x/10))) H:=by rw[Zf2 (by rw[Zya];omega),ZF0 x hx]
theorem ZlZ{x:Nat}(hx:x<100)(H:Heap):ZcU (.str UV) (nI .u32 (x*2+1)) H= .val (u8V (dig (x % 10))) H:=by rw[Zf2 (by rw[Zya];omega),ZF1 x hx]
structure FB(r R:Row)(nd m:Nat)(ds:List UInt8):Prop where
 size:R.size=24
 own:R.own=true
 fz:R.fz=0
 get: ∀i,R.get i=if 1+m≤i∧i<1+nd then u8V (ds.getD (i - 1) 0) else r.get i
theorem FB.pair{r R:Row}{nd m p q d1 d2:Nat}{ds:List UInt8}(h:FB r R nd m ds)(hm:m≤nd)(hp:p+1=m)(hq:q+2=m)(h1:ds.getD p 0=dig d1)(h2:ds.getD q 0=dig d2):
  FB r ((R.st (1+p) (u8V (dig d1))).st (1+q) (u8V (dig d2))) nd q ds:=by
 refine⟨h.size,h.own,h.fz,fun i=>?_⟩
 rw[Row.st_get,Row.st_get,h.get]
 by_cases e2:1+q=i
 ·rw[if_pos e2,if_pos (by omega),←h2,show i - 1=q by omega]
 ·rw[if_neg e2]
  by_cases e1:1+p=i
  ·rw[if_pos e1,if_pos (by omega),←h1,show i - 1=p by omega]
  ·rw[if_neg e1]
   by_cases e:1+m≤i∧i<1+nd
   ·rw[if_pos e,if_pos (by omega)]
   ·rw[if_neg e,if_neg (by omega)]
theorem FB.one{r R:Row}{nd d:Nat}{ds:List UInt8}(h:FB r R nd 1 ds)(hm:1≤nd)(h1:ds.getD 0 0=dig d):FB r (R.st 1 (u8V (dig d))) nd 0 ds:=by
 refine⟨h.size,h.own,h.fz,fun i=>?_⟩
 rw[Row.st_get,h.get]
 by_cases e1:1=i
 ·rw[if_pos e1,if_pos (by omega),←h1,show i - 1=0 by omega]
 ·rw[if_neg e1]
  by_cases e:1+1≤i∧i<1+nd
  ·rw[if_pos e,if_pos (by omega)]
  ·rw[if_neg e,if_neg (by omega)]
theorem ZBo{nd m u j p:Nat}(hm:m≤nd)(hp:p+1+j=m):(Zof nd u).getD p 0=dig (u/10^(nd - m)/10^j % 10):=by
 rw[Zp6 nd u p (by omega),Nat.div_div_eq_div_mul,←Nat.pow_add]
 congr 3;congr 1;omega
structure FL(H0:Heap)(b nd u:Nat)(c:Option Nat)(r:Row)(m:Nat)(tm:TM)(H:Heap):Prop where
 t0:gt0 tm= .slice b 1 nd c
 t1:gt1 tm=nI .u64 (u/10^(nd - m))
 t4:gt4 tm=nI .i64 m
 le:m≤nd
 heap: ∃R,H=H0.put b (.row R)∧FB r R nd m (Zof nd u)
theorem ZAB{H0:Heap}{b nd u:Nat}{c:Option Nat}{r:Row}(hb:b<H0.nx)(hro:H0.ro≤b)(hnd:nd≤20)(hu:u<18446744073709551616)(cx:Ctx)(x:X)(m:Nat)(tm:TM)(H:Heap)(h:FL H0 b nd u c r m tm H):
  ∃o tm' H',Zc4 cx tm H x= .ok o tm' H' x∧((o= .normal∧ ∃k,k<m∧FL H0 b nd u c r k tm' H')∨(o≠ .normal∧o= .exit 0∧m<8∧FL H0 b nd u c r m tm' H')):=by
 have t0:=h.t0;have t1:=h.t1;have t4:=h.t4;have hle:=h.le
 simp only[ZbJ,ZbK,Zlc] at t0 t1 t4
 obtain⟨R,rfl,fb⟩:=h.heap
 generalize hv:u/10^(nd - m)=v at t1
 have hv2:v<18446744073709551616:=by rw[←hv];exact Nat.lt_of_le_of_lt (Nat.div_le_self ..) hu
 have s1:=fb.size;have s2:=fb.own;have s3:=fb.fz
 by_cases h8:8≤m
 ·have d1:decide (8≤m)=true:=Zh h8
  simp(disch:=first|assumption|omega|(simp -implicitDefEqProofs only[Zt,Zu]<;>first|assumption|omega)|decide) only[Zc4,t0,t1,t4,d1,s1,s2,s3,We,YD,ZO,ZlY,ZlZ,YO,Z4,YX,WL,Qu,Qv,Qw,Qs,Qt,Qx,ZaD,U4,Row.st_size,Row.st_own,Row.st_fz,Nat.add_zero,Zc4,ZG,N8G,Zr,Zs,Zd,Ze,Zf,Nat.reducePow,Nat.reduceDiv,Nat.reduceMod,Nat.reduceEqDiff,reduceCtorEq,TB0,TB1,TB2]
  refine⟨_,_,_,rfl, .inl ⟨rfl,m - 8,by omega,t0,?_,rfl,by omega,_,rfl,?_⟩⟩
  ·show nI .u64 (v/100000000)=_
   rw[←hv,Nat.div_div_eq_div_mul,show(100000000:Nat)=10^8 from rfl,←Nat.pow_add,show nd - m+8=nd - (m - 8) by omega]
  ·have dd:=fun(p j:Nat) (hp:p+1+j=m)=>ZBo (u:=u) hle hp
   rw[hv] at dd
   refine FB.pair (m:=m - 6) (FB.pair (m:=m - 4) (FB.pair (m:=m - 2) (FB.pair fb hle (by omega) (by omega) ?_ ?_) (by omega) (by omega) (by omega) ?_ ?_) (by omega) (by omega) (by omega) ?_ ?_) (by omega) (by omega) (by omega) ?_ ?_
   ·rw[dd (m - 1) 0 (by omega)];congr 1;omega
   ·rw[dd (m - 2) 1 (by omega)];congr 1;omega
   ·rw[dd (m - 3) 2 (by omega)];congr 1;omega
   ·rw[dd (m - 4) 3 (by omega)];congr 1;omega
   ·rw[dd (m - 5) 4 (by omega)];congr 1;omega
   ·rw[dd (m - 6) 5 (by omega)];congr 1;omega
   ·rw[dd (m - 7) 6 (by omega)];congr 1;omega
   ·rw[dd (m - 8) 7 (by omega)];congr 1;omega
 ·have d1:decide (8≤m)=false:=Zc h8
  simp(disch:=first|assumption|omega|(simp -implicitDefEqProofs only[Zt,Zu]<;>first|assumption|omega)|decide) only[Zc4,t0,t1,t4,d1,We,YD,ZO,ZlY,ZlZ,YO,Z4,YX,WL,Qu,Qv,Qw,Qs,Qt,Qx,ZaD,U4,Row.st_size,Row.st_own,Row.st_fz,Nat.add_zero,Zc4,ZG,N8G,Zr,Zs,Zd,Ze,Zf,Nat.reducePow,Nat.reduceDiv,Nat.reduceMod,Nat.reduceEqDiff,reduceCtorEq,TB0,TB1,TB2]
  exact⟨_,_,_,rfl, .inr ⟨by simp,rfl,by omega,t0,by rw[hv];exact t1,t4,hle,_,rfl,fb⟩⟩
theorem Zyb{Zk:Lib}{fs:T CF}{fuel:Nat}(E:Env Zk fs fuel){k n:Nat}(hk:k<3){H:Heap}{b nd u:Nat}{c:Option Nat}{r:Row}(hr:H.t.get b=some (.row r))(hb:b<H.nx)(hro:H.ro≤b)(hs:r.size=24)(how:r.own=true)(hfz:r.fz=0)(hnd:nd≤20)(hu:u<18446744073709551616)(hud:u<10^nd):
  ∃R,ZQ (LK Zk fs fuel k) fs fuel (n+1) 139 [.slice b 1 nd c,nI .u64 u] H= .ret (.tup []) (H.put b (.row R))∧FB r R nd 0 (Zof nd u):=by
 have nn:Zhq Zk fs fuel V7 Qg k 139 [.slice b 1 nd c,nI .u64 u] H=none:=ZL E.n139 (.inr rfl) _ _
 rw[ZV nn E.f139]
 simp(disch:=first|assumption|omega|(simp -implicitDefEqProofs only[Zt,Zu]<;>first|assumption|omega)|decide) only[ZjT,ZG,N8G,Zr,Zs,Zd,Ze,Zf,Nat.reducePow,Nat.reduceDiv,Nat.reduceMod,Nat.reduceEqDiff,reduceCtorEq,TB0,TB3,TB4,TB5]
 generalize hL:WC (Zc4 _) fuel _ _ _=L
 obtain⟨o,tm1,H1,rfl,_,rfl,h8,z⟩:=YS (P:=fun T=>FL H b nd u c r nd T H) (Q:=fun o tm H'=>o= .exit 0∧ ∃m,m<8∧FL H b nd u c r m tm H')
  (fun T hi=>YV (FL H b nd u c r) (fun o tm H'=>o= .exit 0∧ ∃m,m<8∧FL H b nd u c r m tm H')
   (fun m tm H' h=>by
    obtain⟨o,tm',H2,e,h⟩:=ZAB hb hro hnd hu _ _ m tm H' h
    refine⟨o,tm',H2,e,?_⟩
    rcases h with h|⟨h1,h2,h3,h4⟩
    ·exact .inl h
    ·exact .inr ⟨h1,h2,m,h3,h4⟩) fuel nd T H (by have:=E.big;omega) hi) hL
  ⟨rfl,by rw[Nat.sub_self,Nat.pow_zero,Nat.div_one];rfl,rfl,Zl _,r,(Zhx hr).symm,hs,how,hfz,fun i=>by rw[if_neg (by omega)]⟩
 obtain⟨z8,z⟩:=z
 have t0:=z.t0;have t1:=z.t1;have t4:=z.t4;have hle:=z.le
 simp only[ZbJ,ZbK,Zlc] at t0 t1 t4
 obtain⟨R,rfl,fb⟩:=z.heap
 have dd:=fun(p j:Nat) (hp:p+1+j=h8)=>ZBo (u:=u) hle hp
 have hv2:u/10^(nd - h8)<10^h8:=by
  rw[Nat.div_lt_iff_lt_mul (Nat.pow_pos (by decide)),←Nat.pow_add,show h8+(nd - h8)=nd by omega];exact hud
 generalize hv:u/10^(nd - h8)=v at t1 dd hv2
 have s1:=fb.size;have s2:=fb.own;have s3:=fb.fz
 have z0:decide (0<0)=false:=rfl
 have z1:decide (0<1)=true:=rfl
 have hm:h8=0∨h8=1∨h8=2∨h8=3∨h8=4∨h8=5∨h8=6∨h8=7:=by omega
 rcases hm with rfl|rfl|rfl|rfl|rfl|rfl|rfl|rfl
 ·have hv3:v<1:=hv2
  simp(disch:=first|assumption|omega|(simp -implicitDefEqProofs only[Zt,Zu]<;>first|assumption|omega)|decide) only[VN,Vm,t0,t1,t4,s1,s2,s3,z0,z1,WL,Nat.reduceLeDiff,Nat.reduceSub,Nat.reduceAdd,We,YD,ZO,ZlY,ZlZ,YO,Z4,YX,WL,Qu,Qv,Qw,Qs,Qt,Qx,ZaD,U4,Row.st_size,Row.st_own,Row.st_fz,Nat.add_zero,ZjT,ZG,N8G,Zr,Zs,Zd,Ze,Zf,Nat.reducePow,Nat.reduceDiv,Nat.reduceMod,Nat.reduceEqDiff,reduceCtorEq,TB0,TB3,TB4,TB5]
  refine⟨_,rfl,?_⟩
  exact fb
 ·have hv3:v<10:=hv2
  simp(disch:=first|assumption|omega|(simp -implicitDefEqProofs only[Zt,Zu]<;>first|assumption|omega)|decide) only[VN,Vm,t0,t1,t4,s1,s2,s3,z0,z1,WL,Nat.reduceLeDiff,Nat.reduceSub,Nat.reduceAdd,We,YD,ZO,ZlY,ZlZ,YO,Z4,YX,WL,Qu,Qv,Qw,Qs,Qt,Qx,ZaD,U4,Row.st_size,Row.st_own,Row.st_fz,Nat.add_zero,ZjT,ZG,N8G,Zr,Zs,Zd,Ze,Zf,Nat.reducePow,Nat.reduceDiv,Nat.reduceMod,Nat.reduceEqDiff,reduceCtorEq,TB0,TB3,TB4,TB5]
  refine⟨_,rfl,?_⟩
  have e0:nI .u8 (48+v)=u8V (dig (v)):=by
   show AV.int .u8 (.ofNat _)=AV.int .u8 (.ofNat _)
   rw[Zj7 (by omega)]
  rw[e0]
  refine FB.one (fb) (by omega) ?_
  ·rw[dd 0 0 rfl];congr 1;omega
 ·have hv3:v<100:=hv2
  simp(disch:=first|assumption|omega|(simp -implicitDefEqProofs only[Zt,Zu]<;>first|assumption|omega)|decide) only[VN,Vm,t0,t1,t4,s1,s2,s3,z0,z1,WL,Nat.reduceLeDiff,Nat.reduceSub,Nat.reduceAdd,We,YD,ZO,ZlY,ZlZ,YO,Z4,YX,WL,Qu,Qv,Qw,Qs,Qt,Qx,ZaD,U4,Row.st_size,Row.st_own,Row.st_fz,Nat.add_zero,ZjT,ZG,N8G,Zr,Zs,Zd,Ze,Zf,Nat.reducePow,Nat.reduceDiv,Nat.reduceMod,Nat.reduceEqDiff,reduceCtorEq,TB0,TB3,TB4,TB5]
  refine⟨_,rfl,?_⟩
  refine FB.pair (m:=2) (fb) (by omega) rfl rfl ?_ ?_
  ·rw[dd 1 0 rfl];congr 1;omega
  ·rw[dd 0 1 rfl];congr 1;omega
 ·have hv3:v<1000:=hv2
  simp(disch:=first|assumption|omega|(simp -implicitDefEqProofs only[Zt,Zu]<;>first|assumption|omega)|decide) only[VN,Vm,t0,t1,t4,s1,s2,s3,z0,z1,WL,Nat.reduceLeDiff,Nat.reduceSub,Nat.reduceAdd,We,YD,ZO,ZlY,ZlZ,YO,Z4,YX,WL,Qu,Qv,Qw,Qs,Qt,Qx,ZaD,U4,Row.st_size,Row.st_own,Row.st_fz,Nat.add_zero,ZjT,ZG,N8G,Zr,Zs,Zd,Ze,Zf,Nat.reducePow,Nat.reduceDiv,Nat.reduceMod,Nat.reduceEqDiff,reduceCtorEq,TB0,TB3,TB4,TB5]
  refine⟨_,rfl,?_⟩
  have e0:nI .u8 (48+v/100)=u8V (dig (v/100)):=by
   show AV.int .u8 (.ofNat _)=AV.int .u8 (.ofNat _)
   rw[Zj7 (by omega)]
  rw[e0]
  refine FB.one (FB.pair (m:=3) (fb) (by omega) rfl rfl ?_ ?_) (by omega) ?_
  ·rw[dd 2 0 rfl];congr 1;omega
  ·rw[dd 1 1 rfl];congr 1;omega
  ·rw[dd 0 2 rfl];congr 1;omega
 ·have hv3:v<10000:=hv2
  simp(disch:=first|assumption|omega|(simp -implicitDefEqProofs only[Zt,Zu]<;>first|assumption|omega)|decide) only[VN,Vm,t0,t1,t4,s1,s2,s3,z0,z1,WL,Nat.reduceLeDiff,Nat.reduceSub,Nat.reduceAdd,We,YD,ZO,ZlY,ZlZ,YO,Z4,YX,WL,Qu,Qv,Qw,Qs,Qt,Qx,ZaD,U4,Row.st_size,Row.st_own,Row.st_fz,Nat.add_zero,ZjT,ZG,N8G,Zr,Zs,Zd,Ze,Zf,Nat.reducePow,Nat.reduceDiv,Nat.reduceMod,Nat.reduceEqDiff,reduceCtorEq,TB0,TB3,TB4,TB5]
  refine⟨_,rfl,?_⟩
  refine FB.pair (m:=2) (FB.pair (m:=4) (fb) (by omega) rfl rfl ?_ ?_) (by omega) rfl rfl ?_ ?_
  ·rw[dd 3 0 rfl];congr 1;omega
  ·rw[dd 2 1 rfl];congr 1;omega
  ·rw[dd 1 2 rfl];congr 1;omega
  ·rw[dd 0 3 rfl];congr 1;omega
 ·have hv3:v<100000:=hv2
  simp(disch:=first|assumption|omega|(simp -implicitDefEqProofs only[Zt,Zu]<;>first|assumption|omega)|decide) only[VN,Vm,t0,t1,t4,s1,s2,s3,z0,z1,WL,Nat.reduceLeDiff,Nat.reduceSub,Nat.reduceAdd,We,YD,ZO,ZlY,ZlZ,YO,Z4,YX,WL,Qu,Qv,Qw,Qs,Qt,Qx,ZaD,U4,Row.st_size,Row.st_own,Row.st_fz,Nat.add_zero,ZjT,ZG,N8G,Zr,Zs,Zd,Ze,Zf,Nat.reducePow,Nat.reduceDiv,Nat.reduceMod,Nat.reduceEqDiff,reduceCtorEq,TB0,TB3,TB4,TB5]
  refine⟨_,rfl,?_⟩
  have e0:nI .u8 (48+v/10000)=u8V (dig (v/10000)):=by
   show AV.int .u8 (.ofNat _)=AV.int .u8 (.ofNat _)
   rw[Zj7 (by omega)]
  rw[e0]
  refine FB.one (FB.pair (m:=3) (FB.pair (m:=5) (fb) (by omega) rfl rfl ?_ ?_) (by omega) rfl rfl ?_ ?_) (by omega) ?_
  ·rw[dd 4 0 rfl];congr 1;omega
  ·rw[dd 3 1 rfl];congr 1;omega
  ·rw[dd 2 2 rfl];congr 1;omega
  ·rw[dd 1 3 rfl];congr 1;omega
  ·rw[dd 0 4 rfl];congr 1;omega
 ·have hv3:v<1000000:=hv2
  simp(disch:=first|assumption|omega|(simp -implicitDefEqProofs only[Zt,Zu]<;>first|assumption|omega)|decide) only[VN,Vm,t0,t1,t4,s1,s2,s3,z0,z1,WL,Nat.reduceLeDiff,Nat.reduceSub,Nat.reduceAdd,We,YD,ZO,ZlY,ZlZ,YO,Z4,YX,WL,Qu,Qv,Qw,Qs,Qt,Qx,ZaD,U4,Row.st_size,Row.st_own,Row.st_fz,Nat.add_zero,ZjT,ZG,N8G,Zr,Zs,Zd,Ze,Zf,Nat.reducePow,Nat.reduceDiv,Nat.reduceMod,Nat.reduceEqDiff,reduceCtorEq,TB0,TB3,TB4,TB5]
  refine⟨_,rfl,?_⟩
  refine FB.pair (m:=2) (FB.pair (m:=4) (FB.pair (m:=6) (fb) (by omega) rfl rfl ?_ ?_) (by omega) rfl rfl ?_ ?_) (by omega) rfl rfl ?_ ?_
  ·rw[dd 5 0 rfl];congr 1;omega
  ·rw[dd 4 1 rfl];congr 1;omega
  ·rw[dd 3 2 rfl];congr 1;omega
  ·rw[dd 2 3 rfl];congr 1;omega
  ·rw[dd 1 4 rfl];congr 1;omega
  ·rw[dd 0 5 rfl];congr 1;omega
 ·have hv3:v<10000000:=hv2
  simp(disch:=first|assumption|omega|(simp -implicitDefEqProofs only[Zt,Zu]<;>first|assumption|omega)|decide) only[VN,Vm,t0,t1,t4,s1,s2,s3,z0,z1,WL,Nat.reduceLeDiff,Nat.reduceSub,Nat.reduceAdd,We,YD,ZO,ZlY,ZlZ,YO,Z4,YX,WL,Qu,Qv,Qw,Qs,Qt,Qx,ZaD,U4,Row.st_size,Row.st_own,Row.st_fz,Nat.add_zero,ZjT,ZG,N8G,Zr,Zs,Zd,Ze,Zf,Nat.reducePow,Nat.reduceDiv,Nat.reduceMod,Nat.reduceEqDiff,reduceCtorEq,TB0,TB3,TB4,TB5]
  refine⟨_,rfl,?_⟩
  have e0:nI .u8 (48+v/10000/100)=u8V (dig (v/10000/100)):=by
   show AV.int .u8 (.ofNat _)=AV.int .u8 (.ofNat _)
   rw[Zj7 (by omega)]
  rw[e0]
  refine FB.one (FB.pair (m:=3) (FB.pair (m:=5) (FB.pair (m:=7) (fb) (by omega) rfl rfl ?_ ?_) (by omega) rfl rfl ?_ ?_) (by omega) rfl rfl ?_ ?_) (by omega) ?_
  ·rw[dd 6 0 rfl];congr 1;omega
  ·rw[dd 5 1 rfl];congr 1;omega
  ·rw[dd 4 2 rfl];congr 1;omega
  ·rw[dd 3 3 rfl];congr 1;omega
  ·rw[dd 2 4 rfl];congr 1;omega
  ·rw[dd 1 5 rfl];congr 1;omega
  ·rw[dd 0 6 rfl];congr 1;omega
end
end Go.AI
namespace Go.AI
open Go
noncomputable section
theorem ZrT{n l h:Nat}(hl:l<n)(hlh:l≤h)(hh:h≤n)(b o:Nat)(k j:IntKind)(H:Heap):Zlf n 1 (.ptr b o) (some (nI k l)) (some (nI j h)) H= .val (.slice b (o+l) (h - l) (some (n - l))) H:=by
 show ZR (Nat.ble h n) (ZR (Nat.ble l h) (cond (Nat.beq l n) _ (OR.val (.slice b (o+l*1) (h - l) (some (n - l))) H)))=_
 rw[Zj hh,Zj hlh,Z3,Zc (by omega),Nat.mul_one];rfl
theorem Zp7(m:Nat):ZiH (.ofNat m)=dec m:=rfl
theorem Zp8(m:Nat):ZiH (.negSucc m)=45::dec (m+1):=by unfold ZiH;rw[if_pos (Int.negSucc_lt_zero m)];rfl
theorem ZsR(k:IntKind)(m:Nat):AV.int k (.ofNat m)=nI k m:=rfl
theorem ZrU{Zk:Lib}{fs:T CF}{fuel:Nat}(E:Env Zk fs fuel){n:Nat}{z:Int}{H:Heap}(g:Glob H)(hro:H.ro≤H.nx)(hz1: -9223372036854775808≤z)(hz2:z<9223372036854775808):
  ∃H',ZQ (LK Zk fs fuel 2) fs fuel (n+2) 90 [.int .i64 z,nI .i64 10] H= .ret (.str (ZiH z)) H'∧Keep H H' []:=by
 rw[ZV (ZL E.n90 (.inl (by decide)) _ _) E.f90]
 cases z with
 |ofNat m=>
  have hz2:m<9223372036854775808:=by simp at hz2;omega
  by_cases h:m<100
  ·have es:=fun{j}=>ZEh (Zk:=Zk) (fs:=fs) (fuel:=fuel) E (k:=2) (n:=j) (by decide) (H:=H) h
   have d0:decide (0≤m)=true:=Zh (Nat.zero_le _)
   have d1:decide (m<100)=true:=Zh h
   simp(disch:=first|assumption|omega|(simp -implicitDefEqProofs only[Zt,Zu]<;>first|assumption|omega)|decide) only[ZsR,d0,d1,es,Zj5,ZrT,Ziw,Ziv,Zo,Nat.add_sub_cancel_left,Nat.reduceSub,Yt,ZU,Zhl,Zn4,Zn5,Zlo,Zf4,Zlp,VF,U4,Row.st_size,Row.st_own,Row.st_fz,Nat.add_zero,ZW,c90,ZG,N8G,Zr,Zs,Zd,Ze,Zf,Nat.reduceEqDiff,reduceCtorEq,TB0,TB1]
   exact⟨_,rfl,Keep.refl _ _⟩
  ·skip
   obtain⟨H1,hH1⟩: ∃H1,H.new (.row ⟨193,1,24, .leaf,nI .u8 0,0,false,true,true⟩)=H1:=⟨_,rfl⟩
   have nx1:H1.nx=H.nx+1:=by rw[←hH1];rfl
   have ro1:H1.ro=H.ro:=by rw[←hH1];rfl
   have k1:Keep H H1 []:=by rw[←hH1];exact Keep.new H _ []
   have ga:H1.t.get H.nx=some (.row ⟨193,1,24, .leaf,nI .u8 0,0,false,true,true⟩):=by rw[←hH1,ZA rfl]
   have hl:=Zhw (m)
   have hl2:Za3 (m)≤20:=Zoh (by decide) (Nat.lt_trans (show m<18446744073709551616 by omega) (by decide))
   have en:=fun{j}=>ZmY (Zk:=Zk) (fs:=fs) (fuel:=fuel) E (k:=2) (n:=j) (by decide) (H:=H1) (g.keep k1 (by simp)) (d:=m) (by omega) (by omega)
   obtain⟨R,ef,fb⟩:=Zyb (Zk:=Zk) (fs:=fs) (fuel:=fuel) E (k:=2) (n:=n) (by decide) (H:=H1) (b:=H.nx) (nd:=Za3 (m)) (u:=m) (c:=some 23) ga (by omega) (by rw[ro1];exact hro) rfl rfl rfl hl2 (by omega) (ZsO _)
   have s1:=fb.size;have s2:=fb.own;have s3:=fb.fz
   have el: ∀c,ZlV (.slice H.nx 1 (Za3 m) c) (H1.put H.nx (.row R))= .val (.str (ZiH (.ofNat m))) (H1.put H.nx (.row R)):=fun c=>by
    refine Zlq (Z5 _ _ _) (by rw[Zp7,Zoi]) (by rw[s1];omega) fun i hi=>?_
    rw[fb.get,Zp7,if_pos (by omega),show 1+i - 1=i by omega];rfl
   have d0:decide (0≤m)=true:=Zh (Nat.zero_le _)
   have d1:decide (m<100)=false:=Zc h
   have d2:decide (m<0)=false:=Zc (Nat.not_lt_zero _)
   simp(disch:=first|assumption|omega|(simp -implicitDefEqProofs only[Zt,Zu]<;>first|assumption|omega)|decide) only[ZsR,d0,d1,d2,en,ef,el,hH1,nx1,ro1,s1,s2,s3,Zj5,ZrT,Ziw,Ziv,Zo,Nat.add_sub_cancel_left,Nat.reduceSub,Yt,ZU,Zhl,Zn4,Zn5,Zlo,Zf4,Zlp,VF,U4,Row.st_size,Row.st_own,Row.st_fz,Nat.add_zero,ZW,c90,ZG,N8G,Zr,Zs,Zd,Ze,Zf,Nat.reduceEqDiff,reduceCtorEq,TB0,TB1]
   exact⟨_,rfl,k1.then_put fun h=>absurd h (Nat.lt_irrefl _)⟩
 |negSucc m=>
  have hz1:m<9223372036854775808:=by omega
  obtain⟨H1,hH1⟩: ∃H1,H.new (.row ⟨193,1,24, .leaf,nI .u8 0,0,false,true,true⟩)=H1:=⟨_,rfl⟩
  have nx1:H1.nx=H.nx+1:=by rw[←hH1];rfl
  have ro1:H1.ro=H.ro:=by rw[←hH1];rfl
  have k1:Keep H H1 []:=by rw[←hH1];exact Keep.new H _ []
  have ga:H1.t.get H.nx=some (.row ⟨193,1,24, .leaf,nI .u8 0,0,false,true,true⟩):=by rw[←hH1,ZA rfl]
  have hl:=Zhw (m+1)
  have hl2:Za3 (m+1)≤20:=Zoh (by decide) (Nat.lt_trans (show m+1<18446744073709551616 by omega) (by decide))
  have en:=fun{j}=>ZmY (Zk:=Zk) (fs:=fs) (fuel:=fuel) E (k:=2) (n:=j) (by decide) (H:=H1) (g.keep k1 (by simp)) (d:=m+1) (by omega) (by omega)
  obtain⟨R,ef,fb⟩:=Zyb (Zk:=Zk) (fs:=fs) (fuel:=fuel) E (k:=2) (n:=n) (by decide) (H:=H1) (b:=H.nx) (nd:=Za3 (m+1)) (u:=m+1) (c:=some 23) ga (by omega) (by rw[ro1];exact hro) rfl rfl rfl hl2 (by omega) (ZsO _)
  have s1:=fb.size;have s2:=fb.own;have s3:=fb.fz
  have el: ∀c,ZlV (.slice H.nx 0 (1+Za3 (m+1)) c) (H1.put H.nx (.row (R.st 0 (nI .u8 45))))= .val (.str (ZiH (.negSucc m))) (H1.put H.nx (.row (R.st 0 (nI .u8 45)))):=fun c=>by
   refine Zlq (Z5 _ _ _) (by rw[Zp8,Zn,Zoi];omega) (by rw[Row.st_size,s1];omega) fun i hi=>?_
   rw[Zo,Row.st_get,fb.get,Zp8]
   by_cases h0:0=i
   ·subst h0;rw[if_pos rfl];rfl
   ·rw[if_neg h0,if_pos (by omega)]
    obtain⟨j,rfl⟩: ∃j,i=j+1:=⟨i - 1,by omega⟩
    rfl
  have e9:18446744073709551616 - (18446744073709551615 - m)=m+1:=by omega
  simp(disch:=first|assumption|omega|(simp -implicitDefEqProofs only[Zt,Zu]<;>first|assumption|omega)|decide) only[en,ef,el,hH1,e9,nx1,ro1,s1,s2,s3,Zj5,ZrT,Ziw,Ziv,Zo,Nat.add_sub_cancel_left,Nat.reduceSub,Yt,ZU,Zhl,Zn4,Zn5,Zlo,Zf4,Zlp,VF,U4,Row.st_size,Row.st_own,Row.st_fz,Nat.add_zero,ZW,c90,ZG,N8G,Zr,Zs,Zd,Ze,Zf,Nat.reduceEqDiff,reduceCtorEq,TB0,TB1]
  exact⟨_,rfl,k1.then_put fun h=>absurd h (Nat.lt_irrefl _)⟩
theorem ZCz{Zk:Lib}{fs:T CF}{fuel:Nat}(E:Env Zk fs fuel){k n:Nat}(hk:3≤k){z:Int}{H:Heap}(g:Glob H)(hro:H.ro≤H.nx)(hz1: -9223372036854775808≤z)(hz2:z<9223372036854775808):
  ZQ (LK Zk fs fuel k) fs fuel (n+1) 90 [.int .i64 z,nI .i64 10] H= .ret (.str (ZiH z)) H:=by
 obtain⟨H',e,g⟩:=ZrU E (n:=898) (H:=H) g hro hz1 hz2
 exact YI (r:=2) rfl rfl e g (rfl) hk
theorem Zol{Zk:Lib}{fs:T CF}{fuel:Nat}(E:Env Zk fs fuel){n:Nat}{z:Int}{H:Heap}(g:Glob H)(hro:H.ro≤H.nx)(hz1: -9223372036854775808≤z)(hz2:z<9223372036854775808):
  ∃H',ZQ (LK Zk fs fuel 3) fs fuel (n+2) 45 [.int .i64 z,nI .i64 10] H= .ret (.str (ZiH z)) H'∧Keep H H' []:=by
 rw[ZV (ZL E.n45 (.inl (by decide)) _ _) E.f45]
 have es:=fun{j}=>ZCz (Zk:=Zk) (fs:=fs) (fuel:=fuel) E (k:=3) (n:=j) (by decide) g hro hz1 hz2
 simp(disch:=first|assumption|omega|(simp -implicitDefEqProofs only[Zt,Zu]<;>first|assumption|omega)|decide) only[es,c45,ZG,N8G,Zr,Zs,Zd,Ze,Zf,Nat.reduceEqDiff,reduceCtorEq,TB0]
 exact⟨_,rfl,Keep.refl _ _⟩
theorem Zyc{Zk:Lib}{fs:T CF}{fuel:Nat}(E:Env Zk fs fuel){k n:Nat}(hk:4≤k){z:Int}{H:Heap}(g:Glob H)(hro:H.ro≤H.nx)(hz1: -9223372036854775808≤z)(hz2:z<9223372036854775808):
  ZQ (LK Zk fs fuel k) fs fuel (n+1) 45 [.int .i64 z,nI .i64 10] H= .ret (.str (ZiH z)) H:=by
 obtain⟨H',e,g⟩:=Zol E (n:=898) (H:=H) g hro hz1 hz2
 exact YI (r:=3) rfl rfl e g (rfl) hk
end
end Go.AI
namespace Go.AI
open Go
noncomputable section
structure PU(H1:Heap)(b:Nat)(s:List UInt8)(m:Nat)(tm:TM)(H:Heap):Prop where
 heap:H=H1
 t1:gt1 tm=nI .i64 10
 t8:gt8 tm= .bool false
 t10:Yg tm=nI .u64 1844674407370955162
 t11:Yq tm=nI .u64 18446744073709551615
 t12:Yv tm= .bool false
 t99:Zcd tm= .slice b 0 s.length none
 t100:Zce tm=nI .i64 s.length
 i: ∃i,i+m=s.length∧Zbq tm=nI .i64 i∧YB tm=nI .u64 (Zx7 (s.take i))∧Zx7 (s.take i)<18446744073709551616
end
end Go.AI
namespace Go.AI
open Go
noncomputable section
theorem Cells.all{r:Row}{l vs:List AV}(h:Cells r l)(hv:vs.length=l.length):Cells (r.setCells (Y4 r.cells 0 vs)) vs:=by
 have:=h.store (o:=0) (vs:=vs) (by omega)
 rw[List.take_zero,Zo,hv,List.drop_length,List.append_nil,List.nil_append] at this
 exact this
end
end Go.AI
namespace Go.AI
open Go
noncomputable section
structure BL(H0:Heap)(b:Nat)(s:List UInt8)(i m:Nat)(tm:TM)(H:Heap):Prop where
 t0:gt0 tm= .ptr b 0
 j: ∃j,H=H0.put b (rd s j)∧Zx9 s j=Zx9 s i∧m=s.length - j∧j≤s.length+i
end
end Go.AI
