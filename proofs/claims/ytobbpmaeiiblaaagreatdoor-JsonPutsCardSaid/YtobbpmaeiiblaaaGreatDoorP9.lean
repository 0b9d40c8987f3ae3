/- Numbers in digits, walked on any number: proved without conditions but those that each names. -/
import Derived.Test.YtobbpmaeiiblaaaGreatDoorP8
import Derived.KernelRfl
set_option maxRecDepth 1000000
set_option maxHeartbeats 0
set_option linter.unusedVariables false
set_option linter.unusedSimpArgs false
namespace Go.AI
def dig(d:Nat):UInt8:=UInt8.ofNat (48+d)
theorem Zie{d:Nat}(h:d<10):(dig d).toNat=48+d:=by
 unfold dig
 rw[UInt8.toNat_ofNat_of_lt' (show 48+d<UInt8.size by unfold UInt8.size;omega)]
def ZoH:Nat→Nat→List UInt8
 |0,_=>[]
 |k+1,n=>ZoH k (n/10)++[dig (n % 10)]
theorem Zfs: ∀k n,(ZoH k n).length=k
 |0,_=>rfl
 |k+1,n=>by show(ZoH k (n/10)++[dig (n % 10)]).length=_;rw[Zq,Zfs k];rfl
def Zx7(l:List UInt8):Nat:=l.foldl (fun n c=>10*n+(c.toNat - 48)) 0
def ZaI(n:Nat):Nat:=if n<10 then 1 else ZaI (n/10)+1
theorem ZfK{n:Nat}(h:n<10):ZaI n=1:=by rw[ZaI,if_pos h]
theorem ZfL{n:Nat}(h:10≤n):ZaI n=ZaI (n/10)+1:=by rw[ZaI,if_neg (by omega)]
theorem Zft(n:Nat):1≤ZaI n:=by
 by_cases h:n<10
 ·rw[ZfK h];exact Zk _
 ·rw[ZfL (by omega)];omega
theorem ZoI: ∀k n,10^k≤n→n<10^(k+1)→ZaI n=k+1
 |0,n,_,h=>ZfK (by simpa using h)
 |k+1,n,h1,h2=>by
  have h3:10^(k+1)=10^k*10:=Nat.pow_succ ..
  have h4:10^(k+1+1)=10^(k+1)*10:=Nat.pow_succ ..
  have h5:1≤10^k:=Nat.one_le_pow _ _ (by decide)
  rw[ZfL (by omega),ZoI k (n/10) (by omega) (by omega)]
theorem Ztj(n:Nat):n<10^ZaI n:=by
 induction n using Nat.strongRecOn with
 |ind n ih=>
  by_cases h:n<10
  ·rw[ZfK h];simpa using h
  ·rw[ZfL (by omega),Nat.pow_succ]
   have:=ih (n/10) (by omega)
   omega
theorem ZoJ{n k:Nat}(hk:1≤k)(h:n<10^k):ZaI n≤k:=by
 by_cases h0:n<10
 ·rw[ZfK h0];exact hk
 ·obtain⟨j,hj⟩: ∃j,ZaI n=j+1:=⟨ZaI n - 1,by have:=Zft n;omega⟩
  rw[hj]
  by_cases hlt:k<j+1
  ·have h1:10^j≤n:=by
    have: ∀n j,ZaI n=j+1→10≤n→10^j≤n:=by
     intro n
     induction n using Nat.strongRecOn with
     |ind n ih=>
      intro j hj hn
      rw[ZfL hn] at hj
      by_cases h2:n/10<10
      ·rw[ZfK h2] at hj
       obtain rfl:j=1:=by omega
       simpa using hn
      ·obtain⟨i,rfl⟩: ∃i,j=i+1:=⟨j - 1,by have:=Zft (n/10);omega⟩
       have:=ih (n/10) (by omega) i (by omega) (by omega)
       rw[Nat.pow_succ];omega
    exact this n j hj (by omega)
   have h2:10^k≤10^j:=Nat.pow_le_pow_right (by decide) (by omega)
   omega
  ·omega
def dec(n:Nat):List UInt8:=ZoH (ZaI n) n
theorem Zif(n:Nat):(dec n).length=ZaI n:=Zfs ..
theorem Zsn{n:Nat}(h:n<10):dec n=[dig n]:=by
 unfold dec;rw[ZfK h];show []++[dig (n % 10)]=_;rw[Z0 h];rfl
theorem Zx8{n:Nat}(h:10≤n):dec n=dec (n/10)++[dig (n % 10)]:=by
 unfold dec;rw[ZfL h];rfl
def Zep(z:Int):List UInt8:=if z<0 then 45::dec z.natAbs else dec z.natAbs
end Go.AI
namespace Go.AI
open Go
noncomputable section
def UJ:Nat→Nat
 |33=>4
 |36=>2
 |40=>7
 |42=>5
 |43=>1
 |45=>4
 |68=>5
 |70=>3
 |71=>3
 |75=>1
 |79=>3
 |80=>1
 |82=>3
 |83=>2
 |90=>3
 |107=>2
 |112=>2
 |113=>2
 |114=>2
 |117=>3
 |120=>1
 |129=>1
 |134=>5
 |135=>1
 |137=>1
 |138=>2
 |151=>1
 |155=>1
 |167=>2
 |171=>1
 |172=>1
 |173=>1
 |189=>3
 |205=>2
 |217=>1
 |219=>1
 |_=>0
def rd(s:List UInt8)(i:Nat):Obj:=rG 144 1 [.str s,nI .i64 i] 0 false true true
def ZCP(o:Option Obj):Option (List UInt8×Nat):=match o with
 |some (.row r)=>(match r.get 0,r.get 1 with| .str s, .int .i64 (.ofNat i)=>some (s,i)|_,_=>none)
 |_=>none
def ZE7(e i:Nat):AV:= .iface 141 (.agg [nI .i64 e,nI .i64 i])
def blk(c:UInt8):Bool:=c.toNat==32||c.toNat==9||c.toNat==10||c.toNat==13
def Zx9(s:List UInt8)(i:Nat):Nat:=i+((s.drop i).takeWhile blk).length
def dg(c:UInt8):Bool:=decide (48≤c.toNat)&&decide (c.toNat≤57)
def ZE8(s:List UInt8)(i:Nat):Nat:=i+((s.drop i).takeWhile dg).length
inductive NO where
 |ok (z:Int) (q:Nat)
 |bad (at_ q:Nat)
def ZAx(s:List UInt8)(i:Nat):Nat:=if (s.getD i 0).toNat=45 then i+1 else i
def ZE9(s:List UInt8)(p:Nat):Nat:=if (s.getD p 0).toNat=48 then p+1 else ZE8 s p
def ZCQ(s:List UInt8)(i:Nat):NO:=
 let p:=ZAx s i
 if dg (s.getD p 0)=false then .bad p p
 else
  let q:=ZE9 s p
  let u:=Zx7 ((s.take q).drop p)
  if p=i then(if u<9223372036854775808 then .ok u q else .bad i q) else(if u≤9223372036854775808 then .ok (-(u:Int)) q else .bad i q)
def ZCR(z:Int):AV:= .agg [nI .i64 3, .bool false, .int .i64 z, .str [], .nils, .nils]
def QR:Lib:=fun f args H=>match f,args with
 |79,[.ptr b 0]=>(ZCP (H.t.get b)).map fun x=> .ret (.tup []) (H.put b (rd x.1 (Zx9 x.1 x.2)))
 |80,[.ptr b 0]=>(ZCP (H.t.get b)).map fun x=> .pan (ZE7 5 x.2) H
 |134,[.ptr b 0]=>(ZCP (H.t.get b)).map fun x=>match ZCQ x.1 x.2 with
  | .ok z q=> .ret (ZCR z) (H.put b (rd x.1 q))
  | .bad p q=> .pan (ZE7 5 p) (H.put b (rd x.1 q))
 |_,_=>none
abbrev LK(Zm:Lib)(fs:T CF)(fuel k:Nat):Lib:=Zh9 Zm fs fuel UJ QR k
def Ztk:List UInt64:=[1,10,100,1000,10000,100000,1000000,10000000,100000000,1000000000,10000000000,100000000000,1000000000000,10000000000000,100000000000000,1000000000000000,10000000000000000,100000000000000000,1000000000000000000,10000000000000000000]
def Glob(H:Heap):Prop:=100≤H.nx∧(∃r,H.t.get 3=some (.row r)∧Cells r (Ztk.map ZzR))∧ ∃r t p,H.t.get 9=some (.row r)∧0<r.size∧r.get 0= .iface t (.ptr p 0)∧p<100
theorem Glob.keep{H H':Heap}(g:Glob H){S:List Nat}(k:Keep H H' S)(hS: ∀x∈S,100≤x):Glob H':=by
 obtain⟨h,⟨r,h1,h2⟩,e,t,p,h3,h4⟩:=g
 exact⟨Z6 h k.nx,⟨r,by rw[k.get _ (by omega) (fun h=>by have:=hS _ h;omega)];exact h1,h2⟩,e,t,p,by rw[k.get _ (by omega) (fun h=>by have:=hS _ h;omega)];exact h3,h4⟩
theorem Glob.put{H:Heap}(g:Glob H){b:Nat}(hb:100≤b)(o:Obj):Glob (H.put b o):=g.keep (S:=[b]) (Keep.put fun _=>by simp) (by simp;exact hb)
theorem Glob.new{H:Heap}(g:Glob H)(o:Obj):Glob (H.new o):=g.keep (S:=[]) (Keep.new H o _) (by simp)
structure Env(Zm:Lib)(fs:T CF)(fuel:Nat):Prop where
 big:100000≤fuel
 f5:fs.get 5=some c5
 n5: ∀l H,Zm 5 l H=none
 f28:fs.get 28=some c28
 n28: ∀l H,Zm 28 l H=none
 f29:fs.get 29=some c29
 n29: ∀l H,Zm 29 l H=none
 f30:fs.get 30=some c30
 n30: ∀l H,Zm 30 l H=none
 f31:fs.get 31=some c31
 n31: ∀l H,Zm 31 l H=none
 f32:fs.get 32=some c32
 n32: ∀l H,Zm 32 l H=none
 f33:fs.get 33=some c33
 n33: ∀l H,Zm 33 l H=none
 f34:fs.get 34=some c34
 n34: ∀l H,Zm 34 l H=none
 f36:fs.get 36=some c36
 n36: ∀l H,Zm 36 l H=none
 f37:fs.get 37=some c37
 n37: ∀l H,Zm 37 l H=none
 f38:fs.get 38=some c38
 n38: ∀l H,Zm 38 l H=none
 f40:fs.get 40=some c40
 n40: ∀l H,Zm 40 l H=none
 f41:fs.get 41=some c41
 n41: ∀l H,Zm 41 l H=none
 f43:fs.get 43=some c43
 n43: ∀l H,Zm 43 l H=none
 f45:fs.get 45=some c45
 n45: ∀l H,Zm 45 l H=none
 f66:fs.get 66=some c66
 n66: ∀l H,Zm 66 l H=none
 f67:fs.get 67=some c67
 n67: ∀l H,Zm 67 l H=none
 f68:fs.get 68=some c68
 n68: ∀l H,Zm 68 l H=none
 f69:fs.get 69=some c69
 n69: ∀l H,Zm 69 l H=none
 f70:fs.get 70=some c70
 n70: ∀l H,Zm 70 l H=none
 f71:fs.get 71=some c71
 n71: ∀l H,Zm 71 l H=none
 f72:fs.get 72=some c72
 n72: ∀l H,Zm 72 l H=none
 f73:fs.get 73=some c73
 n73: ∀l H,Zm 73 l H=none
 f75:fs.get 75=some c75
 n75: ∀l H,Zm 75 l H=none
 f76:fs.get 76=some c76
 n76: ∀l H,Zm 76 l H=none
 f77:fs.get 77=some c77
 n77: ∀l H,Zm 77 l H=none
 f78:fs.get 78=some c78
 n78: ∀l H,Zm 78 l H=none
 f79:fs.get 79=some c79
 n79: ∀l H,Zm 79 l H=none
 f80:fs.get 80=some c80
 n80: ∀l H,Zm 80 l H=none
 f83:fs.get 83=some c83
 n83: ∀l H,Zm 83 l H=none
 f88:fs.get 88=some c88
 n88: ∀l H,Zm 88 l H=none
 f90:fs.get 90=some c90
 n90: ∀l H,Zm 90 l H=none
 f92:fs.get 92=some c92
 n92: ∀l H,Zm 92 l H=none
 f107:fs.get 107=some Zvo
 n107: ∀l H,Zm 107 l H=none
 f111:fs.get 111=some ZxZ
 n111: ∀l H,Zm 111 l H=none
 f112:fs.get 112=some ZAq
 n112: ∀l H,Zm 112 l H=none
 f113:fs.get 113=some Zx0
 n113: ∀l H,Zm 113 l H=none
 f114:fs.get 114=some Zqz
 n114: ∀l H,Zm 114 l H=none
 f115:fs.get 115=some ZAr
 n115: ∀l H,Zm 115 l H=none
 f116:fs.get 116=some ZAt
 n116: ∀l H,Zm 116 l H=none
 f117:fs.get 117=some ZAu
 n117: ∀l H,Zm 117 l H=none
 f118:fs.get 118=some Zx5
 n118: ∀l H,Zm 118 l H=none
 f120:fs.get 120=some Zvm
 n120: ∀l H,Zm 120 l H=none
 f121:fs.get 121=some ZAf
 n121: ∀l H,Zm 121 l H=none
 f122:fs.get 122=some ZAl
 n122: ∀l H,Zm 122 l H=none
 f123:fs.get 123=some ZAm
 n123: ∀l H,Zm 123 l H=none
 f124:fs.get 124=some ZAg
 n124: ∀l H,Zm 124 l H=none
 f125:fs.get 125=some ZAn
 n125: ∀l H,Zm 125 l H=none
 f129:fs.get 129=some ZCF
 n129: ∀l H,Zm 129 l H=none
 f134:fs.get 134=some ZCG
 n134: ∀l H,Zm 134 l H=none
 f135:fs.get 135=some ZAv
 n135: ∀l H,Zm 135 l H=none
 f137:fs.get 137=some ZxX
 n137: ∀l H,Zm 137 l H=none
 f138:fs.get 138=some Zsk
 n138: ∀l H,Zm 138 l H=none
 f139:fs.get 139=some Zj9
 n139: ∀l H,Zm 139 l H=none
 f143:fs.get 143=some ZAp
 n143: ∀l H,Zm 143 l H=none
 f151:fs.get 151=some ZAo
 n151: ∀l H,Zm 151 l H=none
 f155:fs.get 155=some Zx1
 n155: ∀l H,Zm 155 l H=none
 f156:fs.get 156=some ZAs
 n156: ∀l H,Zm 156 l H=none
 f157:fs.get 157=some Zx4
 n157: ∀l H,Zm 157 l H=none
 f158:fs.get 158=some Zx3
 n158: ∀l H,Zm 158 l H=none
 f159:fs.get 159=some Zx6
 n159: ∀l H,Zm 159 l H=none
 f160:fs.get 160=some Zvn
 n160: ∀l H,Zm 160 l H=none
 f167:fs.get 167=some ZCH
 n167: ∀l H,Zm 167 l H=none
 f168:fs.get 168=some ZCI
 n168: ∀l H,Zm 168 l H=none
 f169:fs.get 169=some Zsm
 n169: ∀l H,Zm 169 l H=none
 f171:fs.get 171=some ZAj
 n171: ∀l H,Zm 171 l H=none
 f172:fs.get 172=some ZlO
 n172: ∀l H,Zm 172 l H=none
 f173:fs.get 173=some ZxY
 n173: ∀l H,Zm 173 l H=none
 f184:fs.get 184=some Zx2
 n184: ∀l H,Zm 184 l H=none
 f185:fs.get 185=some Zsl
 n185: ∀l H,Zm 185 l H=none
 f186:fs.get 186=some ZAw
 n186: ∀l H,Zm 186 l H=none
 f189:fs.get 189=some ZCJ
 n189: ∀l H,Zm 189 l H=none
 f190:fs.get 190=some ZCM
 n190: ∀l H,Zm 190 l H=none
 f205:fs.get 205=some ZCK
 n205: ∀l H,Zm 205 l H=none
 f207:fs.get 207=some ZCN
 n207: ∀l H,Zm 207 l H=none
 f217:fs.get 217=some ZCL
 n217: ∀l H,Zm 217 l H=none
 f219:fs.get 219=some ZCO
 n219: ∀l H,Zm 219 l H=none
 ix: ∀(s:List UInt8) (x:Nat) (H:Heap),x<256→Zm 127 [.str s,nI .u8 x] H=some (.ret (.int .i64 (ZcA x s 0)) H)
 nesc: ∀(x:AV) (H:Heap),Zm 128 [x] H=some (.ret x H)
end
end Go.AI
namespace Go.AI
open Go
noncomputable section
def Zaq(x:Nat):Nat:=if x=0 then 0 else Nat.log2 x+1
theorem ZqB: ∀x,x<256→(Zqy.getD x 0).toNat=Zaq x:=by decide
theorem ZlS{x k:Nat}(h:2^k≤x):Zaq x=k+Zaq (x/2^k):=by
 have hp:0<2^k:=Nat.two_pow_pos k
 have h1:x≠0:=by omega
 have h2:x/2^k≠0:=by
  have:=Nat.div_pos h hp;omega
 unfold Zaq
 rw[if_neg h1,if_neg h2]
 have e1:=(Nat.log2_eq_iff h2 (k:=Nat.log2 (x/2^k))).1 rfl
 have:Nat.log2 x=k+Nat.log2 (x/2^k):=by
  refine(Nat.log2_eq_iff h1).2 ⟨?_,?_⟩
  ·rw[Nat.pow_add]
   calc 2^k*2^Nat.log2 (x/2^k)≤2^k*(x/2^k):=Nat.mul_le_mul_left _ e1.1
    _≤x:=Nat.mul_div_le x _
  ·rw[Nat.add_assoc,Nat.pow_add,Nat.mul_comm]
   exact(Nat.div_lt_iff_lt_mul hp).1 e1.2
 omega
theorem ZAy{x:Nat}(h:4294967296≤x):Zaq x=32+Zaq (x/4294967296):=ZlS (k:=32) h
theorem Ztl{x:Nat}(h:65536≤x):Zaq x=16+Zaq (x/65536):=ZlS (k:=16) h
theorem ZoK{x:Nat}(h:256≤x):Zaq x=8+Zaq (x/256):=ZlS (k:=8) h
theorem ZoL{x k:Nat}(h:x<2^k):Zaq x≤k:=by
 unfold Zaq
 split
 ·omega
 ·rename_i h0
  have:=(Nat.log2_lt h0).2 h
  omega
theorem Zvp{Zm:Lib}{fs:T CF}{fuel:Nat}(E:Env Zm fs fuel){n:Nat}{x:Nat}{H:Heap}(hx:x<18446744073709551616):
  ∃H',ZR (LK Zm fs fuel 0) fs fuel (n+2) 172 [nI .u64 x] H= .ret (nI .i64 (Zaq x)) H'∧Keep H H' []:=by
 rw[ZV (ZN E.n172 (.inl (by decide)) _ _) E.f172]
 have hl:Zqy.length=256:=by decide
 have tab: ∀y,y<256→Zqy.getD (y % 256) 0=UInt8.ofNat (Zaq y):=fun y hy=>by
  rw[Z0 hy,←ZqB y hy];simp
 have tb: ∀y,y<256→(Zqy.getD (y % 256) 0).toNat=Zaq y:=fun y hy=>by rw[Z0 hy,ZqB y hy]
 have bl: ∀y,Zaq (y % 256)≤8:=fun y=>ZoL (k:=8) (Vh _ (by decide))
 by_cases h1:4294967296≤x
 ·have d1:decide (4294967296≤x)=true:=Zh h1
  rw[ZAy h1]
  generalize hy:x/4294967296=y
  have hy2:y<4294967296:=by omega
  by_cases h2:65536≤y
  ·have d2:decide (65536≤y)=true:=Zh h2
   rw[Ztl h2]
   generalize hz:y/65536=z
   have hz2:z<65536:=by omega
   by_cases h3:256≤z
   ·have d3:decide (256≤z)=true:=Zh h3
    rw[ZoK h3]
    generalize hw:z/256=w
    have hw2:w<256:=by omega
    have hm:=Z0 hw2
    have hb:=bl w
    rw[hm] at hb
    have hb2:=tb w hw2
    rw[hm] at hb2
    simp(disch:=first|omega|decide) only[Y2,Zak,ZcD,QM,ZaF,Yw,Nat.reducePow,d1,hy,d2,hz,d3,hw,hm,hb2,ZlO,ZC,N8G,Zr,Zs,Zd,Ze,Zf,Nat.reducePow,Nat.reduceDiv,Nat.reduceMod,Nat.reduceEqDiff,reduceCtorEq,TB0]
    exact⟨_,by first|rfl|simp only[Nat.add_assoc],Keep.refl _ _⟩
   ·have d3:decide (256≤z)=false:=Zc h3
    have hw2:z<256:=by omega
    have hm:=Z0 hw2
    have hb:=bl z
    rw[hm] at hb
    have hb2:=tb z hw2
    rw[hm] at hb2
    simp(disch:=first|omega|decide) only[Y2,Zak,ZcD,QM,ZaF,Yw,Nat.reducePow,d1,hy,d2,hz,d3,hm,hb2,ZlO,ZC,N8G,Zr,Zs,Zd,Ze,Zf,Nat.reducePow,Nat.reduceDiv,Nat.reduceMod,Nat.reduceEqDiff,reduceCtorEq,TB0]
    exact⟨_,by first|rfl|simp only[Nat.add_assoc],Keep.refl _ _⟩
  ·have d2:decide (65536≤y)=false:=Zc h2
   have hz2:y<65536:=by omega
   by_cases h3:256≤y
   ·have d3:decide (256≤y)=true:=Zh h3
    rw[ZoK h3]
    generalize hw:y/256=w
    have hw2:w<256:=by omega
    have hm:=Z0 hw2
    have hb:=bl w
    rw[hm] at hb
    have hb2:=tb w hw2
    rw[hm] at hb2
    simp(disch:=first|omega|decide) only[Y2,Zak,ZcD,QM,ZaF,Yw,Nat.reducePow,d1,hy,d2,d3,hw,hm,hb2,ZlO,ZC,N8G,Zr,Zs,Zd,Ze,Zf,Nat.reducePow,Nat.reduceDiv,Nat.reduceMod,Nat.reduceEqDiff,reduceCtorEq,TB0]
    exact⟨_,by first|rfl|simp only[Nat.add_assoc],Keep.refl _ _⟩
   ·have d3:decide (256≤y)=false:=Zc h3
    have hw2:y<256:=by omega
    have hm:=Z0 hw2
    have hb:=bl y
    rw[hm] at hb
    have hb2:=tb y hw2
    rw[hm] at hb2
    simp(disch:=first|omega|decide) only[Y2,Zak,ZcD,QM,ZaF,Yw,Nat.reducePow,d1,hy,d2,d3,hm,hb2,ZlO,ZC,N8G,Zr,Zs,Zd,Ze,Zf,Nat.reducePow,Nat.reduceDiv,Nat.reduceMod,Nat.reduceEqDiff,reduceCtorEq,TB0]
    exact⟨_,by first|rfl|simp only[Nat.add_assoc],Keep.refl _ _⟩
 ·have d1:decide (4294967296≤x)=false:=Zc h1
  have hy2:x<4294967296:=by omega
  by_cases h2:65536≤x
  ·have d2:decide (65536≤x)=true:=Zh h2
   rw[Ztl h2]
   generalize hz:x/65536=z
   have hz2:z<65536:=by omega
   by_cases h3:256≤z
   ·have d3:decide (256≤z)=true:=Zh h3
    rw[ZoK h3]
    generalize hw:z/256=w
    have hw2:w<256:=by omega
    have hm:=Z0 hw2
    have hb:=bl w
    rw[hm] at hb
    have hb2:=tb w hw2
    rw[hm] at hb2
    simp(disch:=first|omega|decide) only[Y2,Zak,ZcD,QM,ZaF,Yw,Nat.reducePow,d1,d2,hz,d3,hw,hm,hb2,ZlO,ZC,N8G,Zr,Zs,Zd,Ze,Zf,Nat.reducePow,Nat.reduceDiv,Nat.reduceMod,Nat.reduceEqDiff,reduceCtorEq,TB0]
    exact⟨_,by first|rfl|simp only[Nat.add_assoc],Keep.refl _ _⟩
   ·have d3:decide (256≤z)=false:=Zc h3
    have hw2:z<256:=by omega
    have hm:=Z0 hw2
    have hb:=bl z
    rw[hm] at hb
    have hb2:=tb z hw2
    rw[hm] at hb2
    simp(disch:=first|omega|decide) only[Y2,Zak,ZcD,QM,ZaF,Yw,Nat.reducePow,d1,d2,hz,d3,hm,hb2,ZlO,ZC,N8G,Zr,Zs,Zd,Ze,Zf,Nat.reducePow,Nat.reduceDiv,Nat.reduceMod,Nat.reduceEqDiff,reduceCtorEq,TB0]
    exact⟨_,by first|rfl|simp only[Nat.add_assoc],Keep.refl _ _⟩
  ·have d2:decide (65536≤x)=false:=Zc h2
   have hz2:x<65536:=by omega
   by_cases h3:256≤x
   ·have d3:decide (256≤x)=true:=Zh h3
    rw[ZoK h3]
    generalize hw:x/256=w
    have hw2:w<256:=by omega
    have hm:=Z0 hw2
    have hb:=bl w
    rw[hm] at hb
    have hb2:=tb w hw2
    rw[hm] at hb2
    simp(disch:=first|omega|decide) only[Y2,Zak,ZcD,QM,ZaF,Yw,Nat.reducePow,d1,d2,d3,hw,hm,hb2,ZlO,ZC,N8G,Zr,Zs,Zd,Ze,Zf,Nat.reducePow,Nat.reduceDiv,Nat.reduceMod,Nat.reduceEqDiff,reduceCtorEq,TB0]
    exact⟨_,by first|rfl|simp only[Nat.add_assoc],Keep.refl _ _⟩
   ·have d3:decide (256≤x)=false:=Zc h3
    have hw2:x<256:=by omega
    have hm:=Z0 hw2
    have hb:=bl x
    rw[hm] at hb
    have hb2:=tb x hw2
    rw[hm] at hb2
    simp(disch:=first|omega|decide) only[Y2,Zak,ZcD,QM,ZaF,Yw,Nat.reducePow,d1,d2,d3,hm,hb2,ZlO,ZC,N8G,Zr,Zs,Zd,Ze,Zf,Nat.reducePow,Nat.reduceDiv,Nat.reduceMod,Nat.reduceEqDiff,reduceCtorEq,TB0]
    exact⟨_,by first|rfl|simp only[Nat.add_assoc],Keep.refl _ _⟩
theorem ZBI{Zm:Lib}{fs:T CF}{fuel:Nat}(E:Env Zm fs fuel){k n:Nat}(hk:1≤k){x:Nat}{H:Heap}(hx:x<18446744073709551616):
  ZR (LK Zm fs fuel k) fs fuel (n+1) 172 [nI .u64 x] H= .ret (nI .i64 (Zaq x)) H:=by
 obtain⟨H',e,g⟩:=Zvp E (n:=898) (H:=H) hx
 exact Y6 (r:=0) rfl rfl e g (rfl) hk
theorem Zso{Zm:Lib}{fs:T CF}{fuel:Nat}(E:Env Zm fs fuel){n:Nat}{x:Nat}{H:Heap}(hx:x≤64):
  ∃H',ZR (LK Zm fs fuel 0) fs fuel (n+2) 171 [nI .i64 x] H= .ret (nI .i64 (x*78913/262144)) H'∧Keep H H' []:=by
 rw[ZV (ZN E.n171 (.inl (by decide)) _ _) E.f171]
 simp(disch:=first|omega|decide) only[Zlu,Zu1,Nat.reducePow,ZAj,ZC,N8G,Zr,Zs,Zd,Ze,Zf,Nat.reducePow,Nat.reduceDiv,Nat.reduceMod,Nat.reduceEqDiff,reduceCtorEq,TB0]
 exact⟨_,rfl,Keep.refl _ _⟩
theorem ZCS{Zm:Lib}{fs:T CF}{fuel:Nat}(E:Env Zm fs fuel){k n:Nat}(hk:1≤k){x:Nat}{H:Heap}(hx:x≤64):
  ZR (LK Zm fs fuel k) fs fuel (n+1) 171 [nI .i64 x] H= .ret (nI .i64 (x*78913/262144)) H:=by
 obtain⟨H',e,g⟩:=Zso E (n:=898) (H:=H) hx
 exact Y6 (r:=0) rfl rfl e g (rfl) hk
theorem Zvq{Zm:Lib}{fs:T CF}{fuel:Nat}(E:Env Zm fs fuel){n:Nat}{b:Bool}{H:Heap}:
  ∃H',ZR (LK Zm fs fuel 0) fs fuel (n+2) 173 [.bool b] H= .ret (nI .i64 (if b then 1 else 0)) H'∧Keep H H' []:=by
 rw[ZV (ZN E.n173 (.inl (by decide)) _ _) E.f173]
 cases b
 ·simp(disch:=first|omega|decide) only[ZxY,ZC,N8G,Zr,Zs,Zd,Ze,Zf,Nat.reduceEqDiff,reduceCtorEq,TB0]
  exact⟨_,rfl,Keep.refl _ _⟩
 ·simp(disch:=first|omega|decide) only[ZxY,ZC,N8G,Zr,Zs,Zd,Ze,Zf,Nat.reduceEqDiff,reduceCtorEq,TB0]
  exact⟨_,rfl,Keep.refl _ _⟩
theorem ZFa{Zm:Lib}{fs:T CF}{fuel:Nat}(E:Env Zm fs fuel){k n:Nat}(hk:1≤k){b:Bool}{H:Heap}:
  ZR (LK Zm fs fuel k) fs fuel (n+1) 173 [.bool b] H= .ret (nI .i64 (if b then 1 else 0)) H:=by
 obtain⟨H',e,g⟩:=Zvq E (n:=898) (H:=H)
 exact Y6 (r:=0) rfl rfl e g (rfl) hk
theorem Zvr: ∀x,x<100→(if x<10 then(Zti.take (x+1)).drop x else(Qz.take (x*2+2)).drop (x*2))=dec x:=by
 intro x hx
 by_cases h:x<10
 ·rw[if_pos h,Zsn h]
  have: ∀x,x<10→(Zti.take (x+1)).drop x=[dig x]:=by decide
  exact this x h
 ·rw[if_neg h,Zx8 (by omega),Zsn (by omega)]
  have: ∀x,x<100→(Qz.take (x*2+2)).drop (x*2)=[dig (x/10)]++[dig (x % 10)]:=by decide
  exact this x hx
theorem Zvs{Zm:Lib}{fs:T CF}{fuel:Nat}(E:Env Zm fs fuel){n:Nat}{x:Nat}{H:Heap}(hx:x<100):
  ∃H',ZR (LK Zm fs fuel 0) fs fuel (n+2) 137 [nI .i64 x] H= .ret (.str (dec x)) H'∧Keep H H' []:=by
 rw[ZV (ZN E.n137 (.inl (by decide)) _ _) E.f137]
 have l1:Zti.length=36:=by decide
 have l2:Qz.length=200:=by decide
 have st:=Zvr x hx
 by_cases h:x<10
 ·have d:decide (x<10)=true:=Zh h
  rw[if_pos h] at st
  simp(disch:=first|omega|decide) only[ZI,Yw,Zlu,Zi7,d,st,ZxX,ZC,N8G,Zr,Zs,Zd,Ze,Zf,Nat.reducePow,Nat.reduceDiv,Nat.reduceMod,Nat.reduceEqDiff,reduceCtorEq,TB0]
  exact⟨_,rfl,Keep.refl _ _⟩
 ·have d:decide (x<10)=false:=Zc h
  rw[if_neg h] at st
  simp(disch:=first|omega|decide) only[ZI,Yw,Zlu,Zi7,d,st,ZxX,ZC,N8G,Zr,Zs,Zd,Ze,Zf,Nat.reducePow,Nat.reduceDiv,Nat.reduceMod,Nat.reduceEqDiff,reduceCtorEq,TB0]
  exact⟨_,rfl,Keep.refl _ _⟩
theorem ZFb{Zm:Lib}{fs:T CF}{fuel:Nat}(E:Env Zm fs fuel){k n:Nat}(hk:1≤k){x:Nat}{H:Heap}(hx:x<100):
  ZR (LK Zm fs fuel k) fs fuel (n+1) 137 [nI .i64 x] H= .ret (.str (dec x)) H:=by
 obtain⟨H',e,g⟩:=Zvs E (n:=898) (H:=H) hx
 exact Y6 (r:=0) rfl rfl e g (rfl) hk
def ndF(d:Nat):Nat:=Zaq d*78913/262144
theorem ZG6: ∀L,L<65→1≤L→(L*78913/262144≤19∧10^(L*78913/262144)≤2^(L - 1)*10∧2^L≤10^(L*78913/262144+1)∧(L*78913/262144=0∨10^(L*78913/262144 - 1)≤2^(L - 1))):=by decide
theorem ZFc{d:Nat}(h0:d≠0)(h:d<18446744073709551616):ndF d≤19∧ZaI d=ndF d+(if 10^ndF d≤d then 1 else 0):=by
 have hb:Zaq d=Nat.log2 d+1:=by unfold Zaq;rw[if_neg h0]
 have e1:=(Nat.log2_eq_iff h0 (k:=Nat.log2 d)).1 rfl
 have hL:Zaq d≤64:=ZoL (k:=64) h
 obtain⟨p0,p1,p2,p3⟩:=ZG6 (Zaq d) (by omega) (by omega)
 have g:Zaq d - 1=Nat.log2 d:=by omega
 rw[g] at p1 p3
 have p2':d<10^(ndF d+1):=ZF (by rw[hb];exact e1.2) p2
 refine⟨p0,?_⟩
 by_cases hc:10^ndF d≤d
 ·rw[if_pos hc]
  exact ZoI _ _ hc p2'
 ·rw[if_neg hc]
  rcases p3 with p3|p3
  ·have:ndF d=0:=p3
   rw[this] at hc
   simp at hc;omega
  ·by_cases hz:ndF d=0
   ·rw[hz] at hc;simp at hc;omega
   ·have:ZaI d=(ndF d - 1)+1:=ZoI _ _ (Z6 p3 e1.1) (by rw[show ndF d - 1+1=ndF d by omega];omega)
    omega
theorem ZAz: ∀i,i<20→(Ztk.getD i 0).toNat=10^i:=by decide
theorem Zmb{Zm:Lib}{fs:T CF}{fuel:Nat}(E:Env Zm fs fuel){n:Nat}{d:Nat}{H:Heap}(g:Glob H)(h0:d≠0)(hd:d<18446744073709551616):
  ∃H',ZR (LK Zm fs fuel 1) fs fuel (n+2) 138 [nI .u64 d] H= .ret (nI .i64 (ZaI d)) H'∧Keep H H' []:=by
 rw[ZV (ZN E.n138 (.inl (by decide)) _ _) E.f138]
 obtain⟨g0,⟨r,gr,gc⟩,_⟩:=g
 obtain⟨p1,p2⟩:=ZFc h0 hd
 have hbl:Zaq d≤64:=ZoL (k:=64) hd
 have e1:=fun{k m} (hk:1≤k)=>ZBI (Zm:=Zm) (fs:=fs) (fuel:=fuel) E (k:=k) (n:=m) hk (H:=H) hd
 have e2:=fun{k m} (hk:1≤k)=>ZCS (Zm:=Zm) (fs:=fs) (fuel:=fuel) E (k:=k) (n:=m) hk (H:=H) hbl
 have e3:=fun{k m} (hk:1≤k) (b)=>ZFa (Zm:=Zm) (fs:=fs) (fuel:=fuel) E (k:=k) (n:=m) hk (b:=b) (H:=H)
 have ld:ZiZ (.ptr 3 (ndF d)) H= .val (nI .u64 (10^ndF d)) H:=by
  rw[ZrF gr gc (by rw[ZA];show _<20;omega),Zj,YT]
  have:=ZAz (ndF d) (by omega)
  rw[Zj] at this
  rw[Zp (show ndF d<Ztk.length by show _<20;omega)] at this ⊢
  show OR.val (ZzR _) H=_
  unfold ZzR nI
  rw[←this];rfl
 unfold ndF at ld p1 p2
 simp(disch:=first|omega|decide) only[e1,e2,e3,Zfi,Uh,Y2,Yw,Zi,Zsk,ZC,N8G,Zr,Zs,Zd,Ze,Zf,Nat.reduceEqDiff,reduceCtorEq,TB0]
 rw[Znp] at ld
 simp(disch:=first|omega|decide) only[ld,e3,Zfi,Y2,Zsk,ZC,N8G,Zr,Zs,Zd,Ze,Zf,Nat.reduceEqDiff,reduceCtorEq,TB0]
 by_cases hc:10^(Zaq d*78913/262144)≤d
 ·rw[if_pos hc] at p2
  have dc:decide (10^(Zaq d*78913/262144)≤d)=true:=Zh hc
  simp(disch:=first|omega|decide) only[dc,e3,Zfi,if_true,Yw,Zsk,ZC,N8G,Zr,Zs,Zd,Ze,Zf,Nat.reduceEqDiff,reduceCtorEq,TB0]
  exact⟨_,by rw[p2],Keep.refl _ _⟩
 ·rw[if_neg hc] at p2
  have dc:decide (10^(Zaq d*78913/262144)≤d)=false:=Zc hc
  simp(disch:=first|omega|decide) only[dc,e3,Zfi,Bool.false_eq_true,if_false,Yw,Zsk,ZC,N8G,Zr,Zs,Zd,Ze,Zf,Nat.reduceEqDiff,reduceCtorEq,TB0]
  exact⟨_,by rw[p2],Keep.refl _ _⟩
theorem Zny{Zm:Lib}{fs:T CF}{fuel:Nat}(E:Env Zm fs fuel){k n:Nat}(hk:2≤k){d:Nat}{H:Heap}(g:Glob H)(h0:d≠0)(hd:d<18446744073709551616):
  ZR (LK Zm fs fuel k) fs fuel (n+1) 138 [nI .u64 d] H= .ret (nI .i64 (ZaI d)) H:=by
 obtain⟨H',e,g⟩:=Zmb E (n:=898) (H:=H) g h0 hd
 exact Y6 (r:=1) rfl rfl e g (rfl) hk
end
end Go.AI
namespace Go.AI
open Go
noncomputable section
namespace T
variable {α:Type}
theorem setB_same(x:α): ∀(t:T α) (bs:List Bool),t.getB bs=some x→setB x t bs=t
 |leaf,bs,h=>by cases h
 |node l v r,[],h=>by
  have h:v=some x:=h
  subst h;rfl
 |node l v r,true::bs,h=>by rw[Zi4,setB_same x l bs h]
 |node l v r,false::bs,h=>by rw[Zi5,setB_same x r bs h]
end T
theorem Zig{H:Heap}{b:Nat}{o:Obj}(h:H.t.get b=some o):H.put b o=H:=by
 unfold Heap.put T.set
 rw[T.setB_same o H.t (bits b) h]
theorem ZqC: ∀k n i,i<k→(ZoH k n).getD i 0=dig (n/10^(k - 1 - i) % 10)
 |0,_,_,h=>by omega
 |k+1,n,i,h=>by
  show(ZoH k (n/10)++[dig (n % 10)]).getD i 0=_
  rw[Zj]
  by_cases hi:i<k
  ·rw[Ym (by rw[Zfs];exact hi),←Zj,ZqC k (n/10) i hi,Nat.div_div_eq_div_mul]
   congr 3
   rw[show k+1 - 1 - i=(k - 1 - i)+1 by omega,Nat.pow_succ,Nat.mul_comm]
  ·obtain rfl:i=k:=by omega
   rw[List.getElem?_append_right (by rw[Zfs];exact Zk _),Zfs,UO,show i+1 - 1 - i=0 by omega,Nat.pow_zero,Nat.div_one];rfl
theorem Zya:Qz.length=200:=by decide
theorem ZG7: ∀x,x<100→Qz.getD (x*2) 0=dig (x/10):=by decide
theorem ZG8: ∀x,x<100→Qz.getD (x*2+1) 0=dig (x % 10):=by decide
theorem Zmc{x:Nat}(hx:x<100)(H:Heap):ZdB (.str Qz) (nI .u32 (x*2)) H= .val (u8V (dig (x/10))) H:=by rw[ZgX (by rw[Zya];omega),ZG7 x hx]
theorem Zmd{x:Nat}(hx:x<100)(H:Heap):ZdB (.str Qz) (nI .u32 (x*2+1)) H= .val (u8V (dig (x % 10))) H:=by rw[ZgX (by rw[Zya];omega),ZG8 x hx]
structure FB(r R:Row)(nd m:Nat)(ds:List UInt8):Prop where
 size:R.size=24
 own:R.own=true
 fz:R.fz=0
 get: ∀i,R.get i=if 1+m≤i∧i<1+nd then u8V (ds.getD (i - 1) 0) else r.get i
theorem FB.pair{r R:Row}{nd m p q d1 d2:Nat}{ds:List UInt8}(h:FB r R nd m ds)(hm:m≤nd)(hp:p+1=m)(hq:q+2=m)(h1:ds.getD p 0=dig d1)(h2:ds.getD q 0=dig d2):
  FB r ((R.st (1+p) (u8V (dig d1))).st (1+q) (u8V (dig d2))) nd q ds:=by
 refine⟨h.size,h.own,h.fz,fun i=>?_⟩
 rw[Row.st_get,Row.st_get,h.get]
 by_cases e2:1+q=i
 ·rw[if_pos e2,if_pos (by omega),←h2,show i - 1=q by omega]
 ·rw[if_neg e2]
  by_cases e1:1+p=i
  ·rw[if_pos e1,if_pos (by omega),←h1,show i - 1=p by omega]
  ·rw[if_neg e1]
   by_cases e:1+m≤i∧i<1+nd
   ·rw[if_pos e,if_pos (by omega)]
   ·rw[if_neg e,if_neg (by omega)]
theorem FB.one{r R:Row}{nd d:Nat}{ds:List UInt8}(h:FB r R nd 1 ds)(hm:1≤nd)(h1:ds.getD 0 0=dig d):FB r (R.st 1 (u8V (dig d))) nd 0 ds:=by
 refine⟨h.size,h.own,h.fz,fun i=>?_⟩
 rw[Row.st_get,h.get]
 by_cases e1:1=i
 ·rw[if_pos e1,if_pos (by omega),←h1,show i - 1=0 by omega]
 ·rw[if_neg e1]
  by_cases e:1+1≤i∧i<1+nd
  ·rw[if_pos e,if_pos (by omega)]
  ·rw[if_neg e,if_neg (by omega)]
theorem ZBJ{nd m u j p:Nat}(hm:m≤nd)(hp:p+1+j=m):(ZoH nd u).getD p 0=dig (u/10^(nd - m)/10^j % 10):=by
 rw[ZqC nd u p (by omega),Nat.div_div_eq_div_mul,←Nat.pow_add]
 congr 3;congr 1;omega
structure FL(H0:Heap)(b nd u:Nat)(c:Option Nat)(r:Row)(m:Nat)(tm:TM)(H:Heap):Prop where
 t0:gt0 tm= .slice b 1 nd c
 t1:gt1 tm=nI .u64 (u/10^(nd - m))
 t4:gt4 tm=nI .i64 m
 le:m≤nd
 heap: ∃R,H=H0.put b (.row R)∧FB r R nd m (ZoH nd u)
theorem ZAA{H0:Heap}{b nd u:Nat}{c:Option Nat}{r:Row}(hb:b<H0.nx)(hro:H0.ro≤b)(hnd:nd≤20)(hu:u<18446744073709551616)(cx:Ctx)(x:X)(m:Nat)(tm:TM)(H:Heap)(h:FL H0 b nd u c r m tm H):
  ∃o tm' H',ZdK cx tm H x= .ok o tm' H' x∧((o= .normal∧ ∃k,k<m∧FL H0 b nd u c r k tm' H')∨(o≠ .normal∧o= .exit 0∧m<8∧FL H0 b nd u c r m tm' H')):=by
 have t0:=h.t0;have t1:=h.t1;have t4:=h.t4;have hle:=h.le
 simp only[Zck,ZbE,Zj7] at t0 t1 t4
 obtain⟨R,rfl,fb⟩:=h.heap
 generalize hv:u/10^(nd - m)=v at t1
 have hv2:v<18446744073709551616:=by rw[←hv];exact UZ (Nat.div_le_self ..) hu
 have s1:=fb.size;have s2:=fb.own;have s3:=fb.fz
 by_cases h8:8≤m
 ·have d1:decide (8≤m)=true:=Zh h8
  simp(disch:=first|assumption|omega|(simp -implicitDefEqProofs only[Zu,Zv]<;>first|assumption|omega)|decide) only[ZdK,t0,t1,t4,d1,s1,s2,s3,Wz,YP,ZL,Zmc,Zmd,Y2,ZU,YO,Vg,Q2,Q3,Q4,Qx,Qy,Q5,ZaG,QN,Row.st_size,Row.st_own,Row.st_fz,Zt,ZdK,ZC,N8G,Zr,Zs,Zd,Ze,Zf,Nat.reducePow,Nat.reduceDiv,Nat.reduceMod,Nat.reduceEqDiff,reduceCtorEq,TB0,TB1,TB2]
  refine⟨_,_,_,rfl, .inl ⟨rfl,m - 8,by omega,t0,?_,rfl,by omega,_,rfl,?_⟩⟩
  ·show nI .u64 (v/100000000)=_
   rw[←hv,Nat.div_div_eq_div_mul,show(100000000:Nat)=10^8 from rfl,←Nat.pow_add,show nd - m+8=nd - (m - 8) by omega]
  ·have dd:=fun(p j:Nat) (hp:p+1+j=m)=>ZBJ (u:=u) hle hp
   rw[hv] at dd
   refine FB.pair (m:=m - 6) (FB.pair (m:=m - 4) (FB.pair (m:=m - 2) (FB.pair fb hle (by omega) (by omega) ?_ ?_) (by omega) (by omega) (by omega) ?_ ?_) (by omega) (by omega) (by omega) ?_ ?_) (by omega) (by omega) (by omega) ?_ ?_
   ·rw[dd (m - 1) 0 (by omega)];congr 1;omega
   ·rw[dd (m - 2) 1 (by omega)];congr 1;omega
   ·rw[dd (m - 3) 2 (by omega)];congr 1;omega
   ·rw[dd (m - 4) 3 (by omega)];congr 1;omega
   ·rw[dd (m - 5) 4 (by omega)];congr 1;omega
   ·rw[dd (m - 6) 5 (by omega)];congr 1;omega
   ·rw[dd (m - 7) 6 (by omega)];congr 1;omega
   ·rw[dd (m - 8) 7 (by omega)];congr 1;omega
 ·have d1:decide (8≤m)=false:=Zc h8
  simp(disch:=first|assumption|omega|(simp -implicitDefEqProofs only[Zu,Zv]<;>first|assumption|omega)|decide) only[ZdK,t0,t1,t4,d1,Wz,YP,ZL,Zmc,Zmd,Y2,ZU,YO,Vg,Q2,Q3,Q4,Qx,Qy,Q5,ZaG,QN,Row.st_size,Row.st_own,Row.st_fz,Zt,ZdK,ZC,N8G,Zr,Zs,Zd,Ze,Zf,Nat.reducePow,Nat.reduceDiv,Nat.reduceMod,Nat.reduceEqDiff,reduceCtorEq,TB0,TB1,TB2]
  exact⟨_,_,_,rfl, .inr ⟨by simp,rfl,by omega,t0,by rw[hv];exact t1,t4,hle,_,rfl,fb⟩⟩
theorem Zyb{Zm:Lib}{fs:T CF}{fuel:Nat}(E:Env Zm fs fuel){k n:Nat}(hk:k<3){H:Heap}{b nd u:Nat}{c:Option Nat}{r:Row}(hr:H.t.get b=some (.row r))(hb:b<H.nx)(hro:H.ro≤b)(hs:r.size=24)(how:r.own=true)(hfz:r.fz=0)(hnd:nd≤20)(hu:u<18446744073709551616)(hud:u<10^nd):
  ∃R,ZR (LK Zm fs fuel k) fs fuel (n+1) 139 [.slice b 1 nd c,nI .u64 u] H= .ret (.tup []) (H.put b (.row R))∧FB r R nd 0 (ZoH nd u):=by
 have nn:Zh9 Zm fs fuel UJ QR k 139 [.slice b 1 nd c,nI .u64 u] H=none:=ZN E.n139 (.inr rfl) _ _
 rw[ZV nn E.f139]
 simp(disch:=first|assumption|omega|(simp -implicitDefEqProofs only[Zu,Zv]<;>first|assumption|omega)|decide) only[Zj9,ZC,N8G,Zr,Zs,Zd,Ze,Zf,Nat.reducePow,Nat.reduceDiv,Nat.reduceMod,Nat.reduceEqDiff,reduceCtorEq,TB0,TB3,TB4,TB5]
 generalize hL:WI (ZdK _) fuel _ _ _=L
 obtain⟨o,tm1,H1,rfl,_,rfl,h8,z⟩:=YC (P:=fun T=>FL H b nd u c r nd T H) (Q:=fun o tm H'=>o= .exit 0∧ ∃m,m<8∧FL H b nd u c r m tm H')
  (fun T hi=>YE (FL H b nd u c r) (fun o tm H'=>o= .exit 0∧ ∃m,m<8∧FL H b nd u c r m tm H')
   (fun m tm H' h=>by
    obtain⟨o,tm',H2,e,h⟩:=ZAA hb hro hnd hu _ _ m tm H' h
    refine⟨o,tm',H2,e,?_⟩
    rcases h with h|⟨h1,h2,h3,h4⟩
    ·exact .inl h
    ·exact .inr ⟨h1,h2,m,h3,h4⟩) fuel nd T H (by have:=E.big;omega) hi) hL
  ⟨rfl,by rw[UO,Nat.pow_zero,Nat.div_one];rfl,rfl,Zk _,r,(Zig hr).symm,hs,how,hfz,fun i=>by rw[if_neg (by omega)]⟩
 obtain⟨z8,z⟩:=z
 have t0:=z.t0;have t1:=z.t1;have t4:=z.t4;have hle:=z.le
 simp only[Zck,ZbE,Zj7] at t0 t1 t4
 obtain⟨R,rfl,fb⟩:=z.heap
 have dd:=fun(p j:Nat) (hp:p+1+j=h8)=>ZBJ (u:=u) hle hp
 have hv2:u/10^(nd - h8)<10^h8:=by
  rw[Nat.div_lt_iff_lt_mul (Nat.pow_pos (by decide)),←Nat.pow_add,show h8+(nd - h8)=nd by omega];exact hud
 generalize hv:u/10^(nd - h8)=v at t1 dd hv2
 have s1:=fb.size;have s2:=fb.own;have s3:=fb.fz
 have z0:decide (0<0)=false:=rfl
 have z1:decide (0<1)=true:=rfl
 have hm:h8=0∨h8=1∨h8=2∨h8=3∨h8=4∨h8=5∨h8=6∨h8=7:=by omega
 rcases hm with rfl|rfl|rfl|rfl|rfl|rfl|rfl|rfl
 ·have hv3:v<1:=hv2
  simp(disch:=first|assumption|omega|(simp -implicitDefEqProofs only[Zu,Zv]<;>first|assumption|omega)|decide) only[Un,VV,t0,t1,t4,s1,s2,s3,z0,z1,Vg,Nat.reduceLeDiff,Nat.reduceSub,Nat.reduceAdd,Wz,YP,ZL,Zmc,Zmd,Y2,ZU,YO,Vg,Q2,Q3,Q4,Qx,Qy,Q5,ZaG,QN,Row.st_size,Row.st_own,Row.st_fz,Zt,Zj9,ZC,N8G,Zr,Zs,Zd,Ze,Zf,Nat.reducePow,Nat.reduceDiv,Nat.reduceMod,Nat.reduceEqDiff,reduceCtorEq,TB0,TB3,TB4,TB5]
  refine⟨_,rfl,?_⟩
  exact fb
 ·have hv3:v<10:=hv2
  simp(disch:=first|assumption|omega|(simp -implicitDefEqProofs only[Zu,Zv]<;>first|assumption|omega)|decide) only[Un,VV,t0,t1,t4,s1,s2,s3,z0,z1,Vg,Nat.reduceLeDiff,Nat.reduceSub,Nat.reduceAdd,Wz,YP,ZL,Zmc,Zmd,Y2,ZU,YO,Vg,Q2,Q3,Q4,Qx,Qy,Q5,ZaG,QN,Row.st_size,Row.st_own,Row.st_fz,Zt,Zj9,ZC,N8G,Zr,Zs,Zd,Ze,Zf,Nat.reducePow,Nat.reduceDiv,Nat.reduceMod,Nat.reduceEqDiff,reduceCtorEq,TB0,TB3,TB4,TB5]
  refine⟨_,rfl,?_⟩
  have e0:nI .u8 (48+v)=u8V (dig (v)):=by
   show AV.int .u8 (.ofNat _)=AV.int .u8 (.ofNat _)
   rw[Zie (by omega)]
  rw[e0]
  refine FB.one (fb) (by omega) ?_
  ·rw[dd 0 0 rfl];congr 1;omega
 ·have hv3:v<100:=hv2
  simp(disch:=first|assumption|omega|(simp -implicitDefEqProofs only[Zu,Zv]<;>first|assumption|omega)|decide) only[Un,VV,t0,t1,t4,s1,s2,s3,z0,z1,Vg,Nat.reduceLeDiff,Nat.reduceSub,Nat.reduceAdd,Wz,YP,ZL,Zmc,Zmd,Y2,ZU,YO,Vg,Q2,Q3,Q4,Qx,Qy,Q5,ZaG,QN,Row.st_size,Row.st_own,Row.st_fz,Zt,Zj9,ZC,N8G,Zr,Zs,Zd,Ze,Zf,Nat.reducePow,Nat.reduceDiv,Nat.reduceMod,Nat.reduceEqDiff,reduceCtorEq,TB0,TB3,TB4,TB5]
  refine⟨_,rfl,?_⟩
  refine FB.pair (m:=2) (fb) (by omega) rfl rfl ?_ ?_
  ·rw[dd 1 0 rfl];congr 1;omega
  ·rw[dd 0 1 rfl];congr 1;omega
 ·have hv3:v<1000:=hv2
  simp(disch:=first|assumption|omega|(simp -implicitDefEqProofs only[Zu,Zv]<;>first|assumption|omega)|decide) only[Un,VV,t0,t1,t4,s1,s2,s3,z0,z1,Vg,Nat.reduceLeDiff,Nat.reduceSub,Nat.reduceAdd,Wz,YP,ZL,Zmc,Zmd,Y2,ZU,YO,Vg,Q2,Q3,Q4,Qx,Qy,Q5,ZaG,QN,Row.st_size,Row.st_own,Row.st_fz,Zt,Zj9,ZC,N8G,Zr,Zs,Zd,Ze,Zf,Nat.reducePow,Nat.reduceDiv,Nat.reduceMod,Nat.reduceEqDiff,reduceCtorEq,TB0,TB3,TB4,TB5]
  refine⟨_,rfl,?_⟩
  have e0:nI .u8 (48+v/100)=u8V (dig (v/100)):=by
   show AV.int .u8 (.ofNat _)=AV.int .u8 (.ofNat _)
   rw[Zie (by omega)]
  rw[e0]
  refine FB.one (FB.pair (m:=3) (fb) (by omega) rfl rfl ?_ ?_) (by omega) ?_
  ·rw[dd 2 0 rfl];congr 1;omega
  ·rw[dd 1 1 rfl];congr 1;omega
  ·rw[dd 0 2 rfl];congr 1;omega
 ·have hv3:v<10000:=hv2
  simp(disch:=first|assumption|omega|(simp -implicitDefEqProofs only[Zu,Zv]<;>first|assumption|omega)|decide) only[Un,VV,t0,t1,t4,s1,s2,s3,z0,z1,Vg,Nat.reduceLeDiff,Nat.reduceSub,Nat.reduceAdd,Wz,YP,ZL,Zmc,Zmd,Y2,ZU,YO,Vg,Q2,Q3,Q4,Qx,Qy,Q5,ZaG,QN,Row.st_size,Row.st_own,Row.st_fz,Zt,Zj9,ZC,N8G,Zr,Zs,Zd,Ze,Zf,Nat.reducePow,Nat.reduceDiv,Nat.reduceMod,Nat.reduceEqDiff,reduceCtorEq,TB0,TB3,TB4,TB5]
  refine⟨_,rfl,?_⟩
  refine FB.pair (m:=2) (FB.pair (m:=4) (fb) (by omega) rfl rfl ?_ ?_) (by omega) rfl rfl ?_ ?_
  ·rw[dd 3 0 rfl];congr 1;omega
  ·rw[dd 2 1 rfl];congr 1;omega
  ·rw[dd 1 2 rfl];congr 1;omega
  ·rw[dd 0 3 rfl];congr 1;omega
 ·have hv3:v<100000:=hv2
  simp(disch:=first|assumption|omega|(simp -implicitDefEqProofs only[Zu,Zv]<;>first|assumption|omega)|decide) only[Un,VV,t0,t1,t4,s1,s2,s3,z0,z1,Vg,Nat.reduceLeDiff,Nat.reduceSub,Nat.reduceAdd,Wz,YP,ZL,Zmc,Zmd,Y2,ZU,YO,Vg,Q2,Q3,Q4,Qx,Qy,Q5,ZaG,QN,Row.st_size,Row.st_own,Row.st_fz,Zt,Zj9,ZC,N8G,Zr,Zs,Zd,Ze,Zf,Nat.reducePow,Nat.reduceDiv,Nat.reduceMod,Nat.reduceEqDiff,reduceCtorEq,TB0,TB3,TB4,TB5]
  refine⟨_,rfl,?_⟩
  have e0:nI .u8 (48+v/10000)=u8V (dig (v/10000)):=by
   show AV.int .u8 (.ofNat _)=AV.int .u8 (.ofNat _)
   rw[Zie (by omega)]
  rw[e0]
  refine FB.one (FB.pair (m:=3) (FB.pair (m:=5) (fb) (by omega) rfl rfl ?_ ?_) (by omega) rfl rfl ?_ ?_) (by omega) ?_
  ·rw[dd 4 0 rfl];congr 1;omega
  ·rw[dd 3 1 rfl];congr 1;omega
  ·rw[dd 2 2 rfl];congr 1;omega
  ·rw[dd 1 3 rfl];congr 1;omega
  ·rw[dd 0 4 rfl];congr 1;omega
 ·have hv3:v<1000000:=hv2
  simp(disch:=first|assumption|omega|(simp -implicitDefEqProofs only[Zu,Zv]<;>first|assumption|omega)|decide) only[Un,VV,t0,t1,t4,s1,s2,s3,z0,z1,Vg,Nat.reduceLeDiff,Nat.reduceSub,Nat.reduceAdd,Wz,YP,ZL,Zmc,Zmd,Y2,ZU,YO,Vg,Q2,Q3,Q4,Qx,Qy,Q5,ZaG,QN,Row.st_size,Row.st_own,Row.st_fz,Zt,Zj9,ZC,N8G,Zr,Zs,Zd,Ze,Zf,Nat.reducePow,Nat.reduceDiv,Nat.reduceMod,Nat.reduceEqDiff,reduceCtorEq,TB0,TB3,TB4,TB5]
  refine⟨_,rfl,?_⟩
  refine FB.pair (m:=2) (FB.pair (m:=4) (FB.pair (m:=6) (fb) (by omega) rfl rfl ?_ ?_) (by omega) rfl rfl ?_ ?_) (by omega) rfl rfl ?_ ?_
  ·rw[dd 5 0 rfl];congr 1;omega
  ·rw[dd 4 1 rfl];congr 1;omega
  ·rw[dd 3 2 rfl];congr 1;omega
  ·rw[dd 2 3 rfl];congr 1;omega
  ·rw[dd 1 4 rfl];congr 1;omega
  ·rw[dd 0 5 rfl];congr 1;omega
 ·have hv3:v<10000000:=hv2
  simp(disch:=first|assumption|omega|(simp -implicitDefEqProofs only[Zu,Zv]<;>first|assumption|omega)|decide) only[Un,VV,t0,t1,t4,s1,s2,s3,z0,z1,Vg,Nat.reduceLeDiff,Nat.reduceSub,Nat.reduceAdd,Wz,YP,ZL,Zmc,Zmd,Y2,ZU,YO,Vg,Q2,Q3,Q4,Qx,Qy,Q5,ZaG,QN,Row.st_size,Row.st_own,Row.st_fz,Zt,Zj9,ZC,N8G,Zr,Zs,Zd,Ze,Zf,Nat.reducePow,Nat.reduceDiv,Nat.reduceMod,Nat.reduceEqDiff,reduceCtorEq,TB0,TB3,TB4,TB5]
  refine⟨_,rfl,?_⟩
  have e0:nI .u8 (48+v/10000/100)=u8V (dig (v/10000/100)):=by
   show AV.int .u8 (.ofNat _)=AV.int .u8 (.ofNat _)
   rw[Zie (by omega)]
  rw[e0]
  refine FB.one (FB.pair (m:=3) (FB.pair (m:=5) (FB.pair (m:=7) (fb) (by omega) rfl rfl ?_ ?_) (by omega) rfl rfl ?_ ?_) (by omega) rfl rfl ?_ ?_) (by omega) ?_
  ·rw[dd 6 0 rfl];congr 1;omega
  ·rw[dd 5 1 rfl];congr 1;omega
  ·rw[dd 4 2 rfl];congr 1;omega
  ·rw[dd 3 3 rfl];congr 1;omega
  ·rw[dd 2 4 rfl];congr 1;omega
  ·rw[dd 1 5 rfl];congr 1;omega
  ·rw[dd 0 6 rfl];congr 1;omega
end
end Go.AI
namespace Go.AI
open Go
noncomputable section
theorem Zsp{n l h:Nat}(hl:l<n)(hlh:l≤h)(hh:h≤n)(b o:Nat)(k j:IntKind)(H:Heap):Zly n 1 (.ptr b o) (some (nI k l)) (some (nI j h)) H= .val (.slice b (o+l) (h - l) (some (n - l))) H:=by
 show ZS (Nat.ble h n) (ZS (Nat.ble l h) (cond (Nat.beq l n) _ (OR.val (.slice b (o+l*1) (h - l) (some (n - l))) H)))=_
 rw[Zl hh,Zl hlh,Ye,Zc (by omega),Nat.mul_one];rfl
theorem ZqD(m:Nat):Zep (.ofNat m)=dec m:=rfl
theorem ZqE(m:Nat):Zep (.negSucc m)=45::dec (m+1):=by unfold Zep;rw[if_pos (Int.negSucc_lt_zero m)];rfl
theorem Ztm(k:IntKind)(m:Nat):AV.int k (.ofNat m)=nI k m:=rfl
theorem Zsq{Zm:Lib}{fs:T CF}{fuel:Nat}(E:Env Zm fs fuel){n:Nat}{z:Int}{H:Heap}(g:Glob H)(hro:H.ro≤H.nx)(hz1: -9223372036854775808≤z)(hz2:z<9223372036854775808):
  ∃H',ZR (LK Zm fs fuel 2) fs fuel (n+2) 90 [.int .i64 z,nI .i64 10] H= .ret (.str (Zep z)) H'∧Keep H H' []:=by
 rw[ZV (ZN E.n90 (.inl (by decide)) _ _) E.f90]
 cases z with
 |ofNat m=>
  have hz2:m<9223372036854775808:=by simp at hz2;omega
  by_cases h:m<100
  ·have es:=fun{j}=>ZFb (Zm:=Zm) (fs:=fs) (fuel:=fuel) E (k:=2) (n:=j) (by decide) (H:=H) h
   have d0:decide (0≤m)=true:=Zh (ZX _)
   have d1:decide (m<100)=true:=Zh h
   simp(disch:=first|assumption|omega|(simp -implicitDefEqProofs only[Zu,Zv]<;>first|assumption|omega)|decide) only[Ztm,d0,d1,es,Zko,Zsp,Zi1,Zi0,Zi,Nat.add_sub_cancel_left,Nat.reduceSub,Yw,ZI,Zh3,Zkm,ZoB,ZlH,ZgY,ZlI,Uh,QN,Row.st_size,Row.st_own,Row.st_fz,Zt,ZW,c90,ZC,N8G,Zr,Zs,Zd,Ze,Zf,Nat.reduceEqDiff,reduceCtorEq,TB0,TB1]
   exact⟨_,rfl,Keep.refl _ _⟩
  ·skip
   obtain⟨H1,hH1⟩: ∃H1,H.new (.row ⟨193,1,24, .leaf,nI .u8 0,0,false,true,true⟩)=H1:=⟨_,rfl⟩
   have nx1:H1.nx=H.nx+1:=by rw[←hH1];rfl
   have ro1:H1.ro=H.ro:=by rw[←hH1];rfl
   have k1:Keep H H1 []:=by rw[←hH1];exact Keep.new H _ []
   have ga:H1.t.get H.nx=some (.row ⟨193,1,24, .leaf,nI .u8 0,0,false,true,true⟩):=by rw[←hH1,ZP rfl]
   have hl:=Zft (m)
   have hl2:ZaI (m)≤20:=ZoJ (by decide) (Nat.lt_trans (show m<18446744073709551616 by omega) (by decide))
   have en:=fun{j}=>Zny (Zm:=Zm) (fs:=fs) (fuel:=fuel) E (k:=2) (n:=j) (by decide) (H:=H1) (g.keep k1 (by simp)) (d:=m) (by omega) (by omega)
   obtain⟨R,ef,fb⟩:=Zyb (Zm:=Zm) (fs:=fs) (fuel:=fuel) E (k:=2) (n:=n) (by decide) (H:=H1) (b:=H.nx) (nd:=ZaI (m)) (u:=m) (c:=some 23) ga (by omega) (by rw[ro1];exact hro) rfl rfl rfl hl2 (by omega) (Ztj _)
   have s1:=fb.size;have s2:=fb.own;have s3:=fb.fz
   have el: ∀c,ZlJ (.slice H.nx 1 (ZaI m) c) (H1.put H.nx (.row R))= .val (.str (Zep (.ofNat m))) (H1.put H.nx (.row R)):=fun c=>by
    refine ZlK (Yo _ _ _) (by rw[ZqD,Zif]) (by rw[s1];omega) fun i hi=>?_
    rw[fb.get,ZqD,if_pos (by omega),show 1+i - 1=i by omega];rfl
   have d0:decide (0≤m)=true:=Zh (ZX _)
   have d1:decide (m<100)=false:=Zc h
   have d2:decide (m<0)=false:=Zc (Y9 _)
   simp(disch:=first|assumption|omega|(simp -implicitDefEqProofs only[Zu,Zv]<;>first|assumption|omega)|decide) only[Ztm,d0,d1,d2,en,ef,el,hH1,nx1,ro1,s1,s2,s3,Zko,Zsp,Zi1,Zi0,Zi,Nat.add_sub_cancel_left,Nat.reduceSub,Yw,ZI,Zh3,Zkm,ZoB,ZlH,ZgY,ZlI,Uh,QN,Row.st_size,Row.st_own,Row.st_fz,Zt,ZW,c90,ZC,N8G,Zr,Zs,Zd,Ze,Zf,Nat.reduceEqDiff,reduceCtorEq,TB0,TB1]
   exact⟨_,rfl,k1.then_put fun h=>absurd h (ZfY _)⟩
 |negSucc m=>
  have hz1:m<9223372036854775808:=by omega
  obtain⟨H1,hH1⟩: ∃H1,H.new (.row ⟨193,1,24, .leaf,nI .u8 0,0,false,true,true⟩)=H1:=⟨_,rfl⟩
  have nx1:H1.nx=H.nx+1:=by rw[←hH1];rfl
  have ro1:H1.ro=H.ro:=by rw[←hH1];rfl
  have k1:Keep H H1 []:=by rw[←hH1];exact Keep.new H _ []
  have ga:H1.t.get H.nx=some (.row ⟨193,1,24, .leaf,nI .u8 0,0,false,true,true⟩):=by rw[←hH1,ZP rfl]
  have hl:=Zft (m+1)
  have hl2:ZaI (m+1)≤20:=ZoJ (by decide) (Nat.lt_trans (show m+1<18446744073709551616 by omega) (by decide))
  have en:=fun{j}=>Zny (Zm:=Zm) (fs:=fs) (fuel:=fuel) E (k:=2) (n:=j) (by decide) (H:=H1) (g.keep k1 (by simp)) (d:=m+1) (by omega) (by omega)
  obtain⟨R,ef,fb⟩:=Zyb (Zm:=Zm) (fs:=fs) (fuel:=fuel) E (k:=2) (n:=n) (by decide) (H:=H1) (b:=H.nx) (nd:=ZaI (m+1)) (u:=m+1) (c:=some 23) ga (by omega) (by rw[ro1];exact hro) rfl rfl rfl hl2 (by omega) (Ztj _)
  have s1:=fb.size;have s2:=fb.own;have s3:=fb.fz
  have el: ∀c,ZlJ (.slice H.nx 0 (1+ZaI (m+1)) c) (H1.put H.nx (.row (R.st 0 (nI .u8 45))))= .val (.str (Zep (.negSucc m))) (H1.put H.nx (.row (R.st 0 (nI .u8 45)))):=fun c=>by
   refine ZlK (Yo _ _ _) (by rw[ZqE,Zn,Zif];omega) (by rw[Row.st_size,s1];omega) fun i hi=>?_
   rw[Zi,Row.st_get,fb.get,ZqE]
   by_cases h0:0=i
   ·subst h0;rw[if_pos rfl];rfl
   ·rw[if_neg h0,if_pos (by omega)]
    obtain⟨j,rfl⟩: ∃j,i=j+1:=⟨i - 1,by omega⟩
    rfl
  have e9:18446744073709551616 - (18446744073709551615 - m)=m+1:=by omega
  simp(disch:=first|assumption|omega|(simp -implicitDefEqProofs only[Zu,Zv]<;>first|assumption|omega)|decide) only[en,ef,el,hH1,e9,nx1,ro1,s1,s2,s3,Zko,Zsp,Zi1,Zi0,Zi,Nat.add_sub_cancel_left,Nat.reduceSub,Yw,ZI,Zh3,Zkm,ZoB,ZlH,ZgY,ZlI,Uh,QN,Row.st_size,Row.st_own,Row.st_fz,Zt,ZW,c90,ZC,N8G,Zr,Zs,Zd,Ze,Zf,Nat.reduceEqDiff,reduceCtorEq,TB0,TB1]
  exact⟨_,rfl,k1.then_put fun h=>absurd h (ZfY _)⟩
theorem ZCT{Zm:Lib}{fs:T CF}{fuel:Nat}(E:Env Zm fs fuel){k n:Nat}(hk:3≤k){z:Int}{H:Heap}(g:Glob H)(hro:H.ro≤H.nx)(hz1: -9223372036854775808≤z)(hz2:z<9223372036854775808):
  ZR (LK Zm fs fuel k) fs fuel (n+1) 90 [.int .i64 z,nI .i64 10] H= .ret (.str (Zep z)) H:=by
 obtain⟨H',e,g⟩:=Zsq E (n:=898) (H:=H) g hro hz1 hz2
 exact Y6 (r:=2) rfl rfl e g (rfl) hk
theorem ZoM{Zm:Lib}{fs:T CF}{fuel:Nat}(E:Env Zm fs fuel){n:Nat}{z:Int}{H:Heap}(g:Glob H)(hro:H.ro≤H.nx)(hz1: -9223372036854775808≤z)(hz2:z<9223372036854775808):
  ∃H',ZR (LK Zm fs fuel 3) fs fuel (n+2) 45 [.int .i64 z,nI .i64 10] H= .ret (.str (Zep z)) H'∧Keep H H' []:=by
 rw[ZV (ZN E.n45 (.inl (by decide)) _ _) E.f45]
 have es:=fun{j}=>ZCT (Zm:=Zm) (fs:=fs) (fuel:=fuel) E (k:=3) (n:=j) (by decide) g hro hz1 hz2
 simp(disch:=first|assumption|omega|(simp -implicitDefEqProofs only[Zu,Zv]<;>first|assumption|omega)|decide) only[es,c45,ZC,N8G,Zr,Zs,Zd,Ze,Zf,Nat.reduceEqDiff,reduceCtorEq,TB0]
 exact⟨_,rfl,Keep.refl _ _⟩
theorem Zyc{Zm:Lib}{fs:T CF}{fuel:Nat}(E:Env Zm fs fuel){k n:Nat}(hk:4≤k){z:Int}{H:Heap}(g:Glob H)(hro:H.ro≤H.nx)(hz1: -9223372036854775808≤z)(hz2:z<9223372036854775808):
  ZR (LK Zm fs fuel k) fs fuel (n+1) 45 [.int .i64 z,nI .i64 10] H= .ret (.str (Zep z)) H:=by
 obtain⟨H',e,g⟩:=ZoM E (n:=898) (H:=H) g hro hz1 hz2
 exact Y6 (r:=3) rfl rfl e g (rfl) hk
end
end Go.AI
namespace Go.AI
open Go
noncomputable section
structure PU(H1:Heap)(b:Nat)(s:List UInt8)(m:Nat)(tm:TM)(H:Heap):Prop where
 heap:H=H1
 t1:gt1 tm=nI .i64 10
 t8:gt8 tm= .bool false
 t10:Yu tm=nI .u64 1844674407370955162
 t11:YF tm=nI .u64 18446744073709551615
 t12:YI tm= .bool false
 t99:Zgw tm= .slice b 0 s.length none
 t100:Zcn tm=nI .i64 s.length
 i: ∃i,i+m=s.length∧ZbI tm=nI .i64 i∧YJ tm=nI .u64 (Zx7 (s.take i))∧Zx7 (s.take i)<18446744073709551616
end
end Go.AI
namespace Go.AI
open Go
noncomputable section
theorem Cells.all{r:Row}{l vs:List AV}(h:Cells r l)(hv:vs.length=l.length):Cells (r.setCells (Wn r.cells 0 vs)) vs:=by
 have:=h.store (o:=0) (vs:=vs) (by omega)
 rw[List.take_zero,Zi,hv,List.drop_length,List.append_nil,List.nil_append] at this
 exact this
end
end Go.AI
namespace Go.AI
open Go
noncomputable section
structure BL(H0:Heap)(b:Nat)(s:List UInt8)(i m:Nat)(tm:TM)(H:Heap):Prop where
 t0:gt0 tm= .ptr b 0
 j: ∃j,H=H0.put b (rd s j)∧Zx9 s j=Zx9 s i∧m=s.length - j∧j≤s.length+i
end
end Go.AI
