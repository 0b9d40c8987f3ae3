/- Numbers in digits, walked on any number: proved, as each says. -/
import Derived.Test.YtmnmknjlgpjcbaaGreatDoorP8
import Derived.KernelRfl
set_option maxRecDepth 1000000
set_option maxHeartbeats 0
set_option linter.unusedVariables false
set_option linter.unusedSimpArgs false
namespace Go.AI
open Go
noncomputable section
def IK(d:Nat):UInt8:=UInt8.ofNat (48+d)
theorem MJ{d:Nat}(h:d<10):(IK d).toNat=48+d:=by
 unfold IK
 rw[UInt8.toNat_ofNat_of_lt' (show 48+d<UInt8.size by unfold UInt8.size;omega)]
def ET:Nat->Nat->List UInt8
 |0,_=>[]
 |k+1,n=>ET k (n/10)++[IK (n % 10)]
theorem LT: ∀k n,(ET k n).length=k
 |0,_=>rfl
 |k+1,n=>by show(ET k (n/10)++[IK (n % 10)]).length=_;rw[Zm,LT k];rfl
theorem D5: ∀k n c,c∈ET k n->48<=c.toNat∧c.toNat<=57
 |0,_,_,h=>by cases h
 |k+1,n,c,h=>by
  rcases Zs.1 h with h|h
  ·exact D5 k _ c h
  ·have h:=Y1.1 h
   subst h
   rw[MJ (W1 _ (by decide))]
   omega
def X5(l:List UInt8):Nat:=l.foldl (λn c=>10*n+(c.toNat - 48)) 0
theorem Ip(l:List UInt8)(c:UInt8):X5 (l++[c])=10*X5 l+(c.toNat - 48):=by unfold X5;rw[List.foldl_append];rfl
theorem BP: ∀k n,n<10^k->X5 (ET k n)=n
 |0,n,h=>by simp at h;subst h;rfl
 |k+1,n,h=>by
  show X5 (ET k (n/10)++[IK (n % 10)])=n
  rw[Ip,BP k (n/10) (by rw[Rs] at h;omega),MJ (W1 _ (by decide))]
  omega
def Oc(n:Nat):Nat:=if n<10 then 1 else Oc (n/10)+1
theorem Ja{n:Nat}(h:n<10):Oc n=1:=by rw[Oc,if_pos h]
theorem Hi{n:Nat}(h:10<=n):Oc n=Oc (n/10)+1:=by rw[Oc,if_neg (by omega)]
theorem O6(n:Nat):1<=Oc n:=by
 by_cases h:n<10
 ·rw[Ja h];exact Zj _
 ·rw[Hi (by omega)];omega
theorem xT: ∀k n,10^k<=n->n<10^(k+1)->Oc n=k+1
 |0,n,_,h=>Ja (by simpa using h)
 |k+1,n,h1,h2=>by
  rw[Hi (by omega),xT k (n/10) (by omega) (by omega)]
theorem xP(n:Nat):n<10^Oc n:=by
 induction n using Nat.strongRecOn with
 |ind n ih=>
  by_cases h:n<10
  ·rw[Ja h];simpa using h
  ·rw[Hi (by omega),Rs]
   have:=ih (n/10) (by omega)
   omega
theorem xU{n k:Nat}(hk:1<=k)(h:n<10^k):Oc n<=k:=by
 by_cases h0:n<10
 ·rw[Ja h0];exact hk
 ·obtain⟨j,hj⟩: ∃j,Oc n=j+1:=⟨Oc n - 1,by have:=O6 n;omega⟩
  rw[hj]
  by_cases Y6:k<j+1
  ·have h1:10^j<=n:=by
    have: ∀n j,Oc n=j+1->10<=n->10^j<=n:=by
     intro n
     induction n using Nat.strongRecOn with
     |ind n ih=>
      intro j hj hn
      rw[Hi hn] at hj
      by_cases h2:n/10<10
      ·rw[Ja h2] at hj
       obtain rfl:j=1:=by omega
       simpa using hn
      ·obtain⟨i,rfl⟩: ∃i,j=i+1:=⟨j - 1,by have:=O6 (n/10);omega⟩
       have:=ih (n/10) (by omega) i (by omega) (by omega)
       rw[Rs];omega
    exact this n j hj (by omega)
   have h2:10^k<=10^j:=Nat.pow_le_pow_right (by decide) (by omega)
   omega
  ·omega
def dec(n:Nat):List UInt8:=ET (Oc n) n
theorem MH(n:Nat):(dec n).length=Oc n:=LT ..
theorem yF(n:Nat):X5 (dec n)=n:=BP _ _ (xP n)
theorem AS{n:Nat}{c:UInt8}(h:c∈dec n):48<=c.toNat∧c.toNat<=57:=D5 _ _ _ h
theorem xd{n:Nat}(h:n<10):dec n=[IK n]:=by
 unfold dec;rw[Ja h];show []++[IK (n % 10)]=_;rw[ZV h];rfl
theorem fi{n:Nat}(h:10<=n):dec n=dec (n/10)++[IK (n % 10)]:=by
 unfold dec;rw[Hi h];rfl
theorem fj(n:Nat)(h:n≠0):(dec n).getD 0 0≠48:=by
 induction n using Nat.strongRecOn with
 |ind n ih=>
  by_cases h0:n<10
  ·rw[xd h0]
   show IK n≠48
   intro e
   have:=congrArg UInt8.toNat e
   rw[MJ h0] at this
   have:48+n=48:=this
   omega
  ·rw[fi (by omega)]
   have:=ih (n/10) (by omega) (by omega)
   have hp:0<(dec (n/10)).length:=by rw[MH];exact O6 _
   rw[Zf,Yr hp,<-Zf]
   exact this
theorem fk:dec 0=[48]:=by rw[xd (by decide)];rfl
def P7(z:Int):List UInt8:=if z<0 then 45::dec z.natAbs else dec z.natAbs
def Ur:Nat->Nat
 |13=>2
 |17=>7
 |19=>5
 |20=>4
 |54=>5
 |56=>1
 |60=>3
 |61=>1
 |63=>3
 |64=>2
 |69=>3
 |70=>3
 |106=>1
 |108=>2
 |109=>4
 |110=>2
 |111=>2
 |114=>3
 |117=>1
 |122=>5
 |123=>1
 |125=>1
 |126=>2
 |154=>1
 |155=>3
 |166=>2
 |170=>1
 |192=>1
 |193=>2
 |203=>3
 |222=>1
 |227=>1
 |228=>1
 |240=>2
 |261=>1
 |263=>1
 |_=>0
def rd(s:List UInt8)(i:Nat):Obj:=rH 120 [.str s,nI .i64 i]
def pu(o:Option Obj):Option (List UInt8×Nat):=match o with
 |some (.row r)=>(match r.get 0,r.get 1 with|.str s,.int .i64 (.ofNat i)=>some (s,i)|_,_=>none)
 |_=>none
theorem wq(s:List UInt8)(i:Nat):pu (some (rd s i))=some (s,i):=by
 show(match Row.get ⟨120,1,YH [AV.str s,nI .i64 i],T.ofList [AV.str s,nI .i64 i],.unk,0,false,true,true⟩ 0,Row.get ⟨120,1,YH [AV.str s,nI .i64 i],T.ofList [AV.str s,nI .i64 i],.unk,0,false,true,true⟩ 1 with|.str s,.int .i64 (.ofNat i)=>some (s,i)|_,_=>none)=_
 rw[Fo,Fo];rfl
def MM(e i:Nat):AV:=.iface 117 (.agg [nI .i64 e,nI .i64 i])
def blk(c:UInt8):Bool:=c.toNat==32||c.toNat==9||c.toNat==10||c.toNat==13
def Z5(s:List UInt8)(i:Nat):Nat:=i+((s.drop i).takeWhile blk).length
def dg(c:UInt8):Bool:=decide (48<=c.toNat)&&decide (c.toNat<=57)
def On(s:List UInt8)(i:Nat):Nat:=i+((s.drop i).takeWhile dg).length
inductive NO where
 |ok (z:Int) (q:Nat)
 |bad (at_ q:Nat)
def TS(s:List UInt8)(i:Nat):Nat:=if (s.getD i 0).toNat=45 then i+1 else i
def T6(s:List UInt8)(p:Nat):Nat:=if (s.getD p 0).toNat=48 then p+1 else On s p
def Te(s:List UInt8)(i:Nat):NO:=
 let p:=TS s i
 if dg (s.getD p 0)=false then .bad p p
 else
  let q:=T6 s p
  let u:=X5 ((s.take q).drop p)
  if p=i then(if u<9223372036854775808 then .ok u q else .bad i q) else(if u<=9223372036854775808 then .ok (-(u:Int)) q else .bad i q)
def Le(z:Int):AV:=.agg [nI .i64 3,.bool false,.int .i64 z,.str [],.nils,.nils]
def Ts:NJ:=λf args H=>match f,args with
 |60,[.ptr b 0]=>(pu (H.t.get b)).map λx=>.ret (.tup []) (H.put b (rd x.1 (Z5 x.1 x.2)))
 |61,[.ptr b 0]=>(pu (H.t.get b)).map λx=>.pan (MM 5 x.2) H
 |122,[.ptr b 0]=>(pu (H.t.get b)).map λx=>match Te x.1 x.2 with
  |.ok z q=>.ret (Le z) (H.put b (rd x.1 q))
  |.bad p q=>.pan (MM 5 p) (H.put b (rd x.1 q))
 |_,_=>none
abbrev LK(Zo:NJ)(fs:T CF)(fuel k:Nat):NJ:=Mc Zo fs fuel Ur Ts k
def nO:List UInt64:=[1,10,100,1000,10000,100000,1000000,10000000,100000000,1000000000,10000000000,100000000000,1000000000000,10000000000000,100000000000000,1000000000000000,10000000000000000,100000000000000000,1000000000000000000,10000000000000000000]
def Sh(H:Zc):Prop:=100<=H.nx∧(∃r,H.t.get 4=some (.row r)∧V7 r (nO.map Zdw))∧ ∃r t p,H.t.get 7=some (.row r)∧0<r.size∧r.get 0=.iface t (.ptr p 0)∧p<100
theorem Sh.keep{H H':Zc}(g:Sh H){S:List Nat}(k:Zp H H' S)(hS: ∀x∈S,100<=x):Sh H':=by
 obtain⟨h,⟨r,h1,h2⟩,e,t,p,h3,h4⟩:=g
 exact⟨Yt h k.nx,⟨r,by rw[k.get _ (by omega) (λh=>by have:=hS _ h;omega)];exact h1,h2⟩,e,t,p,by rw[k.get _ (by omega) (λh=>by have:=hS _ h;omega)];exact h3,h4⟩
theorem Sh.put{H:Zc}(g:Sh H){b:Nat}(hb:100<=b)(o:Obj):Sh (H.put b o):=g.keep (S:=[b]) (Zp.put λ_=>by simp) (by simp;exact hb)
theorem Sh.new{H:Zc}(g:Sh H)(o:Obj):Sh (H.new o):=g.keep (S:=[]) (Zp.new H o _) (by simp)
structure Env(Zo:NJ)(fs:T CF)(fuel:Nat):Prop where
 big:1000000<=fuel
 f3:fs.get 3=some c3
 n3: ∀l H,Zo 3 l H=none
 f10:fs.get 10=some c10
 n10: ∀l H,Zo 10 l H=none
 f11:fs.get 11=some c11
 n11: ∀l H,Zo 11 l H=none
 f13:fs.get 13=some c13
 n13: ∀l H,Zo 13 l H=none
 f14:fs.get 14=some c14
 n14: ∀l H,Zo 14 l H=none
 f15:fs.get 15=some c15
 n15: ∀l H,Zo 15 l H=none
 f16:fs.get 16=some c16
 n16: ∀l H,Zo 16 l H=none
 f17:fs.get 17=some c17
 n17: ∀l H,Zo 17 l H=none
 f18:fs.get 18=some c18
 n18: ∀l H,Zo 18 l H=none
 f19:fs.get 19=some c19
 n19: ∀l H,Zo 19 l H=none
 f20:fs.get 20=some c20
 n20: ∀l H,Zo 20 l H=none
 f52:fs.get 52=some iT
 n52: ∀l H,Zo 52 l H=none
 f53:fs.get 53=some c53
 n53: ∀l H,Zo 53 l H=none
 f54:fs.get 54=some c54
 n54: ∀l H,Zo 54 l H=none
 f56:fs.get 56=some c56
 n56: ∀l H,Zo 56 l H=none
 f57:fs.get 57=some c57
 n57: ∀l H,Zo 57 l H=none
 f58:fs.get 58=some c58
 n58: ∀l H,Zo 58 l H=none
 f59:fs.get 59=some c59
 n59: ∀l H,Zo 59 l H=none
 f60:fs.get 60=some c60
 n60: ∀l H,Zo 60 l H=none
 f61:fs.get 61=some c61
 n61: ∀l H,Zo 61 l H=none
 f62:fs.get 62=some c62
 n62: ∀l H,Zo 62 l H=none
 f63:fs.get 63=some c63
 n63: ∀l H,Zo 63 l H=none
 f64:fs.get 64=some c64
 n64: ∀l H,Zo 64 l H=none
 f65:fs.get 65=some c65
 n65: ∀l H,Zo 65 l H=none
 f66:fs.get 66=some c66
 n66: ∀l H,Zo 66 l H=none
 f67:fs.get 67=some c67
 n67: ∀l H,Zo 67 l H=none
 f68:fs.get 68=some c68
 n68: ∀l H,Zo 68 l H=none
 f69:fs.get 69=some c69
 n69: ∀l H,Zo 69 l H=none
 f70:fs.get 70=some c70
 n70: ∀l H,Zo 70 l H=none
 f106:fs.get 106=some B7
 n106: ∀l H,Zo 106 l H=none
 f107:fs.get 107=some Za1
 n107: ∀l H,Zo 107 l H=none
 f108:fs.get 108=some ZeW
 n108: ∀l H,Zo 108 l H=none
 f109:fs.get 109=some ZeX
 n109: ∀l H,Zo 109 l H=none
 f110:fs.get 110=some ZeY
 n110: ∀l H,Zo 110 l H=none
 f111:fs.get 111=some gI
 n111: ∀l H,Zo 111 l H=none
 f112:fs.get 112=some ZeZ
 n112: ∀l H,Zo 112 l H=none
 f113:fs.get 113=some Ze0
 n113: ∀l H,Zo 113 l H=none
 f114:fs.get 114=some Ze1
 n114: ∀l H,Zo 114 l H=none
 f117:fs.get 117=some Za2
 n117: ∀l H,Zo 117 l H=none
 f118:fs.get 118=some Ze2
 n118: ∀l H,Zo 118 l H=none
 f119:fs.get 119=some Za3
 n119: ∀l H,Zo 119 l H=none
 f120:fs.get 120=some Za4
 n120: ∀l H,Zo 120 l H=none
 f121:fs.get 121=some Za5
 n121: ∀l H,Zo 121 l H=none
 f122:fs.get 122=some Za6
 n122: ∀l H,Zo 122 l H=none
 f123:fs.get 123=some Ze3
 n123: ∀l H,Zo 123 l H=none
 f124:fs.get 124=some Ze4
 n124: ∀l H,Zo 124 l H=none
 f125:fs.get 125=some gJ
 n125: ∀l H,Zo 125 l H=none
 f126:fs.get 126=some Ze5
 n126: ∀l H,Zo 126 l H=none
 f127:fs.get 127=some Ze6
 n127: ∀l H,Zo 127 l H=none
 f128:fs.get 128=some Ze7
 n128: ∀l H,Zo 128 l H=none
 f129:fs.get 129=some Ze8
 n129: ∀l H,Zo 129 l H=none
 f130:fs.get 130=some Ze9
 n130: ∀l H,Zo 130 l H=none
 f131:fs.get 131=some Zfa
 n131: ∀l H,Zo 131 l H=none
 f154:fs.get 154=some Za8
 n154: ∀l H,Zo 154 l H=none
 f155:fs.get 155=some gK
 n155: ∀l H,Zo 155 l H=none
 f156:fs.get 156=some Zfb
 n156: ∀l H,Zo 156 l H=none
 f157:fs.get 157=some Zfc
 n157: ∀l H,Zo 157 l H=none
 f158:fs.get 158=some Za9
 n158: ∀l H,Zo 158 l H=none
 f159:fs.get 159=some Zfd
 n159: ∀l H,Zo 159 l H=none
 f160:fs.get 160=some gL
 n160: ∀l H,Zo 160 l H=none
 f161:fs.get 161=some IE
 n161: ∀l H,Zo 161 l H=none
 f162:fs.get 162=some Zba
 n162: ∀l H,Zo 162 l H=none
 f163:fs.get 163=some gM
 n163: ∀l H,Zo 163 l H=none
 f164:fs.get 164=some Zbb
 n164: ∀l H,Zo 164 l H=none
 f165:fs.get 165=some sR
 n165: ∀l H,Zo 165 l H=none
 f166:fs.get 166=some Zbc
 n166: ∀l H,Zo 166 l H=none
 f167:fs.get 167=some Zbd
 n167: ∀l H,Zo 167 l H=none
 f168:fs.get 168=some gN
 n168: ∀l H,Zo 168 l H=none
 f170:fs.get 170=some Zff
 n170: ∀l H,Zo 170 l H=none
 f171:fs.get 171=some Zfg
 n171: ∀l H,Zo 171 l H=none
 f172:fs.get 172=some Zfh
 n172: ∀l H,Zo 172 l H=none
 f183:fs.get 183=some Zfi
 n183: ∀l H,Zo 183 l H=none
 f192:fs.get 192=some Zbf
 n192: ∀l H,Zo 192 l H=none
 f193:fs.get 193=some Zfj
 n193: ∀l H,Zo 193 l H=none
 f194:fs.get 194=some Zfk
 n194: ∀l H,Zo 194 l H=none
 f196:fs.get 196=some Zfl
 n196: ∀l H,Zo 196 l H=none
 f197:fs.get 197=some Zfm
 n197: ∀l H,Zo 197 l H=none
 f198:fs.get 198=some Zbg
 n198: ∀l H,Zo 198 l H=none
 f199:fs.get 199=some Zbh
 n199: ∀l H,Zo 199 l H=none
 f200:fs.get 200=some Zfn
 n200: ∀l H,Zo 200 l H=none
 f201:fs.get 201=some GB
 n201: ∀l H,Zo 201 l H=none
 f202:fs.get 202=some gO
 n202: ∀l H,Zo 202 l H=none
 f203:fs.get 203=some B8
 n203: ∀l H,Zo 203 l H=none
 f204:fs.get 204=some Zfo
 n204: ∀l H,Zo 204 l H=none
 f222:fs.get 222=some B9
 n222: ∀l H,Zo 222 l H=none
 f227:fs.get 227=some Zfp
 n227: ∀l H,Zo 227 l H=none
 f228:fs.get 228=some Zbi
 n228: ∀l H,Zo 228 l H=none
 f239:fs.get 239=some Zbj
 n239: ∀l H,Zo 239 l H=none
 f240:fs.get 240=some Zfq
 n240: ∀l H,Zo 240 l H=none
 f242:fs.get 242=some Zfr
 n242: ∀l H,Zo 242 l H=none
 f261:fs.get 261=some Zh9
 n261: ∀l H,Zo 261 l H=none
 f263:fs.get 263=some Zfs
 n263: ∀l H,Zo 263 l H=none
 ix: ∀(s:List UInt8) (x:Nat) (H:Zc),x<256->Zo 115 [.str s,nI .u8 x] H=some (.ret (.int .i64 (VS x s 0)) H)
 nesc: ∀(x:AV) (H:Zc),Zo 116 [x] H=some (.ret x H)
section
variable {Zo:NJ} {fs:T CF} {fuel k n i h b:Nat} {H H0:Zc} {s:List UInt8} {cs:List AV}
def Qt(x:Nat):Nat:=if x=0 then 0 else Nat.log2 x+1
theorem vk: ∀x,x<256->(uo.getD x 0).toNat=Qt x:=by decide
theorem DQ{x:Nat}(h:2^k<=x):Qt x=k+Qt (x/2^k):=by
 have hp:0<2^k:=Nat.two_pow_pos k
 have h1:x≠0:=by omega
 have h2:x/2^k≠0:=by
  have:=Nat.div_pos h hp;omega
 unfold Qt
 rw[if_neg h1,if_neg h2]
 have e1:=(Nat.log2_eq_iff h2 (k:=Nat.log2 (x/2^k))).1 rfl
 have:Nat.log2 x=k+Nat.log2 (x/2^k):=by
  refine(Nat.log2_eq_iff h1).2 ⟨?_,?_⟩
  ·rw[Qj]
   calc 2^k*2^Nat.log2 (x/2^k)<=2^k*(x/2^k):=Nat.mul_le_mul_left _ e1.1
    _<=x:=Nat.mul_div_le x _
  ·rw[XC,Qj,Ty]
   exact(Qa hp).1 e1.2
 omega
theorem ZaY{x:Nat}(h:4294967296<=x):Qt x=32+Qt (x/4294967296):=DQ (k:=32) h
theorem ot{x:Nat}(h:65536<=x):Qt x=16+Qt (x/65536):=DQ (k:=16) h
theorem y4{x:Nat}(h:256<=x):Qt x=8+Qt (x/256):=DQ (k:=8) h
theorem y5{x:Nat}(h:x<2^k):Qt x<=k:=by
 unfold Qt
 split
 ·omega
 ·rename_i h0
  have:=(Nat.log2_lt h0).2 h
  omega
theorem kn(E:Env Zo fs fuel){x:Nat}(hx:x<18446744073709551616):
  ∃H',ZG (LK Zo fs fuel 0) fs fuel (n+2) 222 [nI .u64 x] H=.ret (nI .i64 (Qt x)) H'∧Zp H H' []:=by
 rw[ZF (ZB E.n222 (.inl (by decide)) _ _) E.f222]
 have hl:uo.length=256:=by decide
 have tab: ∀y,y<256->uo.getD (y % 256) 0=UInt8.ofNat (Qt y):=λy hy=>by
  rw[ZV hy,<-vk y hy];simp
 have tb: ∀y,y<256->(uo.getD (y % 256) 0).toNat=Qt y:=λy hy=>by rw[ZV hy,vk y hy]
 have bl: ∀y,Qt (y % 256)<=8:=λy=>y5 (k:=8) (W1 _ (by decide))
 by_cases h1:4294967296<=x
 ·have d1:decide (4294967296<=x)=true:=Ze h1
  rw[ZaY h1]
  generalize hy:x/4294967296=y
  have hy2:y<4294967296:=by omega
  by_cases h2:65536<=y
  ·have d2:decide (65536<=y)=true:=Ze h2
   rw[ot h2]
   generalize hz:y/65536=z
   have Ej:z<65536:=by omega
   by_cases h3:256<=z
   ·have d3:decide (256<=z)=true:=Ze h3
    rw[y4 h3]
    generalize hw:z/256=w
    have It:w<256:=by omega
    have hm:=ZV It
    have hb:=bl w
    rw[hm] at hb
    have QY:=tb w It
    rw[hm] at QY
    simp(disch:=first|omega|decide) only[Yu,Pr,Nx,WB,TE,YQ,Nat.reducePow,d1,hy,d2,hz,d3,hw,hm,QY,B9,Zu,ZX,Zw,Nat.reducePow,Yf]
    exact⟨_,by first|rfl|simp only[XC],Zp.refl _ _⟩
   ·have d3:decide (256<=z)=false:=Za h3
    have It:z<256:=by omega
    have hm:=ZV It
    have hb:=bl z
    rw[hm] at hb
    have QY:=tb z It
    rw[hm] at QY
    simp(disch:=first|omega|decide) only[Yu,Pr,Nx,WB,TE,YQ,Nat.reducePow,d1,hy,d2,hz,d3,hm,QY,B9,Zu,ZX,Zw,Nat.reducePow,Yf]
    exact⟨_,by first|rfl|simp only[XC],Zp.refl _ _⟩
  ·have d2:decide (65536<=y)=false:=Za h2
   have Ej:y<65536:=by omega
   by_cases h3:256<=y
   ·have d3:decide (256<=y)=true:=Ze h3
    rw[y4 h3]
    generalize hw:y/256=w
    have It:w<256:=by omega
    have hm:=ZV It
    have hb:=bl w
    rw[hm] at hb
    have QY:=tb w It
    rw[hm] at QY
    simp(disch:=first|omega|decide) only[Yu,Pr,Nx,WB,TE,YQ,Nat.reducePow,d1,hy,d2,d3,hw,hm,QY,B9,Zu,ZX,Zw,Nat.reducePow,Yf]
    exact⟨_,by first|rfl|simp only[XC],Zp.refl _ _⟩
   ·have d3:decide (256<=y)=false:=Za h3
    have It:y<256:=by omega
    have hm:=ZV It
    have hb:=bl y
    rw[hm] at hb
    have QY:=tb y It
    rw[hm] at QY
    simp(disch:=first|omega|decide) only[Yu,Pr,Nx,WB,TE,YQ,Nat.reducePow,d1,hy,d2,d3,hm,QY,B9,Zu,ZX,Zw,Nat.reducePow,Yf]
    exact⟨_,by first|rfl|simp only[XC],Zp.refl _ _⟩
 ·have d1:decide (4294967296<=x)=false:=Za h1
  by_cases h2:65536<=x
  ·have d2:decide (65536<=x)=true:=Ze h2
   rw[ot h2]
   generalize hz:x/65536=z
   have Ej:z<65536:=by omega
   by_cases h3:256<=z
   ·have d3:decide (256<=z)=true:=Ze h3
    rw[y4 h3]
    generalize hw:z/256=w
    have It:w<256:=by omega
    have hm:=ZV It
    have hb:=bl w
    rw[hm] at hb
    have QY:=tb w It
    rw[hm] at QY
    simp(disch:=first|omega|decide) only[Yu,Pr,Nx,WB,TE,YQ,Nat.reducePow,d1,d2,hz,d3,hw,hm,QY,B9,Zu,ZX,Zw,Zz,Nat.reducePow,Yf]
    exact⟨_,by first|rfl|simp only[XC],Zp.refl _ _⟩
   ·have d3:decide (256<=z)=false:=Za h3
    have It:z<256:=by omega
    have hm:=ZV It
    have hb:=bl z
    rw[hm] at hb
    have QY:=tb z It
    rw[hm] at QY
    simp(disch:=first|omega|decide) only[Yu,Pr,Nx,WB,TE,YQ,Nat.reducePow,d1,d2,hz,d3,hm,QY,B9,Zu,ZX,Zw,Zz,Nat.reducePow,Yf]
    exact⟨_,by first|rfl|simp only[XC],Zp.refl _ _⟩
  ·have d2:decide (65536<=x)=false:=Za h2
   by_cases h3:256<=x
   ·have d3:decide (256<=x)=true:=Ze h3
    rw[y4 h3]
    generalize hw:x/256=w
    have It:w<256:=by omega
    have hm:=ZV It
    have hb:=bl w
    rw[hm] at hb
    have QY:=tb w It
    rw[hm] at QY
    simp(disch:=first|omega|decide) only[Yu,Pr,Nx,WB,TE,YQ,Nat.reducePow,d1,d2,d3,hw,hm,QY,B9,Zu,ZX,Zw,Zz,Nat.reducePow,Yf]
    exact⟨_,by first|rfl|simp only[XC],Zp.refl _ _⟩
   ·have d3:decide (256<=x)=false:=Za h3
    have It:x<256:=by omega
    have hm:=ZV It
    have hb:=bl x
    rw[hm] at hb
    have QY:=tb x It
    rw[hm] at QY
    simp(disch:=first|omega|decide) only[Yu,Nx,WB,TE,YQ,d1,d2,d3,hm,QY,B9,Zu,ZX,Zw,Zz,Yf]
    exact⟨_,by first|rfl|simp only[XC],Zp.refl _ _⟩
theorem Zeo(E:Env Zo fs fuel)(hk:1<=k){x:Nat}(hx:x<18446744073709551616):
  ZG (LK Zo fs fuel k) fs fuel (n+1) 222 [nI .u64 x] H=.ret (nI .i64 (Qt x)) H:=by
 obtain⟨H',e,g⟩:=kn E (n:=898) (H:=H) hx
 exact Xd (r:=0) rfl rfl e g (rfl) hk
theorem qo(E:Env Zo fs fuel){x:Nat}(hx:x<=64):
  ∃H',ZG (LK Zo fs fuel 0) fs fuel (n+2) 227 [nI .i64 x] H=.ret (nI .i64 (x*78913/262144)) H'∧Zp H H' []:=by
 rw[ZF (ZB E.n227 (.inl (by decide)) _ _) E.f227]
 simp(disch:=first|omega|decide) only[xS,ia,Nat.reducePow,Zfp,Zu,ZX,Zw,Nat.reducePow,Yf]
 exact⟨_,rfl,Zp.refl _ _⟩
theorem Zgy(E:Env Zo fs fuel)(hk:1<=k){x:Nat}(hx:x<=64):
  ZG (LK Zo fs fuel k) fs fuel (n+1) 227 [nI .i64 x] H=.ret (nI .i64 (x*78913/262144)) H:=by
 obtain⟨H',e,g⟩:=qo E (n:=898) (H:=H) hx
 exact Xd (r:=0) rfl rfl e g (rfl) hk
theorem mO(E:Env Zo fs fuel){b:Bool}:
  ∃H',ZG (LK Zo fs fuel 0) fs fuel (n+2) 228 [.bool b] H=.ret (nI .i64 (if b then 1 else 0)) H'∧Zp H H' []:=by
 rw[ZF (ZB E.n228 (.inl (by decide)) _ _) E.f228]
 cases b
 ·simp(disch:=first|omega|decide) only[Zbi,Zu,ZX,Zw,reduceCtorEq,Yf]
  exact⟨_,rfl,Zp.refl _ _⟩
 ·simp(disch:=first|omega|decide) only[Zbi,Zu,ZX,Zw,Yf]
  exact⟨_,rfl,Zp.refl _ _⟩
theorem Zh4(E:Env Zo fs fuel)(hk:1<=k){b:Bool}:
  ZG (LK Zo fs fuel k) fs fuel (n+1) 228 [.bool b] H=.ret (nI .i64 (if b then 1 else 0)) H:=by
 obtain⟨H',e,g⟩:=mO E (n:=898) (H:=H)
 exact Xd (r:=0) rfl rfl e g (rfl) hk
theorem ij: ∀x,x<100->(if x<10 then(nC.take (x+1)).drop x else(Rc.take (x*2+2)).drop (x*2))=dec x:=by
 intro x hx
 by_cases h:x<10
 ·rw[if_pos h,xd h]
  have: ∀x,x<10->(nC.take (x+1)).drop x=[IK x]:=by decide
  exact this x h
 ·rw[if_neg h,fi (by omega),xd (by omega)]
  have: ∀x,x<100->(Rc.take (x*2+2)).drop (x*2)=[IK (x/10)]++[IK (x % 10)]:=by decide
  exact this x hx
theorem ii(E:Env Zo fs fuel){x:Nat}(hx:x<100):
  ∃H',ZG (LK Zo fs fuel 0) fs fuel (n+2) 192 [nI .i64 x] H=.ret (.str (dec x)) H'∧Zp H H' []:=by
 rw[ZF (ZB E.n192 (.inl (by decide)) _ _) E.f192]
 have l1:nC.length=36:=by decide
 have l2:Rc.length=200:=by decide
 have st:=ij x hx
 by_cases h:x<10
 ·have d:decide (x<10)=true:=Ze h
  rw[if_pos h] at st
  simp(disch:=first|omega|decide) only[ZO,YQ,Ps,d,st,Zbf,Zu,ZX,Zw,Zz,Yf]
  exact⟨_,rfl,Zp.refl _ _⟩
 ·have d:decide (x<10)=false:=Za h
  rw[if_neg h] at st
  simp(disch:=first|omega|decide) only[ZO,YQ,xS,Ps,d,st,Zbf,Zu,ZX,Zw,Zz,Yf]
  exact⟨_,rfl,Zp.refl _ _⟩
theorem Zk8(E:Env Zo fs fuel)(hk:1<=k){x:Nat}(hx:x<100):
  ZG (LK Zo fs fuel k) fs fuel (n+1) 192 [nI .i64 x] H=.ret (.str (dec x)) H:=by
 obtain⟨H',e,g⟩:=ii E (n:=898) (H:=H) hx
 exact Xd (r:=0) rfl rfl e g (rfl) hk
def qx(d:Nat):Nat:=Qt d*78913/262144
theorem ZoZ: ∀L,L<65->1<=L->(L*78913/262144<=19∧10^(L*78913/262144)<=2^(L - 1)*10∧2^L<=10^(L*78913/262144+1)∧(L*78913/262144=0∨10^(L*78913/262144 - 1)<=2^(L - 1))):=by decide
theorem ZkF{d:Nat}(h0:d≠0)(h:d<18446744073709551616):qx d<=19∧Oc d=qx d+(if 10^qx d<=d then 1 else 0):=by
 have hb:Qt d=Nat.log2 d+1:=by unfold Qt;rw[if_neg h0]
 have e1:=(Nat.log2_eq_iff h0 (k:=Nat.log2 d)).1 rfl
 have hL:Qt d<=64:=y5 (k:=64) h
 obtain⟨p0,p1,p2,p3⟩:=ZoZ (Qt d) (by omega) (by omega)
 have g:Qt d - 1=Nat.log2 d:=by omega
 rw[g] at p1 p3
 have p2':d<10^(qx d+1):=ZH (by rw[hb];exact e1.2) p2
 refine⟨p0,?_⟩
 by_cases hc:10^qx d<=d
 ·rw[if_pos hc]
  exact xT _ _ hc p2'
 ·rw[if_neg hc]
  rcases p3 with p3|p3
  ·have:qx d=0:=p3
   rw[this] at hc
   simp at hc;omega
  ·by_cases hz:qx d=0
   ·rw[hz] at hc;simp at hc;omega
   ·have:Oc d=(qx d - 1)+1:=xT _ _ (Yt p3 e1.1) (by rw[show qx d - 1+1=qx d by omega];omega)
    omega
theorem Zc8: ∀i,i<20->(nO.getD i 0).toNat=10^i:=by decide
theorem Aq(E:Env Zo fs fuel){d:Nat}(g:Sh H)(h0:d≠0)(hd:d<18446744073709551616):
  ∃H',ZG (LK Zo fs fuel 1) fs fuel (n+2) 193 [nI .u64 d] H=.ret (nI .i64 (Oc d)) H'∧Zp H H' []:=by
 rw[ZF (ZB E.n193 (.inl (by decide)) _ _) E.f193]
 obtain⟨g0,⟨r,gr,gc⟩,_⟩:=g
 obtain⟨p1,p2⟩:=ZkF h0 hd
 have rB:Qt d<=64:=y5 (k:=64) hd
 have e1:=λ{k m} (hk:1<=k)=>Zeo E (k:=k) (n:=m) hk (H:=H) hd
 have e2:=λ{k m} (hk:1<=k)=>Zgy E (k:=k) (n:=m) hk (H:=H) rB
 have e3:=λ{k m} (hk:1<=k) (b)=>Zh4 E (k:=k) (n:=m) hk (b:=b) (H:=H)
 have ld:Fa (.ptr 4 (qx d)) H=.val (nI .u64 (10^qx d)) H:=by
  rw[qn gr gc (by rw[Zr];show _<20;omega),Zf,YR]
  have:=Zc8 (qx d) (by omega)
  rw[Zf] at this
  rw[Zi (show qx d<nO.length by show _<20;omega)] at this ⊢
  show OR.val (Zdw _) H=_
  unfold Zdw nI
  rw[<-this];rfl
 unfold qx at ld p1 p2
 simp(disch:=first|omega|decide) only[e1,e2,CZ,G4,Zt,Zfj,Zu,ZX,Yf]
 rw[zM] at ld
 simp(disch:=first|omega|decide) only[ld,e3,CZ,Yu,Zu,ZX,Yf]
 by_cases hc:10^(Qt d*78913/262144)<=d
 ·rw[if_pos hc] at p2
  have dc:decide (10^(Qt d*78913/262144)<=d)=true:=Ze hc
  simp(disch:=first|omega|decide) only[dc,if_true,YQ,Zu,ZX,Zw,Yf]
  exact⟨_,by rw[p2],Zp.refl _ _⟩
 ·rw[if_neg hc] at p2
  have dc:decide (10^(Qt d*78913/262144)<=d)=false:=Za hc
  simp(disch:=first|omega|decide) only[dc,YO,if_false,YQ,Zu,ZX,Zw,Yf]
  exact⟨_,by rw[p2],Zp.refl _ _⟩
theorem zS(E:Env Zo fs fuel)(hk:2<=k){d:Nat}(g:Sh H)(h0:d≠0)(hd:d<18446744073709551616):
  ZG (LK Zo fs fuel k) fs fuel (n+1) 193 [nI .u64 d] H=.ret (nI .i64 (Oc d)) H:=by
 obtain⟨H',e,g⟩:=Aq E (n:=898) (H:=H) g h0 hd
 exact Xd (r:=1) rfl rfl e g (rfl) hk
namespace T
variable {α:Type}
theorem setB_same(x:α): ∀(t:T α) (bs:List Bool),t.getB bs=some x->setB x t bs=t
 |leaf,bs,h=>by cases h
 |node l v r,[],h=>by
  have h:v=some x:=h
  subst h;rfl
 |node l v r,true::bs,h=>by rw[Fu,setB_same x l bs h]
 |node l v r,false::bs,h=>by rw[Fs,setB_same x r bs h]
end T
theorem O9{o:Obj}(h:H.t.get b=some o):H.put b o=H:=by
 unfold Zc.put T.set
 rw[T.setB_same o H.t (bits b) h]
theorem vE: ∀k n i,i<k->(ET k n).getD i 0=IK (n/10^(k - 1 - i) % 10)
 |0,_,_,h=>by omega
 |k+1,n,i,h=>by
  show(ET k (n/10)++[IK (n % 10)]).getD i 0=_
  rw[Zf]
  by_cases hi:i<k
  ·rw[Yr (by rw[LT];exact hi),<-Zf,vE k (n/10) i hi,RL]
   congr 3
   rw[show k+1 - 1 - i=(k - 1 - i)+1 by omega,Rs,Ty]
  ·obtain rfl:i=k:=by omega
   rw[YI (by rw[LT];exact Zj _),LT,Sm,show i+1 - 1 - i=0 by omega,Nat.pow_zero,Nat.div_one];rfl
theorem aB:Rc.length=200:=by decide
theorem Zpa: ∀x,x<100->Rc.getD (x*2) 0=IK (x/10):=by decide
theorem Zpb: ∀x,x<100->Rc.getD (x*2+1) 0=IK (x % 10):=by decide
theorem pJ{x:Nat}(hx:x<100)(H:Zc):MV (.str Rc) (nI .u32 (x*2)) H=.val (UZ (IK (x/10))) H:=by rw[Ib (by rw[aB];omega),Zpa x hx]
theorem pK{x:Nat}(hx:x<100)(H:Zc):MV (.str Rc) (nI .u32 (x*2+1)) H=.val (UZ (IK (x % 10))) H:=by rw[Ib (by rw[aB];omega),Zpb x hx]
structure FB(r R:Row)(nd m:Nat)(ds:List UInt8):Prop where
 size:R.size=24
 own:R.own=true
 fz:R.fz=0
 get: ∀i,R.get i=if 1+m<=i∧i<1+nd then UZ (ds.getD (i - 1) 0) else r.get i
theorem FB.pair{r R:Row}{nd m p q d1 d2:Nat}{ds:List UInt8}(h:FB r R nd m ds)(hm:m<=nd)(hp:p+1=m)(hq:q+2=m)(h1:ds.getD p 0=IK d1)(h2:ds.getD q 0=IK d2):
  FB r ((R.st (1+p) (UZ (IK d1))).st (1+q) (UZ (IK d2))) nd q ds:=by
 refine⟨h.size,h.own,h.fz,λi=>?_⟩
 rw[Row.st_get,Row.st_get,h.get]
 by_cases e2:1+q=i
 ·rw[if_pos e2,if_pos (by omega),<-h2,show i - 1=q by omega]
 ·rw[if_neg e2]
  by_cases e1:1+p=i
  ·rw[if_pos e1,if_pos (by omega),<-h1,show i - 1=p by omega]
  ·rw[if_neg e1]
   by_cases e:1+m<=i∧i<1+nd
   ·rw[if_pos e,if_pos (by omega)]
   ·rw[if_neg e,if_neg (by omega)]
theorem FB.one{r R:Row}{nd d:Nat}{ds:List UInt8}(h:FB r R nd 1 ds)(hm:1<=nd)(h1:ds.getD 0 0=IK d):FB r (R.st 1 (UZ (IK d))) nd 0 ds:=by
 refine⟨h.size,h.own,h.fz,λi=>?_⟩
 rw[Row.st_get,h.get]
 by_cases e1:1=i
 ·rw[if_pos e1,if_pos (by omega),<-h1,show i - 1=0 by omega]
 ·rw[if_neg e1]
  by_cases e:1+1<=i∧i<1+nd
  ·rw[if_pos e,if_pos (by omega)]
  ·rw[if_neg e,if_neg (by omega)]
theorem ZdK{nd m u j p:Nat}(hm:m<=nd)(hp:p+1+j=m):(ET nd u).getD p 0=IK (u/10^(nd - m)/10^j % 10):=by
 rw[vE nd u p (by omega),RL,<-Qj]
 congr 3;congr 1;omega
structure FL(H0:Zc)(b nd u:Nat)(c:Option Nat)(r:Row)(m:Nat)(tm:TM)(H:Zc):Prop where
 t0:Z4 tm=.slice b 1 nd c
 t1:Xz tm=nI .u64 (u/10^(nd - m))
 t4:XG tm=nI .i64 m
 le:m<=nd
 heap: ∃R,H=H0.put b (.row R)∧FB r R nd m (ET nd u)
theorem Zbv{nd u:Nat}{c:Option Nat}{r:Row}(hb:b<H0.nx)(YL:H0.ro<=b)(Ke:nd<=20)(hu:u<18446744073709551616)(cx:Ctx)(x:X)(m:Nat)(tm:TM)(H:Zc)(h:FL H0 b nd u c r m tm H):
  ∃o Yp H',MF cx tm H x=.ok o Yp H' x∧((o=.normal∧ ∃k,k<m∧FL H0 b nd u c r k Yp H')∨(o≠.normal∧o=.exit 0∧m<8∧FL H0 b nd u c r m Yp H')):=by
 have t0:=h.t0;have t1:=h.t1;have t4:=h.t4;have Tn:=h.le
 simp only[Pi,PO,Ah] at t0 t1 t4
 obtain⟨R,rfl,fb⟩:=h.heap
 generalize hv:u/10^(nd - m)=v at t1
 have xz:v<18446744073709551616:=by rw[<-hv];exact VJ (S4 ..) hu
 have s1:=fb.size;have s2:=fb.own;have s3:=fb.fz
 by_cases h8:8<=m
 ·have d1:decide (8<=m)=true:=Ze h8
  simp(disch:=first|omega|simp only[ZY,ZZ]<;>omega) only[MF,t0,t1,t4,d1,Xw,We,pJ,pK,Yu,Wy,U7,O5,Na,Nc,bz,bO,QH,OH,MF,Zu,ZX,Zz,ZQ,Yf,WL,RA]
  refine⟨_,_,_,rfl,.inl ⟨rfl,m - 8,by omega,t0,?_,rfl,by omega,_,rfl,?_⟩⟩
  ·show nI .u64 (v/100000000)=_
   rw[<-hv,RL,show(100000000:Nat)=10^8 from rfl,<-Qj,show nd - m+8=nd - (m - 8) by omega]
  ·have dd:=λ(p j:Nat) (hp:p+1+j=m)=>ZdK (u:=u) Tn hp
   rw[hv] at dd
   refine FB.pair (m:=m - 6) (FB.pair (m:=m - 4) (FB.pair (m:=m - 2) (FB.pair fb Tn (by omega) (by omega) ?_ ?_) (by omega) (by omega) (by omega) ?_ ?_) (by omega) (by omega) (by omega) ?_ ?_) (by omega) (by omega) (by omega) ?_ ?_
   ·rw[dd (m - 1) 0 (by omega)];congr 1;omega
   ·rw[dd (m - 2) 1 (by omega)];congr 1;omega
   ·rw[dd (m - 3) 2 (by omega)];congr 1;omega
   ·rw[dd (m - 4) 3 (by omega)];congr 1;omega
   ·rw[dd (m - 5) 4 (by omega)];congr 1;omega
   ·rw[dd (m - 6) 5 (by omega)];congr 1;omega
   ·rw[dd (m - 7) 6 (by omega)];congr 1;omega
   ·rw[dd (m - 8) 7 (by omega)];congr 1;omega
 ·have d1:decide (8<=m)=false:=Za h8
  simp only[MF,t4,d1,Yu,MF,Zu,ZX,Yf,]
  exact⟨_,_,_,rfl,.inr ⟨by simp,rfl,by omega,t0,by rw[hv];exact t1,t4,Tn,_,rfl,fb⟩⟩
theorem fL(E:Env Zo fs fuel)(hk:k<3){nd u:Nat}{c:Option Nat}{r:Row}(hr:H.t.get b=some (.row r))(hb:b<H.nx)(YL:H.ro<=b)(hs:r.size=24)(how:r.own=true)(Ly:r.fz=0)(Ke:nd<=20)(hu:u<18446744073709551616)(ng:u<10^nd):
  ∃R,ZG (LK Zo fs fuel k) fs fuel (n+1) 194 [.slice b 1 nd c,nI .u64 u] H=.ret (.tup []) (H.put b (.row R))∧FB r R nd 0 (ET nd u):=by
 have nn:Mc Zo fs fuel Ur Ts k 194 [.slice b 1 nd c,nI .u64 u] H=none:=ZB E.n194 (.inr rfl) _ _
 rw[ZF nn E.f194]
 simp only[Zfk,Zu,ZX,Yf,]
 generalize hL:WR (MF _) fuel _ _ _=L
 obtain⟨o,SY,H1,rfl,_,rfl,h8,z⟩:=Y9 (P:=λT=>FL H b nd u c r nd T H) (Q:=λo tm H'=>o=.exit 0∧ ∃m,m<8∧FL H b nd u c r m tm H')
  (λT hi=>Xk (FL H b nd u c r) (λo tm H'=>o=.exit 0∧ ∃m,m<8∧FL H b nd u c r m tm H')
   (λm tm H' h=>by
    obtain⟨o,Yp,H2,e,h⟩:=Zbv hb YL Ke hu _ _ m tm H' h
    refine⟨o,Yp,H2,e,?_⟩
    rcases h with h|⟨h1,h2,h3,h4⟩
    ·exact .inl h
    ·exact .inr ⟨h1,h2,m,h3,h4⟩) fuel nd T H (by have:=E.big;omega) hi) hL
  ⟨rfl,by rw[Sm,Nat.pow_zero,Nat.div_one];rfl,rfl,Zj _,r,(O9 hr).symm,hs,how,Ly,λi=>by rw[if_neg (by omega)]⟩
 obtain⟨z8,z⟩:=z
 have t0:=z.t0;have t1:=z.t1;have t4:=z.t4;have Tn:=z.le
 simp only[Pi,PO,Ah] at t0 t1 t4
 obtain⟨R,rfl,fb⟩:=z.heap
 have dd:=λ(p j:Nat) (hp:p+1+j=h8)=>ZdK (u:=u) Tn hp
 have xz:u/10^(nd - h8)<10^h8:=by
  rw[Qa (Nat.pow_pos (by decide)),<-Qj,show h8+(nd - h8)=nd by omega];exact ng
 generalize hv:u/10^(nd - h8)=v at t1 dd xz
 have s1:=fb.size;have s2:=fb.own;have s3:=fb.fz
 have z0:decide (0<0)=false:=rfl
 have z1:decide (0<1)=true:=rfl
 have hm:h8=0∨h8=1∨h8=2∨h8=3∨h8=4∨h8=5∨h8=6∨h8=7:=by omega
 rcases hm with rfl|rfl|rfl|rfl|rfl|rfl|rfl|rfl
 ·have hv3:v<1:=xz
  simp(disch:=omega) only[TF,UY,t1,t4,z0,Nat.reduceLeDiff,Yu,YK,QH,Zu,ZX,Zw,Zz,Yf,NK,LG,B6]
  refine⟨_,rfl,?_⟩
  exact fb
 ·have hv3:v<10:=xz
  simp(disch:=first|omega|simp only[ZY,ZZ]<;>omega) only[TF,UY,t0,t1,t4,z1,U7,Nat.reduceLeDiff,Xw,Yu,YK,U7,QH,MX,OH,Zv,Zu,ZX,Zw,Zz,Yf,NK,LG,B6]
  refine⟨_,rfl,?_⟩
  have e0:nI .u8 (48+v)=UZ (IK (v)):=by
   show AV.int .u8 (.ofNat _)=AV.int .u8 (.ofNat _)
   rw[MJ (by omega)]
  rw[e0]
  refine FB.one (fb) (by omega) ?_
  ·rw[dd 0 0 rfl];congr 1;omega
 ·have hv3:v<100:=xz
  simp(disch:=first|omega|simp only[ZY,ZZ]<;>omega) only[TF,UY,t0,t1,t4,z0,U7,Nat.reduceLeDiff,Nat.reduceSub,Nat.reduceAdd,Xw,We,pJ,pK,Yu,YK,Wy,U7,O5,Na,Nc,QH,OH,Zv,Zu,ZX,Zw,Zz,ZQ,Yf,NK,LG,B6]
  refine⟨_,rfl,?_⟩
  refine FB.pair (m:=2) (fb) (by omega) rfl rfl ?_ ?_
  ·rw[dd 1 0 rfl];congr 1;omega
  ·rw[dd 0 1 rfl];congr 1;omega
 ·have hv3:v<1000:=xz
  simp(disch:=first|omega|simp only[ZY,ZZ]<;>omega) only[TF,UY,t0,t1,t4,z1,U7,Nat.reduceLeDiff,Nat.reduceSub,Nat.reduceAdd,Xw,We,pJ,pK,Yu,YK,Wy,U7,O5,Na,Nc,QH,MX,OH,Zv,Zu,ZX,Zw,Zz,ZQ,Yf,NK,LG,B6]
  refine⟨_,rfl,?_⟩
  have e0:nI .u8 (48+v/100)=UZ (IK (v/100)):=by
   show AV.int .u8 (.ofNat _)=AV.int .u8 (.ofNat _)
   rw[MJ (by omega)]
  rw[e0]
  refine FB.one (FB.pair (m:=3) (fb) (by omega) rfl rfl ?_ ?_) (by omega) ?_
  ·rw[dd 2 0 rfl];congr 1;omega
  ·rw[dd 1 1 rfl];congr 1;omega
  ·rw[dd 0 2 rfl];congr 1;omega
 ·have hv3:v<10000:=xz
  simp(disch:=first|omega|simp only[ZY,ZZ]<;>omega) only[TF,UY,t0,t1,t4,z0,U7,Nat.reduceLeDiff,Nat.reduceSub,Nat.reduceAdd,Xw,We,pJ,pK,Yu,YK,Wy,U7,O5,Na,Nc,QH,OH,Zv,Zu,ZX,Zw,Zz,ZQ,Yf,NK,LG,B6]
  refine⟨_,rfl,?_⟩
  refine FB.pair (m:=2) (FB.pair (m:=4) (fb) (by omega) rfl rfl ?_ ?_) (by omega) rfl rfl ?_ ?_
  ·rw[dd 3 0 rfl];congr 1;omega
  ·rw[dd 2 1 rfl];congr 1;omega
  ·rw[dd 1 2 rfl];congr 1;omega
  ·rw[dd 0 3 rfl];congr 1;omega
 ·have hv3:v<100000:=xz
  simp(disch:=first|omega|simp only[ZY,ZZ]<;>omega) only[TF,UY,t0,t1,t4,z1,U7,Nat.reduceLeDiff,Nat.reduceSub,Nat.reduceAdd,Xw,We,pJ,pK,Yu,YK,Wy,U7,O5,Na,Nc,QH,MX,OH,Zv,Zu,ZX,Zw,Zz,ZQ,Yf,NK,LG,B6]
  refine⟨_,rfl,?_⟩
  have e0:nI .u8 (48+v/10000)=UZ (IK (v/10000)):=by
   show AV.int .u8 (.ofNat _)=AV.int .u8 (.ofNat _)
   rw[MJ (by omega)]
  rw[e0]
  refine FB.one (FB.pair (m:=3) (FB.pair (m:=5) (fb) (by omega) rfl rfl ?_ ?_) (by omega) rfl rfl ?_ ?_) (by omega) ?_
  ·rw[dd 4 0 rfl];congr 1;omega
  ·rw[dd 3 1 rfl];congr 1;omega
  ·rw[dd 2 2 rfl];congr 1;omega
  ·rw[dd 1 3 rfl];congr 1;omega
  ·rw[dd 0 4 rfl];congr 1;omega
 ·have hv3:v<1000000:=xz
  simp(disch:=first|omega|simp only[ZY,ZZ]<;>omega) only[TF,UY,t0,t1,t4,z0,U7,Nat.reduceLeDiff,Nat.reduceSub,Nat.reduceAdd,Xw,We,pJ,pK,Yu,YK,Wy,U7,O5,Na,Nc,QH,OH,Zv,Zu,ZX,Zw,Zz,ZQ,Yf,NK,LG,B6]
  refine⟨_,rfl,?_⟩
  refine FB.pair (m:=2) (FB.pair (m:=4) (FB.pair (m:=6) (fb) (by omega) rfl rfl ?_ ?_) (by omega) rfl rfl ?_ ?_) (by omega) rfl rfl ?_ ?_
  ·rw[dd 5 0 rfl];congr 1;omega
  ·rw[dd 4 1 rfl];congr 1;omega
  ·rw[dd 3 2 rfl];congr 1;omega
  ·rw[dd 2 3 rfl];congr 1;omega
  ·rw[dd 1 4 rfl];congr 1;omega
  ·rw[dd 0 5 rfl];congr 1;omega
 ·have hv3:v<10000000:=xz
  simp(disch:=first|omega|simp only[ZY,ZZ]<;>omega) only[TF,UY,t0,t1,t4,z1,U7,Nat.reduceLeDiff,Nat.reduceSub,Nat.reduceAdd,Xw,We,pJ,pK,Yu,YK,Wy,U7,O5,Na,Nc,QH,MX,OH,Zv,Zu,ZX,Zw,Zz,ZQ,Yf,NK,LG,B6]
  refine⟨_,rfl,?_⟩
  have e0:nI .u8 (48+v/10000/100)=UZ (IK (v/10000/100)):=by
   show AV.int .u8 (.ofNat _)=AV.int .u8 (.ofNat _)
   rw[MJ (by omega)]
  rw[e0]
  refine FB.one (FB.pair (m:=3) (FB.pair (m:=5) (FB.pair (m:=7) (fb) (by omega) rfl rfl ?_ ?_) (by omega) rfl rfl ?_ ?_) (by omega) rfl rfl ?_ ?_) (by omega) ?_
  ·rw[dd 6 0 rfl];congr 1;omega
  ·rw[dd 5 1 rfl];congr 1;omega
  ·rw[dd 4 2 rfl];congr 1;omega
  ·rw[dd 3 3 rfl];congr 1;omega
  ·rw[dd 2 4 rfl];congr 1;omega
  ·rw[dd 1 5 rfl];congr 1;omega
  ·rw[dd 0 6 rfl];congr 1;omega
theorem ay{l:Nat}(hl:l<n)(hlh:l<=h)(hh:h<=n)(b o:Nat)(k j:IntKind)(H:Zc):wC n 1 (.ptr b o) (some (nI k l)) (some (nI j h)) H=.val (.slice b (o+l) (h - l) (some (n - l))) H:=by
 show ZL (Nat.ble h n) (ZL (Nat.ble l h) (cond (Nat.beq l n) _ (OR.val (.slice b (o+l*1) (h - l) (some (n - l))) H)))=_
 rw[Zg hh,Zg hlh,Ym,Za (by omega),Xr];rfl
theorem vI(m:Nat):P7 (.ofNat m)=dec m:=rfl
theorem vJ(m:Nat):P7 (.negSucc m)=45::dec (m+1):=by unfold P7;rw[if_pos (Int.negSucc_lt_zero m)];rfl
theorem oO(k:IntKind)(m:Nat):AV.int k (.ofNat m)=nI k m:=rfl
theorem rl(E:Env Zo fs fuel){z:Int}(g:Sh H)(YL:H.ro<=H.nx)(hz1: -9223372036854775808<=z)(Ej:z<9223372036854775808):
  ∃H',ZG (LK Zo fs fuel 2) fs fuel (n+2) 155 [.int .i64 z,nI .i64 10] H=.ret (.str (P7 z)) H'∧Zp H H' []:=by
 rw[ZF (ZB E.n155 (.inl (by decide)) _ _) E.f155]
 cases z with
 |ofNat m=>
  have Ej:m<9223372036854775808:=by simp at Ej;omega
  by_cases h:m<100
  ·have es:=λ{j}=>Zk8 E (k:=2) (n:=j) (by decide) (H:=H) h
   have d0:decide (0<=m)=true:=Ze (Z1 _)
   have d1:decide (m<100)=true:=Ze h
   simp only[oO,d0,d1,es,ZO,WG,Z2,gK,Zu,ZX,Zw,Zz,Yf]
   exact⟨_,rfl,Zp.refl _ _⟩
  ·skip
   obtain⟨H1,Yo⟩:=WQ (H.new (.row ⟨262,1,24,.leaf,nI .u8 0,0,false,true,true⟩))
   have VH:H1.nx=H.nx+1:=by rw[<-Yo];rfl
   have Nn:H1.ro=H.ro:=by rw[<-Yo];rfl
   have k1:Zp H H1 []:=by rw[<-Yo];exact Zp.new H _ []
   have ga:H1.t.get H.nx=some (.row ⟨262,1,24,.leaf,nI .u8 0,0,false,true,true⟩):=by rw[<-Yo,ZC rfl]
   have hl:=O6 (m)
   have Nl:Oc (m)<=20:=xU (by decide) (Nat.lt_trans (show m<18446744073709551616 by omega) (by decide))
   have en:=λ{j}=>zS E (k:=2) (n:=j) (by decide) (H:=H1) (g.keep k1 (by simp)) (d:=m) (by omega) (by omega)
   obtain⟨R,ef,fb⟩:=fL E (k:=2) (n:=n) (by decide) (H:=H1) (b:=H.nx) (nd:=Oc (m)) (u:=m) (c:=some 23) ga (by omega) (by rw[Nn];exact YL) rfl rfl rfl Nl (by omega) (xP _)
   have s1:=fb.size;have s2:=fb.own;have s3:=fb.fz
   have el: ∀c,pX (.slice H.nx 1 (Oc m) c) (H1.put H.nx (.row R))=.val (.str (P7 (.ofNat m))) (H1.put H.nx (.row R)):=λc=>by
    refine BH (ZS _ _ _) (by rw[vI,MH]) (by rw[s1];omega) λi hi=>?_
    rw[fb.get,vI,if_pos (by omega),show 1+i - 1=i by omega];rfl
   have d0:decide (0<=m)=true:=Ze (Z1 _)
   have d1:decide (m<100)=false:=Za h
   have d2:decide (m<0)=false:=Za (Xa _)
   simp(disch:=omega) only[oO,d0,d1,d2,en,ef,el,Yo,x5,ay,Zt,SN,Nat.reduceSub,YQ,ZO,WG,SA,Z2,gK,Zu,ZX,Zw,Zz,Yf,WL]
   exact⟨_,rfl,k1.then_put λh=>absurd h (Vw _)⟩
 |negSucc m=>
  obtain⟨H1,Yo⟩:=WQ (H.new (.row ⟨262,1,24,.leaf,nI .u8 0,0,false,true,true⟩))
  have VH:H1.nx=H.nx+1:=by rw[<-Yo];rfl
  have Nn:H1.ro=H.ro:=by rw[<-Yo];rfl
  have k1:Zp H H1 []:=by rw[<-Yo];exact Zp.new H _ []
  have ga:H1.t.get H.nx=some (.row ⟨262,1,24,.leaf,nI .u8 0,0,false,true,true⟩):=by rw[<-Yo,ZC rfl]
  have Nl:Oc (m+1)<=20:=xU (by decide) (Nat.lt_trans (show m+1<18446744073709551616 by omega) (by decide))
  have en:=λ{j}=>zS E (k:=2) (n:=j) (by decide) (H:=H1) (g.keep k1 (by simp)) (d:=m+1) (by omega) (by omega)
  obtain⟨R,ef,fb⟩:=fL E (k:=2) (n:=n) (by decide) (H:=H1) (b:=H.nx) (nd:=Oc (m+1)) (u:=m+1) (c:=some 23) ga (by omega) (by rw[Nn];exact YL) rfl rfl rfl Nl (by omega) (xP _)
  have s1:=fb.size;have s2:=fb.own;have s3:=fb.fz
  have el: ∀c,pX (.slice H.nx 0 (1+Oc (m+1)) c) (H1.put H.nx (.row (R.st 0 (nI .u8 45))))=.val (.str (P7 (.negSucc m))) (H1.put H.nx (.row (R.st 0 (nI .u8 45)))):=λc=>by
   refine BH (ZS _ _ _) (by rw[vJ,Zl,MH];omega) (by rw[Row.st_size,s1];omega) λi hi=>?_
   rw[Zt,Row.st_get,fb.get,vJ]
   by_cases h0:0=i
   ·subst h0;rw[if_pos rfl];rfl
   ·rw[if_neg h0,if_pos (by omega)]
    obtain⟨j,rfl⟩: ∃j,i=j+1:=⟨i - 1,by omega⟩
    rfl
  have e9:18446744073709551616 - (18446744073709551615 - m)=m+1:=by omega
  simp(disch:=first|omega|simp only[ZY,ZZ]<;>omega) only[en,ef,el,Yo,e9,x5,ay,ie,Zt,SN,Nat.reduceSub,YQ,Zcu,Zcm,rW,cb,G4,OH,Zv,Z2,gK,Zu,ZX,Zw,Zz,Yf,WL]
  exact⟨_,rfl,k1.then_put λh=>absurd h (Vw _)⟩
theorem ZfK(E:Env Zo fs fuel)(hk:3<=k){z:Int}(g:Sh H)(YL:H.ro<=H.nx)(hz1: -9223372036854775808<=z)(Ej:z<9223372036854775808):
  ZG (LK Zo fs fuel k) fs fuel (n+1) 155 [.int .i64 z,nI .i64 10] H=.ret (.str (P7 z)) H:=by
 obtain⟨H',e,g⟩:=rl E (n:=898) (H:=H) g YL hz1 Ej
 exact Xd (r:=2) rfl rfl e g (rfl) hk
theorem xk(E:Env Zo fs fuel){z:Int}(g:Sh H)(YL:H.ro<=H.nx)(hz1: -9223372036854775808<=z)(Ej:z<9223372036854775808):
  ∃H',ZG (LK Zo fs fuel 3) fs fuel (n+2) 109 [.int .i64 z,nI .i64 10] H=.ret (.str (P7 z)) H'∧Zp H H' []:=by
 rw[ZF (ZB E.n109 (.inl (by decide)) _ _) E.f109]
 have es:=λ{j}=>ZfK E (k:=3) (n:=j) (by decide) g YL hz1 Ej
 simp only[es,ZeX,Zu,ZX,Zw,Yf]
 exact⟨_,rfl,Zp.refl _ _⟩
theorem fO(E:Env Zo fs fuel)(hk:4<=k){z:Int}(g:Sh H)(YL:H.ro<=H.nx)(hz1: -9223372036854775808<=z)(Ej:z<9223372036854775808):
  ZG (LK Zo fs fuel k) fs fuel (n+1) 109 [.int .i64 z,nI .i64 10] H=.ret (.str (P7 z)) H:=by
 obtain⟨H',e,g⟩:=xk E (n:=898) (H:=H) g YL hz1 Ej
 exact Xd (r:=3) rfl rfl e g (rfl) hk
theorem Fb(h:i<s.length):(s.map UZ).getD i .unk=nI .u8 (s.getD i 0).toNat:=by
 rw[Zf,YR,Zi h,Zf,Zi h];rfl
theorem yE(a b:List UInt8):X5 a*10^b.length<=X5 (a++b):=by
 have: ∀(k:Nat) (b:List UInt8),b.length=k->X5 a*10^k<=X5 (a++b):=by
  intro k
  induction k with
  |zero=>intro b h;have:b=[]:=Yj.1 h;subst this;simp
  |succ k ih=>
   intro b h
   obtain⟨b,x,rfl⟩: ∃b' x,b=b'++[x]:=⟨b.dropLast,b.getLast (by intro e;subst e;simp at h),(List.dropLast_concat_getLast _).symm⟩
   rw[Zm] at h
   have:=ih b (by simp at h;omega)
   rw[<-Yl,Ip,Rs,<-Nat.mul_assoc]
   omega
 exact this _ b rfl
theorem iy(h:i<s.length):s.take (i+1)=s.take i++[s.getD i 0]:=by
 rw[TW,Zi h,Zf,Zi h];rfl
theorem oc(h:i<s.length):X5 (s.take (i+1))=10*X5 (s.take i)+((s.getD i 0).toNat - 48):=by rw[iy h,Ip]
theorem oa(h:i<s.length):10*X5 (s.take i)<=X5 s:=by
 have e:=yE (s.take i) (s.drop i)
 rw[WI,Z7] at e
 have:10<=10^(s.length - i):=by
  obtain⟨k,hk⟩: ∃k,s.length - i=k+1:=⟨s.length - i - 1,by omega⟩
  rw[hk,Rs]
  have:=Nat.one_le_pow k 10 (by decide)
  omega
 have:=Nat.mul_le_mul_left (X5 (s.take i)) this
 omega
theorem p9(h:i<=s.length):X5 (s.take i)<=X5 s:=by
 have e:=yE (s.take i) (s.drop i)
 rw[WI] at e
 have:=Nat.one_le_pow (s.drop i).length 10 (by decide)
 have:=Nat.mul_le_mul_left (X5 (s.take i)) this
 omega
def wZ(s:List UInt8):Prop:= ∀i,i<s.length->48<=(s.getD i 0).toNat∧(s.getD i 0).toNat<=57
def JZ(k:Nat):AV:=.iface 295 (nI .i64 k)
def puV(s:List UInt8):AV:=if X5 s<18446744073709551616 then .tup [nI .u64 (X5 s),.nili] else .tup [nI .u64 18446744073709551615,JZ 1]
structure PU(H1:Zc)(b:Nat)(s:List UInt8)(m:Nat)(tm:TM)(H:Zc):Prop where
 heap:H=H1
 t1:Xz tm=nI .i64 10
 t8:Wk tm=.bool false
 t10:YW tm=nI .u64 1844674407370955162
 t11:Xf tm=nI .u64 18446744073709551615
 t12:Xq tm=.bool false
 t99:L8 tm=.slice b 0 s.length none
 t100:N4 tm=nI .i64 s.length
 i: ∃i,i+m=s.length∧OZ tm=nI .i64 i∧Xx tm=nI .u64 (X5 (s.take i))∧X5 (s.take i)<18446744073709551616
def PQ(H1:Zc)(s:List UInt8)(o:Out)(tm:TM)(H:Zc):Prop:=H=H1∧((o=.ret∧Wi tm=nI .u64 18446744073709551615∧Vk tm=JZ 1∧18446744073709551616<=X5 s)∨(o=.exit 3∧Xq tm=.bool false∧Xx tm=nI .u64 (X5 s)∧X5 s<18446744073709551616))
theorem Zc9{H1:Zc}(hs:wZ s)(hl:s.length<9223372036854775807)(gb:H1.t.get b=some (rG 5 1 (s.map UZ) 0 true true false))(cx:Ctx)(x:X)(m:Nat)(tm:TM)(H:Zc)(h:PU H1 b s m tm H):
  ∃o Yp H',Qz cx tm H x=.ok o Yp H' x∧((o=.normal∧ ∃k,k<m∧PU H1 b s k Yp H')∨(o≠.normal∧PQ H1 s o Yp H')):=by
 obtain⟨rfl,t1,t8,t10,t11,t12,t99,t100,i,him,aK,t13,hn⟩:=h
 simp only[PO,Ct,f7,f8,f9,ZdO,Zje,ZfQ,ZfR] at t1 t8 t10 t11 t12 t13 t99 t100 aK
 by_cases hi:i<s.length
 ·have d1:decide (i<s.length)=true:=Ze hi
  obtain⟨g1,g2⟩:=hs i hi
  have eu:=oc hi
  have em:=oa hi
  have ee:=p9 (s:=s) (i:=i+1) hi
  generalize hx:(s.getD i 0).toNat=y at g1 g2 eu
  generalize hu:X5 (s.take i)=u at t13 hn eu em
  have d2:decide (y=95)=false:=Za (by omega)
  have d3:decide (48<=y)=true:=Ze g1
  have d4:decide (y<=57)=true:=Ze g2
  have d5:decide (10<=y - 48)=false:=Za (by omega)
  by_cases hc:1844674407370955162<=u
  ·have d6:decide (1844674407370955162<=u)=true:=Ze hc
   simp(disch:=first|omega|simp only[ZY,ZZ]<;>omega) only[Qz,t1,t10,t11,t13,t99,t100,aK,d1,d2,d3,d4,d5,d6,hx,gb,ZJ,Fb,Xw,ZO,WG,Yu,Z2,wE,MX,Qz,Zu,ZX,Zw,Zz,Yf,NK,LG]
   exact⟨_,_,_,rfl,.inr ⟨by simp,rfl,.inl ⟨rfl,rfl,rfl,by omega⟩⟩⟩
  ·have d6:decide (1844674407370955162<=u)=false:=Za hc
   by_cases ho:u*10+(y - 48)<18446744073709551616
   ·have e1:(u*10+(y - 48)) % 18446744073709551616=u*10+(y - 48):=ZV ho
    have d7:decide (u*10+(y - 48)<u*10)=false:=Za (by omega)
    have d8:decide (18446744073709551615<u*10+(y - 48))=false:=Za (by omega)
    simp(disch:=first|omega|simp only[ZY,ZZ]<;>omega) only[Qz,t1,t10,t11,t13,t99,t100,aK,d1,d2,d3,d4,d5,d6,d7,d8,e1,hx,gb,ZJ,Fb,Xw,ZO,WG,Yu,YK,Z2,wE,MX,SA,ux,wW,YQ,Qz,Zu,ZX,Zz,Yf,NK,LG,B6]
    exact⟨_,_,_,rfl,.inl ⟨rfl,m - 1,by omega,rfl,t1,t8,t10,t11,t12,t99,t100,i+1,by omega,rfl,by rw[eu,Ty 10 u];rfl,by rw[eu];omega⟩⟩
   ·have e1:(u*10+(y - 48)) % 18446744073709551616=u*10+(y - 48) - 18446744073709551616:=by omega
    have d7:decide (u*10+(y - 48) - 18446744073709551616<u*10)=true:=Ze (by omega)
    simp(disch:=first|omega|simp only[ZY,ZZ]<;>omega) only[Qz,t1,t10,t11,t13,t99,t100,aK,d1,d2,d3,d4,d5,d6,d7,e1,hx,gb,ZJ,Fb,Xw,ZO,WG,Yu,Z2,wE,MX,SA,ux,wW,Qz,Zu,ZX,Zw,Zz,Yf,NK,LG,B6]
    exact⟨_,_,_,rfl,.inr ⟨by simp,rfl,.inl ⟨rfl,rfl,rfl,by omega⟩⟩⟩
 ·have d1:decide (i<s.length)=false:=Za hi
  obtain rfl:i=s.length:=by omega
  rw[U4] at t13 hn
  simp only[Qz,t100,aK,d1,ZO,Qz,Zu,ZX,NK,]
  exact⟨_,_,_,rfl,.inr ⟨by simp,rfl,.inr ⟨rfl,t12,t13,hn⟩⟩⟩
theorem As(E:Env Zo fs fuel)(hs:wZ s)(VY:s≠[])(hl:s.length<1000000):
  ∃H',ZG (LK Zo fs fuel 1) fs fuel (n+2) 240 [.str s,nI .i64 10,nI .i64 64] H=.ret (puV s) H'∧Zp H H' []:=by
 rw[ZF (ZB E.n240 (.inl (by decide)) _ _) E.f240]
 have d0:decide (s=[])=false:=Za VY
 have m1:(1*2^64) % 18446744073709551616=0:=rfl
 obtain⟨H1,Yo⟩:=WQ (H.new (rG 5 1 (s.map UZ) 0 true true false))
 have k1:Zp H H1 []:=by rw[<-Yo];exact Zp.new H _ []
 have gb:H1.t.get H.nx=some (rG 5 1 (s.map UZ) 0 true true false):=by rw[<-Yo,ZC rfl]
 have es: ∀H,Az (nI .u64 0) (nI .u64 1) H=.val (nI .u64 18446744073709551615) H:=λH=>rfl
 simp(disch:=omega) only[d0,m1,es,Yo,Z2,ZO,WG,YK,SA,SK,Nat.reduceLeDiff,Xa,decide_false,Vw,Zfq,Zu,ZX,Zw,Zz,Nat.reducePow,reduceCtorEq,Yf,RA,NK]
 generalize hL:WR (Qz _) fuel _ _ _=L
 obtain⟨o,SY,H2,rfl,_,rfl,z⟩:=Y9 (P:=λT=>PU H1 H.nx s s.length T H1) (Q:=PQ H1 s)
  (λT hi=>Xk (PU H1 H.nx s) (PQ H1 s) (λm tm H' h=>Zc9 hs (by omega) gb _ _ m tm H' h) fuel s.length T H1 (by have:=E.big;omega) hi) hL
  ⟨rfl,rfl,rfl,rfl,rfl,rfl,rfl,rfl,0,by omega,rfl,rfl,by rw[Um];decide⟩
 unfold puV
 rcases z with⟨rfl,z6,z7,hu⟩|⟨rfl,z12,z13,hu⟩
 ·simp only[GV,ek] at z6 z7
  rw[if_neg (by omega)]
  simp only[z6,z7,Zu,Zw,Yf,]
  exact⟨_,rfl,k1⟩
 ·simp only[f9,ZdO] at z12 z13
  rw[if_pos hu]
  simp only[z12,z13,Zu,ZX,Zw,Yf,B6]
  exact⟨_,rfl,k1⟩
theorem jK(E:Env Zo fs fuel)(hk:2<=k)(hs:wZ s)(VY:s≠[])(hl:s.length<1000000):
  ZG (LK Zo fs fuel k) fs fuel (n+1) 240 [.str s,nI .i64 10,nI .i64 64] H=.ret (puV s) H:=by
 obtain⟨H',e,g⟩:=As E (n:=898) (H:=H) hs VY hl
 exact Xd (r:=1) rfl rfl e g (by unfold puV;split<;>rfl) hk
theorem Zfy:wO Go.Proofs.Tryz.prog (Ac Go.Proofs.Tryz.prog 9) 295 (nI .i64 1) (nI .i64 1)=some true:=by kernel_rfl
theorem Znd:wO Go.Proofs.Tryz.prog (Ac Go.Proofs.Tryz.prog 9) 295 (nI .i64 1) (nI .i64 2)=some false:=by kernel_rfl
def q9(neg:Bool)(u:Nat):AV:=if neg then(if u<=9223372036854775808 then .tup [.int .i64 (-(u:Int)),.nili] else .tup [.int .i64 (.negSucc 9223372036854775807),JZ 1]) else(if u<9223372036854775808 then .tup [nI .i64 u,.nili] else .tup [nI .i64 9223372036854775807,JZ 1])
theorem ZoT(u:Nat)(h:0<u):AV.int .i64 (.negSucc (u - 1))=AV.int .i64 (-(u:Int)):=by congr 1;omega
theorem Ar(E:Env Zo fs fuel){neg:Bool}(hs:wZ s)(VY:s≠[])(hl:s.length<1000000):
  ∃H',ZG (LK Zo fs fuel 2) fs fuel (n+2) 203 [.str (if neg then 45::s else s),nI .i64 10,nI .i64 64] H=.ret (q9 neg (X5 s)) H'∧Zp H H' []:=by
 rw[ZF (ZB E.n203 (.inl (by decide)) _ _) E.f203]
 have hp:0<s.length:=XU.2 VY
 obtain⟨g1,g2⟩:=hs 0 hp
 have m1:(1*2^63) % 18446744073709551616=9223372036854775808:=rfl
 have ep:=λ{j}=>jK E (k:=2) (n:=j) (by decide) (H:=H) hs VY hl
 unfold puV JZ at ep
 cases neg with
 |false=>
  have e0:(if (false:Bool)=true then(45::s:List UInt8) else s)=s:=rfl
  have d0:decide (s=[])=false:=Za VY
  have d1:decide ((s.getD 0 0).toNat=43)=false:=Za (by omega)
  have d2:decide ((s.getD 0 0).toNat=45)=false:=Za (by omega)
  unfold q9 JZ
  rw[e0,if_neg (by simp)]
  by_cases h1:X5 s<18446744073709551616
  ·rw[if_pos h1] at ep
   by_cases h2:X5 s<9223372036854775808
   ·have d3:decide (9223372036854775808<=X5 s)=false:=Za (by omega)
    rw[if_pos h2]
    simp(disch:=omega) only[d0,d1,d2,d3,m1,ep,Yu,Z2,WB,Wy,SA,SK,TE,Nat.reduceSub,Nat.reducePow,Nat.reduceMul,B8,Zu,ZX,Zw,Zz,Nat.reducePow,reduceCtorEq,Yf,WL,RA]
    exact⟨_,rfl,Zp.refl _ _⟩
   ·have d3:decide (9223372036854775808<=X5 s)=true:=Ze (by omega)
    rw[if_neg h2]
    simp(disch:=omega) only[d0,d1,d2,d3,m1,ep,Yu,Z2,WB,Wy,SA,SK,sa,TE,Nat.reduceSub,Nat.reducePow,Nat.reduceMul,B8,Zu,ZX,Zw,Zz,Nat.reducePow,reduceCtorEq,Yf,WL]
    exact⟨_,rfl,Zp.refl _ _⟩
  ·rw[if_neg h1] at ep
   rw[if_neg (by omega)]
   simp(disch:=omega) only[d0,d1,d2,m1,ep,Nat.reduceLeDiff,Zfy,Yu,Z2,WB,Wy,SA,SK,sa,TE,Nat.reduceSub,Nat.reducePow,Nat.reduceMul,B8,Zu,ZX,Zw,Zz,Nat.reducePow,reduceCtorEq,Yf,WL]
   exact⟨_,rfl,Zp.refl _ _⟩
 |true=>
  have e0:(if (true:Bool)=true then(45::s:List UInt8) else s)=45::s:=rfl
  have d1:UInt8.toNat 45=45:=rfl
  have d2:(45::s:List UInt8).drop 1=s:=rfl
  have d5:1<=(45::s:List UInt8).length:=by simp
  unfold q9 JZ
  rw[e0,if_pos rfl]
  by_cases h1:X5 s<18446744073709551616
  ·rw[if_pos h1] at ep
   by_cases h2:X5 s<=9223372036854775808
   ·have d3:decide (9223372036854775808<X5 s)=false:=Za (by omega)
    rw[if_pos h2]
    by_cases h3:X5 s=0
    ·rw[h3] at ep d3 ⊢
     simp(disch:=omega) only[d1,d2,d3,m1,ep,YK,Z2,WB,XO,Wy,SA,SK,TE,xV,Nat.reduceEqDiff,Nat.reduceSub,Nat.reducePow,Nat.reduceMul,B8,Zu,ZX,Zw,Zz,Nat.reducePow,Nat.reduceEqDiff,reduceCtorEq,Yf,WL,RA]
     exact⟨_,rfl,Zp.refl _ _⟩
    ·rw[<-ZoT _ (by omega)]
     by_cases h4:X5 s=9223372036854775808
     ·rw[h4] at ep d3 ⊢
      simp(disch:=omega) only[d1,d2,d3,m1,ep,YK,Z2,WB,XO,Wy,SA,SK,zK,zR,Nat.reduceEqDiff,Nat.reduceSub,Nat.reducePow,Nat.reduceMul,B8,Zu,ZX,Zw,Zz,Nat.reducePow,Nat.reduceEqDiff,reduceCtorEq,Yf,WL,RA]
      exact⟨_,rfl,Zp.refl _ _⟩
     ·simp(disch:=omega) only[d1,d2,d3,m1,ep,YK,Z2,WB,XO,Wy,SA,SK,TE,d9,Nat.reduceEqDiff,Nat.reduceSub,Nat.reducePow,Nat.reduceMul,B8,Zu,ZX,Zw,Zz,Nat.reducePow,Nat.reduceEqDiff,reduceCtorEq,Yf,WL,RA]
      exact⟨_,rfl,Zp.refl _ _⟩
   ·have d3:decide (9223372036854775808<X5 s)=true:=Ze (by omega)
    rw[if_neg h2]
    simp(disch:=omega) only[d1,d2,d3,m1,ep,YK,Z2,WB,XO,Wy,SA,SK,zK,zR,Nat.reduceEqDiff,Nat.reduceSub,Nat.reducePow,Nat.reduceMul,B8,Zu,ZX,Zw,Zz,Nat.reducePow,Nat.reduceEqDiff,reduceCtorEq,Yf,WL,RA]
    exact⟨_,rfl,Zp.refl _ _⟩
  ·rw[if_neg h1] at ep
   rw[if_neg (by omega)]
   simp(disch:=omega) only[d1,d2,m1,ep,Zfy,YK,Z2,WB,XO,Wy,SA,SK,Nat.reduceEqDiff,Nat.reduceSub,Nat.reducePow,Nat.reduceMul,B8,Zu,ZX,Zw,Zz,Nat.reducePow,Nat.reduceEqDiff,reduceCtorEq,Yf,WL]
   exact⟨_,rfl,Zp.refl _ _⟩
theorem z4(E:Env Zo fs fuel)(hk:3<=k){neg:Bool}(hs:wZ s)(VY:s≠[])(hl:s.length<1000000):
  ZG (LK Zo fs fuel k) fs fuel (n+1) 203 [.str (if neg then 45::s else s),nI .i64 10,nI .i64 64] H=.ret (q9 neg (X5 s)) H:=by
 obtain⟨H',e,g⟩:=Ar E (n:=898) (H:=H) hs VY hl
 exact Xd (r:=2) rfl rfl e g (by unfold q9;split<;>split<;>rfl) hk
theorem V7.all{r:Row}{l vs:List AV}(h:V7 r l)(hv:vs.length=l.length):V7 (r.setCells (XM r.cells 0 vs)) vs:=by
 have:=h.store (o:=0) (vs:=vs) (by omega)
 rw[Um,Zt,hv,List.drop_length,Xu,Xp] at this
 exact this
def ZkC(e sz bytes:Nat)(zs:List AV)(l c:AV)(H:Zc):OR:=SW l λl=>SW c λc=>ZL (Nat.ble 1 sz)<|ZL (Nat.ble l c) (ZL (Nat.ble c 140737488355328)<|ZL (Nat.ble (Nat.mul c bytes) 140737488355328) (dW H e sz l c zs))
theorem uJ(e sz bytes:Nat)(zs:List AV)(l c:Yc)(tm:TM)(H:Zc):CS e sz bytes zs l c tm H=ZkC e sz bytes zs (l tm) (c tm) H:=rfl
def rZ(e n:Nat)(v:AV):Row:=⟨e,1,n,.leaf,v,0,false,true,true⟩
theorem qt(h:n<=140737488355328)(k j:IntKind)(e:Nat)(v:AV)(H:Zc):ZkC e 1 1 [v] (nI k n) (nI j n) H=.val (.slice H.nx 0 n none) (H.new (.row (rZ e n v))):=by
 show ZL (Nat.ble 1 1) (ZL (Nat.ble n n) (ZL (Nat.ble n 140737488355328) (ZL (Nat.ble (n*1) 140737488355328) (ZL (Nat.beq 1 1) _))))=_
 rw[Zg (Zj n),Xr,Zg h];rfl
theorem mV{r:Row}{c:Option Nat}(h0:s≠[])(hr:H.t.get b=some (.row r))(hs:r.size=s.length)(how:r.own=true)(YL:H.ro<=b)(Ly:r.fz=0):
  oD 1 (.slice b 0 s.length c) (.str s) H=.val (nI .i64 s.length) (H.put b (.row (r.setCells (XM r.cells 0 (s.map UZ))))):=by
 have hp:=XU.2 h0
 have hm:Kr (Ng s.length s)=s.map UZ:=by rw[PZ,U4,He];rfl
 have e:Me s.length s.length=s.length:=by unfold Me;rw[Zg (Zj _)];rfl
 show SO (Me s.length (YH s)) (λn=>Wt H 1 (.str s) n λnew=>cond (Nat.beq n 0) (.val (.int .i64 0) H) (Y3 H b λr=>ZL (H.may r b) (ZL (Nat.ble r.fz 0) (ZL (Nat.ble (0+n*1) r.size) (.val (.int .i64 (.ofNat n)) (H.put b (.row (r.setCells (XM r.cells 0 new)))))))))=_
 have e2:Nat.beq s.length 0=false:=by rw[Ym];exact Za (by omega)
 have h1:H.may r b=true:=by unfold Zc.may;rw[how,Zg YL];rfl
 rw[Pe,YC,e]
 unfold Wt
 rw[e2]
 simp only[cond_false]
 show Y3 H b (λr=>ZL (H.may r b) (ZL (Nat.ble r.fz 0) (ZL (Nat.ble (0+s.length*1) r.size) (.val (nI .i64 s.length) (H.put b (.row (r.setCells (XM r.cells 0 (Kr (Ng s.length s))))))))))=_
 unfold Y3
 rw[hr]
 show ZL (H.may r b) (ZL (Nat.ble r.fz 0) (ZL (Nat.ble (0+s.length*1) r.size) (.val (nI .i64 s.length) (H.put b (.row (r.setCells (XM r.cells 0 (Kr (Ng s.length s)))))))))=_
 rw[h1,Ly,hs,hm,Xr,Zt,Zg (Zj s.length)];rfl
theorem iD{r:Row}(h0:s≠[])(hl:s.length<=140737488355328)(hr:H.t.get b=some (.row r))(hc:V7 r (s.map UZ))(he:r.elem=5)(sE:r.sm=false)(how:r.own=true)(YL:H.ro<=b)(k:IntKind):
  ∃r',so 5 (.ptr b 0) (nI k s.length) H=.val (.str s) (H.put b (.row r')):=by
 have hp:=XU.2 h0
 have hsz:r.size=s.length:=by rw[hc.size,Zr]
 refine⟨⟨r.elem,r.sz,r.size,r.cells,r.dflt,cond (Nat.ble r.fz (Nat.add 0 s.length)) (Nat.add 0 s.length) r.fz,r.sm,r.own,r.exact⟩,?_⟩
 ·show cond (Nat.beq s.length 0) _ (ZL (Nat.ble s.length 140737488355328) (Y3 H b _))=_
  rw[Ym,Za (by omega),Zg hl]
  unfold Y3
  rw[hr]
  show ZL (Nat.beq r.elem 5) (ZL (cond r.sm false (H.may r b)) (ZL (Nat.ble (0+s.length) r.size) (Rz _ (loadN r 0 s.length))))=_
  have Rb:H.may r b=true:=by unfold Zc.may;rw[how,Zg YL];rfl
  rw[he,sE,Rb,Zg (by omega),hc.load (by rw[Zr];omega),Ye,ZM (by rw[Zr];exact Zj _),Nh]
  rfl
theorem sX(E:Env Zo fs fuel)(VY:s≠[])(hl:s.length<1000000)(YL:H.ro<=H.nx):
  ∃H',ZG (LK Zo fs fuel 0) fs fuel (n+2) 263 [.str s] H=.ret (.str s) H'∧Zp H H' []:=by
 rw[ZF (ZB E.n263 (.inl (by decide)) _ _) E.f263]
 have hp:=XU.2 VY
 have d0:decide (s.length=0)=false:=Za (by omega)
 obtain⟨H1,Yo⟩:=WQ (H.new (.row (rZ 5 s.length (nI .u8 0))))
 have k1:Zp H H1 []:=by rw[<-Yo];exact Zp.new H _ []
 have Nn:H1.ro=H.ro:=by rw[<-Yo];rfl
 have ga:H1.t.get H.nx=some (.row (rZ 5 s.length (nI .u8 0))):=by rw[<-Yo,ZC rfl]
 have cz:V7 (rZ 5 s.length (nI .u8 0)) (List.replicate s.length (nI .u8 0)):=V7.zero ..
 have cp:=mV (c:=none) VY ga rfl rfl (by rw[Nn];exact YL) rfl
 generalize o7:(rZ 5 s.length (nI .u8 0)).setCells (XM (rZ 5 s.length (nI .u8 0)).cells 0 (s.map UZ))=r2 at cp
 have c2:V7 r2 (s.map UZ):=by rw[<-o7];exact cz.all (by simp)
 obtain⟨r3,us⟩:=iD (H:=H1.put H.nx (.row r2)) VY (by omega) (ZS ..) c2 (by rw[<-o7];rfl) (by rw[<-o7];rfl) (by rw[<-o7];rfl) (by rw[NU,Nn];exact YL) .i64
 simp(disch:=omega) only[d0,Yo,cp,us,Z2,Yv,uJ,qt,Xw,Zv,Zfs,Zu,ZX,Zw,Yf]
 exact⟨_,rfl,k1.then_put λh=>absurd h (Vw _)⟩
theorem Zfu(E:Env Zo fs fuel)(hk:1<=k)(VY:s≠[])(hl:s.length<1000000)(YL:H.ro<=H.nx):
  ZG (LK Zo fs fuel k) fs fuel (n+1) 263 [.str s] H=.ret (.str s) H:=by
 obtain⟨H',e,g⟩:=sX E (n:=898) (H:=H) VY hl YL
 exact Xd (r:=0) rfl rfl e g (rfl) hk
theorem wp(E:Env Zo fs fuel)(hk:1<=k){f:List UInt8}(g:Sh H)(YL:H.ro<=H.nx)(VY:s≠[])(hl:s.length<1000000):
  ∃H',ZG (LK Zo fs fuel k) fs fuel (n+2) 242 [.str f,.str s] H=.ret (.ptr H.nx 0) H'∧Zp H H' []∧H.nx<H'.nx:=by
 have nn:Mc Zo fs fuel Ur Ts k 242 [.str f,.str s] H=none:=ZB E.n242 (.inr rfl) _ _
 rw[ZF nn E.f242]
 obtain⟨Qc,_,r,et,p,gr,hs,hv,hp⟩:=g
 have ec:=λ{j}=>Zfu E (k:=k) (n:=j) hk (H:=H) VY hl YL
 have iv:=λ(n:Nat) (t:T Obj)=>UC (.iface et (.ptr p 0)) n t (by unfold same;rw[Yb];unfold same;rw[Yb,Yb];rfl)
 have lv:Xt H.nx (.ptr p 0)=true:=Yq (by omega) 0
 simp(disch:=first|assumption|omega|(simp -implicitDefEqProofs only[ZY,ZZ]<;>first|assumption|omega)|decide) only[ec,gr,Dt,hv,iv,lv,VW,Zfr,Zu,ZX,Zw,Zz,ZQ,Yk,WW,Nat.reducePow,Nat.reduceDiv,Nat.reduceMod,reduceCtorEq,Yf]
 exact⟨_,rfl,Zp.new H _ [],YZ _⟩
theorem iB(E:Env Zo fs fuel)(hk:1<=k){f:List UInt8}{a b:AV}(g:Sh H)(YL:H.ro<=H.nx)(VY:s≠[])(hl:s.length<1000000):
  ∃H',ZG (LK Zo fs fuel k) fs fuel (n+3) 204 [.str f,.str s,a,b,JZ 1] H=.ret (.iface 298 (.ptr H.nx 0)) H'∧Zp H H' []∧H.nx<H'.nx:=by
 have nn:Mc Zo fs fuel Ur Ts k 204 [.str f,.str s,a,b,JZ 1] H=none:=ZB E.n204 (.inr rfl) _ _
 rw[ZF nn E.f204]
 obtain⟨H',er,kr⟩:=wp E (n:=n) hk (f:=f) g YL VY hl
 unfold JZ
 simp only[yV,Zfy,Znd,er,Zfo,Zu,ZX,Zw,Zz,Yf]
 exact⟨_,rfl,kr⟩
theorem nN(E:Env Zo fs fuel)(hk:3<=k){neg:Bool}{z:Int}(hs:wZ s)(VY:s≠[])(hl:s.length<999999)(hz:q9 neg (X5 s)=.tup [.int .i64 z,.nili]):
  ZG (LK Zo fs fuel k) fs fuel (n+2) 167 [.str (if neg then 45::s else s),nI .i64 10,nI .i64 64] H=.ret (.tup [.int .i64 z,.nili]) H:=by
 have nn:Mc Zo fs fuel Ur Ts k 167 [.str (if neg then 45::s else s),nI .i64 10,nI .i64 64] H=none:=ZB E.n167 (.inr rfl) _ _
 rw[ZF nn E.f167]
 have ep:=λ{j}=>z4 E (k:=k) (n:=j) hk (neg:=neg) (H:=H) hs VY (by omega)
 rw[hz] at ep
 simp only[ep,Zbd,Zu,ZX,Zw,Zz,Yf]
theorem uS(E:Env Zo fs fuel)(hk:3<=k){neg:Bool}{z:Int}(g:Sh H)(YL:H.ro<=H.nx)(hs:wZ s)(VY:s≠[])(hl:s.length<999999)(hz:q9 neg (X5 s)=.tup [.int .i64 z,JZ 1]):
  ∃H',ZG (LK Zo fs fuel k) fs fuel (n+4) 167 [.str (if neg then 45::s else s),nI .i64 10,nI .i64 64] H=.ret (.tup [.int .i64 z,.iface 298 (.ptr H.nx 0)]) H'∧Zp H H' []∧H.nx<H'.nx:=by
 have nn:Mc Zo fs fuel Ur Ts k 167 [.str (if neg then 45::s else s),nI .i64 10,nI .i64 64] H=none:=ZB E.n167 (.inr rfl) _ _
 rw[ZF nn E.f167]
 have ep:=λ{j}=>z4 E (k:=k) (n:=j) hk (neg:=neg) (H:=H) hs VY (by omega)
 rw[hz] at ep
 unfold JZ at ep
 have hw:(if neg=true then 45::s else s)≠[]:=by cases neg<;>simp[VY]
 have It:(if neg=true then 45::s else s).length<1000000:=by cases neg<;>simp<;>omega
 generalize(if neg=true then 45::s else s)=w at ep hw It
 obtain⟨H',et,kt⟩:=iB E (n:=n) (k:=k) (by omega) (f:=[80,97,114,115,101,73,110,116]) (s:=w) (a:=nI .i64 10) (b:=nI .i64 64) g YL hw It
 unfold JZ at et
 simp only[ep,et,Zbd,Zu,ZX,Zw,Yf]
 exact⟨_,rfl,kt⟩
theorem Zct{e sz:Nat}{l:List AV}{fz:Nat}{sm own ex:Bool}(h: ∀v∈l,Xt n v=true):kJ n (rG e sz l fz sm own ex):=by
 intro i hi
 have hi:i<YH l:=hi
 rw[YC] at hi
 rw[Fo,Zf,Zi hi]
 exact h _ (YJ hi)
theorem K1(n:Nat)(s:List UInt8)(i:Nat):kJ n (rd s i):=Zct λv hv=>by
 simp at hv;rcases hv with rfl|rfl<;>rfl
theorem Zh3(x:Nat)(H:Zc):P6 T3 Vs (.int .i64 (VS x [32,9,10,13] 0)) (nI .i64 0) H=.val (.bool (x==32||x==9||x==10||x==13)) H:=by
 by_cases h1:x=32
 ·subst h1;rfl
 ·by_cases h2:x=9
  ·subst h2;rfl
  ·by_cases h3:x=10
   ·subst h3;rfl
   ·by_cases h4:x=13
    ·subst h4;rfl
    ·have e:VS x [32,9,10,13] 0= -1:=by
      have b1:Nat.beq 32 x=false:=by rw[Ym];exact Za (by omega)
      have b2:Nat.beq 9 x=false:=by rw[Ym];exact Za (by omega)
      have b3:Nat.beq 10 x=false:=by rw[Ym];exact Za (by omega)
      have b4:Nat.beq 13 x=false:=by rw[Ym];exact Za (by omega)
      simp only[VS,UInt8.reduceToNat,b1,b2,b3,b4,cond_false]
     rw[e]
     have b1:(x==32)=false:=by simpa using h1
     have b2:(x==9)=false:=by simpa using h2
     have b3:(x==10)=false:=by simpa using h3
     have b4:(x==13)=false:=by simpa using h4
     rw[b1,b2,b3,b4];rfl
theorem mi(h:s.length<=i):Z5 s i=i:=by
 unfold Z5;rw[Y0 h];rfl
theorem Zdq(h:i<s.length)(hb:blk (s.getD i 0)=true):Z5 s (i+1)=Z5 s i:=by
 unfold Z5
 have e:s.getD i 0=s[i]:=by rw[Zf,Zi h];rfl
 rw[e] at hb
 rw[Xs h,Wn hb,Zl];omega
theorem mj(hb:blk (s.getD i 0)=false):Z5 s i=i:=by
 by_cases h:i<s.length
 ·unfold Z5
  have e:s.getD i 0=s[i]:=by rw[Zf,Zi h];rfl
  rw[e] at hb
  rw[Xs h,Wm (by rw[hb];simp)];rfl
 ·exact mi (by omega)
theorem R3(s:List UInt8)(i:Nat)(h:i<=s.length):Z5 s i<=s.length:=by
 unfold Z5
 have:=(List.takeWhile_sublist blk (l:=s.drop i)).length_le
 rw[Z7] at this;omega
theorem gC(c:UInt8):(c.toNat==32||c.toNat==9||c.toNat==10||c.toNat==13)=blk c:=rfl
theorem Zby(s:List UInt8)(i:Nat):(s.getD i 0).toNat<256:=(s.getD i 0).toNat_lt
theorem Cb(h:s.length<=i):s.getD i 0=0:=by rw[Zf,YF h];rfl
theorem jS(E:Env Zo fs fuel)(gr:H.t.get b=some (rd s i))(hb:b<H.nx)(YL:H.ro<=b):
  ∃H',ZG (LK Zo fs fuel 0) fs fuel (n+2) 117 [.ptr b 0] H=.ret (nI .u8 (s.getD i 0).toNat) H'∧Zp H H' []:=by
 rw[ZF (ZB E.n117 (.inl (by decide)) _ _) E.f117]
 have J4:H.t.get b=some (rH 120 [.str s,nI .i64 i]):=gr
 by_cases h:i<s.length
 ·have d1:decide (i<s.length)=true:=Ze h
  simp(disch:=first|omega|simp only[ZY,ZZ]<;>omega) only[d1,J4,ZJ,Yq,WB,ZO,Zv,Za2,Zu,ZX,Zw,Zz,ZQ,Yk,Nat.reducePow,Nat.reduceDiv,Nat.reduceMod,Yf]
  exact⟨_,rfl,Zp.refl _ _⟩
 ·have d1:decide (i<s.length)=false:=Za h
  rw[Cb (by omega)]
  simp(disch:=first|omega|simp only[ZY,ZZ]<;>omega) only[d1,J4,ZJ,Yq,ZO,Zv,Za2,Zu,ZX,Zw,Zz,ZQ,Yk,Yf]
  exact⟨_,rfl,Zp.refl _ _⟩
theorem uX(E:Env Zo fs fuel)(hk:1<=k)(gr:H.t.get b=some (rd s i))(hb:b<H.nx)(YL:H.ro<=b):
  ZG (LK Zo fs fuel k) fs fuel (n+1) 117 [.ptr b 0] H=.ret (nI .u8 (s.getD i 0).toNat) H:=by
 obtain⟨H',e,g⟩:=jS E (n:=898) (H:=H) gr hb YL
 exact Xd (r:=0) rfl rfl e g (rfl) hk
theorem lX(E:Env Zo fs fuel){x:Nat}(hx:x<256):
  ∃H',ZG (LK Zo fs fuel 0) fs fuel (n+2) 56 [.str s,nI .u8 x] H=.ret (.int .i64 (VS x s 0)) H'∧Zp H H' []:=by
 rw[ZF (ZB E.n56 (.inl (by decide)) _ _) E.f56]
 have ex:=λ{j}=>LL (Zo:=Zo) (fs:=fs) (fuel:=fuel) (Ur:=Ur) (Ts:=Ts) (k:=0) (n:=j) (f:=115) rfl (E.ix s x H hx)
 simp only[ex,c56,Zu,ZX,Zw,Yf]
 exact⟨_,rfl,Zp.refl _ _⟩
theorem Zkp(E:Env Zo fs fuel)(hk:1<=k){x:Nat}(hx:x<256):
  ZG (LK Zo fs fuel k) fs fuel (n+1) 56 [.str s,nI .u8 x] H=.ret (.int .i64 (VS x s 0)) H:=by
 obtain⟨H',e,g⟩:=lX E (n:=898) (H:=H) hx
 exact Xd (r:=0) rfl rfl e g (rfl) hk
theorem dt(E:Env Zo fs fuel){x:Nat}(hx:x<256):
  ∃H',ZG (LK Zo fs fuel 1) fs fuel (n+2) 13 [.str s,nI .u8 x] H=.ret (.int .i64 (VS x s 0)) H'∧Zp H H' []:=by
 rw[ZF (ZB E.n13 (.inl (by decide)) _ _) E.f13]
 have ex:=λ{j}=>Zkp E (k:=1) (n:=j) (by decide) (s:=s) (H:=H) hx
 simp only[ex,c13,Zu,ZX,Zw,Yf]
 exact⟨_,rfl,Zp.refl _ _⟩
theorem Zb6(E:Env Zo fs fuel)(hk:2<=k){x:Nat}(hx:x<256):
  ZG (LK Zo fs fuel k) fs fuel (n+1) 13 [.str s,nI .u8 x] H=.ret (.int .i64 (VS x s 0)) H:=by
 obtain⟨H',e,g⟩:=dt E (n:=898) (H:=H) hx
 exact Xd (r:=1) rfl rfl e g (rfl) hk
structure BL(H0:Zc)(b:Nat)(s:List UInt8)(i m:Nat)(tm:TM)(H:Zc):Prop where
 t0:Z4 tm=.ptr b 0
 j: ∃j,H=H0.put b (rd s j)∧Z5 s j=Z5 s i∧m=s.length - j∧j<=s.length+i
theorem ZaX(E:Env Zo fs fuel)(hb:b<H0.nx)(YL:H0.ro<=b)(hl:s.length<1000000)(hi:i<1000000)(y f d r)(x:X)(m:Nat)(tm:TM)(H:Zc)(h:BL H0 b s i m tm H):
  ∃o Yp H',MG ⟨ZG (LK Zo fs fuel 2) fs fuel (n+1),y,f,d,r⟩ tm H x=.ok o Yp H' x∧((o=.normal∧ ∃k,k<m∧BL H0 b s i k Yp H')∨(o≠.normal∧o=.exit 0∧H'=H0.put b (rd s (Z5 s i)))):=by
 obtain⟨t0,j,rfl,hj,hm,hj2⟩:=h
 simp only[Pi] at t0
 have gr:(H0.put b (rd s j)).t.get b=some (rH 120 [.str s,nI .i64 j]):=ZS ..
 have hx:=Zby s j
 have ei:=λ{m}=>Zb6 E (k:=2) (n:=m) (by decide) (s:=[32,9,10,13]) (H:=H0.put b (rd s j)) hx
 by_cases h:j<s.length
 ·have d1:decide (j<s.length)=true:=Ze h
  by_cases hk:blk (s.getD j 0)=true
  ·simp(disch:=first|omega|simp only[ZY,ZZ]<;>omega) only[MG,t0,d1,gr,ei,ZJ,Yq,WB,ZO,Zv,Zh3,gC,hk,YQ,XK,MG,Zu,ZX,Zw,Zz,ZQ,Yk,Nat.reducePow,Nat.reduceDiv,Nat.reduceMod,Yf]
   exact⟨_,_,_,rfl,.inl ⟨rfl,s.length - (j+1),by omega,t0,j+1,rfl,by rw[Zdq h hk,hj],rfl,by omega⟩⟩
  ·have hk:blk (s.getD j 0)=false:=by simpa using hk
   simp(disch:=first|omega|simp only[ZY,ZZ]<;>omega) only[MG,t0,d1,gr,ei,ZJ,Yq,WB,ZO,Zv,Zh3,gC,hk,MG,Zu,ZX,Zw,Zz,ZQ,Yk,Nat.reducePow,Nat.reduceDiv,Nat.reduceMod,Yf]
   exact⟨_,_,_,rfl,.inr ⟨by simp,rfl,by rw[<-hj,mj hk]⟩⟩
 ·have d1:decide (j<s.length)=false:=Za h
  simp(disch:=first|omega|simp only[ZY,ZZ]<;>omega) only[MG,t0,d1,gr,ZJ,Yq,ZO,Zv,MG,Zu,ZX,Zz,ZQ,Yk,Nat.reducePow,Nat.reduceDiv,Nat.reduceMod,Yf]
  exact⟨_,_,_,rfl,.inr ⟨by simp,rfl,by rw[<-hj,mi (by omega)]⟩⟩
theorem ph(E:Env Zo fs fuel)(gr:H.t.get b=some (rd s i))(hb:b<H.nx)(YL:H.ro<=b)(hl:s.length<1000000)(hi:i<1000000):
  FO H (ZG (LK Zo fs fuel 2) fs fuel (n+2) 60 [.ptr b 0] H) (.ret (.tup []) (H.put b (rd s (Z5 s i)))):=by
 rw[ZF (ZB E.n60 (.inl (by decide)) _ _) E.f60]
 simp only[c60,Zu,Yf]
 generalize hL:WR (MG _) fuel _ _ _=L
 obtain⟨o,SY,H1,rfl,_,rfl,rfl⟩:=Y9 (P:=λT=>BL H b s i (s.length - i) T H) (Q:=λo tm H'=>o=.exit 0∧H'=H.put b (rd s (Z5 s i)))
  (λT R0=>Xk (BL H b s i) (λo tm H'=>o=.exit 0∧H'=H.put b (rd s (Z5 s i))) (λm tm H' h=>ZaX E hb YL hl hi _ _ _ _ _ m tm H' h) fuel (s.length - i) T H (by have:=E.big;omega) R0) hL
  ⟨rfl,i,(O9 gr).symm,rfl,rfl,by omega⟩
 simp only[Zu,Zw,]
 exact⟨rfl,LE.put hb (K1 _ _ _) λ_ _=>rfl,rfl⟩
theorem Fm(E:Env Zo fs fuel)(hk:3<=k)(gr:H.t.get b=some (rd s i))(hb:b<H.nx)(YL:H.ro<=b)(hl:s.length<1000000)(hi:i<1000000):
  ZG (LK Zo fs fuel k) fs fuel (n+1) 60 [.ptr b 0] H=.ret (.tup []) (H.put b (rd s (Z5 s i))):=
 Bj (r:=2) rfl (by show(pu (H.t.get b)).map _=_;rw[gr,wq];rfl) (ph E (n:=898) (H:=H) gr hb YL hl hi) hk
theorem jR(E:Env Zo fs fuel)(gr:H.t.get b=some (rd s i))(hb:b<H.nx)(YL:H.ro<=b):
  FO H (ZG (LK Zo fs fuel 0) fs fuel (n+2) 61 [.ptr b 0] H) (.pan (MM 5 i) H):=by
 rw[ZF (ZB E.n61 (.inl (by decide)) _ _) E.f61]
 have J4:H.t.get b=some (rH 120 [.str s,nI .i64 i]):=gr
 simp only[J4,MM,c61,Zu,ZX,Zz,Yf]
 exact⟨rfl,LE.same λ_ _=>rfl,rfl⟩
theorem HE(E:Env Zo fs fuel)(hk:1<=k)(gr:H.t.get b=some (rd s i))(hb:b<H.nx)(YL:H.ro<=b):
  ZG (LK Zo fs fuel k) fs fuel (n+1) 61 [.ptr b 0] H=.pan (MM 5 i) H:=
 Bj (r:=0) rfl (by show(pu (H.t.get b)).map _=_;rw[gr,wq];rfl) (jR E (n:=898) (H:=H) gr hb YL) hk
theorem pi(E:Env Zo fs fuel){e:Nat}(gr:H.t.get b=some (rd s i))(hb:b<H.nx)(YL:H.ro<=b)(ge:H.t.get e=some (rH 118 [.ptr b 0])):
  ∃H',ZG (LK Zo fs fuel 1) fs fuel (n+2) 166 [.ptr e 0] H=.ret (.bool (dg (s.getD i 0))) H'∧Zp H H' []:=by
 rw[ZF (ZB E.n166 (.inl (by decide)) _ _) E.f166]
 have en:=λ{j}=>uX E (k:=1) (n:=j) (by decide) gr hb YL
 unfold dg
 generalize(s.getD i 0).toNat=y at en
 by_cases h:48<=y
 ·have d1:decide (48<=y)=true:=Ze h
  simp(disch:=first|omega|simp only[ZY,ZZ]<;>omega) only[ge,ZJ,en,d1,Yu,WG,YG,Zbc,Zu,ZX,Zw,Zz,Yf]
  exact⟨_,rfl,Zp.refl _ _⟩
 ·have d1:decide (48<=y)=false:=Za h
  simp(disch:=first|omega|simp only[ZY,ZZ]<;>omega) only[ge,ZJ,en,d1,Yu,Xy,Zbc,Zu,ZX,Zw,Zz,Yf]
  exact⟨_,rfl,Zp.refl _ _⟩
theorem bB(E:Env Zo fs fuel)(hk:2<=k){e:Nat}(gr:H.t.get b=some (rd s i))(hb:b<H.nx)(YL:H.ro<=b)(ge:H.t.get e=some (rH 118 [.ptr b 0])):
  ZG (LK Zo fs fuel k) fs fuel (n+1) 166 [.ptr e 0] H=.ret (.bool (dg (s.getD i 0))) H:=by
 obtain⟨H',e,g⟩:=pi E (n:=898) (H:=H) gr hb YL ge
 exact Xd (r:=1) rfl rfl e g (rfl) hk
end
end
end Go.AI
