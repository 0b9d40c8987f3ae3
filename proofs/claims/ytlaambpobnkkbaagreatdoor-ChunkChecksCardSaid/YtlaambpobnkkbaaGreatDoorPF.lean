/- The digest, by the document's code: walked, and the same: proved without conditions but those that each names. -/
import Derived.Test.YtlaambpobnkkbaaGreatDoorP8
import Derived.Test.YtlaambpobnkkbaaGreatDoorPE
import Derived.KernelRfl
set_option maxRecDepth 1000000
set_option maxHeartbeats 0
set_option linter.unusedVariables false
set_option linter.unusedSimpArgs false
namespace Go.AI
open Go
noncomputable section
theorem uB(a:UInt32){n:Nat}(h:n<32)(k:IntKind)(H:Heap):l4 (ZN a) (nI k n) H=.val (ZN (a>>>UInt32.ofNat n)) H:=GJ a h H
theorem dG(a:UInt32){n:Nat}(h:n<32)(k:IntKind)(H:Heap):dF (ZN a) (nI k n) H=.val (ZN (a<<<UInt32.ofNat n)) H:=DF a h H
theorem C2(n:Nat): ∀l:List UInt32,RJ n (l.map ZN)=true
 |[]=>rfl
 |_::l=>C2 n l
def Wg:List UInt32:=[1116352408,1899447441,3049323471,3921009573,961987163,1508970993,2453635748,2870763221,3624381080,310598401,607225278,1426881987,1925078388,2162078206,2614888103,3248222580,3835390401,4022224774,264347078,604807628,770255983,1249150122,1555081692,1996064986,2554220882,2821834349,2952996808,3210313671,3336571891,3584528711,113926993,338241895,666307205,773529912,1294757372,1396182291,1695183700,1986661051,2177026350,2456956037,2730485921,2820302411,3259730800,3345764771,3516065817,3600352804,4094571909,275423344,430227734,506948616,659060556,883997877,958139571,1322822218,1537002063,1747873779,1955562222,2024104815,2227730452,2361852424,2428436474,2756734187,3204031479,3329325298]
theorem qz{Zr:Lib}{fs:T CF}{fuel:Nat}(E:Env Zr fs fuel){n:Nat}{a:UInt32}{q:Nat}{H:Heap}(h0:0<q)(h1:q<32):
  ∃H',ZU (LK Zr fs fuel 0) fs fuel (n+2) 42 [ZN a,nI .i64 q] H=.ret (ZN (Jj a q)) H'∧Zw H H' []:=by
 rw[Z4 (Z3 E.n42 (.inl (by decide)) _ _) E.f42]
 have hsub:32 - q<32:=by omega
 have hr:a>>>UInt32.ofNat q|||a<<<UInt32.ofNat (32 - q)=Jj a q:=by unfold Jj;exact UInt32.or_comm _ _
 have s1:=λG=>uB a h1 .i64 G
 have s2:=λG=>dG a hsub .i64 G
 simp(disch:=omega) only[s1,s2,Vp,xM,hr,c42,ZI,Yw,ZG,Yl,Xm,Yt]
 exact⟨_,rfl,Zw.refl _ _⟩
theorem bP{Zr:Lib}{fs:T CF}{fuel:Nat}(E:Env Zr fs fuel){k n:Nat}(hk:1<=k){a:UInt32}{q:Nat}{H:Heap}(h0:0<q)(h1:q<32):
  ZU (LK Zr fs fuel k) fs fuel (n+1) 42 [ZN a,nI .i64 q] H=.ret (ZN (Jj a q)) H:=by
 obtain⟨H',e,g⟩:=qz E (n:=898) (H:=H) h0 h1
 exact YI (r:=0) rfl rfl e g (rfl) hk
def ZbS(R:Row)(vs:List AV):Row:=R.setCells (YQ R.cells 0 vs)
theorem IS{R:Row}{l vs:List AV}(h:Cells R l)(hl:vs.length=l.length):Cells (ZbS R vs) vs:=h.whole hl
theorem Ee{n b:Nat}{R:Row}{vs:List AV}{H:Heap}(hn:1<=n)(hv:vs.length=n)(hs:R.size=n)(how:R.own=true)(hfz:R.fz=0)(hro:H.ro<=b):tI n (some (.row R)) b 0 (.agg vs) H=.val YS (H.put b (.row (ZbS R vs))):=by
 show ZP (Nat.ble 1 n) (ZP (cond R.own (Nat.ble H.ro b) false) (ZP (Nat.ble (0+n) R.size) (ZP (Nat.ble R.fz 0) (ZP (Nat.beq (YL vs) n) (.val YS (H.put b (.row (R.setCells (YQ R.cells 0 vs)))))))))=_
 rw[how,cond_true,Zl hn,Zl hro,Zl (show 0+n<=R.size by omega),Zl (show R.fz<=0 by omega),Yz,hv,Ys];rfl
theorem eY{n:Nat}{R:Row}{l:List AV}(hc:Cells R l)(hn:l.length=n)(k:AV->CR):rV n true (some (.row R)) 0 k=k (.agg l):=by
 subst hn
 show cond (Nat.ble (0+l.length) R.size) (k (.agg (VB R 0 l.length))) .fail=_
 rw[hc.load (by omega),Zz,Xg,hc.size,Zf,Zl (Zo _)];rfl
theorem xj{n:Nat}{R:Row}{l:List AV}(hc:Cells R l)(hn:l.length=n)(H:Heap):wh n (some (.row R)) 0 H=.val (.agg l) H:=by
 subst hn
 show ZP (Nat.ble (0+l.length) R.size) (.val (.agg (VB R 0 l.length)) H)=_
 rw[hc.load (by omega),Zz,Xg,hc.size,Zf,Zl (Zo _)];rfl
def z64(e:Nat):Row:=⟨e,1,64,.leaf,nI .u32 0,0,false,true,true⟩
theorem yB(e:Nat):Cells (z64 e) (List.replicate 64 (nI .u32 0)):=Cells.zero ..
theorem qC(e:Nat):(⟨e,1,64,.leaf,nI .u32 0,0,false,true,true⟩:Row)=z64 e:=rfl
theorem sk{Zr:Lib}{fs:T CF}{fuel:Nat}(E:Env Zr fs fuel){n:Nat}{H:Heap}(hro:H.ro<=H.nx):
  ∃H',ZU (LK Zr fs fuel 0) fs fuel (n+2) 27 [] H=.ret (.agg (Wg.map ZN)) H'∧Zw H H' []:=by
 rw[Z4 (Z3 E.n27 (.inl (by decide)) _ _) E.f27]
 have bd: ∀G,PT [nI .u32 0,nI .u32 0,nI .u32 0,nI .u32 0,nI .u32 0,nI .u32 0,nI .u32 0,nI .u32 0,nI .u32 0,nI .u32 0,nI .u32 0,nI .u32 0,nI .u32 0,nI .u32 0,nI .u32 0,nI .u32 0,nI .u32 0,nI .u32 0,nI .u32 0,nI .u32 0,nI .u32 0,nI .u32 0,nI .u32 0,nI .u32 0,nI .u32 0,nI .u32 0,nI .u32 0,nI .u32 0,nI .u32 0,nI .u32 0,nI .u32 0,nI .u32 0,nI .u32 0,nI .u32 0,nI .u32 0,nI .u32 0,nI .u32 0,nI .u32 0,nI .u32 0,nI .u32 0,nI .u32 0,nI .u32 0,nI .u32 0,nI .u32 0,nI .u32 0,nI .u32 0,nI .u32 0,nI .u32 0,nI .u32 0,nI .u32 0,nI .u32 0,nI .u32 0,nI .u32 0,nI .u32 0,nI .u32 0,nI .u32 0,nI .u32 0,nI .u32 0,nI .u32 0,nI .u32 0,nI .u32 0,nI .u32 0,nI .u32 0,nI .u32 0] [(0,1,nI .u32 1116352408),(1,1,nI .u32 1899447441),(2,1,nI .u32 3049323471),(3,1,nI .u32 3921009573),(4,1,nI .u32 961987163),(5,1,nI .u32 1508970993),(6,1,nI .u32 2453635748),(7,1,nI .u32 2870763221),(8,1,nI .u32 3624381080),(9,1,nI .u32 310598401),(10,1,nI .u32 607225278),(11,1,nI .u32 1426881987),(12,1,nI .u32 1925078388),(13,1,nI .u32 2162078206),(14,1,nI .u32 2614888103),(15,1,nI .u32 3248222580),(16,1,nI .u32 3835390401),(17,1,nI .u32 4022224774),(18,1,nI .u32 264347078),(19,1,nI .u32 604807628),(20,1,nI .u32 770255983),(21,1,nI .u32 1249150122),(22,1,nI .u32 1555081692),(23,1,nI .u32 1996064986),(24,1,nI .u32 2554220882),(25,1,nI .u32 2821834349),(26,1,nI .u32 2952996808),(27,1,nI .u32 3210313671),(28,1,nI .u32 3336571891),(29,1,nI .u32 3584528711),(30,1,nI .u32 113926993),(31,1,nI .u32 338241895),(32,1,nI .u32 666307205),(33,1,nI .u32 773529912),(34,1,nI .u32 1294757372),(35,1,nI .u32 1396182291),(36,1,nI .u32 1695183700),(37,1,nI .u32 1986661051),(38,1,nI .u32 2177026350),(39,1,nI .u32 2456956037),(40,1,nI .u32 2730485921),(41,1,nI .u32 2820302411),(42,1,nI .u32 3259730800),(43,1,nI .u32 3345764771),(44,1,nI .u32 3516065817),(45,1,nI .u32 3600352804),(46,1,nI .u32 4094571909),(47,1,nI .u32 275423344),(48,1,nI .u32 430227734),(49,1,nI .u32 506948616),(50,1,nI .u32 659060556),(51,1,nI .u32 883997877),(52,1,nI .u32 958139571),(53,1,nI .u32 1322822218),(54,1,nI .u32 1537002063),(55,1,nI .u32 1747873779),(56,1,nI .u32 1955562222),(57,1,nI .u32 2024104815),(58,1,nI .u32 2227730452),(59,1,nI .u32 2361852424),(60,1,nI .u32 2428436474),(61,1,nI .u32 2756734187),(62,1,nI .u32 3204031479),(63,1,nI .u32 3329325298)] G=.val (.agg (Wg.map ZN)) G:=λG=>by kernel_rfl
 have hl:(Wg.map ZN).length=64:=by rw[Zp];rfl
 have rv:=λk=>eY (n:=64) (IS (yB 80) (vs:=Wg.map ZN) (by rw[hl];rfl)) hl k
 have st:=Ee (n:=64) (b:=H.nx) (R:=z64 80) (vs:=Wg.map ZN) (H:=H.new (.row (z64 80))) (by decide) hl rfl rfl rfl hro
 simp only[qC,Vl,Zy,ZH,bd,st,rv,Us,c27,ZI,Yw,ZG,Yt]
 exact⟨_,rfl,Zw.new _ _ _⟩
theorem Zel{Zr:Lib}{fs:T CF}{fuel:Nat}(E:Env Zr fs fuel){k n:Nat}(hk:1<=k){H:Heap}(hro:H.ro<=H.nx):
  ZU (LK Zr fs fuel k) fs fuel (n+1) 27 [] H=.ret (.agg (Wg.map ZN)) H:=by
 obtain⟨H',e,g⟩:=sk E (n:=898) (H:=H) hro
 exact YI (r:=0) rfl rfl e g (C2 _ _) hk
theorem IZ(bl:List UInt8){i n:Nat}(h:i<n): ∀m,n<=m->(Vb bl m).getD i 0=(Vb bl n).getD i 0
 |0,hm=>by omega
 |m+1,hm=>by
  by_cases e:n=m+1
  ·rw[e]
  ·rw[<-IZ bl h m (by omega)]
   show(Vb bl m++[_]).getD i 0=_
   rw[Ze,Z1 (by rw[Tw];omega),<-Ze]
theorem zW(bl:List UInt8){t:Nat}(h:t<64):(YY bl).getD t 0=if t<16 then JS bl t 4 else Gg (Vb bl t):=by
 rw[<-F1,IZ bl (show t<t+1 by omega) 64 (by omega)]
 show(Vb bl t++[_]).getD t 0=_
 rw[Ze,Z5 (by rw[Tw];exact Zo _),Tw,Ti];rfl
theorem qb(bl:List UInt8){t:Nat}(h0:16<=t)(h:t<64):sg1 ((YY bl).getD (t - 2) 0)+(YY bl).getD (t - 7) 0+sg0 ((YY bl).getD (t - 15) 0)+(YY bl).getD (t - 16) 0=(YY bl).getD t 0:=by
 have e: ∀i,i<t->(YY bl).getD i 0=(Vb bl t).getD i 0:=λi hi=>by rw[<-F1];exact IZ bl hi 64 (by omega)
 rw[zW bl h,if_neg (by omega),Gg,Tw,e _ (by omega),e _ (by omega),e _ (by omega),e _ (by omega)]
theorem I7(a:UInt32)(b:UInt8)(h:a.toNat<16777216):(a<<<UInt32.ofNat 8|||b.toUInt32).toNat=a.toNat*256+b.toNat:=by
 have hb:b.toNat<256:=b.toNat_lt
 rw[UInt32.toNat_or,UInt32.toNat_shiftLeft,Sf]
 rw[show(UInt32.ofNat 8).toNat % 32=8 from rfl,Nat.shiftLeft_eq,Yx (by omega)]
 have:=Nat.two_pow_add_eq_or_of_lt (i:=8) (b:=b.toNat) hb a.toNat
 rw[UK a.toNat,<-this]
theorem xW(b:UInt8){k:Nat}(hk:k<=24):(b.toUInt32<<<UInt32.ofNat k).toNat=b.toNat*2^k:=by
 have hb:b.toNat<256:=b.toNat_lt
 rw[UInt32.toNat_shiftLeft,Sf,UInt32.toNat_ofNat_of_lt' (show k<UInt32.size from Xz hk (by decide)),Yx (show k<32 by omega),Nat.shiftLeft_eq]
 refine Yx (ZF (Nat.mul_lt_mul_of_pos_right hb (Nat.two_pow_pos k)) ?_)
 have:(2:Nat)^k<=2^24:=Nat.pow_le_pow_right (by decide) hk
 omega
theorem af(bl:List UInt8)(t:Nat):(bl.getD (4*t) 0).toUInt32<<<UInt32.ofNat 24+(bl.getD (4*t+1) 0).toUInt32<<<UInt32.ofNat 16+(bl.getD (4*t+2) 0).toUInt32<<<UInt32.ofNat 8+(bl.getD (4*t+3) 0).toUInt32=JS bl t 4:=by
 show _=(((((0<<<UInt32.ofNat 8)|||(bl.getD (4*t+0) 0).toUInt32)<<<UInt32.ofNat 8)|||(bl.getD (4*t+1) 0).toUInt32)<<<UInt32.ofNat 8|||(bl.getD (4*t+2) 0).toUInt32)<<<UInt32.ofNat 8|||(bl.getD (4*t+3) 0).toUInt32
 rw[Zj]
 generalize bl.getD (4*t) 0=b0
 generalize bl.getD (4*t+1) 0=b1
 generalize bl.getD (4*t+2) 0=b2
 generalize bl.getD (4*t+3) 0=b3
 have h0:=b0.toNat_lt;have h1:=b1.toNat_lt;have h2:=b2.toNat_lt;have h3:=b3.toNat_lt
 have z:(0:UInt32).toNat=0:=rfl
 have e1:=I7 0 b0 (by rw[z];omega)
 rw[z] at e1
 have e2:=I7 _ b1 (by rw[e1];omega)
 rw[e1] at e2
 have e3:=I7 _ b2 (by rw[e2];omega)
 rw[e2] at e3
 have e4:=I7 _ b3 (by rw[e3];omega)
 rw[e3] at e4
 refine UInt32.toNat_inj.1 ?_
 rw[e4,UInt32.toNat_add,UInt32.toNat_add,UInt32.toNat_add,xW b0 (by decide),xW b1 (by decide),xW b2 (by decide),Sf]
 omega
structure DW(H0:Heap)(wb pb po:Nat)(cp:Option Nat)(bl:List UInt8)(v3 v5 v6:AV)(m:Nat)(tm:TM)(H:Heap):Prop where
 t1:XR tm=.slice pb po 64 cp
 t3:Xx tm=v3
 t5:YT tm=v5
 t6:Wm tm=v6
 t7:XY tm=.ptr wb 0
 keep:Zw H0 H [wb]
 i: ∃t R,t+m=64∧Xt tm=nI .i64 t∧H.t.get wb=some (.row R)∧R.size=64∧R.own=true∧R.fz=0∧ ∀i,i<t->R.get i=ZN ((YY bl).getD i 0)
def DQ(H0:Heap)(wb pb po:Nat)(cp:Option Nat)(bl:List UInt8)(v3 v5 v6:AV)(o:Out)(tm:TM)(H:Heap):Prop:=o=.exit 0∧DW H0 wb pb po cp bl v3 v5 v6 0 tm H
theorem Zad{Zr:Lib}{fs:T CF}{fuel:Nat}(E:Env Zr fs fuel){d:Nat}{H0:Heap}{wb pb po:Nat}{cp:Option Nat}{bl:List UInt8}{v3 v5 v6:AV}{rp:Row}(hb:Bytes H0 pb po cp bl rp)(hbl:bl.length=64)(hpb:pb<H0.nx)(hne:pb≠wb)(hro:H0.ro<=wb)(hwb:wb<H0.nx)(y f r)(x:X)(m:Nat)(tm:TM)(H:Heap)(h:DW H0 wb pb po cp bl v3 v5 v6 m tm H):
  ∃o tm' H',Fj ⟨ZU (LK Zr fs fuel 1) fs fuel (d+1),y,f,fuel,r⟩ tm H x=.ok o tm' H' x∧((o=.normal∧ ∃k,k<m∧DW H0 wb pb po cp bl v3 v5 v6 k tm' H')∨(o≠.normal∧DQ H0 wb pb po cp bl v3 v5 v6 o tm' H')):=by
 obtain⟨t1,t3,t5,t6,t7,k0,t,R,gW,t8,gw,hsz,how,hfz,hR⟩:=h
 have t1':=t1;have My:=t3;have Dj:=t5;have oK:=t6;have kq:=t7
 simp only[Ov,LN,MI] at t1 t7 t8
 have Zay:H.ro<=wb:=by rw[k0.ro];exact hro
 by_cases ht:t<64
 ·have d1:decide (t<64)=true:=Zd ht
  have gp:H.t.get pb=some (.row rp):=by rw[k0.get pb hpb (by simp;exact hne)];exact hb.at_
  have n0:=k0.nx
  have lw:=Wj (n:=H.nx) (b:=wb) (by omega)
  have lws:=TO (n:=H.nx) (b:=pb) (by omega) po 64 cp
  have ad:=λG=>YU (a:=t) (b:=1) (by omega) G
  by_cases h16:t<16
  ·have d2:decide (t<16)=true:=Zd h16
   have mu:=λG=>FN (a:=4) (b:=t) (by omega) G
   have a1:=λG=>YU (a:=4*t) (b:=1) (by omega) G
   have a2:=λG=>YU (a:=4*t) (b:=2) (by omega) G
   have a3:=λG=>YU (a:=4*t) (b:=3) (by omega) G
   have ix: ∀j,j<64-> ∀G,HY 1 (.slice pb po 64 cp) (nI .i64 j) G=.val (.ptr pb (po+j)) G:=λj hj G=>RY hj pb po cp .i64 G
   have x0:=ix (4*t) (by omega);have x1:=ix (4*t+1) (by omega);have x2:=ix (4*t+2) (by omega);have x3:=ix (4*t+3) (by omega)
   have ld: ∀j,j<64-> ∀G,ld1 (some (.row rp)) (po+j) G=.val (XP (bl.getD j 0)) G:=λj hj G=>by
    have:=hb.fits
    rw[Mq (by omega),hb.get j (by omega)]
   have l0:=ld (4*t) (by omega);have l1:=ld (4*t+1) (by omega);have l2:=ld (4*t+2) (by omega);have l3:=ld (4*t+3) (by omega)
   have iw: ∀G,EN 64 1 (.ptr wb 0) (nI .i64 t) G=.val (.ptr wb (0+t)) G:=λG=>UE ht wb 0 .i64 G
   have ac:=af bl t
   have st:=G1 (r:=R) (b:=wb) (o:=t) (v:=ZN ((YY bl).getD t 0)) (H:=H) rfl (by omega) how Zay (by omega)
   have se:JS bl t 4=(YY bl).getD t 0:=by rw[zW bl ht,if_pos h16]
   rw[se] at ac
   simp(disch:=omega) only[t1,t7,t8,d1,d2,mu,a1,a2,a3,x0,x1,x2,x3,l0,l1,l2,l3,iw,ac,st,gp,gw,ad,lw,lws,zu,CV,DF,Mg,Zv,Zf,Fj,ZI,Yw,Yl,Xm,XX,Nat.reducePow,Nat.reduceDiv,Nat.reduceMod,Yt,Vf,PE]
   exact⟨_,_,_,rfl,.inl ⟨rfl,m - 1,by omega,t1',My,Dj,oK,kq,k0.then_put λ_=>by simp,t+1,_,by omega,rfl,X9 ..,hsz,how,hfz,λi hi=>by
    rw[Row.st_get]
    by_cases e:t=i
    ·rw[if_pos e,e]
    ·rw[if_neg e];exact hR i (by omega)⟩⟩
  ·have d2:decide (t<16)=false:=Zb h16
   have tn: ∀a q G,0<q->q<32->ZU (LK Zr fs fuel 1) fs fuel (d+1) 42 [ZN a,nI .i64 q] G=.ret (ZN (Jj a q)) G:=λa q G h0 h1=>bP E (k:=1) (n:=d) (by decide) (H:=G) h0 h1
   have sb: ∀j,j<=16-> ∀G,Di (nI .i64 t) (nI .i64 j) G=.val (nI .i64 (t - j)) G:=λj hj G=>Vp (by omega) (by omega) G
   have s15:=sb 15 (by decide);have s2:=sb 2 (by decide);have s7:=sb 7 (by decide);have s16:=sb 16 (by decide)
   have ix: ∀j,j<64-> ∀G,EN 64 1 (.ptr wb 0) (nI .i64 j) G=.val (.ptr wb (0+j)) G:=λj hj G=>UE hj wb 0 .i64 G
   have x0:=ix (t - 15) (by omega);have x1:=ix (t - 2) (by omega);have x2:=ix (t - 7) (by omega);have x3:=ix (t - 16) (by omega)
   have iw:=ix t ht
   have ld: ∀j,j<t-> ∀G,ld1 (some (.row R)) j G=.val (ZN ((YY bl).getD j 0)) G:=λj hj G=>by
    rw[Mq (by omega),hR j hj]
   have l0:=ld (t - 15) (by omega);have l1:=ld (t - 2) (by omega);have l2:=ld (t - 7) (by omega);have l3:=ld (t - 16) (by omega)
   have st:=G1 (r:=R) (b:=wb) (o:=t) (v:=ZN ((YY bl).getD t 0)) (H:=H) rfl (by omega) how Zay (by omega)
   have nx:=qb bl (t:=t) (by omega) ht
   unfold sg0 sg1 at nx
   simp(disch:=omega) only[t7,t8,d1,d2,tn,s15,s2,s7,s16,x0,x1,x2,x3,l0,l1,l2,l3,iw,nx,st,gw,ad,lw,Pk,DL,GJ,Mg,Zv,Zf,Fj,ZI,Yw,Yl,Xm,XX,Nat.reducePow,Nat.reduceDiv,Nat.reduceMod,reduceCtorEq,Yt,PE,DN]
   exact⟨_,_,_,rfl,.inl ⟨rfl,m - 1,by omega,t1',My,Dj,oK,kq,k0.then_put λ_=>by simp,t+1,_,by omega,rfl,X9 ..,hsz,how,hfz,λi hi=>by
    rw[Row.st_get]
    by_cases e:t=i
    ·rw[if_pos e,e]
    ·rw[if_neg e];exact hR i (by omega)⟩⟩
 ·have d1:decide (t<64)=false:=Zb ht
  simp only[t8,d1,Zv,Fj,ZI,Yw,Yt,]
  exact⟨_,_,_,rfl,.inr ⟨by simp,rfl,t1',My,Dj,oK,kq,k0,t,R,by omega,by assumption,gw,hsz,how,hfz,hR⟩⟩
theorem ZhF(f g i:UInt32):f&&&g||| ~~~f&&&i=f&&&g^^^ ~~~f&&&i:=by
 apply UInt32.toBitVec_inj.1
 simp only[UInt32.toBitVec_or,UInt32.toBitVec_and,UInt32.toBitVec_xor,UInt32.toBitVec_not]
 ext k hk
 simp only[BitVec.getElem_or,BitVec.getElem_and,BitVec.getElem_xor,BitVec.getElem_not]
 cases f.toBitVec[k]<;>cases g.toBitVec[k]<;>cases i.toBitVec[k]<;>rfl
theorem Zi9(a b d:UInt32):a&&&b|||a&&&d|||b&&&d=a&&&b^^^a&&&d^^^b&&&d:=by
 apply UInt32.toBitVec_inj.1
 simp only[UInt32.toBitVec_or,UInt32.toBitVec_and,UInt32.toBitVec_xor]
 ext k hk
 simp only[BitVec.getElem_or,BitVec.getElem_and,BitVec.getElem_xor]
 cases a.toBitVec[k]<;>cases b.toBitVec[k]<;>cases d.toBitVec[k]<;>rfl
theorem Zgl(f:UInt32)(G:Heap):Di (nI .u32 4294967295) (ZN f) G=.val (ZN (~~~f)) G:=by
 have hf:f.toNat<4294967296:=f.toNat_lt
 have e:(~~~f).toNat=4294967295 - f.toNat:=by rw[UInt32.toNat_not];rfl
 have:=bD (a:=4294967295) (b:=f.toNat) (by omega) (by decide) G
 rw[<-e] at this;exact this
theorem FL{s:List UInt32}{i:Nat}(h:i<s.length):(s.map ZN).getD i .unk=ZN (s.getD i 0):=by
 rw[Ze,ZZ,Zk h,Ze,Zk h];rfl
structure DR3(H0:Heap)(kb wb:Nat)(W h:List UInt32)(v3 v6:AV)(m:Nat)(tm:TM)(H:Heap):Prop where
 heap:H=H0
 t3:Xx tm=v3
 t5:YT tm=.ptr kb 0
 t6:Wm tm=v6
 t7:XY tm=.ptr wb 0
 i: ∃t,t+m=64∧XO tm=nI .i64 t∧YN tm=ZN ((Y1 Wg W h t).getD 0 0)∧Xj tm=ZN ((Y1 Wg W h t).getD 1 0)∧Y6 tm=ZN ((Y1 Wg W h t).getD 2 0)∧XQ tm=ZN ((Y1 Wg W h t).getD 3 0)∧XW tm=ZN ((Y1 Wg W h t).getD 4 0)∧X6 tm=ZN ((Y1 Wg W h t).getD 5 0)∧Wt tm=ZN ((Y1 Wg W h t).getD 6 0)∧Wd tm=ZN ((Y1 Wg W h t).getD 7 0)
def DRQ(H0:Heap)(kb wb:Nat)(W h:List UInt32)(v3 v6:AV)(o:Out)(tm:TM)(H:Heap):Prop:=o=.exit 2∧DR3 H0 kb wb W h v3 v6 0 tm H
theorem a9{Zr:Lib}{fs:T CF}{fuel:Nat}(E:Env Zr fs fuel){d:Nat}{H0:Heap}{kb wb:Nat}{W h:List UInt32}{v3 v6:AV}{R:Row}(hkb:H0.t.get kb=some (rG 80 1 (Wg.map ZN) 0 false true true))(gw:H0.t.get wb=some (.row R))(hsz:R.size=64)(hR: ∀i,i<64->R.get i=ZN (W.getD i 0))(hk1:kb<H0.nx)(hw1:wb<H0.nx)(y f r)(x:X)(m:Nat)(tm:TM)(H:Heap)(hI:DR3 H0 kb wb W h v3 v6 m tm H):
  ∃o tm' H',Ca ⟨ZU (LK Zr fs fuel 1) fs fuel (d+1),y,f,fuel,r⟩ tm H x=.ok o tm' H' x∧((o=.normal∧ ∃k,k<m∧DR3 H0 kb wb W h v3 v6 k tm' H')∨(o≠.normal∧DRQ H0 kb wb W h v3 v6 o tm' H')):=by
 obtain⟨rfl,t3,t5,t6,t7,t,gW,t19,t11,t12,t13,t14,t15,t16,t17,t18⟩:=hI
 have My:=t3;have Dj:=t5;have oK:=t6;have kq:=t7
 have Zns:=t19;have NG:=t11;have G4:=t12;have qp:=t13;have Znn:=t14;have Zno:=t15;have Znp:=t16;have Znq:=t17;have Znr:=t18
 simp only[Ss,LN,Sy,OW,Km,J7,EJ,EK,CL,J8,zm] at t5 t7 t11 t12 t13 t14 t15 t16 t17 t18 t19
 by_cases ht:t<64
 ·have d1:decide (t<64)=true:=Zd ht
  have lwk:=Wj (n:=H.nx) (b:=kb) (by omega)
  have lww:=Wj (n:=H.nx) (b:=wb) (by omega)
  have ad:=λG=>YU (a:=t) (b:=1) (by omega) G
  have tn: ∀a q G,0<q->q<32->ZU (LK Zr fs fuel 1) fs fuel (d+1) 42 [ZN a,nI .i64 q] G=.ret (ZN (Jj a q)) G:=λa q G h0 h1=>bP E (k:=1) (n:=d) (by decide) (H:=G) h0 h1
  have ix: ∀b G,EN 64 1 (.ptr b 0) (nI .i64 t) G=.val (.ptr b (0+t)) G:=λb G=>UE ht b 0 .i64 G
  have lk: ∀G,ld1 (some (rG 80 1 (Wg.map ZN) 0 false true true)) t G=.val (ZN (Wg.getD t 0)) G:=λG=>by
   rw[Yf (by rw[Zp];exact ht),FL ht]
  have lw: ∀G,ld1 (some (.row R)) t G=.val (ZN (W.getD t 0)) G:=λG=>by rw[Mq (by omega),hR t ht]
  obtain⟨v,hv⟩: ∃v,Y1 Wg W h t=v:=⟨_,rfl⟩
  have hnx:Y1 Wg W h (t+1)=xU v (Wg.getD t 0) (W.getD t 0):=by rw[<-hv];rfl
  rw[hv] at t11 t12 t13 t14 t15 t16 t17 t18
  obtain⟨P,hP⟩: ∃P,t1F v (Wg.getD t 0) (W.getD t 0)=P:=⟨_,rfl⟩
  obtain⟨Q,hQ⟩: ∃Q,t2F v=Q:=⟨_,rfl⟩
  have hnx2:xU v (Wg.getD t 0) (W.getD t 0)=[P+Q,v.getD 0 0,v.getD 1 0,v.getD 2 0,v.getD 3 0+P,v.getD 4 0,v.getD 5 0,v.getD 6 0]:=by rw[<-hP,<-hQ];rfl
  unfold t1F at hP
  unfold t2F at hQ
  simp(disch:=omega) only[t5,t7,t11,t12,t13,t14,t15,t16,t17,t18,t19,d1,ad,tn,ix,lk,lw,hP,hQ,hkb,gw,lwk,lww,Pk,ZhF,Zi9,Zgl,DL,qI,xM,Mg,Zv,Zf,Ca,ZI,Yw,Yl,Xm,XX,Nat.reducePow,Nat.reduceDiv,Nat.reduceMod,reduceCtorEq,Yt,DN,jd,qF]
  exact⟨_,_,_,rfl,.inl ⟨rfl,m - 1,by omega,rfl,My,Dj,oK,kq,t+1,by omega,rfl,by rw[hnx,hnx2];rfl,by rw[hnx,hnx2];rfl,by rw[hnx,hnx2];rfl,by rw[hnx,hnx2];rfl,by rw[hnx,hnx2];rfl,by rw[hnx,hnx2];rfl,by rw[hnx,hnx2];rfl,by rw[hnx,hnx2];rfl⟩⟩
 ·have d1:decide (t<64)=false:=Zb ht
  simp only[t19,d1,Zv,Ca,ZI,Yw,Yt,DN,]
  exact⟨_,_,_,rfl,.inr ⟨by simp,rfl,rfl,My,Dj,oK,kq,t,by omega,Zns,NG,G4,qp,Znn,Zno,Znp,Znq,Znr⟩⟩
theorem Zg7(h v:List UInt32):(NO h v 8).map ZN=[ZN (h.getD 0 0+v.getD 0 0),ZN (h.getD 1 0+v.getD 1 0),ZN (h.getD 2 0+v.getD 2 0),ZN (h.getD 3 0+v.getD 3 0),ZN (h.getD 4 0+v.getD 4 0),ZN (h.getD 5 0+v.getD 5 0),ZN (h.getD 6 0+v.getD 6 0),ZN (h.getD 7 0+v.getD 7 0)]:=rfl
theorem jJ{Zr:Lib}{fs:T CF}{fuel:Nat}(E:Env Zr fs fuel){n:Nat}{h:List UInt32}{bl:List UInt8}{pb po:Nat}{cp:Option Nat}{rp:Row}{H:Heap}(hro:H.ro<=H.nx)(hh:h.length=8)(hb:Bytes H pb po cp bl rp)(hbl:bl.length=64)(hpb:pb<H.nx):
  ∃H',ZU (LK Zr fs fuel 1) fs fuel (n+2) 28 [.agg (h.map ZN),.slice pb po 64 cp,.agg (Wg.map ZN)] H=.ret (.agg ((NS Wg h bl).map ZN)) H'∧Zw H H' []:=by
 rw[Z4 (Z3 E.n28 (.inl (by decide)) _ _) E.f28]
 obtain⟨H1,hH1⟩: ∃G,H.new (rG 82 1 (h.map ZN) 0 false true true)=G:=⟨_,rfl⟩
 have Lb:H1.nx=H.nx+1:=by rw[<-hH1];rfl
 have k1:Zw H H1 []:=by rw[<-hH1];exact Zw.new _ _ _
 have bx1:=XU (l:=h.map ZN) (by rw[Zp,hh];decide) 82 H
 rw[hH1] at bx1
 obtain⟨H2,hH2⟩: ∃G,H1.new (rG 80 1 (Wg.map ZN) 0 false true true)=G:=⟨_,rfl⟩
 have nx2:H2.nx=H.nx+2:=by rw[<-hH2];show H1.nx+1=_;rw[Lb]
 have k2:Zw H1 H2 []:=by rw[<-hH2];exact Zw.new _ _ _
 have bx2:=XU (l:=Wg.map ZN) (by rw[Zp];decide) 80 H1
 rw[hH2] at bx2
 obtain⟨H3,hH3⟩: ∃G,H2.new (rG 82 1 [nI .u32 0,nI .u32 0,nI .u32 0,nI .u32 0,nI .u32 0,nI .u32 0,nI .u32 0,nI .u32 0] 0 false true true)=G:=⟨_,rfl⟩
 have nx3:H3.nx=H.nx+3:=by rw[<-hH3];show H2.nx+1=_;rw[nx2]
 have k3:Zw H2 H3 []:=by rw[<-hH3];exact Zw.new _ _ _
 obtain⟨H4,bX⟩: ∃G,H3.new (.row (z64 80))=G:=⟨_,rfl⟩
 have nx4:H4.nx=H.nx+4:=by rw[<-bX];show H3.nx+1=_;rw[nx3]
 have k4:Zw H3 H4 []:=by rw[<-bX];exact Zw.new _ _ _
 have kp:Zw H H4 []:=((k1.trans' k2).trans' k3).trans' k4
 have g1:H4.t.get H.nx=some (rG 82 1 (h.map ZN) 0 false true true):=by
  rw[k4.get _ (by omega) (by simp),k3.get _ (by omega) (by simp),k2.get _ (by omega) (by simp),<-hH1];exact Yi rfl _
 have g2:H4.t.get (H.nx+1)=some (rG 80 1 (Wg.map ZN) 0 false true true):=by
  rw[k4.get _ (by omega) (by simp),k3.get _ (by omega) (by simp),<-hH2];exact Yi Lb _
 have g3:H4.t.get (H.nx+2)=some (rG 82 1 [nI .u32 0,nI .u32 0,nI .u32 0,nI .u32 0,nI .u32 0,nI .u32 0,nI .u32 0,nI .u32 0] 0 false true true):=by
  rw[k4.get _ (by omega) (by simp),<-hH3];exact Yi nx2 _
 have g4:H4.t.get (H.nx+3)=some (.row (z64 80)):=by rw[<-bX];exact Yi nx3 _
 have hro4:H4.ro<=H.nx:=by rw[kp.ro];exact hro
 have hb4:Bytes H4 pb po cp bl rp:=⟨by rw[kp.get pb hpb (by simp)];exact hb.at_,hb.sz,hb.fits,hb.get,hb.cap⟩
 simp only[qC,hH3,bX,bx1,bx2,Lb,nx2,nx3,OY,c28,ZI,Yw,Yt,]
 generalize hL:XD (Fj _) fuel _ _ _=L
 obtain⟨o,Nb,H5,rfl,_,rfl,t1,t3,t5,t6,t7,k5,t,Rw,gW,t8,gw,hsz,how,hfz,hR⟩:=YG (P:=λT=>DW H4 (H.nx+3) pb po cp bl (.ptr H.nx 0) (.ptr (H.nx+1) 0) (.ptr (H.nx+2) 0) 64 T H4) (Q:=DQ H4 (H.nx+3) pb po cp bl (.ptr H.nx 0) (.ptr (H.nx+1) 0) (.ptr (H.nx+2) 0))
  (λT hi=>YX (DW H4 (H.nx+3) pb po cp bl (.ptr H.nx 0) (.ptr (H.nx+1) 0) (.ptr (H.nx+2) 0)) (DQ H4 (H.nx+3) pb po cp bl (.ptr H.nx 0) (.ptr (H.nx+1) 0) (.ptr (H.nx+2) 0)) (λm tm H' h=>Zad E hb4 hbl (by omega) (by omega) (by omega) (by omega) _ _ _ _ m tm H' h) fuel 64 T H4 (by have:=E.big;omega) hi) hL
  (by exact⟨rfl,rfl,rfl,rfl,rfl,Zw.refl _ _,0,z64 80,rfl,rfl,g4,rfl,rfl,rfl,λi hi=>by omega⟩)
 obtain rfl:t=64:=by omega
 have p1:H5.t.get H.nx=some (rG 82 1 (h.map ZN) 0 false true true):=by rw[k5.get _ (by omega) (by simp)];exact g1
 have p2:H5.t.get (H.nx+1)=some (rG 80 1 (Wg.map ZN) 0 false true true):=by rw[k5.get _ (by omega) (by simp)];exact g2
 have p3:H5.t.get (H.nx+2)=some (rG 82 1 [nI .u32 0,nI .u32 0,nI .u32 0,nI .u32 0,nI .u32 0,nI .u32 0,nI .u32 0,nI .u32 0] 0 false true true):=by rw[k5.get _ (by omega) (by simp)];exact g3
 have n5:=k5.nx
 have lh: ∀j,j<8-> ∀G,ld1 (some (rG 82 1 (h.map ZN) 0 false true true)) j G=.val (ZN (h.getD j 0)) G:=λj hj G=>by
  rw[Yf (by rw[Zp,hh];exact hj),FL (by rw[hh];exact hj)]
 have lh0:=lh 0 (by decide)
 have lh1:=lh 1 (by decide)
 have lh2:=lh 2 (by decide)
 have lh3:=lh 3 (by decide)
 have lh4:=lh 4 (by decide)
 have lh5:=lh 5 (by decide)
 have lh6:=lh 6 (by decide)
 have lh7:=lh 7 (by decide)
 have ri:=Wj (n:=H5.nx) (b:=H.nx) (by omega)
 simp only[Ov,UN,Ss,NA,LN] at t1 t3 t5 t6 t7
 simp(disch:=omega) only[t3,p1,lh0,lh1,lh2,lh3,lh4,lh5,lh6,lh7,ri,Pk,UE,Zf,ZI,Yw,Yl,Xm,XX,Nat.reducePow,Nat.reduceDiv,Nat.reduceMod,reduceCtorEq,Yt,DN,]
 generalize hL:XD (Ca _) fuel _ _ _=L
 obtain⟨o,tC,H6,rfl,_,rfl,rfl,t3,t5,t6,t7,t,gW,t19,t11,t12,t13,t14,t15,t16,t17,t18⟩:=YG (P:=λT=>DR3 H5 (H.nx+1) (H.nx+3) (YY bl) h (.ptr H.nx 0) (.ptr (H.nx+2) 0) 64 T H5) (Q:=DRQ H5 (H.nx+1) (H.nx+3) (YY bl) h (.ptr H.nx 0) (.ptr (H.nx+2) 0))
  (λT hi=>YX (DR3 H5 (H.nx+1) (H.nx+3) (YY bl) h (.ptr H.nx 0) (.ptr (H.nx+2) 0)) (DRQ H5 (H.nx+1) (H.nx+3) (YY bl) h (.ptr H.nx 0) (.ptr (H.nx+2) 0)) (λm tm H' h=>a9 E p2 gw hsz hR (by omega) (by omega) _ _ _ _ m tm H' h) fuel 64 T H5 (by have:=E.big;omega) hi) hL
  (by exact⟨rfl,t3,t5,t6,t7,0,rfl,rfl,rfl,rfl,rfl,rfl,rfl,rfl,rfl,rfl⟩)
 obtain rfl:t=64:=by omega
 simp only[UN,NA,Sy,OW,Km,J7,EJ,EK,CL,J8] at t3 t6 t11 t12 t13 t14 t15 t16 t17 t18
 have hval:NS Wg h bl=NO h (Y1 Wg (YY bl) h 64) 8:=rfl
 rw[hval,Zg7]
 have st:=U4 (n:=8) (b:=H.nx+2) (l:=[nI .u32 0,nI .u32 0,nI .u32 0,nI .u32 0,nI .u32 0,nI .u32 0,nI .u32 0,nI .u32 0]) (vs:=[ZN (h.getD 0 0+(Y1 Wg (YY bl) h 64).getD 0 0),ZN (h.getD 1 0+(Y1 Wg (YY bl) h 64).getD 1 0),ZN (h.getD 2 0+(Y1 Wg (YY bl) h 64).getD 2 0),ZN (h.getD 3 0+(Y1 Wg (YY bl) h 64).getD 3 0),ZN (h.getD 4 0+(Y1 Wg (YY bl) h 64).getD 4 0),ZN (h.getD 5 0+(Y1 Wg (YY bl) h 64).getD 5 0),ZN (h.getD 6 0+(Y1 Wg (YY bl) h 64).getD 6 0),ZN (h.getD 7 0+(Y1 Wg (YY bl) h 64).getD 7 0)]) (H:=H6) rfl rfl (by decide) (by rw[k5.ro];omega) 82 1 false true
 have bd: ∀G,PT [nI .u32 0,nI .u32 0,nI .u32 0,nI .u32 0,nI .u32 0,nI .u32 0,nI .u32 0,nI .u32 0] [(0,1,ZN (h.getD 0 0+(Y1 Wg (YY bl) h 64).getD 0 0)),(1,1,ZN (h.getD 1 0+(Y1 Wg (YY bl) h 64).getD 1 0)),(2,1,ZN (h.getD 2 0+(Y1 Wg (YY bl) h 64).getD 2 0)),(3,1,ZN (h.getD 3 0+(Y1 Wg (YY bl) h 64).getD 3 0)),(4,1,ZN (h.getD 4 0+(Y1 Wg (YY bl) h 64).getD 4 0)),(5,1,ZN (h.getD 5 0+(Y1 Wg (YY bl) h 64).getD 5 0)),(6,1,ZN (h.getD 6 0+(Y1 Wg (YY bl) h 64).getD 6 0)),(7,1,ZN (h.getD 7 0+(Y1 Wg (YY bl) h 64).getD 7 0))] G=.val (.agg [ZN (h.getD 0 0+(Y1 Wg (YY bl) h 64).getD 0 0),ZN (h.getD 1 0+(Y1 Wg (YY bl) h 64).getD 1 0),ZN (h.getD 2 0+(Y1 Wg (YY bl) h 64).getD 2 0),ZN (h.getD 3 0+(Y1 Wg (YY bl) h 64).getD 3 0),ZN (h.getD 4 0+(Y1 Wg (YY bl) h 64).getD 4 0),ZN (h.getD 5 0+(Y1 Wg (YY bl) h 64).getD 5 0),ZN (h.getD 6 0+(Y1 Wg (YY bl) h 64).getD 6 0),ZN (h.getD 7 0+(Y1 Wg (YY bl) h 64).getD 7 0)]) G:=λ_=>rfl
 have rv:=λk=>eX (n:=8) (e:=82) (sz:=1) (l:=[ZN (h.getD 0 0+(Y1 Wg (YY bl) h 64).getD 0 0),ZN (h.getD 1 0+(Y1 Wg (YY bl) h 64).getD 1 0),ZN (h.getD 2 0+(Y1 Wg (YY bl) h 64).getD 2 0),ZN (h.getD 3 0+(Y1 Wg (YY bl) h 64).getD 3 0),ZN (h.getD 4 0+(Y1 Wg (YY bl) h 64).getD 4 0),ZN (h.getD 5 0+(Y1 Wg (YY bl) h 64).getD 5 0),ZN (h.getD 6 0+(Y1 Wg (YY bl) h 64).getD 6 0),ZN (h.getD 7 0+(Y1 Wg (YY bl) h 64).getD 7 0)]) (fz:=0) (sm:=false) (own:=true) (ex:=true) rfl k
 simp(disch:=omega) only[t3,t6,t11,t12,t13,t14,t15,t16,t17,t18,p1,p3,lh0,lh1,lh2,lh3,lh4,lh5,lh6,lh7,st,rv,bd,Vl,Zy,ZH,Mg,UE,X9,Zf,ZI,Yw,ZG,Yt,qF,TB6]
 exact⟨_,rfl,(kp.trans k5 λc h1 h2=>by simp at h1;omega).then_put λh=>by omega⟩
theorem Zlv{Zr:Lib}{fs:T CF}{fuel:Nat}(E:Env Zr fs fuel){k n:Nat}(hk:2<=k){h:List UInt32}{bl:List UInt8}{pb po:Nat}{cp:Option Nat}{rp:Row}{H:Heap}(hro:H.ro<=H.nx)(hh:h.length=8)(hb:Bytes H pb po cp bl rp)(hbl:bl.length=64)(hpb:pb<H.nx):
  ZU (LK Zr fs fuel k) fs fuel (n+1) 28 [.agg (h.map ZN),.slice pb po 64 cp,.agg (Wg.map ZN)] H=.ret (.agg ((NS Wg h bl).map ZN)) H:=by
 obtain⟨H',e,g⟩:=jJ E (n:=898) (H:=H) hro hh hb hbl hpb
 exact YI (r:=1) rfl rfl e g (C2 _ _) hk
theorem AJ{H:Heap}{v w:AV}{l m:List UInt8}{lo:Nat}(h:Buf H v l lo)(hs:Src H w (m.map XP))(hl:l.length+m.length<=140737488355328)(hro:H.ro<=H.nx)(hlo:lo<=H.nx):
  ∃v' H',U0 5 1 1 v w H=.val v' H'∧Buf H' v' (l++m) lo∧Below lo H H':=by
 rw[Pu (Zo 1) hs,Zp]
 by_cases hm:m=[]
 ·subst hm
  rw[Yn]
  rcases h with⟨rfl,rfl⟩|⟨hne,b,r,rfl,g,hb⟩
  ·exact⟨_,_,rfl,.inl ⟨rfl,rfl⟩,Below.refl _ _⟩
  ·refine⟨.slice b 0 l.length none,H,?_,.inr ⟨hne,b,r,rfl,g,hb⟩,Below.refl _ _⟩
   have hs:r.size=l.length:=by rw[g.cells.size,Zp]
   show XB H b _=_
   unfold XB
   simp only[g.at_]
   have h1:Js r 1 none=true:=by show Nat.beq r.sz 1=true;rw[g.sz];rfl
   have h2:VI r 0 none=l.length:=by show cond (Nat.beq r.sz 1) (r.size - 0) _=_;rw[g.sz,hs];rfl
   rw[h1]
   show cond (Nat.ble (l.length+0) (VI r 0 none)) _ _=_
   rw[h2,Zl (by omega)];rfl
 ·have hm0:0<m.length:=Uz.2 hm
  rcases h with⟨rfl,rfl⟩|⟨hne,b,r,rfl,g,hb⟩
  ·have g:=KU (H:=H) (e:=5) (l:=m.map XP) hro
   have e:=KK (e:=5) (H:=H) (l:=m.map XP) (by rw[Zp];exact hm0) (by rw[Zp];simpa using hl)
   rw[Zp] at e
   exact⟨_,_,e,.inr ⟨by simpa using hm,_,_,by rw[ZQ],by rw[ZQ];exact g,hlo⟩,Below.new lo H _⟩
  ·obtain⟨H',r',e,g',k',nx'⟩:=Fe (m:=m.map XP) g (by rw[Zp];exact hm0) (by rw[Zp,Zp];exact hl)
   rw[Zp,Zp] at e
   refine⟨_,H',e,.inr ⟨by simp[hm],H.nx,r',by rw[ZE],by rw[YA];exact g',hlo⟩,⟨by omega,k'.ro,λc h1 h2=>k'.get c h2 (by simp;omega)⟩⟩
theorem Zjw{H:Heap}{v:AV}{l:List UInt8}(h:BV H v l):Src H v (l.map XP):=by
 rcases h with⟨rfl,rfl|⟨b,o,c,rfl⟩⟩|⟨hne,b,o,c,r,rfl,hb,_⟩
 ·exact Src.nils H
 ·exact Src.none H b o c
 ·have e:l.length=(l.map XP).length:=by rw[Zp]
  rw[e]
  refine Src.row hb.at_ (by rw[<-e];exact hb.fits) λi hi=>?_
  rw[<-e] at hi
  rw[hb.get i hi,Ze,Ze,ZZ,Zk hi];rfl
theorem Zju(a b:Nat)(hb:0<b)(G:Heap):lP (nI .i64 a) (nI .i64 b) G=.val (nI .i64 (a % b)) G:=by
 show ZP (Nl .i64 .i64) (cond (Fc (.ofNat b) (.ofNat 0)) .fail (Nj (.ofNat (Nat.mod a b)) λn=>.val (.int .i64 n) G))=_
 rw[X3,Mn,Zb (by omega),Oo];rfl
structure DZ(H0:Heap)(lo:Nat)(l1:List UInt8)(Z:Nat)(v0 v2:AV)(m:Nat)(tm:TM)(H:Heap):Prop where
 t0:Yu tm=v0
 t2:Vt tm=v2
 bl:Below lo H0 H
 i: ∃j,j+m=Z∧Buf H (Xx tm) (l1++List.replicate j 0) lo
def DZQ(H0:Heap)(lo:Nat)(l1:List UInt8)(Z:Nat)(v0 v2:AV)(o:Out)(tm:TM)(H:Heap):Prop:=o=.exit 0∧DZ H0 lo l1 Z v0 v2 0 tm H
theorem Zae{H0:Heap}{lo:Nat}{l1:List UInt8}{Z:Nat}{v0 v2:AV}(hn1: ∀j,j<Z->(l1.length+j) % 64≠56)(hn2:(l1.length+Z) % 64=56)(hlen:l1.length+Z<140737488355328)(hne:l1≠[])(hro:H0.ro<=H0.nx)(hlo:lo<=H0.nx)(cx:Ctx)(x:X)(m:Nat)(tm:TM)(H:Heap)(h:DZ H0 lo l1 Z v0 v2 m tm H):
  ∃o tm' H',D5 cx tm H x=.ok o tm' H' x∧((o=.normal∧ ∃k,k<m∧DZ H0 lo l1 Z v0 v2 k tm' H')∨(o≠.normal∧DZQ H0 lo l1 Z v0 v2 o tm' H')):=by
 obtain⟨t0,t2,bl,j,hj,hbuf⟩:=h
 have gJ:=hbuf
 have nn:=bl.nx
 have hroH:H.ro<=H.nx:=by rw[bl.ro];omega
 have hl:(l1++List.replicate j (0:UInt8)).length=l1.length+j:=by rw[ZE,Y5]
 obtain⟨v,hv⟩: ∃v,Xx tm=v:=⟨_,rfl⟩
 rw[hv] at hbuf gJ
 simp only[UN] at hv
 rcases hbuf with⟨e,_⟩|⟨_,b,r,e,_,_⟩
 ·exact absurd (List.append_eq_nil_iff.1 e).1 hne
 rw[hl] at e
 have rm:=λG=>Zju (l1.length+j) 64 (by decide) G
 have lv: ∀G,Oy v G=.val (nI .i64 (l1.length+j)) G:=λG=>by rw[e];exact Vz ..
 by_cases hz:j=Z
 ·have dn:decide ((l1.length+j) % 64≠56)=false:=Zb (by rw[hz];omega)
  simp only[hv,lv,rm,dn,VQ,D5,ZI,Yw,Yt]
  exact⟨_,_,_,rfl,.inr ⟨by simp,rfl,t0,t2,bl,j,by omega,by show Buf H (N8.a3 (N8.a0 (N8.a0 tm))) _ lo;rw[hv];exact gJ⟩⟩
 ·have dn:decide ((l1.length+j) % 64≠56)=true:=Zd (hn1 j (by omega))
  obtain⟨v',H',ea,hb',bl'⟩:=wz gJ (by rw[hl];omega) hroH (by omega) 0
  have ea:U0 5 1 1 v (.slice H.nx 0 1 none) (H.new (rG 5 1 [nI .u8 0] 0 false true true))=.val v' H':=ea
  simp only[hv,lv,rm,dn,ea,VQ,Z9,Sg,Qr,Wn,Zy,ZH,D5,ZI,Yw,Yt]
  exact⟨_,_,_,rfl,.inl ⟨rfl,m - 1,by omega,t0,t2,bl.trans bl',j+1,by omega,by
   rw[List.replicate_succ',<-Xk];exact hb'⟩⟩
def yv(n:Nat):List AV:=[nI .u8 (n/256/256/256/256/256/256/256 % 256),nI .u8 (n/256/256/256/256/256/256 % 256),nI .u8 (n/256/256/256/256/256 % 256),nI .u8 (n/256/256/256/256 % 256),nI .u8 (n/256/256/256 % 256),nI .u8 (n/256/256 % 256),nI .u8 (n/256 % 256),nI .u8 (n % 256)]
theorem Zgt(y:Nat):nI .u8 (y % 256)=XP (UInt8.ofNat y):=by
 unfold nI XP;rw[S8]
theorem bI(many:Nat):yv (many*8 % 18446744073709551616)=(Vk many 8).map XP:=by
 unfold yv Vk
 rw[show List.range 8=[0,1,2,3,4,5,6,7] from rfl]
 simp only[Zy,ZH,LQ,Zgt,Nat.div_div_eq_div_mul,Nat.reduceMul,Nat.reduceSub,Nat.reducePow,Nat.div_one]
theorem Zes{F n:Nat}(hF:9<=F)(hn:n<18446744073709551616){tm:TM}{Hx:Heap}(hro:Hx.ro<=Hx.nx)(cx:Ctx)(x:X)(t4:Xu tm=nI .u64 n)(t5:YT tm=.ptr Hx.nx 0)(t6:Wm tm=nI .i64 7):
  ∃tm',XD (D6 cx) F tm (Hx.new (rG 79 1 [nI .u8 0,nI .u8 0,nI .u8 0,nI .u8 0,nI .u8 0,nI .u8 0,nI .u8 0,nI .u8 0] 0 false true true)) x=.ok (.exit 2) tm' (Hx.new (rG 79 1 (yv n) 0 false true true)) x∧Yu tm'=Yu tm∧Vt tm'=Vt tm∧Xx tm'=Xx tm∧YT tm'=YT tm:=by
 obtain⟨F,rfl⟩: ∃G,F=G+9:=⟨F - 9,by omega⟩
 simp only[Tb,Ss,NA] at t4 t5 t6
 have i9: ∀G,Di (nI .i64 0) (nI .i64 1) G=.val (.int .i64 (.negSucc 0)) G:=λ_=>rfl
 have c9: ∀G,OM SA Wx (.int .i64 (.negSucc 0)) (nI .i64 0) G=.val (.bool false) G:=λ_=>rfl
 have c8: ∀i G,OM SA Wx (nI .i64 i) (nI .i64 0) G=.val (.bool true) G:=λi G=>by rw[Wh,Zd (Ym i)]
 have sb: ∀i,0<i->i<8-> ∀G,Di (nI .i64 i) (nI .i64 1) G=.val (nI .i64 (i - 1)) G:=λi h0 h1 G=>Vp (by omega) (by omega) G
 have s7:=sb 7 (by decide) (by decide);have s6:=sb 6 (by decide) (by decide);have s5:=sb 5 (by decide) (by decide);have s4:=sb 4 (by decide) (by decide);have s3:=sb 3 (by decide) (by decide);have s2:=sb 2 (by decide) (by decide);have s1:=sb 1 (by decide) (by decide)
 have rm: ∀a G,lP (nI .u64 a) (nI .u64 256) G=.val (nI .u64 (a % 256)) G:=λa G=>dh (by decide) G
 have ti: ∀a G,Ga .u8 (nI .u64 (a % 256)) G=.val (nI .u8 (a % 256)) G:=λa G=>pJ (Vy _ (by decide)) G
 have qq: ∀a,a<18446744073709551616-> ∀G,eV (nI .u64 a) (nI .u64 256) G=.val (nI .u64 (a/256)) G:=λa h G=>eW (by decide) h G
 have q0:=qq (n) (hn)
 have h0:n<18446744073709551616:=hn
 have q1:=qq (n/256) (Xz (X2 _ _) h0)
 have h1:n/256<18446744073709551616:=Xz (X2 _ _) h0
 have q2:=qq (n/256/256) (Xz (X2 _ _) h1)
 have h2:n/256/256<18446744073709551616:=Xz (X2 _ _) h1
 have q3:=qq (n/256/256/256) (Xz (X2 _ _) h2)
 have h3:n/256/256/256<18446744073709551616:=Xz (X2 _ _) h2
 have q4:=qq (n/256/256/256/256) (Xz (X2 _ _) h3)
 have h4:n/256/256/256/256<18446744073709551616:=Xz (X2 _ _) h3
 have q5:=qq (n/256/256/256/256/256) (Xz (X2 _ _) h4)
 have h5:n/256/256/256/256/256<18446744073709551616:=Xz (X2 _ _) h4
 have q6:=qq (n/256/256/256/256/256/256) (Xz (X2 _ _) h5)
 have h6:n/256/256/256/256/256/256<18446744073709551616:=Xz (X2 _ _) h5
 have q7:=qq (n/256/256/256/256/256/256/256) (Xz (X2 _ _) h6)
 have sti: ∀(o:Nat) (l:List AV) (y:Nat),l.length=8->o<8->tI 1 (some (rG 79 1 l 0 false true true)) Hx.nx o (nI .u8 y) (Hx.new (rG 79 1 l 0 false true true))=.val YS (Hx.new (rG 79 1 (l.set o (nI .u8 y)) 0 false true true)):=λo l y h1 h2=>by
  rw[NF (H:=Hx.new (rG 79 1 l 0 false true true)) (Cf .u8 y) (by omega) hro (Ym _),Us rfl]
 have g8:=λo=>Yi (H:=Hx) rfl o
 simp(maxSteps:=4000000) (disch:=first|assumption|omega|(simp -implicitDefEqProofs only[Y3,Y4]<;>first|assumption|omega)|decide) only[IM,t4,t5,t6,i9,c9,c8,s1,s2,s3,s4,s5,s6,s7,rm,ti,q0,q1,q2,q3,q4,q5,q6,q7,sti,g8,UE,Zf,Nat.reduceSub,D6,ZI,Yw,Yl,Yt,Vf]
 refine⟨_,rfl,rfl,rfl,rfl,t5⟩
theorem IY: ∀l:List UInt32,sameL (l.map ZN) (l.map ZN)=true
 |[]=>by unfold sameL;rfl
 |a::l=>by
  show sameL (ZN a::l.map ZN) (ZN a::l.map ZN)=true
  unfold sameL;rw[ux,IY l];rfl
structure DB(H0:Heap)(pb hb kb:Nat)(pd:List UInt8)(B0:List UInt32)(Tn:Nat)(v2:AV)(m:Nat)(tm:TM)(H:Heap):Prop where
 t2:Vt tm=v2
 t3:Xx tm=.slice pb 0 pd.length none
 t7:XY tm=.ptr kb 0
 t8:Xt tm=.ptr hb 0
 k:Zw H0 H [hb]
 i: ∃t,t+m=Tn∧WO tm=nI .i64 (64*t)∧H.t.get hb=some (rG 82 1 ((WR Wg B0 pd t).map ZN) 0 false true true)
def DBQ(H0:Heap)(pb hb kb:Nat)(pd:List UInt8)(B0:List UInt32)(Tn:Nat)(v2:AV)(o:Out)(tm:TM)(H:Heap):Prop:=o=.exit 4∧DB H0 pb hb kb pd B0 Tn v2 0 tm H
theorem aW{Zr:Lib}{fs:T CF}{fuel:Nat}(E:Env Zr fs fuel){d:Nat}{H0:Heap}{pb hb kb:Nat}{pd:List UInt8}{B0:List UInt32}{Tn:Nat}{v2:AV}{rp rk:Row}(hp:H0.t.get pb=some (.row rp))(cp:Cells rp (pd.map XP))(zp:rp.sz=1)(hpb:pb<H0.nx)(hne:pb≠hb)(hk:H0.t.get kb=some (.row rk))(ck:Cells rk (Wg.map ZN))(hkb:kb<H0.nx)(hnk:kb≠hb)(hro:H0.ro<=hb)(hhb:hb<H0.nx)(hB:B0.length=8)(hT:pd.length=64*Tn)(hl:pd.length<140737488355328)(y f r)(x:X)(m:Nat)(tm:TM)(H:Heap)(h:DB H0 pb hb kb pd B0 Tn v2 m tm H):
  ∃o tm' H',D7 ⟨ZU (LK Zr fs fuel 2) fs fuel (d+1),y,f,fuel,r⟩ tm H x=.ok o tm' H' x∧((o=.normal∧ ∃k,k<m∧DB H0 pb hb kb pd B0 Tn v2 k tm' H')∨(o≠.normal∧DBQ H0 pb hb kb pd B0 Tn v2 o tm' H')):=by
 obtain⟨t2,t3,t7,t8,k0,t,gW,t9,gh⟩:=h
 have t2':=t2;have My:=t3;have kq:=t7;have kr:=t8;have t9':=t9
 simp only[UN,LN,MI,FF] at t3 t7 t8 t9
 by_cases ht:t<Tn
 ·have d1:decide (64*t<pd.length)=true:=Zd (by omega)
  have n0:=k0.nx
  have gp:H.t.get pb=some (.row rp):=by rw[k0.get pb hpb (by simp;exact hne)];exact hp
  have gk:H.t.get kb=some (.row rk):=by rw[k0.get kb hkb (by simp;exact hnk)];exact hk
  have sp:rp.size=pd.length:=by rw[cp.size,Zp]
  have hlen:=RQ Wg B0 pd hB t
  obtain⟨hs,hhs⟩: ∃hs,WR Wg B0 pd t=hs:=⟨_,rfl⟩
  have hnx:WR Wg B0 pd (t+1)=NS Wg hs ((pd.drop (64*t)).take 64):=by rw[<-hhs];rfl
  rw[hhs] at gh hlen
  have l8: ∀G,wh 8 (some (rG 82 1 (hs.map ZN) 0 false true true)) 0 G=.val (.agg (hs.map ZN)) G:=λG=>xj (R:=⟨82,1,YL (hs.map ZN),T.ofList (hs.map ZN),.unk,0,false,true,true⟩) (Cells.new ..) (by rw[Zp,hlen]) G
  have l64: ∀G,wh 64 (some (.row rk)) 0 G=.val (.agg (Wg.map ZN)) G:=λG=>xj ck (by rw[Zp];rfl) G
  have s1: ∀G,G.t.get pb=some (.row rp)->Pp 1 (.slice pb 0 pd.length none) (some (nI .i64 (64*t))) (some (nI .i64 (64*t+64))) G=.val (.slice pb (64*t) 64 none) G:=λG hG=>by
   have:=zZ (H:=G) (b:=pb) (o:=0) (len:=pd.length) (l:=64*t) (h:=64*t+64) (cap:=none) hG zp (by omega) (by omega) (λ_ h=>by cases h) .i64 .i64
   rw[Zf,Uv] at this
   exact this
  have s1R:=s1 ⟨H.nx,H.t,H.nx⟩ gp
  have hbl:((pd.drop (64*t)).take 64).length=64:=by rw[ZW,Ya];omega
  have hby:Bytes H pb (64*t) none ((pd.drop (64*t)).take 64) rp:=⟨gp,zp,by rw[hbl];omega,λi hi=>by
   rw[hbl] at hi
   rw[cp.get _ (by rw[Zp];omega),Ze,ZZ,Zk (by omega),Ze,XK hi,Xl,Zk (by omega)];rfl,λ_ h=>by cases h⟩
  have e:=Zlv E (k:=2) (n:=d) (by decide) (H:=H) (by rw[k0.ro];omega) hlen hby hbl (by omega)
  have st:=U4 (n:=8) (b:=hb) (l:=hs.map ZN) (vs:=(NS Wg hs ((pd.drop (64*t)).take 64)).map ZN) (H:=H) (by rw[Zp,hlen]) (by rw[Zp];exact Qj ..) (by decide) (by rw[k0.ro];exact hro) 82 1 false true
  have ad:=λG=>YU (a:=64*t) (b:=64) (by omega) G
  have sm:=RZ (IY hs)
  have smk:=RZ (IY Wg)
  have ls:=λo n=>TO (n:=H.nx) (b:=pb) (by omega) o n none
  simp only[t3,t7,t8,t9,d1,gk,gh,l8,l64,s1R,e,st,ad,sm,smk,ls,Ua,LV,XA,Vz,Zv,D7,ZI,Yw,Yl,Xm,XX,Nat.reducePow,Nat.reduceDiv,Nat.reduceMod,Yt,Vf]
  exact⟨_,_,_,rfl,.inl ⟨rfl,m - 1,by omega,t2',My,kq,kr,k0.then_put λ_=>by simp,t+1,by omega,rfl,by rw[X9,hnx]⟩⟩
 ·have d1:decide (64*t<pd.length)=false:=Zb (by omega)
  simp only[t3,t9,d1,Vz,Zv,D7,ZI,Yw,Yt,Vf]
  exact⟨_,_,_,rfl,.inr ⟨by simp,rfl,t2',My,kq,kr,k0,t,by omega,t9',gh⟩⟩
theorem wM(a:UInt32)(H:Heap):Ga .u8 (ZN a) H=.val (XP a.toUInt8) H:=by
 show TU .u8 (.ofNat a.toNat) H=_
 rw[Wy,DK]
 unfold XP
 rw[UInt32.toNat_toUInt8]
structure DJ(H0:Heap)(hb ob:Nat)(hs:List UInt32)(v2:AV)(i:Nat)(m:Nat)(tm:TM)(H:Heap):Prop where
 t2:Vt tm=v2
 t8:Xt tm=.ptr hb 0
 t10:YB tm=.ptr ob 0
 t11:YN tm=nI .i64 i
 k:Zw H0 H [ob]
 i: ∃j,j+m=4∧Xj tm=nI .i64 j∧ ∃R,H.t.get ob=some (.row R)∧R.size=32∧R.own=true∧R.fz=0∧ ∀q,q<4*i+j->R.get q=XP (Ht hs q)
def DJQ(H0:Heap)(hb ob:Nat)(hs:List UInt32)(v2:AV)(i:Nat)(o:Out)(tm:TM)(H:Heap):Prop:=o=.exit 8∧DJ H0 hb ob hs v2 i 0 tm H
theorem aX{H0:Heap}{hb ob:Nat}{hs:List UInt32}{v2:AV}{i:Nat}(hi:i<8)(hh:hs.length=8)(gh:H0.t.get hb=some (rG 82 1 (hs.map ZN) 0 false true true))(hhb:hb<H0.nx)(hne:hb≠ob)(hro:H0.ro<=ob)(cx:Ctx)(x:X)(m:Nat)(tm:TM)(H:Heap)(h:DJ H0 hb ob hs v2 i m tm H):
  ∃o tm' H',D8 cx tm H x=.ok o tm' H' x∧((o=.normal∧ ∃k,k<m∧DJ H0 hb ob hs v2 i k tm' H')∨(o≠.normal∧DJQ H0 hb ob hs v2 i o tm' H')):=by
 obtain⟨t2,t8,t10,t11,k0,j,hjm,t12,Rw,gw,hsz,how,hfz,hR⟩:=h
 have t2':=t2;have kr:=t8;have JZ:=t10;have NG:=t11;have G4:=t12
 simp only[MI,Mm,Sy,OW] at t8 t10 t11 t12
 by_cases hj:j<4
 ·have d1:decide (j<4)=true:=Zd hj
  have gH:H.t.get hb=some (rG 82 1 (hs.map ZN) 0 false true true):=by rw[k0.get hb hhb (by simp;exact hne)];exact gh
  have m1:=λG=>FN (a:=4) (b:=i) (by omega) G
  have m2:=λG=>FN (a:=8) (b:=j) (by omega) G
  have a1:=λG=>YU (a:=4*i) (b:=j) (by omega) G
  have a2:=λG=>YU (a:=j) (b:=1) (by omega) G
  have sb:=λG=>Vp (a:=24) (b:=8*j) (by omega) (by omega) G
  have sr:=λG=>uB (hs.getD i 0) (n:=24 - 8*j) (by omega) .i64 G
  have ix: ∀G,EN 8 1 (.ptr hb 0) (nI .i64 i) G=.val (.ptr hb (0+i)) G:=λG=>UE hi hb 0 .i64 G
  have iy: ∀G,EN 32 1 (.ptr ob 0) (nI .i64 (4*i+j)) G=.val (.ptr ob (0+(4*i+j))) G:=λG=>UE (by omega) ob 0 .i64 G
  have lh: ∀G,ld1 (some (rG 82 1 (hs.map ZN) 0 false true true)) i G=.val (ZN (hs.getD i 0)) G:=λG=>by
   rw[Yf (by rw[Zp,hh];exact hi),FL (by rw[hh];exact hi)]
  have eb:(hs.getD i 0>>>UInt32.ofNat (24 - 8*j)).toUInt8=Ht hs (4*i+j):=by
   unfold Ht;rw[show(4*i+j)/4=i by omega,show(4*i+j) % 4=j by omega]
  have st:=G1 (r:=Rw) (b:=ob) (o:=4*i+j) (v:=XP (Ht hs (4*i+j))) (H:=H) rfl (by omega) how (by rw[k0.ro];exact hro) (by omega)
  simp only[t8,t10,t11,t12,d1,gH,gw,m1,m2,a1,a2,sb,sr,ix,iy,lh,eb,st,wM,Zv,Zf,D8,ZI,Yw,Yt,PE]
  exact⟨_,_,_,rfl,.inl ⟨rfl,m - 1,by omega,t2',kr,JZ,NG,k0.then_put λ_=>by simp,j+1,by omega,rfl,_,X9 ..,hsz,how,hfz,λq hq=>by
   rw[Row.st_get]
   by_cases e:4*i+j=q
   ·rw[if_pos e,e]
   ·rw[if_neg e];exact hR q (by omega)⟩⟩
 ·have d1:decide (j<4)=false:=Zb hj
  simp only[t12,d1,Zv,D8,ZI,Yw,Yt,PE]
  exact⟨_,_,_,rfl,.inr ⟨by simp,rfl,t2',kr,JZ,NG,k0,j,by omega,G4,Rw,gw,hsz,how,hfz,hR⟩⟩
structure DO4(H0:Heap)(hb ob:Nat)(hs:List UInt32)(v2:AV)(m:Nat)(tm:TM)(H:Heap):Prop where
 t2:Vt tm=v2
 t8:Xt tm=.ptr hb 0
 t10:YB tm=.ptr ob 0
 k:Zw H0 H [ob]
 i: ∃i,i+m=8∧YN tm=nI .i64 i∧ ∃R,H.t.get ob=some (.row R)∧R.size=32∧R.own=true∧R.fz=0∧ ∀q,q<4*i->R.get q=XP (Ht hs q)
def DOQ(H0:Heap)(hb ob:Nat)(hs:List UInt32)(v2:AV)(o:Out)(tm:TM)(H:Heap):Prop:=o=.exit 6∧DO4 H0 hb ob hs v2 0 tm H
theorem aZ{H0:Heap}{hb ob:Nat}{hs:List UInt32}{v2:AV}(hh:hs.length=8)(gh:H0.t.get hb=some (rG 82 1 (hs.map ZN) 0 false true true))(hhb:hb<H0.nx)(hne:hb≠ob)(hro:H0.ro<=ob)(cx:Ctx)(hF:10<=cx.fuel)(x:X)(m:Nat)(tm:TM)(H:Heap)(h:DO4 H0 hb ob hs v2 m tm H):
  ∃o tm' H',D9 cx tm H x=.ok o tm' H' x∧((o=.normal∧ ∃k,k<m∧DO4 H0 hb ob hs v2 k tm' H')∨(o≠.normal∧DOQ H0 hb ob hs v2 o tm' H')):=by
 obtain⟨t2,t8,t10,k0,i,him,t11,Rw,gw,hsz,how,hfz,hR⟩:=h
 have t2':=t2;have kr:=t8;have JZ:=t10;have NG:=t11
 simp only[Sy] at t11
 by_cases hi:i<8
 ·have d1:decide (i<8)=true:=Zd hi
  simp only[t11,d1,Zv,D9,ZI,Yw,Yt,Vf]
  generalize hL:XD (D8 _) _ _ _ _=L
  obtain⟨o,Nb,H2,rfl,_,rfl,u2,u8,u10,u11,k1,j,hj,u12,R2,g2,s2,o2,f2,hR2⟩:=YG (P:=λT=>DJ H0 hb ob hs v2 i 4 T H) (Q:=DJQ H0 hb ob hs v2 i)
   (λT hi2=>YX (DJ H0 hb ob hs v2 i) (DJQ H0 hb ob hs v2 i) (λm tm H' h=>aX hi hh gh hhb hne hro _ _ m tm H' h) cx.fuel 4 T H (by omega) hi2) hL
   (by exact⟨t2',kr,JZ,NG,k0,0,rfl,rfl,Rw,gw,hsz,how,hfz,hR⟩)
  have ad:=λG=>YU (a:=i) (b:=1) (by omega) G
  simp only[Sy] at u11
  simp only[u11,ad,ZI,Yw,Yt,Vf]
  exact⟨_,_,_,rfl,.inl ⟨rfl,m - 1,by omega,u2,u8,u10,k1,i+1,by omega,rfl,R2,g2,s2,o2,f2,λq hq=>hR2 q (by omega)⟩⟩
 ·have d1:decide (i<8)=false:=Zb hi
  simp only[t11,d1,Zv,D9,ZI,Yw,Yt,Vf]
  exact⟨_,_,_,rfl,.inr ⟨by simp,rfl,t2',kr,JZ,k0,i,by omega,NG,Rw,gw,hsz,how,hfz,hR⟩⟩
theorem jR{F n:Nat}{tm:TM}{Hx:Heap}{cx:Ctx}{x:X}{L:WC}(hL:XD (D6 cx) F tm (Hx.new (rG 79 1 [nI .u8 0,nI .u8 0,nI .u8 0,nI .u8 0,nI .u8 0,nI .u8 0,nI .u8 0,nI .u8 0] 0 false true true)) x=L)(hF:9<=F)(hn:n<18446744073709551616)(hro:Hx.ro<=Hx.nx)(t4:Xu tm=nI .u64 n)(t5:YT tm=.ptr Hx.nx 0)(t6:Wm tm=nI .i64 7):
  ∃tm',L=.ok (.exit 2) tm' (Hx.new (rG 79 1 (yv n) 0 false true true)) x∧Yu tm'=Yu tm∧Vt tm'=Vt tm∧Xx tm'=Xx tm∧YT tm'=YT tm:=by
 obtain⟨tm',e,h⟩:=Zes hF hn hro cx x t4 t5 t6
 exact⟨tm',hL.symm.trans e,h⟩
def MY:List UInt32:=[1779033703,3144134277,1013904242,2773480762,1359893119,2600822924,528734635,1541459225]
def Ob(l:List UInt8):List UInt8:=(l++[128])++List.replicate (O5 (l.length % 64)) 0++Vk l.length 8
def Sx(l:List UInt8):List UInt8:=Qd (WR Wg MY (Ob l) ((Ob l).length/64)) 32
theorem eO(l:List UInt8):(Ob l).length=64*((Ob l).length/64)∧(Ob l).length=l.length+1+O5 (l.length % 64)+8:=by
 have h:(Ob l).length=l.length+1+O5 (l.length % 64)+8:=by unfold Ob Vk;simp;omega
 refine⟨?_,h⟩
 rw[h];unfold O5;omega
def z32:Row:=⟨54,1,32,.leaf,nI .u8 0,0,false,true,true⟩
theorem bV:(⟨54,1,32,.leaf,nI .u8 0,0,false,true,true⟩:Row)=z32:=rfl
theorem kN:Cells z32 (List.replicate 32 (nI .u8 0)):=Cells.zero ..
theorem QR(n:Nat): ∀l:List UInt8,RJ n (l.map XP)=true
 |[]=>rfl
 |_::l=>QR n l
theorem jQ{Zr:Lib}{fs:T CF}{fuel:Nat}(E:Env Zr fs fuel){n:Nat}{l:List UInt8}{v:AV}{H:Heap}(hro:H.ro<=H.nx)(hv:BV H v l)(hl:l.length<=100000):
  ∃H',ZU (LK Zr fs fuel 2) fs fuel (n+2) 18 [v] H=.ret (.agg ((Sx l).map XP)) H'∧Zw H H' []:=by
 rw[Z4 (Z3 E.n18 (.inl (by decide)) _ _) E.f18]
 have hf:=E.big
 have hlZ:O5 (l.length % 64)<64:=Vy _ (by decide)
 obtain⟨Z,hZ⟩: ∃Z,O5 (l.length % 64)=Z:=⟨_,rfl⟩
 have EM:=eO l
 have epd:Ob l=(l++[128])++List.replicate Z 0++Vk l.length 8:=by rw[<-hZ];rfl
 have hn1: ∀j,j<Z->((l++[(128:UInt8)]).length+j) % 64≠56:=λj hj=>by
  rw[ZE];show(l.length+1+j) % 64≠56
  rw[<-hZ] at hj;unfold O5 at hj;omega
 have hn2:((l++[(128:UInt8)]).length+Z) % 64=56:=by
  rw[ZE];show(l.length+1+Z) % 64=56
  rw[<-hZ];unfold O5;omega
 rw[hZ] at hlZ
 have hl1:(l++[(128:UInt8)]).length=l.length+1:=by rw[ZE];rfl
 obtain⟨H1,hH1⟩: ∃G,H.new (.row z32)=G:=⟨_,rfl⟩
 have Lb:H1.nx=H.nx+1:=by rw[<-hH1];rfl
 have k1:Zw H H1 []:=by rw[<-hH1];exact Zw.new _ _ _
 have g1:H1.t.get H.nx=some (.row z32):=by rw[<-hH1];exact Yi rfl _
 have bv1:BV H1 v l:=hv.keep k1 λ_ _ _ _ _=>by simp
 have qa:H1.ro<=H1.nx:=by rw[k1.ro];omega
 obtain⟨v1,H2,ea1,b1,w1⟩:=AJ (H:=H1) (v:=.nils) (w:=v) (l:=[]) (m:=l) (lo:=H.nx+1) (.inl ⟨rfl,rfl⟩) (Zjw bv1) (by simp;omega) qa (by omega)
 rw[ZQ] at b1
 have m1:=w1.nx
 have ro2:H2.ro<=H2.nx:=by rw[w1.ro];omega
 obtain⟨v2,H3,ea2,b2,w2⟩:=wz b1 (by omega) ro2 (by omega) 128
 have ea2:U0 5 1 1 v1 (.slice H2.nx 0 1 none) (H2.new (rG 5 1 [nI .u8 128] 0 false true true))=.val v2 H3:=ea2
 have m2:=w2.nx
 have ro3:H3.ro<=H3.nx:=by rw[w2.ro];omega
 simp only[bV,hH1,ea1,ea2,Z9,Sg,Qr,Wn,Zy,ZH,c18,ZI,Yw,Yt,]
 generalize hL:XD (D5 _) fuel _ _ _=L
 obtain⟨o,Nb,H4,rfl,_,rfl,t0,t2,w3,j,hj,b3⟩:=YG (P:=λT=>DZ H3 (H.nx+1) (l++[128]) Z v (.ptr H.nx 0) Z T H3) (Q:=DZQ H3 (H.nx+1) (l++[128]) Z v (.ptr H.nx 0))
  (λT hi=>YX (DZ H3 (H.nx+1) (l++[128]) Z v (.ptr H.nx 0)) (DZQ H3 (H.nx+1) (l++[128]) Z v (.ptr H.nx 0)) (λm tm H' h=>Zae hn1 hn2 (by omega) (by simp) ro3 (by omega) _ _ m tm H' h) fuel Z T H3 (by omega) hi) hL
  (by exact⟨rfl,rfl,Below.refl _ _,0,by omega,by rw[Ui,Yn];exact b2⟩)
 obtain rfl:j=Z:=by omega
 obtain⟨v3,hv3⟩: ∃v3,Xx Nb=v3:=⟨_,rfl⟩
 rw[hv3] at b3
 have t0':=t0;have t2':=t2;have ZmQ:=hv3
 simp only[VF,Sk,UN] at t0 t2 hv3
 have m3:=w3.nx
 have ro4:H4.ro<=H4.nx:=by rw[w3.ro];omega
 have lv:=hv.len
 have il: ∀G,Ga .u64 (nI .i64 l.length) G=.val (nI .u64 l.length) G:=λG=>fd (by omega) G
 have mu: ∀G,fP (nI .u64 l.length) (nI .u64 8) G=.val (nI .u64 (l.length*8)) G:=λG=>fQ (by omega) G
 simp only[t0,lv,il,mu,OY,ZI,Yw,Yt,]
 generalize hL:XD (D6 _) fuel _ _ _=L
 obtain⟨tC,rfl,x0,x2,x3,x5⟩:=jR (n:=l.length*8) hL (by omega) (by omega) ro4 (by exact rfl) (by exact rfl) (by exact rfl)
 have u0:Yu tC=v:=x0.trans t0'
 have u2:Vt tC=.ptr H.nx 0:=x2.trans t2'
 have u3:Xx tC=v3:=x3.trans ZmQ
 have u5:YT tC=.ptr H4.nx 0:=x5
 have u2':=u2
 simp only[VF,Sk,UN,Ss] at u0 u2 u3 u5
 have etc:yv (l.length*8)=(Vk l.length 8).map XP:=by
  rw[<-bI,Yx (by omega)]
 obtain⟨H5,hH5⟩: ∃G,H4.new (rG 79 1 (yv (l.length*8)) 0 false true true)=G:=⟨_,rfl⟩
 have nx5:H5.nx=H4.nx+1:=by rw[<-hH5];rfl
 have k5:Zw H4 H5 []:=by rw[<-hH5];exact Zw.new _ _ _
 have g5:H5.t.get H4.nx=some (rG 79 1 ((Vk l.length 8).map XP) 0 false true true):=by rw[<-hH5,etc];exact Yi rfl _
 have ro5:H5.ro<=H5.nx:=by rw[k5.ro];omega
 have b5:Buf H5 v3 (l++[128]++List.replicate j 0) (H.nx+1):=b3.below (λc _ h=>k5.get c h (by simp)) k5.ro k5.nx
 have gR:((Vk l.length 8).map XP).length=8:=by rw[Zp];unfold Vk;rw[Zp,List.length_range]
 have Znm:Src H5 (.slice H4.nx 0 8 (some 8)) ((Vk l.length 8).map XP):=by
  have:=Src.row (H:=H5) (b:=H4.nx) (o:=0) (c:=some 8) (l:=(Vk l.length 8).map XP) g5 (by show 0+((Vk l.length 8).map XP).length<=YL ((Vk l.length 8).map XP);rw[Yz];omega) λi hi=>by
   rw[Zf];exact(Cells.new ..).get i hi
  rw[gR] at this;exact this
 have sl: ∀b G,BF 8 1 (.ptr b 0) none none G=.val (.slice b 0 8 (some 8)) G:=λ_ _=>rfl
 obtain⟨v4,H6,ea4,b6,w6⟩:=AJ b5 Znm (by rw[ZE,hl1,Y5];unfold Vk;rw[Zp,List.length_range];omega) ro5 (by omega)
 rw[<-epd] at b6
 have m6:=w6.nx
 have ro6:H6.ro<=H6.nx:=by rw[w6.ro];omega
 have ec:=λ{j}=>Zel E (k:=2) (n:=j) (by decide) (H:=H6) ro6
 obtain⟨H7,hH7⟩: ∃G,H6.new (.row (ZbS (z64 80) (Wg.map ZN)))=G:=⟨_,rfl⟩
 have nx7:H7.nx=H6.nx+1:=by rw[<-hH7];rfl
 have k7:Zw H6 H7 []:=by rw[<-hH7];exact Zw.new _ _ _
 have g7:H7.t.get H6.nx=some (.row (ZbS (z64 80) (Wg.map ZN))):=by rw[<-hH7];exact Yi rfl _
 have Vw:tI 64 (some (.row (z64 80))) H6.nx 0 (.agg (Wg.map ZN)) (H6.new (.row (z64 80)))=.val YS H7:=by
  rw[Ee (n:=64) (R:=z64 80) (H:=H6.new (.row (z64 80))) (by decide) (by rw[Zp];rfl) rfl rfl rfl ro6,Us rfl,hH7]
 have bd: ∀G,PT [nI .u32 0,nI .u32 0,nI .u32 0,nI .u32 0,nI .u32 0,nI .u32 0,nI .u32 0,nI .u32 0] [(0,1,nI .u32 1779033703),(1,1,nI .u32 3144134277),(2,1,nI .u32 1013904242),(3,1,nI .u32 2773480762),(4,1,nI .u32 1359893119),(5,1,nI .u32 2600822924),(6,1,nI .u32 528734635),(7,1,nI .u32 1541459225)] G=.val (.agg (MY.map ZN)) G:=λ_=>rfl
 obtain⟨H8,hH8⟩: ∃G,H7.new (rG 82 1 (MY.map ZN) 0 false true true)=G:=⟨_,rfl⟩
 have nx8:H8.nx=H6.nx+2:=by rw[<-hH8];show H7.nx+1=_;rw[nx7]
 have k8:Zw H7 H8 []:=by rw[<-hH8];exact Zw.new _ _ _
 have g8:H8.t.get (H6.nx+1)=some (rG 82 1 (MY.map ZN) 0 false true true):=by rw[<-hH8];exact Yi nx7 _
 have ro7:H7.ro<=H7.nx:=by rw[k7.ro];omega
 have Vc:tI 8 (some (rG 82 1 [nI .u32 0,nI .u32 0,nI .u32 0,nI .u32 0,nI .u32 0,nI .u32 0,nI .u32 0,nI .u32 0] 0 false true true)) (H6.nx+1) 0 (.agg (MY.map ZN)) (H7.new (rG 82 1 [nI .u32 0,nI .u32 0,nI .u32 0,nI .u32 0,nI .u32 0,nI .u32 0,nI .u32 0,nI .u32 0] 0 false true true))=.val YS H8:=by
  rw[U4 (n:=8) (l:=[nI .u32 0,nI .u32 0,nI .u32 0,nI .u32 0,nI .u32 0,nI .u32 0,nI .u32 0,nI .u32 0]) (vs:=MY.map ZN) (H:=H7.new (rG 82 1 [nI .u32 0,nI .u32 0,nI .u32 0,nI .u32 0,nI .u32 0,nI .u32 0,nI .u32 0,nI .u32 0] 0 false true true)) rfl rfl (by decide) (by show H7.ro<=_;omega),Us nx7,hH8]
 have gn7: ∀ob,(H7.new ob).t.get (H6.nx+1)=some ob:=λob=>Yi nx7 ob
 simp only[hH5,u3,u5,ea4,ec,sl,Vw,Vc,bd,nx7,gn7,qC,OY,Wn,IP,Vl,Rk,Zy,ZH,ZI,Yw,ZG,Yt,Vf]
 have hpb: ∃pb rp,v4=.slice pb 0 (Ob l).length none∧H6.t.get pb=some (.row rp)∧Cells rp ((Ob l).map XP)∧rp.sz=1∧pb<H6.nx:=by
  rcases b6 with⟨e,_⟩|⟨_,b,r,e,g,_⟩
  ·exact absurd e (by rw[epd];simp)
  ·exact⟨b,r,e,g.at_,g.cells,g.sz,g.low⟩
 obtain⟨pb,rp,rfl,gp,cpr,zp,hpl⟩:=hpb
 have k68:Zw H6 H8 []:=k7.trans' k8
 generalize hL:XD (D7 _) fuel _ _ _=L
 obtain⟨o,tm3,H9,rfl,_,rfl,y2,y3,y7,y8,k9,tt,htt,y9,gh9⟩:=YG (P:=λT=>DB H8 pb (H6.nx+1) H6.nx (Ob l) MY ((Ob l).length/64) (.ptr H.nx 0) ((Ob l).length/64) T H8) (Q:=DBQ H8 pb (H6.nx+1) H6.nx (Ob l) MY ((Ob l).length/64) (.ptr H.nx 0))
  (λT hi=>YX (DB H8 pb (H6.nx+1) H6.nx (Ob l) MY ((Ob l).length/64) (.ptr H.nx 0)) (DBQ H8 pb (H6.nx+1) H6.nx (Ob l) MY ((Ob l).length/64) (.ptr H.nx 0)) (λm tm H' h=>aW E (by rw[k68.get pb hpl (by simp)];exact gp) cpr zp (by omega) (by omega) (by rw[k8.get _ (by omega) (by simp)];exact g7) (IS (yB 80) (by rw[Zp,Y5];rfl)) (by omega) (by omega) (by rw[k68.ro];omega) (by omega) rfl EM.1 (by omega) _ _ _ _ m tm H' h) fuel ((Ob l).length/64) T H8 (by omega) hi) hL
  (by exact⟨u2',rfl,rfl,rfl,Zw.refl _ _,0,by omega,rfl,g8⟩)
 obtain rfl:tt=(Ob l).length/64:=by omega
 have y2':=y2;have y8':=y8
 simp only[Sk,MI] at y2 y8
 have m9:=k9.nx
 have hbl:=RQ Wg MY (Ob l) rfl ((Ob l).length/64)
 obtain⟨hs,hhs⟩: ∃hs,WR Wg MY (Ob l) ((Ob l).length/64)=hs:=⟨_,rfl⟩
 rw[hhs] at gh9 hbl
 obtain⟨HA,hHA⟩: ∃G,H9.new (.row z32)=G:=⟨_,rfl⟩
 have nxA:HA.nx=H9.nx+1:=by rw[<-hHA];rfl
 have kA:Zw H9 HA []:=by rw[<-hHA];exact Zw.new _ _ _
 have gA:HA.t.get H9.nx=some (.row z32):=by rw[<-hHA];exact Yi rfl _
 have roA:HA.ro<=H9.nx:=by rw[kA.ro,k9.ro,k68.ro];omega
 simp only[bV,hHA,ZI,Yt,]
 generalize hL:XD (D9 _) fuel _ _ _=L
 obtain⟨o,tm4,HB,rfl,_,rfl,x2,x8,x10,kB,i,hi,x11,Rw,gB,hsz,how,hfz,hR⟩:=YG (P:=λT=>DO4 HA (H6.nx+1) H9.nx hs (.ptr H.nx 0) 8 T HA) (Q:=DOQ HA (H6.nx+1) H9.nx hs (.ptr H.nx 0))
  (λT hi=>YX (DO4 HA (H6.nx+1) H9.nx hs (.ptr H.nx 0)) (DOQ HA (H6.nx+1) H9.nx hs (.ptr H.nx 0)) (λm tm H' h=>aZ hbl (by rw[kA.get _ (by omega) (by simp)];exact gh9) (by omega) (by omega) roA _ (by show 10<=fuel;omega) _ m tm H' h) fuel 8 T HA (by omega) hi) hL
  (by exact⟨y2',y8',rfl,Zw.refl _ _,0,rfl,rfl,z32,gA,rfl,rfl,rfl,λq hq=>by omega⟩)
 obtain rfl:i=8:=by omega
 simp only[Sk,Mm] at x2 x10
 have hds:Sx l=Qd hs 32:=by unfold Sx;rw[hhs]
 have hdl:((Qd hs 32).map XP).length=32:=by rw[Zp,Pv]
 have cR:Cells Rw ((Qd hs 32).map XP):=⟨by rw[hdl,hsz],λq hq=>by
  rw[hdl] at hq
  rw[hR q (by omega),Ze,ZZ]
  unfold Qd
  rw[ZZ,XL hq];rfl⟩
 have l32: ∀G,wh 32 (some (.row Rw)) 0 G=.val (.agg ((Qd hs 32).map XP)) G:=λG=>xj cR hdl G
 have k16: ∀c,c<H.nx+1->H6.t.get c=H1.t.get c:=λc hc=>by
  rw[w6.get c (by omega) (by omega),k5.get c (by omega) (by simp),w3.get c (by omega) (by omega),w2.get c (by omega) (by omega),w1.get c (by omega) (by omega)]
 have fi:Zw H6 HB [H6.nx+1,H9.nx]:=by
  refine⟨by have:=kB.nx;omega,by rw[kB.ro,kA.ro,k9.ro,k68.ro],λc hc hn=>?_⟩
  rw[kB.get c (by omega) (by simp at hn ⊢;omega),kA.get c (by omega) (by simp),k9.get c (by omega) (by simp at hn ⊢;omega),k68.get c hc (by simp)]
 have gr:HB.t.get H.nx=some (.row z32):=by rw[fi.get _ (by omega) (by simp;omega),k16 _ (by omega)];exact g1
 have roB:HB.ro<=H.nx:=by rw[fi.ro,w6.ro,k5.ro,w3.ro,w2.ro,w1.ro,k1.ro];exact hro
 have stR:=Ee (n:=32) (b:=H.nx) (R:=z32) (vs:=(Qd hs 32).map XP) (H:=HB) (by decide) hdl rfl rfl rfl roB
 have rv:=λk=>eY (n:=32) (IS kN (vs:=(Qd hs 32).map XP) (by rw[hdl,Y5])) hdl k
 rw[hds]
 simp only[x2,x10,gB,gr,l32,stR,rv,X9,ZI,Yw,ZG,Yt,PE]
 refine⟨_,rfl,?_⟩
 refine⟨by show H.nx<=HB.nx;have:=fi.nx;omega,by show HB.ro=_;rw[fi.ro,w6.ro,k5.ro,w3.ro,w2.ro,w1.ro,k1.ro],λc hc _=>?_⟩
 rw[RU (by omega),fi.get c (by omega) (by simp;omega),k16 c (by omega),k1.get c hc (by simp)]
theorem ZhO{Zr:Lib}{fs:T CF}{fuel:Nat}(E:Env Zr fs fuel){k n:Nat}(hk:3<=k){l:List UInt8}{v:AV}{H:Heap}(hro:H.ro<=H.nx)(hv:BV H v l)(hl:l.length<=100000):
  ZU (LK Zr fs fuel k) fs fuel (n+1) 18 [v] H=.ret (.agg ((Sx l).map XP)) H:=by
 obtain⟨H',e,g⟩:=jQ E (n:=898) (H:=H) hro hv hl
 exact YI (r:=2) rfl rfl e g (QR _ _) hk
theorem KM(K B:List UInt32)(a b:List UInt8){p:Nat}(ha:a.length=64*p): ∀s,s<=p->WR K B (a++b) s=WR K B a s
 |0,_=>rfl
 |s+1,h=>by
  show NS K (WR K B (a++b) s) (((a++b).drop (64*s)).take 64)=NS K (WR K B a s) ((a.drop (64*s)).take 64)
  rw[KM K B a b ha s (by omega),List.drop_append_of_le_length (by omega),List.take_append_of_le_length (by rw[Ya];omega)]
theorem Eo(K B:List UInt32)(a b:List UInt8){p:Nat}(ha:a.length=64*p): ∀t,WR K B (a++b) (p+t)=WR K (WR K B a p) b t
 |0=>KM K B a b ha p (Zo _)
 |t+1=>by
  show NS K (WR K B (a++b) (p+t)) (((a++b).drop (64*(p+t))).take 64)=NS K (WR K (WR K B a p) b t) ((b.drop (64*t)).take 64)
  rw[Eo K B a b ha t,show 64*(p+t)=a.length+64*t by omega,List.drop_append]
  congr 2
  rw[X8 (by omega),ZQ,Uv]
theorem Zab(l:List UInt8):Sx l=Kb Wg MY l:=by
 unfold Sx Kb BY
 obtain⟨q,hq⟩: ∃q,l.length/64=q:=⟨_,rfl⟩
 rw[hq]
 have hr:(l.drop (64*q)).length=l.length % 64:=by rw[Ya];omega
 have ht:(l.take (64*q)).length=64*q:=by rw[ZW];omega
 have e:Ob l=l.take (64*q)++Le (l.drop (64*q)) l.length:=by
  unfold Ob Le
  rw[hr,<-Xk,<-Xk,<-Xk,Se]
 have e2:WR Wg MY l q=WR Wg MY (l.take (64*q)) q:=by
  have:=KM Wg MY (l.take (64*q)) (l.drop (64*q)) ht q (Zo _)
  rw[Se] at this;exact this
 have e3:(Ob l).length/64=q+(Le (l.drop (64*q)) l.length).length/64:=by
  rw[e,ZE,ht];omega
 rw[e3,e2,<-Eo Wg MY _ _ ht,e]
end
end Go.AI
