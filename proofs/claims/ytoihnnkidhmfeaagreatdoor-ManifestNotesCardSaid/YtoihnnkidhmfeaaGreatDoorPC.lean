/- The sum of bytes, by the program's code and the document's: walked, and the same: proved without conditions but those that each names. -/
import Derived.Test.YtoihnnkidhmfeaaGreatDoorP7
import Derived.Test.YtoihnnkidhmfeaaGreatDoorP8
import Derived.Test.YtoihnnkidhmfeaaGreatDoorP9
import Derived.KernelRfl
set_option maxRecDepth 1000000
set_option maxHeartbeats 0
set_option linter.unusedVariables false
set_option linter.unusedSimpArgs false
namespace Go.AI
open Go
noncomputable section
section
variable {lib:Nat->List AV->Heap->Option CR} {fs:T CF} {fuel:Nat}
theorem eS{n:Nat}(hl: ∀l H,lib 84 l H=none)(hf:fs.get 84=some yO)(a:UInt32)(k:Int)(s:Nat)(h1:0<s)(h2:s<32)(hs:Nat.land (RE 18446744073709551616 (IntKind.u64.wrap k)) 31=s)(H:Heap):
  Yo lib fs fuel (n+1) 84 [ZH a,.int .i64 k] H=.ret (ZH ((a<<<UInt32.ofNat s)|||(a>>>UInt32.ofNat (32 - s)))) H:=by
 rw[YM (hl _ _) hf]
 have i1: ∀H,LB .u64 (.int .i64 k) H=.val (.int .u64 (IntKind.u64.wrap k)) H:=λH=>Xz _ _ _
 have i2: ∀H,Io T8 (.int .u64 (IntKind.u64.wrap k)) (nI .u64 31) H=.val (nI .u64 s) H:=λH=>by
  show UV .u64 (.ofNat (Nat.land (RE 18446744073709551616 (IntKind.u64.wrap k)) (31 % 18446744073709551616))) H=_
  rw[Xz,show 31 % 18446744073709551616=31 from rfl,hs,SE,ZU (by omega)];rfl
 have i3: ∀H,AR (nI .u64 32) (nI .u64 s) H=.val (nI .u64 (32 - s)) H:=λH=>by
  show UV .u64 (I7 (.ofNat 32) (.ofNat s)) H=_
  rw[Xz,CU (by omega),SE,ZU (by omega)];rfl
 simp only[yO,QI,Q1,i1,i2,i3,Dn _ h2,G0 _ (show 32 - s<32 by omega),xD,XF,XE,XJ,Wm,XO,Yn,XC,Xm,Xf,X2,XI,XP,XR,Xq,Y5,Y9,Yp,Yw,Xs,V4,TC,Vc,Wj,WN,WD,WB,XK,WJ,WC,WF,WG,XS,WH,WI,XV,WA,Vl,WE,XU,Xk,N8.g00,N8.g01,N8.g02,N8.g03,N8.g04,N8.g05,N8.g06,N8.g07,N8.g10,N8.g11,N8.g12,N8.g13,N8.g14,N8.g15,N8.g16,N8.g17,N8.g20,N8.g21,N8.g22,N8.g23,N8.g24,N8.g25,N8.g26,N8.g27,N8.g30,N8.g31,N8.g32,N8.g33,N8.g34,N8.g35,N8.g36,N8.g37,N8.g40,N8.g41,N8.g42,N8.g43,N8.g44,N8.g45,N8.g46,N8.g47,N8.g50,N8.g51,N8.g52,N8.g53,N8.g54,N8.g55,N8.g56,N8.g57,N8.g60,N8.g61,N8.g62,N8.g63,N8.g64,N8.g65,N8.g66,N8.g67,N8.g70,N8.g71,N8.g72,N8.g73,N8.g74,N8.g75,N8.g76,N8.g77,JS,Ud,Od,T7,Pc,Nd,N2,Kh,Ji,Nu,R3,MG,Je,Lz,Ix,Jf,Ij,Ik,Hv,Fg,F9,E5,KR,M1,IJ,IK,IL,EU,EV,Hu,nO,Ud,Od,T7]
theorem ia{n:Nat}(hl: ∀l H,lib 84 l H=none)(hl2: ∀l H,lib 69 l H=none)(hf:fs.get 84=some yO)(hf2:fs.get 69=some x6)(a:UInt32)(k s:Nat)(h0:k<9223372036854775808)(h1:0<s)(h2:s<32)
  (hs:Nat.land (RE 18446744073709551616 (IntKind.u64.wrap (IntKind.i64.wrap (I7 0 (.ofNat k))))) 31=s)(H:Heap):
  Yo lib fs fuel (n+2) 69 [ZH a,nI .i64 k] H=.ret (ZH ((a<<<UInt32.ofNat s)|||(a>>>UInt32.ofNat (32 - s)))) H:=by
 rw[YM (hl2 _ _) hf2]
 have i1: ∀H,fJ (nI .i64 k) H=.val (.int .i64 (IntKind.i64.wrap (I7 0 (.ofNat k)))) H:=λH=>Xz _ _ _
 simp only[x6,QI,Q1,i1,eS hl hf a _ s h1 h2 hs,XF,XE,XJ,Wm,XO,Yn,XC,Xm,Xf,X2,XI,XP,XR,Xq,Y5,Y9,Yp,Yw,Xs,V4,TC,Vc,Wj,WN,WD,WB,XK,WJ,WC,WF,WG,XS,WH,WI,XV,WA,Vl,WE,XU,Xk,N8.g00,N8.g01,N8.g02,N8.g03,N8.g04,N8.g05,N8.g06,N8.g07,N8.g10,N8.g11,N8.g12,N8.g13,N8.g14,N8.g15,N8.g16,N8.g17,N8.g20,N8.g21,N8.g22,N8.g23,N8.g24,N8.g25,N8.g26,N8.g27,N8.g30,N8.g31,N8.g32,N8.g33,N8.g34,N8.g35,N8.g36,N8.g37,N8.g40,N8.g41,N8.g42,N8.g43,N8.g44,N8.g45,N8.g46,N8.g47,N8.g50,N8.g51,N8.g52,N8.g53,N8.g54,N8.g55,N8.g56,N8.g57,N8.g60,N8.g61,N8.g62,N8.g63,N8.g64,N8.g65,N8.g66,N8.g67,N8.g70,N8.g71,N8.g72,N8.g73,N8.g74,N8.g75,N8.g76,N8.g77,JS,Ud,Od,T7,Pc,Nd,N2,Kh,Ij,Ik,Hv,Fg,F9,Hu,nO,Ud,Od,T7]
def JH(x:UInt32)(k:Nat):UInt32:=(x<<<UInt32.ofNat (32 - k))|||(x>>>UInt32.ofNat k)
def sg0(x:UInt32):UInt32:=JH x 7^^^JH x 18^^^(x>>>UInt32.ofNat 3)
def sg1(x:UInt32):UInt32:=JH x 17^^^JH x 19^^^(x>>>UInt32.ofNat 10)
theorem px{n:Nat}(hl: ∀l H,lib 84 l H=none)(hl2: ∀l H,lib 69 l H=none)(hf:fs.get 84=some yO)(hf2:fs.get 69=some x6)(a:UInt32)(k:Nat)(h0:0<k)(h:k<32)(H:Heap):
  Yo lib fs fuel (n+2) 69 [ZH a,nI .i64 k] H=.ret (ZH (JH a k)) H:=by
 have:=ia (fuel:=fuel) (n:=n) hl hl2 hf hf2 a k (32 - k) (by omega) (by omega) (by omega) (by
  have: ∀k:Fin 32,0<k.val->Nat.land (RE 18446744073709551616 (IntKind.u64.wrap (IntKind.i64.wrap (I7 0 (.ofNat k.val))))) 31=32 - k.val:=by decide+kernel
  exact this ⟨k,h⟩ h0) H
 rw[this,show 32 - (32 - k)=k by omega]
 rfl
def Ig(bl:List UInt8)(t:Nat):Nat->UInt32
 |0=>0
 |k+1=>(Ig bl t k<<<UInt32.ofNat 8)|||(bl.getD (4*t+k) 0).toUInt32
structure L0(t bk o:Nat)(cap:Option Nat)(b:Nat)(ws:List UInt32)(bl:List UInt8)(Nn:TM)(H0:Heap)(k:Nat)(tm:TM)(H:Heap):Prop where
 t24:VK tm=nI .i64 k
 t23:Wl tm=nI .i64 4
 t22:WP tm=.slice bk (o+4*t) 4 cap
 t4:YT tm=nI .i64 t
 t3:Xa tm=.ptr b 0
 t0:ZO tm=ZO Nn
 t2:Xw tm=Xw Nn
 t11:Ye tm=Ye Nn
 keep:ZE H0 H [b]
 row: ∃r,Own H b 49 (((ws++[Ig bl t k])++List.replicate (63 - t) 0).map ZH) r
theorem fb{t bk o b:Nat}{cap:Option Nat}{ws:List UInt32}{bl:List UInt8}{Nn:TM}{H0:Heap}{rb:Row}{oc:Option Nat}(hb:Bytes H0 bk o oc bl rb)(hbl:bl.length=64)(hne:bk≠b)(hbk:bk<H0.nx)(ht:t<16)(hws:ws.length=t)
  (c:Ctx)(x:X)(k:Nat)(tm:TM)(H:Heap)(hk:k<4)(h:L0 t bk o cap b ws bl Nn H0 k tm H): ∃tm' H',IY c tm H x=.ok .normal tm' H' x∧L0 t bk o cap b ws bl Nn H0 (k+1) tm' H':=by
 obtain⟨r,own⟩:=h.row
 have i24:=h.t24;have i23:=h.t23;have i22:=h.t22;have i4:=h.t4;have i3:=h.t3
 simp only[Gq,EB,Jh,T7,TB] at i24 i23 i22 i4 i3
 have lk:k<4:=hk
 have dk:decide (k<4)=true:=Zg hk
 have ldb:UQ (.ptr bk (o+4*t+k)) H=.val (Y6 (bl.getD (4*t+k) 0)) H:=by
  show X6 H bk _=_
  unfold X6
  rw[h.keep.get bk hbk (by simpa using hne),hb.at_]
  show ZR (Nat.ble (Nat.succ (o+4*t+k)) rb.size) _=_
  have:=hb.fits
  rw[Zj (by omega),UY o,hb.get _ (by omega)];rfl
 have ld:UQ (.ptr b t) H=.val (ZH (Ig bl t k)) H:=by
  rw[Tp own.at_ own.cells (by simp;omega),Zh,Z1,Y4,ZY (by omega),hws,Rg]
  rfl
 have st: ∀v:UInt32,RJ 1 (.ptr b t) (ZH v) H=.val YZ (H.put b (.row (r.setCells (YV r.cells t [ZH v])))):=λv=>UU (v:=ZH v) own.at_ own.cells own.own own.ro own.fz (Zq _) rfl (by simp;omega)
 simp(maxSteps:=4000000) (disch:=first|omega|rfl) only[IY,i24,i23,i22,i4,i3,Zx,dk,Td,Vd,ldb,ld,st,CT,xD,Dn,WM,XF,XE,XJ,Wm,XO,Yn,XC,Xm,Xf,X2,XI,XP,XR,Xq,Y5,Y9,Yp,Yw,Xs,V4,TC,Vc,Wj,WN,WD,WB,XK,WJ,WC,WF,WG,XS,WH,WI,XV,WA,Vl,WE,XU,Xk,N8.g00,N8.g01,N8.g02,N8.g03,N8.g04,N8.g05,N8.g06,N8.g07,N8.g10,N8.g11,N8.g12,N8.g13,N8.g14,N8.g15,N8.g16,N8.g17,N8.g20,N8.g21,N8.g22,N8.g23,N8.g24,N8.g25,N8.g26,N8.g27,N8.g30,N8.g31,N8.g32,N8.g33,N8.g34,N8.g35,N8.g36,N8.g37,N8.g40,N8.g41,N8.g42,N8.g43,N8.g44,N8.g45,N8.g46,N8.g47,N8.g50,N8.g51,N8.g52,N8.g53,N8.g54,N8.g55,N8.g56,N8.g57,N8.g60,N8.g61,N8.g62,N8.g63,N8.g64,N8.g65,N8.g66,N8.g67,N8.g70,N8.g71,N8.g72,N8.g73,N8.g74,N8.g75,N8.g76,N8.g77,XB,XT,Xt,WW,X3,X4,WV,X5,Xb,WX,WU,Z5,Xu,Xj,UB,UC,VN,UA,Zn,TB,T7,Nd,Jh,EB,Gq,D7,D8,D9,Ca,Cb,Cc,Cd,zE,zF,zG,zH,zI,zJ,Hv,IM,BM,BN,BO,BP,BQ,BR,BT,yl,ym,yn,yo,yp,yq]
 refine⟨_,_,rfl,?_⟩
 refine⟨rfl,i23,i22,i4,i3,h.t0,h.t2,h.t11,h.keep.trans (ZE.put λ_=>YJ.2 rfl) (λc hc _=>hc),r.setCells (YV r.cells t [ZH (Ig bl t (k+1))]),⟨by rw[Xu,if_pos rfl];rfl,own.elem,own.sz,own.own,own.fz,own.sm,?_,own.ro⟩⟩
 have:=own.cells.store1 (o:=t) (v:=ZH (Ig bl t (k+1))) (by simp;omega)
 have e:(((ws++[Ig bl t k])++List.replicate (63 - t) 0).map ZH).set t (ZH (Ig bl t (k+1)))=((ws++[Ig bl t (k+1)])++List.replicate (63 - t) 0).map ZH:=by
  rw[YX,YX,YX,YX,Y4,Y4,Ua _ _ (by rw[Zi];omega),Zi,hws,Rg]
  rfl
 rw[e] at this
 exact this
theorem fa{t bk o b:Nat}{cap:Option Nat}{ws:List UInt32}{bl:List UInt8}{Nn:TM}{H0:Heap}(c:Ctx)(x:X)(tm:TM)(H:Heap)(h:L0 t bk o cap b ws bl Nn H0 4 tm H):
  ∃tm' H',IY c tm H x=.ok (.exit 2) tm' H' x∧L0 t bk o cap b ws bl Nn H0 4 tm' H':=by
 have i24:=h.t24;have i23:=h.t23;have i22:=h.t22;have i4:=h.t4;have i3:=h.t3
 simp only[Gq,EB,Jh,T7,TB] at i24 i23 i22 i4 i3
 have dk:decide (4<4)=false:=rfl
 simp only[IY,i24,i23,Zx,dk,XF,XE,XJ,Wm,XO,Yn,XC,Xm,Xf,X2,XI,XP,XR,Xq,Y5,Y9,Yp,Yw,Xs,V4,TC,Vc,Wj,WN,WD,WB,XK,WJ,WC,WF,WG,XS,WH,WI,XV,WA,Vl,WE,XU,Xk,N8.g00,N8.g01,N8.g02,N8.g03,N8.g04,N8.g05,N8.g06,N8.g07,N8.g10,N8.g11,N8.g12,N8.g13,N8.g14,N8.g15,N8.g16,N8.g17,N8.g20,N8.g21,N8.g22,N8.g23,N8.g24,N8.g25,N8.g26,N8.g27,N8.g30,N8.g31,N8.g32,N8.g33,N8.g34,N8.g35,N8.g36,N8.g37,N8.g40,N8.g41,N8.g42,N8.g43,N8.g44,N8.g45,N8.g46,N8.g47,N8.g50,N8.g51,N8.g52,N8.g53,N8.g54,N8.g55,N8.g56,N8.g57,N8.g60,N8.g61,N8.g62,N8.g63,N8.g64,N8.g65,N8.g66,N8.g67,N8.g70,N8.g71,N8.g72,N8.g73,N8.g74,N8.g75,N8.g76,N8.g77,XB,XT,Xt,WW,X3,X4,WV,X5,Xb,WX,WU,Z5,Xu,Xj,UB,UC,VN,UA,Zn,TB,T7,Nd,Jh,EB,Gq,D7,D8,D9,Ca,Cb,Cc,Cd,zE,zF,zG,zH,zI,zJ,Hv,IM,BM,BN,BO,BP,BQ,BR,BT,yl,ym,yn,yo,yp,yq]
 exact⟨_,_,rfl,i24,i23,i22,i4,i3,h.t0,h.t2,h.t11,h.keep,h.row⟩
theorem Zbk{t bk o b:Nat}{cap:Option Nat}{ws:List UInt32}{bl:List UInt8}{Nn:TM}{H0:Heap}{rb:Row}{oc:Option Nat}(hb:Bytes H0 bk o oc bl rb)(hbl:bl.length=64)(hne:bk≠b)(hbk:bk<H0.nx)(ht:t<16)(hws:ws.length=t)
  (c:Ctx)(x:X){F:Nat}(hF:4<F)(tm:TM)(H:Heap)(h:L0 t bk o cap b ws bl Nn H0 0 tm H): ∃tm' H',Wu (IY c) F tm H x=.ok (.exit 2) tm' H' x∧L0 t bk o cap b ws bl Nn H0 4 tm' H':=
 Rl (L0 t bk o cap b ws bl Nn H0) (L0 t bk o cap b ws bl Nn H0 4) 4 (λk tm H hk hi=>fb hb hbl hne hbk ht hws c x k tm H hk hi) (λtm H hi=>fa c x tm H hi) 4 0 F tm H rfl hF h
theorem TY{a:TM->Heap->X->WS}{F i:Nat}{H:Heap}{x:X}{L:WS}{P:TM->Prop}{Q:TM->Heap->Prop}(lp: ∀T,P T-> ∃tm' H',Wu a F T H x=.ok (.exit i) tm' H' x∧Q tm' H'){T:TM}(hL:Wu a F T H x=L)(hi:P T):
  ∃tm' H',L=.ok (.exit i) tm' H' x∧Q tm' H':=by
 obtain⟨b,c,e,j⟩:=lp T hi
 exact⟨b,c,hL.symm.trans e,j⟩
def GC(l:List UInt32):UInt32:=sg1 (l.getD (l.length - 2) 0)+l.getD (l.length - 7) 0+sg0 (l.getD (l.length - 15) 0)+l.getD (l.length - 16) 0
def Vn(bl:List UInt8):Nat->List UInt32
 |0=>[]
 |t+1=>Vn bl t++[if t<16 then Ig bl t 4 else GC (Vn bl t)]
theorem TX(bl:List UInt8): ∀t,(Vn bl t).length=t
 |0=>rfl
 |t+1=>by unfold Vn;rw[Zo,TX bl t];rfl
structure L1(bk o:Nat)(cap:Option Nat)(b b2:Nat)(bl:List UInt8)(H0:Heap)(t:Nat)(tm:TM)(H:Heap):Prop where
 t11:Ye tm=nI .i64 t
 t0:ZO tm=.slice bk o 64 cap
 t2:Xw tm=.ptr b2 0
 t3:Xa tm=.ptr b 0
 keep:ZE H0 H [b]
 row: ∃r,Own H b 49 ((Vn bl t++List.replicate (64 - t) 0).map ZH) r
theorem Zbl{bk o b b2:Nat}{cap:Option Nat}{bl:List UInt8}{H0:Heap}{rb:Row}(hb:Bytes H0 bk o cap bl rb)(hbl:bl.length=64)(hne:bk≠b)(hbk:bk<H0.nx)(c:Ctx)(hF:4<c.fuel)(x:X)
  (t:Nat)(tm:TM)(H:Heap)(ht:t<16)(h:L1 bk o cap b b2 bl H0 t tm H): ∃tm' H',L9 c tm H x=.ok .normal tm' H' x∧L1 bk o cap b b2 bl H0 (t+1) tm' H':=by
 obtain⟨r,own⟩:=h.row
 have i11:=h.t11;have i0:=h.t0;have i2:=h.t2;have i3:=h.t3
 simp only[R3,Ud,Ru,TB] at i11 i0 i2 i3
 have d1:decide (t<64)=true:=Zg (by omega)
 have d2:decide (t<16)=true:=Zg ht
 have sl:Mb 1 (.slice bk o 64 cap) (some (nI .i64 (4*t))) (some (nI .i64 (4*t+4))) H=.val (.slice bk (o+4*t) 4 (Na cap (4*t))) H:=by
  have h1:=hb.fits
  rw[yf (r:=rb) (by rw[h.keep.get bk hbk (by simpa using hne)];exact hb.at_) hb.sz (by omega) (by omega) (λc hc=>by have:=hb.cap c hc;omega),show 4*t+4 - 4*t=4 by omega]
 have lp:=λ(T:TM) (hi:L0 t bk o (Na cap (4*t)) b (Vn bl t) bl tm H0 0 T H)=>Zbk hb hbl hne hbk ht (TX bl t) c x hF T H hi
 simp(maxSteps:=4000000) (disch:=omega) only[L9,i11,i0,i2,i3,d1,d2,Zx,Hh,WM,Oj,Xv,sl,RB,Z5,XF,XE,XJ,Wm,XO,Yn,XC,Xm,Xf,X2,XI,XP,XR,Xq,Y5,Y9,Yp,Yw,Xs,V4,TC,Vc,Wj,WN,WD,WB,XK,WJ,WC,WF,WG,XS,WH,WI,XV,WA,Vl,WE,XU,Xk,N8.g00,N8.g01,N8.g02,N8.g03,N8.g04,N8.g05,N8.g06,N8.g07,N8.g10,N8.g11,N8.g12,N8.g13,N8.g14,N8.g15,N8.g16,N8.g17,N8.g20,N8.g21,N8.g22,N8.g23,N8.g24,N8.g25,N8.g26,N8.g27,N8.g30,N8.g31,N8.g32,N8.g33,N8.g34,N8.g35,N8.g36,N8.g37,N8.g40,N8.g41,N8.g42,N8.g43,N8.g44,N8.g45,N8.g46,N8.g47,N8.g50,N8.g51,N8.g52,N8.g53,N8.g54,N8.g55,N8.g56,N8.g57,N8.g60,N8.g61,N8.g62,N8.g63,N8.g64,N8.g65,N8.g66,N8.g67,N8.g70,N8.g71,N8.g72,N8.g73,N8.g74,N8.g75,N8.g76,N8.g77,XB,XT,Xt,WW,X3,X4,WV,X5,Xb,WX,WU,Z5,Xu,Xj,UB,UC,VN,UA,Zn,Ud,TB,T7,N2,Kh,Ji,Nu,R3,MG,Je,Lz,Ix,Jf,Jg,KM,EA,D5,D6,Jh,Ce,Cf,Cg,Ch,Ci,Cj,Ck,Cl,Cm,Cn,Co,Cp,wY,Gr,Cq,Cr,Cs,Ct,Cu,Cv,Cw,Cx,Cy,Cz,CA,CB,CC,CD,CG,CH,CI,CJ,CK,wZ,w5,w7,w9,vb,vd,zK,xW,Ij,Fg,F9,E5,KR,M1,IJ,IK,IL,EU,EV,BG,Fe,BH,BI,BJ,BK,BL,IM,BU,BW,BX,BY,BZ,B3,B4,B5,B6,B7,B8,B9,Aa,Ff,Ab,Ac,Ad,Ae,Af,Ag,Ah,Ai,Aj,Ak,Al,Am,An,Ao,Ap,Aq,Ar,As,Au,uF,uG,uH,uI,uJ,uK,yr]
 generalize hL:Wu (IY c) c.fuel _ H x=L
 obtain⟨uW,H2,rfl,j⟩:=TY (P:=λT=>L0 t bk o (Na cap (4*t)) b (Vn bl t) bl tm H0 0 T H) (Q:=L0 t bk o (Na cap (4*t)) b (Vn bl t) bl tm H0 4) lp hL ⟨rfl,rfl,rfl,rfl,i3,rfl,rfl,rfl,h.keep,r,by
  have e:((Vn bl t++[Ig bl t 0])++List.replicate (63 - t) 0).map ZH=(Vn bl t++List.replicate (64 - t) 0).map ZH:=by
   rw[Y4]
   show((Vn bl t++List.replicate (63 - t+1) 0)).map ZH=_
   rw[show 63 - t+1=64 - t by omega]
  rw[e];exact own⟩
 have j0:=j.t0;have j2:=j.t2;have j11:=j.t11;have j3:=j.t3
 simp only[R3,Ud,Ru,TB,N8.g00,N8.g01,N8.g02,N8.g03,N8.g04,N8.g05,N8.g06,N8.g07,N8.g10,N8.g11,N8.g12,N8.g13,N8.g14,N8.g15,N8.g16,N8.g17,N8.g20,N8.g21,N8.g22,N8.g23,N8.g24,N8.g25,N8.g26,N8.g27,N8.g30,N8.g31,N8.g32,N8.g33,N8.g34,N8.g35,N8.g36,N8.g37,N8.g40,N8.g41,N8.g42,N8.g43,N8.g44,N8.g45,N8.g46,N8.g47,N8.g50,N8.g51,N8.g52,N8.g53,N8.g54,N8.g55,N8.g56,N8.g57,N8.g60,N8.g61,N8.g62,N8.g63,N8.g64,N8.g65,N8.g66,N8.g67,N8.g70,N8.g71,N8.g72,N8.g73,N8.g74,N8.g75,N8.g76,N8.g77] at j11 j0 j2 j3
 simp(maxSteps:=4000000) (disch:=first|omega|rfl) only[j11,j0,j2,j3,i0,i2,i11,WM,Yw,Yp,Yn,Xm,XI,XF,XK,WN,XE,R3,zK,yr,M1,TC,Xf,N8.g00,N8.g01,N8.g02,N8.g03,N8.g04,N8.g05,N8.g06,N8.g07,N8.g10,N8.g11,N8.g12,N8.g13,N8.g14,N8.g15,N8.g16,N8.g17,N8.g20,N8.g21,N8.g22,N8.g23,N8.g24,N8.g25,N8.g26,N8.g27,N8.g30,N8.g31,N8.g32,N8.g33,N8.g34,N8.g35,N8.g36,N8.g37,N8.g40,N8.g41,N8.g42,N8.g43,N8.g44,N8.g45,N8.g46,N8.g47,N8.g50,N8.g51,N8.g52,N8.g53,N8.g54,N8.g55,N8.g56,N8.g57,N8.g60,N8.g61,N8.g62,N8.g63,N8.g64,N8.g65,N8.g66,N8.g67,N8.g70,N8.g71,N8.g72,N8.g73,N8.g74,N8.g75,N8.g76,N8.g77]
 refine⟨_,_,rfl,rfl,j0.trans i0,j2.trans i2,j3,j.keep,?_⟩
 have e:(Vn bl t++[Ig bl t 4])++List.replicate (63 - t) 0=Vn bl (t+1)++List.replicate (64 - (t+1)) 0:=by
  rw[show 63 - t=64 - (t+1) by omega]
  show _=(Vn bl t++[if t<16 then Ig bl t 4 else GC (Vn bl t)])++_
  rw[if_pos ht]
 rw[<-e]
 exact j.row
theorem fc{n:Nat}(hl: ∀l H,lib 84 l H=none)(hl2: ∀l H,lib 69 l H=none)(hf:fs.get 84=some yO)(hf2:fs.get 69=some x6)
  {bk o b b2:Nat}{cap:Option Nat}{bl:List UInt8}{H0:Heap}(hbn:b<H0.nx){rng:AV->(List AV->Heap->CR)->TM->Heap->X->WS}{yld:Nat->List AV->Heap->CR}(x:X)
  (t:Nat)(tm:TM)(H:Heap)(ht:16<=t)(ht2:t<64)(h:L1 bk o cap b b2 bl H0 t tm H): ∃tm' H',L9 ⟨Yo lib fs fuel (n+2),yld,rng,fuel,false⟩ tm H x=.ok .normal tm' H' x∧L1 bk o cap b b2 bl H0 (t+1) tm' H':=by
 obtain⟨r,own⟩:=h.row
 have i11:=h.t11;have i0:=h.t0;have i2:=h.t2;have i3:=h.t3
 simp only[R3,Ud,Ru,TB] at i11 i0 i2 i3
 have d1:decide (t<64)=true:=Zg (by omega)
 have d2:decide (t<16)=false:=Zd (by omega)
 have hb:b<H.nx:=ZI hbn h.keep.nx
 have hlen:=TX bl t
 have ld: ∀(H':Heap) (o:Nat),H'.t=H.t->o<t->UQ (.ptr b o) H'=.val (ZH ((Vn bl t).getD o 0)) H':=λH' o he ho=>by
  rw[Tp (b:=b) (r:=r) (by rw[he];exact own.at_) own.cells (by simp;omega),Zh,Z1,Yz (by omega),Zh,Zr (show o<(Vn bl t).length by omega)]
  rfl
 have tn:=λ(a:UInt32) (k:Nat) (h0:0<k) (h:k<32) (H:Heap)=>px (n:=n) (fuel:=fuel) hl hl2 hf hf2 a k h0 h H
 have st: ∀v:UInt32,RJ 1 (.ptr b t) (ZH v) H=.val YZ (H.put b (.row (r.setCells (YV r.cells t [ZH v])))):=λv=>UU (v:=ZH v) own.at_ own.cells own.own own.ro own.fz (Zq _) rfl (by simp;omega)
 simp(maxSteps:=4000000) (disch:=first|omega|rfl) only[L9,i11,i3,d1,d2,Zx,ld,tn,st,Z6 hb,Ot,WM,Vd,Mu,Ds,G0,XF,XE,XJ,Wm,XO,Yn,XC,Xm,Xf,X2,XI,XP,XR,Xq,Y5,Y9,Yp,Yw,Xs,V4,TC,Vc,Wj,WN,WD,WB,XK,WJ,WC,WF,WG,XS,WH,WI,XV,WA,Vl,WE,XU,Xk,N8.g00,N8.g01,N8.g02,N8.g03,N8.g04,N8.g05,N8.g06,N8.g07,N8.g10,N8.g11,N8.g12,N8.g13,N8.g14,N8.g15,N8.g16,N8.g17,N8.g20,N8.g21,N8.g22,N8.g23,N8.g24,N8.g25,N8.g26,N8.g27,N8.g30,N8.g31,N8.g32,N8.g33,N8.g34,N8.g35,N8.g36,N8.g37,N8.g40,N8.g41,N8.g42,N8.g43,N8.g44,N8.g45,N8.g46,N8.g47,N8.g50,N8.g51,N8.g52,N8.g53,N8.g54,N8.g55,N8.g56,N8.g57,N8.g60,N8.g61,N8.g62,N8.g63,N8.g64,N8.g65,N8.g66,N8.g67,N8.g70,N8.g71,N8.g72,N8.g73,N8.g74,N8.g75,N8.g76,N8.g77,Kb,J9,Kt,J7,KC,KD,Id,JW,F0,HX,JV,GT,JZ,Kk,Ie,KE,GP,R4,LC,JY,J1,Kp,Dd,Gy,De,J2,Dm,GW,Ym,YY,cond_true,cond_false,W9,Nat.reducePow,Nat.reduceDiv,Nat.reduceMod,decide_true,Nat.reduceEqDiff,decide_false,reduceCtorEq,Pn,XB,XT,Xt,WW,X3,X4,WV,X5,Xb,WX,WU,Z5,Xu,Xj,UB,UC,VN,UA,Zn,Ud,TB,T7,N2,Kh,Ji,Nu,R3,MG,Je,Lz,Ix,Jf,Jg,KM,EA,D5,D6,Jh,Ce,Cf,Cg,Ch,Ci,Cj,Ck,Cl,Cm,Cn,Co,Cp,wY,Gr,Cq,Cr,Cs,Ct,Cu,Cv,Cw,Cx,Cy,Cz,CA,CB,CC,CD,CG,CH,CI,CJ,CK,wZ,w5,w7,w9,vb,vd,zK,xW,Ij,Fg,F9,E5,KR,M1,IJ,IK,IL,EU,EV,BG,Fe,BH,BI,BJ,BK,BL,IM,BU,BW,BX,BY,BZ,B3,B4,B5,B6,B7,B8,B9,Aa,Ff,Ab,Ac,Ad,Ae,Af,Ag,Ah,Ai,Aj,Ak,Al,Am,An,Ao,Ap,Aq,Ar,As,Au,uF,uG,uH,uI,uJ,uK,yr]
 refine⟨_,_,rfl,rfl,i0,i2,i3,h.keep.trans (ZE.put λ_=>YJ.2 rfl) (λc hc _=>hc),r.setCells (YV r.cells t [ZH (GC (Vn bl t))]),⟨?_,own.elem,own.sz,own.own,own.fz,own.sm,?_,own.ro⟩⟩
 ·rw[Xu,if_pos rfl]
  unfold GC
  rw[hlen]
  rfl
 ·have:=own.cells.store1 (o:=t) (v:=ZH (GC (Vn bl t))) (by simp;omega)
  have e:((Vn bl t++List.replicate (64 - t) 0).map ZH).set t (ZH (GC (Vn bl t)))=(Vn bl (t+1)++List.replicate (64 - (t+1)) 0).map ZH:=by
   rw[YX,Ua _ _ (by rw[Zi];omega),Zi,hlen,Rg,show 64 - t=(64 - (t+1))+1 by omega,Tw,Ym,List.set_cons_zero]
   show _=((Vn bl t++[if t<16 then Ig bl t 4 else GC (Vn bl t)])++_).map ZH
   rw[if_neg (by omega),Y4,YX]
   rfl
  rw[e] at this
  exact this
theorem fd{bk o b b2:Nat}{cap:Option Nat}{bl:List UInt8}{H0:Heap}(c:Ctx)(x:X)(tm:TM)(H:Heap)(h:L1 bk o cap b b2 bl H0 64 tm H): ∃tm' H',L9 c tm H x=.ok (.exit 0) tm' H' x∧L1 bk o cap b b2 bl H0 64 tm' H':=by
 have i11:=h.t11;have i0:=h.t0;have i2:=h.t2;have i3:=h.t3
 simp only[R3,Ud,Ru,TB] at i11 i0 i2 i3
 have d1:decide (64<64)=false:=rfl
 simp only[L9,i11,d1,Zx,XF,XE,XJ,Wm,XO,Yn,XC,Xm,Xf,X2,XI,XP,XR,Xq,Y5,Y9,Yp,Yw,Xs,V4,TC,Vc,Wj,WN,WD,WB,XK,WJ,WC,WF,WG,XS,WH,WI,XV,WA,Vl,WE,XU,Xk,N8.g00,N8.g01,N8.g02,N8.g03,N8.g04,N8.g05,N8.g06,N8.g07,N8.g10,N8.g11,N8.g12,N8.g13,N8.g14,N8.g15,N8.g16,N8.g17,N8.g20,N8.g21,N8.g22,N8.g23,N8.g24,N8.g25,N8.g26,N8.g27,N8.g30,N8.g31,N8.g32,N8.g33,N8.g34,N8.g35,N8.g36,N8.g37,N8.g40,N8.g41,N8.g42,N8.g43,N8.g44,N8.g45,N8.g46,N8.g47,N8.g50,N8.g51,N8.g52,N8.g53,N8.g54,N8.g55,N8.g56,N8.g57,N8.g60,N8.g61,N8.g62,N8.g63,N8.g64,N8.g65,N8.g66,N8.g67,N8.g70,N8.g71,N8.g72,N8.g73,N8.g74,N8.g75,N8.g76,N8.g77,XB,XT,Xt,WW,X3,X4,WV,X5,Xb,WX,WU,Z5,Xu,Xj,UB,UC,VN,UA,Zn,Ud,TB,T7,N2,Kh,Ji,Nu,R3,MG,Je,Lz,Ix,Jf,Jg,KM,EA,D5,D6,Jh,Ce,Cf,Cg,Ch,Ci,Cj,Ck,Cl,Cm,Cn,Co,Cp,wY,Gr,Cq,Cr,Cs,Ct,Cu,Cv,Cw,Cx,Cy,Cz,CA,CB,CC,CD,CG,CH,CI,CJ,CK,wZ,w5,w7,w9,vb,vd,zK,xW,Ij,Fg,F9,E5,KR,M1,IJ,IK,IL,EU,EV,BG,Fe,BH,BI,BJ,BK,BL,IM,BU,BW,BX,BY,BZ,B3,B4,B5,B6,B7,B8,B9,Aa,Ff,Ab,Ac,Ad,Ae,Af,Ag,Ah,Ai,Aj,Ak,Al,Am,An,Ao,Ap,Aq,Ar,As,Au,uF,uG,uH,uI,uJ,uK,yr]
 exact⟨_,_,rfl,i11,i0,i2,i3,h.keep,h.row⟩
theorem Zbm{n:Nat}(hl: ∀l H,lib 84 l H=none)(hl2: ∀l H,lib 69 l H=none)(hf:fs.get 84=some yO)(hf2:fs.get 69=some x6)
  {bk o b b2:Nat}{cap:Option Nat}{bl:List UInt8}{H0:Heap}{rb:Row}(hb:Bytes H0 bk o cap bl rb)(hbl:bl.length=64)(hne:bk≠b)(hbk:bk<H0.nx)(hbn:b<H0.nx){rng:AV->(List AV->Heap->CR)->TM->Heap->X->WS}{yld:Nat->List AV->Heap->CR}(hF:64<fuel)(x:X)(tm:TM)(H:Heap)
  (h:L1 bk o cap b b2 bl H0 0 tm H): ∃tm' H',Wu (L9 ⟨Yo lib fs fuel (n+2),yld,rng,fuel,false⟩) fuel tm H x=.ok (.exit 0) tm' H' x∧L1 bk o cap b b2 bl H0 64 tm' H':=
 Rl (L1 bk o cap b b2 bl H0) (L1 bk o cap b b2 bl H0 64) 64 (λt tm H ht hi=>if h16:t<16 then Zbl hb hbl hne hbk _ (show 4<fuel by omega) x t tm H h16 hi else fc hl hl2 hf hf2 hbn x t tm H (by omega) ht hi)
  (λtm H hi=>fd _ x tm H hi) 64 0 fuel tm H rfl hF h
theorem Zb9:ZH 0=nI .u32 0:=rfl
theorem jJ(bl:List UInt8):(Vn bl 0++List.replicate (64 - 0) 0).map ZH=List.replicate 64 (nI .u32 0):=by
 rw[show Vn bl 0=[] from rfl,WR,List.map_replicate,Zb9]
attribute [local irreducible] Vn
def Y1(bl:List UInt8):List UInt32:=Vn bl 64
theorem F5(bl:List UInt8):Vn bl 64=Y1 bl:=rfl
theorem Kw(bl:List UInt8):(Y1 bl).length=64:=TX bl 64
attribute [local irreducible] Y1
theorem Bytes.keep{H H':Heap}{bk o:Nat}{cap:Option Nat}{bl:List UInt8}{rb:Row}{S:List Nat}(h:Bytes H bk o cap bl rb)(k:ZE H H' S)(hlt:bk<H.nx)(hS:bk∉S):Bytes H' bk o cap bl rb:=
 ⟨(k.get bk hlt hS).trans h.at_,h.sz,h.fits,h.get,h.cap⟩
theorem nC{n:Nat}(hl: ∀l H,lib 84 l H=none)(hl2: ∀l H,lib 69 l H=none)(hl3: ∀l H,lib 68 l H=none)(hf:fs.get 84=some yO)(hf2:fs.get 69=some x6)(hf3:fs.get 68=some mf)(hF:64<fuel)
  {bk o:Nat}{cap:Option Nat}{bl:List UInt8}{H:Heap}{rb:Row}(hb:Bytes H bk o cap bl rb)(hbl:bl.length=64)(hbk:bk<H.nx)(hro:H.ro<=H.nx):
  ∃H',Yo lib fs fuel (n+3) 68 [.slice bk o 64 cap] H=.ret (.agg ((Y1 bl).map ZH)) H'∧ZE H H' []:=by
 rw[YM (hl3 _ _) hf3]
 simp only[mf,JR,RB,XF,XE,XJ,Wm,XO,Yn,XC,Xm,Xf,X2,XI,XP,XR,Xq,Y5,Y9,Yp,Yw,Xs,V4,TC,Vc,Wj,WN,WD,WB,XK,WJ,WC,WF,WG,XS,WH,WI,XV,WA,Vl,WE,XU,Xk,N8.g00,N8.g01,N8.g02,N8.g03,N8.g04,N8.g05,N8.g06,N8.g07,N8.g10,N8.g11,N8.g12,N8.g13,N8.g14,N8.g15,N8.g16,N8.g17,N8.g20,N8.g21,N8.g22,N8.g23,N8.g24,N8.g25,N8.g26,N8.g27,N8.g30,N8.g31,N8.g32,N8.g33,N8.g34,N8.g35,N8.g36,N8.g37,N8.g40,N8.g41,N8.g42,N8.g43,N8.g44,N8.g45,N8.g46,N8.g47,N8.g50,N8.g51,N8.g52,N8.g53,N8.g54,N8.g55,N8.g56,N8.g57,N8.g60,N8.g61,N8.g62,N8.g63,N8.g64,N8.g65,N8.g66,N8.g67,N8.g70,N8.g71,N8.g72,N8.g73,N8.g74,N8.g75,N8.g76,N8.g77,XB,XT,Xt,WW,X3,X4,WV,X5,Xb,WX,WU,Z5,Xu,Xj,UB,UC,VN,UA,Zn,Ru,TB,qn,nP,xW,M1,pr]
 generalize hL:Wu (L9 _) fuel _ _ _=L
 generalize ha:(H.new (.row ⟨49,1,64,.leaf,nI .u32 0,0,false,true,true⟩))=Ha at hL
 have nxa:Ha.nx=H.nx+1:=by rw[<-ha];rfl
 have ga:Ha.t.get H.nx=some (.row ⟨49,1,64,.leaf,nI .u32 0,0,false,true,true⟩):=by rw[<-ha,Xj,if_pos rfl]
 have ka:ZE H Ha []:=by rw[<-ha];exact ZE.new H _ []
 generalize hb':(Ha.new (.row ⟨49,1,64,.leaf,nI .u32 0,0,false,true,true⟩))=Hb at hL
 have nxb:Hb.nx=H.nx+2:=by rw[<-hb',VN,nxa]
 have gb:Hb.t.get (H.nx+1)=some (.row ⟨49,1,64,.leaf,nI .u32 0,0,false,true,true⟩):=by rw[<-hb',Xj,nxa,if_pos rfl]
 have gb2:Hb.t.get H.nx=some (.row ⟨49,1,64,.leaf,nI .u32 0,0,false,true,true⟩):=by rw[<-hb',Xj,nxa,if_neg (by omega),ga]
 have kab:ZE H Hb []:=by rw[<-hb'];exact ka.then_new _
 have Zg0:Own Hb (H.nx+1) 49 ((Vn bl 0++List.replicate (64 - 0) 0).map ZH) ⟨49,1,64,.leaf,nI .u32 0,0,false,true,true⟩:=by
  refine⟨gb,rfl,rfl,rfl,rfl,rfl,?_,by rw[kab.ro];omega⟩
  rw[jJ]
  exact Cells.zero 49 64 (nI .u32 0) 0 false true true
 obtain⟨uW,H2,rfl,j⟩:=TY (P:=λT=>L1 bk o cap (H.nx+1) H.nx bl Hb 0 T Hb) (Q:=L1 bk o cap (H.nx+1) H.nx bl Hb 64)
  (λT hi=>Zbm hl hl2 hf hf2 (hb.keep kab hbk (by simp)) hbl (by omega) (ZI hbk kab.nx) (by omega) hF _ T Hb hi) hL ⟨rfl,rfl,rfl,rfl,ZE.refl _ _,_,Zg0⟩
 obtain⟨r,own⟩:=j.row
 rw[F5,show 64 - 64=0 from rfl,SQ,WQ] at own
 have j2:=j.t2;have j3:=j.t3
 simp only[Ru,TB] at j2 j3
 have hlen:=Kw bl
 have ld:Jo 64 (.ptr (H.nx+1) 0) H2=.val (.agg ((Y1 bl).map ZH)) H2:=by
  rw[NL own.at_ own.cells (by simp;omega),Y8,YH (by simp;omega)]
 have r2:H2.t.get H.nx=some (.row ⟨49,1,64,.leaf,nI .u32 0,0,false,true,true⟩):=by
  rw[j.keep.get H.nx (by omega) (by simp),gb2]
 have hv:((Y1 bl).map ZH).length=64:=by rw[Zi];exact hlen
 have st:RJ 64 (.ptr H.nx 0) (.agg ((Y1 bl).map ZH)) H2=.val YZ (H2.put H.nx (.row (_))):=UU (v:=.agg ((Y1 bl).map ZH)) r2 (Cells.zero 49 64 (nI .u32 0) 0 false true true) rfl (by rw[j.keep.ro,kab.ro];exact hro) rfl (by omega) hv (by simp)
 simp only[j2,j3,ld,st,Yw,Yp,Yn,XC,XO,XF,XT,Xt,XE,Ru,TB,qn,pr,X2,Xf,V4,QI,N8.g00,N8.g01,N8.g02,N8.g03,N8.g04,N8.g05,N8.g06,N8.g07,N8.g10,N8.g11,N8.g12,N8.g13,N8.g14,N8.g15,N8.g16,N8.g17,N8.g20,N8.g21,N8.g22,N8.g23,N8.g24,N8.g25,N8.g26,N8.g27,N8.g30,N8.g31,N8.g32,N8.g33,N8.g34,N8.g35,N8.g36,N8.g37,N8.g40,N8.g41,N8.g42,N8.g43,N8.g44,N8.g45,N8.g46,N8.g47,N8.g50,N8.g51,N8.g52,N8.g53,N8.g54,N8.g55,N8.g56,N8.g57,N8.g60,N8.g61,N8.g62,N8.g63,N8.g64,N8.g65,N8.g66,N8.g67,N8.g70,N8.g71,N8.g72,N8.g73,N8.g74,N8.g75,N8.g76,N8.g77]
 have cl:=(Cells.zero 49 64 (nI .u32 0) 0 false true true).store (o:=0) (vs:=(Y1 bl).map ZH) (by rw[hv];simp)
 have e:(List.replicate 64 (nI .u32 0)).take 0++((Y1 bl).map ZH++(List.replicate 64 (nI .u32 0)).drop (0+((Y1 bl).map ZH).length))=(Y1 bl).map ZH:=by
  rw[List.take_zero,WR,hv,Sq (by simp),WQ]
 rw[e] at cl
 refine⟨_,ML j2 (by rw[Xu,if_pos rfl];rfl) cl hv,?_⟩
 refine(kab.trans j.keep (λc hc hlt=>?_)).then_put (λhlt=>absurd hlt (Rx _))
 simp only[YJ] at hc;omega
end
section
attribute [local irreducible] Y1
variable {lib:Nat->List AV->Heap->Option CR} {fs:T CF} {fuel:Nat}
theorem Own.store{H:Heap}{b e:Nat}{l:List AV}{r:Row}(own:Own H b e l r){o:Nat}{vs:List AV}(ho:o+vs.length<=l.length):
  Own (H.put b (.row (r.setCells (YV r.cells o vs)))) b e (l.take o++(vs++l.drop (o+vs.length))) (r.setCells (YV r.cells o vs)):=
 ⟨by rw[Xu,if_pos rfl],own.elem,own.sz,own.own,own.fz,own.sm,own.cells.store ho,own.ro⟩
theorem vl{l:List UInt32}(h:l.length=8): ∃a0 a1 a2 a3 a4 a5 a6 a7,l=[a0,a1,a2,a3,a4,a5,a6,a7]:=by
 match l,h with
 |[a0,a1,a2,a3,a4,a5,a6,a7],_=>exact⟨a0,a1,a2,a3,a4,a5,a6,a7,rfl⟩
def t1F(v:List UInt32)(k w:UInt32):UInt32:=
 v.getD 7 0+(JH (v.getD 4 0) 6^^^JH (v.getD 4 0) 11^^^JH (v.getD 4 0) 25)+(v.getD 4 0&&&v.getD 5 0^^^ ~~~(v.getD 4 0)&&&v.getD 6 0)+k+w
def t2F(v:List UInt32):UInt32:=
 (JH (v.getD 0 0) 2^^^JH (v.getD 0 0) 13^^^JH (v.getD 0 0) 22)+(v.getD 0 0&&&v.getD 1 0^^^v.getD 0 0&&&v.getD 2 0^^^v.getD 1 0&&&v.getD 2 0)
def xN(v:List UInt32)(k w:UInt32):List UInt32:=
 [t1F v k w+t2F v,v.getD 0 0,v.getD 1 0,v.getD 2 0,v.getD 3 0+t1F v k w,v.getD 4 0,v.getD 5 0,v.getD 6 0]
def Y2(K W v:List UInt32):Nat->List UInt32
 |0=>v
 |t+1=>xN (Y2 K W v t) (K.getD t 0) (W.getD t 0)
theorem JI(K W v:List UInt32)(h:v.length=8): ∀t,(Y2 K W v t).length=8
 |0=>h
 |_+1=>rfl
structure L3(sb bv bw:Nat)(K W v:List UInt32)(H0:Heap)(t:Nat)(tm:TM)(H:Heap):Prop where
 t18:Wc tm=nI .i64 t
 t0:ZO tm=.ptr sb 0
 t4:YT tm=.ptr bv 0
 t5:XW tm=.ptr bw 0
 keep:ZE H0 H [bv]
 row: ∃r,Own H bv 51 ((Y2 K W v t).map ZH) r
theorem ff{n:Nat}(hl: ∀l H,lib 84 l H=none)(hl2: ∀l H,lib 69 l H=none)(hf:fs.get 84=some yO)(hf2:fs.get 69=some x6)
  {sb bv bw:Nat}{K W v:List UInt32}{H0:Heap}{rK rW:Row}(hv:v.length=8)(hK:H0.t.get 3=some (.row rK))(cK:Cells rK (K.map ZH))(nK:K.length=64)(hW:H0.t.get bw=some (.row rW))(cW:Cells rW (W.map ZH))(nW:W.length=64)
  (h7:3<bv)(hbv:bv<H0.nx)(hbw:bw<H0.nx)(hne:bw≠bv){rng:AV->(List AV->Heap->CR)->TM->Heap->X->WS}{yld:Nat->List AV->Heap->CR}(x:X)
  (t:Nat)(tm:TM)(H:Heap)(ht:t<64)(h:L3 sb bv bw K W v H0 t tm H): ∃tm' H',IW ⟨Yo lib fs fuel (n+2),yld,rng,fuel,false⟩ tm H x=.ok .normal tm' H' x∧L3 sb bv bw K W v H0 (t+1) tm' H':=by
 obtain⟨r,own⟩:=h.row
 have i18:=h.t18;have i0:=h.t0;have i4:=h.t4;have i5:=h.t5
 simp only[KM,Ud,T7,Pc] at i18 i0 i4 i5
 have d1:decide (t<64)=true:=Zg ht
 have lb:bv<H.nx:=ZI hbv h.keep.nx
 have lw:bw<H.nx:=ZI hbw h.keep.nx
 have l7:3<H.nx:=Qo h7 lb
 have hnext:Y2 K W v (t+1)=xN (Y2 K W v t) (K.getD t 0) (W.getD t 0):=rfl
 have hlen:=JI K W v hv t
 generalize Y2 K W v t=vt at own hlen hnext
 obtain⟨a0,a1,a2,a3,a4,a5,a6,a7,rfl⟩:=vl hlen
 have ldv: ∀(H':Heap) (o:Nat),H'.t=H.t->o<8->UQ (.ptr bv o) H'=.val ((([a0,a1,a2,a3,a4,a5,a6,a7]:List UInt32).map ZH).getD o .unk) H':=λH' o he ho=>Tp (by rw[he];exact own.at_) own.cells ho
 have lv0:=λH' he=>ldv H' 0 he (by omega);have lv1:=λH' he=>ldv H' 1 he (by omega);have lv2:=λH' he=>ldv H' 2 he (by omega)
 have lv4:=λH' he=>ldv H' 4 he (by omega);have lv5:=λH' he=>ldv H' 5 he (by omega);have lv6:=λH' he=>ldv H' 6 he (by omega);have lv7:=λH' he=>ldv H' 7 he (by omega)
 simp only[Ym,YY,List.getD_cons_zero,List.getD_cons_succ] at lv0 lv1 lv2 lv4 lv5 lv6 lv7
 have bF: ∀(H':Heap),H'.t=H.t->UQ (.ptr bw t) H'=.val (ZH (W.getD t 0)) H':=λH' he=>by
  rw[Tp (r:=rW) (by rw[he,h.keep.get bw hbw (by simpa using hne)];exact hW) cW (by simp;omega),Zh,Z1,Zh,Zr (show t<W.length by omega)];rfl
 have lk1: ∀(H':Heap),H'.t=H.t->UQ (.ptr 3 t) H'=.val (ZH (K.getD t 0)) H':=λH' he=>by
  rw[Tp (r:=rK) (by rw[he,h.keep.get 3 (Qo h7 hbv) (by simp;omega)];exact hK) cK (by simp;omega),Zh,Z1,Zh,Zr (show t<K.length by omega)];rfl
 have tn:=λ(a:UInt32) (k:Nat) (h0:0<k) (h:k<32) (H:Heap)=>px (n:=n) (fuel:=fuel) hl hl2 hf hf2 a k h0 h H
 have cp:rZ 1 (.slice bv 1 7 (some 7)) (.slice bv 0 7 (some 8)) H=.val (nI .i64 7) (H.put bv (.row (r.setCells (YV r.cells 1 [ZH a0,ZH a1,ZH a2,ZH a3,ZH a4,ZH a5,ZH a6])))):=
  mT own.at_ own.cells own.own own.ro own.fz (by simp) (by omega) own.at_ own.cells (by simp)
 have QS:=own.store (o:=1) (vs:=[ZH a0,ZH a1,ZH a2,ZH a3,ZH a4,ZH a5,ZH a6]) (by simp)
 generalize hr1:r.setCells (YV r.cells 1 [ZH a0,ZH a1,ZH a2,ZH a3,ZH a4,ZH a5,ZH a6])=r1 at QS cp
 generalize hH1:H.put bv (.row r1)=H1 at QS cp
 have ld3:UQ (.ptr bv 4) H1=.val (ZH a3) H1:=Tp QS.at_ QS.cells (by simp)
 have st1: ∀z:UInt32,RJ 1 (.ptr bv 4) (ZH z) H1=.val YZ (H1.put bv (.row (r1.setCells (YV r1.cells 4 [ZH z])))):=λz=>UU (v:=ZH z) QS.at_ QS.cells QS.own QS.ro QS.fz (Zq _) rfl (by simp)
 have Bi:=λz:UInt32=>QS.store (o:=4) (vs:=[ZH z]) (by simp)
 have st2: ∀z y:UInt32,RJ 1 (.ptr bv 0) (ZH y) (H1.put bv (.row (r1.setCells (YV r1.cells 4 [ZH z]))))=.val YZ ((H1.put bv (.row (r1.setCells (YV r1.cells 4 [ZH z])))).put bv (.row ((r1.setCells (YV r1.cells 4 [ZH z])).setCells (YV (r1.setCells (YV r1.cells 4 [ZH z])).cells 0 [ZH y])))):=
  λz y=>UU (v:=ZH y) (Bi z).at_ (Bi z).cells (Bi z).own (Bi z).ro (Bi z).fz (Zq _) rfl (by simp)
 have AM:=λz y:UInt32=>(Bi z).store (o:=0) (vs:=[ZH y]) (by simp)
 have k1:ZE H0 H1 [bv]:=by rw[<-hH1];exact h.keep.then_put λ_=>YJ.2 rfl
 simp(maxSteps:=4000000) (disch:=first|omega|rfl) only[IW,i18,i4,i5,d1,Zx,lv0,lv1,lv2,lv4,lv5,lv6,lv7,bF,lk1,tn,cp,ld3,st1,st2,Z6 lb,Z6 lw,Z6 l7,UR lb,WM,Vd,Mu,Ds,rO,fP,Hi,zR,Xv,Uw,nJ,nH,XF,XE,XJ,Wm,XO,Yn,XC,Xm,Xf,X2,XI,XP,XR,Xq,Y5,Y9,Yp,Yw,Xs,V4,TC,Vc,Wj,WN,WD,WB,XK,WJ,WC,WF,WG,XS,WH,WI,XV,WA,Vl,WE,XU,Xk,N8.g00,N8.g01,N8.g02,N8.g03,N8.g04,N8.g05,N8.g06,N8.g07,N8.g10,N8.g11,N8.g12,N8.g13,N8.g14,N8.g15,N8.g16,N8.g17,N8.g20,N8.g21,N8.g22,N8.g23,N8.g24,N8.g25,N8.g26,N8.g27,N8.g30,N8.g31,N8.g32,N8.g33,N8.g34,N8.g35,N8.g36,N8.g37,N8.g40,N8.g41,N8.g42,N8.g43,N8.g44,N8.g45,N8.g46,N8.g47,N8.g50,N8.g51,N8.g52,N8.g53,N8.g54,N8.g55,N8.g56,N8.g57,N8.g60,N8.g61,N8.g62,N8.g63,N8.g64,N8.g65,N8.g66,N8.g67,N8.g70,N8.g71,N8.g72,N8.g73,N8.g74,N8.g75,N8.g76,N8.g77,Kb,J9,Kt,J7,KC,KD,Id,JW,F0,HX,JV,GT,JZ,Kk,Ie,KE,GP,R4,LC,JY,J1,Kp,Dd,Gy,De,J2,Dm,GW,Ym,YY,cond_true,cond_false,W9,Nat.reducePow,Nat.reduceDiv,Nat.reduceMod,decide_true,Nat.reduceEqDiff,decide_false,reduceCtorEq,Pn,XB,XT,Xt,WW,X3,X4,WV,X5,Xb,WX,WU,Z5,Xu,Xj,UB,UC,VN,UA,Zn,T7,Pc,Nd,N2,Kh,Ji,Nu,KM,EA,D5,D6,Jh,EB,Gq,D7,D8,D9,Ca,Cb,Cc,Cd,zE,zF,zG,zH,zI,zJ,Ce,Cf,Cg,Ch,Ci,Cj,Ck,Cl,Cm,Cn,Co,Cp,wY,Gr,Cq,Cr,Cs,Ct,Cu,Cv,Cw,Cx,Cy,Cz,CA,CB,CC,CD,CG,CH,CI,CJ,CK,wZ,w5,w7,w9,vb,vd,zK,qn,cI,cJ,cL,cM,cN,cO,cP,cQ,cS,cT,cU,cX,Ij,Ik,Hv,Fg,F9,E5,KR,Fe,BH,BI,BJ,BK,BL,IM,BM,BN,BO,BP,BQ,BR,BT,yl,ym,yn,yo,yp,yq,BU,BW,BX,BY,BZ,B3,B4,B5,B6,B7,B8,B9,Aa,Ff,Ab,Ac,Ad,Ae,Af,Ag,Ah,Ai,Aj,Ak,Al,Am,An,Ao,Ap,Aq,Ar,As,Au,uF,uG,uH,uI,uJ,uK,yr,pr,aH,aI,aJ,aK,aL,aM,aN,aO,aP,aQ,aR,aS,aT]
 refine⟨_,_,rfl,rfl,i0,i4,i5,(k1.then_put λ_=>YJ.2 rfl).then_put λ_=>YJ.2 rfl,?_⟩
 rw[hnext]
 exact⟨_,AM (a3+t1F [a0,a1,a2,a3,a4,a5,a6,a7] (K.getD t 0) (W.getD t 0)) (t1F [a0,a1,a2,a3,a4,a5,a6,a7] (K.getD t 0) (W.getD t 0)+t2F [a0,a1,a2,a3,a4,a5,a6,a7])⟩
end
section
attribute [local irreducible] Y1
variable {lib:Nat->List AV->Heap->Option CR} {fs:T CF} {fuel:Nat}
theorem fe{sb bv bw:Nat}{K W v:List UInt32}{H0:Heap}(c:Ctx)(x:X)(tm:TM)(H:Heap)(h:L3 sb bv bw K W v H0 64 tm H): ∃tm' H',IW c tm H x=.ok (.exit 0) tm' H' x∧L3 sb bv bw K W v H0 64 tm' H':=by
 have i18:=h.t18;have i0:=h.t0;have i4:=h.t4;have i5:=h.t5
 simp only[KM,Ud,T7,Pc] at i18 i0 i4 i5
 have d1:decide (64<64)=false:=rfl
 simp only[IW,i18,d1,Zx,XF,XE,XJ,Wm,XO,Yn,XC,Xm,Xf,X2,XI,XP,XR,Xq,Y5,Y9,Yp,Yw,Xs,V4,TC,Vc,Wj,WN,WD,WB,XK,WJ,WC,WF,WG,XS,WH,WI,XV,WA,Vl,WE,XU,Xk,N8.g00,N8.g01,N8.g02,N8.g03,N8.g04,N8.g05,N8.g06,N8.g07,N8.g10,N8.g11,N8.g12,N8.g13,N8.g14,N8.g15,N8.g16,N8.g17,N8.g20,N8.g21,N8.g22,N8.g23,N8.g24,N8.g25,N8.g26,N8.g27,N8.g30,N8.g31,N8.g32,N8.g33,N8.g34,N8.g35,N8.g36,N8.g37,N8.g40,N8.g41,N8.g42,N8.g43,N8.g44,N8.g45,N8.g46,N8.g47,N8.g50,N8.g51,N8.g52,N8.g53,N8.g54,N8.g55,N8.g56,N8.g57,N8.g60,N8.g61,N8.g62,N8.g63,N8.g64,N8.g65,N8.g66,N8.g67,N8.g70,N8.g71,N8.g72,N8.g73,N8.g74,N8.g75,N8.g76,N8.g77,XB,XT,Xt,WW,X3,X4,WV,X5,Xb,WX,WU,Z5,Xu,Xj,UB,UC,VN,UA,Zn,T7,Pc,Nd,N2,Kh,Ji,Nu,KM,EA,D5,D6,Jh,EB,Gq,D7,D8,D9,Ca,Cb,Cc,Cd,zE,zF,zG,zH,zI,zJ,Ce,Cf,Cg,Ch,Ci,Cj,Ck,Cl,Cm,Cn,Co,Cp,wY,Gr,Cq,Cr,Cs,Ct,Cu,Cv,Cw,Cx,Cy,Cz,CA,CB,CC,CD,CG,CH,CI,CJ,CK,wZ,w5,w7,w9,vb,vd,zK,qn,cI,cJ,cL,cM,cN,cO,cP,cQ,cS,cT,cU,cX,Ij,Ik,Hv,Fg,F9,E5,KR,Fe,BH,BI,BJ,BK,BL,IM,BM,BN,BO,BP,BQ,BR,BT,yl,ym,yn,yo,yp,yq,BU,BW,BX,BY,BZ,B3,B4,B5,B6,B7,B8,B9,Aa,Ff,Ab,Ac,Ad,Ae,Af,Ag,Ah,Ai,Aj,Ak,Al,Am,An,Ao,Ap,Aq,Ar,As,Au,uF,uG,uH,uI,uJ,uK,yr,pr,aH,aI,aJ,aK,aL,aM,aN,aO,aP,aQ,aR,aS,aT]
 exact⟨_,_,rfl,i18,i0,i4,i5,h.keep,h.row⟩
theorem Zbn{n:Nat}(hl: ∀l H,lib 84 l H=none)(hl2: ∀l H,lib 69 l H=none)(hf:fs.get 84=some yO)(hf2:fs.get 69=some x6)
  {sb bv bw:Nat}{K W v:List UInt32}{H0:Heap}{rK rW:Row}(hv:v.length=8)(hK:H0.t.get 3=some (.row rK))(cK:Cells rK (K.map ZH))(nK:K.length=64)(hW:H0.t.get bw=some (.row rW))(cW:Cells rW (W.map ZH))(nW:W.length=64)
  (h7:3<bv)(hbv:bv<H0.nx)(hbw:bw<H0.nx)(hne:bw≠bv){rng:AV->(List AV->Heap->CR)->TM->Heap->X->WS}{yld:Nat->List AV->Heap->CR}(hF:64<fuel)(x:X)(tm:TM)(H:Heap)
  (h:L3 sb bv bw K W v H0 0 tm H): ∃tm' H',Wu (IW ⟨Yo lib fs fuel (n+2),yld,rng,fuel,false⟩) fuel tm H x=.ok (.exit 0) tm' H' x∧L3 sb bv bw K W v H0 64 tm' H':=
 Rl (L3 sb bv bw K W v H0) (L3 sb bv bw K W v H0 64) 64 (λt tm H ht hi=>ff hl hl2 hf hf2 hv hK cK nK hW cW nW h7 hbv hbw hne x t tm H ht hi) (λtm H hi=>fe _ x tm H hi) 64 0 fuel tm H rfl hF h
def NQ(h v:List UInt32)(t:Nat):List UInt32:=(List.range 8).map λi=>if i<t then h.getD i 0+v.getD i 0 else h.getD i 0
structure L4(sb bv:Nat)(e:Nat)(h v:List UInt32)(rest:List AV)(H0:Heap)(t:Nat)(tm:TM)(H:Heap):Prop where
 t92:NE tm=nI .i64 t
 t0:ZO tm=.ptr sb 0
 t4:YT tm=.ptr bv 0
 keep:ZE H0 H [sb]
 row: ∃r,Own H sb e ((NQ h v t).map ZH++rest) r
theorem I0(l:List UInt32)(i:Nat)(h:i<l.length):(l.map ZH).getD i .unk=ZH (l.getD i 0):=by
 rw[Zh,Z1,Zh,Zr h];rfl
theorem Ql(h v:List UInt32)(t:Nat):(NQ h v t).length=8:=by unfold NQ;simp
theorem pC(h v:List UInt32)(t i:Nat)(hi:i<8):(NQ h v t).getD i 0=if i<t then h.getD i 0+v.getD i 0 else h.getD i 0:=by
 unfold NQ
 rw[Zh,Z1,Wb hi];rfl
theorem uZ(h v:List UInt32)(t:Nat)(ht:t<8):(NQ h v t).set t (h.getD t 0+v.getD t 0)=NQ h v (t+1):=by
 refine VC λi=>?_
 by_cases hi:i<8
 ·rw[List.getElem?_set]
  have e1:(NQ h v (t+1))[i]? =some (if i<t+1 then h.getD i 0+v.getD i 0 else h.getD i 0):=by
   unfold NQ;rw[Z1,Wb hi];rfl
  rw[e1]
  by_cases h1:t=i
  ·subst h1;rw[if_pos rfl,if_pos (by rw[Ql];exact ht),if_pos (by omega)]
  ·rw[if_neg h1]
   unfold NQ;rw[Z1,Wb hi]
   show some (if i<t then _ else _)=_
   by_cases h2:i<t
   ·rw[if_pos h2,if_pos (by omega)]
   ·rw[if_neg h2,if_neg (by omega)]
 ·rw[Xg (by rw[Sk,Ql];omega),Xg (by rw[Ql];omega)]
theorem fi{sb bv e:Nat}{h v:List UInt32}{rest:List AV}{H0:Heap}{rV:Row}(hV:H0.t.get bv=some (.row rV))(cV:Cells rV (v.map ZH))(nV:v.length=8)(hbv:bv<H0.nx)(hsb:sb<H0.nx)(hne:bv≠sb)
  (c:Ctx)(x:X)(t:Nat)(tm:TM)(H:Heap)(ht:t<8)(hi:L4 sb bv e h v rest H0 t tm H): ∃tm' H',IX c tm H x=.ok .normal tm' H' x∧L4 sb bv e h v rest H0 (t+1) tm' H':=by
 obtain⟨r,own⟩:=hi.row
 have i92:=hi.t92;have i0:=hi.t0;have i4:=hi.t4
 simp only[qp,Ud,T7] at i92 i0 i4
 have d1:decide (t<8)=true:=Zg ht
 have lb:bv<H.nx:=ZI hbv hi.keep.nx
 have ls:sb<H.nx:=ZI hsb hi.keep.nx
 have ll:=Ql h v t
 have lds: ∀(H':Heap),H'.t=H.t->UQ (.ptr sb t) H'=.val (ZH (h.getD t 0)) H':=λH' he=>by
  rw[Tp (r:=r) (by rw[he];exact own.at_) own.cells (by rw[Zo,Zi,ll];omega),Zh,Yz (by rw[Zi,ll];omega),<-Zh,I0 _ _ (by omega),pC _ _ _ _ ht,if_neg (Rx _)]
 have ldv: ∀(H':Heap),H'.t=H.t->UQ (.ptr bv t) H'=.val (ZH (v.getD t 0)) H':=λH' he=>by
  rw[Tp (r:=rV) (by rw[he,hi.keep.get bv hbv (by simpa using hne)];exact hV) cV (by simp;omega),I0 _ _ (by omega)]
 have st: ∀z:UInt32,RJ 1 (.ptr sb t) (ZH z) H=.val YZ (H.put sb (.row (r.setCells (YV r.cells t [ZH z])))):=λz=>UU (v:=ZH z) own.at_ own.cells own.own own.ro own.fz (Zq _) rfl (by rw[Zo,Zi,ll];omega)
 simp(maxSteps:=4000000) (disch:=first|omega|rfl) only[IX,i92,i0,i4,d1,Zx,lds,ldv,st,Z6 lb,Z6 ls,WM,Vd,Mu,XF,XE,XJ,Wm,XO,Yn,XC,Xm,Xf,X2,XI,XP,XR,Xq,Y5,Y9,Yp,Yw,Xs,V4,TC,Vc,Wj,WN,WD,WB,XK,WJ,WC,WF,WG,XS,WH,WI,XV,WA,Vl,WE,XU,Xk,N8.g00,N8.g01,N8.g02,N8.g03,N8.g04,N8.g05,N8.g06,N8.g07,N8.g10,N8.g11,N8.g12,N8.g13,N8.g14,N8.g15,N8.g16,N8.g17,N8.g20,N8.g21,N8.g22,N8.g23,N8.g24,N8.g25,N8.g26,N8.g27,N8.g30,N8.g31,N8.g32,N8.g33,N8.g34,N8.g35,N8.g36,N8.g37,N8.g40,N8.g41,N8.g42,N8.g43,N8.g44,N8.g45,N8.g46,N8.g47,N8.g50,N8.g51,N8.g52,N8.g53,N8.g54,N8.g55,N8.g56,N8.g57,N8.g60,N8.g61,N8.g62,N8.g63,N8.g64,N8.g65,N8.g66,N8.g67,N8.g70,N8.g71,N8.g72,N8.g73,N8.g74,N8.g75,N8.g76,N8.g77,Kb,J9,Kt,J7,KC,KD,Id,JW,F0,HX,JV,GT,JZ,Kk,Ie,KE,GP,R4,LC,JY,J1,Kp,Dd,Gy,De,J2,Dm,GW,Ym,YY,cond_true,cond_false,W9,Nat.reducePow,Nat.reduceDiv,Nat.reduceMod,decide_true,Nat.reduceEqDiff,decide_false,reduceCtorEq,Pn,XB,XT,Xt,WW,X3,X4,WV,X5,Xb,WX,WU,Z5,Xu,Xj,UB,UC,VN,UA,Zn,Ud,T7,R3,qp,cY,cZ,ba,bc,be,bg,bh,lO,lP,lQ,lR,lS,lT,lU,lV,lW,Hu,Ij,M1,pu,aU,aV,aW,aX,aY,aZ,a9,jQ,jR,jS,jT,jU,jV,jW,jX,jY]
 refine⟨_,_,rfl,rfl,i0,i4,hi.keep.then_put λ_=>YJ.2 rfl,r.setCells (YV r.cells t [ZH (h.getD t 0+v.getD t 0)]),⟨by rw[Xu,if_pos rfl],own.elem,own.sz,own.own,own.fz,own.sm,?_,own.ro⟩⟩
 have:=own.cells.store1 (o:=t) (v:=ZH (h.getD t 0+v.getD t 0)) (by rw[Zo,Zi,ll];omega)
 rw[List.set_append_left _ _ (by rw[Zi,ll];omega),<-List.map_set,uZ h v t ht] at this
 exact this
theorem fh{sb bv e:Nat}{h v:List UInt32}{rest:List AV}{H0:Heap}(c:Ctx)(x:X)(tm:TM)(H:Heap)(hi:L4 sb bv e h v rest H0 8 tm H): ∃tm' H',IX c tm H x=.ok (.exit 2) tm' H' x∧L4 sb bv e h v rest H0 8 tm' H':=by
 have i92:=hi.t92;have i0:=hi.t0;have i4:=hi.t4
 simp only[qp,Ud,T7] at i92 i0 i4
 have d1:decide (8<8)=false:=rfl
 simp only[IX,i92,d1,Zx,XF,XE,XJ,Wm,XO,Yn,XC,Xm,Xf,X2,XI,XP,XR,Xq,Y5,Y9,Yp,Yw,Xs,V4,TC,Vc,Wj,WN,WD,WB,XK,WJ,WC,WF,WG,XS,WH,WI,XV,WA,Vl,WE,XU,Xk,N8.g00,N8.g01,N8.g02,N8.g03,N8.g04,N8.g05,N8.g06,N8.g07,N8.g10,N8.g11,N8.g12,N8.g13,N8.g14,N8.g15,N8.g16,N8.g17,N8.g20,N8.g21,N8.g22,N8.g23,N8.g24,N8.g25,N8.g26,N8.g27,N8.g30,N8.g31,N8.g32,N8.g33,N8.g34,N8.g35,N8.g36,N8.g37,N8.g40,N8.g41,N8.g42,N8.g43,N8.g44,N8.g45,N8.g46,N8.g47,N8.g50,N8.g51,N8.g52,N8.g53,N8.g54,N8.g55,N8.g56,N8.g57,N8.g60,N8.g61,N8.g62,N8.g63,N8.g64,N8.g65,N8.g66,N8.g67,N8.g70,N8.g71,N8.g72,N8.g73,N8.g74,N8.g75,N8.g76,N8.g77,XB,XT,Xt,WW,X3,X4,WV,X5,Xb,WX,WU,Z5,Xu,Xj,UB,UC,VN,UA,Zn,Ud,T7,R3,qp,cY,cZ,ba,bc,be,bg,bh,lO,lP,lQ,lR,lS,lT,lU,lV,lW,Hu,Ij,M1,pu,aU,aV,aW,aX,aY,aZ,a9,jQ,jR,jS,jT,jU,jV,jW,jX,jY]
 exact⟨_,_,rfl,i92,i0,i4,hi.keep,hi.row⟩
theorem Zbo{sb bv e:Nat}{h v:List UInt32}{rest:List AV}{H0:Heap}{rV:Row}(hV:H0.t.get bv=some (.row rV))(cV:Cells rV (v.map ZH))(nV:v.length=8)(hbv:bv<H0.nx)(hsb:sb<H0.nx)(hne:bv≠sb)
  (c:Ctx)(hF:8<c.fuel)(x:X)(tm:TM)(H:Heap)(hi:L4 sb bv e h v rest H0 0 tm H): ∃tm' H',Wu (IX c) c.fuel tm H x=.ok (.exit 2) tm' H' x∧L4 sb bv e h v rest H0 8 tm' H':=
 Rl (L4 sb bv e h v rest H0) (L4 sb bv e h v rest H0 8) 8 (λt tm H ht hi=>fi hV cV nV hbv hsb hne c x t tm H ht hi) (λtm H hi=>fh c x tm H hi) 8 0 c.fuel tm H rfl hF hi
end
section
attribute [local irreducible] Y1
variable {lib:Nat->List AV->Heap->Option CR} {fs:T CF} {fuel:Nat}
def NS(K h:List UInt32)(bl:List UInt8):List UInt32:=NQ h (Y2 K (Y1 bl) h 64) 8
theorem Cells.whole{r:Row}{l vs:List AV}(h:Cells r l)(hl:vs.length=l.length):Cells (r.setCells (YV r.cells 0 vs)) vs:=by
 have:=h.store (o:=0) (vs:=vs) (by omega)
 rw[List.take_zero,WR,Zn,Sq (by omega),WQ] at this
 exact this
theorem fR(e:Nat)(v:AV)(tm:TM)(H:Heap):Ws e [v,v,v,v,v,v,v,v] tm H=.val (.ptr H.nx 0) (H.newRow e 1 [v,v,v,v,v,v,v,v] true):=rfl
theorem iI(h v:List UInt32)(hh:h.length=8):NQ h v 0=h:=by
 obtain⟨a0,a1,a2,a3,a4,a5,a6,a7,rfl⟩:=vl hh
 rfl
theorem j8{n:Nat}(hl: ∀l H,lib 84 l H=none)(hl2: ∀l H,lib 69 l H=none)(hl3: ∀l H,lib 68 l H=none)(hl4: ∀l H,lib 56 l H=none)(hf:fs.get 84=some yO)(hf2:fs.get 69=some x6)(hf3:fs.get 68=some mf)(uV:fs.get 56=some mH)(hF:64<fuel)
  {sb bk o e:Nat}{cap:Option Nat}{bl:List UInt8}{H:Heap}{rb rK r:Row}{K h:List UInt32}{rest:List AV}(hK:H.t.get 3=some (.row rK))(cK:Cells rK (K.map ZH))(nK:K.length=64)(h7:3<H.nx)(gJ:3≠sb)
  (own:Own H sb e (h.map ZH++rest) r)(hh:h.length=8)(hsb:sb<H.nx)(hb:Bytes H bk o cap bl rb)(hbl:bl.length=64)(hbk:bk<H.nx)(hro:H.ro<=H.nx):
  ∃H',Yo lib fs fuel (n+4) 56 [.ptr sb 0,.slice bk o 64 cap] H=.ret (.tup []) H'∧ZE H H' [sb]∧ ∃r',Own H' sb e ((NS K h bl).map ZH++rest) r':=by
 rw[YM (hl4 _ _) uV]
 have ld:Jo 8 (.ptr sb 0) H=.val (.agg (h.map ZH)) H:=by
  rw[NL own.at_ own.cells (by rw[Zo,Zi];omega),Y8,List.take_left' (by rw[Zi];exact hh)]
 generalize ha:H.newRow 51 1 [nI .u32 0,nI .u32 0,nI .u32 0,nI .u32 0,nI .u32 0,nI .u32 0,nI .u32 0,nI .u32 0] true=Ha
 have nxa:Ha.nx=H.nx+1:=by rw[<-ha];rfl
 have ka:ZE H Ha []:=by rw[<-ha];exact ZE.new H _ []
 have ga:Ha.t.get H.nx=some (.row ⟨51,1,8,T.ofList [nI .u32 0,nI .u32 0,nI .u32 0,nI .u32 0,nI .u32 0,nI .u32 0,nI .u32 0,nI .u32 0],.unk,0,false,true,true⟩):=by
  rw[<-ha,So,Xj,if_pos rfl];rfl
 generalize hra:(⟨51,1,8,T.ofList [nI .u32 0,nI .u32 0,nI .u32 0,nI .u32 0,nI .u32 0,nI .u32 0,nI .u32 0,nI .u32 0],.unk,0,false,true,true⟩:Row)=ra at ga
 have ca:Cells ra [nI .u32 0,nI .u32 0,nI .u32 0,nI .u32 0,nI .u32 0,nI .u32 0,nI .u32 0,nI .u32 0]:=by
  rw[<-hra]
  have:=Cells.new 51 1 [nI .u32 0,nI .u32 0,nI .u32 0,nI .u32 0,nI .u32 0,nI .u32 0,nI .u32 0,nI .u32 0] 0 false true true
  exact this
 have oa:ra.own=true∧ra.fz=0∧ra.sm=false∧ra.elem=51∧ra.sz=1:=by rw[<-hra];exact⟨rfl,rfl,rfl,rfl,rfl⟩
 have roa:Ha.ro<=H.nx:=by rw[ka.ro];exact hro
 have nh:(h.map ZH).length=8:=by rw[Zi];exact hh
 have sta:RJ 8 (.ptr H.nx 0) (.agg (h.map ZH)) Ha=.val YZ (Ha.put H.nx (.row (ra.setCells (YV ra.cells 0 (h.map ZH))))):=UU (v:=.agg (h.map ZH)) ga ca oa.1 roa oa.2.1 (by omega) nh (by simp)
 generalize hv':ra.setCells (YV ra.cells 0 (h.map ZH))=rv at sta
 have cv:Cells rv (h.map ZH):=by rw[<-hv'];exact ca.whole (by rw[nh];rfl)
 have ov:rv.own=true∧rv.fz=0∧rv.sm=false∧rv.elem=51∧rv.sz=1:=by rw[<-hv'];exact oa
 generalize hbh:Ha.put H.nx (.row rv)=Hb at sta
 have nxb:Hb.nx=H.nx+1:=by rw[<-hbh];exact nxa
 have kb:ZE H Hb []:=by rw[<-hbh];exact ka.then_put λhlt=>absurd hlt (Rx _)
 have gv:Hb.t.get H.nx=some (.row rv):=by rw[<-hbh,Xu,if_pos rfl]
 obtain⟨Hc,ec,kc⟩:=nC (n:=n) (fuel:=fuel) hl hl2 hl3 hf hf2 hf3 hF (hb.keep kb hbk (by simp)) hbl (by omega) (by rw[kb.ro];omega)
 have kbc:ZE H Hc []:=kb.trans kc λc hc _=>hc
 have nxc:H.nx+1<=Hc.nx:=by have:=kc.nx;omega
 have gvc:Hc.t.get H.nx=some (.row rv):=by rw[kc.get H.nx (by omega) (by simp)];exact gv
 generalize hd:Hc.new (.row ⟨49,1,64,.leaf,nI .u32 0,0,false,true,true⟩)=Hd
 have nxd:Hd.nx=Hc.nx+1:=by rw[<-hd];rfl
 have kd:ZE H Hd []:=by rw[<-hd];exact kbc.then_new _
 have gd:Hd.t.get Hc.nx=some (.row ⟨49,1,64,.leaf,nI .u32 0,0,false,true,true⟩):=by rw[<-hd,Xj,if_pos rfl]
 have gvd:Hd.t.get H.nx=some (.row rv):=by rw[<-hd,Xj,if_neg (by omega)];exact gvc
 have nw:((Y1 bl).map ZH).length=64:=by rw[Zi];exact Kw bl
 have cd:=Cells.zero 49 64 (nI .u32 0) 0 false true true
 have std:RJ 64 (.ptr Hc.nx 0) (.agg ((Y1 bl).map ZH)) Hd=.val YZ (Hd.put Hc.nx (.row (Row.setCells ⟨49,1,64,.leaf,nI .u32 0,0,false,true,true⟩ (YV .leaf 0 ((Y1 bl).map ZH))))):=
  UU (v:=.agg ((Y1 bl).map ZH)) gd cd rfl (by rw[kd.ro];omega) rfl (by omega) nw (by simp)
 have cw:Cells (Row.setCells ⟨49,1,64,.leaf,nI .u32 0,0,false,true,true⟩ (YV .leaf 0 ((Y1 bl).map ZH))) ((Y1 bl).map ZH):=cd.whole (by rw[nw,Wf])
 generalize hrw:Row.setCells ⟨49,1,64,.leaf,nI .u32 0,0,false,true,true⟩ (YV .leaf 0 ((Y1 bl).map ZH))=rw_ at std cw
 generalize he:Hd.put Hc.nx (.row rw_)=He at std
 have nxe:He.nx=Hc.nx+1:=by rw[<-he];exact nxd
 have ke:ZE H He []:=by rw[<-he];exact kd.then_put λhlt=>by omega
 have ge:He.t.get Hc.nx=some (.row rw_):=by rw[<-he,Xu,if_pos rfl]
 have gve:He.t.get H.nx=some (.row rv):=by rw[<-he,Xu,if_neg (by omega)];exact gvd
 simp only[mH,JS,ld,fR,ha,sta,ec,Xb,hd,std,RB,XF,XE,XJ,Wm,XO,Yn,XC,Xm,Xf,X2,XI,XP,XR,Xq,Y5,Y9,Yp,Yw,Xs,V4,TC,Vc,Wj,WN,WD,WB,XK,WJ,WC,WF,WG,XS,WH,WI,XV,WA,Vl,WE,XU,Xk,N8.g00,N8.g01,N8.g02,N8.g03,N8.g04,N8.g05,N8.g06,N8.g07,N8.g10,N8.g11,N8.g12,N8.g13,N8.g14,N8.g15,N8.g16,N8.g17,N8.g20,N8.g21,N8.g22,N8.g23,N8.g24,N8.g25,N8.g26,N8.g27,N8.g30,N8.g31,N8.g32,N8.g33,N8.g34,N8.g35,N8.g36,N8.g37,N8.g40,N8.g41,N8.g42,N8.g43,N8.g44,N8.g45,N8.g46,N8.g47,N8.g50,N8.g51,N8.g52,N8.g53,N8.g54,N8.g55,N8.g56,N8.g57,N8.g60,N8.g61,N8.g62,N8.g63,N8.g64,N8.g65,N8.g66,N8.g67,N8.g70,N8.g71,N8.g72,N8.g73,N8.g74,N8.g75,N8.g76,N8.g77,XB,XT,Xt,WW,X3,X4,WV,X5,Xb,WX,WU,Z5,Xu,Xj,UB,UC,VN,UA,Zn,Ud,Od,T7,Pc,MG,Je,Lz,Ix,Jf,Jg,Ij,Ik,IJ,IK,IL,EU,EV,BG,Fe,pu,Hu,nO,Ud,Od]
 generalize hL:Wu (IW _) fuel _ _ _=L
 have ownv:Own He H.nx 51 ((Y2 K (Y1 bl) h 0).map ZH) rv:=⟨gve,ov.2.2.2.1,ov.2.2.2.2,ov.1,ov.2.1,ov.2.2.1,cv,by rw[ke.ro];exact hro⟩
 obtain⟨uW,Hf,rfl,j⟩:=TY (P:=λT=>L3 sb H.nx Hc.nx K (Y1 bl) h He 0 T He) (Q:=L3 sb H.nx Hc.nx K (Y1 bl) h He 64)
  (λT hi=>Zbn (n:=n+1) hl hl2 hf hf2 hh (by rw[ke.get 3 h7 (by simp)];exact hK) cK nK ge cw (Kw bl) h7 (by omega) (by omega) (by omega) hF _ T He hi) hL ⟨rfl,rfl,rfl,rfl,ZE.refl _ _,_,ownv⟩
 obtain⟨rv2,Bi⟩:=j.row
 have j0:=j.t0;have j4:=j.t4
 simp only[Ud,T7] at j0 j4
 simp only[Yw,Yn,XO,XF,WN,XE,TC,Xf,Y9,RB,pu]
 generalize hL2:Wu (IX _) fuel _ _ _=L2
 have kf:ZE H Hf []:=ke.trans j.keep λc hc hlt=>by simp only[YJ] at hc;omega
 have owns:Own Hf sb e ((NQ h (Y2 K (Y1 bl) h 64) 0).map ZH++rest) r:=by
  rw[iI _ _ hh]
  exact⟨by rw[kf.get sb hsb (by simp)];exact own.at_,own.elem,own.sz,own.own,own.fz,own.sm,own.cells,by rw[kf.ro];exact own.ro⟩
 have nxf:He.nx<=Hf.nx:=j.keep.nx
 obtain⟨tm3,Hg,rfl,q⟩:=TY (P:=λT=>L4 sb H.nx e h (Y2 K (Y1 bl) h 64) rest Hf 0 T Hf) (Q:=L4 sb H.nx e h (Y2 K (Y1 bl) h 64) rest Hf 8)
  (λT hi=>Zbo Bi.at_ Bi.cells (JI K (Y1 bl) h hh 64) (by omega) (by omega) (by omega) _ (show 8<fuel by omega) _ T Hf hi) hL2 ⟨rfl,j0,j4,ZE.refl _ _,_,owns⟩
 simp only[Yw,EL,GS]
 exact⟨_,rfl,kf.trans' q.keep,q.row⟩
end
theorem uj(a:UInt32){n:Nat}(h:n<32)(k:IntKind)(H:Heap):ui (ZH a) (nI k n) H=.val (ZH (a>>>UInt32.ofNat n)) H:=G0 a h H
theorem jK(a:UInt32){n:Nat}(h:n<32)(k:IntKind)(H:Heap):nF (ZH a) (nI k n) H=.val (ZH (a<<<UInt32.ofNat n)) H:=Dn a h H
theorem Jr(n:Nat): ∀l:List UInt32,Pd n (l.map ZH)=true
 |[]=>rfl
 |_::l=>Jr n l
def WL:List UInt32:=[1116352408,1899447441,3049323471,3921009573,961987163,1508970993,2453635748,2870763221,3624381080,310598401,607225278,1426881987,1925078388,2162078206,2614888103,3248222580,3835390401,4022224774,264347078,604807628,770255983,1249150122,1555081692,1996064986,2554220882,2821834349,2952996808,3210313671,3336571891,3584528711,113926993,338241895,666307205,773529912,1294757372,1396182291,1695183700,1986661051,2177026350,2456956037,2730485921,2820302411,3259730800,3345764771,3516065817,3600352804,4094571909,275423344,430227734,506948616,659060556,883997877,958139571,1322822218,1537002063,1747873779,1955562222,2024104815,2227730452,2361852424,2428436474,2756734187,3204031479,3329325298]
theorem ru{ZM:Lib}{fs:T CF}{fuel:Nat}(E:Env ZM fs fuel){n:Nat}{a:UInt32}{q:Nat}{H:Heap}(h0:0<q)(h1:q<32):
  ∃H',Yo (LK ZM fs fuel 0) fs fuel (n+2) 27 [ZH a,nI .i64 q] H=.ret (ZH (JH a q)) H'∧ZE H H' []:=by
 rw[YM (YW E.n27 (.inl (by decide)) _ _) E.f27]
 have hsub:32 - q<32:=by omega
 have hq:q<=32:=by omega
 have hr:a>>>UInt32.ofNat q|||a<<<UInt32.ofNat (32 - q)=JH a q:=by unfold JH;exact UInt32.or_comm _ _
 have s1:=λG=>uj a h1 .i64 G
 have s2:=λG=>jK a hsub .i64 G
 simp(maxSteps:=4000000) (disch:=first|assumption|omega|(simp -implicitDefEqProofs only[ZA,ZB]<;>first|assumption|omega)|decide) only[s1,s2,Ot,xD,hr,YK,Zx,Wn,Z2,WM,Zn,Z7,c27,Z4,Yr,Zy,Zz,Zk,Zm,Zl,Nat.reducePow,Nat.reduceDiv,Nat.reduceMod,Nat.reduceEqDiff,reduceCtorEq,Yu]
 refine⟨_,rfl,?_⟩
 exact ZE.refl _ _
theorem ic{ZM:Lib}{fs:T CF}{fuel:Nat}(E:Env ZM fs fuel){k n:Nat}(hk:1<=k){a:UInt32}{q:Nat}{H:Heap}(h0:0<q)(h1:q<32):
  Yo (LK ZM fs fuel k) fs fuel (n+1) 27 [ZH a,nI .i64 q] H=.ret (ZH (JH a q)) H:=by
 obtain⟨H',e,g⟩:=ru E (n:=898) (H:=H) h0 h1
 exact LD (r:=0) rfl rfl e g (rfl) hk
def eM(R:Row)(vs:List AV):Row:=R.setCells (YV R.cells 0 vs)
theorem Hk{R:Row}{l vs:List AV}(h:Cells R l)(hl:vs.length=l.length):Cells (eM R vs) vs:=h.whole hl
theorem F8{n b:Nat}{R:Row}{vs:List AV}{H:Heap}(hn:1<=n)(hv:vs.length=n)(hs:R.size=n)(how:R.own=true)(hfz:R.fz=0)(hro:H.ro<=b):re n (some (.row R)) b 0 (.agg vs) H=.val YZ (H.put b (.row (eM R vs))):=by
 show ZR (Nat.ble 1 n) (ZR (cond R.own (Nat.ble H.ro b) false) (ZR (Nat.ble (0+n) R.size) (ZR (Nat.ble R.fz 0) (ZR (Nat.beq (YF vs) n) (.val YZ (H.put b (.row (R.setCells (YV R.cells 0 vs)))))))))=_
 rw[how,cond_true,Zj hn,Zj hro,Zj (show 0+n<=R.size by omega),Zj (show R.fz<=0 by omega),Yt,hv,YC];rfl
theorem jz{n:Nat}{R:Row}{l:List AV}(hc:Cells R l)(hn:l.length=n)(k:AV->CR):rV n true (some (.row R)) 0 k=k (.agg l):=by
 subst hn
 show cond (Nat.ble (0+l.length) R.size) (k (.agg (loadN R 0 l.length))) .fail=_
 rw[hc.load (by omega),Y8,WT,hc.size,Zn,Zj (Zq _)];rfl
theorem xh{n:Nat}{R:Row}{l:List AV}(hc:Cells R l)(hn:l.length=n)(H:Heap):Gv n (some (.row R)) 0 H=.val (.agg l) H:=by
 subst hn
 show ZR (Nat.ble (0+l.length) R.size) (.val (.agg (loadN R 0 l.length)) H)=_
 rw[hc.load (by omega),Y8,WT,hc.size,Zn,Zj (Zq _)];rfl
def z64(e:Nat):Row:=⟨e,1,64,.leaf,nI .u32 0,0,false,true,true⟩
theorem yz(e:Nat):Cells (z64 e) (List.replicate 64 (nI .u32 0)):=Cells.zero ..
theorem rD(e:Nat):(⟨e,1,64,.leaf,nI .u32 0,0,false,true,true⟩:Row)=z64 e:=rfl
theorem tE{ZM:Lib}{fs:T CF}{fuel:Nat}(E:Env ZM fs fuel){n:Nat}{H:Heap}(hro:H.ro<=H.nx):
  ∃H',Yo (LK ZM fs fuel 0) fs fuel (n+2) 16 [] H=.ret (.agg (WL.map ZH)) H'∧ZE H H' []:=by
 rw[YM (YW E.n16 (.inl (by decide)) _ _) E.f16]
 have bd: ∀G,RW [nI .u32 0,nI .u32 0,nI .u32 0,nI .u32 0,nI .u32 0,nI .u32 0,nI .u32 0,nI .u32 0,nI .u32 0,nI .u32 0,nI .u32 0,nI .u32 0,nI .u32 0,nI .u32 0,nI .u32 0,nI .u32 0,nI .u32 0,nI .u32 0,nI .u32 0,nI .u32 0,nI .u32 0,nI .u32 0,nI .u32 0,nI .u32 0,nI .u32 0,nI .u32 0,nI .u32 0,nI .u32 0,nI .u32 0,nI .u32 0,nI .u32 0,nI .u32 0,nI .u32 0,nI .u32 0,nI .u32 0,nI .u32 0,nI .u32 0,nI .u32 0,nI .u32 0,nI .u32 0,nI .u32 0,nI .u32 0,nI .u32 0,nI .u32 0,nI .u32 0,nI .u32 0,nI .u32 0,nI .u32 0,nI .u32 0,nI .u32 0,nI .u32 0,nI .u32 0,nI .u32 0,nI .u32 0,nI .u32 0,nI .u32 0,nI .u32 0,nI .u32 0,nI .u32 0,nI .u32 0,nI .u32 0,nI .u32 0,nI .u32 0,nI .u32 0] [(0,1,nI .u32 1116352408),(1,1,nI .u32 1899447441),(2,1,nI .u32 3049323471),(3,1,nI .u32 3921009573),(4,1,nI .u32 961987163),(5,1,nI .u32 1508970993),(6,1,nI .u32 2453635748),(7,1,nI .u32 2870763221),(8,1,nI .u32 3624381080),(9,1,nI .u32 310598401),(10,1,nI .u32 607225278),(11,1,nI .u32 1426881987),(12,1,nI .u32 1925078388),(13,1,nI .u32 2162078206),(14,1,nI .u32 2614888103),(15,1,nI .u32 3248222580),(16,1,nI .u32 3835390401),(17,1,nI .u32 4022224774),(18,1,nI .u32 264347078),(19,1,nI .u32 604807628),(20,1,nI .u32 770255983),(21,1,nI .u32 1249150122),(22,1,nI .u32 1555081692),(23,1,nI .u32 1996064986),(24,1,nI .u32 2554220882),(25,1,nI .u32 2821834349),(26,1,nI .u32 2952996808),(27,1,nI .u32 3210313671),(28,1,nI .u32 3336571891),(29,1,nI .u32 3584528711),(30,1,nI .u32 113926993),(31,1,nI .u32 338241895),(32,1,nI .u32 666307205),(33,1,nI .u32 773529912),(34,1,nI .u32 1294757372),(35,1,nI .u32 1396182291),(36,1,nI .u32 1695183700),(37,1,nI .u32 1986661051),(38,1,nI .u32 2177026350),(39,1,nI .u32 2456956037),(40,1,nI .u32 2730485921),(41,1,nI .u32 2820302411),(42,1,nI .u32 3259730800),(43,1,nI .u32 3345764771),(44,1,nI .u32 3516065817),(45,1,nI .u32 3600352804),(46,1,nI .u32 4094571909),(47,1,nI .u32 275423344),(48,1,nI .u32 430227734),(49,1,nI .u32 506948616),(50,1,nI .u32 659060556),(51,1,nI .u32 883997877),(52,1,nI .u32 958139571),(53,1,nI .u32 1322822218),(54,1,nI .u32 1537002063),(55,1,nI .u32 1747873779),(56,1,nI .u32 1955562222),(57,1,nI .u32 2024104815),(58,1,nI .u32 2227730452),(59,1,nI .u32 2361852424),(60,1,nI .u32 2428436474),(61,1,nI .u32 2756734187),(62,1,nI .u32 3204031479),(63,1,nI .u32 3329325298)] G=.val (.agg (WL.map ZH)) G:=λG=>by kernel_rfl
 have hl:(WL.map ZH).length=64:=by rw[Zi];rfl
 have rv:=λk=>jz (n:=64) (Hk (yz 49) (vs:=WL.map ZH) (by rw[hl];rfl)) hl k
 have st:=F8 (n:=64) (b:=H.nx) (R:=z64 49) (vs:=WL.map ZH) (H:=H.new (.row (z64 49))) (by decide) hl rfl rfl rfl hro
 simp(maxSteps:=4000000) (disch:=first|assumption|omega|(simp -implicitDefEqProofs only[ZA,ZB]<;>first|assumption|omega)|decide) only[rD,Tq,Ym,YY,bd,st,rv,Py,c16,Z4,Yr,Zy,Zz,Zk,Zm,Zl,Nat.reduceEqDiff,reduceCtorEq,Yu]
 refine⟨_,rfl,?_⟩
 exact ZE.new _ _ _
theorem Zav{ZM:Lib}{fs:T CF}{fuel:Nat}(E:Env ZM fs fuel){k n:Nat}(hk:1<=k){H:Heap}(hro:H.ro<=H.nx):
  Yo (LK ZM fs fuel k) fs fuel (n+1) 16 [] H=.ret (.agg (WL.map ZH)) H:=by
 obtain⟨H',e,g⟩:=tE E (n:=898) (H:=H) hro
 exact LD (r:=0) rfl rfl e g (Jr _ _) hk
theorem Hs(bl:List UInt8){i n:Nat}(h:i<n): ∀m,n<=m->(Vn bl m).getD i 0=(Vn bl n).getD i 0
 |0,hm=>by omega
 |m+1,hm=>by
  by_cases e:n=m+1
  ·rw[e]
  ·rw[<-Hs bl h m (by omega)]
   show(Vn bl m++[_]).getD i 0=_
   rw[Zh,Yz (by rw[TX];omega),<-Zh]
theorem yc(bl:List UInt8){t:Nat}(h:t<64):(Y1 bl).getD t 0=if t<16 then Ig bl t 4 else GC (Vn bl t):=by
 rw[<-F5,Hs bl (show t<t+1 by omega) 64 (by omega)]
 show(Vn bl t++[_]).getD t 0=_
 rw[Zh,ZY (by rw[TX];exact Zq _),TX,Rg];rfl
theorem sU(bl:List UInt8){t:Nat}(h0:16<=t)(h:t<64):sg1 ((Y1 bl).getD (t - 2) 0)+(Y1 bl).getD (t - 7) 0+sg0 ((Y1 bl).getD (t - 15) 0)+(Y1 bl).getD (t - 16) 0=(Y1 bl).getD t 0:=by
 have e: ∀i,i<t->(Y1 bl).getD i 0=(Vn bl t).getD i 0:=λi hi=>by rw[<-F5];exact Hs bl hi 64 (by omega)
 rw[yc bl h,if_neg (by omega),GC,TX,e _ (by omega),e _ (by omega),e _ (by omega),e _ (by omega)]
theorem HH(a:UInt32)(b:UInt8)(h:a.toNat<16777216):(a<<<UInt32.ofNat 8|||b.toUInt32).toNat=a.toNat*256+b.toNat:=by
 have hb:b.toNat<256:=b.toNat_lt
 rw[UInt32.toNat_or,UInt32.toNat_shiftLeft,Ss]
 rw[show(UInt32.ofNat 8).toNat % 32=8 from rfl,Nat.shiftLeft_eq,ZU (by omega)]
 have:=Nat.two_pow_add_eq_or_of_lt (i:=8) (b:=b.toNat) hb a.toNat
 rw[Nat.mul_comm a.toNat,<-this]
theorem xR(b:UInt8){k:Nat}(hk:k<=24):(b.toUInt32<<<UInt32.ofNat k).toNat=b.toNat*2^k:=by
 have hb:b.toNat<256:=b.toNat_lt
 rw[UInt32.toNat_shiftLeft,Ss,UInt32.toNat_ofNat_of_lt' (show k<UInt32.size from Xd hk (by decide)),ZU (show k<32 by omega),Nat.shiftLeft_eq]
 refine ZU (ZI (Nat.mul_lt_mul_of_pos_right hb (Nat.two_pow_pos k)) ?_)
 have:(2:Nat)^k<=2^24:=Nat.pow_le_pow_right (by decide) hk
 omega
theorem iH(bl:List UInt8)(t:Nat):(bl.getD (4*t) 0).toUInt32<<<UInt32.ofNat 24+(bl.getD (4*t+1) 0).toUInt32<<<UInt32.ofNat 16+(bl.getD (4*t+2) 0).toUInt32<<<UInt32.ofNat 8+(bl.getD (4*t+3) 0).toUInt32=Ig bl t 4:=by
 show _=(((((0<<<UInt32.ofNat 8)|||(bl.getD (4*t+0) 0).toUInt32)<<<UInt32.ofNat 8)|||(bl.getD (4*t+1) 0).toUInt32)<<<UInt32.ofNat 8|||(bl.getD (4*t+2) 0).toUInt32)<<<UInt32.ofNat 8|||(bl.getD (4*t+3) 0).toUInt32
 rw[Z7]
 generalize bl.getD (4*t) 0=b0
 generalize bl.getD (4*t+1) 0=b1
 generalize bl.getD (4*t+2) 0=b2
 generalize bl.getD (4*t+3) 0=b3
 have h0:=b0.toNat_lt;have h1:=b1.toNat_lt;have h2:=b2.toNat_lt;have h3:=b3.toNat_lt
 have z:(0:UInt32).toNat=0:=rfl
 have e1:=HH 0 b0 (by rw[z];omega)
 rw[z] at e1
 have e2:=HH _ b1 (by rw[e1];omega)
 rw[e1] at e2
 have e3:=HH _ b2 (by rw[e2];omega)
 rw[e2] at e3
 have e4:=HH _ b3 (by rw[e3];omega)
 rw[e3] at e4
 refine UInt32.toNat_inj.1 ?_
 rw[e4,UInt32.toNat_add,UInt32.toNat_add,UInt32.toNat_add,xR b0 (by decide),xR b1 (by decide),xR b2 (by decide),Ss]
 omega
structure DW(H0:Heap)(wb pb po:Nat)(cp:Option Nat)(bl:List UInt8)(v3 v5 v6:AV)(m:Nat)(tm:TM)(H:Heap):Prop where
 t1:YL tm=.slice pb po 64 cp
 t3:Xa tm=v3
 t5:XW tm=v5
 t6:W2 tm=v6
 t7:Wp tm=.ptr wb 0
 keep:ZE H0 H [wb]
 i: ∃t R,t+m=64∧XG tm=nI .i64 t∧H.t.get wb=some (.row R)∧R.size=64∧R.own=true∧R.fz=0∧ ∀i,i<t->R.get i=ZH ((Y1 bl).getD i 0)
def DQ(H0:Heap)(wb pb po:Nat)(cp:Option Nat)(bl:List UInt8)(v3 v5 v6:AV)(o:Out)(tm:TM)(H:Heap):Prop:=o=.exit 0∧DW H0 wb pb po cp bl v3 v5 v6 0 tm H
theorem gi{ZM:Lib}{fs:T CF}{fuel:Nat}(E:Env ZM fs fuel){d:Nat}{H0:Heap}{wb pb po:Nat}{cp:Option Nat}{bl:List UInt8}{v3 v5 v6:AV}{rp:Row}(hb:Bytes H0 pb po cp bl rp)(hbl:bl.length=64)(hpb:pb<H0.nx)(hne:pb≠wb)(hro:H0.ro<=wb)(hwb:wb<H0.nx)(y f r)(x:X)(m:Nat)(tm:TM)(H:Heap)(h:DW H0 wb pb po cp bl v3 v5 v6 m tm H):
  ∃o tm' H',Fz ⟨Yo (LK ZM fs fuel 1) fs fuel (d+1),y,f,fuel,r⟩ tm H x=.ok o tm' H' x∧((o=.normal∧ ∃k,k<m∧DW H0 wb pb po cp bl v3 v5 v6 k tm' H')∨(o≠.normal∧DQ H0 wb pb po cp bl v3 v5 v6 o tm' H')):=by
 obtain⟨t1,t3,t5,t6,t7,k0,t,R,kn,t8,gw,hsz,how,hfz,hR⟩:=h
 have t1':=t1;have AS:=t3;have t5':=t5;have dh:=t6;have pv:=t7
 simp only[Od,N2,Kh] at t1 t7 t8
 have gT:H.ro<=wb:=by rw[k0.ro];exact hro
 by_cases ht:t<64
 ·have d1:decide (t<64)=true:=Zg ht
  have gp:H.t.get pb=some (.row rp):=by rw[k0.get pb hpb (by simp;exact hne)];exact hb.at_
  have n0:=k0.nx
  have lw:=Z6 (n:=H.nx) (b:=wb) (by omega)
  have lwp:=Z6 (n:=H.nx) (b:=pb) (by omega)
  have lws:=UR (n:=H.nx) (b:=pb) (by omega) po 64 cp
  have ad:=λG=>WM (a:=t) (b:=1) (by omega) G
  by_cases h16:t<16
  ·have d2:decide (t<16)=true:=Zg h16
   have mu:=λG=>Hh (a:=4) (b:=t) (by omega) G
   have a1:=λG=>WM (a:=4*t) (b:=1) (by omega) G
   have a2:=λG=>WM (a:=4*t) (b:=2) (by omega) G
   have a3:=λG=>WM (a:=4*t) (b:=3) (by omega) G
   have ix: ∀j,j<64-> ∀G,CP 1 (.slice pb po 64 cp) (nI .i64 j) G=.val (.ptr pb (po+j)) G:=λj hj G=>Td hj pb po cp .i64 G
   have x0:=ix (4*t) (by omega);have x1:=ix (4*t+1) (by omega);have x2:=ix (4*t+2) (by omega);have x3:=ix (4*t+3) (by omega)
   have ld: ∀j,j<64-> ∀G,ld1 (some (.row rp)) (po+j) G=.val (Y6 (bl.getD j 0)) G:=λj hj G=>by
    have:=hb.fits
    rw[Qr (by omega),hb.get j (by omega)]
   have l0:=ld (4*t) (by omega);have l1:=ld (4*t+1) (by omega);have l2:=ld (4*t+2) (by omega);have l3:=ld (4*t+3) (by omega)
   have iw: ∀G,Gu 64 1 (.ptr wb 0) (nI .i64 t) G=.val (.ptr wb (0+t)) G:=λG=>Vd ht wb 0 .i64 G
   have ac:=iH bl t
   have st:=xV (r:=R) (b:=wb) (o:=t) (v:=ZH ((Y1 bl).getD t 0)) (H:=H) rfl (by omega) how gT (by omega)
   have se:Ig bl t 4=(Y1 bl).getD t 0:=by rw[yc bl ht,if_pos h16]
   rw[se] at ac
   simp(maxSteps:=4000000) (disch:=first|assumption|omega|(simp -implicitDefEqProofs only[ZA,ZB]<;>first|assumption|omega)|decide) only[t1,t7,t8,d1,d2,mu,a1,a2,a3,x0,x1,x2,x3,l0,l1,l2,l3,iw,ac,st,gp,gw,ad,lw,lwp,lws,LC,R4,CT,Dn,Mu,Zx,Zn,Fz,Z4,Yr,Zy,Zz,Zk,Zm,Zl,Nat.reducePow,Nat.reduceDiv,Nat.reduceMod,Nat.reduceEqDiff,reduceCtorEq,Yu,VW,SF,Nq]
   exact⟨_,_,_,rfl,.inl ⟨rfl,m - 1,by omega,t1',AS,t5',dh,pv,k0.then_put λ_=>by simp,t+1,_,by omega,rfl,SG ..,hsz,how,hfz,λi hi=>by
    rw[Row.st_get]
    by_cases e:t=i
    ·rw[if_pos e,e]
    ·rw[if_neg e];exact hR i (by omega)⟩⟩
  ·have d2:decide (t<16)=false:=Zd h16
   have tn: ∀a q G,0<q->q<32->Yo (LK ZM fs fuel 1) fs fuel (d+1) 27 [ZH a,nI .i64 q] G=.ret (ZH (JH a q)) G:=λa q G h0 h1=>ic (ZM:=ZM) (fs:=fs) (fuel:=fuel) E (k:=1) (n:=d) (by decide) (H:=G) h0 h1
   have sb: ∀j,j<=16-> ∀G,AR (nI .i64 t) (nI .i64 j) G=.val (nI .i64 (t - j)) G:=λj hj G=>Ot (by omega) (by omega) G
   have s15:=sb 15 (by decide);have s2:=sb 2 (by decide);have s7:=sb 7 (by decide);have s16:=sb 16 (by decide)
   have ix: ∀j,j<64-> ∀G,Gu 64 1 (.ptr wb 0) (nI .i64 j) G=.val (.ptr wb (0+j)) G:=λj hj G=>Vd hj wb 0 .i64 G
   have x0:=ix (t - 15) (by omega);have x1:=ix (t - 2) (by omega);have x2:=ix (t - 7) (by omega);have x3:=ix (t - 16) (by omega)
   have iw:=ix t ht
   have ld: ∀j,j<t-> ∀G,ld1 (some (.row R)) j G=.val (ZH ((Y1 bl).getD j 0)) G:=λj hj G=>by
    rw[Qr (by omega),hR j hj]
   have l0:=ld (t - 15) (by omega);have l1:=ld (t - 2) (by omega);have l2:=ld (t - 7) (by omega);have l3:=ld (t - 16) (by omega)
   have st:=xV (r:=R) (b:=wb) (o:=t) (v:=ZH ((Y1 bl).getD t 0)) (H:=H) rfl (by omega) how gT (by omega)
   have nx:=sU bl (t:=t) (by omega) ht
   unfold sg0 sg1 at nx
   simp(maxSteps:=4000000) (disch:=first|assumption|omega|(simp -implicitDefEqProofs only[ZA,ZB]<;>first|assumption|omega)|decide) only[t1,t7,t8,d1,d2,tn,s15,s2,s7,s16,x0,x1,x2,x3,l0,l1,l2,l3,iw,nx,st,gw,ad,lw,R4,Ds,G0,Mu,Zx,Zn,Fz,Z4,Yr,Zy,Zz,Zk,Zm,Zl,Nat.reducePow,Nat.reduceDiv,Nat.reduceMod,Nat.reduceEqDiff,reduceCtorEq,Yu,VW,SF,Nq]
   exact⟨_,_,_,rfl,.inl ⟨rfl,m - 1,by omega,t1',AS,t5',dh,pv,k0.then_put λ_=>by simp,t+1,_,by omega,rfl,SG ..,hsz,how,hfz,λi hi=>by
    rw[Row.st_get]
    by_cases e:t=i
    ·rw[if_pos e,e]
    ·rw[if_neg e];exact hR i (by omega)⟩⟩
 ·have d1:decide (t<64)=false:=Zd ht
  simp(maxSteps:=4000000) (disch:=first|assumption|omega|(simp -implicitDefEqProofs only[ZA,ZB]<;>first|assumption|omega)|decide) only[t1,t7,t8,d1,Zx,Fz,Z4,Yr,Zy,Zz,Zk,Zm,Zl,Nat.reducePow,Nat.reduceDiv,Nat.reduceMod,Nat.reduceEqDiff,reduceCtorEq,Yu,VW,SF,Nq]
  refine⟨_,_,_,rfl,?_⟩
  exact .inr ⟨by simp,rfl,t1',AS,t5',dh,pv,k0,t,R,by omega,by assumption,gw,hsz,how,hfz,hR⟩
theorem Zdf(f g i:UInt32):f&&&g||| ~~~f&&&i=f&&&g^^^ ~~~f&&&i:=by
 apply UInt32.toBitVec_inj.1
 simp only[UInt32.toBitVec_or,UInt32.toBitVec_and,UInt32.toBitVec_xor,UInt32.toBitVec_not]
 ext k hk
 simp only[BitVec.getElem_or,BitVec.getElem_and,BitVec.getElem_xor,BitVec.getElem_not]
 cases f.toBitVec[k]<;>cases g.toBitVec[k]<;>cases i.toBitVec[k]<;>rfl
theorem Zeg(a b d:UInt32):a&&&b|||a&&&d|||b&&&d=a&&&b^^^a&&&d^^^b&&&d:=by
 apply UInt32.toBitVec_inj.1
 simp only[UInt32.toBitVec_or,UInt32.toBitVec_and,UInt32.toBitVec_xor]
 ext k hk
 simp only[BitVec.getElem_or,BitVec.getElem_and,BitVec.getElem_xor]
 cases a.toBitVec[k]<;>cases b.toBitVec[k]<;>cases d.toBitVec[k]<;>rfl
theorem Zb3(f:UInt32)(G:Heap):AR (nI .u32 4294967295) (ZH f) G=.val (ZH (~~~f)) G:=by
 have hf:f.toNat<4294967296:=f.toNat_lt
 have e:(~~~f).toNat=4294967295 - f.toNat:=by rw[UInt32.toNat_not];rfl
 have:=jZ (a:=4294967295) (b:=f.toNat) (by omega) (by decide) G
 rw[<-e] at this;exact this
theorem FR{s:List UInt32}{i:Nat}(h:i<s.length):(s.map ZH).getD i .unk=ZH (s.getD i 0):=by
 rw[Zh,Z1,Zr h,Zh,Zr h];rfl
structure DR3(H0:Heap)(kb wb:Nat)(W h:List UInt32)(v3 v6:AV)(m:Nat)(tm:TM)(H:Heap):Prop where
 heap:H=H0
 t3:Xa tm=v3
 t5:XW tm=.ptr kb 0
 t6:W2 tm=v6
 t7:Wp tm=.ptr wb 0
 i: ∃t,t+m=64∧WO tm=nI .i64 t∧Ye tm=ZH ((Y2 WL W h t).getD 0 0)∧Yi tm=ZH ((Y2 WL W h t).getD 1 0)∧YE tm=ZH ((Y2 WL W h t).getD 2 0)∧XY tm=ZH ((Y2 WL W h t).getD 3 0)∧XQ tm=ZH ((Y2 WL W h t).getD 4 0)∧XZ tm=ZH ((Y2 WL W h t).getD 5 0)∧X7 tm=ZH ((Y2 WL W h t).getD 6 0)∧Wc tm=ZH ((Y2 WL W h t).getD 7 0)
def DRQ(H0:Heap)(kb wb:Nat)(W h:List UInt32)(v3 v6:AV)(o:Out)(tm:TM)(H:Heap):Prop:=o=.exit 2∧DR3 H0 kb wb W h v3 v6 0 tm H
theorem gf{ZM:Lib}{fs:T CF}{fuel:Nat}(E:Env ZM fs fuel){d:Nat}{H0:Heap}{kb wb:Nat}{W h:List UInt32}{v3 v6:AV}{R:Row}(hkb:H0.t.get kb=some (rG 49 1 (WL.map ZH) 0 false true true))(gw:H0.t.get wb=some (.row R))(hsz:R.size=64)(hR: ∀i,i<64->R.get i=ZH (W.getD i 0))(hk1:kb<H0.nx)(hw1:wb<H0.nx)(y f r)(x:X)(m:Nat)(tm:TM)(H:Heap)(hI:DR3 H0 kb wb W h v3 v6 m tm H):
  ∃o tm' H',DA ⟨Yo (LK ZM fs fuel 1) fs fuel (d+1),y,f,fuel,r⟩ tm H x=.ok o tm' H' x∧((o=.normal∧ ∃k,k<m∧DR3 H0 kb wb W h v3 v6 k tm' H')∨(o≠.normal∧DRQ H0 kb wb W h v3 v6 o tm' H')):=by
 obtain⟨rfl,t3,t5,t6,t7,t,kn,t19,t11,t12,t13,t14,iE,t16,t17,t18⟩:=hI
 have AS:=t3;have t5':=t5;have dh:=t6;have pv:=t7
 have Zhi:=t19;have rl:=t11;have Zb4:=t12;have Zhd:=t13;have Zhe:=t14;have Zhf:=iE;have Zhg:=t16;have Zb5:=t17;have Zhh:=t18
 simp only[Pc,N2,R3,MG,Je,Lz,Ix,Jf,Jg,KM,EA] at t5 t7 t11 t12 t13 t14 iE t16 t17 t18 t19
 by_cases ht:t<64
 ·have d1:decide (t<64)=true:=Zg ht
  have lwk:=Z6 (n:=H.nx) (b:=kb) (by omega)
  have lww:=Z6 (n:=H.nx) (b:=wb) (by omega)
  have ad:=λG=>WM (a:=t) (b:=1) (by omega) G
  have tn: ∀a q G,0<q->q<32->Yo (LK ZM fs fuel 1) fs fuel (d+1) 27 [ZH a,nI .i64 q] G=.ret (ZH (JH a q)) G:=λa q G h0 h1=>ic (ZM:=ZM) (fs:=fs) (fuel:=fuel) E (k:=1) (n:=d) (by decide) (H:=G) h0 h1
  have ix: ∀b G,Gu 64 1 (.ptr b 0) (nI .i64 t) G=.val (.ptr b (0+t)) G:=λb G=>Vd ht b 0 .i64 G
  have lk: ∀G,ld1 (some (rG 49 1 (WL.map ZH) 0 false true true)) t G=.val (ZH (WL.getD t 0)) G:=λG=>by
   rw[ZX (by rw[Zi];exact ht),FR ht]
  have lw: ∀G,ld1 (some (.row R)) t G=.val (ZH (W.getD t 0)) G:=λG=>by rw[Qr (by omega),hR t ht]
  obtain⟨v,hv⟩: ∃v,Y2 WL W h t=v:=⟨_,rfl⟩
  have hnx:Y2 WL W h (t+1)=xN v (WL.getD t 0) (W.getD t 0):=by rw[<-hv];rfl
  rw[hv] at t11 t12 t13 t14 iE t16 t17 t18
  obtain⟨P,hP⟩: ∃P,t1F v (WL.getD t 0) (W.getD t 0)=P:=⟨_,rfl⟩
  obtain⟨Q,hQ⟩: ∃Q,t2F v=Q:=⟨_,rfl⟩
  have hnx2:xN v (WL.getD t 0) (W.getD t 0)=[P+Q,v.getD 0 0,v.getD 1 0,v.getD 2 0,v.getD 3 0+P,v.getD 4 0,v.getD 5 0,v.getD 6 0]:=by rw[<-hP,<-hQ];rfl
  unfold t1F at hP
  unfold t2F at hQ
  simp(maxSteps:=4000000) (disch:=first|assumption|omega|(simp -implicitDefEqProofs only[ZA,ZB]<;>first|assumption|omega)|decide) only[t5,t7,t11,t12,t13,t14,iE,t16,t17,t18,t19,d1,ad,tn,ix,lk,lw,hP,hQ,hkb,gw,lwk,lww,R4,Zdf,Zeg,Zb3,Ds,rO,xD,Mu,Zx,Zn,DA,Z4,Yr,Zy,Zz,Zk,Zm,Zl,Nat.reducePow,Nat.reduceDiv,Nat.reduceMod,Nat.reduceEqDiff,reduceCtorEq,Yu,Nq,Il,yC]
  refine⟨_,_,_,rfl,?_⟩
  exact .inl ⟨rfl,m - 1,by omega,rfl,AS,t5',dh,pv,t+1,by omega,rfl,by rw[hnx,hnx2];rfl,by rw[hnx,hnx2];rfl,by rw[hnx,hnx2];rfl,by rw[hnx,hnx2];rfl,by rw[hnx,hnx2];rfl,by rw[hnx,hnx2];rfl,by rw[hnx,hnx2];rfl,by rw[hnx,hnx2];rfl⟩
 ·have d1:decide (t<64)=false:=Zd ht
  simp(maxSteps:=4000000) (disch:=first|assumption|omega|(simp -implicitDefEqProofs only[ZA,ZB]<;>first|assumption|omega)|decide) only[t19,d1,Zx,DA,Z4,Yr,Zy,Zz,Zk,Zm,Zl,Nat.reducePow,Nat.reduceDiv,Nat.reduceMod,Nat.reduceEqDiff,reduceCtorEq,Yu,Nq,Il,yC]
  refine⟨_,_,_,rfl,?_⟩
  exact .inr ⟨by simp,rfl,rfl,AS,t5',dh,pv,t,by omega,Zhi,rl,Zb4,Zhd,Zhe,Zhf,Zhg,Zb5,Zhh⟩
theorem ZcA(h v:List UInt32):(NQ h v 8).map ZH=[ZH (h.getD 0 0+v.getD 0 0),ZH (h.getD 1 0+v.getD 1 0),ZH (h.getD 2 0+v.getD 2 0),ZH (h.getD 3 0+v.getD 3 0),ZH (h.getD 4 0+v.getD 4 0),ZH (h.getD 5 0+v.getD 5 0),ZH (h.getD 6 0+v.getD 6 0),ZH (h.getD 7 0+v.getD 7 0)]:=rfl
theorem mW{ZM:Lib}{fs:T CF}{fuel:Nat}(E:Env ZM fs fuel){n:Nat}{h:List UInt32}{bl:List UInt8}{pb po:Nat}{cp:Option Nat}{rp:Row}{H:Heap}(hro:H.ro<=H.nx)(hh:h.length=8)(hb:Bytes H pb po cp bl rp)(hbl:bl.length=64)(hpb:pb<H.nx):
  ∃H',Yo (LK ZM fs fuel 1) fs fuel (n+2) 17 [.agg (h.map ZH),.slice pb po 64 cp,.agg (WL.map ZH)] H=.ret (.agg ((NS WL h bl).map ZH)) H'∧ZE H H' []:=by
 rw[YM (YW E.n17 (.inl (by decide)) _ _) E.f17]
 have hH:=hh
 obtain⟨H1,hH1⟩: ∃G,H.new (rG 51 1 (h.map ZH) 0 false true true)=G:=⟨_,rfl⟩
 have J8:H1.nx=H.nx+1:=by rw[<-hH1];rfl
 have k1:ZE H H1 []:=by rw[<-hH1];exact ZE.new _ _ _
 have bx1:=Vt (l:=h.map ZH) (by rw[Zi,hh];decide) 51 H
 rw[hH1] at bx1
 obtain⟨H2,hH2⟩: ∃G,H1.new (rG 49 1 (WL.map ZH) 0 false true true)=G:=⟨_,rfl⟩
 have nx2:H2.nx=H.nx+2:=by rw[<-hH2];show H1.nx+1=_;rw[J8]
 have k2:ZE H1 H2 []:=by rw[<-hH2];exact ZE.new _ _ _
 have bx2:=Vt (l:=WL.map ZH) (by rw[Zi];decide) 49 H1
 rw[hH2] at bx2
 obtain⟨H3,hH3⟩: ∃G,H2.new (rG 51 1 [nI .u32 0,nI .u32 0,nI .u32 0,nI .u32 0,nI .u32 0,nI .u32 0,nI .u32 0,nI .u32 0] 0 false true true)=G:=⟨_,rfl⟩
 have bJ:H3.nx=H.nx+3:=by rw[<-hH3];show H2.nx+1=_;rw[nx2]
 have k3:ZE H2 H3 []:=by rw[<-hH3];exact ZE.new _ _ _
 obtain⟨H4,lX⟩: ∃G,H3.new (.row (z64 49))=G:=⟨_,rfl⟩
 have nx4:H4.nx=H.nx+4:=by rw[<-lX];show H3.nx+1=_;rw[bJ]
 have k4:ZE H3 H4 []:=by rw[<-lX];exact ZE.new _ _ _
 have kp:ZE H H4 []:=((k1.trans' k2).trans' k3).trans' k4
 have g1:H4.t.get H.nx=some (rG 51 1 (h.map ZH) 0 false true true):=by
  rw[k4.get _ (by omega) (by simp),k3.get _ (by omega) (by simp),k2.get _ (by omega) (by simp),<-hH1];exact Z3 rfl _
 have g2:H4.t.get (H.nx+1)=some (rG 49 1 (WL.map ZH) 0 false true true):=by
  rw[k4.get _ (by omega) (by simp),k3.get _ (by omega) (by simp),<-hH2];exact Z3 J8 _
 have g3:H4.t.get (H.nx+2)=some (rG 51 1 [nI .u32 0,nI .u32 0,nI .u32 0,nI .u32 0,nI .u32 0,nI .u32 0,nI .u32 0,nI .u32 0] 0 false true true):=by
  rw[k4.get _ (by omega) (by simp),<-hH3];exact Z3 nx2 _
 have g4:H4.t.get (H.nx+3)=some (.row (z64 49)):=by rw[<-lX];exact Z3 bJ _
 have hro4:H4.ro<=H.nx:=by rw[kp.ro];exact hro
 have hb4:Bytes H4 pb po cp bl rp:=⟨by rw[kp.get pb hpb (by simp)];exact hb.at_,hb.sz,hb.fits,hb.get,hb.cap⟩
 simp(maxSteps:=4000000) (disch:=first|assumption|omega|(simp -implicitDefEqProofs only[ZA,ZB]<;>first|assumption|omega)|decide) only[rD,hH3,lX,bx1,bx2,J8,nx2,bJ,Vv,c17,Z4,Yr,Zy,Zz,Zk,Zm,Zl,Nat.reducePow,Nat.reduceDiv,Nat.reduceMod,Nat.reduceEqDiff,reduceCtorEq,Yu,Nq,yC,TB6]
 generalize hL:Wu (Fz _) fuel _ _ _=L
 obtain⟨o,Pi,H5,rfl,_,rfl,t1,t3,t5,t6,t7,k5,t,Rw,kn,t8,gw,hsz,how,hfz,hR⟩:=X9 (P:=λT=>DW H4 (H.nx+3) pb po cp bl (.ptr H.nx 0) (.ptr (H.nx+1) 0) (.ptr (H.nx+2) 0) 64 T H4) (Q:=DQ H4 (H.nx+3) pb po cp bl (.ptr H.nx 0) (.ptr (H.nx+1) 0) (.ptr (H.nx+2) 0))
  (λT hi=>Wv (DW H4 (H.nx+3) pb po cp bl (.ptr H.nx 0) (.ptr (H.nx+1) 0) (.ptr (H.nx+2) 0)) (DQ H4 (H.nx+3) pb po cp bl (.ptr H.nx 0) (.ptr (H.nx+1) 0) (.ptr (H.nx+2) 0)) (λm tm H' h=>gi E hb4 hbl (by omega) (by omega) (by omega) (by omega) _ _ _ _ m tm H' h) fuel 64 T H4 (by have:=E.big;omega) hi) hL
  (by exact⟨rfl,rfl,rfl,rfl,rfl,ZE.refl _ _,0,z64 49,rfl,rfl,g4,rfl,rfl,rfl,λi hi=>by omega⟩)
 obtain rfl:t=64:=by omega
 have p1:H5.t.get H.nx=some (rG 51 1 (h.map ZH) 0 false true true):=by rw[k5.get _ (by omega) (by simp)];exact g1
 have p2:H5.t.get (H.nx+1)=some (rG 49 1 (WL.map ZH) 0 false true true):=by rw[k5.get _ (by omega) (by simp)];exact g2
 have p3:H5.t.get (H.nx+2)=some (rG 51 1 [nI .u32 0,nI .u32 0,nI .u32 0,nI .u32 0,nI .u32 0,nI .u32 0,nI .u32 0,nI .u32 0] 0 false true true):=by rw[k5.get _ (by omega) (by simp)];exact g3
 have n5:=k5.nx
 have lh: ∀j,j<8-> ∀G,ld1 (some (rG 51 1 (h.map ZH) 0 false true true)) j G=.val (ZH (h.getD j 0)) G:=λj hj G=>by
  rw[ZX (by rw[Zi,hh];exact hj),FR (by rw[hh];exact hj)]
 have lh0:=lh 0 (by decide)
 have lh1:=lh 1 (by decide)
 have lh2:=lh 2 (by decide)
 have lh3:=lh 3 (by decide)
 have lh4:=lh 4 (by decide)
 have lh5:=lh 5 (by decide)
 have lh6:=lh 6 (by decide)
 have lh7:=lh 7 (by decide)
 have bF:=Z6 (n:=H5.nx) (b:=H.nx) (by omega)
 simp only[Od,TB,Pc,Nd,N2] at t1 t3 t5 t6 t7
 simp(maxSteps:=4000000) (disch:=first|assumption|omega|(simp -implicitDefEqProofs only[ZA,ZB]<;>first|assumption|omega)|decide) only[t1,t3,t5,t6,t7,p1,lh0,lh1,lh2,lh3,lh4,lh5,lh6,lh7,bF,R4,Vd,Zn,Nat.reduceLT,Nat.reduceAdd,c17,Z4,Yr,Zy,Zz,Zk,Zm,Zl,Nat.reducePow,Nat.reduceDiv,Nat.reduceMod,Nat.reduceEqDiff,reduceCtorEq,Yu,Nq,yC,TB6]
 generalize hL:Wu (DA _) fuel _ _ _=L
 obtain⟨o,uW,H6,rfl,_,rfl,rfl,t3,t5,t6,t7,t,kn,t19,t11,t12,t13,t14,iE,t16,t17,t18⟩:=X9 (P:=λT=>DR3 H5 (H.nx+1) (H.nx+3) (Y1 bl) h (.ptr H.nx 0) (.ptr (H.nx+2) 0) 64 T H5) (Q:=DRQ H5 (H.nx+1) (H.nx+3) (Y1 bl) h (.ptr H.nx 0) (.ptr (H.nx+2) 0))
  (λT hi=>Wv (DR3 H5 (H.nx+1) (H.nx+3) (Y1 bl) h (.ptr H.nx 0) (.ptr (H.nx+2) 0)) (DRQ H5 (H.nx+1) (H.nx+3) (Y1 bl) h (.ptr H.nx 0) (.ptr (H.nx+2) 0)) (λm tm H' h=>gf E p2 gw hsz hR (by omega) (by omega) _ _ _ _ m tm H' h) fuel 64 T H5 (by have:=E.big;omega) hi) hL
  (by exact⟨rfl,t3,t5,t6,t7,0,rfl,rfl,rfl,rfl,rfl,rfl,rfl,rfl,rfl,rfl⟩)
 obtain rfl:t=64:=by omega
 simp only[TB,Nd,R3,MG,Je,Lz,Ix,Jf,Jg,KM] at t3 t6 t11 t12 t13 t14 iE t16 t17 t18
 have hval:NS WL h bl=NQ h (Y2 WL (Y1 bl) h 64) 8:=rfl
 rw[hval,ZcA]
 have st:=PJ (n:=8) (b:=H.nx+2) (l:=[nI .u32 0,nI .u32 0,nI .u32 0,nI .u32 0,nI .u32 0,nI .u32 0,nI .u32 0,nI .u32 0]) (vs:=[ZH (h.getD 0 0+(Y2 WL (Y1 bl) h 64).getD 0 0),ZH (h.getD 1 0+(Y2 WL (Y1 bl) h 64).getD 1 0),ZH (h.getD 2 0+(Y2 WL (Y1 bl) h 64).getD 2 0),ZH (h.getD 3 0+(Y2 WL (Y1 bl) h 64).getD 3 0),ZH (h.getD 4 0+(Y2 WL (Y1 bl) h 64).getD 4 0),ZH (h.getD 5 0+(Y2 WL (Y1 bl) h 64).getD 5 0),ZH (h.getD 6 0+(Y2 WL (Y1 bl) h 64).getD 6 0),ZH (h.getD 7 0+(Y2 WL (Y1 bl) h 64).getD 7 0)]) (H:=H6) rfl rfl (by decide) (by rw[k5.ro];omega) 51 1 false true
 have bd: ∀G,RW [nI .u32 0,nI .u32 0,nI .u32 0,nI .u32 0,nI .u32 0,nI .u32 0,nI .u32 0,nI .u32 0] [(0,1,ZH (h.getD 0 0+(Y2 WL (Y1 bl) h 64).getD 0 0)),(1,1,ZH (h.getD 1 0+(Y2 WL (Y1 bl) h 64).getD 1 0)),(2,1,ZH (h.getD 2 0+(Y2 WL (Y1 bl) h 64).getD 2 0)),(3,1,ZH (h.getD 3 0+(Y2 WL (Y1 bl) h 64).getD 3 0)),(4,1,ZH (h.getD 4 0+(Y2 WL (Y1 bl) h 64).getD 4 0)),(5,1,ZH (h.getD 5 0+(Y2 WL (Y1 bl) h 64).getD 5 0)),(6,1,ZH (h.getD 6 0+(Y2 WL (Y1 bl) h 64).getD 6 0)),(7,1,ZH (h.getD 7 0+(Y2 WL (Y1 bl) h 64).getD 7 0))] G=.val (.agg [ZH (h.getD 0 0+(Y2 WL (Y1 bl) h 64).getD 0 0),ZH (h.getD 1 0+(Y2 WL (Y1 bl) h 64).getD 1 0),ZH (h.getD 2 0+(Y2 WL (Y1 bl) h 64).getD 2 0),ZH (h.getD 3 0+(Y2 WL (Y1 bl) h 64).getD 3 0),ZH (h.getD 4 0+(Y2 WL (Y1 bl) h 64).getD 4 0),ZH (h.getD 5 0+(Y2 WL (Y1 bl) h 64).getD 5 0),ZH (h.getD 6 0+(Y2 WL (Y1 bl) h 64).getD 6 0),ZH (h.getD 7 0+(Y2 WL (Y1 bl) h 64).getD 7 0)]) G:=λ_=>rfl
 have rv:=λk=>xK (n:=8) (e:=51) (sz:=1) (l:=[ZH (h.getD 0 0+(Y2 WL (Y1 bl) h 64).getD 0 0),ZH (h.getD 1 0+(Y2 WL (Y1 bl) h 64).getD 1 0),ZH (h.getD 2 0+(Y2 WL (Y1 bl) h 64).getD 2 0),ZH (h.getD 3 0+(Y2 WL (Y1 bl) h 64).getD 3 0),ZH (h.getD 4 0+(Y2 WL (Y1 bl) h 64).getD 4 0),ZH (h.getD 5 0+(Y2 WL (Y1 bl) h 64).getD 5 0),ZH (h.getD 6 0+(Y2 WL (Y1 bl) h 64).getD 6 0),ZH (h.getD 7 0+(Y2 WL (Y1 bl) h 64).getD 7 0)]) (fz:=0) (sm:=false) (own:=true) (ex:=true) rfl k
 simp(maxSteps:=4000000) (disch:=first|assumption|omega|(simp -implicitDefEqProofs only[ZA,ZB]<;>first|assumption|omega)|decide) only[t3,t6,t11,t12,t13,t14,iE,t16,t17,t18,p1,p3,lh0,lh1,lh2,lh3,lh4,lh5,lh6,lh7,st,rv,bd,Tq,Ym,YY,Mu,Vd,SG,Zn,Nat.reduceLT,Nat.reduceAdd,c17,Z4,Yr,Zy,Zz,Zk,Zm,Zl,Nat.reducePow,Nat.reduceDiv,Nat.reduceMod,Nat.reduceEqDiff,reduceCtorEq,Yu,Nq,yC,TB6]
 refine⟨_,rfl,?_⟩
 exact(kp.trans k5 λc h1 h2=>by simp at h1;omega).then_put λh=>by omega
theorem ZfE{ZM:Lib}{fs:T CF}{fuel:Nat}(E:Env ZM fs fuel){k n:Nat}(hk:2<=k){h:List UInt32}{bl:List UInt8}{pb po:Nat}{cp:Option Nat}{rp:Row}{H:Heap}(hro:H.ro<=H.nx)(hh:h.length=8)(hb:Bytes H pb po cp bl rp)(hbl:bl.length=64)(hpb:pb<H.nx):
  Yo (LK ZM fs fuel k) fs fuel (n+1) 17 [.agg (h.map ZH),.slice pb po 64 cp,.agg (WL.map ZH)] H=.ret (.agg ((NS WL h bl).map ZH)) H:=by
 obtain⟨H',e,g⟩:=mW E (n:=898) (H:=H) hro hh hb hbl hpb
 exact LD (r:=1) rfl rfl e g (Jr _ _) hk
section
attribute [local irreducible] Y1
variable {lib:Nat->List AV->Heap->Option CR} {fs:T CF} {fuel:Nat}
def BV(H:Heap)(v:AV)(l:List UInt8):Prop:=
 (l=[]∧(v=.nils∨ ∃b o c,v=.slice b o 0 c))∨(l≠[]∧ ∃b o c r,v=.slice b o l.length c∧Bytes H b o c l r∧b<H.nx)
theorem BV.len{H:Heap}{v:AV}{l:List UInt8}(h:BV H v l)(H':Heap):Ko v H'=.val (nI .i64 l.length) H':=by
 rcases h with⟨rfl,rfl|⟨b,o,c,rfl⟩⟩|⟨_,b,o,c,r,rfl,_⟩
 ·exact Gw H'
 ·exact Z5 ..
 ·exact Z5 ..
theorem Bytes.take{H:Heap}{b o n:Nat}{c:Option Nat}{l:List UInt8}{r:Row}(h:Bytes H b o c l r)(hn:n<=l.length):Bytes H b o (Na c 0) (l.take n) r:=by
 have hl:(l.take n).length=n:=by rw[Ys,Ul hn]
 refine⟨h.at_,h.sz,by have:=h.fits;omega,λi hi=>?_,λk hk=>?_⟩
 ·rw[h.get i (by omega),Zh,Zh,Vg (by omega)]
 ·cases c with
  |none=>cases hk
  |some c=>
   cases hk
   have:=h.cap c rfl
   show(l.take n).length<=c - 0∧o+(c - 0)<=r.size
   omega
theorem Bytes.drop{H:Heap}{b o n:Nat}{c:Option Nat}{l:List UInt8}{r:Row}(h:Bytes H b o c l r)(hn:n<=l.length):Bytes H b (o+n) (Na c n) (l.drop n) r:=by
 have hl:(l.drop n).length=l.length - n:=ZV ..
 have hf:=h.fits
 refine⟨h.at_,h.sz,by omega,λi hi=>?_,λk hk=>?_⟩
 ·rw[UY,h.get (n+i) (by omega),Zh,Zh,Vj]
 ·cases c with
  |none=>cases hk
  |some c=>
   cases hk
   have:=h.cap c rfl
   show(l.drop n).length<=c - n∧o+n+(c - n)<=r.size
   omega
theorem BV.keep{H H':Heap}{S:List Nat}{v:AV}{l:List UInt8}(h:BV H v l)(k:ZE H H' S)(hS: ∀b o n c,v=.slice b o n c->b∉S):BV H' v l:=by
 rcases h with h|⟨hne,b,o,c,r,rfl,hb,hlt⟩
 ·exact .inl h
 ·exact .inr ⟨hne,b,o,c,r,rfl,hb.keep k hlt (hS _ _ _ _ rfl),ZI hlt k.nx⟩
theorem uo{H:Heap}{b o n:Nat}{c:Option Nat}{l:List UInt8}{r:Row}(h:Bytes H b o c l r)(hb:b<H.nx)(hn:n<=l.length)(k:IntKind):
  ∃v H',Mb 1 (.slice b o l.length c) (some (nI k n)) none H=.val v H'∧BV H' v (l.drop n)∧ZE H H' []∧ ∀b' o' m c',v=.slice b' o' m c'->b'=b∨H.nx<=b':=by
 have hcap:l.length<=Ta r o c:=by
  cases c with
  |none=>
   show l.length<=cond (Nat.beq r.sz 1) (r.size - o) _
   rw[h.sz];have:=h.fits;show l.length<=r.size - o;omega
  |some k=>exact(h.cap k rfl).1
 have hs:HC r 1 c=true:=by
  cases c with
  |none=>show Nat.beq r.sz 1=true;rw[h.sz];rfl
  |some c=>rfl
 have e:Mb 1 (.slice b o l.length c) (some (nI k n)) none H=cond (Nat.beq n (Ta r o c)) (Option.rec (.val (.slice H.nx 0 (l.length - n) none) ⟨Nat.succ H.nx,H.t,H.ro⟩) (λ_=>.val (.slice b o (l.length - n) (some 0)) H) c) (.val (.slice b (o+n) (l.length - n) (Na c n)) H):=by
  show X6 H b _=_
  unfold X6
  rw[h.at_]
  show ZR (HC r 1 c) (ZR (Nat.ble n l.length) (ZR (Nat.ble n (Ta r o c)) (cond (Nat.beq n (Ta r o c)) _ (.val (.slice b (o+n*1) (l.length - n) _) H))))=_
  rw[hs,Zj hn,Zj (YN hn hcap),Y0]
  cases c<;>rfl
 rw[e,Yx]
 by_cases hq:n=Ta r o c
 ·rw[Zg hq]
  have h0:l.length - n=0:=by omega
  cases c with
  |none=>
   refine⟨_,_,rfl,.inl ⟨Sq (by omega),.inr ⟨_,_,_,by rw[h0]⟩⟩,⟨Uv _,rfl,λ_ _ _=>rfl⟩,λb' o' m c' hv=>?_⟩
   cases hv;exact .inr (Zq _)
  |some c=>
   refine⟨_,_,rfl,.inl ⟨Sq (by omega),.inr ⟨_,_,_,by rw[h0]⟩⟩,ZE.refl _ _,λb' o' m c' hv=>?_⟩
   cases hv;exact .inl rfl
 ·rw[Zd hq]
  refine⟨_,_,rfl,?_,ZE.refl _ _,λb' o' m c' hv=>?_⟩
  ·have hl:(l.drop n).length=l.length - n:=ZV ..
   by_cases h0:l.drop n=[]
   ·exact .inl ⟨h0,.inr ⟨_,_,_,by rw[<-hl,h0];rfl⟩⟩
   ·exact .inr ⟨h0,_,_,_,r,by rw[hl],h.drop hn,hb⟩
  ·cases hv;exact .inl rfl
end
section
attribute [local irreducible] Y1
variable {lib:Nat->List AV->Heap->Option CR} {fs:T CF} {fuel:Nat}
theorem nL{H:Heap}{b o n:Nat}{c:Option Nat}{l:List UInt8}{r:Row}(h:Bytes H b o c l r)(h0:0<n)(hn:n<=l.length)(k:IntKind):
  Mb 1 (.slice b o l.length c) none (some (nI k n)) H=.val (.slice b o n (Na c 0)) H:=by
 have hcap:l.length<=Ta r o c:=by
  cases c with
  |none=>
   show l.length<=cond (Nat.beq r.sz 1) (r.size - o) _
   rw[h.sz];have:=h.fits;show l.length<=r.size - o;omega
  |some k=>exact(h.cap k rfl).1
 have hs:HC r 1 c=true:=by
  cases c with
  |none=>show Nat.beq r.sz 1=true;rw[h.sz];rfl
  |some c=>rfl
 show X6 H b _=_
 unfold X6
 rw[h.at_]
 show ZR (HC r 1 c) (ZR (Nat.ble n (Ta r o c)) (ZR (Nat.ble 0 n) (ZR (Nat.ble 0 (Ta r o c)) (cond (Nat.beq 0 (Ta r o c)) _ (.val (.slice b (o+0*1) (n - 0) _) H)))))=_
 rw[hs,Zj (YN hn hcap),Zj (Yv _),Zj (Yv _),Yx,Zd (by omega),UZ]
 cases c<;>rfl
def mL(P:Program)(a:AV)(args:List AV)(H:Heap):OR:=match a with
 |.func f p q=>.oth (.call f (p++(args++q)) H)
 |.meth n r=>QN r .fail λu v=>J4 P n u λg=>.oth (.call g (v::args) H)
 |.yield b=>.oth (.yield b args H)
 |_=>.fail
theorem oI(x:Z0)(P:Program)(args:List Z0)(tm:TM)(H:Heap):SK x P args tm H=mL P (x tm) (evs tm args) H:=rfl
theorem wz(P:Program)(f:Nat)(p q args:List AV)(H:Heap):mL P (.func f p q) args H=.oth (.call f (p++(args++q)) H):=rfl
def Vb(K h:List UInt32)(l:List UInt8):Nat->List UInt32
 |0=>h
 |t+1=>NS K (Vb K h l t) ((l.drop (64*t)).take 64)
theorem RU(K h:List UInt32)(l:List UInt8)(hh:h.length=8): ∀t,(Vb K h l t).length=8
 |0=>hh
 |_+1=>Ql ..
structure L5(sb e:Nat)(K h:List UInt32)(l:List UInt8)(rest:List AV)(H0:Heap)(t:Nat)(tm:TM)(H:Heap):Prop where
 t1:YL tm=.func 56 [.ptr sb 0] []
 t0:BV H (ZO tm) (l.drop (64*t))
 far: ∀b o n c,ZO tm=.slice b o n c->b≠sb
 keep:ZE H0 H [sb]
 row: ∃r,Own H sb e ((Vb K h l t).map ZH++rest) r
theorem fk{n:Nat}(hl: ∀l H,lib 84 l H=none)(hl2: ∀l H,lib 69 l H=none)(hl3: ∀l H,lib 68 l H=none)(hl4: ∀l H,lib 56 l H=none)(hf:fs.get 84=some yO)(hf2:fs.get 69=some x6)(hf3:fs.get 68=some mf)(uV:fs.get 56=some mH)(hF:64<fuel)
  {sb e:Nat}{K h:List UInt32}{l:List UInt8}{rest:List AV}{H0:Heap}{rK:Row}(hK:H0.t.get 3=some (.row rK))(cK:Cells rK (K.map ZH))(nK:K.length=64)(h7:3<H0.nx)(gJ:3≠sb)(hh:h.length=8)(hsb:sb<H0.nx)(hro:H0.ro<=H0.nx)
  {rng:AV->(List AV->Heap->CR)->TM->Heap->X->WS}{yld:Nat->List AV->Heap->CR}(x:X)
  (t:Nat)(tm:TM)(H:Heap)(ht:t<l.length/64)(hi:L5 sb e K h l rest H0 t tm H): ∃tm' H',FE ⟨Yo lib fs fuel (n+4),yld,rng,fuel,false⟩ tm H x=.ok .normal tm' H' x∧L5 sb e K h l rest H0 (t+1) tm' H':=by
 obtain⟨r,own⟩:=hi.row
 have i1:=hi.t1;have i0:=hi.t0;have far:=hi.far
 simp only[Od,Ud] at i1 i0 far
 have hlen:64<=(l.drop (64*t)).length:=by rw[ZV];omega
 have hne:l.drop (64*t)≠[]:=λe=>by rw[e] at hlen;simp at hlen
 rcases i0 with⟨h0,_⟩|⟨_,b,o,c,rb,e0,hb,hlt⟩
 ·exact absurd h0 hne
 have hbs:=far _ _ _ _ e0
 have d1:decide (64<=(l.drop (64*t)).length)=true:=Zg hlen
 have lv: ∀H',Ko (.slice b o (l.drop (64*t)).length c) H'=.val (nI .i64 (l.drop (64*t)).length) H':=λH'=>Z5 ..
 have sl:Mb 1 (.slice b o (l.drop (64*t)).length c) none (some (nI .i64 64)) H=.val (.slice b o 64 (Na c 0)) H:=nL hb (by omega) hlen _
 have ol:=RU K h l hh t
 have nx0:=hi.keep.nx
 obtain⟨H1,e1,k1,r1,QS⟩:=j8 (n:=n) (fuel:=fuel) hl hl2 hl3 hl4 hf hf2 hf3 uV hF (K:=K) (by rw[hi.keep.get 3 h7 (by simpa using gJ)];exact hK) cK nK (ZI h7 nx0) gJ own ol (ZI hsb nx0) (hb.take hlen)
  (by rw[Ys];omega) hlt (by rw[hi.keep.ro];omega)
 obtain⟨v2,H2,e2,bv2,k2,ZaK⟩:=uo (n:=64) (hb.keep k1 hlt (by simpa using hbs)) (ZI hlt k1.nx) hlen .i64
 have app:([.ptr sb 0]:List AV)++([.slice b o 64 (Na c 0)]++[])=[.ptr sb 0,.slice b o 64 (Na c 0)]:=rfl
 simp only[FE,i1,e0,lv,d1,Wn,Oj,Xv,Uw,sl,oI,wz,app,e1,e2,XF,XE,XJ,Wm,XO,Yn,XC,Xm,Xf,X2,XI,XP,XR,Xq,Y5,Y9,Yp,Yw,Xs,V4,TC,Vc,Wj,WN,WD,WB,XK,WJ,WC,WF,WG,XS,WH,WI,XV,WA,Vl,WE,XU,Xk,N8.g00,N8.g01,N8.g02,N8.g03,N8.g04,N8.g05,N8.g06,N8.g07,N8.g10,N8.g11,N8.g12,N8.g13,N8.g14,N8.g15,N8.g16,N8.g17,N8.g20,N8.g21,N8.g22,N8.g23,N8.g24,N8.g25,N8.g26,N8.g27,N8.g30,N8.g31,N8.g32,N8.g33,N8.g34,N8.g35,N8.g36,N8.g37,N8.g40,N8.g41,N8.g42,N8.g43,N8.g44,N8.g45,N8.g46,N8.g47,N8.g50,N8.g51,N8.g52,N8.g53,N8.g54,N8.g55,N8.g56,N8.g57,N8.g60,N8.g61,N8.g62,N8.g63,N8.g64,N8.g65,N8.g66,N8.g67,N8.g70,N8.g71,N8.g72,N8.g73,N8.g74,N8.g75,N8.g76,N8.g77,XB,XT,Xt,WW,X3,X4,WV,X5,Xb,WX,WU,Z5,Xu,Xj,UB,UC,VN,UA,Zn,Ud,Od,Pc,Nd,N2,Kh,Ji,Nu,R3,MG,Hu,Ik,Hv,Fg,F9,E5,KR,M1,IJ,IK]
 refine⟨_,_,rfl,i1,?_,?_,?_,r1,?_⟩
 ·show BV H2 v2 (l.drop (64*(t+1)))
  rw[show 64*(t+1)=64*t+64 by omega,<-SW]
  exact bv2
 ·intro b' o' m c' hv
  have hv:v2=.slice b' o' m c':=hv
  rcases ZaK b' o' m c' hv with rfl|h3
  ·exact hbs
  ·have:=k1.nx;omega
 ·exact(hi.keep.trans k1 λc hc _=>hc).trans k2 λc hc _=>by simp at hc
 ·have hlt1:sb<H1.nx:=by have:=k1.nx;omega
  exact⟨by rw[k2.get sb hlt1 (by simp)];exact QS.at_,QS.elem,QS.sz,QS.own,QS.fz,QS.sm,QS.cells,by rw[k2.ro];exact QS.ro⟩
end
section
attribute [local irreducible] Y1
variable {lib:Nat->List AV->Heap->Option CR} {fs:T CF} {fuel:Nat}
theorem fj{sb e:Nat}{K h:List UInt32}{l:List UInt8}{rest:List AV}{H0:Heap}(c:Ctx)(x:X)(tm:TM)(H:Heap)(hi:L5 sb e K h l rest H0 (l.length/64) tm H):
  ∃tm' H',FE c tm H x=.ok (.exit 0) tm' H' x∧L5 sb e K h l rest H0 (l.length/64) tm' H':=by
 have i1:=hi.t1;have i0:=hi.t0;have far:=hi.far
 simp only[Od,Ud] at i1 i0 far
 have hlen:(l.drop (64*(l.length/64))).length<64:=by rw[ZV];omega
 have d1:decide (64<=(l.drop (64*(l.length/64))).length)=false:=Zd (by omega)
 have lv:=λH'=>i0.len H'
 simp only[FE,lv,d1,Wn,XF,XE,XJ,Wm,XO,Yn,XC,Xm,Xf,X2,XI,XP,XR,Xq,Y5,Y9,Yp,Yw,Xs,V4,TC,Vc,Wj,WN,WD,WB,XK,WJ,WC,WF,WG,XS,WH,WI,XV,WA,Vl,WE,XU,Xk,N8.g00,N8.g01,N8.g02,N8.g03,N8.g04,N8.g05,N8.g06,N8.g07,N8.g10,N8.g11,N8.g12,N8.g13,N8.g14,N8.g15,N8.g16,N8.g17,N8.g20,N8.g21,N8.g22,N8.g23,N8.g24,N8.g25,N8.g26,N8.g27,N8.g30,N8.g31,N8.g32,N8.g33,N8.g34,N8.g35,N8.g36,N8.g37,N8.g40,N8.g41,N8.g42,N8.g43,N8.g44,N8.g45,N8.g46,N8.g47,N8.g50,N8.g51,N8.g52,N8.g53,N8.g54,N8.g55,N8.g56,N8.g57,N8.g60,N8.g61,N8.g62,N8.g63,N8.g64,N8.g65,N8.g66,N8.g67,N8.g70,N8.g71,N8.g72,N8.g73,N8.g74,N8.g75,N8.g76,N8.g77,XB,XT,Xt,WW,X3,X4,WV,X5,Xb,WX,WU,Z5,Xu,Xj,UB,UC,VN,UA,Zn,Ud,Od,Pc,Nd,N2,Kh,Ji,Nu,R3,MG,Hu,Ik,Hv,Fg,F9,E5,KR,M1,IJ,IK]
 exact⟨_,_,rfl,i1,i0,far,hi.keep,hi.row⟩
theorem Dz{n:Nat}(hl: ∀l H,lib 84 l H=none)(hl2: ∀l H,lib 69 l H=none)(hl3: ∀l H,lib 68 l H=none)(hl4: ∀l H,lib 56 l H=none)(hf:fs.get 84=some yO)(hf2:fs.get 69=some x6)(hf3:fs.get 68=some mf)(uV:fs.get 56=some mH)(hF:64<fuel)(hl5: ∀l H,lib 55 l H=none)(mh:fs.get 55=some iY)
  {sb e:Nat}{K h:List UInt32}{l:List UInt8}{v:AV}{rest:List AV}{H:Heap}{rK r:Row}(hlF:l.length/64<fuel)(hK:H.t.get 3=some (.row rK))(cK:Cells rK (K.map ZH))(nK:K.length=64)(h7:3<H.nx)(gJ:3≠sb)(hh:h.length=8)(hsb:sb<H.nx)(hro:H.ro<=H.nx)
  (hv:BV H v l)(far: ∀b o n c,v=.slice b o n c->b≠sb)(own:Own H sb e (h.map ZH++rest) r):
  ∃v' H',Yo lib fs fuel (n+5) 55 [v,.func 56 [.ptr sb 0] []] H=.ret v' H'∧BV H' v' (l.drop (64*(l.length/64)))∧(∀b o n c,v'=.slice b o n c->b≠sb)∧ZE H H' [sb]∧ ∃r',Own H' sb e ((Vb K h l (l.length/64)).map ZH++rest) r':=by
 rw[YM (hl5 _ _) mh]
 simp only[iY,JS,RB,XF,XE,XJ,Wm,XO,Yn,XC,Xm,Xf,X2,XI,XP,XR,Xq,Y5,Y9,Yp,Yw,Xs,V4,TC,Vc,Wj,WN,WD,WB,XK,WJ,WC,WF,WG,XS,WH,WI,XV,WA,Vl,WE,XU,Xk,N8.g00,N8.g01,N8.g02,N8.g03,N8.g04,N8.g05,N8.g06,N8.g07,N8.g10,N8.g11,N8.g12,N8.g13,N8.g14,N8.g15,N8.g16,N8.g17,N8.g20,N8.g21,N8.g22,N8.g23,N8.g24,N8.g25,N8.g26,N8.g27,N8.g30,N8.g31,N8.g32,N8.g33,N8.g34,N8.g35,N8.g36,N8.g37,N8.g40,N8.g41,N8.g42,N8.g43,N8.g44,N8.g45,N8.g46,N8.g47,N8.g50,N8.g51,N8.g52,N8.g53,N8.g54,N8.g55,N8.g56,N8.g57,N8.g60,N8.g61,N8.g62,N8.g63,N8.g64,N8.g65,N8.g66,N8.g67,N8.g70,N8.g71,N8.g72,N8.g73,N8.g74,N8.g75,N8.g76,N8.g77,XB,XT,Xt,WW,X3,X4,WV,X5,Xb,WX,WU,Z5,Xu,Xj,UB,UC,VN,UA,Zn,Ud,T7,Lz,Ij,IL,Hu,nO,Ud,Od]
 generalize hL:Wu (FE _) fuel _ _ _=L
 obtain⟨uW,H2,rfl,j⟩:=TY (P:=λT=>L5 sb e K h l rest H 0 T H) (Q:=L5 sb e K h l rest H (l.length/64))
  (λT hi=>Rl (L5 sb e K h l rest H) (L5 sb e K h l rest H (l.length/64)) (l.length/64) (λt tm H' ht hi=>fk (n:=n) hl hl2 hl3 hl4 hf hf2 hf3 uV hF hK cK nK h7 gJ hh hsb hro _ t tm H' ht hi) (λtm H' hi=>fj _ _ tm H' hi) (l.length/64) 0 fuel T H (Zn _) hlF hi) hL
  ⟨rfl,hv,far,ZE.refl _ _,r,own⟩
 have j0:=j.t0;have f0:=j.far
 simp only[Ud] at j0 f0
 simp only[Yw,Yn,XO,XF,WN,XE,Ud,Lz,IL,Ij,T7,Xf,X2,QI,Q1,N8.g00,N8.g01,N8.g02,N8.g03,N8.g04,N8.g05,N8.g06,N8.g07,N8.g10,N8.g11,N8.g12,N8.g13,N8.g14,N8.g15,N8.g16,N8.g17,N8.g20,N8.g21,N8.g22,N8.g23,N8.g24,N8.g25,N8.g26,N8.g27,N8.g30,N8.g31,N8.g32,N8.g33,N8.g34,N8.g35,N8.g36,N8.g37,N8.g40,N8.g41,N8.g42,N8.g43,N8.g44,N8.g45,N8.g46,N8.g47,N8.g50,N8.g51,N8.g52,N8.g53,N8.g54,N8.g55,N8.g56,N8.g57,N8.g60,N8.g61,N8.g62,N8.g63,N8.g64,N8.g65,N8.g66,N8.g67,N8.g70,N8.g71,N8.g72,N8.g73,N8.g74,N8.g75,N8.g76,N8.g77]
 exact⟨_,_,rfl,j0,f0,j.keep,j.row⟩
end
section
attribute [local irreducible] Y1
variable {lib:Nat->List AV->Heap->Option CR} {fs:T CF} {fuel:Nat}
theorem wK(b o:Nat)(H:Heap):Eo lz false (.ptr b o) .nilp H=.val (.bool false) H:=rfl
theorem oG(b:Bool)(H:Heap):kT (.bool b) H=.val (.bool (!b)) H:=by cases b<;>rfl
theorem vP(a b:AV)(H:Heap):Bk (.bool false) a b H=.val b H:=rfl
structure LX(H:Heap)(sb:Nat)(h:List UInt32)(left:AV)(many:Nat)(r:Row):Prop extends Own H sb 108 (h.map ZH++[left,nI .u64 many,.bool true]) r where
 len:h.length=8
 low:sb<H.nx
theorem LX.load{H H':Heap}{sb many i:Nat}{h:List UInt32}{left:AV}{r:Row}(s:LX H sb h left many r)(he:H'.t=H.t)(hi:i<3):UQ (.ptr sb (8+i)) H'=.val (([left,nI .u64 many,.bool true]:List AV).getD i .unk) H':=by
 have hl:(h.map ZH).length=8:=by rw[Zi];exact s.len
 rw[Tp (r:=r) (by rw[he];exact s.at_) s.cells (by rw[Zo,hl];simp;omega),Zh,ZY (by omega),hl,UE,<-Zh]
theorem vA{n:Nat}(hl: ∀l H,lib 54 l H=none)(hf:fs.get 54=some iX){H:Heap}{sb many:Nat}{h:List UInt32}{left:AV}{r:Row}(s:LX H sb h left many r):
  Yo lib fs fuel (n+1) 54 [.ptr sb 0] H=.ret (.bool false) H:=by
 rw[YM (hl _ _) hf]
 have ld:UQ (.ptr sb 10) H=.val (.bool true) H:=s.load rfl (by omega:2<3)
 simp only[iX,JR,wK,uf,zL,ld,oG,vP,Wi,QI,Q1,XF,XE,XJ,Wm,XO,Yn,XC,Xm,Xf,X2,XI,XP,XR,Xq,Y5,Y9,Yp,Yw,Xs,V4,TC,Vc,Wj,WN,WD,WB,XK,WJ,WC,WF,WG,XS,WH,WI,XV,WA,Vl,WE,XU,Xk,N8.g00,N8.g01,N8.g02,N8.g03,N8.g04,N8.g05,N8.g06,N8.g07,N8.g10,N8.g11,N8.g12,N8.g13,N8.g14,N8.g15,N8.g16,N8.g17,N8.g20,N8.g21,N8.g22,N8.g23,N8.g24,N8.g25,N8.g26,N8.g27,N8.g30,N8.g31,N8.g32,N8.g33,N8.g34,N8.g35,N8.g36,N8.g37,N8.g40,N8.g41,N8.g42,N8.g43,N8.g44,N8.g45,N8.g46,N8.g47,N8.g50,N8.g51,N8.g52,N8.g53,N8.g54,N8.g55,N8.g56,N8.g57,N8.g60,N8.g61,N8.g62,N8.g63,N8.g64,N8.g65,N8.g66,N8.g67,N8.g70,N8.g71,N8.g72,N8.g73,N8.g74,N8.g75,N8.g76,N8.g77,XB,XT,Xt,WW,X3,X4,WV,X5,Xb,WX,WU,Z5,Xu,Xj,UB,UC,VN,UA,Zn,Ud,Ru,TB,T7,Pc,Nd,N2,Kh,Ji,Nu,R3,nP,xW,Ij,Ik,Hv,Fg,F9,E5,KR,M1,Hu,Ud]
theorem yM(a0 a1 a2 a3 a4 a5 a6 a7:AV)(H:Heap):
  RW [(nI .u32 0),(nI .u32 0),(nI .u32 0),(nI .u32 0),(nI .u32 0),(nI .u32 0),(nI .u32 0),(nI .u32 0),.nils,(nI .u64 0),(.bool false)] [(0,8,.agg [a0,a1,a2,a3,a4,a5,a6,a7]),(10,1,.bool true)] H=.val (.agg [a0,a1,a2,a3,a4,a5,a6,a7,.nils,nI .u64 0,.bool true]) H:=rfl
def Zal(e:Nat)(a:AV)(H:Heap):OR:=ZR (Nat.ble 1 (YF a.cells))<|.val (.ptr H.nx 0) (H.newRow e 1 a.cells true)
theorem vE(x:Z0)(e:Nat)(tm:TM)(H:Heap):T1 x e tm H=Zal e (x tm) H:=rfl
theorem mE(e:Nat)(a:AV)(l:List AV)(H:Heap):Zal e (.agg (a::l)) H=.val (.ptr H.nx 0) (H.newRow e 1 (a::l) true):=rfl
theorem zQ{H:Heap}{h:List UInt32}{left:AV}{many:Nat}(hh:h.length=8)(hro:H.ro<=H.nx): ∃r,LX (H.newRow 108 1 (h.map ZH++[left,nI .u64 many,.bool true]) true) H.nx h left many r:=
 ⟨_,⟨⟨by rw[So,Xj,if_pos rfl],rfl,rfl,rfl,rfl,rfl,Cells.new ..,hro⟩,hh,Yq _⟩⟩
theorem fK{n:Nat}(hl: ∀l H,lib 35 l H=none)(hf:fs.get 35=some c35){H:Heap}{h:List UInt32}{rB:Row}(hB:H.t.get 0=some (.row rB))(cB:Cells rB (h.map ZH))(hh:h.length=8):
  Yo lib fs fuel (n+1) 35 [] H=.ret (.ptr H.nx 0) (H.newRow 108 1 (h.map ZH++[.nils,nI .u64 0,.bool true]) true):=by
 rw[YM (hl _ _) hf]
 have nh:(h.map ZH).length=8:=by rw[Zi];exact hh
 have ld:Jo 8 (.ptr 0 0) H=.val (.agg (h.map ZH)) H:=by
  rw[NL hB cB (by omega),Y8,YH (by omega)]
 obtain⟨a0,a1,a2,a3,a4,a5,a6,a7,rfl⟩:=vl hh
 simp only[Ym,YY,Ft,WR] at ld ⊢
 simp only[c35,rQ,ld,Tq,Ym,YY,yM,vE,mE,QI,Q1,XF,XE,XJ,Wm,XO,Yn,XC,Xm,Xf,X2,XI,XP,XR,Xq,Y5,Y9,Yp,Yw,Xs,V4,TC,Vc,Wj,WN,WD,WB,XK,WJ,WC,WF,WG,XS,WH,WI,XV,WA,Vl,WE,XU,Xk,N8.g00,N8.g01,N8.g02,N8.g03,N8.g04,N8.g05,N8.g06,N8.g07,N8.g10,N8.g11,N8.g12,N8.g13,N8.g14,N8.g15,N8.g16,N8.g17,N8.g20,N8.g21,N8.g22,N8.g23,N8.g24,N8.g25,N8.g26,N8.g27,N8.g30,N8.g31,N8.g32,N8.g33,N8.g34,N8.g35,N8.g36,N8.g37,N8.g40,N8.g41,N8.g42,N8.g43,N8.g44,N8.g45,N8.g46,N8.g47,N8.g50,N8.g51,N8.g52,N8.g53,N8.g54,N8.g55,N8.g56,N8.g57,N8.g60,N8.g61,N8.g62,N8.g63,N8.g64,N8.g65,N8.g66,N8.g67,N8.g70,N8.g71,N8.g72,N8.g73,N8.g74,N8.g75,N8.g76,N8.g77,XB,XT,Xt,WW,X3,X4,WV,X5,Xb,WX,WU,Z5,Xu,Xj,UB,UC,VN,UA,Zn,Ud,Od,Ru,TB,Hu,nO,nP,xW,Hu,Ud]
end
section
attribute [local irreducible] Y1
variable {lib:Nat->List AV->Heap->Option CR} {fs:T CF} {fuel:Nat}
theorem BV.src{H:Heap}{v:AV}{l:List UInt8}(h:BV H v l):Src H v (l.map Y6):=by
 rcases h with⟨rfl,rfl|⟨b,o,c,rfl⟩⟩|⟨_,b,o,c,r,rfl,hb,_⟩
 ·exact Src.nils H
 ·exact Src.none H b o c
 ·have:=Src.row (c:=c) (l:=l.map Y6) hb.at_ (by rw[Zi];exact hb.fits) (λi hi=>by
   rw[Zi] at hi
   rw[hb.get i hi,Zh,Zh,Z1,Zr hi];rfl)
  rw[Zi] at this
  exact this
theorem Cells.bytes{H:Heap}{b:Nat}{r:Row}{l:List UInt8}(hr:H.t.get b=some (.row r))(hs:r.sz=1)(hc:Cells r (l.map Y6)):Bytes H b 0 none l r:=by
 have hz:=hc.size
 rw[Zi] at hz
 refine⟨hr,hs,by omega,λi hi=>?_,λc hc=>by cases hc⟩
 rw[Zn,hc.get i (by rw[Zi];exact hi),Zh,Z1,Zh,Zr hi];rfl
theorem wD{H:Heap}{v:AV}{l:List UInt8}(h:BV H v l)(hl:l.length<=140737488355328)(hro:H.ro<=H.nx):
  ∃v' H',V2 5 1 1 .nils v H=.val v' H'∧BV H' v' l∧ZE H H' []∧(∀b o n c,v'=.slice b o n c->b=H.nx∧H.nx<H'.nx):=by
 rw[TU (Zq 1) h.src]
 by_cases h0:l=[]
 ·subst h0
  exact⟨_,_,AU 5 1 H,.inl ⟨rfl,.inl rfl⟩,ZE.refl _ _,λb o n c e=>by cases e⟩
 ·have hp:0<(l.map Y6).length:=by rw[Zi];exact UN.2 h0
  have g:=NW (H:=H) (e:=5) (l:=l.map Y6) hro
  refine⟨_,_,Lj hp (by rw[Zi];exact hl),.inr ⟨h0,H.nx,0,none,_,by rw[Zi],g.cells.bytes g.at_ g.sz,Yq _⟩,ZE.new _ _ _,λb o n c e=>?_⟩
  cases e;exact⟨rfl,Yq _⟩
theorem zS(f:Nat)(a b:List Z0)(tm:TM)(H:Heap):MI f a b tm H=.val (.func f (evs tm a) (evs tm b)) H:=rfl
theorem tS{n:Nat}(h:n<9223372036854775808)(H:Heap):LB .u64 (nI .i64 n) H=.val (nI .u64 n) H:=by
 show UV .u64 (.ofNat n) H=_
 rw[Xz,SE,ZU (by omega)];rfl
theorem uh{a b:Nat}(h:a+b<18446744073709551616)(H:Heap):EZ (nI .u64 a) (nI .u64 b) H=.val (nI .u64 (a+b)) H:=by
 show ZR (Nf .u64 .u64) (UV .u64 (CO (.ofNat a) (.ofNat b)) H)=_
 rw[Wd,Xz,Jl,SE,ZU h];rfl
theorem LX.store{H:Heap}{sb many i:Nat}{h:List UInt32}{left:AV}{r:Row}(s:LX H sb h left many r)(hi:i<3)(v:AV)(hv:v.cells=[v]):
  RJ 1 (.ptr sb (8+i)) v H=.val YZ (H.put sb (.row (r.setCells (YV r.cells (8+i) [v])))):=by
 have hl:(h.map ZH).length=8:=by rw[Zi];exact s.len
 have:=UU (v:=v) (n:=1) (o:=8+i) s.at_ s.cells s.own s.ro s.fz (Zq _) (by rw[hv];rfl) (by rw[Zo,hl];simp;omega)
 rw[hv] at this
 exact this
theorem LX.stored{H:Heap}{sb many i:Nat}{h:List UInt32}{left:AV}{r:Row}(s:LX H sb h left many r)(hi:i<3)(v:AV):
  Own (H.put sb (.row (r.setCells (YV r.cells (8+i) [v])))) sb 108 (h.map ZH++([left,nI .u64 many,.bool true]:List AV).set i v) (r.setCells (YV r.cells (8+i) [v])):=by
 have hl:(h.map ZH).length=8:=by rw[Zi];exact s.len
 refine⟨by rw[Xu,if_pos rfl],s.elem,s.sz,s.own,s.fz,s.sm,?_,s.ro⟩
 have:=s.cells.store1 (o:=8+i) (v:=v) (by rw[Zo,hl];simp;omega)
 rw[Ua _ _ (by omega),hl,UE] at this
 exact this
theorem ma{n:Nat}(hl: ∀l H,lib 84 l H=none)(hl2: ∀l H,lib 69 l H=none)(hl3: ∀l H,lib 68 l H=none)(hl4: ∀l H,lib 56 l H=none)(hf:fs.get 84=some yO)(hf2:fs.get 69=some x6)(hf3:fs.get 68=some mf)(uV:fs.get 56=some mH)(hF:64<fuel)(hl5: ∀l H,lib 55 l H=none)(mh:fs.get 55=some iY)(iD: ∀l H,lib 54 l H=none)(iC:fs.get 54=some iX)(hl7: ∀l H,lib 36 l H=none)(hf7:fs.get 36=some c36)
  {sb many:Nat}{K h:List UInt32}{l:List UInt8}{v:AV}{H:Heap}{rK r:Row}(hlF:l.length/64<fuel)(hll:l.length<=140737488355328)(hmany:many+l.length<18446744073709551616)(hK:H.t.get 3=some (.row rK))(cK:Cells rK (K.map ZH))(nK:K.length=64)(h7:3<H.nx)(gJ:3≠sb)(hro:H.ro<=H.nx)
  (hv:BV H v l)(far: ∀b o n c,v=.slice b o n c->b≠sb)(s:LX H sb h .nils many r):
  ∃left H' r',Yo lib fs fuel (n+6) 36 [.ptr sb 0,v] H=.ret (nI .i64 0) H'∧BV H' left (l.drop (64*(l.length/64)))∧(∀b o n c,left=.slice b o n c->H.nx<=b)∧ZE H H' [sb]∧LX H' sb (Vb K h l (l.length/64)) left (many+l.length) r':=by
 rw[YM (hl7 _ _) hf7]
 have en:=vA (fuel:=fuel) (n:=n+4) iD iC s
 have ld9:UQ (.ptr sb 9) H=.val (nI .u64 many) H:=s.load rfl (by omega:1<3)
 have VB:=s.store (i:=1) (by omega) (nI .u64 (many+l.length)) rfl
 have QS:=s.stored (i:=1) (by omega) (nI .u64 (many+l.length))
 generalize hr1:r.setCells (YV r.cells (8+1) [nI .u64 (many+l.length)])=r1 at VB QS
 generalize hH1:H.put sb (.row r1)=H1 at VB QS
 have k1:ZE H H1 [sb]:=by rw[<-hH1];exact ZE.put λ_=>YJ.2 rfl
 have J8:H1.nx=H.nx:=by rw[<-hH1];rfl
 have s1:LX H1 sb h .nils (many+l.length) r1:=⟨QS,s.len,by rw[J8];exact s.low⟩
 have ld8:UQ (.ptr sb 8) H1=.val .nils H1:=s1.load rfl (by omega:0<3)
 have hv1:BV H1 v l:=hv.keep k1 λb o n c e=>by simpa using far b o n c e
 obtain⟨v2,H2,e2,hv2,k2,ZaK⟩:=wD hv1 hll (by rw[k1.ro,J8];exact hro)
 have Bi:Own H2 sb 108 (h.map ZH++[.nils,nI .u64 (many+l.length),.bool true]) r1:=⟨by rw[k2.get sb s1.low (by simp)];exact QS.at_,QS.elem,QS.sz,QS.own,QS.fz,QS.sm,QS.cells,by rw[k2.ro];exact QS.ro⟩
 have nx2:H.nx<=H2.nx:=by have:=k2.nx;omega
 have Zdm: ∀b o n c,v2=.slice b o n c->b≠sb:=λb o n c e=>by have:=(ZaK b o n c e).1;have:=s1.low;omega
 obtain⟨v3,H3,e3,hv3,far3,k3,r3,AM⟩:=Dz (n:=n) (fuel:=fuel) hl hl2 hl3 hl4 hf hf2 hf3 uV hF hl5 mh hlF (by rw[k2.get 3 (by omega) (by simp),k1.get 3 h7 (by simpa using gJ)];exact hK) cK nK (by omega) gJ s.len (by have:=s.low;omega) (by rw[k2.ro,k1.ro];omega) hv2 Zdm Bi
 have Zgy:(l.drop (64*(l.length/64))).length<=140737488355328:=by rw[ZV];omega
 have bJ:H.nx<=H3.nx:=by have:=k3.nx;omega
 obtain⟨v4,H4,e4,hv4,k4,Zdn⟩:=wD hv3 Zgy (by rw[k3.ro,k2.ro,k1.ro];omega)
 have s4:LX H4 sb (Vb K h l (l.length/64)) .nils (many+l.length) r3:=⟨⟨by rw[k4.get sb (by have:=s.low;omega) (by simp)];exact AM.at_,AM.elem,AM.sz,AM.own,AM.fz,AM.sm,AM.cells,by rw[k4.ro];exact AM.ro⟩,RU K h l s.len _,by have:=s.low;have:=k4.nx;omega⟩
 have hcell:v4.cells=[v4]:=by
  rcases hv4 with⟨_,rfl|⟨b,o,c,rfl⟩⟩|⟨_,b,o,c,r,rfl,_⟩<;>rfl
 have W0:=s4.store (i:=0) (by omega) v4 hcell
 have sI:=s4.stored (i:=0) (by omega) v4
 have app:([.ptr sb 0]:List AV)=[.ptr sb 0]:=rfl
 simp(maxSteps:=4000000) (disch:=omega) only[c36,JS,en,ld9,hv.len,tS,uh,VB,ld8,TW,e2,zS,e3,e4,W0,Nat.reduceAdd,XF,XE,XJ,Wm,XO,Yn,XC,Xm,Xf,X2,XI,XP,XR,Xq,Y5,Y9,Yp,Yw,Xs,V4,TC,Vc,Wj,WN,WD,WB,XK,WJ,WC,WF,WG,XS,WH,WI,XV,WA,Vl,WE,XU,Xk,N8.g00,N8.g01,N8.g02,N8.g03,N8.g04,N8.g05,N8.g06,N8.g07,N8.g10,N8.g11,N8.g12,N8.g13,N8.g14,N8.g15,N8.g16,N8.g17,N8.g20,N8.g21,N8.g22,N8.g23,N8.g24,N8.g25,N8.g26,N8.g27,N8.g30,N8.g31,N8.g32,N8.g33,N8.g34,N8.g35,N8.g36,N8.g37,N8.g40,N8.g41,N8.g42,N8.g43,N8.g44,N8.g45,N8.g46,N8.g47,N8.g50,N8.g51,N8.g52,N8.g53,N8.g54,N8.g55,N8.g56,N8.g57,N8.g60,N8.g61,N8.g62,N8.g63,N8.g64,N8.g65,N8.g66,N8.g67,N8.g70,N8.g71,N8.g72,N8.g73,N8.g74,N8.g75,N8.g76,N8.g77,XB,XT,Xt,WW,X3,X4,WV,X5,Xb,WX,WU,Z5,Xu,Xj,UB,UC,VN,UA,Zn,Ud,Od,T7,Pc,Nd,N2,Kh,Ji,Nu,R3,MG,Je,Lz,Ix,Jf,Jg,KM,EA,D5,D6,Jh,EB,Gq,D7,D8,D9,Ca,Cb,Cc,Cd,Ij,Ik,Hv,Fg,F9,E5,KR,M1,IJ,IK,IL,EU,EV,BG,Fe,BH,BI,BJ,BK,BL,IM,BM,BN,BO,BP,BQ,BR,BT,Hu,nO,Ud,Od]
 refine⟨v4,_,_,rfl,?_,λb o n c e=>?_,?_,sI,s4.len,?_⟩
 ·exact hv4.keep (ZE.put λ_=>YJ.2 rfl) λb o n c e=>by
   have:=(Zdn b o n c e).1;have:=s4.low;simp only[YJ];have:=s.low;omega
 ·have:=(Zdn b o n c e).1;omega
 ·exact(((k1.trans k2 λc hc _=>by simp at hc).trans k3 λc hc _=>hc).trans k4 λc hc _=>by simp at hc).then_put λ_=>YJ.2 rfl
 ·exact s4.low
end
section
attribute [local irreducible] Y1
variable {lib:Nat->List AV->Heap->Option CR} {fs:T CF} {fuel:Nat}
def M4(H:Heap)(v:AV)(l:List UInt8)(lo:Nat):Prop:= ∃b r,v=.slice b 0 l.length none∧uY H b 5 (l.map Y6) r∧lo<=b
theorem Eb{H:Heap}{v:AV}{l:List UInt8}{lo:Nat}(h:M4 H v l lo)(hl:l.length<140737488355328)(x:UInt8):
  ∃v' H',V2 5 1 1 v (.slice H.nx 0 1 none) (H.newRow 5 1 [Y6 x] true)=.val v' H'∧M4 H' v' (l++[x]) lo∧H.nx<=H'.nx∧H'.ro=H.ro∧ ∀c,c<lo->c<H.nx->H'.t.get c=H.t.get c:=by
 obtain⟨b,r,rfl,g,hlo⟩:=h
 generalize hH1:H.newRow 5 1 [Y6 x] true=H1
 have J8:H1.nx=H.nx+1:=by rw[<-hH1];rfl
 have k1:ZE H H1 []:=by rw[<-hH1];exact ZE.new H _ []
 have gx:H1.t.get H.nx=some (.row ⟨5,1,1,T.ofList [Y6 x],.unk,0,false,true,true⟩):=by rw[<-hH1,So,Xj,if_pos rfl];rfl
 have src:Src H1 (.slice H.nx 0 1 none) [Y6 x]:=Src.row (l:=[Y6 x]) gx (Zq _) (λi hi=>by
  have:i=0:=by simp at hi;exact hi
  subst this
  rfl)
 have g1:uY H1 b 5 (l.map Y6) r:=⟨⟨by rw[k1.get b g.low (by simp)];exact g.at_,g.elem,g.sz,g.own,g.fz,g.sm,g.cells,by rw[k1.ro];exact g.ro⟩,g.exact_,by have:=g.low;omega⟩
 obtain⟨H',r',e,g',k',nx'⟩:=JQ (m:=[Y6 x]) g1 (by simp) (by rw[Zi];simp;omega)
 rw[TU (Zq 1) src]
 rw[Zi] at e
 refine⟨_,H',e,⟨H1.nx,r',by rw[Zo];rfl,by rw[YX];exact g',by have:=g.low;omega⟩,by omega,by rw[k'.ro,k1.ro],λc hc hn=>?_⟩
 rw[k'.get c (by omega) (by simp;omega),k1.get c hn (by simp)]
theorem rn{H:Heap}{v:AV}{l:List UInt8}(h:BV H v l)(hl:l.length<140737488355328)(hro:H.ro<=H.nx)(x:UInt8):
  ∃v1 H1 v' H',V2 5 1 1 .nils v H=.val v1 H1∧V2 5 1 1 v1 (.slice H1.nx 0 1 none) (H1.newRow 5 1 [Y6 x] true)=.val v' H'∧M4 H' v' (l++[x]) H.nx∧ZE H H' []:=by
 rw[TU (Zq 1) h.src]
 by_cases h0:l=[]
 ·subst h0
  generalize hH1:H.newRow 5 1 [Y6 x] true=H1
  have J8:H1.nx=H.nx+1:=by rw[<-hH1];rfl
  have k1:ZE H H1 []:=by rw[<-hH1];exact ZE.new H _ []
  have gx:H1.t.get H.nx=some (.row ⟨5,1,1,T.ofList [Y6 x],.unk,0,false,true,true⟩):=by rw[<-hH1,So,Xj,if_pos rfl];rfl
  have src:Src H1 (.slice H.nx 0 1 none) [Y6 x]:=Src.row (l:=[Y6 x]) gx (Zq _) (λi hi=>by
   have:i=0:=by simp at hi;exact hi
   subst this
   rfl)
  have g:=NW (H:=H1) (e:=5) (l:=[Y6 x]) (by rw[k1.ro];omega)
  refine⟨_,_,_,_,AU 5 1 H,(by rw[hH1,TU (Zq 1) src];exact Lj (l:=[Y6 x]) (by simp) (by simp)),⟨_,_,rfl,g,by omega⟩,k1.then_new _⟩
 ·have hp:0<(l.map Y6).length:=by rw[Zi];exact UN.2 h0
  have g:=NW (H:=H) (e:=5) (l:=l.map Y6) hro
  have e0:=Lj (e:=5) (H:=H) hp (by rw[Zi];omega)
  obtain⟨v',H',e,tl,nx,ro,k⟩:=Eb (v:=.slice H.nx 0 (l.map Y6).length none) (lo:=H.nx) ⟨H.nx,_,by rw[Zi],g,Zq _⟩ hl x
  exact⟨_,_,v',H',e0,e,tl,YN (Uv _) nx,ro,λc hc hn=>(k c hc (Nat.lt_succ_of_lt hc)).trans ((ZE.new H _ []).get c hc hn)⟩
end
section
attribute [local irreducible] Y1
variable {lib:Nat->List AV->Heap->Option CR} {fs:T CF} {fuel:Nat}
structure L6(sb b2 b3 cb:Nat)(l:List UInt8)(H0:Heap)(t:Nat)(tm:TM)(H:Heap):Prop where
 t0:ZO tm=.ptr sb 0
 t2:Xw tm=.ptr b2 0
 t3:Xa tm=.ptr b3 0
 t4:YT tm=.ptr cb 0
 t5:M4 H (XW tm) (l++List.replicate t 0) H0.nx
 keep:ZE H0 H []
theorem M4.len{H:Heap}{v:AV}{l:List UInt8}{lo:Nat}(h:M4 H v l lo)(H':Heap):Ko v H'=.val (nI .i64 l.length) H':=by
 obtain⟨b,r,rfl,_⟩:=h;exact Z5 ..
theorem zO{H0 H H':Heap}(k:ZE H0 H [])(nx:H.nx<=H'.nx)(ro:H'.ro=H.ro)(h: ∀c,c<H0.nx->c<H.nx->H'.t.get c=H.t.get c):ZE H0 H' []:=
 ⟨YN k.nx nx,ro.trans k.ro,λc hc _=>(h c hc (ZI hc k.nx)).trans (k.get c hc (by simp))⟩
theorem fo{sb b2 b3 cb:Nat}{l:List UInt8}{H0:Heap}{N:Nat}(hN: ∀t,t<N->(l.length+t) % 64≠56)(hl:l.length+N<140737488355328)(c:Ctx)(x:X)(t:Nat)(tm:TM)(H:Heap)(ht:t<N)(h:L6 sb b2 b3 cb l H0 t tm H):
  ∃tm' H',FA c tm H x=.ok .normal tm' H' x∧L6 sb b2 b3 cb l H0 (t+1) tm' H':=by
 have i0:=h.t0;have i2:=h.t2;have i3:=h.t3;have i4:=h.t4;have i5:=h.t5
 simp only[Ud,Ru,TB,T7,Pc] at i0 i2 i3 i4 i5
 have hlen:(l++List.replicate t (0:UInt8)).length=l.length+t:=by simp
 have d1:decide ((l++List.replicate t (0:UInt8)).length % 64≠56)=true:=Zg (by rw[hlen];exact hN t ht)
 obtain⟨v',H',e,tl,nx,ro,k⟩:=Eb i5 (by rw[hlen];omega) 0
 have bs:Su 5 1 1 [nI .u8 0] [(0,1,nI .u8 0)] H=.val (.slice H.nx 0 1 none) (H.newRow 5 1 [Y6 0] true):=RV 5 (nI .u8 0) (nI .u8 0) rfl H
 simp(maxSteps:=4000000) (disch:=omega) only[FA,i5.len,sP,Qy,d1,Ux,Ym,YY,bs,TW,e,XF,XE,XJ,Wm,XO,Yn,XC,Xm,Xf,X2,XI,XP,XR,Xq,Y5,Y9,Yp,Yw,Xs,V4,TC,Vc,Wj,WN,WD,WB,XK,WJ,WC,WF,WG,XS,WH,WI,XV,WA,Vl,WE,XU,Xk,N8.g00,N8.g01,N8.g02,N8.g03,N8.g04,N8.g05,N8.g06,N8.g07,N8.g10,N8.g11,N8.g12,N8.g13,N8.g14,N8.g15,N8.g16,N8.g17,N8.g20,N8.g21,N8.g22,N8.g23,N8.g24,N8.g25,N8.g26,N8.g27,N8.g30,N8.g31,N8.g32,N8.g33,N8.g34,N8.g35,N8.g36,N8.g37,N8.g40,N8.g41,N8.g42,N8.g43,N8.g44,N8.g45,N8.g46,N8.g47,N8.g50,N8.g51,N8.g52,N8.g53,N8.g54,N8.g55,N8.g56,N8.g57,N8.g60,N8.g61,N8.g62,N8.g63,N8.g64,N8.g65,N8.g66,N8.g67,N8.g70,N8.g71,N8.g72,N8.g73,N8.g74,N8.g75,N8.g76,N8.g77,XB,XT,Xt,WW,X3,X4,WV,X5,Xb,WX,WU,Z5,Xu,Xj,UB,UC,VN,UA,Zn,Pc,Gq,D7,D8,D9,Ca,Cb,Cc,Ik,IM,BM,BN,BO,BP,BQ,BR]
 refine⟨_,_,rfl,i0,i2,i3,i4,?_,zO h.keep nx ro k⟩
 have e2:l++List.replicate (t+1) (0:UInt8)=(l++List.replicate t 0)++[0]:=by rw[List.replicate_succ',Y4]
 rw[e2]
 exact tl
theorem fm{sb b2 b3 cb:Nat}{l:List UInt8}{H0:Heap}{N:Nat}(hN:(l.length+N) % 64=56)(c:Ctx)(x:X)(tm:TM)(H:Heap)(h:L6 sb b2 b3 cb l H0 N tm H):
  ∃tm' H',FA c tm H x=.ok (.exit 0) tm' H' x∧L6 sb b2 b3 cb l H0 N tm' H':=by
 have i0:=h.t0;have i2:=h.t2;have i3:=h.t3;have i4:=h.t4;have i5:=h.t5
 simp only[Ud,Ru,TB,T7,Pc] at i0 i2 i3 i4 i5
 have hlen:(l++List.replicate N (0:UInt8)).length=l.length+N:=by simp
 have d1:decide ((l++List.replicate N (0:UInt8)).length % 64≠56)=false:=Zd (by rw[hlen];exact λh=>h hN)
 simp(maxSteps:=4000000) (disch:=omega) only[FA,i5.len,sP,Qy,d1,XF,XE,XJ,Wm,XO,Yn,XC,Xm,Xf,X2,XI,XP,XR,Xq,Y5,Y9,Yp,Yw,Xs,V4,TC,Vc,Wj,WN,WD,WB,XK,WJ,WC,WF,WG,XS,WH,WI,XV,WA,Vl,WE,XU,Xk,N8.g00,N8.g01,N8.g02,N8.g03,N8.g04,N8.g05,N8.g06,N8.g07,N8.g10,N8.g11,N8.g12,N8.g13,N8.g14,N8.g15,N8.g16,N8.g17,N8.g20,N8.g21,N8.g22,N8.g23,N8.g24,N8.g25,N8.g26,N8.g27,N8.g30,N8.g31,N8.g32,N8.g33,N8.g34,N8.g35,N8.g36,N8.g37,N8.g40,N8.g41,N8.g42,N8.g43,N8.g44,N8.g45,N8.g46,N8.g47,N8.g50,N8.g51,N8.g52,N8.g53,N8.g54,N8.g55,N8.g56,N8.g57,N8.g60,N8.g61,N8.g62,N8.g63,N8.g64,N8.g65,N8.g66,N8.g67,N8.g70,N8.g71,N8.g72,N8.g73,N8.g74,N8.g75,N8.g76,N8.g77,XB,XT,Xt,WW,X3,X4,WV,X5,Xb,WX,WU,Z5,Xu,Xj,UB,UC,VN,UA,Zn,Pc,Gq,D7,D8,D9,Ca,Cb,Cc,Ik,IM,BM,BN,BO,BP,BQ,BR]
 exact⟨_,_,rfl,i0,i2,i3,i4,i5,h.keep⟩
end
section
attribute [local irreducible] Y1
variable {lib:Nat->List AV->Heap->Option CR} {fs:T CF} {fuel:Nat}
def ko(t:Nat):AV:=if t<8 then nI .i64 (7 - t) else .int .i64 (.negSucc 0)
def Kn(many t:Nat):UInt8:=UInt8.ofNat ((many*8 % 18446744073709551616)/2^(8*(7 - t)))
def Vu(many t:Nat):List UInt8:=(List.range t).map (Kn many)
theorem AL(many t:Nat):Vu many (t+1)=Vu many t++[Kn many t]:=by
 unfold Vu;rw[List.range_succ,YX];rfl
theorem sV(a:Nat)(H:Heap):nF (nI .u64 a) (nI .u64 3) H=.val (nI .u64 (a*8 % 18446744073709551616)) H:=by
 show UV .u64 (CQ (.ofNat a) (.ofNat 8)) H=_
 rw[Xz,Jn,SE];rfl
theorem jN(a:Nat){n:Nat}(h:n<64)(H:Heap):ui (nI .u64 a) (nI .i64 n) H=.val (nI .u64 (a/2^n)) H:=by
 show Pq (.ofNat (Nat.div a (Nat.pow 2 (LE n 64)))) (λn=>OR.val (.int .u64 n) H)=_
 rw[Qp]
 have:LE n 64=n:=by unfold LE;rw[Zj (by omega)];rfl
 rw[this];rfl
theorem vh(a:Nat)(H:Heap):LB .u8 (nI .u64 a) H=.val (Y6 (UInt8.ofNat a)) H:=by
 show UV .u8 (.ofNat a) H=_
 rw[Xz,KI]
 unfold Y6
 rw[Rh]
structure L7(sb b2 b3 cb many:Nat)(l:List UInt8)(H0:Heap)(t:Nat)(tm:TM)(H:Heap):Prop where
 t0:ZO tm=.ptr sb 0
 t2:Xw tm=.ptr b2 0
 t3:Xa tm=.ptr b3 0
 t4:YT tm=.ptr cb 0
 t5:M4 H (XW tm) (l++Vu many t) H0.nx
 t6:W2 tm=ko t
 keep:ZE H0 H []
theorem fq{sb b2 b3 cb many:Nat}{l:List UInt8}{H0:Heap}{h:List UInt32}{left:AV}{r:Row}(s:LX H0 sb h left many r)(hl:l.length+8<140737488355328)(c:Ctx)(x:X)(t:Nat)(tm:TM)(H:Heap)(ht:t<8)(hi:L7 sb b2 b3 cb many l H0 t tm H):
  ∃tm' H',FB c tm H x=.ok .normal tm' H' x∧L7 sb b2 b3 cb many l H0 (t+1) tm' H':=by
 have i0:=hi.t0;have i2:=hi.t2;have i3:=hi.t3;have i4:=hi.t4;have i5:=hi.t5;have i6:=hi.t6
 rw[show ko t=nI .i64 (7 - t) from if_pos ht] at i6
 simp only[Ud,Ru,TB,T7,Pc,Nd] at i0 i2 i3 i4 i5 i6
 have d1:decide (0<=7 - t)=true:=Zg (Yv _)
 have s1:LX H sb h left many r:=⟨⟨by rw[hi.keep.get sb s.low (by simp)];exact s.at_,s.elem,s.sz,s.own,s.fz,s.sm,s.cells,by rw[hi.keep.ro];exact s.ro⟩,s.len,ZI s.low hi.keep.nx⟩
 have ld:UQ (.ptr sb 9) H=.val (nI .u64 many) H:=s1.load rfl (by omega:1<3)
 have hlen:(l++Vu many t).length=l.length+t:=by simp[Vu]
 obtain⟨v',H',e,tl,nx,ro,k⟩:=Eb i5 (by rw[hlen];omega) (Kn many t)
 have bs:Su 5 1 1 [nI .u8 0] [(0,1,Y6 (Kn many t))] H=.val (.slice H.nx 0 1 none) (H.newRow 5 1 [Y6 (Kn many t)] true):=RV 5 (nI .u8 0) _ rfl H
 have dec: ∀H',AR (nI .i64 (7 - t)) (nI .i64 1) H'=.val (ko (t+1)) H':=λH'=>by
  by_cases h7:t=7
  ·subst h7
   show UV .i64 (I7 (.ofNat 0) (.ofNat 1)) H'=_
   rw[Xz];rfl
  ·rw[Ot (by omega) (by omega),show ko (t+1)=nI .i64 (7 - (t+1)) from if_pos (by omega),show 7 - t - 1=7 - (t+1) by omega]
 have lb: ∀H',LB .u8 (nI .u64 (many*8 % 18446744073709551616/2^(8*(7 - t)))) H'=.val (Y6 (Kn many t)) H':=λH'=>vh _ H'
 simp(maxSteps:=4000000) (disch:=omega) only[FB,i0,i6,Wn,d1,ld,sV,Hh,jN,lb,Ux,Ym,YY,bs,TW,e,dec,XF,XE,XJ,Wm,XO,Yn,XC,Xm,Xf,X2,XI,XP,XR,Xq,Y5,Y9,Yp,Yw,Xs,V4,TC,Vc,Wj,WN,WD,WB,XK,WJ,WC,WF,WG,XS,WH,WI,XV,WA,Vl,WE,XU,Xk,N8.g00,N8.g01,N8.g02,N8.g03,N8.g04,N8.g05,N8.g06,N8.g07,N8.g10,N8.g11,N8.g12,N8.g13,N8.g14,N8.g15,N8.g16,N8.g17,N8.g20,N8.g21,N8.g22,N8.g23,N8.g24,N8.g25,N8.g26,N8.g27,N8.g30,N8.g31,N8.g32,N8.g33,N8.g34,N8.g35,N8.g36,N8.g37,N8.g40,N8.g41,N8.g42,N8.g43,N8.g44,N8.g45,N8.g46,N8.g47,N8.g50,N8.g51,N8.g52,N8.g53,N8.g54,N8.g55,N8.g56,N8.g57,N8.g60,N8.g61,N8.g62,N8.g63,N8.g64,N8.g65,N8.g66,N8.g67,N8.g70,N8.g71,N8.g72,N8.g73,N8.g74,N8.g75,N8.g76,N8.g77,XB,XT,Xt,WW,X3,X4,WV,X5,Xb,WX,WU,Z5,Xu,Xj,UB,UC,VN,UA,Zn,Ud,Pc,Nd,Cd,zE,zF,zG,zH,zI,zJ,Ce,Cf,Cg,Ch,Ci,Cj,Ck,Cl,Cm,Ik,Hv,BT,yl,ym,yn,yo,yp,yq,BU,BW,BX,BY,BZ,B3,B4,B5,B6]
 refine⟨_,_,rfl,i0,i2,i3,i4,?_,rfl,zO hi.keep nx ro k⟩
 rw[AL,<-Y4]
 exact tl
theorem fp{sb b2 b3 cb many:Nat}{l:List UInt8}{H0:Heap}(c:Ctx)(x:X)(tm:TM)(H:Heap)(hi:L7 sb b2 b3 cb many l H0 8 tm H):
  ∃tm' H',FB c tm H x=.ok (.exit 2) tm' H' x∧L7 sb b2 b3 cb many l H0 8 tm' H':=by
 have i0:=hi.t0;have i2:=hi.t2;have i3:=hi.t3;have i4:=hi.t4;have i5:=hi.t5;have i6:=hi.t6
 rw[show ko 8=.int .i64 (.negSucc 0) from rfl] at i6
 simp only[Ud,Ru,TB,T7,Pc,Nd] at i0 i2 i3 i4 i5 i6
 have d1: ∀H',K7 T0 WY (.int .i64 (.negSucc 0)) (nI .i64 0) H'=.val (.bool false) H':=λH'=>rfl
 simp(maxSteps:=4000000) (disch:=omega) only[FB,i6,d1,XF,XE,XJ,Wm,XO,Yn,XC,Xm,Xf,X2,XI,XP,XR,Xq,Y5,Y9,Yp,Yw,Xs,V4,TC,Vc,Wj,WN,WD,WB,XK,WJ,WC,WF,WG,XS,WH,WI,XV,WA,Vl,WE,XU,Xk,N8.g00,N8.g01,N8.g02,N8.g03,N8.g04,N8.g05,N8.g06,N8.g07,N8.g10,N8.g11,N8.g12,N8.g13,N8.g14,N8.g15,N8.g16,N8.g17,N8.g20,N8.g21,N8.g22,N8.g23,N8.g24,N8.g25,N8.g26,N8.g27,N8.g30,N8.g31,N8.g32,N8.g33,N8.g34,N8.g35,N8.g36,N8.g37,N8.g40,N8.g41,N8.g42,N8.g43,N8.g44,N8.g45,N8.g46,N8.g47,N8.g50,N8.g51,N8.g52,N8.g53,N8.g54,N8.g55,N8.g56,N8.g57,N8.g60,N8.g61,N8.g62,N8.g63,N8.g64,N8.g65,N8.g66,N8.g67,N8.g70,N8.g71,N8.g72,N8.g73,N8.g74,N8.g75,N8.g76,N8.g77,XB,XT,Xt,WW,X3,X4,WV,X5,Xb,WX,WU,Z5,Xu,Xj,UB,UC,VN,UA,Zn,Ud,Pc,Nd,Cd,zE,zF,zG,zH,zI,zJ,Ce,Cf,Cg,Ch,Ci,Cj,Ck,Cl,Cm,Ik,Hv,BT,yl,ym,yn,yo,yp,yq,BU,BW,BX,BY,BZ,B3,B4,B5,B6]
 exact⟨_,_,rfl,i0,i2,i3,i4,i5,i6,hi.keep⟩
end
section
attribute [local irreducible] Y1
variable {lib:Nat->List AV->Heap->Option CR} {fs:T CF} {fuel:Nat}
def HT(h:List UInt32)(i:Nat):UInt8:=((h.getD (i/4) 0)>>>UInt32.ofNat (24 - 8*(i % 4))).toUInt8
def Qe(h:List UInt32)(t:Nat):List UInt8:=(List.range t).map (HT h)
theorem pN(h:List UInt32)(t:Nat):Qe h (t+1)=Qe h t++[HT h t]:=by
 unfold Qe;rw[List.range_succ,YX];rfl
theorem QV(h:List UInt32)(t:Nat):(Qe h t).length=t:=by unfold Qe;simp
theorem jL(a:UInt32){n:Nat}(h:n<32)(k:IntKind)(H:Heap):ui (ZH a) (nI k n) H=.val (ZH (a>>>UInt32.ofNat n)) H:=G0 a h H
theorem tR(a:UInt32)(H:Heap):LB .u8 (ZH a) H=.val (Y6 a.toUInt8) H:=by
 show UV .u8 (.ofNat a.toNat) H=_
 rw[Xz,KI]
 unfold Y6
 rw[UInt32.toNat_toUInt8]
structure L8(b2 b3 cb:Nat)(h:List UInt32)(H0:Heap)(t:Nat)(tm:TM)(H:Heap):Prop where
 t2:Xw tm=.ptr b2 0
 t3:Xa tm=.ptr b3 0
 t4:YT tm=.ptr cb 0
 t51:U4 tm=nI .i64 t
 keep:ZE H0 H [b3]
 row: ∃r,Own H b3 25 ((Qe h t++List.replicate (32 - t) 0).map Y6) r
theorem fw{b2 b3 cb many:Nat}{H0:Heap}{h:List UInt32}{left:AV}{rc:Row}(s:LX H0 cb h left many rc)(hne:cb≠b3)(c:Ctx)(x:X)(t:Nat)(tm:TM)(H:Heap)(ht:t<32)(hi:L8 b2 b3 cb h H0 t tm H):
  ∃tm' H',FC c tm H x=.ok .normal tm' H' x∧L8 b2 b3 cb h H0 (t+1) tm' H':=by
 obtain⟨r,own⟩:=hi.row
 have i2:=hi.t2;have i3:=hi.t3;have i4:=hi.t4;have i51:=hi.t51
 simp only[Ru,TB,T7,Gr] at i2 i3 i4 i51
 have d1:decide (t<32)=true:=Zg ht
 have hl:=QV h t
 have ld:UQ (.ptr cb (t/4)) H=.val (ZH (h.getD (t/4) 0)) H:=by
  have h8:t/4<(h.map ZH).length:=by rw[Zi,s.len];omega
  rw[Tp (r:=rc) (by rw[hi.keep.get cb s.low (by simpa using hne)];exact s.at_) s.cells (by rw[Zo];omega),Zh,Yz h8,<-Zh,I0 _ _ (by rw[s.len];omega)]
 have st:RJ 1 (.ptr b3 t) (Y6 (HT h t)) H=.val YZ (H.put b3 (.row (r.setCells (YV r.cells t [Y6 (HT h t)])))):=UU (v:=Y6 (HT h t)) own.at_ own.cells own.own own.ro own.fz (Zq _) rfl (by simp;omega)
 have lb: ∀H',LB .u8 (ZH ((h.getD (t/4) 0)>>>UInt32.ofNat (24 - 8*(t % 4)))) H'=.val (Y6 (HT h t)) H':=λH'=>tR _ H'
 simp(maxSteps:=4000000) (disch:=omega) only[FC,i3,i4,i51,Zx,d1,ZbX,sP,Hh,Ot,WM,Vd,ld,jL,lb,st,XF,XE,XJ,Wm,XO,Yn,XC,Xm,Xf,X2,XI,XP,XR,Xq,Y5,Y9,Yp,Yw,Xs,V4,TC,Vc,Wj,WN,WD,WB,XK,WJ,WC,WF,WG,XS,WH,WI,XV,WA,Vl,WE,XU,Xk,N8.g00,N8.g01,N8.g02,N8.g03,N8.g04,N8.g05,N8.g06,N8.g07,N8.g10,N8.g11,N8.g12,N8.g13,N8.g14,N8.g15,N8.g16,N8.g17,N8.g20,N8.g21,N8.g22,N8.g23,N8.g24,N8.g25,N8.g26,N8.g27,N8.g30,N8.g31,N8.g32,N8.g33,N8.g34,N8.g35,N8.g36,N8.g37,N8.g40,N8.g41,N8.g42,N8.g43,N8.g44,N8.g45,N8.g46,N8.g47,N8.g50,N8.g51,N8.g52,N8.g53,N8.g54,N8.g55,N8.g56,N8.g57,N8.g60,N8.g61,N8.g62,N8.g63,N8.g64,N8.g65,N8.g66,N8.g67,N8.g70,N8.g71,N8.g72,N8.g73,N8.g74,N8.g75,N8.g76,N8.g77,XB,XT,Xt,WW,X3,X4,WV,X5,Xb,WX,WU,Z5,Xu,Xj,UB,UC,VN,UA,Zn,TB,T7,N2,Gr,Cq,Cr,Cs,Ct,Cu,Cv,Cw,Cx,Cy,Cz,CA,CB,CC,CD,CG,CH,CI,CJ,Fg,Ff,Ab,Ac,Ad,Ae,Af,Ag,Ah,Ai,Aj,Ak,Al,Am,An,Ao,Ap,Aq,Ar,As]
 refine⟨_,_,rfl,i2,i3,i4,rfl,hi.keep.then_put λ_=>YJ.2 rfl,r.setCells (YV r.cells t [Y6 (HT h t)]),⟨by rw[Xu,if_pos rfl],own.elem,own.sz,own.own,own.fz,own.sm,?_,own.ro⟩⟩
 have:=own.cells.store1 (o:=t) (v:=Y6 (HT h t)) (by simp;omega)
 have e:((Qe h t++List.replicate (32 - t) 0).map Y6).set t (Y6 (HT h t))=(Qe h (t+1)++List.replicate (32 - (t+1)) 0).map Y6:=by
  rw[YX,Ua _ _ (by rw[Zi];omega),Zi,hl,Rg,show 32 - t=(32 - (t+1))+1 by omega,Tw,Ym,List.set_cons_zero,pN,Y4,YX]
  rfl
 rw[e] at this
 exact this
theorem ft{b2 b3 cb:Nat}{H0:Heap}{h:List UInt32}(c:Ctx)(x:X)(tm:TM)(H:Heap)(hi:L8 b2 b3 cb h H0 32 tm H):
  ∃tm' H',FC c tm H x=.ok (.exit 4) tm' H' x∧L8 b2 b3 cb h H0 32 tm' H':=by
 have i2:=hi.t2;have i3:=hi.t3;have i4:=hi.t4;have i51:=hi.t51
 simp only[Ru,TB,T7,Gr] at i2 i3 i4 i51
 have d1:decide (32<32)=false:=rfl
 simp(maxSteps:=4000000) (disch:=omega) only[FC,i51,Zx,d1,XF,XE,XJ,Wm,XO,Yn,XC,Xm,Xf,X2,XI,XP,XR,Xq,Y5,Y9,Yp,Yw,Xs,V4,TC,Vc,Wj,WN,WD,WB,XK,WJ,WC,WF,WG,XS,WH,WI,XV,WA,Vl,WE,XU,Xk,N8.g00,N8.g01,N8.g02,N8.g03,N8.g04,N8.g05,N8.g06,N8.g07,N8.g10,N8.g11,N8.g12,N8.g13,N8.g14,N8.g15,N8.g16,N8.g17,N8.g20,N8.g21,N8.g22,N8.g23,N8.g24,N8.g25,N8.g26,N8.g27,N8.g30,N8.g31,N8.g32,N8.g33,N8.g34,N8.g35,N8.g36,N8.g37,N8.g40,N8.g41,N8.g42,N8.g43,N8.g44,N8.g45,N8.g46,N8.g47,N8.g50,N8.g51,N8.g52,N8.g53,N8.g54,N8.g55,N8.g56,N8.g57,N8.g60,N8.g61,N8.g62,N8.g63,N8.g64,N8.g65,N8.g66,N8.g67,N8.g70,N8.g71,N8.g72,N8.g73,N8.g74,N8.g75,N8.g76,N8.g77,XB,XT,Xt,WW,X3,X4,WV,X5,Xb,WX,WU,Z5,Xu,Xj,UB,UC,VN,UA,Zn,TB,T7,N2,Gr,Cq,Cr,Cs,Ct,Cu,Cv,Cw,Cx,Cy,Cz,CA,CB,CC,CD,CG,CH,CI,CJ,Fg,Ff,Ab,Ac,Ad,Ae,Af,Ag,Ah,Ai,Aj,Ak,Al,Am,An,Ao,Ap,Aq,Ar,As]
 exact⟨_,_,rfl,i2,i3,i4,i51,hi.keep,hi.row⟩
end
section
attribute [local irreducible] Y1
variable {lib:Nat->List AV->Heap->Option CR} {fs:T CF} {fuel:Nat}
def OU(m:Nat):Nat:=(119 - m) % 64
def LG(l:List UInt8)(many:Nat):List UInt8:=(l++[128])++List.replicate (OU l.length) 0++Vu many 8
theorem vO(l:List UInt8)(many:Nat):(LG l many).length=l.length+1+OU l.length+8:=by unfold LG Vu;simp;omega
theorem M4.bv{H:Heap}{v:AV}{l:List UInt8}{lo:Nat}(h:M4 H v l lo)(hne:l≠[]):BV H v l∧ ∀b o n c,v=.slice b o n c->lo<=b:=by
 obtain⟨b,r,rfl,g,hlo⟩:=h
 exact⟨.inr ⟨hne,b,0,none,r,rfl,g.cells.bytes g.at_ g.sz,g.low⟩,λb o n c e=>by cases e;exact hlo⟩
def Aw(K h:List UInt32)(l:List UInt8)(many:Nat):List UInt8:=Qe (Vb K h (LG l many) ((LG l many).length/64)) 32
theorem eZ{n:Nat}(hl: ∀l H,lib 84 l H=none)(hl2: ∀l H,lib 69 l H=none)(hl3: ∀l H,lib 68 l H=none)(hl4: ∀l H,lib 56 l H=none)(hf:fs.get 84=some yO)(hf2:fs.get 69=some x6)(hf3:fs.get 68=some mf)(uV:fs.get 56=some mH)(hF:64<fuel)(hl5: ∀l H,lib 55 l H=none)(mh:fs.get 55=some iY)(iD: ∀l H,lib 54 l H=none)(iC:fs.get 54=some iX)(ol: ∀l H,lib 37 l H=none)(hf8:fs.get 37=some c37)
  {sb many:Nat}{K h:List UInt32}{l:List UInt8}{left:AV}{H:Heap}{rK r:Row}(hll:l.length<64)(hK:H.t.get 3=some (.row rK))(cK:Cells rK (K.map ZH))(nK:K.length=64)(h7:3<H.nx)(gJ:3≠sb)(hro:H.ro<=H.nx)
  (s:LX H sb h left many r)(hv:BV H left l):
  ∃H',Yo lib fs fuel (n+6) 37 [.ptr sb 0] H=.ret (.agg ((Aw K h l many).map Y6)) H'∧ZE H H' []:=by
 rw[YM (ol _ _) hf8]
 generalize ha:H.new (.row ⟨25,1,32,.leaf,nI .u8 0,0,false,true,true⟩)=Ha
 have nxa:Ha.nx=H.nx+1:=by rw[<-ha];rfl
 have ka:ZE H Ha []:=by rw[<-ha];exact ZE.new H _ []
 have ga:Ha.t.get H.nx=some (.row ⟨25,1,32,.leaf,nI .u8 0,0,false,true,true⟩):=by rw[<-ha,Xj,if_pos rfl]
 generalize hb:Ha.new (.row ⟨25,1,32,.leaf,nI .u8 0,0,false,true,true⟩)=Hb
 have nxb:Hb.nx=H.nx+2:=by rw[<-hb,VN,nxa]
 have kb:ZE H Hb []:=by rw[<-hb];exact ka.then_new _
 have gb:Hb.t.get (H.nx+1)=some (.row ⟨25,1,32,.leaf,nI .u8 0,0,false,true,true⟩):=by rw[<-hb,Xj,nxa,if_pos rfl]
 have gb2:Hb.t.get H.nx=some (.row ⟨25,1,32,.leaf,nI .u8 0,0,false,true,true⟩):=by rw[<-hb,Xj,nxa,if_neg (by omega),ga]
 have sB:LX Hb sb h left many r:=⟨⟨by rw[kb.get sb s.low (by simp)];exact s.at_,s.elem,s.sz,s.own,s.fz,s.sm,s.cells,by rw[kb.ro];exact s.ro⟩,s.len,by have:=s.low;omega⟩
 have en:=vA (fuel:=fuel) (n:=n+4) iD iC sB
 have ld:Jo 8 (.ptr sb 0) Hb=.val (.agg (h.map ZH)) Hb:=by
  rw[NL sB.at_ sB.cells (by rw[Zo,Zi,s.len];omega),Y8,List.take_left' (by rw[Zi];exact s.len)]
 have bld: ∀H',RW [(nI .u32 0),(nI .u32 0),(nI .u32 0),(nI .u32 0),(nI .u32 0),(nI .u32 0),(nI .u32 0),(nI .u32 0),.nils,(nI .u64 0),(.bool false)] [(0,8,.agg (h.map ZH)),(10,1,.bool true)] H'=.val (.agg (h.map ZH++[.nils,nI .u64 0,.bool true])) H':=λH'=>by
  obtain⟨a0,a1,a2,a3,a4,a5,a6,a7,rfl⟩:=vl s.len
  rfl
 have box:Zal 108 (.agg (h.map ZH++[.nils,nI .u64 0,.bool true])) Hb=.val (.ptr (H.nx+2) 0) (Hb.newRow 108 1 (h.map ZH++[.nils,nI .u64 0,.bool true]) true):=by
  rw[<-nxb]
  obtain⟨a0,a1,a2,a3,a4,a5,a6,a7,rfl⟩:=vl s.len
  rfl
 obtain⟨rc,sc⟩:=zQ (H:=Hb) (left:=.nils) (many:=0) s.len (by rw[kb.ro];omega)
 generalize hc:Hb.newRow 108 1 (h.map ZH++[.nils,nI .u64 0,.bool true]) true=Hc at box sc
 rw[nxb] at sc
 have nxc:Hc.nx=H.nx+3:=by rw[<-hc,So,VN,nxb]
 have kbc:ZE Hb Hc []:=by rw[<-hc];exact ZE.new Hb _ []
 have kc:ZE H Hc []:=kb.trans' kbc
 have sC:LX Hc sb h left many r:=⟨⟨by rw[kc.get sb s.low (by simp)];exact s.at_,s.elem,s.sz,s.own,s.fz,s.sm,s.cells,by rw[kc.ro];exact s.ro⟩,s.len,by have:=s.low;omega⟩
 have ld8:UQ (.ptr sb 8) Hc=.val left Hc:=sC.load rfl (by omega:0<3)
 obtain⟨v1,H1,v',H',e1,e2,tl,k'⟩:=rn (hv.keep kc (S:=[]) (by simp)) (by omega) (by rw[kc.ro];omega) 128
 have bs:Su 5 1 1 [nI .u8 0] [(0,1,nI .u8 128)] H1=.val (.slice H1.nx 0 1 none) (H1.newRow 5 1 [Y6 128] true):=RV 5 (nI .u8 0) (nI .u8 128) rfl H1
 simp only[c37,JR,ha,hb,nxa,en,ld,Tq,Ym,YY,bld,vE,box,ld8,TW,e1,Ux,bs,e2,RB,XF,XE,XJ,Wm,XO,Yn,XC,Xm,Xf,X2,XI,XP,XR,Xq,Y5,Y9,Yp,Yw,Xs,V4,TC,Vc,Wj,WN,WD,WB,XK,WJ,WC,WF,WG,XS,WH,WI,XV,WA,Vl,WE,XU,Xk,N8.g00,N8.g01,N8.g02,N8.g03,N8.g04,N8.g05,N8.g06,N8.g07,N8.g10,N8.g11,N8.g12,N8.g13,N8.g14,N8.g15,N8.g16,N8.g17,N8.g20,N8.g21,N8.g22,N8.g23,N8.g24,N8.g25,N8.g26,N8.g27,N8.g30,N8.g31,N8.g32,N8.g33,N8.g34,N8.g35,N8.g36,N8.g37,N8.g40,N8.g41,N8.g42,N8.g43,N8.g44,N8.g45,N8.g46,N8.g47,N8.g50,N8.g51,N8.g52,N8.g53,N8.g54,N8.g55,N8.g56,N8.g57,N8.g60,N8.g61,N8.g62,N8.g63,N8.g64,N8.g65,N8.g66,N8.g67,N8.g70,N8.g71,N8.g72,N8.g73,N8.g74,N8.g75,N8.g76,N8.g77,XB,XT,Xt,WW,X3,X4,WV,X5,Xb,WX,WU,Z5,Xu,Xj,UB,UC,VN,UA,Zn,Ud,Ru,TB,T7,Pc,Kh,Ji,Nu,R3,MG,Je,Lz,Ix,Jf,Jg,KM,EA,D5,D6,Jh,EB,Cn,Co,Cp,CK,nP,xW,Ij,Ik,Hv,F9,E5,KR,M1,IJ,IK,IL,EU,EV,BG,Fe,BH,BI,BJ,BK,BL,B7,B8,B9,Aa,Ff,Au,Hu,Ud]
 generalize hL:Wu (FA _) fuel _ _ _=L
 have hN1: ∀t,t<OU l.length->((l++[128]:List UInt8).length+t) % 64≠56:=λt ht=>by
  rw[Zo];unfold OU at ht;simp only[Zw,ZZ];omega
 have hN2:((l++[128]:List UInt8).length+OU l.length) % 64=56:=by
  rw[Zo];unfold OU;simp only[Zw,ZZ];omega
 have bj:OU l.length<64:=by unfold OU;omega
 have hl1:(l++[128]:List UInt8).length=l.length+1:=by simp
 obtain⟨tb,tr,tv,tg,tlo⟩:=tl
 obtain⟨uW,H2,rfl,j⟩:=TY (P:=λT=>L6 sb H.nx (H.nx+1) (H.nx+2) (l++[128]) Hc 0 T H') (Q:=L6 sb H.nx (H.nx+1) (H.nx+2) (l++[128]) Hc (OU l.length))
  (λT hi=>Rl (L6 sb H.nx (H.nx+1) (H.nx+2) (l++[128]) Hc) (L6 sb H.nx (H.nx+1) (H.nx+2) (l++[128]) Hc (OU l.length)) (OU l.length)
   (λt tm H ht hi=>fo hN1 (by rw[hl1];omega) _ _ t tm H ht hi) (λtm H hi=>fm hN2 _ _ tm H hi) (OU l.length) 0 fuel T H' (Zn _) (by omega) hi) hL
  ⟨rfl,rfl,rfl,rfl,by rw[SQ,WQ];exact⟨tb,tr,tv,tg,tlo⟩,k'⟩
 have j0:=j.t0;have j2:=j.t2;have j3:=j.t3;have j4:=j.t4;have j5:=j.t5
 simp only[Ud,Ru,TB,T7,Pc] at j0 j2 j3 j4 j5
 simp only[Yw,Yn,XO,XF,WN,XE,TC,Xf,Y9,RB,Hv]
 generalize hL2:Wu (FB _) fuel _ _ _=L2
 have kh:((l++[128]:List UInt8)++List.replicate (OU l.length) 0).length=l.length+1+OU l.length:=by simp;omega
 obtain⟨tm3,H3,rfl,q⟩:=TY (P:=λT=>L7 sb H.nx (H.nx+1) (H.nx+2) many ((l++[128])++List.replicate (OU l.length) 0) Hc 0 T H2) (Q:=L7 sb H.nx (H.nx+1) (H.nx+2) many ((l++[128])++List.replicate (OU l.length) 0) Hc 8)
  (λT hi=>Rl (L7 sb H.nx (H.nx+1) (H.nx+2) many ((l++[128])++List.replicate (OU l.length) 0) Hc) (L7 sb H.nx (H.nx+1) (H.nx+2) many ((l++[128])++List.replicate (OU l.length) 0) Hc 8) 8
   (λt tm H ht hi=>fq sC (by rw[kh];omega) _ _ t tm H ht hi) (λtm H hi=>fp _ _ tm H hi) 8 0 fuel T H2 (Zn _) (by omega) hi) hL2
  ⟨j0,j2,j3,j4,by rw[show Vu many 0=[] from rfl,WQ];exact j5,rfl,j.keep⟩
 have q0:=q.t0;have q2:=q.t2;have q3:=q.t3;have q4:=q.t4;have q5:=q.t5
 simp only[Ud,Ru,TB,T7,Pc] at q0 q2 q3 q4 q5
 have hpl:=vO l many
 have ZgJ:LG l many≠[]:=λe=>by rw[e] at hpl;simp at hpl
 obtain⟨bv,bfar⟩:=M4.bv (l:=LG l many) q5 ZgJ
 have scH:Own H3 (H.nx+2) 108 (h.map ZH++[.nils,nI .u64 0,.bool true]) rc:=⟨by rw[q.keep.get (H.nx+2) (by omega) (by simp)];exact sc.at_,sc.elem,sc.sz,sc.own,sc.fz,sc.sm,sc.cells,by rw[q.keep.ro];exact sc.ro⟩
 have bJ:H.nx+3<=H3.nx:=by have:=q.keep.nx;omega
 obtain⟨v4,H4,e4,_,_,k4,r4,Zg1⟩:=Dz (n:=n) (fuel:=fuel) hl hl2 hl3 hl4 hf hf2 hf3 uV hF hl5 mh (l:=LG l many) (by omega) (by rw[q.keep.get 3 (by omega) (by simp),kc.get 3 h7 (by simp)];exact hK) cK nK (by omega) (by omega) s.len (by omega) (by rw[q.keep.ro,kc.ro];omega) bv
  (λb o n c e=>by have:=bfar b o n c e;omega) scH
 simp only[Yw,Yn,XO,XF,WN,XE,TC,Xf,Y9,RB,zS,Xk,XJ,Wm,Wj,Vc,B7,B8,B9,Aa,Ff,Pc,T7,Cn,Co,Cp,q4,e4,N8.g00,N8.g01,N8.g02,N8.g03,N8.g04,N8.g05,N8.g06,N8.g07,N8.g10,N8.g11,N8.g12,N8.g13,N8.g14,N8.g15,N8.g16,N8.g17,N8.g20,N8.g21,N8.g22,N8.g23,N8.g24,N8.g25,N8.g26,N8.g27,N8.g30,N8.g31,N8.g32,N8.g33,N8.g34,N8.g35,N8.g36,N8.g37,N8.g40,N8.g41,N8.g42,N8.g43,N8.g44,N8.g45,N8.g46,N8.g47,N8.g50,N8.g51,N8.g52,N8.g53,N8.g54,N8.g55,N8.g56,N8.g57,N8.g60,N8.g61,N8.g62,N8.g63,N8.g64,N8.g65,N8.g66,N8.g67,N8.g70,N8.g71,N8.g72,N8.g73,N8.g74,N8.g75,N8.g76,N8.g77]
 generalize hL3:Wu (FC _) fuel _ _ _=L3x
 have s4:LX H4 (H.nx+2) (Vb K h (LG l many) ((LG l many).length/64)) .nils 0 r4:=⟨Zg1,RU K h _ s.len _,by have:=k4.nx;omega⟩
 have g4: ∀b,b=H.nx∨b=H.nx+1->H4.t.get b=Hb.t.get b:=λb hb=>by
  rw[k4.get b (by omega) (by simp;omega),q.keep.get b (by omega) (by simp),kbc.get b (by omega) (by simp)]
 have ro4:H4.ro=H.ro:=by rw[k4.ro,q.keep.ro,kc.ro]
 obtain⟨tm5,H5,rfl,z⟩:=TY (P:=λT=>L8 H.nx (H.nx+1) (H.nx+2) (Vb K h (LG l many) ((LG l many).length/64)) H4 0 T H4) (Q:=L8 H.nx (H.nx+1) (H.nx+2) (Vb K h (LG l many) ((LG l many).length/64)) H4 32)
  (λT hi=>Rl (L8 H.nx (H.nx+1) (H.nx+2) (Vb K h (LG l many) ((LG l many).length/64)) H4) (L8 H.nx (H.nx+1) (H.nx+2) (Vb K h (LG l many) ((LG l many).length/64)) H4 32) 32
   (λt tm H ht hi=>fw s4 (by omega) _ _ t tm H ht hi) (λtm H hi=>ft _ _ tm H hi) 32 0 fuel T H4 (Zn _) (by omega) hi) hL3
  ⟨q2,q3,q4,rfl,ZE.refl _ _,_,⟨by rw[g4 _ (.inr rfl)];exact gb,rfl,rfl,rfl,rfl,rfl,Cells.zero 25 32 (nI .u8 0) 0 false true true,by rw[ro4];omega⟩⟩
 obtain⟨r5,sI⟩:=z.row
 rw[show 32 - 32=0 from rfl,SQ,WQ] at sI
 have z2:=z.t2;have z3:=z.t3
 simp only[Ru,TB] at z2 z3
 have nd:((Aw K h l many).map Y6).length=32:=by rw[Zi];exact QV _ _
 have sI:Own H5 (H.nx+1) 25 ((Aw K h l many).map Y6) r5:=sI
 have ldd:Jo 32 (.ptr (H.nx+1) 0) H5=.val (.agg ((Aw K h l many).map Y6)) H5:=by
  rw[NL sI.at_ sI.cells (by omega),Y8,YH (by omega)]
 have r2:H5.t.get H.nx=some (.row ⟨25,1,32,.leaf,nI .u8 0,0,false,true,true⟩):=by
  rw[z.keep.get H.nx (by have:=k4.nx;omega) (by simp),g4 _ (.inl rfl),gb2]
 have std:RJ 32 (.ptr H.nx 0) (.agg ((Aw K h l many).map Y6)) H5=.val YZ (H5.put H.nx (.row (Row.setCells ⟨25,1,32,.leaf,nI .u8 0,0,false,true,true⟩ (YV .leaf 0 ((Aw K h l many).map Y6))))):=
  UU (v:=.agg ((Aw K h l many).map Y6)) r2 (Cells.zero 25 32 (nI .u8 0) 0 false true true) rfl (by rw[z.keep.ro,ro4];exact hro) rfl (by omega) nd (by simp)
 have cw:Cells (Row.setCells ⟨25,1,32,.leaf,nI .u8 0,0,false,true,true⟩ (YV .leaf 0 ((Aw K h l many).map Y6))) ((Aw K h l many).map Y6):=(Cells.zero 25 32 (nI .u8 0) 0 false true true).whole (by rw[nd,Wf])
 simp only[Yw,Yn,XC,XO,XF,XT,Xt,XE,Ru,TB,CK,Au,z2,z3,ldd,std,V4,Xf,X2,QI,N8.g00,N8.g01,N8.g02,N8.g03,N8.g04,N8.g05,N8.g06,N8.g07,N8.g10,N8.g11,N8.g12,N8.g13,N8.g14,N8.g15,N8.g16,N8.g17,N8.g20,N8.g21,N8.g22,N8.g23,N8.g24,N8.g25,N8.g26,N8.g27,N8.g30,N8.g31,N8.g32,N8.g33,N8.g34,N8.g35,N8.g36,N8.g37,N8.g40,N8.g41,N8.g42,N8.g43,N8.g44,N8.g45,N8.g46,N8.g47,N8.g50,N8.g51,N8.g52,N8.g53,N8.g54,N8.g55,N8.g56,N8.g57,N8.g60,N8.g61,N8.g62,N8.g63,N8.g64,N8.g65,N8.g66,N8.g67,N8.g70,N8.g71,N8.g72,N8.g73,N8.g74,N8.g75,N8.g76,N8.g77]
 refine⟨_,ML z2 (by rw[Xu,if_pos rfl]) cw nd,ZE.then_put ?_ λhlt=>absurd hlt (Rx _)⟩
 have kH3:ZE H H3 []:=kc.trans' q.keep
 exact((kH3.trans k4 (S:=[]) λc hc hlt=>by simp only[YJ] at hc;omega).trans z.keep λc hc hlt=>by simp only[YJ] at hc;omega)
end
theorem zh{H:Heap}{v w:AV}{l m:List UInt8}{lo:Nat}(h:Buf H v l lo)(hs:Src H w (m.map Y6))(hl:l.length+m.length<=140737488355328)(hro:H.ro<=H.nx)(hlo:lo<=H.nx):
  ∃v' H',V2 5 1 1 v w H=.val v' H'∧Buf H' v' (l++m) lo∧Below lo H H':=by
 rw[TU (Zq 1) hs,Zi]
 by_cases hm:m=[]
 ·subst hm
  rw[WQ]
  rcases h with⟨rfl,rfl⟩|⟨hne,b,r,rfl,g,hb⟩
  ·exact⟨_,_,rfl,.inl ⟨rfl,rfl⟩,Below.refl _ _⟩
  ·refine⟨.slice b 0 l.length none,H,?_,.inr ⟨hne,b,r,rfl,g,hb⟩,Below.refl _ _⟩
   have hs:r.size=l.length:=by rw[g.cells.size,Zi]
   show X6 H b _=_
   unfold X6
   simp only[g.at_]
   have h1:HC r 1 none=true:=by show Nat.beq r.sz 1=true;rw[g.sz];rfl
   have h2:Ta r 0 none=l.length:=by show cond (Nat.beq r.sz 1) (r.size - 0) _=_;rw[g.sz,hs];rfl
   rw[h1]
   show cond (Nat.ble (l.length+0) (Ta r 0 none)) _ _=_
   rw[h2,Zj (by omega)];rfl
 ·have hm0:0<m.length:=UN.2 hm
  rcases h with⟨rfl,rfl⟩|⟨hne,b,r,rfl,g,hb⟩
  ·have g:=NW (H:=H) (e:=5) (l:=m.map Y6) hro
   have e:=Lj (e:=5) (H:=H) (l:=m.map Y6) (by rw[Zi];exact hm0) (by rw[Zi];simpa using hl)
   rw[Zi] at e
   exact⟨_,_,e,.inr ⟨by simpa using hm,_,_,by rw[WR],by rw[WR];exact g,hlo⟩,Below.new lo H _⟩
  ·obtain⟨H',r',e,g',k',nx'⟩:=JQ (m:=m.map Y6) g (by rw[Zi];exact hm0) (by rw[Zi,Zi];exact hl)
   rw[Zi,Zi] at e
   refine⟨_,H',e,.inr ⟨by simp[hm],H.nx,r',by rw[Zo],by rw[YX];exact g',hlo⟩,⟨by omega,k'.ro,λc h1 h2=>k'.get c h2 (by simp;omega)⟩⟩
theorem ZeE{H:Heap}{v:AV}{l:List UInt8}(h:BV H v l):Src H v (l.map Y6):=by
 rcases h with⟨rfl,rfl|⟨b,o,c,rfl⟩⟩|⟨hne,b,o,c,r,rfl,hb,_⟩
 ·exact Src.nils H
 ·exact Src.none H b o c
 ·have e:l.length=(l.map Y6).length:=by rw[Zi]
  rw[e]
  refine Src.row hb.at_ (by rw[<-e];exact hb.fits) λi hi=>?_
  rw[<-e] at hi
  rw[hb.get i hi,Zh,Zh,Z1,Zr hi];rfl
theorem Zg6(a b:Nat)(hb:0<b)(G:Heap):sO (nI .i64 a) (nI .i64 b) G=.val (nI .i64 (a % b)) G:=by
 show ZR (Nf .i64 .i64) (cond (E1 (.ofNat b) (.ofNat 0)) .fail (Pq (.ofNat (Nat.mod a b)) λn=>.val (.int .i64 n) G))=_
 rw[Wd,Ov,Zd (by omega),Qp];rfl
structure DZ(H0:Heap)(lo:Nat)(l1:List UInt8)(Z:Nat)(v0 v2:AV)(m:Nat)(tm:TM)(H:Heap):Prop where
 t0:ZO tm=v0
 t2:Xw tm=v2
 bl:Below lo H0 H
 i: ∃j,j+m=Z∧Buf H (Xa tm) (l1++List.replicate j 0) lo
def DZQ(H0:Heap)(lo:Nat)(l1:List UInt8)(Z:Nat)(v0 v2:AV)(o:Out)(tm:TM)(H:Heap):Prop:=o=.exit 0∧DZ H0 lo l1 Z v0 v2 0 tm H
theorem gj{H0:Heap}{lo:Nat}{l1:List UInt8}{Z:Nat}{v0 v2:AV}(hn1: ∀j,j<Z->(l1.length+j) % 64≠56)(hn2:(l1.length+Z) % 64=56)(hlen:l1.length+Z<140737488355328)(hne:l1≠[])(hro:H0.ro<=H0.nx)(hlo:lo<=H0.nx)(cx:Ctx)(x:X)(m:Nat)(tm:TM)(H:Heap)(h:DZ H0 lo l1 Z v0 v2 m tm H):
  ∃o tm' H',wt cx tm H x=.ok o tm' H' x∧((o=.normal∧ ∃k,k<m∧DZ H0 lo l1 Z v0 v2 k tm' H')∨(o≠.normal∧DZQ H0 lo l1 Z v0 v2 o tm' H')):=by
 obtain⟨t0,t2,bl,j,hj,hbuf⟩:=h
 have lY:=hbuf
 have nn:=bl.nx
 have hroH:H.ro<=H.nx:=by rw[bl.ro];omega
 have hl:(l1++List.replicate j (0:UInt8)).length=l1.length+j:=by rw[Zo,Wf]
 obtain⟨v,hv⟩: ∃v,Xa tm=v:=⟨_,rfl⟩
 rw[hv] at hbuf lY
 simp only[TB] at hv
 rcases hbuf with⟨e,_⟩|⟨_,b,r,e,_,_⟩
 ·exact absurd (List.append_eq_nil_iff.1 e).1 hne
 rw[hl] at e
 have rm:=λG=>Zg6 (l1.length+j) 64 (by decide) G
 have lv: ∀G,Ko v G=.val (nI .i64 (l1.length+j)) G:=λG=>by rw[e];exact Z5 ..
 by_cases hz:j=Z
 ·have dn:decide ((l1.length+j) % 64≠56)=false:=Zd (by rw[hz];omega)
  simp(maxSteps:=4000000) (disch:=first|assumption|omega|(simp -implicitDefEqProofs only[ZA,ZB]<;>first|assumption|omega)|decide) only[hv,lv,rm,dn,Qy,wt,Z4,Yr,Zy,Zz,Zk,Zm,Zl,Nat.reducePow,Nat.reduceDiv,Nat.reduceMod,Nat.reduceEqDiff,reduceCtorEq,Yu]
  refine⟨_,_,_,rfl,?_⟩
  exact .inr ⟨by simp,rfl,t0,t2,bl,j,by omega,by show Buf H (N8.a3 (N8.a0 (N8.a0 tm))) _ lo;rw[hv];exact lY⟩
 ·have dn:decide ((l1.length+j) % 64≠56)=true:=Zg (hn1 j (by omega))
  obtain⟨v',H',ea,hb',bl'⟩:=wo lY (by rw[hl];omega) hroH (by omega) 0
  have ea:V2 5 1 1 v (.slice H.nx 0 1 none) (H.new (rG 5 1 [nI .u8 0] 0 false true true))=.val v' H':=ea
  simp(maxSteps:=4000000) (disch:=first|assumption|omega|(simp -implicitDefEqProofs only[ZA,ZB]<;>first|assumption|omega)|decide) only[hv,lv,rm,dn,ea,Qy,Ux,RV,J6,TW,Ym,YY,wt,Z4,Yr,Zy,Zz,Zk,Zm,Zl,Nat.reducePow,Nat.reduceDiv,Nat.reduceMod,Nat.reduceEqDiff,reduceCtorEq,Yu]
  exact⟨_,_,_,rfl,.inl ⟨rfl,m - 1,by omega,t0,t2,bl.trans bl',j+1,by omega,by
   rw[List.replicate_succ',<-Y4];exact hb'⟩⟩
def yu(n:Nat):List AV:=[nI .u8 (n/256/256/256/256/256/256/256 % 256),nI .u8 (n/256/256/256/256/256/256 % 256),nI .u8 (n/256/256/256/256/256 % 256),nI .u8 (n/256/256/256/256 % 256),nI .u8 (n/256/256/256 % 256),nI .u8 (n/256/256 % 256),nI .u8 (n/256 % 256),nI .u8 (n % 256)]
theorem Zcb(y:Nat):nI .u8 (y % 256)=Y6 (UInt8.ofNat y):=by
 unfold nI Y6;rw[Rh]
theorem j7(many:Nat):yu (many*8 % 18446744073709551616)=(Vu many 8).map Y6:=by
 unfold yu Vu
 rw[show List.range 8=[0,1,2,3,4,5,6,7] from rfl]
 simp only[Ym,YY,Kn,Zcb,Nat.div_div_eq_div_mul,Nat.reduceMul,Nat.reduceSub,Nat.reducePow,Nat.div_one]
theorem ZaA{F n:Nat}(hF:9<=F)(hn:n<18446744073709551616){tm:TM}{Hx:Heap}(hro:Hx.ro<=Hx.nx)(cx:Ctx)(x:X)(t4:YT tm=nI .u64 n)(t5:XW tm=.ptr Hx.nx 0)(t6:W2 tm=nI .i64 7):
  ∃tm',Wu (wu cx) F tm (Hx.new (rG 47 1 [nI .u8 0,nI .u8 0,nI .u8 0,nI .u8 0,nI .u8 0,nI .u8 0,nI .u8 0,nI .u8 0] 0 false true true)) x=.ok (.exit 2) tm' (Hx.new (rG 47 1 (yu n) 0 false true true)) x∧ZO tm'=ZO tm∧Xw tm'=Xw tm∧Xa tm'=Xa tm∧XW tm'=XW tm:=by
 obtain⟨F,rfl⟩: ∃G,F=G+9:=⟨F - 9,by omega⟩
 simp only[T7,Pc,Nd] at t4 t5 t6
 have i9: ∀G,AR (nI .i64 0) (nI .i64 1) G=.val (.int .i64 (.negSucc 0)) G:=λ_=>rfl
 have c9: ∀G,K7 T0 WY (.int .i64 (.negSucc 0)) (nI .i64 0) G=.val (.bool false) G:=λ_=>rfl
 have c8: ∀i G,K7 T0 WY (nI .i64 i) (nI .i64 0) G=.val (.bool true) G:=λi G=>by rw[Wn,Zg (Yv i)]
 have sb: ∀i,0<i->i<8-> ∀G,AR (nI .i64 i) (nI .i64 1) G=.val (nI .i64 (i - 1)) G:=λi h0 h1 G=>Ot (by omega) (by omega) G
 have s7:=sb 7 (by decide) (by decide);have s6:=sb 6 (by decide) (by decide);have s5:=sb 5 (by decide) (by decide);have s4:=sb 4 (by decide) (by decide);have s3:=sb 3 (by decide) (by decide);have s2:=sb 2 (by decide) (by decide);have s1:=sb 1 (by decide) (by decide)
 have rm: ∀a G,sO (nI .u64 a) (nI .u64 256) G=.val (nI .u64 (a % 256)) G:=λa G=>vW (by decide) G
 have ti: ∀a G,LB .u8 (nI .u64 (a % 256)) G=.val (nI .u8 (a % 256)) G:=λa G=>qC (T5 _ (by decide)) G
 have qq: ∀a,a<18446744073709551616-> ∀G,np (nI .u64 a) (nI .u64 256) G=.val (nI .u64 (a/256)) G:=λa h G=>vR (by decide) h G
 have q0:=qq (n) (hn)
 have h0:n<18446744073709551616:=hn
 have q1:=qq (n/256) (Xd (XL _ _) h0)
 have h1:n/256<18446744073709551616:=Xd (XL _ _) h0
 have q2:=qq (n/256/256) (Xd (XL _ _) h1)
 have h2:n/256/256<18446744073709551616:=Xd (XL _ _) h1
 have q3:=qq (n/256/256/256) (Xd (XL _ _) h2)
 have h3:n/256/256/256<18446744073709551616:=Xd (XL _ _) h2
 have q4:=qq (n/256/256/256/256) (Xd (XL _ _) h3)
 have h4:n/256/256/256/256<18446744073709551616:=Xd (XL _ _) h3
 have q5:=qq (n/256/256/256/256/256) (Xd (XL _ _) h4)
 have h5:n/256/256/256/256/256<18446744073709551616:=Xd (XL _ _) h4
 have q6:=qq (n/256/256/256/256/256/256) (Xd (XL _ _) h5)
 have h6:n/256/256/256/256/256/256<18446744073709551616:=Xd (XL _ _) h5
 have q7:=qq (n/256/256/256/256/256/256/256) (Xd (XL _ _) h6)
 have h7:n/256/256/256/256/256/256/256<18446744073709551616:=Xd (XL _ _) h6
 have sti: ∀(o:Nat) (l:List AV) (y:Nat),l.length=8->o<8->re 1 (some (rG 47 1 l 0 false true true)) Hx.nx o (nI .u8 y) (Hx.new (rG 47 1 l 0 false true true))=.val YZ (Hx.new (rG 47 1 (l.set o (nI .u8 y)) 0 false true true)):=λo l y h1 h2=>by
  rw[pq (H:=Hx.new (rG 47 1 l 0 false true true)) (HR .u8 y) (by omega) hro (Yv _),Py rfl]
 have g8:=λo=>Z3 (H:=Hx) rfl o
 simp(maxSteps:=4000000) (disch:=first|assumption|omega|(simp -implicitDefEqProofs only[ZA,ZB]<;>first|assumption|omega)|decide) only[Oh,t4,t5,t6,i9,c9,c8,s1,s2,s3,s4,s5,s6,s7,rm,ti,q0,q1,q2,q3,q4,q5,q6,q7,sti,g8,Vd,Zn,Nat.reduceSub,wu,Z4,Yr,Zy,Zz,Zk,Zm,Zl,Nat.reducePow,Nat.reduceDiv,Nat.reduceMod,Nat.reduceEqDiff,reduceCtorEq,Yu,VW]
 refine⟨_,rfl,rfl,rfl,rfl,t5⟩
theorem Hq: ∀l:List UInt32,RN (l.map ZH) (l.map ZH)=true
 |[]=>by unfold RN;rfl
 |a::l=>by
  show RN (ZH a::l.map ZH) (ZH a::l.map ZH)=true
  unfold RN;rw[ue,Hq l];rfl
structure DB(H0:Heap)(pb hb kb:Nat)(pd:List UInt8)(B0:List UInt32)(Tn:Nat)(v2:AV)(m:Nat)(tm:TM)(H:Heap):Prop where
 t2:Xw tm=v2
 t3:Xa tm=.slice pb 0 pd.length none
 t7:Wp tm=.ptr kb 0
 t8:XG tm=.ptr hb 0
 k:ZE H0 H [hb]
 i: ∃t,t+m=Tn∧Wq tm=nI .i64 (64*t)∧H.t.get hb=some (rG 51 1 ((Vb WL B0 pd t).map ZH) 0 false true true)
def DBQ(H0:Heap)(pb hb kb:Nat)(pd:List UInt8)(B0:List UInt32)(Tn:Nat)(v2:AV)(o:Out)(tm:TM)(H:Heap):Prop:=o=.exit 4∧DB H0 pb hb kb pd B0 Tn v2 0 tm H
theorem iZ{ZM:Lib}{fs:T CF}{fuel:Nat}(E:Env ZM fs fuel){d:Nat}{H0:Heap}{pb hb kb:Nat}{pd:List UInt8}{B0:List UInt32}{Tn:Nat}{v2:AV}{rp rk:Row}(hp:H0.t.get pb=some (.row rp))(cp:Cells rp (pd.map Y6))(zp:rp.sz=1)(hpb:pb<H0.nx)(hne:pb≠hb)(hk:H0.t.get kb=some (.row rk))(ck:Cells rk (WL.map ZH))(hkb:kb<H0.nx)(hnk:kb≠hb)(hro:H0.ro<=hb)(hhb:hb<H0.nx)(hB:B0.length=8)(hT:pd.length=64*Tn)(hl:pd.length<140737488355328)(y f r)(x:X)(m:Nat)(tm:TM)(H:Heap)(h:DB H0 pb hb kb pd B0 Tn v2 m tm H):
  ∃o tm' H',wv ⟨Yo (LK ZM fs fuel 2) fs fuel (d+1),y,f,fuel,r⟩ tm H x=.ok o tm' H' x∧((o=.normal∧ ∃k,k<m∧DB H0 pb hb kb pd B0 Tn v2 k tm' H')∨(o≠.normal∧DBQ H0 pb hb kb pd B0 Tn v2 o tm' H')):=by
 obtain⟨t2,t3,t7,t8,k0,t,kn,t9,gh⟩:=h
 have t2':=t2;have AS:=t3;have pv:=t7;have mj:=t8;have t9':=t9
 simp only[TB,N2,Kh,Ji] at t3 t7 t8 t9
 by_cases ht:t<Tn
 ·have d1:decide (64*t<pd.length)=true:=Zg (by omega)
  have n0:=k0.nx
  have gp:H.t.get pb=some (.row rp):=by rw[k0.get pb hpb (by simp;exact hne)];exact hp
  have gk:H.t.get kb=some (.row rk):=by rw[k0.get kb hkb (by simp;exact hnk)];exact hk
  have sp:rp.size=pd.length:=by rw[cp.size,Zi]
  have hlen:=RU WL B0 pd hB t
  obtain⟨hs,hhs⟩: ∃hs,Vb WL B0 pd t=hs:=⟨_,rfl⟩
  have hnx:Vb WL B0 pd (t+1)=NS WL hs ((pd.drop (64*t)).take 64):=by rw[<-hhs];rfl
  rw[hhs] at gh hlen
  have l8: ∀G,Gv 8 (some (rG 51 1 (hs.map ZH) 0 false true true)) 0 G=.val (.agg (hs.map ZH)) G:=λG=>xh (R:=⟨51,1,YF (hs.map ZH),T.ofList (hs.map ZH),.unk,0,false,true,true⟩) (Cells.new ..) (by rw[Zi,hlen]) G
  have l64: ∀G,Gv 64 (some (.row rk)) 0 G=.val (.agg (WL.map ZH)) G:=λG=>xh ck (by rw[Zi];rfl) G
  have s1: ∀G,G.t.get pb=some (.row rp)->Mb 1 (.slice pb 0 pd.length none) (some (nI .i64 (64*t))) (some (nI .i64 (64*t+64))) G=.val (.slice pb (64*t) 64 none) G:=λG hG=>by
   have:=yf (H:=G) (b:=pb) (o:=0) (len:=pd.length) (l:=64*t) (h:=64*t+64) (cap:=none) hG zp (by omega) (by omega) (λ_ h=>by cases h) .i64 .i64
   rw[Zn,UE] at this
   exact this
  have s1H:=s1 H gp
  have s1R:=s1 ⟨H.nx,H.t,H.nx⟩ gp
  have hbl:((pd.drop (64*t)).take 64).length=64:=by rw[Ys,ZV];omega
  have hby:Bytes H pb (64*t) none ((pd.drop (64*t)).take 64) rp:=⟨gp,zp,by rw[hbl];omega,λi hi=>by
   rw[hbl] at hi
   rw[cp.get _ (by rw[Zi];omega),Zh,Z1,Zr (by omega),Zh,Vg hi,Vj,Zr (by omega)];rfl,λ_ h=>by cases h⟩
  have e:=ZfE (ZM:=ZM) (fs:=fs) (fuel:=fuel) E (k:=2) (n:=d) (by decide) (H:=H) (by rw[k0.ro];omega) hlen hby hbl (by omega)
  have st:=PJ (n:=8) (b:=hb) (l:=hs.map ZH) (vs:=(NS WL hs ((pd.drop (64*t)).take 64)).map ZH) (H:=H) (by rw[Zi,hlen]) (by rw[Zi];exact Ql ..) (by decide) (by rw[k0.ro];exact hro) 51 1 false true
  have ad:=λG=>WM (a:=64*t) (b:=64) (by omega) G
  have sm:=Oe (Hq hs)
  have smk:=Oe (Hq WL)
  have lw:=Jr H.nx hs
  have lwk:=Jr H.nx WL
  have lp:=Z6 (n:=H.nx) (b:=hb) (by omega) 0
  have lk:=Z6 (n:=H.nx) (b:=kb) (by omega) 0
  have ls:=λo n=>UR (n:=H.nx) (b:=pb) (by omega) o n none
  simp(maxSteps:=4000000) (disch:=first|assumption|omega|(simp -implicitDefEqProofs only[ZA,ZB]<;>first|assumption|omega)|decide) only[t3,t7,t8,t9,d1,gp,gk,gh,l8,l64,s1H,s1R,e,st,ad,sm,smk,lw,lwk,lp,lk,ls,Gx,Rk,Oj,Xv,Uw,Z5,Zx,wv,Z4,Yr,Zy,Zz,Zk,Zm,Zl,Nat.reducePow,Nat.reduceDiv,Nat.reduceMod,Nat.reduceEqDiff,reduceCtorEq,Yu,VW]
  refine⟨_,_,_,rfl,?_⟩
  exact .inl ⟨rfl,m - 1,by omega,t2',AS,pv,mj,k0.then_put λ_=>by simp,t+1,by omega,rfl,by rw[SG,hnx]⟩
 ·have d1:decide (64*t<pd.length)=false:=Zd (by omega)
  simp(maxSteps:=4000000) (disch:=first|assumption|omega|(simp -implicitDefEqProofs only[ZA,ZB]<;>first|assumption|omega)|decide) only[t3,t9,d1,Z5,Zx,wv,Z4,Yr,Zy,Zz,Zk,Zm,Zl,Nat.reducePow,Nat.reduceDiv,Nat.reduceMod,Nat.reduceEqDiff,reduceCtorEq,Yu,VW]
  refine⟨_,_,_,rfl,?_⟩
  exact .inr ⟨by simp,rfl,t2',AS,pv,mj,k0,t,by omega,t9',gh⟩
theorem wG(a:UInt32)(H:Heap):LB .u8 (ZH a) H=.val (Y6 a.toUInt8) H:=by
 show UV .u8 (.ofNat a.toNat) H=_
 rw[Xz,KI]
 unfold Y6
 rw[UInt32.toNat_toUInt8]
structure DJ(H0:Heap)(hb ob:Nat)(hs:List UInt32)(v2:AV)(i:Nat)(m:Nat)(tm:TM)(H:Heap):Prop where
 t2:Xw tm=v2
 t8:XG tm=.ptr hb 0
 t10:YA tm=.ptr ob 0
 t11:Ye tm=nI .i64 i
 k:ZE H0 H [ob]
 i: ∃j,j+m=4∧Yi tm=nI .i64 j∧ ∃R,H.t.get ob=some (.row R)∧R.size=32∧R.own=true∧R.fz=0∧ ∀q,q<4*i+j->R.get q=Y6 (HT hs q)
def DJQ(H0:Heap)(hb ob:Nat)(hs:List UInt32)(v2:AV)(i:Nat)(o:Out)(tm:TM)(H:Heap):Prop:=o=.exit 8∧DJ H0 hb ob hs v2 i 0 tm H
theorem hM{H0:Heap}{hb ob:Nat}{hs:List UInt32}{v2:AV}{i:Nat}(hi:i<8)(hh:hs.length=8)(gh:H0.t.get hb=some (rG 51 1 (hs.map ZH) 0 false true true))(hhb:hb<H0.nx)(hne:hb≠ob)(hro:H0.ro<=ob)(cx:Ctx)(x:X)(m:Nat)(tm:TM)(H:Heap)(h:DJ H0 hb ob hs v2 i m tm H):
  ∃o tm' H',wx cx tm H x=.ok o tm' H' x∧((o=.normal∧ ∃k,k<m∧DJ H0 hb ob hs v2 i k tm' H')∨(o≠.normal∧DJQ H0 hb ob hs v2 i o tm' H')):=by
 obtain⟨t2,t8,t10,t11,k0,j,hjm,t12,Rw,gw,hsz,how,hfz,hR⟩:=h
 have t2':=t2;have mj:=t8;have rj:=t10;have rl:=t11;have Zb4:=t12
 simp only[Kh,Nu,R3,MG] at t8 t10 t11 t12
 by_cases hj:j<4
 ·have d1:decide (j<4)=true:=Zg hj
  have gH:H.t.get hb=some (rG 51 1 (hs.map ZH) 0 false true true):=by rw[k0.get hb hhb (by simp;exact hne)];exact gh
  have m1:=λG=>Hh (a:=4) (b:=i) (by omega) G
  have m2:=λG=>Hh (a:=8) (b:=j) (by omega) G
  have a1:=λG=>WM (a:=4*i) (b:=j) (by omega) G
  have a2:=λG=>WM (a:=j) (b:=1) (by omega) G
  have sb:=λG=>Ot (a:=24) (b:=8*j) (by omega) (by omega) G
  have sr:=λG=>uj (hs.getD i 0) (n:=24 - 8*j) (by omega) .i64 G
  have ix: ∀G,Gu 8 1 (.ptr hb 0) (nI .i64 i) G=.val (.ptr hb (0+i)) G:=λG=>Vd hi hb 0 .i64 G
  have iy: ∀G,Gu 32 1 (.ptr ob 0) (nI .i64 (4*i+j)) G=.val (.ptr ob (0+(4*i+j))) G:=λG=>Vd (by omega) ob 0 .i64 G
  have lh: ∀G,ld1 (some (rG 51 1 (hs.map ZH) 0 false true true)) i G=.val (ZH (hs.getD i 0)) G:=λG=>by
   rw[ZX (by rw[Zi,hh];exact hi),FR (by rw[hh];exact hi)]
  have eb:(hs.getD i 0>>>UInt32.ofNat (24 - 8*j)).toUInt8=HT hs (4*i+j):=by
   unfold HT;rw[show(4*i+j)/4=i by omega,show(4*i+j) % 4=j by omega]
  have st:=xV (r:=Rw) (b:=ob) (o:=4*i+j) (v:=Y6 (HT hs (4*i+j))) (H:=H) rfl (by omega) how (by rw[k0.ro];exact hro) (by omega)
  simp(maxSteps:=4000000) (disch:=first|assumption|omega|(simp -implicitDefEqProofs only[ZA,ZB]<;>first|assumption|omega)|decide) only[t8,t10,t11,t12,d1,gH,gw,m1,m2,a1,a2,sb,sr,ix,iy,lh,eb,st,wG,Zx,Zn,wx,Z4,Yr,Zy,Zz,Zk,Zm,Zl,Nat.reducePow,Nat.reduceDiv,Nat.reduceMod,Nat.reduceEqDiff,reduceCtorEq,Yu,SF]
  exact⟨_,_,_,rfl,.inl ⟨rfl,m - 1,by omega,t2',mj,rj,rl,k0.then_put λ_=>by simp,j+1,by omega,rfl,_,SG ..,hsz,how,hfz,λq hq=>by
   rw[Row.st_get]
   by_cases e:4*i+j=q
   ·rw[if_pos e,e]
   ·rw[if_neg e];exact hR q (by omega)⟩⟩
 ·have d1:decide (j<4)=false:=Zd hj
  simp(maxSteps:=4000000) (disch:=first|assumption|omega|(simp -implicitDefEqProofs only[ZA,ZB]<;>first|assumption|omega)|decide) only[t12,d1,Zx,wx,Z4,Yr,Zy,Zz,Zk,Zm,Zl,Nat.reducePow,Nat.reduceDiv,Nat.reduceMod,Nat.reduceEqDiff,reduceCtorEq,Yu,SF]
  refine⟨_,_,_,rfl,?_⟩
  exact .inr ⟨by simp,rfl,t2',mj,rj,rl,k0,j,by omega,Zb4,Rw,gw,hsz,how,hfz,hR⟩
structure DO4(H0:Heap)(hb ob:Nat)(hs:List UInt32)(v2:AV)(m:Nat)(tm:TM)(H:Heap):Prop where
 t2:Xw tm=v2
 t8:XG tm=.ptr hb 0
 t10:YA tm=.ptr ob 0
 k:ZE H0 H [ob]
 i: ∃i,i+m=8∧Ye tm=nI .i64 i∧ ∃R,H.t.get ob=some (.row R)∧R.size=32∧R.own=true∧R.fz=0∧ ∀q,q<4*i->R.get q=Y6 (HT hs q)
def DOQ(H0:Heap)(hb ob:Nat)(hs:List UInt32)(v2:AV)(o:Out)(tm:TM)(H:Heap):Prop:=o=.exit 6∧DO4 H0 hb ob hs v2 0 tm H
theorem hY{H0:Heap}{hb ob:Nat}{hs:List UInt32}{v2:AV}(hh:hs.length=8)(gh:H0.t.get hb=some (rG 51 1 (hs.map ZH) 0 false true true))(hhb:hb<H0.nx)(hne:hb≠ob)(hro:H0.ro<=ob)(cx:Ctx)(hF:10<=cx.fuel)(x:X)(m:Nat)(tm:TM)(H:Heap)(h:DO4 H0 hb ob hs v2 m tm H):
  ∃o tm' H',A0 cx tm H x=.ok o tm' H' x∧((o=.normal∧ ∃k,k<m∧DO4 H0 hb ob hs v2 k tm' H')∨(o≠.normal∧DOQ H0 hb ob hs v2 o tm' H')):=by
 obtain⟨t2,t8,t10,k0,i,him,t11,Rw,gw,hsz,how,hfz,hR⟩:=h
 have t2':=t2;have mj:=t8;have rj:=t10;have rl:=t11
 simp only[R3] at t11
 by_cases hi:i<8
 ·have d1:decide (i<8)=true:=Zg hi
  simp(maxSteps:=4000000) (disch:=first|assumption|omega|(simp -implicitDefEqProofs only[ZA,ZB]<;>first|assumption|omega)|decide) only[t11,d1,Zx,A0,Z4,Yr,Zy,Zz,Zk,Zm,Zl,Nat.reduceEqDiff,reduceCtorEq,Yu,VW]
  generalize hL:Wu (wx _) _ _ _ _=L
  obtain⟨o,Pi,H2,rfl,_,rfl,u2,u8,u10,u11,k1,j,hj,u12,R2,g2,s2,o2,f2,hR2⟩:=X9 (P:=λT=>DJ H0 hb ob hs v2 i 4 T H) (Q:=DJQ H0 hb ob hs v2 i)
   (λT hi2=>Wv (DJ H0 hb ob hs v2 i) (DJQ H0 hb ob hs v2 i) (λm tm H' h=>hM hi hh gh hhb hne hro _ _ m tm H' h) cx.fuel 4 T H (by omega) hi2) hL
   (by exact⟨t2',mj,rj,rl,k0,0,rfl,rfl,Rw,gw,hsz,how,hfz,hR⟩)
  have ad:=λG=>WM (a:=i) (b:=1) (by omega) G
  have u11':=u11
  simp only[R3] at u11
  simp(maxSteps:=4000000) (disch:=first|assumption|omega|(simp -implicitDefEqProofs only[ZA,ZB]<;>first|assumption|omega)|decide) only[u11,ad,A0,Z4,Yr,Zy,Zz,Zk,Zm,Zl,Nat.reduceEqDiff,reduceCtorEq,Yu,VW]
  refine⟨_,_,_,rfl,?_⟩
  exact .inl ⟨rfl,m - 1,by omega,u2,u8,u10,k1,i+1,by omega,rfl,R2,g2,s2,o2,f2,λq hq=>hR2 q (by omega)⟩
 ·have d1:decide (i<8)=false:=Zd hi
  simp(maxSteps:=4000000) (disch:=first|assumption|omega|(simp -implicitDefEqProofs only[ZA,ZB]<;>first|assumption|omega)|decide) only[t11,d1,Zx,A0,Z4,Yr,Zy,Zz,Zk,Zm,Zl,Nat.reduceEqDiff,reduceCtorEq,Yu,VW]
  refine⟨_,_,_,rfl,?_⟩
  exact .inr ⟨by simp,rfl,t2',mj,rj,k0,i,by omega,rl,Rw,gw,hsz,how,hfz,hR⟩
theorem li{F n:Nat}{tm:TM}{Hx:Heap}{cx:Ctx}{x:X}{L:WS}(hL:Wu (wu cx) F tm (Hx.new (rG 47 1 [nI .u8 0,nI .u8 0,nI .u8 0,nI .u8 0,nI .u8 0,nI .u8 0,nI .u8 0,nI .u8 0] 0 false true true)) x=L)(hF:9<=F)(hn:n<18446744073709551616)(hro:Hx.ro<=Hx.nx)(t4:YT tm=nI .u64 n)(t5:XW tm=.ptr Hx.nx 0)(t6:W2 tm=nI .i64 7):
  ∃tm',L=.ok (.exit 2) tm' (Hx.new (rG 47 1 (yu n) 0 false true true)) x∧ZO tm'=ZO tm∧Xw tm'=Xw tm∧Xa tm'=Xa tm∧XW tm'=XW tm:=by
 obtain⟨tm',e,h⟩:=ZaA hF hn hro cx x t4 t5 t6
 exact⟨tm',hL.symm.trans e,h⟩
def Lo:List UInt32:=[1779033703,3144134277,1013904242,2773480762,1359893119,2600822924,528734635,1541459225]
def PS(l:List UInt8):List UInt8:=(l++[128])++List.replicate (OU (l.length % 64)) 0++Vu l.length 8
def VR(l:List UInt8):List UInt8:=Qe (Vb WL Lo (PS l) ((PS l).length/64)) 32
theorem jw(l:List UInt8):(PS l).length=64*((PS l).length/64)∧(PS l).length=l.length+1+OU (l.length % 64)+8:=by
 have h:(PS l).length=l.length+1+OU (l.length % 64)+8:=by unfold PS Vu;simp;omega
 refine⟨?_,h⟩
 rw[h];unfold OU;omega
def z32:Row:=⟨24,1,32,.leaf,nI .u8 0,0,false,true,true⟩
theorem iz:(⟨24,1,32,.leaf,nI .u8 0,0,false,true,true⟩:Row)=z32:=rfl
theorem mc:Cells z32 (List.replicate 32 (nI .u8 0)):=Cells.zero ..
theorem wH(n:Nat): ∀l:List UInt8,Pd n (l.map Y6)=true
 |[]=>rfl
 |_::l=>wH n l
theorem lc{ZM:Lib}{fs:T CF}{fuel:Nat}(E:Env ZM fs fuel){n:Nat}{l:List UInt8}{v:AV}{H:Heap}(hro:H.ro<=H.nx)(hv:BV H v l)(hl:l.length<=100000):
  ∃H',Yo (LK ZM fs fuel 2) fs fuel (n+2) 6 [v] H=.ret (.agg ((VR l).map Y6)) H'∧ZE H H' []:=by
 rw[YM (YW E.n6 (.inl (by decide)) _ _) E.f6]
 have hf:=E.big
 have hlZ:OU (l.length % 64)<64:=T5 _ (by decide)
 obtain⟨Z,hZ⟩: ∃Z,OU (l.length % 64)=Z:=⟨_,rfl⟩
 have EE:=jw l
 have epd:PS l=(l++[128])++List.replicate Z 0++Vu l.length 8:=by rw[<-hZ];rfl
 have hn1: ∀j,j<Z->((l++[(128:UInt8)]).length+j) % 64≠56:=λj hj=>by
  rw[Zo];show(l.length+1+j) % 64≠56
  rw[<-hZ] at hj;unfold OU at hj;omega
 have hn2:((l++[(128:UInt8)]).length+Z) % 64=56:=by
  rw[Zo];show(l.length+1+Z) % 64=56
  rw[<-hZ];unfold OU;omega
 rw[hZ] at hlZ
 have hl1:(l++[(128:UInt8)]).length=l.length+1:=by rw[Zo];rfl
 obtain⟨H1,hH1⟩: ∃G,H.new (.row z32)=G:=⟨_,rfl⟩
 have J8:H1.nx=H.nx+1:=by rw[<-hH1];rfl
 have k1:ZE H H1 []:=by rw[<-hH1];exact ZE.new _ _ _
 have g1:H1.t.get H.nx=some (.row z32):=by rw[<-hH1];exact Z3 rfl _
 have bv1:BV H1 v l:=hv.keep k1 λ_ _ _ _ _=>by simp
 have qX:H1.ro<=H1.nx:=by rw[k1.ro];omega
 obtain⟨v1,H2,ea1,b1,w1⟩:=zh (H:=H1) (v:=.nils) (w:=v) (l:=[]) (m:=l) (lo:=H.nx+1) (.inl ⟨rfl,rfl⟩) (ZeE bv1) (by simp;omega) qX (by omega)
 rw[WR] at b1
 have m1:=w1.nx
 have ro2:H2.ro<=H2.nx:=by rw[w1.ro];omega
 obtain⟨v2,H3,ea2,b2,w2⟩:=wo b1 (by omega) ro2 (by omega) 128
 have ea2:V2 5 1 1 v1 (.slice H2.nx 0 1 none) (H2.new (rG 5 1 [nI .u8 128] 0 false true true))=.val v2 H3:=ea2
 have m2:=w2.nx
 have ro3:H3.ro<=H3.nx:=by rw[w2.ro];omega
 simp(maxSteps:=4000000) (disch:=first|assumption|omega|(simp -implicitDefEqProofs only[ZA,ZB]<;>first|assumption|omega)|decide) only[iz,hH1,ea1,ea2,Ux,RV,J6,TW,Ym,YY,c6,Z4,Yr,Zy,Zz,Zk,Zm,Zl,Nat.reducePow,Nat.reduceDiv,Nat.reduceMod,Nat.reduceEqDiff,reduceCtorEq,Yu,VW,SF]
 generalize hL:Wu (wt _) fuel _ _ _=L
 obtain⟨o,Pi,H4,rfl,_,rfl,t0,t2,w3,j,hj,b3⟩:=X9 (P:=λT=>DZ H3 (H.nx+1) (l++[128]) Z v (.ptr H.nx 0) Z T H3) (Q:=DZQ H3 (H.nx+1) (l++[128]) Z v (.ptr H.nx 0))
  (λT hi=>Wv (DZ H3 (H.nx+1) (l++[128]) Z v (.ptr H.nx 0)) (DZQ H3 (H.nx+1) (l++[128]) Z v (.ptr H.nx 0)) (λm tm H' h=>gj hn1 hn2 (by omega) (by simp) ro3 (by omega) _ _ m tm H' h) fuel Z T H3 (by omega) hi) hL
  (by exact⟨rfl,rfl,Below.refl _ _,0,by omega,by rw[SQ,WQ];exact b2⟩)
 obtain rfl:j=Z:=by omega
 obtain⟨v3,hv3⟩: ∃v3,Xa Pi=v3:=⟨_,rfl⟩
 rw[hv3] at b3
 have t0':=t0;have t2':=t2;have ZgP:=hv3
 simp only[Ud,Ru,TB] at t0 t2 hv3
 have m3:=w3.nx
 have ro4:H4.ro<=H4.nx:=by rw[w3.ro];omega
 have lv:=hv.len
 have il: ∀G,LB .u64 (nI .i64 l.length) G=.val (nI .u64 l.length) G:=λG=>kq (by omega) G
 have mu: ∀G,kQ (nI .u64 l.length) (nI .u64 8) G=.val (nI .u64 (l.length*8)) G:=λG=>kR (by omega) G
 simp(maxSteps:=4000000) (disch:=first|assumption|omega|(simp -implicitDefEqProofs only[ZA,ZB]<;>first|assumption|omega)|decide) only[t0,t2,hv3,lv,il,mu,Vv,c6,Z4,Yr,Zy,Zz,Zk,Zm,Zl,Nat.reducePow,Nat.reduceDiv,Nat.reduceMod,Nat.reduceEqDiff,reduceCtorEq,Yu,VW,SF]
 generalize hL:Wu (wu _) fuel _ _ _=L
 obtain⟨uW,rfl,x0,x2,x3,x5⟩:=li (n:=l.length*8) hL (by omega) (by omega) ro4 (by exact rfl) (by exact rfl) (by exact rfl)
 have u0:ZO uW=v:=x0.trans t0'
 have u2:Xw uW=.ptr H.nx 0:=x2.trans t2'
 have u3:Xa uW=v3:=x3.trans ZgP
 have u5:XW uW=.ptr H4.nx 0:=x5
 have u2':=u2
 simp only[Ud,Ru,TB,Pc] at u0 u2 u3 u5
 have etc:yu (l.length*8)=(Vu l.length 8).map Y6:=by
  rw[<-j7,ZU (by omega)]
 obtain⟨H5,hH5⟩: ∃G,H4.new (rG 47 1 (yu (l.length*8)) 0 false true true)=G:=⟨_,rfl⟩
 have nx5:H5.nx=H4.nx+1:=by rw[<-hH5];rfl
 have k5:ZE H4 H5 []:=by rw[<-hH5];exact ZE.new _ _ _
 have g5:H5.t.get H4.nx=some (rG 47 1 ((Vu l.length 8).map Y6) 0 false true true):=by rw[<-hH5,etc];exact Z3 rfl _
 have ro5:H5.ro<=H5.nx:=by rw[k5.ro];omega
 have b5:Buf H5 v3 (l++[128]++List.replicate j 0) (H.nx+1):=b3.below (λc _ h=>k5.get c h (by simp)) k5.ro k5.nx
 have ol:((Vu l.length 8).map Y6).length=8:=by rw[Zi];unfold Vu;rw[Zi,VP]
 have Zhc:Src H5 (.slice H4.nx 0 8 (some 8)) ((Vu l.length 8).map Y6):=by
  have:=Src.row (H:=H5) (b:=H4.nx) (o:=0) (c:=some 8) (l:=(Vu l.length 8).map Y6) g5 (by show 0+((Vu l.length 8).map Y6).length<=YF ((Vu l.length 8).map Y6);rw[Yt];omega) λi hi=>by
   rw[Zn];exact(Cells.new ..).get i hi
  rw[ol] at this;exact this
 have sl: ∀b G,By 8 1 (.ptr b 0) none none G=.val (.slice b 0 8 (some 8)) G:=λ_ _=>rfl
 obtain⟨v4,H6,ea4,b6,w6⟩:=zh b5 Zhc (by rw[Zo,hl1,Wf];unfold Vu;rw[Zi,VP];omega) ro5 (by omega)
 rw[<-epd] at b6
 have m6:=w6.nx
 have ro6:H6.ro<=H6.nx:=by rw[w6.ro];omega
 have ec:=λ{j}=>Zav (ZM:=ZM) (fs:=fs) (fuel:=fuel) E (k:=2) (n:=j) (by decide) (H:=H6) ro6
 obtain⟨H7,hH7⟩: ∃G,H6.new (.row (eM (z64 49) (WL.map ZH)))=G:=⟨_,rfl⟩
 have nx7:H7.nx=H6.nx+1:=by rw[<-hH7];rfl
 have k7:ZE H6 H7 []:=by rw[<-hH7];exact ZE.new _ _ _
 have g7:H7.t.get H6.nx=some (.row (eM (z64 49) (WL.map ZH))):=by rw[<-hH7];exact Z3 rfl _
 have VE:re 64 (some (.row (z64 49))) H6.nx 0 (.agg (WL.map ZH)) (H6.new (.row (z64 49)))=.val YZ H7:=by
  rw[F8 (n:=64) (R:=z64 49) (H:=H6.new (.row (z64 49))) (by decide) (by rw[Zi];rfl) rfl rfl rfl ro6,Py rfl,hH7]
 have bd: ∀G,RW [nI .u32 0,nI .u32 0,nI .u32 0,nI .u32 0,nI .u32 0,nI .u32 0,nI .u32 0,nI .u32 0] [(0,1,nI .u32 1779033703),(1,1,nI .u32 3144134277),(2,1,nI .u32 1013904242),(3,1,nI .u32 2773480762),(4,1,nI .u32 1359893119),(5,1,nI .u32 2600822924),(6,1,nI .u32 528734635),(7,1,nI .u32 1541459225)] G=.val (.agg (Lo.map ZH)) G:=λ_=>rfl
 obtain⟨H8,hH8⟩: ∃G,H7.new (rG 51 1 (Lo.map ZH) 0 false true true)=G:=⟨_,rfl⟩
 have nx8:H8.nx=H6.nx+2:=by rw[<-hH8];show H7.nx+1=_;rw[nx7]
 have k8:ZE H7 H8 []:=by rw[<-hH8];exact ZE.new _ _ _
 have g8:H8.t.get (H6.nx+1)=some (rG 51 1 (Lo.map ZH) 0 false true true):=by rw[<-hH8];exact Z3 nx7 _
 have ro7:H7.ro<=H7.nx:=by rw[k7.ro];omega
 have W0:re 8 (some (rG 51 1 [nI .u32 0,nI .u32 0,nI .u32 0,nI .u32 0,nI .u32 0,nI .u32 0,nI .u32 0,nI .u32 0] 0 false true true)) (H6.nx+1) 0 (.agg (Lo.map ZH)) (H7.new (rG 51 1 [nI .u32 0,nI .u32 0,nI .u32 0,nI .u32 0,nI .u32 0,nI .u32 0,nI .u32 0,nI .u32 0] 0 false true true))=.val YZ H8:=by
  rw[PJ (n:=8) (l:=[nI .u32 0,nI .u32 0,nI .u32 0,nI .u32 0,nI .u32 0,nI .u32 0,nI .u32 0,nI .u32 0]) (vs:=Lo.map ZH) (H:=H7.new (rG 51 1 [nI .u32 0,nI .u32 0,nI .u32 0,nI .u32 0,nI .u32 0,nI .u32 0,nI .u32 0,nI .u32 0] 0 false true true)) rfl rfl (by decide) (by show H7.ro<=_;omega),Py nx7,hH8]
 have gn7: ∀ob,(H7.new ob).t.get (H6.nx+1)=some ob:=λob=>Z3 nx7 ob
 simp(maxSteps:=4000000) (disch:=first|assumption|omega|(simp -implicitDefEqProofs only[ZA,ZB]<;>first|assumption|omega)|decide) only[hH5,u0,u2,u3,u5,ea4,ec,sl,VE,W0,bd,nx7,gn7,rD,hH7,Vv,TW,Hi,Tq,Uw,Ym,YY,c6,Z4,Yr,Zy,Zz,Zk,Zm,Zl,Nat.reducePow,Nat.reduceDiv,Nat.reduceMod,Nat.reduceEqDiff,reduceCtorEq,Yu,VW,SF]
 have hpb: ∃pb rp,v4=.slice pb 0 (PS l).length none∧H6.t.get pb=some (.row rp)∧Cells rp ((PS l).map Y6)∧rp.sz=1∧pb<H6.nx:=by
  rcases b6 with⟨e,_⟩|⟨_,b,r,e,g,_⟩
  ·exact absurd e (by rw[epd];simp)
  ·exact⟨b,r,e,g.at_,g.cells,g.sz,g.low⟩
 obtain⟨pb,rp,rfl,gp,cpr,zp,hpl⟩:=hpb
 have bE:ZE H6 H8 []:=k7.trans' k8
 generalize hL:Wu (wv _) fuel _ _ _=L
 obtain⟨o,tm3,H9,rfl,_,rfl,y2,y3,y7,y8,k9,tt,htt,y9,gh9⟩:=X9 (P:=λT=>DB H8 pb (H6.nx+1) H6.nx (PS l) Lo ((PS l).length/64) (.ptr H.nx 0) ((PS l).length/64) T H8) (Q:=DBQ H8 pb (H6.nx+1) H6.nx (PS l) Lo ((PS l).length/64) (.ptr H.nx 0))
  (λT hi=>Wv (DB H8 pb (H6.nx+1) H6.nx (PS l) Lo ((PS l).length/64) (.ptr H.nx 0)) (DBQ H8 pb (H6.nx+1) H6.nx (PS l) Lo ((PS l).length/64) (.ptr H.nx 0)) (λm tm H' h=>iZ E (by rw[bE.get pb hpl (by simp)];exact gp) cpr zp (by omega) (by omega) (by rw[k8.get _ (by omega) (by simp)];exact g7) (Hk (yz 49) (by rw[Zi,Wf];rfl)) (by omega) (by omega) (by rw[bE.ro];omega) (by omega) rfl EE.1 (by omega) _ _ _ _ m tm H' h) fuel ((PS l).length/64) T H8 (by omega) hi) hL
  (by exact⟨u2',rfl,rfl,rfl,ZE.refl _ _,0,by omega,rfl,g8⟩)
 obtain rfl:tt=(PS l).length/64:=by omega
 have y2':=y2;have y8':=y8
 simp only[Ru,Kh] at y2 y8
 have m9:=k9.nx
 have hbl:=RU WL Lo (PS l) rfl ((PS l).length/64)
 obtain⟨hs,hhs⟩: ∃hs,Vb WL Lo (PS l) ((PS l).length/64)=hs:=⟨_,rfl⟩
 rw[hhs] at gh9 hbl
 obtain⟨HA,hHA⟩: ∃G,H9.new (.row z32)=G:=⟨_,rfl⟩
 have nxA:HA.nx=H9.nx+1:=by rw[<-hHA];rfl
 have kA:ZE H9 HA []:=by rw[<-hHA];exact ZE.new _ _ _
 have gA:HA.t.get H9.nx=some (.row z32):=by rw[<-hHA];exact Z3 rfl _
 have roA:HA.ro<=H9.nx:=by rw[kA.ro,k9.ro,bE.ro];omega
 simp(maxSteps:=4000000) (disch:=first|assumption|omega|(simp -implicitDefEqProofs only[ZA,ZB]<;>first|assumption|omega)|decide) only[y2,y8,iz,hHA,c6,Z4,Yr,Zy,Zz,Zk,Zm,Zl,Nat.reducePow,Nat.reduceDiv,Nat.reduceMod,Nat.reduceEqDiff,reduceCtorEq,Yu,VW,SF]
 generalize hL:Wu (A0 _) fuel _ _ _=L
 obtain⟨o,tm4,HB,rfl,_,rfl,x2,x8,dy,kB,i,hi,x11,Rw,gB,hsz,how,hfz,hR⟩:=X9 (P:=λT=>DO4 HA (H6.nx+1) H9.nx hs (.ptr H.nx 0) 8 T HA) (Q:=DOQ HA (H6.nx+1) H9.nx hs (.ptr H.nx 0))
  (λT hi=>Wv (DO4 HA (H6.nx+1) H9.nx hs (.ptr H.nx 0)) (DOQ HA (H6.nx+1) H9.nx hs (.ptr H.nx 0)) (λm tm H' h=>hY hbl (by rw[kA.get _ (by omega) (by simp)];exact gh9) (by omega) (by omega) roA _ (by show 10<=fuel;omega) _ m tm H' h) fuel 8 T HA (by omega) hi) hL
  (by exact⟨y2',y8',rfl,ZE.refl _ _,0,rfl,rfl,z32,gA,rfl,rfl,rfl,λq hq=>by omega⟩)
 obtain rfl:i=8:=by omega
 simp only[Ru,Nu] at x2 dy
 have hds:VR l=Qe hs 32:=by unfold VR;rw[hhs]
 have hdl:((Qe hs 32).map Y6).length=32:=by rw[Zi,QV]
 have cR:Cells Rw ((Qe hs 32).map Y6):=⟨by rw[hdl,hsz],λq hq=>by
  rw[hdl] at hq
  rw[hR q (by omega),Zh,Z1]
  unfold Qe
  rw[Z1,Wb hq];rfl⟩
 have l32: ∀G,Gv 32 (some (.row Rw)) 0 G=.val (.agg ((Qe hs 32).map Y6)) G:=λG=>xh cR hdl G
 have k16: ∀c,c<H.nx+1->H6.t.get c=H1.t.get c:=λc hc=>by
  rw[w6.get c (by omega) (by omega),k5.get c (by omega) (by simp),w3.get c (by omega) (by omega),w2.get c (by omega) (by omega),w1.get c (by omega) (by omega)]
 have kr:ZE H6 HB [H6.nx+1,H9.nx]:=by
  refine⟨by have:=kB.nx;omega,by rw[kB.ro,kA.ro,k9.ro,bE.ro],λc hc hn=>?_⟩
  rw[kB.get c (by omega) (by simp at hn ⊢;omega),kA.get c (by omega) (by simp),k9.get c (by omega) (by simp at hn ⊢;omega),bE.get c hc (by simp)]
 have gr:HB.t.get H.nx=some (.row z32):=by rw[kr.get _ (by omega) (by simp;omega),k16 _ (by omega)];exact g1
 have roB:HB.ro<=H.nx:=by rw[kr.ro,w6.ro,k5.ro,w3.ro,w2.ro,w1.ro,k1.ro];exact hro
 have stR:=F8 (n:=32) (b:=H.nx) (R:=z32) (vs:=(Qe hs 32).map Y6) (H:=HB) (by decide) hdl rfl rfl rfl roB
 have rv:=λk=>jz (n:=32) (Hk mc (vs:=(Qe hs 32).map Y6) (by rw[hdl,Wf])) hdl k
 rw[hds]
 simp(maxSteps:=4000000) (disch:=first|assumption|omega|(simp -implicitDefEqProofs only[ZA,ZB]<;>first|assumption|omega)|decide) only[x2,dy,gB,gr,l32,stR,rv,SG,c6,Z4,Yr,Zy,Zz,Zk,Zm,Zl,Nat.reducePow,Nat.reduceDiv,Nat.reduceMod,Nat.reduceEqDiff,reduceCtorEq,Yu,VW,SF]
 refine⟨_,rfl,?_⟩
 refine⟨by show H.nx<=HB.nx;have:=kr.nx;omega,by show HB.ro=_;rw[kr.ro,w6.ro,k5.ro,w3.ro,w2.ro,w1.ro,k1.ro],λc hc _=>?_⟩
 rw[R0 (by omega),kr.get c (by omega) (by simp;omega),k16 c (by omega),k1.get c hc (by simp)]
theorem ZfH{ZM:Lib}{fs:T CF}{fuel:Nat}(E:Env ZM fs fuel){k n:Nat}(hk:3<=k){l:List UInt8}{v:AV}{H:Heap}(hro:H.ro<=H.nx)(hv:BV H v l)(hl:l.length<=100000):
  Yo (LK ZM fs fuel k) fs fuel (n+1) 6 [v] H=.ret (.agg ((VR l).map Y6)) H:=by
 obtain⟨H',e,g⟩:=lc E (n:=898) (H:=H) hro hv hl
 exact LD (r:=2) rfl rfl e g (wH _ _) hk
section
attribute [local irreducible] Y1
variable {lib:Nat->List AV->Heap->Option CR} {fs:T CF} {fuel:Nat}
def Kx(K B:List UInt32)(l:List UInt8):List UInt8:=Aw K (Vb K B l (l.length/64)) (l.drop (64*(l.length/64))) l.length
theorem AP(a:TM->Heap->X->WS)(n:Nat)(tm:TM)(H:Heap)(x:X):Wu a (n+1) tm H x=Qj (a tm H x) (Wu a n):=rfl
theorem iL{n:Nat}(hl: ∀l H,lib 84 l H=none)(hl2: ∀l H,lib 69 l H=none)(hl3: ∀l H,lib 68 l H=none)(hl4: ∀l H,lib 56 l H=none)(hf:fs.get 84=some yO)(hf2:fs.get 69=some x6)(hf3:fs.get 68=some mf)(uV:fs.get 56=some mH)(hF:64<fuel)(hl5: ∀l H,lib 55 l H=none)(mh:fs.get 55=some iY)(iD: ∀l H,lib 54 l H=none)(iC:fs.get 54=some iX)(ol: ∀l H,lib 37 l H=none)(hf8:fs.get 37=some c37)
  (hl7: ∀l H,lib 36 l H=none)(hf7:fs.get 36=some c36)(hl9: ∀l H,lib 35 l H=none)(hf9:fs.get 35=some c35)(hlA: ∀l H,lib 24 l H=none)(hfA:fs.get 24=some c24)
  {K B:List UInt32}{l:List UInt8}{v:AV}{H:Heap}{rK rB rp:Row}{pb:Nat}(hlF:l.length/64<fuel)(hll:l.length<=140737488355328)(hK:H.t.get 3=some (.row rK))(cK:Cells rK (K.map ZH))(nK:K.length=64)(h7:3<H.nx)(hB:H.t.get 0=some (.row rB))(cB:Cells rB (B.map ZH))(nB:B.length=8)(hro:H.ro<=H.nx)
  (hv:BV H v l)(far: ∀b o n c,v=.slice b o n c->b<H.nx)(hp:H.t.get pb=some (.row rp))(cp:Cells rp [v])(hpb:pb<H.nx):
  ∃H',Yo lib fs fuel (n+7) 24 [.slice pb 0 1 none] H=.ret (.agg ((Kx K B l).map Y6)) H'∧ZE H H' []:=by
 rw[YM (hlA _ _) hfA]
 generalize ha:H.new (.row ⟨25,1,32,.leaf,nI .u8 0,0,false,true,true⟩)=Ha
 have nxa:Ha.nx=H.nx+1:=by rw[<-ha];rfl
 have ka:ZE H Ha []:=by rw[<-ha];exact ZE.new H _ []
 have ga:Ha.t.get H.nx=some (.row ⟨25,1,32,.leaf,nI .u8 0,0,false,true,true⟩):=by rw[<-ha,Xj,if_pos rfl]
 have en:=fK (fuel:=fuel) (lib:=lib) (n:=n+5) hl9 hf9 (H:=Ha) (by rw[ka.get 0 (by omega) (by simp)];exact hB) cB nB
 obtain⟨rs,ss⟩:=zQ (H:=Ha) (left:=.nils) (many:=0) nB (by rw[ka.ro];omega)
 generalize hb:Ha.newRow 108 1 (B.map ZH++[.nils,nI .u64 0,.bool true]) true=Hb at en ss
 have nxb:Hb.nx=H.nx+2:=by rw[<-hb,So,VN,nxa]
 have kab:ZE Ha Hb []:=by rw[<-hb];exact ZE.new Ha _ []
 have kb:ZE H Hb []:=ka.trans' kab
 rw[nxa] at en ss
 have ldp:UQ (.ptr pb 0) Hb=.val v Hb:=Tp (l:=[v]) (by rw[kb.get pb hpb (by simp)];exact hp) cp (by simp)
 obtain⟨left,Hc,rc,ew,bl,fl,kc,sc⟩:=ma (n:=n) (fuel:=fuel) hl hl2 hl3 hl4 hf hf2 hf3 uV hF hl5 mh iD iC hl7 hf7 hlF hll (many:=0) (by omega) (by rw[kb.get 3 h7 (by simp)];exact hK) cK nK (by omega) (by omega) (by rw[kb.ro];omega)
  (hv.keep kb (S:=[]) (by simp)) (λb o n c e=>by have:=far b o n c e;omega) ss
 rw[Zn] at sc
 obtain⟨Hd,es,kd⟩:=eZ (n:=n) (fuel:=fuel) hl hl2 hl3 hl4 hf hf2 hf3 uV hF hl5 mh iD iC ol hf8 (by rw[ZV];omega) (K:=K) (by rw[kc.get 3 (by omega) (by simp;omega),kb.get 3 h7 (by simp)];exact hK) cK nK (by have:=kc.nx;omega) (by omega) (by rw[kc.ro,kb.ro];have:=kc.nx;omega) sc bl
 obtain⟨F,rfl⟩: ∃F,fuel=F+2:=⟨fuel - 2,by omega⟩
 have d1:decide (0<1)=true:=rfl
 have d2:decide (1<1)=false:=rfl
 have es:Yo lib fs (F+2) (n+6) 37 [.ptr (H.nx+1) 0] Hc=.ret (.agg ((Kx K B l).map Y6)) Hd:=es
 have nd:((Kx K B l).map Y6).length=32:=by rw[Zi];exact QV _ _
 have kcd:ZE Hb Hd [H.nx+1]:=kc.trans kd λc hc _=>by simp at hc
 have r2:Hd.t.get H.nx=some (.row ⟨25,1,32,.leaf,nI .u8 0,0,false,true,true⟩):=by
  rw[kcd.get H.nx (by omega) (by simp),kab.get H.nx (by omega) (by simp),ga]
 have std:RJ 32 (.ptr H.nx 0) (.agg ((Kx K B l).map Y6)) Hd=.val YZ (Hd.put H.nx (.row (Row.setCells ⟨25,1,32,.leaf,nI .u8 0,0,false,true,true⟩ (YV .leaf 0 ((Kx K B l).map Y6))))):=
  UU (v:=.agg ((Kx K B l).map Y6)) r2 (Cells.zero 25 32 (nI .u8 0) 0 false true true) rfl (by rw[kcd.ro,kb.ro];exact hro) rfl (by omega) nd (by simp)
 have cw:Cells (Row.setCells ⟨25,1,32,.leaf,nI .u8 0,0,false,true,true⟩ (YV .leaf 0 ((Kx K B l).map Y6))) ((Kx K B l).map Y6):=(Cells.zero 25 32 (nI .u8 0) 0 false true true).whole (by rw[nd,Wf])
 simp(maxSteps:=4000000) (disch:=omega) only[c24,mG,JR,ha,en,RB,AP,Z5,Zx,d1,d2,Td,Zn,Z7,ldp,ew,es,std,WM,XF,XE,XJ,Wm,XO,Yn,XC,Xm,Xf,X2,XI,XP,XR,Xq,Y5,Y9,Yp,Yw,Xs,V4,TC,Vc,Wj,WN,WD,WB,XK,WJ,WC,WF,WG,XS,WH,WI,XV,WA,Vl,WE,XU,Xk,N8.g00,N8.g01,N8.g02,N8.g03,N8.g04,N8.g05,N8.g06,N8.g07,N8.g10,N8.g11,N8.g12,N8.g13,N8.g14,N8.g15,N8.g16,N8.g17,N8.g20,N8.g21,N8.g22,N8.g23,N8.g24,N8.g25,N8.g26,N8.g27,N8.g30,N8.g31,N8.g32,N8.g33,N8.g34,N8.g35,N8.g36,N8.g37,N8.g40,N8.g41,N8.g42,N8.g43,N8.g44,N8.g45,N8.g46,N8.g47,N8.g50,N8.g51,N8.g52,N8.g53,N8.g54,N8.g55,N8.g56,N8.g57,N8.g60,N8.g61,N8.g62,N8.g63,N8.g64,N8.g65,N8.g66,N8.g67,N8.g70,N8.g71,N8.g72,N8.g73,N8.g74,N8.g75,N8.g76,N8.g77,XB,XT,Xt,WW,X3,X4,WV,X5,Xb,WX,WU,Z5,Xu,Xj,UB,UC,VN,UA,Zn,Ud,Ru,TB,Pc,Nd,N2,Kh,Ji,Nu,R3,MG,Je,Lz,Jf,Jg,KM,nP,xW,Ik,Hv,Fg,F9,E5,KR,M1,IJ,IK,IL,EU,EV,BG,Fe,Hu,Ud]
 simp only[QI]
 refine⟨_,ML rfl (by rw[Xu,if_pos rfl]) cw nd,ZE.then_put ?_ (λhlt=>absurd hlt (Rx _))⟩
 exact kb.trans kcd (λc hc hlt=>by simp only[YJ] at hc;omega)
end
theorem K0(K B:List UInt32)(a b:List UInt8){p:Nat}(ha:a.length=64*p): ∀s,s<=p->Vb K B (a++b) s=Vb K B a s
 |0,_=>rfl
 |s+1,h=>by
  show NS K (Vb K B (a++b) s) (((a++b).drop (64*s)).take 64)=NS K (Vb K B a s) ((a.drop (64*s)).take 64)
  rw[K0 K B a b ha s (by omega),List.drop_append_of_le_length (by omega),Uk (by rw[ZV];omega)]
theorem Eg(K B:List UInt32)(a b:List UInt8){p:Nat}(ha:a.length=64*p): ∀t,Vb K B (a++b) (p+t)=Vb K (Vb K B a p) b t
 |0=>K0 K B a b ha p (Zq _)
 |t+1=>by
  show NS K (Vb K B (a++b) (p+t)) (((a++b).drop (64*(p+t))).take 64)=NS K (Vb K (Vb K B a p) b t) ((b.drop (64*t)).take 64)
  rw[Eg K B a b ha t,show 64*(p+t)=a.length+64*t by omega,List.drop_append]
  congr 2
  rw[Us (by omega),WR,UE]
theorem gg(l:List UInt8):VR l=Kx WL Lo l:=by
 unfold VR Kx Aw
 obtain⟨q,hq⟩: ∃q,l.length/64=q:=⟨_,rfl⟩
 rw[hq]
 have hr:(l.drop (64*q)).length=l.length % 64:=by rw[ZV];omega
 have ht:(l.take (64*q)).length=64*q:=by rw[Ys];omega
 have e:PS l=l.take (64*q)++LG (l.drop (64*q)) l.length:=by
  unfold PS LG
  rw[hr,<-Y4,<-Y4,<-Y4,List.take_append_drop]
 have e2:Vb WL Lo l q=Vb WL Lo (l.take (64*q)) q:=by
  have:=K0 WL Lo (l.take (64*q)) (l.drop (64*q)) ht q (Zq _)
  rw[List.take_append_drop] at this;exact this
 have e3:(PS l).length/64=q+(LG (l.drop (64*q)) l.length).length/64:=by
  rw[e,Zo,ht];omega
 rw[e3,e2,<-Eg WL Lo _ _ ht,e]
end
end Go.AI
