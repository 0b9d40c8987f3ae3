/- The digest, by the program's code: walked: proved without conditions but those that each names. -/
import Derived.Test.YtbdmnfoadmfjpaaGreatDoorP7
import Derived.Test.YtbdmnfoadmfjpaaGreatDoorP8
set_option maxRecDepth 1000000
set_option maxHeartbeats 0
set_option linter.unusedVariables false
set_option linter.unusedSimpArgs false
namespace Go.AI
open Go
noncomputable section
section
variable {lib:Nat->List AV->Heap->Option CR} {fs:T CF} {fuel:Nat}
theorem Zez{n:Nat}(hl: ∀l H,lib 121 l H=none)(hf:fs.get 121=some Kh)(a:UInt32)(k:Int)(s:Nat)(h1:0<s)(h2:s<32)(hs:Nat.land (UP 18446744073709551616 (IntKind.u64.wrap k)) 31=s)(H:Heap):
  Z8 lib fs fuel (n+1) 121 [Y2 a,.int .i64 k] H=.ret (Y2 ((a<<<UInt32.ofNat s)|||(a>>>UInt32.ofNat (32 - s)))) H:=by
 rw[Z7 (hl _ _) hf]
 have i1: ∀H,PS .u64 (.int .i64 k) H=.val (.int .u64 (IntKind.u64.wrap k)) H:=λH=>Wb _ _ _
 have i2: ∀H,KS TT (.int .u64 (IntKind.u64.wrap k)) (nI .u64 31) H=.val (nI .u64 s) H:=λH=>by
  show UX .u64 (.ofNat (Nat.land (UP 18446744073709551616 (IntKind.u64.wrap k)) (31 % 18446744073709551616))) H=_
  rw[Wb,show 31 % 18446744073709551616=31 from rfl,hs,Nh,YD (by omega)];rfl
 have i3: ∀H,J8 (nI .u64 32) (nI .u64 s) H=.val (nI .u64 (32 - s)) H:=λH=>by
  show UX .u64 (IL (.ofNat 32) (.ofNat s)) H=_
  rw[Wb,tq (by omega),Nh,YD (by omega)];rfl
 simp only[Kh,QR,Pq,i1,i2,i3,lO _ h2,vQ _ (show 32 - s<32 by omega),a9,X2,X1,X5,YI,XI,Qc,TH,Vd,LP,JP,OF,Fj,JO,N8.g00,N8.g01,N8.g02,N8.g04,N8.g05,N8.g06,N8.g07,N8.g10,N8.g11,N8.g12,N8.g14,N8.g20,N8.g21,N8.g22,N8.g33,N8.g34,N8.g35,N8.g36,N8.g37,N8.g44,N8.g45,N8.g46,N8.g55,N8.g66,N8.g77,Ic,Um,Mi,TG,QD,JC,LG,HH,IK,LD,QO,LF,JB,IY,GW,Dv,ES,ET,AY,zJ,vU,r7,AW,Hh,FO,D6,D7,AX,xZ,ER,gS,Um,Mi,TG]
theorem ZbV{n:Nat}(hl: ∀l H,lib 121 l H=none)(hl2: ∀l H,lib 108 l H=none)(hf:fs.get 121=some Kh)(hf2:fs.get 108=some K2)(a:UInt32)(k s:Nat)(h0:k<9223372036854775808)(h1:0<s)(h2:s<32)
  (hs:Nat.land (UP 18446744073709551616 (IntKind.u64.wrap (IntKind.i64.wrap (IL 0 (.ofNat k))))) 31=s)(H:Heap):
  Z8 lib fs fuel (n+2) 108 [Y2 a,nI .i64 k] H=.ret (Y2 ((a<<<UInt32.ofNat s)|||(a>>>UInt32.ofNat (32 - s)))) H:=by
 rw[Z7 (hl2 _ _) hf2]
 have i1: ∀H,pE (nI .i64 k) H=.val (.int .i64 (IntKind.i64.wrap (IL 0 (.ofNat k)))) H:=λH=>Wb _ _ _
 simp only[K2,QR,Pq,i1,Zez hl hf a _ s h1 h2 hs,X2,X1,Rt,Se,X5,YI,XI,Qc,TH,PL,RS,Vd,Fg,Sq,N8.g00,N8.g01,N8.g04,N8.g10,N8.g11,N8.g14,N8.g15,N8.g44,N8.g55,N8.g56,N8.g57,N8.g66,N8.g77,Ic,Um,Mi,TG,QD,JC,LG,HH,ES,ET,AY,zJ,vU,ER,gS,Um,Mi,TG]
def AH(x:UInt32)(k:Nat):UInt32:=(x<<<UInt32.ofNat (32 - k))|||(x>>>UInt32.ofNat k)
def sg0(x:UInt32):UInt32:=AH x 7^^^AH x 18^^^(x>>>UInt32.ofNat 3)
def sg1(x:UInt32):UInt32:=AH x 17^^^AH x 19^^^(x>>>UInt32.ofNat 10)
theorem kD{n:Nat}(hl: ∀l H,lib 121 l H=none)(hl2: ∀l H,lib 108 l H=none)(hf:fs.get 121=some Kh)(hf2:fs.get 108=some K2)(a:UInt32)(k:Nat)(h0:0<k)(h:k<32)(H:Heap):
  Z8 lib fs fuel (n+2) 108 [Y2 a,nI .i64 k] H=.ret (Y2 (AH a k)) H:=by
 have:=ZbV (fuel:=fuel) (n:=n) hl hl2 hf hf2 a k (32 - k) (by omega) (by omega) (by omega) (by
  have: ∀k:Fin 32,0<k.val->Nat.land (UP 18446744073709551616 (IntKind.u64.wrap (IntKind.i64.wrap (IL 0 (.ofNat k.val))))) 31=32 - k.val:=by decide+kernel
  exact this ⟨k,h⟩ h0) H
 rw[this,show 32 - (32 - k)=k by omega]
 rfl
def F1(bl:List UInt8)(t:Nat):Nat->UInt32
 |0=>0
 |k+1=>(F1 bl t k<<<UInt32.ofNat 8)|||(bl.getD (4*t+k) 0).toUInt32
structure L0(t bk o:Nat)(cap:Option Nat)(b:Nat)(ws:List UInt32)(bl:List UInt8)(OM:TM)(H0:Heap)(k:Nat)(tm:TM)(H:Heap):Prop where
 t24:V1 tm=nI .i64 k
 t23:Ui tm=nI .i64 4
 t22:VK tm=.slice bk (o+4*t) 4 cap
 t4:XQ tm=nI .i64 t
 t3:VL tm=.ptr b 0
 t0:Y3 tm=Y3 OM
 t2:Uv tm=Uv OM
 t11:XO tm=XO OM
 keep:ZE H0 H [b]
 row: ∃r,Own H b 165 (((ws++[F1 bl t k])++List.replicate (63 - t) 0).map Y2) r
theorem Zdk{t bk o b:Nat}{cap:Option Nat}{ws:List UInt32}{bl:List UInt8}{OM:TM}{H0:Heap}{rb:Row}{oc:Option Nat}(hb:Bytes H0 bk o oc bl rb)(hbl:bl.length=64)(hne:bk≠b)(hbk:bk<H0.nx)(ht:t<16)(hws:ws.length=t)
  (c:Ctx)(x:X)(k:Nat)(tm:TM)(H:Heap)(hk:k<4)(h:L0 t bk o cap b ws bl OM H0 k tm H): ∃tm' H',Kg c tm H x=.ok .normal tm' H' x∧L0 t bk o cap b ws bl OM H0 (k+1) tm' H':=by
 obtain⟨r,own⟩:=h.row
 have i24:=h.t24;have i23:=h.t23;have i22:=h.t22;have i4:=h.t4;have i3:=h.t3
 simp only[Dx,B2,B1,TG,RK] at i24 i23 i22 i4 i3
 have dk:decide (k<4)=true:=Zj hk
 have ldb:TI (.ptr bk (o+4*t+k)) H=.val (X8 (bl.getD (4*t+k) 0)) H:=by
  show Xv H bk _=_
  unfold Xv
  rw[h.keep.get bk hbk (by simpa using hne),hb.at_]
  show Z3 (Nat.ble (Nat.succ (o+4*t+k)) rb.size) _=_
  have:=hb.fits
  rw[Zg (by omega),X3 o,hb.get _ (by omega)];rfl
 have ld:TI (.ptr b t) H=.val (Y2 (F1 bl t k)) H:=by
  rw[Ta own.at_ own.cells (by simp;omega),Zf,YO,XB,Yz (by omega),hws,Tl]
  rfl
 have st: ∀v:UInt32,RE 1 (.ptr b t) (Y2 v) H=.val XE (H.put b (.row (r.setCells (Xj r.cells t [Y2 v])))):=λv=>UJ (v:=Y2 v) own.at_ own.cells own.own own.ro own.fz (Zq _) rfl (by simp;omega)
 simp(maxSteps:=4000000) (disch:=first|omega|rfl) only[Kg,i24,i23,i22,i4,i3,Zy,dk,ZY,Yq,ldb,ld,st,pe,a9,lO,Yy,X2,X1,X5,YI,XI,W0,W1,TF,W6,V3,Nl,TH,Vd,LP,Ry,OF,Fj,US,N8.g00,N8.g01,N8.g02,N8.g03,N8.g04,N8.g05,N8.g06,N8.g07,N8.g11,N8.g22,N8.g23,N8.g30,N8.g33,N8.g34,N8.g36,N8.g40,N8.g43,N8.g44,N8.g45,N8.g46,N8.g47,N8.g55,N8.g66,N8.g77,TL,Tb,NY,ED,Zb,RK,TG,JC,B1,B2,Dx,yN,uW,uX,nU,nX,nY,uY,nZ,cu,cz,cA,cC,cD,AY,x5,x6,rY,rZ,kn,ko,kr,r6,ku,Zba,Zbb,Zbc,Zbd,Zbe]
 refine⟨_,_,rfl,?_⟩
 refine⟨rfl,i23,i22,i4,i3,h.t0,h.t2,h.t11,h.keep.trans (ZE.put λ_=>ZG.2 rfl) (λc hc _=>hc),r.setCells (Xj r.cells t [Y2 (F1 bl t (k+1))]),⟨by rw[U5,if_pos rfl];rfl,own.elem,own.sz,own.own,own.fz,own.sm,?_,own.ro⟩⟩
 have:=own.cells.store1 (o:=t) (v:=Y2 (F1 bl t (k+1))) (by simp;omega)
 have e:(((ws++[F1 bl t k])++List.replicate (63 - t) 0).map Y2).set t (Y2 (F1 bl t (k+1)))=((ws++[F1 bl t (k+1)])++List.replicate (63 - t) 0).map Y2:=by
  rw[Xe,Xe,Xe,Xe,XB,XB,T7 _ _ (by rw[Zt];omega),Zt,hws,Tl]
  rfl
 rw[e] at this
 exact this
theorem Zdj{t bk o b:Nat}{cap:Option Nat}{ws:List UInt32}{bl:List UInt8}{OM:TM}{H0:Heap}(c:Ctx)(x:X)(tm:TM)(H:Heap)(h:L0 t bk o cap b ws bl OM H0 4 tm H):
  ∃tm' H',Kg c tm H x=.ok (.exit 2) tm' H' x∧L0 t bk o cap b ws bl OM H0 4 tm' H':=by
 have i24:=h.t24;have i23:=h.t23;have i22:=h.t22;have i4:=h.t4;have i3:=h.t3
 simp only[Dx,B2,B1,TG,RK] at i24 i23 i22 i4 i3
 have dk:decide (4<4)=false:=rfl
 simp only[Kg,i24,i23,Zy,dk,X2,X1,X5,YI,TQ,XI,SL,W0,W1,VS,US,N8.g00,N8.g11,N8.g33,B2,Dx,yN,x6,]
 exact⟨_,_,rfl,i24,i23,i22,i4,i3,h.t0,h.t2,h.t11,h.keep,h.row⟩
theorem Zhe{t bk o b:Nat}{cap:Option Nat}{ws:List UInt32}{bl:List UInt8}{OM:TM}{H0:Heap}{rb:Row}{oc:Option Nat}(hb:Bytes H0 bk o oc bl rb)(hbl:bl.length=64)(hne:bk≠b)(hbk:bk<H0.nx)(ht:t<16)(hws:ws.length=t)
  (c:Ctx)(x:X){F:Nat}(hF:4<F)(tm:TM)(H:Heap)(h:L0 t bk o cap b ws bl OM H0 0 tm H): ∃tm' H',WP (Kg c) F tm H x=.ok (.exit 2) tm' H' x∧L0 t bk o cap b ws bl OM H0 4 tm' H':=
 Rg (L0 t bk o cap b ws bl OM H0) (L0 t bk o cap b ws bl OM H0 4) 4 (λk tm H hk hi=>Zdk hb hbl hne hbk ht hws c x k tm H hk hi) (λtm H hi=>Zdj c x tm H hi) 4 0 F tm H rfl hF h
theorem Tu{a:TM->Heap->X->WL}{F i:Nat}{H:Heap}{x:X}{L:WL}{P:TM->Prop}{Q:TM->Heap->Prop}(lp: ∀T,P T-> ∃tm' H',WP a F T H x=.ok (.exit i) tm' H' x∧Q tm' H'){T:TM}(hL:WP a F T H x=L)(hi:P T):
  ∃tm' H',L=.ok (.exit i) tm' H' x∧Q tm' H':=by
 obtain⟨b,c,e,j⟩:=lp T hi
 exact⟨b,c,hL.symm.trans e,j⟩
def Aj(l:List UInt32):UInt32:=sg1 (l.getD (l.length - 2) 0)+l.getD (l.length - 7) 0+sg0 (l.getD (l.length - 15) 0)+l.getD (l.length - 16) 0
def VZ(bl:List UInt8):Nat->List UInt32
 |0=>[]
 |t+1=>VZ bl t++[if t<16 then F1 bl t 4 else Aj (VZ bl t)]
theorem OP(bl:List UInt8): ∀t,(VZ bl t).length=t
 |0=>rfl
 |t+1=>by unfold VZ;rw[Zm,OP bl t];rfl
structure L1(bk o:Nat)(cap:Option Nat)(b b2:Nat)(bl:List UInt8)(H0:Heap)(t:Nat)(tm:TM)(H:Heap):Prop where
 t11:XO tm=nI .i64 t
 t0:Y3 tm=.slice bk o 64 cap
 t2:Uv tm=.ptr b2 0
 t3:VL tm=.ptr b 0
 keep:ZE H0 H [b]
 row: ∃r,Own H b 165 ((VZ bl t++List.replicate (64 - t) 0).map Y2) r
theorem Zhf{bk o b b2:Nat}{cap:Option Nat}{bl:List UInt8}{H0:Heap}{rb:Row}(hb:Bytes H0 bk o cap bl rb)(hbl:bl.length=64)(hne:bk≠b)(hbk:bk<H0.nx)(c:Ctx)(hF:4<c.fuel)(x:X)
  (t:Nat)(tm:TM)(H:Heap)(ht:t<16)(h:L1 bk o cap b b2 bl H0 t tm H): ∃tm' H',NC c tm H x=.ok .normal tm' H' x∧L1 bk o cap b b2 bl H0 (t+1) tm' H':=by
 obtain⟨r,own⟩:=h.row
 have i11:=h.t11;have i0:=h.t0;have i2:=h.t2;have i3:=h.t3
 simp only[QO,Um,Oa,RK] at i11 i0 i2 i3
 have d1:decide (t<64)=true:=Zj (by omega)
 have d2:decide (t<16)=true:=Zj ht
 have sl:Ss 1 (.slice bk o 64 cap) (some (nI .i64 (4*t))) (some (nI .i64 (4*t+4))) H=.val (.slice bk (o+4*t) 4 (QA cap (4*t))) H:=by
  have h1:=hb.fits
  rw[xA (r:=rb) (by rw[h.keep.get bk hbk (by simpa using hne)];exact hb.at_) hb.sz (by omega) (by omega) (λc hc=>by have:=hb.cap c hc;omega),show 4*t+4 - 4*t=4 by omega]
 have lp:=λ(T:TM) (hi:L0 t bk o (QA cap (4*t)) b (VZ bl t) bl tm H0 0 T H)=>Zhe hb hbl hne hbk ht (OP bl t) c x hF T H hi
 simp(maxSteps:=4000000) (disch:=omega) only[NC,i11,i0,d1,d2,Zy,EB,Yy,RZ,XG,sl,Rx,V8,X2,X1,X5,YI,XI,W0,W1,TF,W6,TH,Vd,Ry,Ff,US,N8.g00,N8.g01,N8.g02,N8.g03,N8.g04,N8.g05,N8.g10,N8.g11,N8.g20,N8.g21,N8.g22,N8.g23,N8.g24,N8.g25,N8.g33,N8.g34,N8.g44,N8.g55,N8.g66,N8.g77,Pn,V8,Um,TG,QO,LF,JB,IY,GW,Dv,yL,Dw,B0,yM,nT,B1,ES,FO,D6,D7,AX,xZ,rU,x4,rX,ki,kj,kl,km,x5,]
 generalize hL:WP (Kg c) c.fuel _ H x=L
 obtain⟨g9,H2,rfl,j⟩:=Tu (P:=λT=>L0 t bk o (QA cap (4*t)) b (VZ bl t) bl tm H0 0 T H) (Q:=L0 t bk o (QA cap (4*t)) b (VZ bl t) bl tm H0 4) lp hL ⟨rfl,rfl,rfl,rfl,i3,rfl,rfl,rfl,h.keep,r,by
  have e:((VZ bl t++[F1 bl t 0])++List.replicate (63 - t) 0).map Y2=(VZ bl t++List.replicate (64 - t) 0).map Y2:=by
   rw[XB]
   show((VZ bl t++List.replicate (63 - t+1) 0)).map Y2=_
   rw[show 63 - t+1=64 - t by omega]
  rw[e];exact own⟩
 have j0:=j.t0;have j2:=j.t2;have j11:=j.t11;have j3:=j.t3
 simp only[QO,Um,Oa,RK,] at j11 j0 j2 j3
 simp(maxSteps:=4000000) (disch:=first|omega|rfl) only[j11,i11,Yy,WI,YI,TQ,SL,X2,Ry,Vd,X1,QO,yP,ZbK,Hh,TH,XI,N8.g11,N8.g55,]
 refine⟨_,_,rfl,rfl,j0.trans i0,j2.trans i2,j3,j.keep,?_⟩
 have e:(VZ bl t++[F1 bl t 4])++List.replicate (63 - t) 0=VZ bl (t+1)++List.replicate (64 - (t+1)) 0:=by
  rw[show 63 - t=64 - (t+1) by omega]
  show _=(VZ bl t++[if t<16 then F1 bl t 4 else Aj (VZ bl t)])++_
  rw[if_pos ht]
 rw[<-e]
 exact j.row
theorem Zdl{n:Nat}(hl: ∀l H,lib 121 l H=none)(hl2: ∀l H,lib 108 l H=none)(hf:fs.get 121=some Kh)(hf2:fs.get 108=some K2)
  {bk o b b2:Nat}{cap:Option Nat}{bl:List UInt8}{H0:Heap}(hbn:b<H0.nx){rng:AV->(List AV->Heap->CR)->TM->Heap->X->WL}{yld:Nat->List AV->Heap->CR}(x:X)
  (t:Nat)(tm:TM)(H:Heap)(ht:16<=t)(ht2:t<64)(h:L1 bk o cap b b2 bl H0 t tm H): ∃tm' H',NC ⟨Z8 lib fs fuel (n+2),yld,rng,fuel,false⟩ tm H x=.ok .normal tm' H' x∧L1 bk o cap b b2 bl H0 (t+1) tm' H':=by
 obtain⟨r,own⟩:=h.row
 have i11:=h.t11;have i0:=h.t0;have i2:=h.t2;have i3:=h.t3
 simp only[QO,Um,Oa,RK] at i11 i0 i2 i3
 have d1:decide (t<64)=true:=Zj (by omega)
 have d2:decide (t<16)=false:=Ze (by omega)
 have hb:b<H.nx:=ZZ hbn h.keep.nx
 have hlen:=OP bl t
 have ld: ∀(H':Heap) (o:Nat),H'.t=H.t->o<t->TI (.ptr b o) H'=.val (Y2 ((VZ bl t).getD o 0)) H':=λH' o he ho=>by
  rw[Ta (b:=b) (r:=r) (by rw[he];exact own.at_) own.cells (by simp;omega),Zf,YO,Yt (by omega),Zf,Zn (show o<(VZ bl t).length by omega)]
  rfl
 have tn:=λ(a:UInt32) (k:Nat) (h0:0<k) (h:k<32) (H:Heap)=>kD (n:=n) (fuel:=fuel) hl hl2 hf hf2 a k h0 h H
 have st: ∀v:UInt32,RE 1 (.ptr b t) (Y2 v) H=.val XE (H.put b (.row (r.setCells (Xj r.cells t [Y2 v])))):=λv=>UJ (v:=Y2 v) own.at_ own.cells own.own own.ro own.fz (Zq _) rfl (by simp;omega)
 simp(maxSteps:=4000000) (disch:=first|omega|rfl) only[NC,i11,i3,d1,d2,Zy,ld,tn,st,ZN hb,YR,Yy,Yq,Cx,kG,vQ,X2,X1,Rt,Se,X5,YI,XI,W0,W1,TF,VS,W6,V3,Nl,TH,PL,RS,Vd,Ry,JP,OF,JO,US,Sq,N8.g00,N8.g01,N8.g02,N8.g03,N8.g04,N8.g05,N8.g06,N8.g07,N8.g10,N8.g11,N8.g12,N8.g13,N8.g14,N8.g15,N8.g16,N8.g17,N8.g22,N8.g23,N8.g24,N8.g25,N8.g26,N8.g27,N8.g30,N8.g31,N8.g32,N8.g33,N8.g34,N8.g35,N8.g36,N8.g37,N8.g40,N8.g41,N8.g44,N8.g45,N8.g47,N8.g50,N8.g51,N8.g54,N8.g55,N8.g56,N8.g60,N8.g61,N8.g64,N8.g65,N8.g66,N8.g67,N8.g70,N8.g71,N8.g74,N8.g75,N8.g76,N8.g77,Ki,Iv,KA,Iq,KL,KM,IC,Ig,EI,GF,Ih,Kt,ID,KN,Fu,Ks,Ik,Kv,G5,G6,CP,Fz,Zz,ZH,cond_true,cond_false,VH,Nat.reducePow,Nat.reduceDiv,Nat.reduceMod,decide_true,decide_false,Nat.zero_ne_one,TL,Tb,NY,Zb,RK,TG,LG,HH,IK,LD,QO,LF,JB,IY,GW,cE,cF,cG,cH,cI,cJ,cL,n7,cM,cN,cO,cP,Zfc,yO,mc,cQ,md,mf,mg,cR,cS,cT,cU,mh,mj,mp,cX,mq,uZ,cY,cZ,bc,be,Zfd,Zfe,Zff,Zfg,bf,bi,yP,oD,ES,zJ,vU,r7,AW,Hh,FO,D6,D7,AX,Zbf,Zbg,Zbh,Zbi,Zbj,Zbk,Zbl,Zbm,Zbn,Zbo,Zbp,Zbq,Zbr,kw,ky,Zbs,Zbt,Zbu,Zbv,Zbw,Zbx,Zby,Zbz,ZbA,ZbB,ZbC,ZbD,ZbE,ZbF,ZbG,ZbH,ZbI,ZbJ,ZfI,ZfJ,ZfK,ZfL,ZfM,ZfN,ZbK]
 refine⟨_,_,rfl,rfl,i0,i2,i3,h.keep.trans (ZE.put λ_=>ZG.2 rfl) (λc hc _=>hc),r.setCells (Xj r.cells t [Y2 (Aj (VZ bl t))]),⟨?_,own.elem,own.sz,own.own,own.fz,own.sm,?_,own.ro⟩⟩
 ·rw[U5,if_pos rfl]
  unfold Aj
  rw[hlen]
  rfl
 ·have:=own.cells.store1 (o:=t) (v:=Y2 (Aj (VZ bl t))) (by simp;omega)
  have e:((VZ bl t++List.replicate (64 - t) 0).map Y2).set t (Y2 (Aj (VZ bl t)))=(VZ bl (t+1)++List.replicate (64 - (t+1)) 0).map Y2:=by
   rw[Xe,T7 _ _ (by rw[Zt];omega),Zt,hlen,Tl,show 64 - t=(64 - (t+1))+1 by omega,Wl,Zz,List.set_cons_zero]
   show _=((VZ bl t++[if t<16 then F1 bl t 4 else Aj (VZ bl t)])++_).map Y2
   rw[if_neg (by omega),XB,Xe]
   rfl
  rw[e] at this
  exact this
theorem Zdm{bk o b b2:Nat}{cap:Option Nat}{bl:List UInt8}{H0:Heap}(c:Ctx)(x:X)(tm:TM)(H:Heap)(h:L1 bk o cap b b2 bl H0 64 tm H): ∃tm' H',NC c tm H x=.ok (.exit 0) tm' H' x∧L1 bk o cap b b2 bl H0 64 tm' H':=by
 have i11:=h.t11;have i0:=h.t0;have i2:=h.t2;have i3:=h.t3
 simp only[QO,Um,Oa,RK] at i11 i0 i2 i3
 have d1:decide (64<64)=false:=rfl
 simp only[NC,i11,d1,Zy,X2,X1,X5,YI,TQ,XI,SL,W0,W1,VS,TH,US,N8.g00,N8.g11,N8.g44,QO,LF,FO,]
 exact⟨_,_,rfl,i11,i0,i2,i3,h.keep,h.row⟩
theorem Zhg{n:Nat}(hl: ∀l H,lib 121 l H=none)(hl2: ∀l H,lib 108 l H=none)(hf:fs.get 121=some Kh)(hf2:fs.get 108=some K2)
  {bk o b b2:Nat}{cap:Option Nat}{bl:List UInt8}{H0:Heap}{rb:Row}(hb:Bytes H0 bk o cap bl rb)(hbl:bl.length=64)(hne:bk≠b)(hbk:bk<H0.nx)(hbn:b<H0.nx){rng:AV->(List AV->Heap->CR)->TM->Heap->X->WL}{yld:Nat->List AV->Heap->CR}(hF:64<fuel)(x:X)(tm:TM)(H:Heap)
  (h:L1 bk o cap b b2 bl H0 0 tm H): ∃tm' H',WP (NC ⟨Z8 lib fs fuel (n+2),yld,rng,fuel,false⟩) fuel tm H x=.ok (.exit 0) tm' H' x∧L1 bk o cap b b2 bl H0 64 tm' H':=
 Rg (L1 bk o cap b b2 bl H0) (L1 bk o cap b b2 bl H0 64) 64 (λt tm H ht hi=>if h16:t<16 then Zhf hb hbl hne hbk _ (show 4<fuel by omega) x t tm H h16 hi else Zdl hl hl2 hf hf2 hbn x t tm H (by omega) ht hi)
  (λtm H hi=>Zdm _ x tm H hi) 64 0 fuel tm H rfl hF h
theorem Zik:Y2 0=nI .u32 0:=rfl
theorem ZaD(bl:List UInt8):(VZ bl 0++List.replicate (64 - 0) 0).map Y2=List.replicate 64 (nI .u32 0):=by
 rw[show VZ bl 0=[] from rfl,Zx,VM,Zik]
attribute [local irreducible] VZ
def VG(bl:List UInt8):List UInt32:=VZ bl 64
theorem gy(bl:List UInt8):VZ bl 64=VG bl:=rfl
theorem KD(bl:List UInt8):(VG bl).length=64:=OP bl 64
attribute [local irreducible] VG
theorem Bytes.keep{H H':Heap}{bk o:Nat}{cap:Option Nat}{bl:List UInt8}{rb:Row}{S:List Nat}(h:Bytes H bk o cap bl rb)(k:ZE H H' S)(hlt:bk<H.nx)(hS:bk∉S):Bytes H' bk o cap bl rb:=
 ⟨(k.get bk hlt hS).trans h.at_,h.sz,h.fits,h.get,h.cap⟩
theorem gA{n:Nat}(hl: ∀l H,lib 121 l H=none)(hl2: ∀l H,lib 108 l H=none)(hl3: ∀l H,lib 107 l H=none)(hf:fs.get 121=some Kh)(hf2:fs.get 108=some K2)(hf3:fs.get 107=some Ca)(hF:64<fuel)
  {bk o:Nat}{cap:Option Nat}{bl:List UInt8}{H:Heap}{rb:Row}(hb:Bytes H bk o cap bl rb)(hbl:bl.length=64)(hbk:bk<H.nx)(hro:H.ro<=H.nx):
  ∃H',Z8 lib fs fuel (n+3) 107 [.slice bk o 64 cap] H=.ret (.agg ((VG bl).map Y2)) H'∧ZE H H' []:=by
 rw[Z7 (hl3 _ _) hf3]
 simp only[Ca,Ib,Rx,X2,X1,X5,YI,XI,W6,TH,Vd,RY,JK,gU,oD,Hh]
 generalize hL:WP (NC _) fuel _ _ _=L
 generalize ha:(H.new (.row ⟨165,1,64,.leaf,nI .u32 0,0,false,true,true⟩))=Ha at hL
 have nxa:Ha.nx=H.nx+1:=by rw[<-ha];rfl
 have ga:Ha.t.get H.nx=some (.row ⟨165,1,64,.leaf,nI .u32 0,0,false,true,true⟩):=by rw[<-ha,VX,if_pos rfl]
 have ka:ZE H Ha []:=by rw[<-ha];exact ZE.new H _ []
 generalize hb':(Ha.new (.row ⟨165,1,64,.leaf,nI .u32 0,0,false,true,true⟩))=Hb at hL
 have nxb:Hb.nx=H.nx+2:=by rw[<-hb',JK,nxa]
 have gb:Hb.t.get (H.nx+1)=some (.row ⟨165,1,64,.leaf,nI .u32 0,0,false,true,true⟩):=by rw[<-hb',VX,nxa,if_pos rfl]
 have Gj:Hb.t.get H.nx=some (.row ⟨165,1,64,.leaf,nI .u32 0,0,false,true,true⟩):=by rw[<-hb',VX,nxa,if_neg (by omega),ga]
 have kab:ZE H Hb []:=by rw[<-hb'];exact ka.then_new _
 have Zo6:Own Hb (H.nx+1) 165 ((VZ bl 0++List.replicate (64 - 0) 0).map Y2) ⟨165,1,64,.leaf,nI .u32 0,0,false,true,true⟩:=by
  refine⟨gb,rfl,rfl,rfl,rfl,rfl,?_,by rw[kab.ro];omega⟩
  rw[ZaD]
  exact Cells.zero 165 64 (nI .u32 0) 0 false true true
 obtain⟨g9,H2,rfl,j⟩:=Tu (P:=λT=>L1 bk o cap (H.nx+1) H.nx bl Hb 0 T Hb) (Q:=L1 bk o cap (H.nx+1) H.nx bl Hb 64)
  (λT hi=>Zhg hl hl2 hf hf2 (hb.keep kab hbk (by simp)) hbl (by omega) (ZZ hbk kab.nx) (by omega) hF _ T Hb hi) hL ⟨rfl,rfl,rfl,rfl,ZE.refl _ _,_,Zo6⟩
 obtain⟨r,own⟩:=j.row
 rw[gy,show 64 - 64=0 from rfl,Td,Zr] at own
 have j2:=j.t2;have j3:=j.t3
 simp only[Oa,RK] at j2 j3
 have hlen:=KD bl
 have ld:JH 64 (.ptr (H.nx+1) 0) H2=.val (.agg ((VG bl).map Y2)) H2:=by
  rw[NX own.at_ own.cells (by simp;omega),ZC,YS (by simp;omega)]
 have r2:H2.t.get H.nx=some (.row ⟨165,1,64,.leaf,nI .u32 0,0,false,true,true⟩):=by
  rw[j.keep.get H.nx (by omega) (by simp),Gj]
 have hv:((VG bl).map Y2).length=64:=by rw[Zt];exact hlen
 have st:RE 64 (.ptr H.nx 0) (.agg ((VG bl).map Y2)) H2=.val XE (H2.put H.nx (.row (_))):=UJ (v:=.agg ((VG bl).map Y2)) r2 (Cells.zero 165 64 (nI .u32 0) 0 false true true) rfl (by rw[j.keep.ro,kab.ro];exact hro) rfl (by omega) hv (by simp)
 simp only[j2,j3,ld,st,WI,YI,X5,X2,NZ,Tb,X1,Oa,RK,Zfh,ZfO,Qc,XI,Nl,QR,N8.g01,N8.g11,N8.g66,]
 have cl:=(Cells.zero 165 64 (nI .u32 0) 0 false true true).store (o:=0) (vs:=(VG bl).map Y2) (by rw[hv];simp)
 have e:(List.replicate 64 (nI .u32 0)).take 0++((VG bl).map Y2++(List.replicate 64 (nI .u32 0)).drop (0+((VG bl).map Y2).length))=(VG bl).map Y2:=by
  rw[ZI,Zx,hv,T5 (by simp),Zr]
 rw[e] at cl
 refine⟨_,M3 j2 (by rw[U5,if_pos rfl];rfl) cl hv,?_⟩
 refine(kab.trans j.keep (λc hc hlt=>?_)).then_put (λhlt=>absurd hlt (ZL _))
 simp only[ZG] at hc;omega
end
section
attribute [local irreducible] VG
variable {lib:Nat->List AV->Heap->Option CR} {fs:T CF} {fuel:Nat}
theorem Own.store{H:Heap}{b e:Nat}{l:List AV}{r:Row}(own:Own H b e l r){o:Nat}{vs:List AV}(ho:o+vs.length<=l.length):
  Own (H.put b (.row (r.setCells (Xj r.cells o vs)))) b e (l.take o++(vs++l.drop (o+vs.length))) (r.setCells (Xj r.cells o vs)):=
 ⟨by rw[U5,if_pos rfl],own.elem,own.sz,own.own,own.fz,own.sm,own.cells.store ho,own.ro⟩
theorem tA{l:List UInt32}(h:l.length=8): ∃a0 a1 a2 a3 a4 a5 a6 a7,l=[a0,a1,a2,a3,a4,a5,a6,a7]:=by
 match l,h with
 |[a0,a1,a2,a3,a4,a5,a6,a7],_=>exact⟨a0,a1,a2,a3,a4,a5,a6,a7,rfl⟩
def t1F(v:List UInt32)(k w:UInt32):UInt32:=
 v.getD 7 0+(AH (v.getD 4 0) 6^^^AH (v.getD 4 0) 11^^^AH (v.getD 4 0) 25)+(v.getD 4 0&&&v.getD 5 0^^^ ~~~(v.getD 4 0)&&&v.getD 6 0)+k+w
def t2F(v:List UInt32):UInt32:=
 (AH (v.getD 0 0) 2^^^AH (v.getD 0 0) 13^^^AH (v.getD 0 0) 22)+(v.getD 0 0&&&v.getD 1 0^^^v.getD 0 0&&&v.getD 2 0^^^v.getD 1 0&&&v.getD 2 0)
def Zat(v:List UInt32)(k w:UInt32):List UInt32:=
 [t1F v k w+t2F v,v.getD 0 0,v.getD 1 0,v.getD 2 0,v.getD 3 0+t1F v k w,v.getD 4 0,v.getD 5 0,v.getD 6 0]
def P1(K W v:List UInt32):Nat->List UInt32
 |0=>v
 |t+1=>Zat (P1 K W v t) (K.getD t 0) (W.getD t 0)
theorem JY(K W v:List UInt32)(h:v.length=8): ∀t,(P1 K W v t).length=8
 |0=>h
 |_+1=>rfl
structure L3(sb bv bw:Nat)(K W v:List UInt32)(H0:Heap)(t:Nat)(tm:TM)(H:Heap):Prop where
 t18:WX tm=nI .i64 t
 t0:Y3 tm=.ptr sb 0
 t4:XQ tm=.ptr bv 0
 t5:Wa tm=.ptr bw 0
 keep:ZE H0 H [bv]
 row: ∃r,Own H bv 143 ((P1 K W v t).map Y2) r
theorem Zdo{n:Nat}(hl: ∀l H,lib 121 l H=none)(hl2: ∀l H,lib 108 l H=none)(hf:fs.get 121=some Kh)(hf2:fs.get 108=some K2)
  {sb bv bw:Nat}{K W v:List UInt32}{H0:Heap}{rK rW:Row}(hv:v.length=8)(hK:H0.t.get 5=some (.row rK))(cK:Cells rK (K.map Y2))(nK:K.length=64)(hW:H0.t.get bw=some (.row rW))(cW:Cells rW (W.map Y2))(nW:W.length=64)
  (h7:5<bv)(hbv:bv<H0.nx)(hbw:bw<H0.nx)(hne:bw≠bv){rng:AV->(List AV->Heap->CR)->TM->Heap->X->WL}{yld:Nat->List AV->Heap->CR}(x:X)
  (t:Nat)(tm:TM)(H:Heap)(ht:t<64)(h:L3 sb bv bw K W v H0 t tm H): ∃tm' H',Hw ⟨Z8 lib fs fuel (n+2),yld,rng,fuel,false⟩ tm H x=.ok .normal tm' H' x∧L3 sb bv bw K W v H0 (t+1) tm' H':=by
 obtain⟨r,own⟩:=h.row
 have i18:=h.t18;have i0:=h.t0;have i4:=h.t4;have i5:=h.t5
 simp only[Dw,Um,TG,QD] at i18 i0 i4 i5
 have d1:decide (t<64)=true:=Zj ht
 have lb:bv<H.nx:=ZZ hbv h.keep.nx
 have lw:bw<H.nx:=ZZ hbw h.keep.nx
 have hnext:P1 K W v (t+1)=Zat (P1 K W v t) (K.getD t 0) (W.getD t 0):=rfl
 have hlen:=JY K W v hv t
 generalize P1 K W v t=vt at own hlen hnext
 obtain⟨a0,a1,a2,a3,a4,a5,a6,a7,rfl⟩:=tA hlen
 have ldv: ∀(H':Heap) (o:Nat),H'.t=H.t->o<8->TI (.ptr bv o) H'=.val ((([a0,a1,a2,a3,a4,a5,a6,a7]:List UInt32).map Y2).getD o .unk) H':=λH' o he ho=>Ta (by rw[he];exact own.at_) own.cells ho
 have lv0:=λH' he=>ldv H' 0 he (by omega);have lv1:=λH' he=>ldv H' 1 he (by omega);have lv2:=λH' he=>ldv H' 2 he (by omega)
 have lv4:=λH' he=>ldv H' 4 he (by omega);have lv5:=λH' he=>ldv H' 5 he (by omega);have lv6:=λH' he=>ldv H' 6 he (by omega);have lv7:=λH' he=>ldv H' 7 he (by omega)
 simp only[Zz,ZH,Zs,Zv] at lv0 lv1 lv2 lv4 lv5 lv6 lv7
 have lw1: ∀(H':Heap),H'.t=H.t->TI (.ptr bw t) H'=.val (Y2 (W.getD t 0)) H':=λH' he=>by
  rw[Ta (r:=rW) (by rw[he,h.keep.get bw hbw (by simpa using hne)];exact hW) cW (by simp;omega),Zf,YO,Zf,Zn (show t<W.length by omega)];rfl
 have lk1: ∀(H':Heap),H'.t=H.t->TI (.ptr 5 t) H'=.val (Y2 (K.getD t 0)) H':=λH' he=>by
  rw[Ta (r:=rK) (by rw[he,h.keep.get 5 (Qm h7 hbv) (by simp;omega)];exact hK) cK (by simp;omega),Zf,YO,Zf,Zn (show t<K.length by omega)];rfl
 have tn:=λ(a:UInt32) (k:Nat) (h0:0<k) (h:k<32) (H:Heap)=>kD (n:=n) (fuel:=fuel) hl hl2 hf hf2 a k h0 h H
 have cp:z4 1 (.slice bv 1 7 (some 7)) (.slice bv 0 7 (some 8)) H=.val (nI .i64 7) (H.put bv (.row (r.setCells (Xj r.cells 1 [Y2 a0,Y2 a1,Y2 a2,Y2 a3,Y2 a4,Y2 a5,Y2 a6])))):=
  eQ own.at_ own.cells own.own own.ro own.fz (by simp) (by omega) own.at_ own.cells (by simp)
 have Pc:=own.store (o:=1) (vs:=[Y2 a0,Y2 a1,Y2 a2,Y2 a3,Y2 a4,Y2 a5,Y2 a6]) (by simp)
 generalize hr1:r.setCells (Xj r.cells 1 [Y2 a0,Y2 a1,Y2 a2,Y2 a3,Y2 a4,Y2 a5,Y2 a6])=r1 at Pc cp
 generalize hH1:H.put bv (.row r1)=H1 at Pc cp
 have ld3:TI (.ptr bv 4) H1=.val (Y2 a3) H1:=Ta Pc.at_ Pc.cells (by simp)
 have st1: ∀z:UInt32,RE 1 (.ptr bv 4) (Y2 z) H1=.val XE (H1.put bv (.row (r1.setCells (Xj r1.cells 4 [Y2 z])))):=λz=>UJ (v:=Y2 z) Pc.at_ Pc.cells Pc.own Pc.ro Pc.fz (Zq _) rfl (by simp)
 have Ax:=λz:UInt32=>Pc.store (o:=4) (vs:=[Y2 z]) (by simp)
 have st2: ∀z y:UInt32,RE 1 (.ptr bv 0) (Y2 y) (H1.put bv (.row (r1.setCells (Xj r1.cells 4 [Y2 z]))))=.val XE ((H1.put bv (.row (r1.setCells (Xj r1.cells 4 [Y2 z])))).put bv (.row ((r1.setCells (Xj r1.cells 4 [Y2 z])).setCells (Xj (r1.setCells (Xj r1.cells 4 [Y2 z])).cells 0 [Y2 y])))):=
  λz y=>UJ (v:=Y2 y) (Ax z).at_ (Ax z).cells (Ax z).own (Ax z).ro (Ax z).fz (Zq _) rfl (by simp)
 have zA:=λz y:UInt32=>(Ax z).store (o:=0) (vs:=[Y2 y]) (by simp)
 have k1:ZE H0 H1 [bv]:=by rw[<-hH1];exact h.keep.then_put λ_=>ZG.2 rfl
 simp(maxSteps:=4000000) (disch:=first|omega|rfl) only[Hw,i18,i4,i5,d1,Zy,lv0,lv1,lv2,lv4,lv5,lv6,lv7,lw1,lk1,tn,cp,ld3,st1,st2,ZN lb,ZN lw,Yy,Yq,Cx,kG,Zcf,ZdZ,Mq,It,XG,VI,LZ,LY,X2,X1,X5,YI,XI,W0,W1,TF,W6,V3,Nl,TH,PL,RS,Vd,Ry,OF,y9,US,Sq,N8.g00,N8.g01,N8.g02,N8.g03,N8.g04,N8.g05,N8.g06,N8.g07,N8.g10,N8.g11,N8.g12,N8.g13,N8.g14,N8.g15,N8.g16,N8.g17,N8.g20,N8.g21,N8.g22,N8.g23,N8.g24,N8.g25,N8.g26,N8.g27,N8.g30,N8.g31,N8.g32,N8.g33,N8.g34,N8.g35,N8.g36,N8.g40,N8.g41,N8.g42,N8.g43,N8.g44,N8.g45,N8.g46,N8.g47,N8.g50,N8.g51,N8.g52,N8.g53,N8.g54,N8.g55,N8.g56,N8.g57,N8.g60,N8.g61,N8.g62,N8.g63,N8.g64,N8.g65,N8.g66,N8.g67,N8.g70,N8.g71,N8.g72,N8.g73,N8.g74,N8.g75,N8.g76,N8.g77,Ki,Iv,KA,Iq,KL,KM,IC,Ig,EI,GF,yc,sP,Ih,Kt,ID,KN,Fu,Ks,Ik,Kv,G5,G6,CP,Fz,Zz,ZH,cond_true,cond_false,VH,Nat.reducePow,Nat.reduceDiv,Nat.reduceMod,decide_true,decide_false,Nat.zero_ne_one,TL,Tb,NY,Zb,TG,QD,JC,LG,HH,IK,LD,Dw,B0,yM,nT,B1,B2,Dx,yN,uW,uX,nU,nX,nY,uY,nZ,cu,cz,cA,cC,cD,cE,cF,cG,cH,cI,cJ,cL,n7,cM,cN,cO,cP,Zfc,yO,mc,cQ,md,mf,mg,cR,cS,cT,cU,mh,mj,mp,cX,mq,uZ,cY,cZ,bc,be,Zfd,Zfe,Zff,Zfg,bf,bi,yP,Zfh,Zjw,Zjx,Zjy,Zjz,ZjA,ZjB,ZjC,ZjD,ZjE,ZjF,ZjG,ZjH,ES,ET,AY,zJ,vU,r7,AW,x4,rX,ki,kj,kl,km,x5,x6,rY,rZ,kn,ko,kr,r6,ku,Zba,Zbb,Zbc,Zbd,Zbe,Zbf,Zbg,Zbh,Zbi,Zbj,Zbk,Zbl,Zbm,Zbn,Zbo,Zbp,Zbq,Zbr,kw,ky,Zbs,Zbt,Zbu,Zbv,Zbw,Zbx,Zby,Zbz,ZbA,ZbB,ZbC,ZbD,ZbE,ZbF,ZbG,ZbH,ZbI,ZbJ,ZfI,ZfJ,ZfK,ZfL,ZfM,ZfN,ZbK,ZfO,Zle,Zlf,Zlg,Zlh,Zli,Zlj,Zlk,Zll,Zlm,Zln,Zlo,Zlp,Zlq]
 refine⟨_,_,rfl,rfl,i0,i4,i5,(k1.then_put λ_=>ZG.2 rfl).then_put λ_=>ZG.2 rfl,?_⟩
 rw[hnext]
 exact⟨_,zA (a3+t1F [a0,a1,a2,a3,a4,a5,a6,a7] (K.getD t 0) (W.getD t 0)) (t1F [a0,a1,a2,a3,a4,a5,a6,a7] (K.getD t 0) (W.getD t 0)+t2F [a0,a1,a2,a3,a4,a5,a6,a7])⟩
end
section
attribute [local irreducible] VG
variable {lib:Nat->List AV->Heap->Option CR} {fs:T CF} {fuel:Nat}
theorem Zdn{sb bv bw:Nat}{K W v:List UInt32}{H0:Heap}(c:Ctx)(x:X)(tm:TM)(H:Heap)(h:L3 sb bv bw K W v H0 64 tm H): ∃tm' H',Hw c tm H x=.ok (.exit 0) tm' H' x∧L3 sb bv bw K W v H0 64 tm' H':=by
 have i18:=h.t18;have i0:=h.t0;have i4:=h.t4;have i5:=h.t5
 simp only[Dw,Um,TG,QD] at i18 i0 i4 i5
 have d1:decide (64<64)=false:=rfl
 simp only[Hw,i18,d1,Zy,X2,X1,X5,YI,TQ,XI,SL,W0,W1,VS,TH,US,N8.g00,N8.g22,N8.g33,Dw,B0,rX,]
 exact⟨_,_,rfl,i18,i0,i4,i5,h.keep,h.row⟩
theorem Zhh{n:Nat}(hl: ∀l H,lib 121 l H=none)(hl2: ∀l H,lib 108 l H=none)(hf:fs.get 121=some Kh)(hf2:fs.get 108=some K2)
  {sb bv bw:Nat}{K W v:List UInt32}{H0:Heap}{rK rW:Row}(hv:v.length=8)(hK:H0.t.get 5=some (.row rK))(cK:Cells rK (K.map Y2))(nK:K.length=64)(hW:H0.t.get bw=some (.row rW))(cW:Cells rW (W.map Y2))(nW:W.length=64)
  (h7:5<bv)(hbv:bv<H0.nx)(hbw:bw<H0.nx)(hne:bw≠bv){rng:AV->(List AV->Heap->CR)->TM->Heap->X->WL}{yld:Nat->List AV->Heap->CR}(hF:64<fuel)(x:X)(tm:TM)(H:Heap)
  (h:L3 sb bv bw K W v H0 0 tm H): ∃tm' H',WP (Hw ⟨Z8 lib fs fuel (n+2),yld,rng,fuel,false⟩) fuel tm H x=.ok (.exit 0) tm' H' x∧L3 sb bv bw K W v H0 64 tm' H':=
 Rg (L3 sb bv bw K W v H0) (L3 sb bv bw K W v H0 64) 64 (λt tm H ht hi=>Zdo hl hl2 hf hf2 hv hK cK nK hW cW nW h7 hbv hbw hne x t tm H ht hi) (λtm H hi=>Zdn _ x tm H hi) 64 0 fuel tm H rfl hF h
def Lv(h v:List UInt32)(t:Nat):List UInt32:=(List.range 8).map λi=>if i<t then h.getD i 0+v.getD i 0 else h.getD i 0
structure L4(sb bv:Nat)(e:Nat)(h v:List UInt32)(rest:List AV)(H0:Heap)(t:Nat)(tm:TM)(H:Heap):Prop where
 t92:JA tm=nI .i64 t
 t0:Y3 tm=.ptr sb 0
 t4:XQ tm=.ptr bv 0
 keep:ZE H0 H [sb]
 row: ∃r,Own H sb e ((Lv h v t).map Y2++rest) r
theorem HB(l:List UInt32)(i:Nat)(h:i<l.length):(l.map Y2).getD i .unk=Y2 (l.getD i 0):=by
 rw[Zf,YO,Zf,Zn h];rfl
theorem PA(h v:List UInt32)(t:Nat):(Lv h v t).length=8:=by unfold Lv;simp
theorem kN(h v:List UInt32)(t i:Nat)(hi:i<8):(Lv h v t).getD i 0=if i<t then h.getD i 0+v.getD i 0 else h.getD i 0:=by
 unfold Lv
 rw[Zf,YO,Wx hi];rfl
theorem qo(h v:List UInt32)(t:Nat)(ht:t<8):(Lv h v t).set t (h.getD t 0+v.getD t 0)=Lv h v (t+1):=by
 refine WM λi=>?_
 by_cases hi:i<8
 ·rw[Ql]
  have e1:(Lv h v (t+1))[i]? =some (if i<t+1 then h.getD i 0+v.getD i 0 else h.getD i 0):=by
   unfold Lv;rw[YO,Wx hi];rfl
  rw[e1]
  by_cases h1:t=i
  ·subst h1;rw[if_pos rfl,if_pos (by rw[PA];exact ht),if_pos (by omega)]
  ·rw[if_neg h1]
   unfold Lv;rw[YO,Wx hi]
   show some (if i<t then _ else _)=_
   by_cases h2:i<t
   ·rw[if_pos h2,if_pos (by omega)]
   ·rw[if_neg h2,if_neg (by omega)]
 ·rw[Xh (by rw[Uj,PA];omega),Xh (by rw[PA];omega)]
theorem Zdq{sb bv e:Nat}{h v:List UInt32}{rest:List AV}{H0:Heap}{rV:Row}(hV:H0.t.get bv=some (.row rV))(cV:Cells rV (v.map Y2))(nV:v.length=8)(hbv:bv<H0.nx)(hsb:sb<H0.nx)(hne:bv≠sb)
  (c:Ctx)(x:X)(t:Nat)(tm:TM)(H:Heap)(ht:t<8)(hi:L4 sb bv e h v rest H0 t tm H): ∃tm' H',Hx c tm H x=.ok .normal tm' H' x∧L4 sb bv e h v rest H0 (t+1) tm' H':=by
 obtain⟨r,own⟩:=hi.row
 have i92:=hi.t92;have i0:=hi.t0;have i4:=hi.t4
 simp only[mr,Um,TG] at i92 i0 i4
 have d1:decide (t<8)=true:=Zj ht
 have lb:bv<H.nx:=ZZ hbv hi.keep.nx
 have ls:sb<H.nx:=ZZ hsb hi.keep.nx
 have ll:=PA h v t
 have lds: ∀(H':Heap),H'.t=H.t->TI (.ptr sb t) H'=.val (Y2 (h.getD t 0)) H':=λH' he=>by
  rw[Ta (r:=r) (by rw[he];exact own.at_) own.cells (by rw[Zm,Zt,ll];omega),Zf,Yt (by rw[Zt,ll];omega),<-Zf,HB _ _ (by omega),kN _ _ _ _ ht,if_neg (ZL _)]
 have ldv: ∀(H':Heap),H'.t=H.t->TI (.ptr bv t) H'=.val (Y2 (v.getD t 0)) H':=λH' he=>by
  rw[Ta (r:=rV) (by rw[he,hi.keep.get bv hbv (by simpa using hne)];exact hV) cV (by simp;omega),HB _ _ (by omega)]
 have st: ∀z:UInt32,RE 1 (.ptr sb t) (Y2 z) H=.val XE (H.put sb (.row (r.setCells (Xj r.cells t [Y2 z])))):=λz=>UJ (v:=Y2 z) own.at_ own.cells own.own own.ro own.fz (Zq _) rfl (by rw[Zm,Zt,ll];omega)
 simp(maxSteps:=4000000) (disch:=first|omega|rfl) only[Hx,i92,i0,i4,d1,Zy,lds,ldv,st,ZN lb,ZN ls,Yy,Yq,Cx,X2,X1,X5,YI,XI,W0,W1,TF,W6,V3,Nl,TH,Vd,Ry,US,N8.g00,N8.g01,N8.g02,N8.g03,N8.g04,N8.g05,N8.g06,N8.g07,N8.g10,N8.g11,N8.g22,N8.g33,N8.g34,N8.g35,N8.g36,N8.g37,N8.g43,N8.g44,N8.g45,N8.g46,N8.g47,N8.g53,N8.g54,N8.g55,N8.g66,N8.g67,N8.g74,N8.g77,Ki,Iv,KA,Iq,KL,KM,IC,Ig,EI,GF,Ih,Kt,ID,KN,Fu,Ks,Ik,Kv,G5,G6,CP,Fz,Zz,ZH,cond_true,VH,Nat.reducePow,Nat.reduceDiv,Nat.reduceMod,decide_true,TL,Tb,O8,NY,O7,Vk,Us,Zb,Um,TG,QO,mr,Zfi,ZjI,ZjJ,ZjK,bj,ZjL,ZjM,ZgF,ZgG,ZgH,ZgI,ZgJ,ck,cq,cr,ZgK,ER,ES,Hh,ZfP,ZfQ,Zlr,Zls,Zlt,Zlu,Zlv,Zlw,Zh4,Zh5,Zh6,Zh7,Zh8,Zh9,Zia,Zib,Zic]
 refine⟨_,_,rfl,rfl,i0,i4,hi.keep.then_put λ_=>ZG.2 rfl,r.setCells (Xj r.cells t [Y2 (h.getD t 0+v.getD t 0)]),⟨by rw[U5,if_pos rfl],own.elem,own.sz,own.own,own.fz,own.sm,?_,own.ro⟩⟩
 have:=own.cells.store1 (o:=t) (v:=Y2 (h.getD t 0+v.getD t 0)) (by rw[Zm,Zt,ll];omega)
 rw[List.set_append_left _ _ (by rw[Zt,ll];omega),<-List.map_set,qo h v t ht] at this
 exact this
theorem Zdp{sb bv e:Nat}{h v:List UInt32}{rest:List AV}{H0:Heap}(c:Ctx)(x:X)(tm:TM)(H:Heap)(hi:L4 sb bv e h v rest H0 8 tm H): ∃tm' H',Hx c tm H x=.ok (.exit 2) tm' H' x∧L4 sb bv e h v rest H0 8 tm' H':=by
 have i92:=hi.t92;have i0:=hi.t0;have i4:=hi.t4
 simp only[mr,Um,TG] at i92 i0 i4
 have d1:decide (8<8)=false:=rfl
 simp only[Hx,i92,d1,Zy,X2,X1,X5,YI,TQ,XI,SL,W0,W1,VS,TH,US,N8.g11,N8.g33,N8.g55,mr,Zfi,ZfQ,]
 exact⟨_,_,rfl,i92,i0,i4,hi.keep,hi.row⟩
theorem Zhi{sb bv e:Nat}{h v:List UInt32}{rest:List AV}{H0:Heap}{rV:Row}(hV:H0.t.get bv=some (.row rV))(cV:Cells rV (v.map Y2))(nV:v.length=8)(hbv:bv<H0.nx)(hsb:sb<H0.nx)(hne:bv≠sb)
  (c:Ctx)(hF:8<c.fuel)(x:X)(tm:TM)(H:Heap)(hi:L4 sb bv e h v rest H0 0 tm H): ∃tm' H',WP (Hx c) c.fuel tm H x=.ok (.exit 2) tm' H' x∧L4 sb bv e h v rest H0 8 tm' H':=
 Rg (L4 sb bv e h v rest H0) (L4 sb bv e h v rest H0 8) 8 (λt tm H ht hi=>Zdq hV cV nV hbv hsb hne c x t tm H ht hi) (λtm H hi=>Zdp c x tm H hi) 8 0 c.fuel tm H rfl hF hi
end
section
attribute [local irreducible] VG
variable {lib:Nat->List AV->Heap->Option CR} {fs:T CF} {fuel:Nat}
def fP(K h:List UInt32)(bl:List UInt8):List UInt32:=Lv h (P1 K (VG bl) h 64) 8
theorem Cells.whole{r:Row}{l vs:List AV}(h:Cells r l)(hl:vs.length=l.length):Cells (r.setCells (Xj r.cells 0 vs)) vs:=by
 have:=h.store (o:=0) (vs:=vs) (by omega)
 rw[ZI,Zx,Zb,T5 (by omega),Zr] at this
 exact this
theorem Zd1(e:Nat)(v:AV)(tm:TM)(H:Heap):V9 e [v,v,v,v,v,v,v,v] tm H=.val (.ptr H.nx 0) (H.newRow e 1 [v,v,v,v,v,v,v,v] true):=rfl
theorem Zca(h v:List UInt32)(hh:h.length=8):Lv h v 0=h:=by
 obtain⟨a0,a1,a2,a3,a4,a5,a6,a7,rfl⟩:=tA hh
 rfl
theorem ZbQ{n:Nat}(hl: ∀l H,lib 121 l H=none)(hl2: ∀l H,lib 108 l H=none)(hl3: ∀l H,lib 107 l H=none)(hl4: ∀l H,lib 91 l H=none)(hf:fs.get 121=some Kh)(hf2:fs.get 108=some K2)(hf3:fs.get 107=some Ca)(qh:fs.get 91=some c91)(hF:64<fuel)
  {sb bk o e:Nat}{cap:Option Nat}{bl:List UInt8}{H:Heap}{rb rK r:Row}{K h:List UInt32}{rest:List AV}(hK:H.t.get 5=some (.row rK))(cK:Cells rK (K.map Y2))(nK:K.length=64)(h7:5<H.nx)(h7s:5≠sb)
  (own:Own H sb e (h.map Y2++rest) r)(hh:h.length=8)(hsb:sb<H.nx)(hb:Bytes H bk o cap bl rb)(hbl:bl.length=64)(hbk:bk<H.nx)(hro:H.ro<=H.nx):
  ∃H',Z8 lib fs fuel (n+4) 91 [.ptr sb 0,.slice bk o 64 cap] H=.ret (.tup []) H'∧ZE H H' [sb]∧ ∃r',Own H' sb e ((fP K h bl).map Y2++rest) r':=by
 rw[Z7 (hl4 _ _) qh]
 have ld:JH 8 (.ptr sb 0) H=.val (.agg (h.map Y2)) H:=by
  rw[NX own.at_ own.cells (by rw[Zm,Zt];omega),ZC,List.take_left' (by rw[Zt];exact hh)]
 generalize ha:H.newRow 143 1 [nI .u32 0,nI .u32 0,nI .u32 0,nI .u32 0,nI .u32 0,nI .u32 0,nI .u32 0,nI .u32 0] true=Ha
 have nxa:Ha.nx=H.nx+1:=by rw[<-ha];rfl
 have ka:ZE H Ha []:=by rw[<-ha];exact ZE.new H _ []
 have ga:Ha.t.get H.nx=some (.row ⟨143,1,8,T.ofList [nI .u32 0,nI .u32 0,nI .u32 0,nI .u32 0,nI .u32 0,nI .u32 0,nI .u32 0,nI .u32 0],.unk,0,false,true,true⟩):=by
  rw[<-ha,T1,VX,if_pos rfl];rfl
 generalize hra:(⟨143,1,8,T.ofList [nI .u32 0,nI .u32 0,nI .u32 0,nI .u32 0,nI .u32 0,nI .u32 0,nI .u32 0,nI .u32 0],.unk,0,false,true,true⟩:Row)=ra at ga
 have ca:Cells ra [nI .u32 0,nI .u32 0,nI .u32 0,nI .u32 0,nI .u32 0,nI .u32 0,nI .u32 0,nI .u32 0]:=by
  rw[<-hra]
  have:=Cells.new 143 1 [nI .u32 0,nI .u32 0,nI .u32 0,nI .u32 0,nI .u32 0,nI .u32 0,nI .u32 0,nI .u32 0] 0 false true true
  exact this
 have oa:ra.own=true∧ra.fz=0∧ra.sm=false∧ra.elem=143∧ra.sz=1:=by rw[<-hra];exact⟨rfl,rfl,rfl,rfl,rfl⟩
 have roa:Ha.ro<=H.nx:=by rw[ka.ro];exact hro
 have nh:(h.map Y2).length=8:=by rw[Zt];exact hh
 have sta:RE 8 (.ptr H.nx 0) (.agg (h.map Y2)) Ha=.val XE (Ha.put H.nx (.row (ra.setCells (Xj ra.cells 0 (h.map Y2))))):=UJ (v:=.agg (h.map Y2)) ga ca oa.1 roa oa.2.1 (by omega) nh (by simp)
 generalize hv':ra.setCells (Xj ra.cells 0 (h.map Y2))=rv at sta
 have cv:Cells rv (h.map Y2):=by rw[<-hv'];exact ca.whole (by rw[nh];rfl)
 have ov:rv.own=true∧rv.fz=0∧rv.sm=false∧rv.elem=143∧rv.sz=1:=by rw[<-hv'];exact oa
 generalize hbh:Ha.put H.nx (.row rv)=Hb at sta
 have nxb:Hb.nx=H.nx+1:=by rw[<-hbh];exact nxa
 have kb:ZE H Hb []:=by rw[<-hbh];exact ka.then_put λhlt=>absurd hlt (ZL _)
 have gv:Hb.t.get H.nx=some (.row rv):=by rw[<-hbh,U5,if_pos rfl]
 obtain⟨Hc,ec,kc⟩:=gA (n:=n) (fuel:=fuel) hl hl2 hl3 hf hf2 hf3 hF (hb.keep kb hbk (by simp)) hbl (by omega) (by rw[kb.ro];omega)
 have kbc:ZE H Hc []:=kb.trans kc λc hc _=>hc
 have nxc:H.nx+1<=Hc.nx:=by have:=kc.nx;omega
 have gvc:Hc.t.get H.nx=some (.row rv):=by rw[kc.get H.nx (by omega) (by simp)];exact gv
 generalize hd:Hc.new (.row ⟨165,1,64,.leaf,nI .u32 0,0,false,true,true⟩)=Hd
 have nxd:Hd.nx=Hc.nx+1:=by rw[<-hd];rfl
 have kd:ZE H Hd []:=by rw[<-hd];exact kbc.then_new _
 have gd:Hd.t.get Hc.nx=some (.row ⟨165,1,64,.leaf,nI .u32 0,0,false,true,true⟩):=by rw[<-hd,VX,if_pos rfl]
 have gvd:Hd.t.get H.nx=some (.row rv):=by rw[<-hd,VX,if_neg (by omega)];exact gvc
 have nw:((VG bl).map Y2).length=64:=by rw[Zt];exact KD bl
 have cd:=Cells.zero 165 64 (nI .u32 0) 0 false true true
 have std:RE 64 (.ptr Hc.nx 0) (.agg ((VG bl).map Y2)) Hd=.val XE (Hd.put Hc.nx (.row (Row.setCells ⟨165,1,64,.leaf,nI .u32 0,0,false,true,true⟩ (Xj .leaf 0 ((VG bl).map Y2))))):=
  UJ (v:=.agg ((VG bl).map Y2)) gd cd rfl (by rw[kd.ro];omega) rfl (by omega) nw (by simp)
 have cw:Cells (Row.setCells ⟨165,1,64,.leaf,nI .u32 0,0,false,true,true⟩ (Xj .leaf 0 ((VG bl).map Y2))) ((VG bl).map Y2):=cd.whole (by rw[nw,Yu])
 generalize hrw:Row.setCells ⟨165,1,64,.leaf,nI .u32 0,0,false,true,true⟩ (Xj .leaf 0 ((VG bl).map Y2))=rw_ at std cw
 generalize he:Hd.put Hc.nx (.row rw_)=He at std
 have nxe:He.nx=Hc.nx+1:=by rw[<-he];exact nxd
 have ke:ZE H He []:=by rw[<-he];exact kd.then_put λhlt=>by omega
 have ge:He.t.get Hc.nx=some (.row rw_):=by rw[<-he,U5,if_pos rfl]
 have gve:He.t.get H.nx=some (.row rv):=by rw[<-he,U5,if_neg (by omega)];exact gvd
 simp only[c91,Ic,ld,Zd1,ha,sta,ec,RY,hd,std,Rx,X2,X1,Rt,Se,X5,YI,XI,W6,Nl,TH,PL,RS,Vd,Sq,N8.g00,N8.g01,N8.g02,N8.g10,N8.g11,N8.g14,N8.g20,N8.g21,N8.g22,N8.g44,N8.g55,N8.g66,N8.g77,NZ,Tb,O8,O7,RY,Vk,Us,Zb,Um,Mi,TG,QD,LF,JB,IY,GW,Dv,yL,ES,ET,FO,D6,D7,AX,xZ,rU,x4,ER,gS,Um,Mi]
 generalize hL:WP (Hw _) fuel _ _ _=L
 have ownv:Own He H.nx 143 ((P1 K (VG bl) h 0).map Y2) rv:=⟨gve,ov.2.2.2.1,ov.2.2.2.2,ov.1,ov.2.1,ov.2.2.1,cv,by rw[ke.ro];exact hro⟩
 obtain⟨g9,Hf,rfl,j⟩:=Tu (P:=λT=>L3 sb H.nx Hc.nx K (VG bl) h He 0 T He) (Q:=L3 sb H.nx Hc.nx K (VG bl) h He 64)
  (λT hi=>Zhh (n:=n+1) hl hl2 hf hf2 hh (by rw[ke.get 5 h7 (by simp)];exact hK) cK nK ge cw (KD bl) h7 (by omega) (by omega) (by omega) hF _ T He hi) hL ⟨rfl,rfl,rfl,rfl,ZE.refl _ _,_,ownv⟩
 obtain⟨rv2,Ax⟩:=j.row
 have j0:=j.t0;have j4:=j.t4
 simp only[Um,TG] at j0 j4
 simp only[WI,YI,X5,X2,Vd,X1,TH,XI,W6,Rx,ZfP]
 generalize hL2:WP (Hx _) fuel _ _ _=L2
 have kf:ZE H Hf []:=ke.trans j.keep λc hc hlt=>by simp only[ZG] at hc;omega
 have owns:Own Hf sb e ((Lv h (P1 K (VG bl) h 64) 0).map Y2++rest) r:=by
  rw[Zca _ _ hh]
  exact⟨by rw[kf.get sb hsb (by simp)];exact own.at_,own.elem,own.sz,own.own,own.fz,own.sm,own.cells,by rw[kf.ro];exact own.ro⟩
 have nxf:He.nx<=Hf.nx:=j.keep.nx
 obtain⟨tm3,Hg,rfl,q⟩:=Tu (P:=λT=>L4 sb H.nx e h (P1 K (VG bl) h 64) rest Hf 0 T Hf) (Q:=L4 sb H.nx e h (P1 K (VG bl) h 64) rest Hf 8)
  (λT hi=>Zhi Ax.at_ Ax.cells (JY K (VG bl) h hh 64) (by omega) (by omega) (by omega) _ (show 8<fuel by omega) _ T Hf hi) hL2 ⟨rfl,j0,j4,ZE.refl _ _,_,owns⟩
 simp only[WI,DL,Fw]
 exact⟨_,rfl,kf.trans' q.keep,q.row⟩
end
section
attribute [local irreducible] VG
variable {lib:Nat->List AV->Heap->Option CR} {fs:T CF} {fuel:Nat}
def BV(H:Heap)(v:AV)(l:List UInt8):Prop:=
 (l=[]∧(v=.nils∨ ∃b o c,v=.slice b o 0 c))∨(l≠[]∧ ∃b o c r,v=.slice b o l.length c∧Bytes H b o c l r∧b<H.nx)
theorem BV.len{H:Heap}{v:AV}{l:List UInt8}(h:BV H v l)(H':Heap):lenV v H'=.val (nI .i64 l.length) H':=by
 rcases h with⟨rfl,rfl|⟨b,o,c,rfl⟩⟩|⟨_,b,o,c,r,rfl,_⟩
 ·exact B9 H'
 ·exact V8 ..
 ·exact V8 ..
theorem Bytes.take{H:Heap}{b o n:Nat}{c:Option Nat}{l:List UInt8}{r:Row}(h:Bytes H b o c l r)(hn:n<=l.length):Bytes H b o (QA c 0) (l.take n) r:=by
 have hl:(l.take n).length=n:=by rw[Z4,Wh hn]
 refine⟨h.at_,h.sz,by have:=h.fits;omega,λi hi=>?_,λk hk=>?_⟩
 ·rw[h.get i (by omega),Zf,Zf,XT (by omega)]
 ·cases c with
  |none=>cases hk
  |some c=>
   cases hk
   have:=h.cap c rfl
   show(l.take n).length<=c - 0∧o+(c - 0)<=r.size
   omega
theorem Bytes.drop{H:Heap}{b o n:Nat}{c:Option Nat}{l:List UInt8}{r:Row}(h:Bytes H b o c l r)(hn:n<=l.length):Bytes H b (o+n) (QA c n) (l.drop n) r:=by
 have hl:(l.drop n).length=l.length - n:=YW ..
 have hf:=h.fits
 refine⟨h.at_,h.sz,by omega,λi hi=>?_,λk hk=>?_⟩
 ·rw[X3,h.get (n+i) (by omega),Zf,Zf,XV]
 ·cases c with
  |none=>cases hk
  |some c=>
   cases hk
   have:=h.cap c rfl
   show(l.drop n).length<=c - n∧o+n+(c - n)<=r.size
   omega
theorem BV.keep{H H':Heap}{S:List Nat}{v:AV}{l:List UInt8}(h:BV H v l)(k:ZE H H' S)(hS: ∀b o n c,v=.slice b o n c->b∉S):BV H' v l:=by
 rcases h with h|⟨hne,b,o,c,r,rfl,hb,hlt⟩
 ·exact .inl h
 ·exact .inr ⟨hne,b,o,c,r,rfl,hb.keep k hlt (hS _ _ _ _ rfl),ZZ hlt k.nx⟩
theorem rj{H:Heap}{b o n:Nat}{c:Option Nat}{l:List UInt8}{r:Row}(h:Bytes H b o c l r)(hb:b<H.nx)(hn:n<=l.length)(k:IntKind):
  ∃v H',Ss 1 (.slice b o l.length c) (some (nI k n)) none H=.val v H'∧BV H' v (l.drop n)∧ZE H H' []∧ ∀b' o' m c',v=.slice b' o' m c'->b'=b∨H.nx<=b':=by
 have hcap:l.length<=W4 r o c:=by
  cases c with
  |none=>
   show l.length<=cond (Nat.beq r.sz 1) (r.size - o) _
   rw[h.sz];have:=h.fits;show l.length<=r.size - o;omega
  |some k=>exact(h.cap k rfl).1
 have hs:L9 r 1 c=true:=by
  cases c with
  |none=>show Nat.beq r.sz 1=true;rw[h.sz];rfl
  |some c=>rfl
 have e:Ss 1 (.slice b o l.length c) (some (nI k n)) none H=cond (Nat.beq n (W4 r o c)) (Option.rec (.val (.slice H.nx 0 (l.length - n) none) ⟨Nat.succ H.nx,H.t,H.ro⟩) (λ_=>.val (.slice b o (l.length - n) (some 0)) H) c) (.val (.slice b (o+n) (l.length - n) (QA c n)) H):=by
  show Xv H b _=_
  unfold Xv
  rw[h.at_]
  show Z3 (L9 r 1 c) (Z3 (Nat.ble n l.length) (Z3 (Nat.ble n (W4 r o c)) (cond (Nat.beq n (W4 r o c)) _ (.val (.slice b (o+n*1) (l.length - n) _) H))))=_
  rw[hs,Zg hn,Zg (Yl hn hcap),Xf]
  cases c<;>rfl
 rw[e,Y1]
 by_cases hq:n=W4 r o c
 ·rw[Zj hq]
  have h0:l.length - n=0:=by omega
  cases c with
  |none=>
   refine⟨_,_,rfl,.inl ⟨T5 (by omega),.inr ⟨_,_,_,by rw[h0]⟩⟩,⟨Ws _,rfl,λ_ _ _=>rfl⟩,λb' o' m c' hv=>?_⟩
   cases hv;exact .inr (Zq _)
  |some c=>
   refine⟨_,_,rfl,.inl ⟨T5 (by omega),.inr ⟨_,_,_,by rw[h0]⟩⟩,ZE.refl _ _,λb' o' m c' hv=>?_⟩
   cases hv;exact .inl rfl
 ·rw[Ze hq]
  refine⟨_,_,rfl,?_,ZE.refl _ _,λb' o' m c' hv=>?_⟩
  ·have hl:(l.drop n).length=l.length - n:=YW ..
   by_cases h0:l.drop n=[]
   ·exact .inl ⟨h0,.inr ⟨_,_,_,by rw[<-hl,h0];rfl⟩⟩
   ·exact .inr ⟨h0,_,_,_,r,by rw[hl],h.drop hn,hb⟩
  ·cases hv;exact .inl rfl
end
section
attribute [local irreducible] VG
variable {lib:Nat->List AV->Heap->Option CR} {fs:T CF} {fuel:Nat}
theorem gJ{H:Heap}{b o n:Nat}{c:Option Nat}{l:List UInt8}{r:Row}(h:Bytes H b o c l r)(h0:0<n)(hn:n<=l.length)(k:IntKind):
  Ss 1 (.slice b o l.length c) none (some (nI k n)) H=.val (.slice b o n (QA c 0)) H:=by
 have hcap:l.length<=W4 r o c:=by
  cases c with
  |none=>
   show l.length<=cond (Nat.beq r.sz 1) (r.size - o) _
   rw[h.sz];have:=h.fits;show l.length<=r.size - o;omega
  |some k=>exact(h.cap k rfl).1
 have hs:L9 r 1 c=true:=by
  cases c with
  |none=>show Nat.beq r.sz 1=true;rw[h.sz];rfl
  |some c=>rfl
 show Xv H b _=_
 unfold Xv
 rw[h.at_]
 show Z3 (L9 r 1 c) (Z3 (Nat.ble n (W4 r o c)) (Z3 (Nat.ble 0 n) (Z3 (Nat.ble 0 (W4 r o c)) (cond (Nat.beq 0 (W4 r o c)) _ (.val (.slice b (o+0*1) (n - 0) _) H)))))=_
 rw[hs,Zg (Yl hn hcap),Zg (ZB _),Zg (ZB _),Y1,Ze (by omega),Va]
 cases c<;>rfl
def eu(P:Program)(a:AV)(args:List AV)(H:Heap):OR:=match a with
 |.func f p q=>.oth (.call f (p++(args++q)) H)
 |.meth n r=>Q1 r .fail λu v=>In P n u λg=>.oth (.call g (v::args) H)
 |.yield b=>.oth (.yield b args H)
 |_=>.fail
theorem ir(x:YG)(P:Program)(args:List YG)(tm:TM)(H:Heap):Mo x P args tm H=eu P (x tm) (evs tm args) H:=rfl
theorem ur(P:Program)(f:Nat)(p q args:List AV)(H:Heap):eu P (.func f p q) args H=.oth (.call f (p++(args++q)) H):=rfl
def Qn(K h:List UInt32)(l:List UInt8):Nat->List UInt32
 |0=>h
 |t+1=>fP K (Qn K h l t) ((l.drop (64*t)).take 64)
theorem N6(K h:List UInt32)(l:List UInt8)(hh:h.length=8): ∀t,(Qn K h l t).length=8
 |0=>hh
 |_+1=>PA ..
structure L5(sb e:Nat)(K h:List UInt32)(l:List UInt8)(rest:List AV)(H0:Heap)(t:Nat)(tm:TM)(H:Heap):Prop where
 t1:Wv tm=.func 91 [.ptr sb 0] []
 t0:BV H (Y3 tm) (l.drop (64*t))
 far: ∀b o n c,Y3 tm=.slice b o n c->b≠sb
 keep:ZE H0 H [sb]
 row: ∃r,Own H sb e ((Qn K h l t).map Y2++rest) r
theorem Zds{n:Nat}(hl: ∀l H,lib 121 l H=none)(hl2: ∀l H,lib 108 l H=none)(hl3: ∀l H,lib 107 l H=none)(hl4: ∀l H,lib 91 l H=none)(hf:fs.get 121=some Kh)(hf2:fs.get 108=some K2)(hf3:fs.get 107=some Ca)(qh:fs.get 91=some c91)(hF:64<fuel)
  {sb e:Nat}{K h:List UInt32}{l:List UInt8}{rest:List AV}{H0:Heap}{rK:Row}(hK:H0.t.get 5=some (.row rK))(cK:Cells rK (K.map Y2))(nK:K.length=64)(h7:5<H0.nx)(h7s:5≠sb)(hh:h.length=8)(hsb:sb<H0.nx)(hro:H0.ro<=H0.nx)
  {rng:AV->(List AV->Heap->CR)->TM->Heap->X->WL}{yld:Nat->List AV->Heap->CR}(x:X)
  (t:Nat)(tm:TM)(H:Heap)(ht:t<l.length/64)(hi:L5 sb e K h l rest H0 t tm H): ∃tm' H',Ef ⟨Z8 lib fs fuel (n+4),yld,rng,fuel,false⟩ tm H x=.ok .normal tm' H' x∧L5 sb e K h l rest H0 (t+1) tm' H':=by
 obtain⟨r,own⟩:=hi.row
 have i1:=hi.t1;have i0:=hi.t0;have far:=hi.far
 simp only[Mi,Um] at i1 i0 far
 have hlen:64<=(l.drop (64*t)).length:=by rw[YW];omega
 have hne:l.drop (64*t)≠[]:=λe=>by rw[e] at hlen;simp at hlen
 rcases i0 with⟨h0,_⟩|⟨_,b,o,c,rb,e0,hb,hlt⟩
 ·exact absurd h0 hne
 have hbs:=far _ _ _ _ e0
 have d1:decide (64<=(l.drop (64*t)).length)=true:=Zj hlen
 have lv: ∀H',lenV (.slice b o (l.drop (64*t)).length c) H'=.val (nI .i64 (l.drop (64*t)).length) H':=λH'=>V8 ..
 have sl:Ss 1 (.slice b o (l.drop (64*t)).length c) none (some (nI .i64 64)) H=.val (.slice b o 64 (QA c 0)) H:=gJ hb (by omega) hlen _
 have hl8:=N6 K h l hh t
 have nx0:=hi.keep.nx
 obtain⟨H1,e1,k1,r1,Pc⟩:=ZbQ (n:=n) (fuel:=fuel) hl hl2 hl3 hl4 hf hf2 hf3 qh hF (K:=K) (by rw[hi.keep.get 5 h7 (by simpa using h7s)];exact hK) cK nK (ZZ h7 nx0) h7s own hl8 (ZZ hsb nx0) (hb.take hlen)
  (by rw[Z4];omega) hlt (by rw[hi.keep.ro];omega)
 obtain⟨v2,H2,e2,bv2,k2,Zgy⟩:=rj (n:=64) (hb.keep k1 hlt (by simpa using hbs)) (ZZ hlt k1.nx) hlen .i64
 have app:([.ptr sb 0]:List AV)++([.slice b o 64 (QA c 0)]++[])=[.ptr sb 0,.slice b o 64 (QA c 0)]:=rfl
 simp only[Ef,i1,e0,lv,d1,ZM,RZ,XG,VI,sl,ir,ur,app,e1,e2,X2,X1,Rt,Se,X5,YI,XI,W0,W1,TF,W6,V3,TH,PL,RS,Vd,US,N8.g00,N8.g01,N8.g05,N8.g06,N8.g07,N8.g10,N8.g11,N8.g15,N8.g16,N8.g17,N8.g22,N8.g23,N8.g24,N8.g33,N8.g44,N8.g55,N8.g66,N8.g77,Pn,Um,Mi,QD,JC,LG,HH,IK,LD,QO,LF,ER,ET,AY,zJ,vU,r7,AW,Hh,FO,D6]
 refine⟨_,_,rfl,i1,?_,?_,?_,r1,?_⟩
 ·show BV H2 v2 (l.drop (64*(t+1)))
  rw[show 64*(t+1)=64*t+64 by omega,<-SE]
  exact bv2
 ·intro b' o' m c' hv
  have hv:v2=.slice b' o' m c':=hv
  rcases Zgy b' o' m c' hv with rfl|h3
  ·exact hbs
  ·have:=k1.nx;omega
 ·exact(hi.keep.trans k1 λc hc _=>hc).trans k2 λc hc _=>by simp at hc
 ·have hlt1:sb<H1.nx:=by have:=k1.nx;omega
  exact⟨by rw[k2.get sb hlt1 (by simp)];exact Pc.at_,Pc.elem,Pc.sz,Pc.own,Pc.fz,Pc.sm,Pc.cells,by rw[k2.ro];exact Pc.ro⟩
end
section
attribute [local irreducible] VG
variable {lib:Nat->List AV->Heap->Option CR} {fs:T CF} {fuel:Nat}
theorem Zdr{sb e:Nat}{K h:List UInt32}{l:List UInt8}{rest:List AV}{H0:Heap}(c:Ctx)(x:X)(tm:TM)(H:Heap)(hi:L5 sb e K h l rest H0 (l.length/64) tm H):
  ∃tm' H',Ef c tm H x=.ok (.exit 0) tm' H' x∧L5 sb e K h l rest H0 (l.length/64) tm' H':=by
 have i1:=hi.t1;have i0:=hi.t0;have far:=hi.far
 simp only[Mi,Um] at i1 i0 far
 have hlen:(l.drop (64*(l.length/64))).length<64:=by rw[YW];omega
 have d1:decide (64<=(l.drop (64*(l.length/64))).length)=false:=Ze (by omega)
 have lv:=λH'=>i0.len H'
 simp only[Ef,lv,d1,ZM,X2,X1,X5,YI,TQ,XI,SL,W0,W1,VS,TH,Vd,US,N8.g00,N8.g55,N8.g66,N8.g77,Pn,Um,QD,JC,LG,ET,AY,zJ,]
 exact⟨_,_,rfl,i1,i0,far,hi.keep,hi.row⟩
theorem Bf{n:Nat}(hl: ∀l H,lib 121 l H=none)(hl2: ∀l H,lib 108 l H=none)(hl3: ∀l H,lib 107 l H=none)(hl4: ∀l H,lib 91 l H=none)(hf:fs.get 121=some Kh)(hf2:fs.get 108=some K2)(hf3:fs.get 107=some Ca)(qh:fs.get 91=some c91)(hF:64<fuel)(hl5: ∀l H,lib 90 l H=none)(fB:fs.get 90=some c90)
  {sb e:Nat}{K h:List UInt32}{l:List UInt8}{v:AV}{rest:List AV}{H:Heap}{rK r:Row}(hlF:l.length/64<fuel)(hK:H.t.get 5=some (.row rK))(cK:Cells rK (K.map Y2))(nK:K.length=64)(h7:5<H.nx)(h7s:5≠sb)(hh:h.length=8)(hsb:sb<H.nx)(hro:H.ro<=H.nx)
  (hv:BV H v l)(far: ∀b o n c,v=.slice b o n c->b≠sb)(own:Own H sb e (h.map Y2++rest) r):
  ∃v' H',Z8 lib fs fuel (n+5) 90 [v,.func 91 [.ptr sb 0] []] H=.ret v' H'∧BV H' v' (l.drop (64*(l.length/64)))∧(∀b o n c,v'=.slice b o n c->b≠sb)∧ZE H H' [sb]∧ ∃r',Own H' sb e ((Qn K h l (l.length/64)).map Y2++rest) r':=by
 rw[Z7 (hl5 _ _) fB]
 simp only[c90,Ic,Rx,X2,X1,X5,YI,XI,W6,TH,Vd,ES,ER,gS,]
 generalize hL:WP (Ef _) fuel _ _ _=L
 obtain⟨g9,H2,rfl,j⟩:=Tu (P:=λT=>L5 sb e K h l rest H 0 T H) (Q:=L5 sb e K h l rest H (l.length/64))
  (λT hi=>Rg (L5 sb e K h l rest H) (L5 sb e K h l rest H (l.length/64)) (l.length/64) (λt tm H' ht hi=>Zds (n:=n) hl hl2 hl3 hl4 hf hf2 hf3 qh hF hK cK nK h7 h7s hh hsb hro _ t tm H' ht hi) (λtm H' hi=>Zdr _ _ tm H' hi) (l.length/64) 0 fuel T H (Zb _) hlF hi) hL
  ⟨rfl,hv,far,ZE.refl _ _,r,own⟩
 have j0:=j.t0;have f0:=j.far
 simp only[Um] at j0 f0
 simp only[WI,YI,X5,X2,Vd,X1,Um,IY,D7,ES,TG,XI,Qc,QR,Pq,N8.g00,N8.g01,N8.g11,N8.g44,N8.g66,]
 exact⟨_,_,rfl,j0,f0,j.keep,j.row⟩
end
section
attribute [local irreducible] VG
variable {lib:Nat->List AV->Heap->Option CR} {fs:T CF} {fuel:Nat}
theorem uz(b o:Nat)(H:Heap):MU qN false (.ptr b o) .nilp H=.val (.bool false) H:=rfl
theorem iq(b:Bool)(H:Heap):aI (.bool b) H=.val (.bool (!b)) H:=by cases b<;>rfl
theorem sE(a b:AV)(H:Heap):AC (.bool false) a b H=.val b H:=rfl
structure Kd(H:Heap)(sb:Nat)(h:List UInt32)(left:AV)(many:Nat)(r:Row):Prop extends Own H sb 145 (h.map Y2++[left,nI .u64 many,.bool true]) r where
 len:h.length=8
 low:sb<H.nx
theorem Kd.load{H H':Heap}{sb many i:Nat}{h:List UInt32}{left:AV}{r:Row}(s:Kd H sb h left many r)(he:H'.t=H.t)(hi:i<3):TI (.ptr sb (8+i)) H'=.val (([left,nI .u64 many,.bool true]:List AV).getD i .unk) H':=by
 have hl:(h.map Y2).length=8:=by rw[Zt];exact s.len
 rw[Ta (r:=r) (by rw[he];exact s.at_) s.cells (by rw[Zm,hl];simp;omega),Zf,Yz (by omega),hl,WG,<-Zf]
theorem tP{n:Nat}(hl: ∀l H,lib 89 l H=none)(hf:fs.get 89=some c89){H:Heap}{sb many:Nat}{h:List UInt32}{left:AV}{r:Row}(s:Kd H sb h left many r):
  Z8 lib fs fuel (n+1) 89 [.ptr sb 0] H=.ret (.bool false) H:=by
 rw[Z7 (hl _ _) hf]
 have ld:TI (.ptr sb 10) H=.val (.bool true) H:=s.load rfl (by omega:2<3)
 simp only[c89,Ib,uz,sZ,yQ,ld,iq,sE,ZU,QR,Pq,X2,X1,X5,YI,XI,Qc,TH,Vd,CH,tX,y6,N8.g00,N8.g01,N8.g02,N8.g03,N8.g04,N8.g05,N8.g10,N8.g11,N8.g22,N8.g33,N8.g44,N8.g55,N8.g56,N8.g57,N8.g66,N8.g77,TL,O8,O7,Vk,Us,Zb,Um,Oa,RK,TG,QD,JC,LG,HH,IK,LD,QO,gU,oD,ES,ET,AY,zJ,vU,r7,AW,Hh,ER,Um]
theorem wv(a0 a1 a2 a3 a4 a5 a6 a7:AV)(H:Heap):
  Rz [(nI .u32 0),(nI .u32 0),(nI .u32 0),(nI .u32 0),(nI .u32 0),(nI .u32 0),(nI .u32 0),(nI .u32 0),.nils,(nI .u64 0),(.bool false)] [(0,8,.agg [a0,a1,a2,a3,a4,a5,a6,a7]),(10,1,.bool true)] H=.val (.agg [a0,a1,a2,a3,a4,a5,a6,a7,.nils,nI .u64 0,.bool true]) H:=rfl
def Zf5(e:Nat)(a:AV)(H:Heap):OR:=Z3 (Nat.ble 1 (Xc a.cells))<|.val (.ptr H.nx 0) (H.newRow e 1 a.cells true)
theorem tU(x:YG)(e:Nat)(tm:TM)(H:Heap):IM x e tm H=Zf5 e (x tm) H:=rfl
theorem fR(e:Nat)(a:AV)(l:List AV)(H:Heap):Zf5 e (.agg (a::l)) H=.val (.ptr H.nx 0) (H.newRow e 1 (a::l) true):=rfl
theorem y2{H:Heap}{h:List UInt32}{left:AV}{many:Nat}(hh:h.length=8)(hro:H.ro<=H.nx): ∃r,Kd (H.newRow 145 1 (h.map Y2++[left,nI .u64 many,.bool true]) true) H.nx h left many r:=
 ⟨_,⟨⟨by rw[T1,VX,if_pos rfl],rfl,rfl,rfl,rfl,rfl,Cells.new ..,hro⟩,hh,YK _⟩⟩
theorem ZdV{n:Nat}(hl: ∀l H,lib 69 l H=none)(hf:fs.get 69=some c69){H:Heap}{h:List UInt32}{rB:Row}(hB:H.t.get 3=some (.row rB))(cB:Cells rB (h.map Y2))(hh:h.length=8):
  Z8 lib fs fuel (n+1) 69 [] H=.ret (.ptr H.nx 0) (H.newRow 145 1 (h.map Y2++[.nils,nI .u64 0,.bool true]) true):=by
 rw[Z7 (hl _ _) hf]
 have nh:(h.map Y2).length=8:=by rw[Zt];exact hh
 have ld:JH 8 (.ptr 3 0) H=.val (.agg (h.map Y2)) H:=by
  rw[NX hB cB (by omega),ZC,YS (by omega)]
 obtain⟨a0,a1,a2,a3,a4,a5,a6,a7,rfl⟩:=tA hh
 simp only[Zz,ZH,XP,Zx] at ld ⊢
 simp only[c69,oW,ld,TK,Zz,ZH,wv,tU,fR,QR,Pq,X2,X1,X5,YI,XI,Qc,TH,Vd,N8.g00,N8.g11,N8.g22,N8.g33,NZ,Um,Mi,Oa,RK,ER,gS,gU,oD,ER,Um]
end
section
attribute [local irreducible] VG
variable {lib:Nat->List AV->Heap->Option CR} {fs:T CF} {fuel:Nat}
theorem BV.src{H:Heap}{v:AV}{l:List UInt8}(h:BV H v l):Src H v (l.map X8):=by
 rcases h with⟨rfl,rfl|⟨b,o,c,rfl⟩⟩|⟨_,b,o,c,r,rfl,hb,_⟩
 ·exact Src.nils H
 ·exact Src.none H b o c
 ·have:=Src.row (c:=c) (l:=l.map X8) hb.at_ (by rw[Zt];exact hb.fits) (λi hi=>by
   rw[Zt] at hi
   rw[hb.get i hi,Zf,Zf,YO,Zn hi];rfl)
  rw[Zt] at this
  exact this
theorem Cells.bytes{H:Heap}{b:Nat}{r:Row}{l:List UInt8}(hr:H.t.get b=some (.row r))(hs:r.sz=1)(hc:Cells r (l.map X8)):Bytes H b 0 none l r:=by
 have hz:=hc.size
 rw[Zt] at hz
 refine⟨hr,hs,by omega,λi hi=>?_,λc hc=>by cases hc⟩
 rw[Zb,hc.get i (by rw[Zt];exact hi),Zf,YO,Zf,Zn hi];rfl
theorem uw{H:Heap}{v:AV}{l:List UInt8}(h:BV H v l)(hl:l.length<=140737488355328)(hro:H.ro<=H.nx):
  ∃v' H',U2 5 1 1 .nils v H=.val v' H'∧BV H' v' l∧ZE H H' []∧(∀b o n c,v'=.slice b o n c->b=H.nx∧H.nx<H'.nx):=by
 rw[SV (Zq 1) h.src]
 by_cases h0:l=[]
 ·subst h0
  exact⟨_,_,zQ 5 1 H,.inl ⟨rfl,.inl rfl⟩,ZE.refl _ _,λb o n c e=>by cases e⟩
 ·have hp:0<(l.map X8).length:=by rw[Zt];exact Uy.2 h0
  have g:=BQ (H:=H) (e:=5) (l:=l.map X8) hro
  refine⟨_,_,Jm hp (by rw[Zt];exact hl),.inr ⟨h0,H.nx,0,none,_,by rw[Zt],g.cells.bytes g.at_ g.sz,YK _⟩,ZE.new _ _ _,λb o n c e=>?_⟩
  cases e;exact⟨rfl,YK _⟩
theorem y4(f:Nat)(a b:List YG)(tm:TM)(H:Heap):Fb f a b tm H=.val (.func f (evs tm a) (evs tm b)) H:=rfl
theorem pc{n:Nat}(h:n<9223372036854775808)(H:Heap):PS .u64 (nI .i64 n) H=.val (nI .u64 n) H:=by
 show UX .u64 (.ofNat n) H=_
 rw[Wb,Nh,YD (by omega)];rfl
theorem rd{a b:Nat}(h:a+b<18446744073709551616)(H:Heap):RI (nI .u64 a) (nI .u64 b) H=.val (nI .u64 (a+b)) H:=by
 show Z3 (Oz .u64 .u64) (UX .u64 (tf (.ofNat a) (.ofNat b)) H)=_
 rw[X4,Wb,G1,Nh,YD h];rfl
theorem Kd.store{H:Heap}{sb many i:Nat}{h:List UInt32}{left:AV}{r:Row}(s:Kd H sb h left many r)(hi:i<3)(v:AV)(hv:v.cells=[v]):
  RE 1 (.ptr sb (8+i)) v H=.val XE (H.put sb (.row (r.setCells (Xj r.cells (8+i) [v])))):=by
 have hl:(h.map Y2).length=8:=by rw[Zt];exact s.len
 have:=UJ (v:=v) (n:=1) (o:=8+i) s.at_ s.cells s.own s.ro s.fz (Zq _) (by rw[hv];rfl) (by rw[Zm,hl];simp;omega)
 rw[hv] at this
 exact this
theorem Kd.stored{H:Heap}{sb many i:Nat}{h:List UInt32}{left:AV}{r:Row}(s:Kd H sb h left many r)(hi:i<3)(v:AV):
  Own (H.put sb (.row (r.setCells (Xj r.cells (8+i) [v])))) sb 145 (h.map Y2++([left,nI .u64 many,.bool true]:List AV).set i v) (r.setCells (Xj r.cells (8+i) [v])):=by
 have hl:(h.map Y2).length=8:=by rw[Zt];exact s.len
 refine⟨by rw[U5,if_pos rfl],s.elem,s.sz,s.own,s.fz,s.sm,?_,s.ro⟩
 have:=s.cells.store1 (o:=8+i) (v:=v) (by rw[Zm,hl];simp;omega)
 rw[T7 _ _ (by omega),hl,WG] at this
 exact this
theorem fq{n:Nat}(hl: ∀l H,lib 121 l H=none)(hl2: ∀l H,lib 108 l H=none)(hl3: ∀l H,lib 107 l H=none)(hl4: ∀l H,lib 91 l H=none)(hf:fs.get 121=some Kh)(hf2:fs.get 108=some K2)(hf3:fs.get 107=some Ca)(qh:fs.get 91=some c91)(hF:64<fuel)(hl5: ∀l H,lib 90 l H=none)(fB:fs.get 90=some c90)(jI: ∀l H,lib 89 l H=none)(hf6:fs.get 89=some c89)(hl7: ∀l H,lib 70 l H=none)(hf7:fs.get 70=some c70)
  {sb many:Nat}{K h:List UInt32}{l:List UInt8}{v:AV}{H:Heap}{rK r:Row}(hlF:l.length/64<fuel)(hll:l.length<=140737488355328)(hmany:many+l.length<18446744073709551616)(hK:H.t.get 5=some (.row rK))(cK:Cells rK (K.map Y2))(nK:K.length=64)(h7:5<H.nx)(h7s:5≠sb)(hro:H.ro<=H.nx)
  (hv:BV H v l)(far: ∀b o n c,v=.slice b o n c->b≠sb)(s:Kd H sb h .nils many r):
  ∃left H' r',Z8 lib fs fuel (n+6) 70 [.ptr sb 0,v] H=.ret (nI .i64 0) H'∧BV H' left (l.drop (64*(l.length/64)))∧(∀b o n c,left=.slice b o n c->H.nx<=b)∧ZE H H' [sb]∧Kd H' sb (Qn K h l (l.length/64)) left (many+l.length) r':=by
 rw[Z7 (hl7 _ _) hf7]
 have en:=tP (fuel:=fuel) (n:=n+4) jI hf6 s
 have qk:TI (.ptr sb 9) H=.val (nI .u64 many) H:=s.load rfl (by omega:1<3)
 have Ts:=s.store (i:=1) (by omega) (nI .u64 (many+l.length)) rfl
 have Pc:=s.stored (i:=1) (by omega) (nI .u64 (many+l.length))
 generalize hr1:r.setCells (Xj r.cells (8+1) [nI .u64 (many+l.length)])=r1 at Ts Pc
 generalize hH1:H.put sb (.row r1)=H1 at Ts Pc
 have k1:ZE H H1 [sb]:=by rw[<-hH1];exact ZE.put λ_=>ZG.2 rfl
 have Jh:H1.nx=H.nx:=by rw[<-hH1];rfl
 have s1:Kd H1 sb h .nils (many+l.length) r1:=⟨Pc,s.len,by rw[Jh];exact s.low⟩
 have ld8:TI (.ptr sb 8) H1=.val .nils H1:=s1.load rfl (by omega:0<3)
 have hv1:BV H1 v l:=hv.keep k1 λb o n c e=>by simpa using far b o n c e
 obtain⟨v2,H2,e2,hv2,k2,Zgy⟩:=uw hv1 hll (by rw[k1.ro,Jh];exact hro)
 have Ax:Own H2 sb 145 (h.map Y2++[.nils,nI .u64 (many+l.length),.bool true]) r1:=⟨by rw[k2.get sb s1.low (by simp)];exact Pc.at_,Pc.elem,Pc.sz,Pc.own,Pc.fz,Pc.sm,Pc.cells,by rw[k2.ro];exact Pc.ro⟩
 have nx2:H.nx<=H2.nx:=by have:=k2.nx;omega
 have Zjq: ∀b o n c,v2=.slice b o n c->b≠sb:=λb o n c e=>by have:=(Zgy b o n c e).1;have:=s1.low;omega
 obtain⟨v3,H3,e3,hv3,jp,k3,r3,zA⟩:=Bf (n:=n) (fuel:=fuel) hl hl2 hl3 hl4 hf hf2 hf3 qh hF hl5 fB hlF (by rw[k2.get 5 (by omega) (by simp),k1.get 5 h7 (by simpa using h7s)];exact hK) cK nK (by omega) h7s s.len (by have:=s.low;omega) (by rw[k2.ro,k1.ro];omega) hv2 Zjq Ax
 have Zom:(l.drop (64*(l.length/64))).length<=140737488355328:=by rw[YW];omega
 have nx3:H.nx<=H3.nx:=by have:=k3.nx;omega
 obtain⟨v4,H4,e4,hv4,k4,Zjr⟩:=uw hv3 Zom (by rw[k3.ro,k2.ro,k1.ro];omega)
 have s4:Kd H4 sb (Qn K h l (l.length/64)) .nils (many+l.length) r3:=⟨⟨by rw[k4.get sb (by have:=s.low;omega) (by simp)];exact zA.at_,zA.elem,zA.sz,zA.own,zA.fz,zA.sm,zA.cells,by rw[k4.ro];exact zA.ro⟩,N6 K h l s.len _,by have:=s.low;have:=k4.nx;omega⟩
 have hcell:v4.cells=[v4]:=by
  rcases hv4 with⟨_,rfl|⟨b,o,c,rfl⟩⟩|⟨_,b,o,c,r,rfl,_⟩<;>rfl
 have V2:=s4.store (i:=0) (by omega) v4 hcell
 have pS:=s4.stored (i:=0) (by omega) v4
 simp(maxSteps:=4000000) (disch:=omega) only[c70,Ic,en,qk,hv.len,pc,rd,Ts,ld8,ZW,e2,y4,e3,e4,V2,Nat.reduceAdd,X2,X1,Rt,Se,X5,YI,XI,Qc,W0,W1,VS,Nl,TH,PL,RS,Vd,LP,Ry,Sq,N8.g00,N8.g01,N8.g02,N8.g03,N8.g04,N8.g05,N8.g06,N8.g07,N8.g10,N8.g11,N8.g12,N8.g14,N8.g16,N8.g17,N8.g20,N8.g21,N8.g22,N8.g23,N8.g30,N8.g31,N8.g32,N8.g33,N8.g34,N8.g35,N8.g36,N8.g44,N8.g55,N8.g56,N8.g57,N8.g66,N8.g77,TL,Tb,O8,O7,Pn,Vk,Us,Zb,Um,Mi,QD,JC,LG,HH,IK,LD,QO,LF,JB,IY,GW,Dv,yL,Dw,B0,yM,nT,B1,B2,Dx,yN,uW,uX,nU,nX,nY,uY,ES,ET,AY,zJ,vU,r7,AW,Hh,FO,D6,D7,AX,xZ,rU,x4,rX,ki,kj,kl,km,x5,x6,rY,rZ,kn,ko,kr,r6,ER,gS,Um,Mi]
 refine⟨v4,_,_,rfl,?_,λb o n c e=>?_,?_,pS,s4.len,?_⟩
 ·exact hv4.keep (ZE.put λ_=>ZG.2 rfl) λb o n c e=>by
   have:=(Zjr b o n c e).1;have:=s4.low;simp only[ZG];have:=s.low;omega
 ·have:=(Zjr b o n c e).1;omega
 ·exact(((k1.trans k2 λc hc _=>by simp at hc).trans k3 λc hc _=>hc).trans k4 λc hc _=>by simp at hc).then_put λ_=>ZG.2 rfl
 ·exact s4.low
end
section
attribute [local irreducible] VG
variable {lib:Nat->List AV->Heap->Option CR} {fs:T CF} {fuel:Nat}
def La(H:Heap)(v:AV)(l:List UInt8)(lo:Nat):Prop:= ∃b r,v=.slice b 0 l.length none∧kI H b 5 (l.map X8) r∧lo<=b
theorem EX{H:Heap}{v:AV}{l:List UInt8}{lo:Nat}(h:La H v l lo)(hl:l.length<140737488355328)(x:UInt8):
  ∃v' H',U2 5 1 1 v (.slice H.nx 0 1 none) (H.newRow 5 1 [X8 x] true)=.val v' H'∧La H' v' (l++[x]) lo∧H.nx<=H'.nx∧H'.ro=H.ro∧ ∀c,c<lo->c<H.nx->H'.t.get c=H.t.get c:=by
 obtain⟨b,r,rfl,g,hlo⟩:=h
 generalize hH1:H.newRow 5 1 [X8 x] true=H1
 have Jh:H1.nx=H.nx+1:=by rw[<-hH1];rfl
 have k1:ZE H H1 []:=by rw[<-hH1];exact ZE.new H _ []
 have gx:H1.t.get H.nx=some (.row ⟨5,1,1,T.ofList [X8 x],.unk,0,false,true,true⟩):=by rw[<-hH1,T1,VX,if_pos rfl];rfl
 have src:Src H1 (.slice H.nx 0 1 none) [X8 x]:=Src.row (l:=[X8 x]) gx (Zq _) (λi hi=>by
  have:i=0:=by simp at hi;exact hi
  subst this
  rfl)
 have g1:kI H1 b 5 (l.map X8) r:=⟨⟨by rw[k1.get b g.low (by simp)];exact g.at_,g.elem,g.sz,g.own,g.fz,g.sm,g.cells,by rw[k1.ro];exact g.ro⟩,g.exact_,by have:=g.low;omega⟩
 obtain⟨H',r',e,g',k',nx'⟩:=kO (m:=[X8 x]) g1 (by simp) (by rw[Zt];simp;omega)
 rw[SV (Zq 1) src]
 rw[Zt] at e
 refine⟨_,H',e,⟨H1.nx,r',by rw[Zm];rfl,by rw[Xe];exact g',by have:=g.low;omega⟩,by omega,by rw[k'.ro,k1.ro],λc hc hn=>?_⟩
 rw[k'.get c (by omega) (by simp;omega),k1.get c hn (by simp)]
theorem oJ{H:Heap}{v:AV}{l:List UInt8}(h:BV H v l)(hl:l.length<140737488355328)(hro:H.ro<=H.nx)(x:UInt8):
  ∃v1 H1 v' H',U2 5 1 1 .nils v H=.val v1 H1∧U2 5 1 1 v1 (.slice H1.nx 0 1 none) (H1.newRow 5 1 [X8 x] true)=.val v' H'∧La H' v' (l++[x]) H.nx∧ZE H H' []:=by
 rw[SV (Zq 1) h.src]
 by_cases h0:l=[]
 ·subst h0
  generalize hH1:H.newRow 5 1 [X8 x] true=H1
  have Jh:H1.nx=H.nx+1:=by rw[<-hH1];rfl
  have k1:ZE H H1 []:=by rw[<-hH1];exact ZE.new H _ []
  have gx:H1.t.get H.nx=some (.row ⟨5,1,1,T.ofList [X8 x],.unk,0,false,true,true⟩):=by rw[<-hH1,T1,VX,if_pos rfl];rfl
  have src:Src H1 (.slice H.nx 0 1 none) [X8 x]:=Src.row (l:=[X8 x]) gx (Zq _) (λi hi=>by
   have:i=0:=by simp at hi;exact hi
   subst this
   rfl)
  have g:=BQ (H:=H1) (e:=5) (l:=[X8 x]) (by rw[k1.ro];omega)
  refine⟨_,_,_,_,zQ 5 1 H,(by rw[hH1,SV (Zq 1) src];exact Jm (l:=[X8 x]) (by simp) (by simp)),⟨_,_,rfl,g,by omega⟩,k1.then_new _⟩
 ·have hp:0<(l.map X8).length:=by rw[Zt];exact Uy.2 h0
  have g:=BQ (H:=H) (e:=5) (l:=l.map X8) hro
  have e0:=Jm (e:=5) (H:=H) hp (by rw[Zt];omega)
  obtain⟨v',H',e,tl,nx,ro,k⟩:=EX (v:=.slice H.nx 0 (l.map X8).length none) (lo:=H.nx) ⟨H.nx,_,by rw[Zt],g,Zq _⟩ hl x
  exact⟨_,_,v',H',e0,e,tl,Yl (Ws _) nx,ro,λc hc hn=>(k c hc (Nat.lt_succ_of_lt hc)).trans ((ZE.new H _ []).get c hc hn)⟩
end
section
attribute [local irreducible] VG
variable {lib:Nat->List AV->Heap->Option CR} {fs:T CF} {fuel:Nat}
structure L6(sb b2 b3 cb:Nat)(l:List UInt8)(H0:Heap)(t:Nat)(tm:TM)(H:Heap):Prop where
 t0:Y3 tm=.ptr sb 0
 t2:Uv tm=.ptr b2 0
 t3:VL tm=.ptr b3 0
 t4:XQ tm=.ptr cb 0
 t5:La H (Wa tm) (l++List.replicate t 0) H0.nx
 keep:ZE H0 H []
theorem La.len{H:Heap}{v:AV}{l:List UInt8}{lo:Nat}(h:La H v l lo)(H':Heap):lenV v H'=.val (nI .i64 l.length) H':=by
 obtain⟨b,r,rfl,_⟩:=h;exact V8 ..
theorem yV{H0 H H':Heap}(k:ZE H0 H [])(nx:H.nx<=H'.nx)(ro:H'.ro=H.ro)(h: ∀c,c<H0.nx->c<H.nx->H'.t.get c=H.t.get c):ZE H0 H' []:=
 ⟨Yl k.nx nx,ro.trans k.ro,λc hc _=>(h c hc (ZZ hc k.nx)).trans (k.get c hc (by simp))⟩
theorem Zdu{sb b2 b3 cb:Nat}{l:List UInt8}{H0:Heap}{N:Nat}(hN: ∀t,t<N->(l.length+t) % 64≠56)(hl:l.length+N<140737488355328)(c:Ctx)(x:X)(t:Nat)(tm:TM)(H:Heap)(ht:t<N)(h:L6 sb b2 b3 cb l H0 t tm H):
  ∃tm' H',F9 c tm H x=.ok .normal tm' H' x∧L6 sb b2 b3 cb l H0 (t+1) tm' H':=by
 have i0:=h.t0;have i2:=h.t2;have i3:=h.t3;have i4:=h.t4;have i5:=h.t5
 simp only[Um,Oa,RK,TG,QD] at i0 i2 i3 i4 i5
 have hlen:(l++List.replicate t (0:UInt8)).length=l.length+t:=by simp
 have d1:decide ((l++List.replicate t (0:UInt8)).length % 64≠56)=true:=Zj (by rw[hlen];exact hN t ht)
 obtain⟨v',H',e,tl,nx,ro,k⟩:=EX i5 (by rw[hlen];omega) 0
 have bs:UL 5 1 1 [nI .u8 0] [(0,1,nI .u8 0)] H=.val (.slice H.nx 0 1 none) (H.newRow 5 1 [X8 0] true):=Pk 5 (nI .u8 0) (nI .u8 0) rfl H
 simp(maxSteps:=4000000) (disch:=omega) only[F9,i5.len,p8,Y7,d1,ZX,Zz,ZH,bs,ZW,e,X2,X1,X5,YI,XI,W0,W1,TF,W6,V3,TH,Vd,Fi,CH,N8.g00,N8.g03,N8.g11,N8.g22,N8.g33,N8.g44,N8.g45,N8.g55,N8.g66,Pn,QD,Dx,yN,uW,uX,nU,nX,nY,ET,x5,x6,rY,rZ,kn,ko,kr]
 refine⟨_,_,rfl,i0,i2,i3,i4,?_,yV h.keep nx ro k⟩
 have e2:l++List.replicate (t+1) (0:UInt8)=(l++List.replicate t 0)++[0]:=by rw[List.replicate_succ',XB]
 rw[e2]
 exact tl
theorem Zdt{sb b2 b3 cb:Nat}{l:List UInt8}{H0:Heap}{N:Nat}(hN:(l.length+N) % 64=56)(c:Ctx)(x:X)(tm:TM)(H:Heap)(h:L6 sb b2 b3 cb l H0 N tm H):
  ∃tm' H',F9 c tm H x=.ok (.exit 0) tm' H' x∧L6 sb b2 b3 cb l H0 N tm' H':=by
 have i0:=h.t0;have i2:=h.t2;have i3:=h.t3;have i4:=h.t4;have i5:=h.t5
 simp only[Um,Oa,RK,TG,QD] at i0 i2 i3 i4 i5
 have hlen:(l++List.replicate N (0:UInt8)).length=l.length+N:=by simp
 have d1:decide ((l++List.replicate N (0:UInt8)).length % 64≠56)=false:=Ze (by rw[hlen];exact λh=>h hN)
 simp(maxSteps:=4000000) (disch:=omega) only[F9,i5.len,p8,Y7,d1,X2,X1,X5,YI,TQ,XI,SL,W0,W1,VS,TH,Vd,Fi,CH,N8.g00,N8.g11,N8.g22,N8.g33,Pn,QD,Dx,yN,uW,uX,x5,x6,rY,rZ,]
 exact⟨_,_,rfl,i0,i2,i3,i4,i5,h.keep⟩
end
section
attribute [local irreducible] VG
variable {lib:Nat->List AV->Heap->Option CR} {fs:T CF} {fuel:Nat}
def bI(t:Nat):AV:=if t<8 then nI .i64 (7 - t) else .int .i64 (.negSucc 0)
def Ii(many t:Nat):UInt8:=UInt8.ofNat ((many*8 % 18446744073709551616)/2^(8*(7 - t)))
def PV(many t:Nat):List UInt8:=(List.range t).map (Ii many)
theorem zt(many t:Nat):PV many (t+1)=PV many t++[Ii many t]:=by
 unfold PV;rw[List.range_succ,Xe];rfl
theorem ol(a:Nat)(H:Heap):ZeE (nI .u64 a) (nI .u64 3) H=.val (nI .u64 (a*8 % 18446744073709551616)) H:=by
 show UX .u64 (zq (.ofNat a) (.ofNat 8)) H=_
 rw[Wb,G2,Nh];rfl
theorem ZaJ(a:Nat){n:Nat}(h:n<64)(H:Heap):re (nI .u64 a) (nI .i64 n) H=.val (nI .u64 (a/2^n)) H:=by
 show QB (.ofNat (Nat.div a (Nat.pow 2 (Ob n 64)))) (λn=>OR.val (.int .u64 n) H)=_
 rw[SM]
 have:Ob n 64=n:=by unfold Ob;rw[Zg (by omega)];rfl
 rw[this];rfl
theorem tk(a:Nat)(H:Heap):PS .u8 (nI .u64 a) H=.val (X8 (UInt8.ofNat a)) H:=by
 show UX .u8 (.ofNat a) H=_
 rw[Wb,CT]
 unfold X8
 rw[S7]
structure L7(sb b2 b3 cb many:Nat)(l:List UInt8)(H0:Heap)(t:Nat)(tm:TM)(H:Heap):Prop where
 t0:Y3 tm=.ptr sb 0
 t2:Uv tm=.ptr b2 0
 t3:VL tm=.ptr b3 0
 t4:XQ tm=.ptr cb 0
 t5:La H (Wa tm) (l++PV many t) H0.nx
 t6:Ve tm=bI t
 keep:ZE H0 H []
theorem Zdw{sb b2 b3 cb many:Nat}{l:List UInt8}{H0:Heap}{h:List UInt32}{left:AV}{r:Row}(s:Kd H0 sb h left many r)(hl:l.length+8<140737488355328)(c:Ctx)(x:X)(t:Nat)(tm:TM)(H:Heap)(ht:t<8)(hi:L7 sb b2 b3 cb many l H0 t tm H):
  ∃tm' H',Ea c tm H x=.ok .normal tm' H' x∧L7 sb b2 b3 cb many l H0 (t+1) tm' H':=by
 have i0:=hi.t0;have i2:=hi.t2;have i3:=hi.t3;have i4:=hi.t4;have i5:=hi.t5;have i6:=hi.t6
 rw[show bI t=nI .i64 (7 - t) from if_pos ht] at i6
 simp only[Um,Oa,RK,TG,QD,JC] at i0 i2 i3 i4 i5 i6
 have d1:decide (0<=7 - t)=true:=Zj (ZB _)
 have s1:Kd H sb h left many r:=⟨⟨by rw[hi.keep.get sb s.low (by simp)];exact s.at_,s.elem,s.sz,s.own,s.fz,s.sm,s.cells,by rw[hi.keep.ro];exact s.ro⟩,s.len,ZZ s.low hi.keep.nx⟩
 have ld:TI (.ptr sb 9) H=.val (nI .u64 many) H:=s1.load rfl (by omega:1<3)
 have hlen:(l++PV many t).length=l.length+t:=by simp[PV]
 obtain⟨v',H',e,tl,nx,ro,k⟩:=EX i5 (by rw[hlen];omega) (Ii many t)
 have bs:UL 5 1 1 [nI .u8 0] [(0,1,X8 (Ii many t))] H=.val (.slice H.nx 0 1 none) (H.newRow 5 1 [X8 (Ii many t)] true):=Pk 5 (nI .u8 0) _ rfl H
 have dec: ∀H',J8 (nI .i64 (7 - t)) (nI .i64 1) H'=.val (bI (t+1)) H':=λH'=>by
  by_cases h7:t=7
  ·subst h7
   show UX .i64 (IL (.ofNat 0) (.ofNat 1)) H'=_
   rw[Wb];rfl
  ·rw[YR (by omega) (by omega),show bI (t+1)=nI .i64 (7 - (t+1)) from if_pos (by omega),show 7 - t - 1=7 - (t+1) by omega]
 have lb: ∀H',PS .u8 (nI .u64 (many*8 % 18446744073709551616/2^(8*(7 - t)))) H'=.val (X8 (Ii many t)) H':=λH'=>tk _ H'
 simp(maxSteps:=4000000) (disch:=omega) only[Ea,i0,i6,ZM,d1,ld,ol,EB,ZaJ,lb,ZX,Zz,ZH,bs,ZW,e,dec,X2,X1,X5,YI,XI,W0,W1,TF,W6,V3,TH,Vd,LP,JP,Ff,Fj,JO,US,N8.g00,N8.g01,N8.g02,N8.g03,N8.g04,N8.g05,N8.g11,N8.g22,N8.g33,N8.g34,N8.g35,N8.g36,N8.g37,N8.g40,N8.g43,N8.g44,N8.g45,N8.g53,N8.g54,N8.g55,N8.g65,N8.g66,N8.g77,TL,O8,O7,Vk,Us,Zb,Um,QD,JC,uY,nZ,cu,cz,cA,cC,cD,cE,cF,cG,cH,cI,cJ,cL,n7,cM,ET,AY,r6,ku,Zba,Zbb,Zbc,Zbd,Zbe,Zbf,Zbg,Zbh,Zbi,Zbj,Zbk,Zbl,Zbm,Zbn]
 refine⟨_,_,rfl,i0,i2,i3,i4,?_,rfl,yV hi.keep nx ro k⟩
 rw[zt,<-XB]
 exact tl
theorem Zdv{sb b2 b3 cb many:Nat}{l:List UInt8}{H0:Heap}(c:Ctx)(x:X)(tm:TM)(H:Heap)(hi:L7 sb b2 b3 cb many l H0 8 tm H):
  ∃tm' H',Ea c tm H x=.ok (.exit 2) tm' H' x∧L7 sb b2 b3 cb many l H0 8 tm' H':=by
 have i0:=hi.t0;have i2:=hi.t2;have i3:=hi.t3;have i4:=hi.t4;have i5:=hi.t5;have i6:=hi.t6
 rw[show bI 8=.int .i64 (.negSucc 0) from rfl] at i6
 simp only[Um,Oa,RK,TG,QD,JC] at i0 i2 i3 i4 i5 i6
 have d1: ∀H',Te Re Vi (.int .i64 (.negSucc 0)) (nI .i64 0) H'=.val (.bool false) H':=λH'=>rfl
 simp(maxSteps:=4000000) (disch:=omega) only[Ea,i6,d1,X2,X1,X5,YI,TQ,XI,SL,W0,W1,VS,TH,Vd,US,N8.g00,N8.g33,N8.g43,N8.g44,N8.g77,JC,uY,nZ,r6,ku,]
 exact⟨_,_,rfl,i0,i2,i3,i4,i5,i6,hi.keep⟩
end
section
attribute [local irreducible] VG
variable {lib:Nat->List AV->Heap->Option CR} {fs:T CF} {fuel:Nat}
def wH(h:List UInt32)(i:Nat):UInt8:=((h.getD (i/4) 0)>>>UInt32.ofNat (24 - 8*(i % 4))).toUInt8
def KE(h:List UInt32)(t:Nat):List UInt8:=(List.range t).map (wH h)
theorem jj(h:List UInt32)(t:Nat):KE h (t+1)=KE h t++[wH h t]:=by
 unfold KE;rw[List.range_succ,Xe];rfl
theorem OX(h:List UInt32)(t:Nat):(KE h t).length=t:=by unfold KE;simp
theorem ZaI(a:UInt32){n:Nat}(h:n<32)(k:IntKind)(H:Heap):re (Y2 a) (nI k n) H=.val (Y2 (a>>>UInt32.ofNat n)) H:=vQ a h H
theorem pa(a:UInt32)(H:Heap):PS .u8 (Y2 a) H=.val (X8 a.toUInt8) H:=by
 show UX .u8 (.ofNat a.toNat) H=_
 rw[Wb,CT]
 unfold X8
 rw[UInt32.toNat_toUInt8]
structure L8(b2 b3 cb:Nat)(h:List UInt32)(H0:Heap)(t:Nat)(tm:TM)(H:Heap):Prop where
 t2:Uv tm=.ptr b2 0
 t3:VL tm=.ptr b3 0
 t4:XQ tm=.ptr cb 0
 t51:RU tm=nI .i64 t
 keep:ZE H0 H [b3]
 row: ∃r,Own H b3 38 ((KE h t++List.replicate (32 - t) 0).map X8) r
theorem Zdy{b2 b3 cb many:Nat}{H0:Heap}{h:List UInt32}{left:AV}{rc:Row}(s:Kd H0 cb h left many rc)(hne:cb≠b3)(c:Ctx)(x:X)(t:Nat)(tm:TM)(H:Heap)(ht:t<32)(hi:L8 b2 b3 cb h H0 t tm H):
  ∃tm' H',Eb c tm H x=.ok .normal tm' H' x∧L8 b2 b3 cb h H0 (t+1) tm' H':=by
 obtain⟨r,own⟩:=hi.row
 have i2:=hi.t2;have i3:=hi.t3;have i4:=hi.t4;have i51:=hi.t51
 simp only[Oa,RK,TG,yO] at i2 i3 i4 i51
 have d1:decide (t<32)=true:=Zj ht
 have hl:=OX h t
 have ld:TI (.ptr cb (t/4)) H=.val (Y2 (h.getD (t/4) 0)) H:=by
  have h8:t/4<(h.map Y2).length:=by rw[Zt,s.len];omega
  rw[Ta (r:=rc) (by rw[hi.keep.get cb s.low (by simpa using hne)];exact s.at_) s.cells (by rw[Zm];omega),Zf,Yt h8,<-Zf,HB _ _ (by rw[s.len];omega)]
 have st:RE 1 (.ptr b3 t) (X8 (wH h t)) H=.val XE (H.put b3 (.row (r.setCells (Xj r.cells t [X8 (wH h t)])))):=UJ (v:=X8 (wH h t)) own.at_ own.cells own.own own.ro own.fz (Zq _) rfl (by simp;omega)
 have lb: ∀H',PS .u8 (Y2 ((h.getD (t/4) 0)>>>UInt32.ofNat (24 - 8*(t % 4)))) H'=.val (X8 (wH h t)) H':=λH'=>pa _ H'
 simp(maxSteps:=4000000) (disch:=omega) only[Eb,i3,i4,i51,Zy,d1,ZhT,p8,EB,YR,Yy,Yq,ld,ZaI,lb,st,X2,X1,X5,YI,XI,W0,W1,TF,W6,V3,Nl,TH,Vd,LP,Ry,JP,Ff,tY,Fi,JO,US,N8.g00,N8.g01,N8.g06,N8.g07,N8.g10,N8.g11,N8.g12,N8.g13,N8.g22,N8.g33,N8.g34,N8.g35,N8.g36,N8.g37,N8.g44,N8.g47,N8.g55,N8.g56,N8.g57,N8.g60,N8.g66,N8.g67,N8.g70,N8.g76,N8.g77,TL,Tb,O8,NY,O7,Vk,Us,Zb,RK,TG,LG,yO,mc,cQ,md,mf,mg,cR,cS,cT,cU,mh,mj,mp,cX,mq,uZ,cY,cZ,bc,zJ,kw,ky,Zbs,Zbt,Zbu,Zbv,Zbw,Zbx,Zby,Zbz,ZbA,ZbB,ZbC,ZbD,ZbE,ZbF,ZbG,ZbH,ZbI]
 refine⟨_,_,rfl,i2,i3,i4,rfl,hi.keep.then_put λ_=>ZG.2 rfl,r.setCells (Xj r.cells t [X8 (wH h t)]),⟨by rw[U5,if_pos rfl],own.elem,own.sz,own.own,own.fz,own.sm,?_,own.ro⟩⟩
 have:=own.cells.store1 (o:=t) (v:=X8 (wH h t)) (by simp;omega)
 have e:((KE h t++List.replicate (32 - t) 0).map X8).set t (X8 (wH h t))=(KE h (t+1)++List.replicate (32 - (t+1)) 0).map X8:=by
  rw[Xe,T7 _ _ (by rw[Zt];omega),Zt,hl,Tl,show 32 - t=(32 - (t+1))+1 by omega,Wl,Zz,List.set_cons_zero,jj,XB,Xe]
  rfl
 rw[e] at this
 exact this
theorem Zdx{b2 b3 cb:Nat}{H0:Heap}{h:List UInt32}(c:Ctx)(x:X)(tm:TM)(H:Heap)(hi:L8 b2 b3 cb h H0 32 tm H):
  ∃tm' H',Eb c tm H x=.ok (.exit 4) tm' H' x∧L8 b2 b3 cb h H0 32 tm' H':=by
 have i2:=hi.t2;have i3:=hi.t3;have i4:=hi.t4;have i51:=hi.t51
 simp only[Oa,RK,TG,yO] at i2 i3 i4 i51
 have d1:decide (32<32)=false:=rfl
 simp(maxSteps:=4000000) (disch:=omega) only[Eb,i51,Zy,d1,X2,X1,X5,YI,TQ,XI,SL,W0,W1,VS,TH,US,N8.g00,N8.g44,N8.g66,yO,mc,ky,]
 exact⟨_,_,rfl,i2,i3,i4,i51,hi.keep,hi.row⟩
end
section
attribute [local irreducible] VG
variable {lib:Nat->List AV->Heap->Option CR} {fs:T CF} {fuel:Nat}
def K9(m:Nat):Nat:=(119 - m) % 64
def JS(l:List UInt8)(many:Nat):List UInt8:=(l++[128])++List.replicate (K9 l.length) 0++PV many 8
theorem sx(l:List UInt8)(many:Nat):(JS l many).length=l.length+1+K9 l.length+8:=by unfold JS PV;simp;omega
theorem La.bv{H:Heap}{v:AV}{l:List UInt8}{lo:Nat}(h:La H v l lo)(hne:l≠[]):BV H v l∧ ∀b o n c,v=.slice b o n c->lo<=b:=by
 obtain⟨b,r,rfl,g,hlo⟩:=h
 exact⟨.inr ⟨hne,b,0,none,r,rfl,g.cells.bytes g.at_ g.sz,g.low⟩,λb o n c e=>by cases e;exact hlo⟩
def A0(K h:List UInt32)(l:List UInt8)(many:Nat):List UInt8:=KE (Qn K h (JS l many) ((JS l many).length/64)) 32
theorem ZeI{n:Nat}(hl: ∀l H,lib 121 l H=none)(hl2: ∀l H,lib 108 l H=none)(hl3: ∀l H,lib 107 l H=none)(hl4: ∀l H,lib 91 l H=none)(hf:fs.get 121=some Kh)(hf2:fs.get 108=some K2)(hf3:fs.get 107=some Ca)(qh:fs.get 91=some c91)(hF:64<fuel)(hl5: ∀l H,lib 90 l H=none)(fB:fs.get 90=some c90)(jI: ∀l H,lib 89 l H=none)(hf6:fs.get 89=some c89)(hl8: ∀l H,lib 71 l H=none)(hf8:fs.get 71=some c71)
  {sb many:Nat}{K h:List UInt32}{l:List UInt8}{left:AV}{H:Heap}{rK r:Row}(hll:l.length<64)(hK:H.t.get 5=some (.row rK))(cK:Cells rK (K.map Y2))(nK:K.length=64)(h7:5<H.nx)(h7s:5≠sb)(hro:H.ro<=H.nx)
  (s:Kd H sb h left many r)(hv:BV H left l):
  ∃H',Z8 lib fs fuel (n+6) 71 [.ptr sb 0] H=.ret (.agg ((A0 K h l many).map X8)) H'∧ZE H H' []:=by
 rw[Z7 (hl8 _ _) hf8]
 generalize ha:H.new (.row ⟨38,1,32,.leaf,nI .u8 0,0,false,true,true⟩)=Ha
 have nxa:Ha.nx=H.nx+1:=by rw[<-ha];rfl
 have ka:ZE H Ha []:=by rw[<-ha];exact ZE.new H _ []
 have ga:Ha.t.get H.nx=some (.row ⟨38,1,32,.leaf,nI .u8 0,0,false,true,true⟩):=by rw[<-ha,VX,if_pos rfl]
 generalize hb:Ha.new (.row ⟨38,1,32,.leaf,nI .u8 0,0,false,true,true⟩)=Hb
 have nxb:Hb.nx=H.nx+2:=by rw[<-hb,JK,nxa]
 have kb:ZE H Hb []:=by rw[<-hb];exact ka.then_new _
 have gb:Hb.t.get (H.nx+1)=some (.row ⟨38,1,32,.leaf,nI .u8 0,0,false,true,true⟩):=by rw[<-hb,VX,nxa,if_pos rfl]
 have Gj:Hb.t.get H.nx=some (.row ⟨38,1,32,.leaf,nI .u8 0,0,false,true,true⟩):=by rw[<-hb,VX,nxa,if_neg (by omega),ga]
 have sB:Kd Hb sb h left many r:=⟨⟨by rw[kb.get sb s.low (by simp)];exact s.at_,s.elem,s.sz,s.own,s.fz,s.sm,s.cells,by rw[kb.ro];exact s.ro⟩,s.len,by have:=s.low;omega⟩
 have en:=tP (fuel:=fuel) (n:=n+4) jI hf6 sB
 have ld:JH 8 (.ptr sb 0) Hb=.val (.agg (h.map Y2)) Hb:=by
  rw[NX sB.at_ sB.cells (by rw[Zm,Zt,s.len];omega),ZC,List.take_left' (by rw[Zt];exact s.len)]
 have bld: ∀H',Rz [(nI .u32 0),(nI .u32 0),(nI .u32 0),(nI .u32 0),(nI .u32 0),(nI .u32 0),(nI .u32 0),(nI .u32 0),.nils,(nI .u64 0),(.bool false)] [(0,8,.agg (h.map Y2)),(10,1,.bool true)] H'=.val (.agg (h.map Y2++[.nils,nI .u64 0,.bool true])) H':=λH'=>by
  obtain⟨a0,a1,a2,a3,a4,a5,a6,a7,rfl⟩:=tA s.len
  rfl
 have box:Zf5 145 (.agg (h.map Y2++[.nils,nI .u64 0,.bool true])) Hb=.val (.ptr (H.nx+2) 0) (Hb.newRow 145 1 (h.map Y2++[.nils,nI .u64 0,.bool true]) true):=by
  rw[<-nxb]
  obtain⟨a0,a1,a2,a3,a4,a5,a6,a7,rfl⟩:=tA s.len
  rfl
 obtain⟨rc,sc⟩:=y2 (H:=Hb) (left:=.nils) (many:=0) s.len (by rw[kb.ro];omega)
 generalize hc:Hb.newRow 145 1 (h.map Y2++[.nils,nI .u64 0,.bool true]) true=Hc at box sc
 rw[nxb] at sc
 have nxc:Hc.nx=H.nx+3:=by rw[<-hc,T1,JK,nxb]
 have kbc:ZE Hb Hc []:=by rw[<-hc];exact ZE.new Hb _ []
 have kc:ZE H Hc []:=kb.trans' kbc
 have sC:Kd Hc sb h left many r:=⟨⟨by rw[kc.get sb s.low (by simp)];exact s.at_,s.elem,s.sz,s.own,s.fz,s.sm,s.cells,by rw[kc.ro];exact s.ro⟩,s.len,by have:=s.low;omega⟩
 have ld8:TI (.ptr sb 8) Hc=.val left Hc:=sC.load rfl (by omega:0<3)
 obtain⟨v1,H1,v',H',e1,e2,tl,k'⟩:=oJ (hv.keep kc (S:=[]) (by simp)) (by omega) (by rw[kc.ro];omega) 128
 have bs:UL 5 1 1 [nI .u8 0] [(0,1,nI .u8 128)] H1=.val (.slice H1.nx 0 1 none) (H1.newRow 5 1 [X8 128] true):=Pk 5 (nI .u8 0) (nI .u8 128) rfl H1
 simp only[c71,Ib,ha,hb,nxa,en,ld,TK,Zz,ZH,bld,tU,box,ld8,ZW,e1,ZX,bs,e2,Rx,X2,X1,Rt,Se,X5,YI,XI,W0,W1,VS,W6,TH,PL,RS,Vd,Sq,N8.g00,N8.g01,N8.g02,N8.g03,N8.g04,N8.g10,N8.g11,N8.g20,N8.g21,N8.g22,N8.g33,N8.g44,N8.g55,N8.g56,N8.g66,N8.g77,TL,NZ,O8,O7,RY,Vk,Us,Zb,Um,HH,IK,QO,LF,JB,IY,GW,Dv,yL,Dw,B0,yM,nT,B1,B2,gU,oD,ES,ET,vU,r7,Hh,FO,D6,D7,AX,xZ,rU,x4,rX,ki,kj,kl,km,ER,Um]
 generalize hL:WP (F9 _) fuel _ _ _=L
 have hN1: ∀t,t<K9 l.length->((l++[128]:List UInt8).length+t) % 64≠56:=λt ht=>by
  rw[Zm];unfold K9 at ht;simp only[Zl,ZO];omega
 have hN2:((l++[128]:List UInt8).length+K9 l.length) % 64=56:=by
  rw[Zm];unfold K9;simp only[Zl,ZO];omega
 have hNl:K9 l.length<64:=by unfold K9;omega
 have hl1:(l++[128]:List UInt8).length=l.length+1:=by simp
 obtain⟨tb,tr,tv,tg,tlo⟩:=tl
 obtain⟨g9,H2,rfl,j⟩:=Tu (P:=λT=>L6 sb H.nx (H.nx+1) (H.nx+2) (l++[128]) Hc 0 T H') (Q:=L6 sb H.nx (H.nx+1) (H.nx+2) (l++[128]) Hc (K9 l.length))
  (λT hi=>Rg (L6 sb H.nx (H.nx+1) (H.nx+2) (l++[128]) Hc) (L6 sb H.nx (H.nx+1) (H.nx+2) (l++[128]) Hc (K9 l.length)) (K9 l.length)
   (λt tm H ht hi=>Zdu hN1 (by rw[hl1];omega) _ _ t tm H ht hi) (λtm H hi=>Zdt hN2 _ _ tm H hi) (K9 l.length) 0 fuel T H' (Zb _) (by omega) hi) hL
  ⟨rfl,rfl,rfl,rfl,by rw[Td,Zr];exact⟨tb,tr,tv,tg,tlo⟩,k'⟩
 have j0:=j.t0;have j2:=j.t2;have j3:=j.t3;have j4:=j.t4;have j5:=j.t5
 simp only[Um,Oa,RK,TG,QD] at j0 j2 j3 j4 j5
 simp only[WI,YI,X5,X2,Vd,X1,TH,XI,W6,Rx,AY]
 generalize hL2:WP (Ea _) fuel _ _ _=L2
 have bC:((l++[128]:List UInt8)++List.replicate (K9 l.length) 0).length=l.length+1+K9 l.length:=by simp;omega
 obtain⟨tm3,H3,rfl,q⟩:=Tu (P:=λT=>L7 sb H.nx (H.nx+1) (H.nx+2) many ((l++[128])++List.replicate (K9 l.length) 0) Hc 0 T H2) (Q:=L7 sb H.nx (H.nx+1) (H.nx+2) many ((l++[128])++List.replicate (K9 l.length) 0) Hc 8)
  (λT hi=>Rg (L7 sb H.nx (H.nx+1) (H.nx+2) many ((l++[128])++List.replicate (K9 l.length) 0) Hc) (L7 sb H.nx (H.nx+1) (H.nx+2) many ((l++[128])++List.replicate (K9 l.length) 0) Hc 8) 8
   (λt tm H ht hi=>Zdw sC (by rw[bC];omega) _ _ t tm H ht hi) (λtm H hi=>Zdv _ _ tm H hi) 8 0 fuel T H2 (Zb _) (by omega) hi) hL2
  ⟨j0,j2,j3,j4,by rw[show PV many 0=[] from rfl,Zr];exact j5,rfl,j.keep⟩
 have q0:=q.t0;have q2:=q.t2;have q3:=q.t3;have q4:=q.t4;have q5:=q.t5
 simp only[Um,Oa,RK,TG,QD] at q0 q2 q3 q4 q5
 have hpl:=sx l many
 have Zov:JS l many≠[]:=λe=>by rw[e] at hpl;simp at hpl
 obtain⟨bv,bfar⟩:=La.bv (l:=JS l many) q5 Zov
 have scH:Own H3 (H.nx+2) 145 (h.map Y2++[.nils,nI .u64 0,.bool true]) rc:=⟨by rw[q.keep.get (H.nx+2) (by omega) (by simp)];exact sc.at_,sc.elem,sc.sz,sc.own,sc.fz,sc.sm,sc.cells,by rw[q.keep.ro];exact sc.ro⟩
 have nx3:H.nx+3<=H3.nx:=by have:=q.keep.nx;omega
 obtain⟨v4,H4,e4,_,_,k4,r4,Zo7⟩:=Bf (n:=n) (fuel:=fuel) hl hl2 hl3 hl4 hf hf2 hf3 qh hF hl5 fB (l:=JS l many) (by omega) (by rw[q.keep.get 5 (by omega) (by simp),kc.get 5 h7 (by simp)];exact hK) cK nK (by omega) (by omega) s.len (by omega) (by rw[q.keep.ro,kc.ro];omega) bv
  (λb o n c e=>by have:=bfar b o n c e;omega) scH
 simp only[WI,YI,X5,X2,Vd,X1,TH,XI,W6,Rx,y4,Sq,Rt,Se,RS,PL,Zbo,Zbp,Zbq,Zbr,kw,QD,TG,cN,cO,cP,q4,e4,N8.g00,N8.g05,N8.g11,N8.g55,N8.g56,N8.g65,N8.g66,N8.g77]
 generalize hL3:WP (Eb _) fuel _ _ _=L3x
 have s4:Kd H4 (H.nx+2) (Qn K h (JS l many) ((JS l many).length/64)) .nils 0 r4:=⟨Zo7,N6 K h _ s.len _,by have:=k4.nx;omega⟩
 have g4: ∀b,b=H.nx∨b=H.nx+1->H4.t.get b=Hb.t.get b:=λb hb=>by
  rw[k4.get b (by omega) (by simp;omega),q.keep.get b (by omega) (by simp),kbc.get b (by omega) (by simp)]
 have ro4:H4.ro=H.ro:=by rw[k4.ro,q.keep.ro,kc.ro]
 obtain⟨tm5,H5,rfl,z⟩:=Tu (P:=λT=>L8 H.nx (H.nx+1) (H.nx+2) (Qn K h (JS l many) ((JS l many).length/64)) H4 0 T H4) (Q:=L8 H.nx (H.nx+1) (H.nx+2) (Qn K h (JS l many) ((JS l many).length/64)) H4 32)
  (λT hi=>Rg (L8 H.nx (H.nx+1) (H.nx+2) (Qn K h (JS l many) ((JS l many).length/64)) H4) (L8 H.nx (H.nx+1) (H.nx+2) (Qn K h (JS l many) ((JS l many).length/64)) H4 32) 32
   (λt tm H ht hi=>Zdy s4 (by omega) _ _ t tm H ht hi) (λtm H hi=>Zdx _ _ tm H hi) 32 0 fuel T H4 (Zb _) (by omega) hi) hL3
  ⟨q2,q3,q4,rfl,ZE.refl _ _,_,⟨by rw[g4 _ (.inr rfl)];exact gb,rfl,rfl,rfl,rfl,rfl,Cells.zero 38 32 (nI .u8 0) 0 false true true,by rw[ro4];omega⟩⟩
 obtain⟨r5,pS⟩:=z.row
 rw[show 32 - 32=0 from rfl,Td,Zr] at pS
 have z2:=z.t2;have z3:=z.t3
 simp only[Oa,RK] at z2 z3
 have nd:((A0 K h l many).map X8).length=32:=by rw[Zt];exact OX _ _
 have pS:Own H5 (H.nx+1) 38 ((A0 K h l many).map X8) r5:=pS
 have ldd:JH 32 (.ptr (H.nx+1) 0) H5=.val (.agg ((A0 K h l many).map X8)) H5:=by
  rw[NX pS.at_ pS.cells (by omega),ZC,YS (by omega)]
 have r2:H5.t.get H.nx=some (.row ⟨38,1,32,.leaf,nI .u8 0,0,false,true,true⟩):=by
  rw[z.keep.get H.nx (by have:=k4.nx;omega) (by simp),g4 _ (.inl rfl),Gj]
 have std:RE 32 (.ptr H.nx 0) (.agg ((A0 K h l many).map X8)) H5=.val XE (H5.put H.nx (.row (Row.setCells ⟨38,1,32,.leaf,nI .u8 0,0,false,true,true⟩ (Xj .leaf 0 ((A0 K h l many).map X8))))):=
  UJ (v:=.agg ((A0 K h l many).map X8)) r2 (Cells.zero 38 32 (nI .u8 0) 0 false true true) rfl (by rw[z.keep.ro,ro4];exact hro) rfl (by omega) nd (by simp)
 have cw:Cells (Row.setCells ⟨38,1,32,.leaf,nI .u8 0,0,false,true,true⟩ (Xj .leaf 0 ((A0 K h l many).map X8))) ((A0 K h l many).map X8):=(Cells.zero 38 32 (nI .u8 0) 0 false true true).whole (by rw[nd,Yu])
 simp only[WI,YI,X5,X2,NZ,Tb,X1,Oa,RK,be,ZbJ,z2,z3,ldd,std,Nl,XI,Qc,QR,N8.g00,N8.g01,N8.g11,N8.g66,]
 refine⟨_,M3 z2 (by rw[U5,if_pos rfl]) cw nd,ZE.then_put ?_ λhlt=>absurd hlt (ZL _)⟩
 have kH3:ZE H H3 []:=kc.trans' q.keep
 exact((kH3.trans k4 (S:=[]) λc hc hlt=>by simp only[ZG] at hc;omega).trans z.keep λc hc hlt=>by simp only[ZG] at hc;omega)
end
section
attribute [local irreducible] VG
variable {lib:Nat->List AV->Heap->Option CR} {fs:T CF} {fuel:Nat}
def LX(K B:List UInt32)(l:List UInt8):List UInt8:=A0 K (Qn K B l (l.length/64)) (l.drop (64*(l.length/64))) l.length
theorem zE(a:TM->Heap->X->WL)(n:Nat)(tm:TM)(H:Heap)(x:X):WP a (n+1) tm H x=QY (a tm H x) (WP a n):=rfl
theorem Zcd{n:Nat}(hl: ∀l H,lib 121 l H=none)(hl2: ∀l H,lib 108 l H=none)(hl3: ∀l H,lib 107 l H=none)(hl4: ∀l H,lib 91 l H=none)(hf:fs.get 121=some Kh)(hf2:fs.get 108=some K2)(hf3:fs.get 107=some Ca)(qh:fs.get 91=some c91)(hF:64<fuel)(hl5: ∀l H,lib 90 l H=none)(fB:fs.get 90=some c90)(jI: ∀l H,lib 89 l H=none)(hf6:fs.get 89=some c89)(hl8: ∀l H,lib 71 l H=none)(hf8:fs.get 71=some c71)
  (hl7: ∀l H,lib 70 l H=none)(hf7:fs.get 70=some c70)(hl9: ∀l H,lib 69 l H=none)(hf9:fs.get 69=some c69)(hlA: ∀l H,lib 51 l H=none)(hfA:fs.get 51=some c51)
  {K B:List UInt32}{l:List UInt8}{v:AV}{H:Heap}{rK rB rp:Row}{pb:Nat}(hlF:l.length/64<fuel)(hll:l.length<=140737488355328)(hK:H.t.get 5=some (.row rK))(cK:Cells rK (K.map Y2))(nK:K.length=64)(h7:5<H.nx)(hB:H.t.get 3=some (.row rB))(cB:Cells rB (B.map Y2))(nB:B.length=8)(hro:H.ro<=H.nx)
  (hv:BV H v l)(far: ∀b o n c,v=.slice b o n c->b<H.nx)(hp:H.t.get pb=some (.row rp))(cp:Cells rp [v])(hpb:pb<H.nx):
  ∃H',Z8 lib fs fuel (n+7) 51 [.slice pb 0 1 none] H=.ret (.agg ((LX K B l).map X8)) H'∧ZE H H' []:=by
 rw[Z7 (hlA _ _) hfA]
 generalize ha:H.new (.row ⟨38,1,32,.leaf,nI .u8 0,0,false,true,true⟩)=Ha
 have nxa:Ha.nx=H.nx+1:=by rw[<-ha];rfl
 have ka:ZE H Ha []:=by rw[<-ha];exact ZE.new H _ []
 have ga:Ha.t.get H.nx=some (.row ⟨38,1,32,.leaf,nI .u8 0,0,false,true,true⟩):=by rw[<-ha,VX,if_pos rfl]
 have en:=ZdV (fuel:=fuel) (lib:=lib) (n:=n+5) hl9 hf9 (H:=Ha) (by rw[ka.get 3 (by omega) (by simp)];exact hB) cB nB
 obtain⟨rs,ss⟩:=y2 (H:=Ha) (left:=.nils) (many:=0) nB (by rw[ka.ro];omega)
 generalize hb:Ha.newRow 145 1 (B.map Y2++[.nils,nI .u64 0,.bool true]) true=Hb at en ss
 have nxb:Hb.nx=H.nx+2:=by rw[<-hb,T1,JK,nxa]
 have kab:ZE Ha Hb []:=by rw[<-hb];exact ZE.new Ha _ []
 have kb:ZE H Hb []:=ka.trans' kab
 rw[nxa] at en ss
 have ldp:TI (.ptr pb 0) Hb=.val v Hb:=Ta (l:=[v]) (by rw[kb.get pb hpb (by simp)];exact hp) cp (by simp)
 obtain⟨left,Hc,rc,ew,bl,fl,kc,sc⟩:=fq (n:=n) (fuel:=fuel) hl hl2 hl3 hl4 hf hf2 hf3 qh hF hl5 fB jI hf6 hl7 hf7 hlF hll (many:=0) (by omega) (by rw[kb.get 5 h7 (by simp)];exact hK) cK nK (by omega) (by omega) (by rw[kb.ro];omega)
  (hv.keep kb (S:=[]) (by simp)) (λb o n c e=>by have:=far b o n c e;omega) ss
 rw[Zb] at sc
 obtain⟨Hd,es,kd⟩:=ZeI (n:=n) (fuel:=fuel) hl hl2 hl3 hl4 hf hf2 hf3 qh hF hl5 fB jI hf6 hl8 hf8 (by rw[YW];omega) (K:=K) (by rw[kc.get 5 (by omega) (by simp;omega),kb.get 5 h7 (by simp)];exact hK) cK nK (by have:=kc.nx;omega) (by omega) (by rw[kc.ro,kb.ro];have:=kc.nx;omega) sc bl
 obtain⟨F,rfl⟩: ∃F,fuel=F+2:=⟨fuel - 2,by omega⟩
 have d1:decide (0<1)=true:=rfl
 have d2:decide (1<1)=false:=rfl
 have es:Z8 lib fs (F+2) (n+6) 71 [.ptr (H.nx+1) 0] Hc=.ret (.agg ((LX K B l).map X8)) Hd:=es
 have nd:((LX K B l).map X8).length=32:=by rw[Zt];exact OX _ _
 have kcd:ZE Hb Hd [H.nx+1]:=kc.trans kd λc hc _=>by simp at hc
 have r2:Hd.t.get H.nx=some (.row ⟨38,1,32,.leaf,nI .u8 0,0,false,true,true⟩):=by
  rw[kcd.get H.nx (by omega) (by simp),kab.get H.nx (by omega) (by simp),ga]
 have std:RE 32 (.ptr H.nx 0) (.agg ((LX K B l).map X8)) Hd=.val XE (Hd.put H.nx (.row (Row.setCells ⟨38,1,32,.leaf,nI .u8 0,0,false,true,true⟩ (Xj .leaf 0 ((LX K B l).map X8))))):=
  UJ (v:=.agg ((LX K B l).map X8)) r2 (Cells.zero 38 32 (nI .u8 0) 0 false true true) rfl (by rw[kcd.ro,kb.ro];exact hro) rfl (by omega) nd (by simp)
 have cw:Cells (Row.setCells ⟨38,1,32,.leaf,nI .u8 0,0,false,true,true⟩ (Xj .leaf 0 ((LX K B l).map X8))) ((LX K B l).map X8):=(Cells.zero 38 32 (nI .u8 0) 0 false true true).whole (by rw[nd,Yu])
 simp(maxSteps:=4000000) (disch:=omega) only[c51,f7,Ib,ha,en,Rx,zE,V8,Zy,d1,d2,ZY,Zb,Zd,ldp,ew,es,std,Yy,X2,X1,Rt,Se,X5,YI,TQ,XI,Qc,SL,W0,W1,TF,VS,W6,V3,WI,Nl,TH,PL,RS,Vd,Ry,US,Sq,N8.g00,N8.g01,N8.g02,N8.g03,N8.g04,N8.g05,N8.g06,N8.g07,N8.g10,N8.g11,N8.g12,N8.g13,N8.g14,N8.g15,N8.g16,N8.g17,N8.g20,N8.g21,N8.g22,N8.g23,N8.g25,N8.g26,N8.g27,N8.g33,N8.g35,N8.g37,N8.g44,N8.g55,N8.g56,N8.g66,N8.g77,TL,Tb,ED,Pn,RY,V8,Zb,Um,Oa,RK,QD,JC,LG,HH,IK,LD,QO,LF,JB,IY,Dv,yL,Dw,gU,oD,ET,AY,zJ,vU,r7,AW,Hh,FO,D6,D7,AX,xZ,rU,x4,ER,Um]
 simp only[QR]
 refine⟨_,M3 rfl (by rw[U5,if_pos rfl]) cw nd,ZE.then_put ?_ (λhlt=>absurd hlt (ZL _))⟩
 exact kb.trans kcd (λc hc hlt=>by simp only[ZG] at hc;omega)
end
section
attribute [local irreducible] VG
variable {lib:Nat->List AV->Heap->Option CR} {fs:T CF} {fuel:Nat}
theorem Zei{n:Nat}(hl: ∀l H,lib 121 l H=none)(hl2: ∀l H,lib 108 l H=none)(hl3: ∀l H,lib 107 l H=none)(hl4: ∀l H,lib 91 l H=none)(hf:fs.get 121=some Kh)(hf2:fs.get 108=some K2)(hf3:fs.get 107=some Ca)(qh:fs.get 91=some c91)(hF:64<fuel)(hl5: ∀l H,lib 90 l H=none)(fB:fs.get 90=some c90)(jI: ∀l H,lib 89 l H=none)(hf6:fs.get 89=some c89)(hl8: ∀l H,lib 71 l H=none)(hf8:fs.get 71=some c71)
  (hl7: ∀l H,lib 70 l H=none)(hf7:fs.get 70=some c70)(hl9: ∀l H,lib 69 l H=none)(hf9:fs.get 69=some c69)(hlA: ∀l H,lib 51 l H=none)(hfA:fs.get 51=some c51)(hlB: ∀l H,lib 28 l H=none)(hfB:fs.get 28=some c28)
  {K B:List UInt32}{l:List UInt8}{v:AV}{H:Heap}{rK rB:Row}(hlF:l.length/64<fuel)(hll:l.length<=140737488355328)(hK:H.t.get 5=some (.row rK))(cK:Cells rK (K.map Y2))(nK:K.length=64)(h7:5<H.nx)(hB:H.t.get 3=some (.row rB))(cB:Cells rB (B.map Y2))(nB:B.length=8)(hro:H.ro<=H.nx)
  (hv:BV H v l)(far: ∀b o n c,v=.slice b o n c->b<H.nx):
  ∃H',Z8 lib fs fuel (n+8) 28 [v] H=.ret (.agg ((LX K B l).map X8)) H'∧ZE H H' []:=by
 rw[Z7 (hlB _ _) hfB]
 generalize ha:H.new (.row ⟨38,1,32,.leaf,nI .u8 0,0,false,true,true⟩)=Ha
 have nxa:Ha.nx=H.nx+1:=by rw[<-ha];rfl
 have ka:ZE H Ha []:=by rw[<-ha];exact ZE.new H _ []
 have ga:Ha.t.get H.nx=some (.row ⟨38,1,32,.leaf,nI .u8 0,0,false,true,true⟩):=by rw[<-ha,VX,if_pos rfl]
 have vc:v.cells=[v]:=by
  rcases hv with⟨_,rfl|⟨b,o,c,rfl⟩⟩|⟨_,b,o,c,r,rfl,_⟩<;>rfl
 have bs:UL 32 1 1 [.nils] [(0,1,v)] Ha=.val (.slice (H.nx+1) 0 1 none) (Ha.newRow 32 1 [v] true):=by
  rw[<-nxa];exact Pk 32 .nils v vc Ha
 generalize hb:Ha.newRow 32 1 [v] true=Hb at bs
 have nxb:Hb.nx=H.nx+2:=by rw[<-hb,T1,JK,nxa]
 have kab:ZE Ha Hb []:=by rw[<-hb];exact ZE.new Ha _ []
 have kb:ZE H Hb []:=ka.trans' kab
 have gb:Hb.t.get (H.nx+1)=some (.row ⟨32,1,1,T.ofList [v],.unk,0,false,true,true⟩):=by rw[<-hb,T1,VX,nxa,if_pos rfl];rfl
 obtain⟨Hd,es,kd⟩:=Zcd (n:=n) (fuel:=fuel) hl hl2 hl3 hl4 hf hf2 hf3 qh hF hl5 fB jI hf6 hl8 hf8 hl7 hf7 hl9 hf9 hlA hfA (H:=Hb) (v:=v) (l:=l) hlF hll (by rw[kb.get 5 h7 (by simp)];exact hK) cK nK (by omega) (by rw[kb.get 3 (by omega) (by simp)];exact hB) cB nB (by rw[kb.ro];omega) (hv.keep kb (S:=[]) (by simp)) (λb o n c e=>by have:=far b o n c e;omega) gb (Cells.new 32 1 [v] 0 false true true) (by omega)
 have nd:((LX K B l).map X8).length=32:=by rw[Zt];exact OX _ _
 have kad:ZE Ha Hd []:=kab.trans' kd
 have r2:Hd.t.get H.nx=some (.row ⟨38,1,32,.leaf,nI .u8 0,0,false,true,true⟩):=by
  rw[kad.get H.nx (by omega) (by simp),ga]
 have std:RE 32 (.ptr H.nx 0) (.agg ((LX K B l).map X8)) Hd=.val XE (Hd.put H.nx (.row (Row.setCells ⟨38,1,32,.leaf,nI .u8 0,0,false,true,true⟩ (Xj .leaf 0 ((LX K B l).map X8))))):=
  UJ (v:=.agg ((LX K B l).map X8)) r2 (Cells.zero 38 32 (nI .u8 0) 0 false true true) rfl (by rw[kad.ro,ka.ro];exact hro) rfl (by omega) nd (by simp)
 have cw:Cells (Row.setCells ⟨38,1,32,.leaf,nI .u8 0,0,false,true,true⟩ (Xj .leaf 0 ((LX K B l).map X8))) ((LX K B l).map X8):=(Cells.zero 38 32 (nI .u8 0) 0 false true true).whole (by rw[nd,Yu])
 simp(maxSteps:=4000000) (disch:=omega) only[c28,Ib,ha,ZX,Zz,ZH,bs,es,std,X2,X1,Rt,Se,X5,YI,XI,Qc,Nl,PL,RS,Vd,Sq,N8.g00,N8.g02,N8.g22,N8.g23,N8.g24,N8.g25,N8.g33,N8.g44,N8.g55,Tb,RY,Um,Oa,RK,TG,QD,gU,oD,ES,ET,ER,Um]
 simp only[QR]
 exact⟨_,M3 rfl (by rw[U5,if_pos rfl]) cw nd,ZE.then_put (ka.trans' kad) (λhlt=>absurd hlt (ZL _))⟩
end
section
attribute [local irreducible] VG
theorem ZeQ{x y:UInt8}(h:X8 x=X8 y):x=y:=by
 unfold X8 at h
 injection h with _ h
 injection h with h
 exact Rj.1 h
theorem Bytes.uniq{H:Heap}{b o:Nat}{c:Option Nat}{l l':List UInt8}{r r':Row}(h:Bytes H b o c l r)(h':Bytes H b o c l' r')(e:l.length=l'.length):l=l':=by
 have hr:r=r':=by
  have:=h.at_.symm.trans h'.at_
  injection this with this
  injection this
 subst hr
 refine List.ext_getElem e λi h1 h2=>?_
 have a:=h.get i h1
 have b:=h'.get i h2
 rw[a] at b
 have:=ZeQ b
 rwa [Zf,Zf,Zn h1,Zn h2] at this
theorem BV.uniq{H:Heap}{v:AV}{l l':List UInt8}(h:BV H v l)(h':BV H v l'):l=l':=by
 have e:l.length=l'.length:=by
  have a:=h.len H
  rw[h'.len H] at a
  injection a with a _
  injection a with _ a
  injection a with a
  exact a.symm
 rcases h with⟨rfl,_⟩|⟨hne,b,o,c,r,rfl,hb,_⟩
 ·exact(XM.1 e.symm).symm
 ·rcases h' with⟨rfl,_⟩|⟨hne',b',o',c',r',e',hb',_⟩
  ·exact XM.1 e
  ·injection e' with e1 e2 e3 e4
   subst e1;subst e2;subst e4
   exact hb.uniq hb' e
structure fG(top:Nat)(K B:List UInt32)(H:Heap)(v:AV)(l:List UInt8):Prop where
 bv:BV H v l
 short:l.length<=64*top
 keys: ∃r,H.t.get 5=some (.row r)∧Cells r (K.map Y2)
 beg: ∃r,H.t.get 3=some (.row r)∧Cells r (B.map Y2)
 nx:5<H.nx
 ro:H.ro<=H.nx
theorem BV.far{H:Heap}{v:AV}{l:List UInt8}(h:BV H v l)(hne:l≠[]): ∀b o n c,v=.slice b o n c->b<H.nx:=by
 rcases h with⟨rfl,_⟩|⟨_,b,o,c,r,rfl,_,hlt⟩
 ·exact absurd rfl hne
 ·intro b o n c e;cases e;exact hlt
def Gd(f0 top:Nat)(K B:List UInt32)(base:Nat->List AV->Heap->Option CR)(f:Nat)(args:List AV)(H:Heap):Option CR:=
 cond (Nat.beq f f0) (open Classical in if h: ∃v l,args=[v]∧fG top K B H v l∧(∀b o n c,v=.slice b o n c->b<H.nx) then some (.ret (.agg ((LX K B h.choose_spec.choose).map X8)) H) else none) (base f args H)
theorem gF{f0 top:Nat}{K B:List UInt32}{base:Nat->List AV->Heap->Option CR}{H:Heap}{v:AV}{l:List UInt8}(h:fG top K B H v l)(far: ∀b o n c,v=.slice b o n c->b<H.nx):
  Gd f0 top K B base f0 [v] H=some (.ret (.agg ((LX K B l).map X8)) H):=by
 have hx: ∃v' l',[v]=[v']∧fG top K B H v' l'∧(∀b o n c,v'=.slice b o n c->b<H.nx):=⟨v,l,rfl,h,far⟩
 unfold Gd
 rw[show Nat.beq f0 f0=true from Xd f0,cond_true,dif_pos hx]
 obtain⟨e1,e2,_⟩:=hx.choose_spec.choose_spec
 generalize hx.choose_spec.choose=l2 at e2
 generalize hx.choose=v2 at e1 e2
 injection e1 with e1 _
 subst e1
 rw[e2.bv.uniq h.bv]
theorem mT(n:Nat): ∀l:List UInt8,RL n (l.map X8)=true
 |[]=>rfl
 |x::l=>by
  show cond (Wu n (X8 x)) (RL n (l.map X8)) false=true
  rw[mT n l];rfl
variable {lib:Nat->List AV->Heap->Option CR} {fs:T CF} {fuel:Nat} {P:Program}
theorem gG{n:Nat}(hl: ∀l H,lib 121 l H=none)(hl2: ∀l H,lib 108 l H=none)(hl3: ∀l H,lib 107 l H=none)(hl4: ∀l H,lib 91 l H=none)(hf:fs.get 121=some Kh)(hf2:fs.get 108=some K2)(hf3:fs.get 107=some Ca)(qh:fs.get 91=some c91)(hF:64<fuel)(hl5: ∀l H,lib 90 l H=none)(fB:fs.get 90=some c90)(jI: ∀l H,lib 89 l H=none)(hf6:fs.get 89=some c89)(hl8: ∀l H,lib 71 l H=none)(hf8:fs.get 71=some c71)
  (hl7: ∀l H,lib 70 l H=none)(hf7:fs.get 70=some c70)(hl9: ∀l H,lib 69 l H=none)(hf9:fs.get 69=some c69)(hlA: ∀l H,lib 51 l H=none)(hfA:fs.get 51=some c51)(hlB: ∀l H,lib 28 l H=none)(hfB:fs.get 28=some c28)(hcall:SC P (Z8 lib fs fuel (n+8))){K B:List UInt32}(nK:K.length=64)(nB:B.length=8){top:Nat}(htop:top<fuel)(htop2:64*top<=140737488355328)
  {base:Nat->List AV->Heap->Option CR}(hb:OT P base):OT P (Gd 28 top K B base):=by
 intro f args H r hr σ w vs hs hv
 unfold Gd at hr
 cases e:Nat.beq f 28 with
 |false=>rw[e] at hr;exact hb f args H r hr σ w vs hs hv
 |true=>
  have:=Z9 e
  subst this
  rw[e,cond_true] at hr
  split at hr
  ·rename_i hx
   obtain⟨e1,h1,far⟩:=hx.choose_spec.choose_spec
   generalize hx.choose_spec.choose=l at hr h1
   generalize hx.choose=v at e1 h1 far
   subst e1
   cases hr
   obtain⟨rK,gK,cK⟩:=h1.keys
   obtain⟨rB,gB,cB⟩:=h1.beg
   have hs1:=h1.short
   obtain⟨H',e2,k⟩:=Zei (n:=n) (fuel:=fuel) hl hl2 hl3 hl4 hf hf2 hf3 qh hF hl5 fB jI hf6 hl8 hf8 hl7 hf7 hl9 hf9 hlA hfA hlB hfB (by omega) (by omega) gK cK nK h1.nx gB cB nB h1.ro h1.bv far
   exact mM hcall e2 k (mT 0 _) hs hv
  ·cases hr
end
end
end Go.AI
