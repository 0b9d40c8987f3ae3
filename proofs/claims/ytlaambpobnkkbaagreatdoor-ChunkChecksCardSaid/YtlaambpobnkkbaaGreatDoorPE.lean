/- The digest, by the program's code: walked: proved without conditions but those that each names. -/
import Derived.Test.YtlaambpobnkkbaaGreatDoorP7
import Derived.Test.YtlaambpobnkkbaaGreatDoorP8
set_option maxRecDepth 1000000
set_option maxHeartbeats 0
set_option linter.unusedVariables false
set_option linter.unusedSimpArgs false
namespace Go.AI
open Go
noncomputable section
section
variable {lib:Nat->List AV->Heap->Option CR} {fs:T CF} {fuel:Nat}
theorem ZbW{n:Nat}(hl: ∀l H,lib 97 l H=none)(hf:fs.get 97=some yR)(a:UInt32)(k:Int)(s:Nat)(h1:0<s)(h2:s<32)(hs:Nat.land (T1 18446744073709551616 (IntKind.u64.wrap k)) 31=s)(H:Heap):
  ZU lib fs fuel (n+1) 97 [ZN a,.int .i64 k] H=.ret (ZN ((a<<<UInt32.ofNat s)|||(a>>>UInt32.ofNat (32 - s)))) H:=by
 rw[Z4 (hl _ _) hf]
 have i1: ∀H,Ga .u64 (.int .i64 k) H=.val (.int .u64 (IntKind.u64.wrap k)) H:=λH=>Wy _ _ _
 have i2: ∀H,Hi TZ (.int .u64 (IntKind.u64.wrap k)) (nI .u64 31) H=.val (nI .u64 s) H:=λH=>by
  show TU .u64 (.ofNat (Nat.land (T1 18446744073709551616 (IntKind.u64.wrap k)) (31 % 18446744073709551616))) H=_
  rw[Wy,show 31 % 18446744073709551616=31 from rfl,hs,Nc,Yx (by omega)];rfl
 have i3: ∀H,Di (nI .u64 32) (nI .u64 s) H=.val (nI .u64 (32 - s)) H:=λH=>by
  show TU .u64 (IK (.ofNat 32) (.ofNat s)) H=_
  rw[Wy,CW (by omega),Nc,Yx (by omega)];rfl
 simp only[yR,QX,PA,i1,i2,i3,DF _ h2,GJ _ (show 32 - s<32 by omega),xM,Xy,Xw,XE,Yq,Xb,Qa,TL,W8,Lc,Jb,OB,Gm,Ja,N8.g00,N8.g01,N8.g02,N8.g04,N8.g05,N8.g06,N8.g07,N8.g10,N8.g11,N8.g12,N8.g14,N8.g20,N8.g21,N8.g22,N8.g33,N8.g34,N8.g35,N8.g36,N8.g37,N8.g44,N8.g45,N8.g46,N8.g55,N8.g66,N8.g77,Jw,VF,Ov,Tb,Ss,NA,LN,MI,FF,Mm,Sy,OW,Km,J7,EJ,EK,Eg,Eh,BX,Ar,xZ,tx,BU,Ih,G2,E5,E6,BW,yo,Ef,kl,VF,Ov,Tb]
theorem bO{n:Nat}(hl: ∀l H,lib 97 l H=none)(hl2: ∀l H,lib 74 l H=none)(hf:fs.get 97=some yR)(hf2:fs.get 74=some wg)(a:UInt32)(k s:Nat)(h0:k<9223372036854775808)(h1:0<s)(h2:s<32)
  (hs:Nat.land (T1 18446744073709551616 (IntKind.u64.wrap (IntKind.i64.wrap (IK 0 (.ofNat k))))) 31=s)(H:Heap):
  ZU lib fs fuel (n+2) 74 [ZN a,nI .i64 k] H=.ret (ZN ((a<<<UInt32.ofNat s)|||(a>>>UInt32.ofNat (32 - s)))) H:=by
 rw[Z4 (hl2 _ _) hf2]
 have i1: ∀H,fR (nI .i64 k) H=.val (.int .i64 (IntKind.i64.wrap (IK 0 (.ofNat k)))) H:=λH=>Wy _ _ _
 simp only[wg,QX,PA,i1,ZbW hl hf a _ s h1 h2 hs,Xy,Xw,Rq,QW,XE,Yq,Xb,Qa,TL,PV,RS,W8,Gk,Sv,N8.g00,N8.g01,N8.g04,N8.g10,N8.g11,N8.g14,N8.g15,N8.g44,N8.g55,N8.g56,N8.g57,N8.g66,N8.g77,Jw,VF,Ov,Tb,Ss,NA,LN,MI,Eg,Eh,BX,Ar,xZ,Ef,kl,VF,Ov,Tb]
def Jj(x:UInt32)(k:Nat):UInt32:=(x<<<UInt32.ofNat (32 - k))|||(x>>>UInt32.ofNat k)
def sg0(x:UInt32):UInt32:=Jj x 7^^^Jj x 18^^^(x>>>UInt32.ofNat 3)
def sg1(x:UInt32):UInt32:=Jj x 17^^^Jj x 19^^^(x>>>UInt32.ofNat 10)
theorem oO{n:Nat}(hl: ∀l H,lib 97 l H=none)(hl2: ∀l H,lib 74 l H=none)(hf:fs.get 97=some yR)(hf2:fs.get 74=some wg)(a:UInt32)(k:Nat)(h0:0<k)(h:k<32)(H:Heap):
  ZU lib fs fuel (n+2) 74 [ZN a,nI .i64 k] H=.ret (ZN (Jj a k)) H:=by
 have:=bO (fuel:=fuel) (n:=n) hl hl2 hf hf2 a k (32 - k) (by omega) (by omega) (by omega) (by
  have: ∀k:Fin 32,0<k.val->Nat.land (T1 18446744073709551616 (IntKind.u64.wrap (IntKind.i64.wrap (IK 0 (.ofNat k.val))))) 31=32 - k.val:=by decide+kernel
  exact this ⟨k,h⟩ h0) H
 rw[this,show 32 - (32 - k)=k by omega]
 rfl
def JS(bl:List UInt8)(t:Nat):Nat->UInt32
 |0=>0
 |k+1=>(JS bl t k<<<UInt32.ofNat 8)|||(bl.getD (4*t+k) 0).toUInt32
structure L0(t bk o:Nat)(cap:Option Nat)(b:Nat)(ws:List UInt32)(bl:List UInt8)(Nr:TM)(H0:Heap)(k:Nat)(tm:TM)(H:Heap):Prop where
 t24:Wz tm=nI .i64 k
 t23:Va tm=nI .i64 4
 t22:WV tm=.slice bk (o+4*t) 4 cap
 t4:Xu tm=nI .i64 t
 t3:Xx tm=.ptr b 0
 t0:Yu tm=Yu Nr
 t2:Vt tm=Vt Nr
 t11:YN tm=YN Nr
 keep:Zw H0 H [b]
 row: ∃r,Own H b 80 (((ws++[JS bl t k])++List.replicate (63 - t) 0).map ZN) r
theorem ZaP{t bk o b:Nat}{cap:Option Nat}{ws:List UInt32}{bl:List UInt8}{Nr:TM}{H0:Heap}{rb:Row}{oc:Option Nat}(hb:Bytes H0 bk o oc bl rb)(hbl:bl.length=64)(hne:bk≠b)(hbk:bk<H0.nx)(ht:t<16)(hws:ws.length=t)
  (c:Ctx)(x:X)(k:Nat)(tm:TM)(H:Heap)(hk:k<4)(h:L0 t bk o cap b ws bl Nr H0 k tm H): ∃tm' H',Iv c tm H x=.ok .normal tm' H' x∧L0 t bk o cap b ws bl Nr H0 (k+1) tm' H':=by
 obtain⟨r,own⟩:=h.row
 have i24:=h.t24;have i23:=h.t23;have i22:=h.t22;have i4:=h.t4;have i3:=h.t3
 simp only[HV,CN,CM,Tb,UN] at i24 i23 i22 i4 i3
 have dk:decide (k<4)=true:=Zd hk
 have ldb:T5 (.ptr bk (o+4*t+k)) H=.val (XP (bl.getD (4*t+k) 0)) H:=by
  show XB H bk _=_
  unfold XB
  rw[h.keep.get bk hbk (by simpa using hne),hb.at_]
  show ZP (Nat.ble (Nat.succ (o+4*t+k)) rb.size) _=_
  have:=hb.fits
  rw[Zl (by omega),UJ o,hb.get _ (by omega)];rfl
 have ld:T5 (.ptr b t) H=.val (ZN (JS bl t k)) H:=by
  rw[TN own.at_ own.cells (by simp;omega),Ze,ZZ,Xk,Z5 (by omega),hws,Ti]
  rfl
 have st: ∀v:UInt32,RB 1 (.ptr b t) (ZN v) H=.val YS (H.put b (.row (r.setCells (YQ r.cells t [ZN v])))):=λv=>UH (v:=ZN v) own.at_ own.cells own.own own.ro own.fz (Zo _) rfl (by simp;omega)
 simp(maxSteps:=4000000) (disch:=first|omega|rfl) only[Iv,i24,i23,i22,i4,i3,Zv,dk,RY,UE,ldb,ld,st,CV,xM,DF,YU,Xy,Xw,XE,Yq,Xb,WT,WW,TH,W1,V6,Ni,TL,W8,Lc,Ru,OB,Gm,UT,N8.g00,N8.g01,N8.g02,N8.g03,N8.g04,N8.g05,N8.g06,N8.g07,N8.g11,N8.g22,N8.g23,N8.g30,N8.g33,N8.g34,N8.g36,N8.g40,N8.g43,N8.g44,N8.g45,N8.g46,N8.g47,N8.g55,N8.g66,N8.g77,TP,Tc,NK,FQ,Zf,UN,Tb,NA,CM,CN,HV,CO,zn,vm,pi,pj,pk,vp,pm,iP,iQ,iR,iS,iT,BX,yq,yr,tq,tu,oE,oF,oG,tw,oH,cD,cE,cF,cG,cH]
 refine⟨_,_,rfl,?_⟩
 refine⟨rfl,i23,i22,i4,i3,h.t0,h.t2,h.t11,h.keep.trans (Zw.put λ_=>ZD.2 rfl) (λc hc _=>hc),r.setCells (YQ r.cells t [ZN (JS bl t (k+1))]),⟨by rw[U3,if_pos rfl];rfl,own.elem,own.sz,own.own,own.fz,own.sm,?_,own.ro⟩⟩
 have:=own.cells.store1 (o:=t) (v:=ZN (JS bl t (k+1))) (by simp;omega)
 have e:(((ws++[JS bl t k])++List.replicate (63 - t) 0).map ZN).set t (ZN (JS bl t (k+1)))=((ws++[JS bl t (k+1)])++List.replicate (63 - t) 0).map ZN:=by
  rw[YA,YA,YA,YA,Xk,Xk,Sd _ _ (by rw[Zp];omega),Zp,hws,Ti]
  rfl
 rw[e] at this
 exact this
theorem ZaO{t bk o b:Nat}{cap:Option Nat}{ws:List UInt32}{bl:List UInt8}{Nr:TM}{H0:Heap}(c:Ctx)(x:X)(tm:TM)(H:Heap)(h:L0 t bk o cap b ws bl Nr H0 4 tm H):
  ∃tm' H',Iv c tm H x=.ok (.exit 2) tm' H' x∧L0 t bk o cap b ws bl Nr H0 4 tm' H':=by
 have i24:=h.t24;have i23:=h.t23;have i22:=h.t22;have i4:=h.t4;have i3:=h.t3
 simp only[HV,CN,CM,Tb,UN] at i24 i23 i22 i4 i3
 have dk:decide (4<4)=false:=rfl
 simp only[Iv,i24,i23,Zv,dk,Xy,Xw,XE,Yq,TT,Xb,SK,WT,WW,VU,UT,N8.g00,N8.g11,N8.g33,CN,HV,CO,yr,]
 exact⟨_,_,rfl,i24,i23,i22,i4,i3,h.t0,h.t2,h.t11,h.keep,h.row⟩
theorem Zfm{t bk o b:Nat}{cap:Option Nat}{ws:List UInt32}{bl:List UInt8}{Nr:TM}{H0:Heap}{rb:Row}{oc:Option Nat}(hb:Bytes H0 bk o oc bl rb)(hbl:bl.length=64)(hne:bk≠b)(hbk:bk<H0.nx)(ht:t<16)(hws:ws.length=t)
  (c:Ctx)(x:X){F:Nat}(hF:4<F)(tm:TM)(H:Heap)(h:L0 t bk o cap b ws bl Nr H0 0 tm H): ∃tm' H',XD (Iv c) F tm H x=.ok (.exit 2) tm' H' x∧L0 t bk o cap b ws bl Nr H0 4 tm' H':=
 Re (L0 t bk o cap b ws bl Nr H0) (L0 t bk o cap b ws bl Nr H0 4) 4 (λk tm H hk hi=>ZaP hb hbl hne hbk ht hws c x k tm H hk hi) (λtm H hi=>ZaO c x tm H hi) 4 0 F tm H rfl hF h
theorem Tx{a:TM->Heap->X->WC}{F i:Nat}{H:Heap}{x:X}{L:WC}{P:TM->Prop}{Q:TM->Heap->Prop}(lp: ∀T,P T-> ∃tm' H',XD a F T H x=.ok (.exit i) tm' H' x∧Q tm' H'){T:TM}(hL:XD a F T H x=L)(hi:P T):
  ∃tm' H',L=.ok (.exit i) tm' H' x∧Q tm' H':=by
 obtain⟨b,c,e,j⟩:=lp T hi
 exact⟨b,c,hL.symm.trans e,j⟩
def Gg(l:List UInt32):UInt32:=sg1 (l.getD (l.length - 2) 0)+l.getD (l.length - 7) 0+sg0 (l.getD (l.length - 15) 0)+l.getD (l.length - 16) 0
def Vb(bl:List UInt8):Nat->List UInt32
 |0=>[]
 |t+1=>Vb bl t++[if t<16 then JS bl t 4 else Gg (Vb bl t)]
theorem Tw(bl:List UInt8): ∀t,(Vb bl t).length=t
 |0=>rfl
 |t+1=>by unfold Vb;rw[ZE,Tw bl t];rfl
structure L1(bk o:Nat)(cap:Option Nat)(b b2:Nat)(bl:List UInt8)(H0:Heap)(t:Nat)(tm:TM)(H:Heap):Prop where
 t11:YN tm=nI .i64 t
 t0:Yu tm=.slice bk o 64 cap
 t2:Vt tm=.ptr b2 0
 t3:Xx tm=.ptr b 0
 keep:Zw H0 H [b]
 row: ∃r,Own H b 80 ((Vb bl t++List.replicate (64 - t) 0).map ZN) r
theorem Zfn{bk o b b2:Nat}{cap:Option Nat}{bl:List UInt8}{H0:Heap}{rb:Row}(hb:Bytes H0 bk o cap bl rb)(hbl:bl.length=64)(hne:bk≠b)(hbk:bk<H0.nx)(c:Ctx)(hF:4<c.fuel)(x:X)
  (t:Nat)(tm:TM)(H:Heap)(ht:t<16)(h:L1 bk o cap b b2 bl H0 t tm H): ∃tm' H',LF c tm H x=.ok .normal tm' H' x∧L1 bk o cap b b2 bl H0 (t+1) tm' H':=by
 obtain⟨r,own⟩:=h.row
 have i11:=h.t11;have i0:=h.t0;have i2:=h.t2;have i3:=h.t3
 simp only[Sy,VF,Sk,UN] at i11 i0 i2 i3
 have d1:decide (t<64)=true:=Zd (by omega)
 have d2:decide (t<16)=true:=Zd ht
 have sl:Pp 1 (.slice bk o 64 cap) (some (nI .i64 (4*t))) (some (nI .i64 (4*t+4))) H=.val (.slice bk (o+4*t) 4 (VJ cap (4*t))) H:=by
  have h1:=hb.fits
  rw[zZ (r:=rb) (by rw[h.keep.get bk hbk (by simpa using hne)];exact hb.at_) hb.sz (by omega) (by omega) (λc hc=>by have:=hb.cap c hc;omega),show 4*t+4 - 4*t=4 by omega]
 have lp:=λ(T:TM) (hi:L0 t bk o (VJ cap (4*t)) b (Vb bl t) bl tm H0 0 T H)=>Zfm hb hbl hne hbk ht (Tw bl t) c x hF T H hi
 simp(maxSteps:=4000000) (disch:=omega) only[LF,i11,i0,d1,d2,Zv,FN,YU,LV,XA,sl,Rt,Vz,Xy,Xw,XE,Yq,Xb,WT,WW,TH,W1,TL,W8,Ru,Gj,UT,N8.g00,N8.g01,N8.g02,N8.g03,N8.g04,N8.g05,N8.g10,N8.g11,N8.g20,N8.g21,N8.g22,N8.g23,N8.g24,N8.g25,N8.g33,N8.g34,N8.g44,N8.g55,N8.g66,N8.g77,Py,Vz,VF,Tb,Sy,OW,Km,J7,EJ,EK,CL,J8,zm,pg,ph,CM,Eg,G2,E5,E6,BW,yo,tk,yp,tp,oA,oB,oC,oD,yq,]
 generalize hL:XD (Iv c) c.fuel _ H x=L
 obtain⟨tC,H2,rfl,j⟩:=Tx (P:=λT=>L0 t bk o (VJ cap (4*t)) b (Vb bl t) bl tm H0 0 T H) (Q:=L0 t bk o (VJ cap (4*t)) b (Vb bl t) bl tm H0 4) lp hL ⟨rfl,rfl,rfl,rfl,i3,rfl,rfl,rfl,h.keep,r,by
  have e:((Vb bl t++[JS bl t 0])++List.replicate (63 - t) 0).map ZN=(Vb bl t++List.replicate (64 - t) 0).map ZN:=by
   rw[Xk]
   show((Vb bl t++List.replicate (63 - t+1) 0)).map ZN=_
   rw[show 63 - t+1=64 - t by omega]
  rw[e];exact own⟩
 have j0:=j.t0;have j2:=j.t2;have j11:=j.t11;have j3:=j.t3
 simp only[Sy,VF,Sk,UN,] at j11 j0 j2 j3
 simp(maxSteps:=4000000) (disch:=first|omega|rfl) only[j11,i11,YU,Tv,Yq,TT,SK,Xy,Ru,W8,Xw,Sy,gC,bB,Ih,TL,Xb,N8.g11,N8.g55,]
 refine⟨_,_,rfl,rfl,j0.trans i0,j2.trans i2,j3,j.keep,?_⟩
 have e:(Vb bl t++[JS bl t 4])++List.replicate (63 - t) 0=Vb bl (t+1)++List.replicate (64 - (t+1)) 0:=by
  rw[show 63 - t=64 - (t+1) by omega]
  show _=(Vb bl t++[if t<16 then JS bl t 4 else Gg (Vb bl t)])++_
  rw[if_pos ht]
 rw[<-e]
 exact j.row
theorem ZaQ{n:Nat}(hl: ∀l H,lib 97 l H=none)(hl2: ∀l H,lib 74 l H=none)(hf:fs.get 97=some yR)(hf2:fs.get 74=some wg)
  {bk o b b2:Nat}{cap:Option Nat}{bl:List UInt8}{H0:Heap}(hbn:b<H0.nx){rng:AV->(List AV->Heap->CR)->TM->Heap->X->WC}{yld:Nat->List AV->Heap->CR}(x:X)
  (t:Nat)(tm:TM)(H:Heap)(ht:16<=t)(ht2:t<64)(h:L1 bk o cap b b2 bl H0 t tm H): ∃tm' H',LF ⟨ZU lib fs fuel (n+2),yld,rng,fuel,false⟩ tm H x=.ok .normal tm' H' x∧L1 bk o cap b b2 bl H0 (t+1) tm' H':=by
 obtain⟨r,own⟩:=h.row
 have i11:=h.t11;have i0:=h.t0;have i2:=h.t2;have i3:=h.t3
 simp only[Sy,VF,Sk,UN] at i11 i0 i2 i3
 have d1:decide (t<64)=true:=Zd (by omega)
 have d2:decide (t<16)=false:=Zb (by omega)
 have hb:b<H.nx:=ZF hbn h.keep.nx
 have hlen:=Tw bl t
 have ld: ∀(H':Heap) (o:Nat),H'.t=H.t->o<t->T5 (.ptr b o) H'=.val (ZN ((Vb bl t).getD o 0)) H':=λH' o he ho=>by
  rw[TN (b:=b) (r:=r) (by rw[he];exact own.at_) own.cells (by simp;omega),Ze,ZZ,Z1 (by omega),Ze,Zk (show o<(Vb bl t).length by omega)]
  rfl
 have tn:=λ(a:UInt32) (k:Nat) (h0:0<k) (h:k<32) (H:Heap)=>oO (n:=n) (fuel:=fuel) hl hl2 hf hf2 a k h0 h H
 have st: ∀v:UInt32,RB 1 (.ptr b t) (ZN v) H=.val YS (H.put b (.row (r.setCells (YQ r.cells t [ZN v])))):=λv=>UH (v:=ZN v) own.at_ own.cells own.own own.ro own.fz (Zo _) rfl (by simp;omega)
 simp(maxSteps:=4000000) (disch:=first|omega|rfl) only[LF,i11,i3,d1,d2,Zv,ld,tn,st,Wj hb,Vp,YU,UE,Mg,DL,GJ,Xy,Xw,Rq,QW,XE,Yq,Xb,WT,WW,TH,VU,W1,V6,Ni,TL,PV,RS,W8,Ru,Jb,OB,Ja,UT,Sv,N8.g00,N8.g01,N8.g02,N8.g03,N8.g04,N8.g05,N8.g06,N8.g07,N8.g10,N8.g11,N8.g12,N8.g13,N8.g14,N8.g15,N8.g16,N8.g17,N8.g22,N8.g23,N8.g24,N8.g25,N8.g26,N8.g27,N8.g30,N8.g31,N8.g32,N8.g33,N8.g34,N8.g35,N8.g36,N8.g37,N8.g40,N8.g41,N8.g44,N8.g45,N8.g47,N8.g50,N8.g51,N8.g54,N8.g55,N8.g56,N8.g60,N8.g61,N8.g64,N8.g65,N8.g66,N8.g67,N8.g70,N8.g71,N8.g74,N8.g75,N8.g76,N8.g77,LG,JI,LY,JG,Kc,Kd,JN,Jz,FV,Hz,JB,LP,JO,Ke,Gy,Pk,JC,LR,Dt,Gb,DE,GF,Zy,ZH,cond_true,cond_false,VK,Nat.reducePow,Nat.reduceDiv,Nat.reduceMod,decide_true,decide_false,Nat.zero_ne_one,TP,Tc,NK,Zf,UN,Tb,LN,MI,FF,Mm,Sy,OW,Km,J7,EJ,iU,iV,iW,iX,iY,iZ,i7,pp,hJ,pq,pr,pu,ZcU,zo,pw,hM,px,py,pz,hO,pA,pB,pC,hU,hX,hY,gc,gf,gg,gj,gt,gu,gy,ZcV,ZcW,ZcX,ZcY,ZcZ,Zc0,gC,qo,Eg,Ar,xZ,tx,BU,Ih,G2,E5,E6,BW,cI,cJ,cL,cM,cN,cO,cP,cQ,cS,cT,cU,cX,cY,oI,oJ,cZ,ba,be,bf,bg,bh,bi,bj,bm,bn,bo,bp,bq,br,bt,bu,bz,bA,ZdW,ZdX,ZdY,ZdZ,Zd0,Zd1,bB]
 refine⟨_,_,rfl,rfl,i0,i2,i3,h.keep.trans (Zw.put λ_=>ZD.2 rfl) (λc hc _=>hc),r.setCells (YQ r.cells t [ZN (Gg (Vb bl t))]),⟨?_,own.elem,own.sz,own.own,own.fz,own.sm,?_,own.ro⟩⟩
 ·rw[U3,if_pos rfl]
  unfold Gg
  rw[hlen]
  rfl
 ·have:=own.cells.store1 (o:=t) (v:=ZN (Gg (Vb bl t))) (by simp;omega)
  have e:((Vb bl t++List.replicate (64 - t) 0).map ZN).set t (ZN (Gg (Vb bl t)))=(Vb bl (t+1)++List.replicate (64 - (t+1)) 0).map ZN:=by
   rw[YA,Sd _ _ (by rw[Zp];omega),Zp,hlen,Ti,show 64 - t=(64 - (t+1))+1 by omega,Wo,Zy,List.set_cons_zero]
   show _=((Vb bl t++[if t<16 then JS bl t 4 else Gg (Vb bl t)])++_).map ZN
   rw[if_neg (by omega),Xk,YA]
   rfl
  rw[e] at this
  exact this
theorem ZaR{bk o b b2:Nat}{cap:Option Nat}{bl:List UInt8}{H0:Heap}(c:Ctx)(x:X)(tm:TM)(H:Heap)(h:L1 bk o cap b b2 bl H0 64 tm H): ∃tm' H',LF c tm H x=.ok (.exit 0) tm' H' x∧L1 bk o cap b b2 bl H0 64 tm' H':=by
 have i11:=h.t11;have i0:=h.t0;have i2:=h.t2;have i3:=h.t3
 simp only[Sy,VF,Sk,UN] at i11 i0 i2 i3
 have d1:decide (64<64)=false:=rfl
 simp only[LF,i11,d1,Zv,Xy,Xw,XE,Yq,TT,Xb,SK,WT,WW,VU,TL,UT,N8.g00,N8.g11,N8.g44,Sy,OW,G2,]
 exact⟨_,_,rfl,i11,i0,i2,i3,h.keep,h.row⟩
theorem Zfo{n:Nat}(hl: ∀l H,lib 97 l H=none)(hl2: ∀l H,lib 74 l H=none)(hf:fs.get 97=some yR)(hf2:fs.get 74=some wg)
  {bk o b b2:Nat}{cap:Option Nat}{bl:List UInt8}{H0:Heap}{rb:Row}(hb:Bytes H0 bk o cap bl rb)(hbl:bl.length=64)(hne:bk≠b)(hbk:bk<H0.nx)(hbn:b<H0.nx){rng:AV->(List AV->Heap->CR)->TM->Heap->X->WC}{yld:Nat->List AV->Heap->CR}(hF:64<fuel)(x:X)(tm:TM)(H:Heap)
  (h:L1 bk o cap b b2 bl H0 0 tm H): ∃tm' H',XD (LF ⟨ZU lib fs fuel (n+2),yld,rng,fuel,false⟩) fuel tm H x=.ok (.exit 0) tm' H' x∧L1 bk o cap b b2 bl H0 64 tm' H':=
 Re (L1 bk o cap b b2 bl H0) (L1 bk o cap b b2 bl H0 64) 64 (λt tm H ht hi=>if h16:t<16 then Zfn hb hbl hne hbk _ (show 4<fuel by omega) x t tm H h16 hi else ZaQ hl hl2 hf hf2 hbn x t tm H (by omega) ht hi)
  (λtm H hi=>ZaR _ x tm H hi) 64 0 fuel tm H rfl hF h
theorem Zgs:ZN 0=nI .u32 0:=rfl
theorem dC(bl:List UInt8):(Vb bl 0++List.replicate (64 - 0) 0).map ZN=List.replicate 64 (nI .u32 0):=by
 rw[show Vb bl 0=[] from rfl,ZQ,List.map_replicate,Zgs]
attribute [local irreducible] Vb
def YY(bl:List UInt8):List UInt32:=Vb bl 64
theorem F1(bl:List UInt8):Vb bl 64=YY bl:=rfl
theorem Ka(bl:List UInt8):(YY bl).length=64:=Tw bl 64
attribute [local irreducible] YY
theorem Bytes.keep{H H':Heap}{bk o:Nat}{cap:Option Nat}{bl:List UInt8}{rb:Row}{S:List Nat}(h:Bytes H bk o cap bl rb)(k:Zw H H' S)(hlt:bk<H.nx)(hS:bk∉S):Bytes H' bk o cap bl rb:=
 ⟨(k.get bk hlt hS).trans h.at_,h.sz,h.fits,h.get,h.cap⟩
theorem lW{n:Nat}(hl: ∀l H,lib 97 l H=none)(hl2: ∀l H,lib 74 l H=none)(hl3: ∀l H,lib 73 l H=none)(hf:fs.get 97=some yR)(hf2:fs.get 74=some wg)(hf3:fs.get 73=some kP)(hF:64<fuel)
  {bk o:Nat}{cap:Option Nat}{bl:List UInt8}{H:Heap}{rb:Row}(hb:Bytes H bk o cap bl rb)(hbl:bl.length=64)(hbk:bk<H.nx)(hro:H.ro<=H.nx):
  ∃H',ZU lib fs fuel (n+3) 73 [.slice bk o 64 cap] H=.ret (.agg ((YY bl).map ZN)) H'∧Zw H H' []:=by
 rw[Z4 (hl3 _ _) hf3]
 simp only[kP,Jv,Rt,Xy,Xw,XE,Yq,Xb,W1,TL,W8,R5,MM,km,qo,Ih]
 generalize hL:XD (LF _) fuel _ _ _=L
 generalize ha:(H.new (.row ⟨80,1,64,.leaf,nI .u32 0,0,false,true,true⟩))=Ha at hL
 have nxa:Ha.nx=H.nx+1:=by rw[<-ha];rfl
 have ga:Ha.t.get H.nx=some (.row ⟨80,1,64,.leaf,nI .u32 0,0,false,true,true⟩):=by rw[<-ha,VL,if_pos rfl]
 have ka:Zw H Ha []:=by rw[<-ha];exact Zw.new H _ []
 generalize hb':(Ha.new (.row ⟨80,1,64,.leaf,nI .u32 0,0,false,true,true⟩))=Hb at hL
 have nxb:Hb.nx=H.nx+2:=by rw[<-hb',MM,nxa]
 have gb:Hb.t.get (H.nx+1)=some (.row ⟨80,1,64,.leaf,nI .u32 0,0,false,true,true⟩):=by rw[<-hb',VL,nxa,if_pos rfl]
 have nM:Hb.t.get H.nx=some (.row ⟨80,1,64,.leaf,nI .u32 0,0,false,true,true⟩):=by rw[<-hb',VL,nxa,if_neg (by omega),ga]
 have kab:Zw H Hb []:=by rw[<-hb'];exact ka.then_new _
 have Zm9:Own Hb (H.nx+1) 80 ((Vb bl 0++List.replicate (64 - 0) 0).map ZN) ⟨80,1,64,.leaf,nI .u32 0,0,false,true,true⟩:=by
  refine⟨gb,rfl,rfl,rfl,rfl,rfl,?_,by rw[kab.ro];omega⟩
  rw[dC]
  exact Cells.zero 80 64 (nI .u32 0) 0 false true true
 obtain⟨tC,H2,rfl,j⟩:=Tx (P:=λT=>L1 bk o cap (H.nx+1) H.nx bl Hb 0 T Hb) (Q:=L1 bk o cap (H.nx+1) H.nx bl Hb 64)
  (λT hi=>Zfo hl hl2 hf hf2 (hb.keep kab hbk (by simp)) hbl (by omega) (ZF hbk kab.nx) (by omega) hF _ T Hb hi) hL ⟨rfl,rfl,rfl,rfl,Zw.refl _ _,_,Zm9⟩
 obtain⟨r,own⟩:=j.row
 rw[F1,show 64 - 64=0 from rfl,Ui,Yn] at own
 have j2:=j.t2;have j3:=j.t3
 simp only[Sk,UN] at j2 j3
 have hlen:=Ka bl
 have ld:K2 64 (.ptr (H.nx+1) 0) H2=.val (.agg ((YY bl).map ZN)) H2:=by
  rw[NJ own.at_ own.cells (by simp;omega),Zz,Xq (by simp;omega)]
 have r2:H2.t.get H.nx=some (.row ⟨80,1,64,.leaf,nI .u32 0,0,false,true,true⟩):=by
  rw[j.keep.get H.nx (by omega) (by simp),nM]
 have hv:((YY bl).map ZN).length=64:=by rw[Zp];exact hlen
 have st:RB 64 (.ptr H.nx 0) (.agg ((YY bl).map ZN)) H2=.val YS (H2.put H.nx (.row (_))):=UH (v:=.agg ((YY bl).map ZN)) r2 (Cells.zero 80 64 (nI .u32 0) 0 false true true) rfl (by rw[j.keep.ro,kab.ro];exact hro) rfl (by omega) hv (by simp)
 simp only[j2,j3,ld,st,Tv,Yq,XE,Xy,NL,Tc,Xw,Sk,UN,Zc1,Zd2,Qa,Xb,Ni,QX,N8.g01,N8.g11,N8.g66,]
 have cl:=(Cells.zero 80 64 (nI .u32 0) 0 false true true).store (o:=0) (vs:=(YY bl).map ZN) (by rw[hv];simp)
 have e:(List.replicate 64 (nI .u32 0)).take 0++((YY bl).map ZN++(List.replicate 64 (nI .u32 0)).drop (0+((YY bl).map ZN).length))=(YY bl).map ZN:=by
  rw[ZJ,ZQ,hv,Sb (by simp),Yn]
 rw[e] at cl
 refine⟨_,Ms j2 (by rw[U3,if_pos rfl];rfl) cl hv,?_⟩
 refine(kab.trans j.keep (λc hc hlt=>?_)).then_put (λhlt=>absurd hlt (XT _))
 simp only[ZD] at hc;omega
end
section
attribute [local irreducible] YY
variable {lib:Nat->List AV->Heap->Option CR} {fs:T CF} {fuel:Nat}
theorem Own.store{H:Heap}{b e:Nat}{l:List AV}{r:Row}(own:Own H b e l r){o:Nat}{vs:List AV}(ho:o+vs.length<=l.length):
  Own (H.put b (.row (r.setCells (YQ r.cells o vs)))) b e (l.take o++(vs++l.drop (o+vs.length))) (r.setCells (YQ r.cells o vs)):=
 ⟨by rw[U3,if_pos rfl],own.elem,own.sz,own.own,own.fz,own.sm,own.cells.store ho,own.ro⟩
theorem vD{l:List UInt32}(h:l.length=8): ∃a0 a1 a2 a3 a4 a5 a6 a7,l=[a0,a1,a2,a3,a4,a5,a6,a7]:=by
 match l,h with
 |[a0,a1,a2,a3,a4,a5,a6,a7],_=>exact⟨a0,a1,a2,a3,a4,a5,a6,a7,rfl⟩
def t1F(v:List UInt32)(k w:UInt32):UInt32:=
 v.getD 7 0+(Jj (v.getD 4 0) 6^^^Jj (v.getD 4 0) 11^^^Jj (v.getD 4 0) 25)+(v.getD 4 0&&&v.getD 5 0^^^ ~~~(v.getD 4 0)&&&v.getD 6 0)+k+w
def t2F(v:List UInt32):UInt32:=
 (Jj (v.getD 0 0) 2^^^Jj (v.getD 0 0) 13^^^Jj (v.getD 0 0) 22)+(v.getD 0 0&&&v.getD 1 0^^^v.getD 0 0&&&v.getD 2 0^^^v.getD 1 0&&&v.getD 2 0)
def xU(v:List UInt32)(k w:UInt32):List UInt32:=
 [t1F v k w+t2F v,v.getD 0 0,v.getD 1 0,v.getD 2 0,v.getD 3 0+t1F v k w,v.getD 4 0,v.getD 5 0,v.getD 6 0]
def Y1(K W v:List UInt32):Nat->List UInt32
 |0=>v
 |t+1=>xU (Y1 K W v t) (K.getD t 0) (W.getD t 0)
theorem Jk(K W v:List UInt32)(h:v.length=8): ∀t,(Y1 K W v t).length=8
 |0=>h
 |_+1=>rfl
structure L3(sb bv bw:Nat)(K W v:List UInt32)(H0:Heap)(t:Nat)(tm:TM)(H:Heap):Prop where
 t18:Wd tm=nI .i64 t
 t0:Yu tm=.ptr sb 0
 t4:Xu tm=.ptr bv 0
 t5:YT tm=.ptr bw 0
 keep:Zw H0 H [bv]
 row: ∃r,Own H bv 82 ((Y1 K W v t).map ZN) r
theorem ZaT{n:Nat}(hl: ∀l H,lib 97 l H=none)(hl2: ∀l H,lib 74 l H=none)(hf:fs.get 97=some yR)(hf2:fs.get 74=some wg)
  {sb bv bw:Nat}{K W v:List UInt32}{H0:Heap}{rK rW:Row}(hv:v.length=8)(hK:H0.t.get 3=some (.row rK))(cK:Cells rK (K.map ZN))(nK:K.length=64)(hW:H0.t.get bw=some (.row rW))(cW:Cells rW (W.map ZN))(nW:W.length=64)
  (h7:3<bv)(hbv:bv<H0.nx)(hbw:bw<H0.nx)(hne:bw≠bv){rng:AV->(List AV->Heap->CR)->TM->Heap->X->WC}{yld:Nat->List AV->Heap->CR}(x:X)
  (t:Nat)(tm:TM)(H:Heap)(ht:t<64)(h:L3 sb bv bw K W v H0 t tm H): ∃tm' H',Is ⟨ZU lib fs fuel (n+2),yld,rng,fuel,false⟩ tm H x=.ok .normal tm' H' x∧L3 sb bv bw K W v H0 (t+1) tm' H':=by
 obtain⟨r,own⟩:=h.row
 have i18:=h.t18;have i0:=h.t0;have i4:=h.t4;have i5:=h.t5
 simp only[J8,VF,Tb,Ss] at i18 i0 i4 i5
 have d1:decide (t<64)=true:=Zd ht
 have lb:bv<H.nx:=ZF hbv h.keep.nx
 have lw:bw<H.nx:=ZF hbw h.keep.nx
 have hnext:Y1 K W v (t+1)=xU (Y1 K W v t) (K.getD t 0) (W.getD t 0):=rfl
 have hlen:=Jk K W v hv t
 generalize Y1 K W v t=vt at own hlen hnext
 obtain⟨a0,a1,a2,a3,a4,a5,a6,a7,rfl⟩:=vD hlen
 have ldv: ∀(H':Heap) (o:Nat),H'.t=H.t->o<8->T5 (.ptr bv o) H'=.val ((([a0,a1,a2,a3,a4,a5,a6,a7]:List UInt32).map ZN).getD o .unk) H':=λH' o he ho=>TN (by rw[he];exact own.at_) own.cells ho
 have lv0:=λH' he=>ldv H' 0 he (by omega);have lv1:=λH' he=>ldv H' 1 he (by omega);have lv2:=λH' he=>ldv H' 2 he (by omega)
 have lv4:=λH' he=>ldv H' 4 he (by omega);have lv5:=λH' he=>ldv H' 5 he (by omega);have lv6:=λH' he=>ldv H' 6 he (by omega);have lv7:=λH' he=>ldv H' 7 he (by omega)
 simp only[Zy,ZH,Zn,Zq] at lv0 lv1 lv2 lv4 lv5 lv6 lv7
 have ri: ∀(H':Heap),H'.t=H.t->T5 (.ptr bw t) H'=.val (ZN (W.getD t 0)) H':=λH' he=>by
  rw[TN (r:=rW) (by rw[he,h.keep.get bw hbw (by simpa using hne)];exact hW) cW (by simp;omega),Ze,ZZ,Ze,Zk (show t<W.length by omega)];rfl
 have lk1: ∀(H':Heap),H'.t=H.t->T5 (.ptr 3 t) H'=.val (ZN (K.getD t 0)) H':=λH' he=>by
  rw[TN (r:=rK) (by rw[he,h.keep.get 3 (Nat.lt_trans h7 hbv) (by simp;omega)];exact hK) cK (by simp;omega),Ze,ZZ,Ze,Zk (show t<K.length by omega)];rfl
 have tn:=λ(a:UInt32) (k:Nat) (h0:0<k) (h:k<32) (H:Heap)=>oO (n:=n) (fuel:=fuel) hl hl2 hf hf2 a k h0 h H
 have cp:qS 1 (.slice bv 1 7 (some 7)) (.slice bv 0 7 (some 8)) H=.val (nI .i64 7) (H.put bv (.row (r.setCells (YQ r.cells 1 [ZN a0,ZN a1,ZN a2,ZN a3,ZN a4,ZN a5,ZN a6])))):=
  jG own.at_ own.cells own.own own.ro own.fz (by simp) (by omega) own.at_ own.cells (by simp)
 have Pn:=own.store (o:=1) (vs:=[ZN a0,ZN a1,ZN a2,ZN a3,ZN a4,ZN a5,ZN a6]) (by simp)
 generalize hr1:r.setCells (YQ r.cells 1 [ZN a0,ZN a1,ZN a2,ZN a3,ZN a4,ZN a5,ZN a6])=r1 at Pn cp
 generalize hH1:H.put bv (.row r1)=H1 at Pn cp
 have ld3:T5 (.ptr bv 4) H1=.val (ZN a3) H1:=TN Pn.at_ Pn.cells (by simp)
 have st1: ∀z:UInt32,RB 1 (.ptr bv 4) (ZN z) H1=.val YS (H1.put bv (.row (r1.setCells (YQ r1.cells 4 [ZN z])))):=λz=>UH (v:=ZN z) Pn.at_ Pn.cells Pn.own Pn.ro Pn.fz (Zo _) rfl (by simp)
 have Bn:=λz:UInt32=>Pn.store (o:=4) (vs:=[ZN z]) (by simp)
 have st2: ∀z y:UInt32,RB 1 (.ptr bv 0) (ZN y) (H1.put bv (.row (r1.setCells (YQ r1.cells 4 [ZN z]))))=.val YS ((H1.put bv (.row (r1.setCells (YQ r1.cells 4 [ZN z])))).put bv (.row ((r1.setCells (YQ r1.cells 4 [ZN z])).setCells (YQ (r1.setCells (YQ r1.cells 4 [ZN z])).cells 0 [ZN y])))):=
  λz y=>UH (v:=ZN y) (Bn z).at_ (Bn z).cells (Bn z).own (Bn z).ro (Bn z).fz (Zo _) rfl (by simp)
 have Am:=λz y:UInt32=>(Bn z).store (o:=0) (vs:=[ZN y]) (by simp)
 have k1:Zw H0 H1 [bv]:=by rw[<-hH1];exact h.keep.then_put λ_=>ZD.2 rfl
 simp(maxSteps:=4000000) (disch:=first|omega|rfl) only[Is,i18,i4,i5,d1,Zv,lv0,lv1,lv2,lv4,lv5,lv6,lv7,ri,lk1,tn,cp,ld3,st1,st2,Wj lb,Wj lw,YU,UE,Mg,DL,qI,Zbp,IP,zB,XA,Rk,kh,kg,Xy,Xw,XE,Yq,Xb,WT,WW,TH,W1,V6,Ni,TL,PV,RS,W8,Ru,OB,zG,UT,Sv,N8.g00,N8.g01,N8.g02,N8.g03,N8.g04,N8.g05,N8.g06,N8.g07,N8.g10,N8.g11,N8.g12,N8.g13,N8.g14,N8.g15,N8.g16,N8.g17,N8.g20,N8.g21,N8.g22,N8.g23,N8.g24,N8.g25,N8.g26,N8.g27,N8.g30,N8.g31,N8.g32,N8.g33,N8.g34,N8.g35,N8.g36,N8.g40,N8.g41,N8.g42,N8.g43,N8.g44,N8.g45,N8.g46,N8.g47,N8.g50,N8.g51,N8.g52,N8.g53,N8.g54,N8.g55,N8.g56,N8.g57,N8.g60,N8.g61,N8.g62,N8.g63,N8.g64,N8.g65,N8.g66,N8.g67,N8.g70,N8.g71,N8.g72,N8.g73,N8.g74,N8.g75,N8.g76,N8.g77,LG,JI,LY,JG,Kc,Kd,JN,Jz,FV,Hz,AL,ul,JB,LP,JO,Ke,Gy,Pk,JC,LR,Dt,Gb,DE,GF,Zy,ZH,cond_true,cond_false,VK,Nat.reducePow,Nat.reduceDiv,Nat.reduceMod,decide_true,decide_false,Nat.zero_ne_one,TP,Tc,NK,Zf,Tb,Ss,NA,LN,MI,FF,Mm,J8,zm,pg,ph,CM,CN,HV,CO,zn,vm,pi,pj,pk,vp,pm,iP,iQ,iR,iS,iT,iU,iV,iW,iX,iY,iZ,i7,pp,hJ,pq,pr,pu,ZcU,zo,pw,hM,px,py,pz,hO,pA,pB,pC,hU,hX,hY,gc,gf,gg,gj,gt,gu,gy,ZcV,ZcW,ZcX,ZcY,ZcZ,Zc0,gC,Zc1,Zh1,Zh2,Zh3,Zh4,Zh5,Zh6,Zh7,Zh8,Zh9,Zia,Zib,Zic,Eg,Eh,BX,Ar,xZ,tx,BU,yp,tp,oA,oB,oC,oD,yq,yr,tq,tu,oE,oF,oG,tw,oH,cD,cE,cF,cG,cH,cI,cJ,cL,cM,cN,cO,cP,cQ,cS,cT,cU,cX,cY,oI,oJ,cZ,ba,be,bf,bg,bh,bi,bj,bm,bn,bo,bp,bq,br,bt,bu,bz,bA,ZdW,ZdX,ZdY,ZdZ,Zd0,Zd1,bB,Zd2,ZjF,ZjG,ZjH,ZjI,ZjJ,ZjK,ZjL,ZjM,ZjN,ZjO,ZjP,ZjQ,ZjR]
 refine⟨_,_,rfl,rfl,i0,i4,i5,(k1.then_put λ_=>ZD.2 rfl).then_put λ_=>ZD.2 rfl,?_⟩
 rw[hnext]
 exact⟨_,Am (a3+t1F [a0,a1,a2,a3,a4,a5,a6,a7] (K.getD t 0) (W.getD t 0)) (t1F [a0,a1,a2,a3,a4,a5,a6,a7] (K.getD t 0) (W.getD t 0)+t2F [a0,a1,a2,a3,a4,a5,a6,a7])⟩
end
section
attribute [local irreducible] YY
variable {lib:Nat->List AV->Heap->Option CR} {fs:T CF} {fuel:Nat}
theorem ZaS{sb bv bw:Nat}{K W v:List UInt32}{H0:Heap}(c:Ctx)(x:X)(tm:TM)(H:Heap)(h:L3 sb bv bw K W v H0 64 tm H): ∃tm' H',Is c tm H x=.ok (.exit 0) tm' H' x∧L3 sb bv bw K W v H0 64 tm' H':=by
 have i18:=h.t18;have i0:=h.t0;have i4:=h.t4;have i5:=h.t5
 simp only[J8,VF,Tb,Ss] at i18 i0 i4 i5
 have d1:decide (64<64)=false:=rfl
 simp only[Is,i18,d1,Zv,Xy,Xw,XE,Yq,TT,Xb,SK,WT,WW,VU,TL,UT,N8.g00,N8.g22,N8.g33,J8,zm,tp,]
 exact⟨_,_,rfl,i18,i0,i4,i5,h.keep,h.row⟩
theorem Zfp{n:Nat}(hl: ∀l H,lib 97 l H=none)(hl2: ∀l H,lib 74 l H=none)(hf:fs.get 97=some yR)(hf2:fs.get 74=some wg)
  {sb bv bw:Nat}{K W v:List UInt32}{H0:Heap}{rK rW:Row}(hv:v.length=8)(hK:H0.t.get 3=some (.row rK))(cK:Cells rK (K.map ZN))(nK:K.length=64)(hW:H0.t.get bw=some (.row rW))(cW:Cells rW (W.map ZN))(nW:W.length=64)
  (h7:3<bv)(hbv:bv<H0.nx)(hbw:bw<H0.nx)(hne:bw≠bv){rng:AV->(List AV->Heap->CR)->TM->Heap->X->WC}{yld:Nat->List AV->Heap->CR}(hF:64<fuel)(x:X)(tm:TM)(H:Heap)
  (h:L3 sb bv bw K W v H0 0 tm H): ∃tm' H',XD (Is ⟨ZU lib fs fuel (n+2),yld,rng,fuel,false⟩) fuel tm H x=.ok (.exit 0) tm' H' x∧L3 sb bv bw K W v H0 64 tm' H':=
 Re (L3 sb bv bw K W v H0) (L3 sb bv bw K W v H0 64) 64 (λt tm H ht hi=>ZaT hl hl2 hf hf2 hv hK cK nK hW cW nW h7 hbv hbw hne x t tm H ht hi) (λtm H hi=>ZaS _ x tm H hi) 64 0 fuel tm H rfl hF h
def NO(h v:List UInt32)(t:Nat):List UInt32:=(List.range 8).map λi=>if i<t then h.getD i 0+v.getD i 0 else h.getD i 0
structure L4(sb bv:Nat)(e:Nat)(h v:List UInt32)(rest:List AV)(H0:Heap)(t:Nat)(tm:TM)(H:Heap):Prop where
 t92:Kz tm=nI .i64 t
 t0:Yu tm=.ptr sb 0
 t4:Xu tm=.ptr bv 0
 keep:Zw H0 H [sb]
 row: ∃r,Own H sb e ((NO h v t).map ZN++rest) r
theorem IA(l:List UInt32)(i:Nat)(h:i<l.length):(l.map ZN).getD i .unk=ZN (l.getD i 0):=by
 rw[Ze,ZZ,Ze,Zk h];rfl
theorem Qj(h v:List UInt32)(t:Nat):(NO h v t).length=8:=by unfold NO;simp
theorem oS(h v:List UInt32)(t i:Nat)(hi:i<8):(NO h v t).getD i 0=if i<t then h.getD i 0+v.getD i 0 else h.getD i 0:=by
 unfold NO
 rw[Ze,ZZ,XL hi];rfl
theorem tK(h v:List UInt32)(t:Nat)(ht:t<8):(NO h v t).set t (h.getD t 0+v.getD t 0)=NO h v (t+1):=by
 refine WS λi=>?_
 by_cases hi:i<8
 ·rw[Ql]
  have e1:(NO h v (t+1))[i]? =some (if i<t+1 then h.getD i 0+v.getD i 0 else h.getD i 0):=by
   unfold NO;rw[ZZ,XL hi];rfl
  rw[e1]
  by_cases h1:t=i
  ·subst h1;rw[if_pos rfl,if_pos (by rw[Qj];exact ht),if_pos (by omega)]
  ·rw[if_neg h1]
   unfold NO;rw[ZZ,XL hi]
   show some (if i<t then _ else _)=_
   by_cases h2:i<t
   ·rw[if_pos h2,if_pos (by omega)]
   ·rw[if_neg h2,if_neg (by omega)]
 ·rw[YP (by rw[Um,Qj];omega),YP (by rw[Qj];omega)]
theorem ZaV{sb bv e:Nat}{h v:List UInt32}{rest:List AV}{H0:Heap}{rV:Row}(hV:H0.t.get bv=some (.row rV))(cV:Cells rV (v.map ZN))(nV:v.length=8)(hbv:bv<H0.nx)(hsb:sb<H0.nx)(hne:bv≠sb)
  (c:Ctx)(x:X)(t:Nat)(tm:TM)(H:Heap)(ht:t<8)(hi:L4 sb bv e h v rest H0 t tm H): ∃tm' H',It c tm H x=.ok .normal tm' H' x∧L4 sb bv e h v rest H0 (t+1) tm' H':=by
 obtain⟨r,own⟩:=hi.row
 have i92:=hi.t92;have i0:=hi.t0;have i4:=hi.t4
 simp only[pD,VF,Tb] at i92 i0 i4
 have d1:decide (t<8)=true:=Zd ht
 have lb:bv<H.nx:=ZF hbv hi.keep.nx
 have ls:sb<H.nx:=ZF hsb hi.keep.nx
 have ll:=Qj h v t
 have lds: ∀(H':Heap),H'.t=H.t->T5 (.ptr sb t) H'=.val (ZN (h.getD t 0)) H':=λH' he=>by
  rw[TN (r:=r) (by rw[he];exact own.at_) own.cells (by rw[ZE,Zp,ll];omega),Ze,Z1 (by rw[Zp,ll];omega),<-Ze,IA _ _ (by omega),oS _ _ _ _ ht,if_neg (XT _)]
 have ldv: ∀(H':Heap),H'.t=H.t->T5 (.ptr bv t) H'=.val (ZN (v.getD t 0)) H':=λH' he=>by
  rw[TN (r:=rV) (by rw[he,hi.keep.get bv hbv (by simpa using hne)];exact hV) cV (by simp;omega),IA _ _ (by omega)]
 have st: ∀z:UInt32,RB 1 (.ptr sb t) (ZN z) H=.val YS (H.put sb (.row (r.setCells (YQ r.cells t [ZN z])))):=λz=>UH (v:=ZN z) own.at_ own.cells own.own own.ro own.fz (Zo _) rfl (by rw[ZE,Zp,ll];omega)
 simp(maxSteps:=4000000) (disch:=first|omega|rfl) only[It,i92,i0,i4,d1,Zv,lds,ldv,st,Wj lb,Wj ls,YU,UE,Mg,Xy,Xw,XE,Yq,Xb,WT,WW,TH,W1,V6,Ni,TL,W8,Ru,UT,N8.g00,N8.g01,N8.g02,N8.g03,N8.g04,N8.g05,N8.g06,N8.g07,N8.g10,N8.g11,N8.g22,N8.g33,N8.g34,N8.g35,N8.g36,N8.g37,N8.g43,N8.g44,N8.g45,N8.g46,N8.g47,N8.g53,N8.g54,N8.g55,N8.g66,N8.g67,N8.g74,N8.g77,LG,JI,LY,JG,Kc,Kd,JN,Jz,FV,Hz,JB,LP,JO,Ke,Gy,Pk,JC,LR,Dt,Gb,DE,GF,Zy,ZH,cond_true,VK,Nat.reducePow,Nat.reduceDiv,Nat.reduceMod,decide_true,TP,Tc,O1,NK,O0,O2,OX,Zf,VF,Tb,Sy,pD,Zc2,Zid,Zie,Zif,Zig,Zih,Zii,ZeK,ZeL,ZeM,ZeN,ZeO,ZeP,ZeQ,ZeR,ZeS,Ef,Eg,Ih,Zd3,Zd4,ZjS,ZjT,ZjU,ZjV,ZjW,ZjX,Zgc,Zgd,Zge,Zgf,Zgg,Zgh,Zgi,Zgj,Zgk]
 refine⟨_,_,rfl,rfl,i0,i4,hi.keep.then_put λ_=>ZD.2 rfl,r.setCells (YQ r.cells t [ZN (h.getD t 0+v.getD t 0)]),⟨by rw[U3,if_pos rfl],own.elem,own.sz,own.own,own.fz,own.sm,?_,own.ro⟩⟩
 have:=own.cells.store1 (o:=t) (v:=ZN (h.getD t 0+v.getD t 0)) (by rw[ZE,Zp,ll];omega)
 rw[List.set_append_left _ _ (by rw[Zp,ll];omega),<-List.map_set,tK h v t ht] at this
 exact this
theorem ZaU{sb bv e:Nat}{h v:List UInt32}{rest:List AV}{H0:Heap}(c:Ctx)(x:X)(tm:TM)(H:Heap)(hi:L4 sb bv e h v rest H0 8 tm H): ∃tm' H',It c tm H x=.ok (.exit 2) tm' H' x∧L4 sb bv e h v rest H0 8 tm' H':=by
 have i92:=hi.t92;have i0:=hi.t0;have i4:=hi.t4
 simp only[pD,VF,Tb] at i92 i0 i4
 have d1:decide (8<8)=false:=rfl
 simp only[It,i92,d1,Zv,Xy,Xw,XE,Yq,TT,Xb,SK,WT,WW,VU,TL,UT,N8.g11,N8.g33,N8.g55,pD,Zc2,Zd4,]
 exact⟨_,_,rfl,i92,i0,i4,hi.keep,hi.row⟩
theorem Zfq{sb bv e:Nat}{h v:List UInt32}{rest:List AV}{H0:Heap}{rV:Row}(hV:H0.t.get bv=some (.row rV))(cV:Cells rV (v.map ZN))(nV:v.length=8)(hbv:bv<H0.nx)(hsb:sb<H0.nx)(hne:bv≠sb)
  (c:Ctx)(hF:8<c.fuel)(x:X)(tm:TM)(H:Heap)(hi:L4 sb bv e h v rest H0 0 tm H): ∃tm' H',XD (It c) c.fuel tm H x=.ok (.exit 2) tm' H' x∧L4 sb bv e h v rest H0 8 tm' H':=
 Re (L4 sb bv e h v rest H0) (L4 sb bv e h v rest H0 8) 8 (λt tm H ht hi=>ZaV hV cV nV hbv hsb hne c x t tm H ht hi) (λtm H hi=>ZaU c x tm H hi) 8 0 c.fuel tm H rfl hF hi
end
section
attribute [local irreducible] YY
variable {lib:Nat->List AV->Heap->Option CR} {fs:T CF} {fuel:Nat}
def NS(K h:List UInt32)(bl:List UInt8):List UInt32:=NO h (Y1 K (YY bl) h 64) 8
theorem Cells.whole{r:Row}{l vs:List AV}(h:Cells r l)(hl:vs.length=l.length):Cells (r.setCells (YQ r.cells 0 vs)) vs:=by
 have:=h.store (o:=0) (vs:=vs) (by omega)
 rw[ZJ,ZQ,Zf,Sb (by omega),Yn] at this
 exact this
theorem Zbq(e:Nat)(v:AV)(tm:TM)(H:Heap):WF e [v,v,v,v,v,v,v,v] tm H=.val (.ptr H.nx 0) (H.newRow e 1 [v,v,v,v,v,v,v,v] true):=rfl
theorem ah(h v:List UInt32)(hh:h.length=8):NO h v 0=h:=by
 obtain⟨a0,a1,a2,a3,a4,a5,a6,a7,rfl⟩:=vD hh
 rfl
theorem bJ{n:Nat}(hl: ∀l H,lib 97 l H=none)(hl2: ∀l H,lib 74 l H=none)(hl3: ∀l H,lib 73 l H=none)(hl4: ∀l H,lib 56 l H=none)(hf:fs.get 97=some yR)(hf2:fs.get 74=some wg)(hf3:fs.get 73=some kP)(tH:fs.get 56=some js)(hF:64<fuel)
  {sb bk o e:Nat}{cap:Option Nat}{bl:List UInt8}{H:Heap}{rb rK r:Row}{K h:List UInt32}{rest:List AV}(hK:H.t.get 3=some (.row rK))(cK:Cells rK (K.map ZN))(nK:K.length=64)(h7:3<H.nx)(h7s:3≠sb)
  (own:Own H sb e (h.map ZN++rest) r)(hh:h.length=8)(hsb:sb<H.nx)(hb:Bytes H bk o cap bl rb)(hbl:bl.length=64)(hbk:bk<H.nx)(hro:H.ro<=H.nx):
  ∃H',ZU lib fs fuel (n+4) 56 [.ptr sb 0,.slice bk o 64 cap] H=.ret (.tup []) H'∧Zw H H' [sb]∧ ∃r',Own H' sb e ((NS K h bl).map ZN++rest) r':=by
 rw[Z4 (hl4 _ _) tH]
 have ld:K2 8 (.ptr sb 0) H=.val (.agg (h.map ZN)) H:=by
  rw[NJ own.at_ own.cells (by rw[ZE,Zp];omega),Zz,List.take_left' (by rw[Zp];exact hh)]
 generalize ha:H.newRow 82 1 [nI .u32 0,nI .u32 0,nI .u32 0,nI .u32 0,nI .u32 0,nI .u32 0,nI .u32 0,nI .u32 0] true=Ha
 have nxa:Ha.nx=H.nx+1:=by rw[<-ha];rfl
 have ka:Zw H Ha []:=by rw[<-ha];exact Zw.new H _ []
 have ga:Ha.t.get H.nx=some (.row ⟨82,1,8,T.ofList [nI .u32 0,nI .u32 0,nI .u32 0,nI .u32 0,nI .u32 0,nI .u32 0,nI .u32 0,nI .u32 0],.unk,0,false,true,true⟩):=by
  rw[<-ha,TC,VL,if_pos rfl];rfl
 generalize hra:(⟨82,1,8,T.ofList [nI .u32 0,nI .u32 0,nI .u32 0,nI .u32 0,nI .u32 0,nI .u32 0,nI .u32 0,nI .u32 0],.unk,0,false,true,true⟩:Row)=ra at ga
 have ca:Cells ra [nI .u32 0,nI .u32 0,nI .u32 0,nI .u32 0,nI .u32 0,nI .u32 0,nI .u32 0,nI .u32 0]:=by
  rw[<-hra]
  have:=Cells.new 82 1 [nI .u32 0,nI .u32 0,nI .u32 0,nI .u32 0,nI .u32 0,nI .u32 0,nI .u32 0,nI .u32 0] 0 false true true
  exact this
 have oa:ra.own=true∧ra.fz=0∧ra.sm=false∧ra.elem=82∧ra.sz=1:=by rw[<-hra];exact⟨rfl,rfl,rfl,rfl,rfl⟩
 have roa:Ha.ro<=H.nx:=by rw[ka.ro];exact hro
 have nh:(h.map ZN).length=8:=by rw[Zp];exact hh
 have sta:RB 8 (.ptr H.nx 0) (.agg (h.map ZN)) Ha=.val YS (Ha.put H.nx (.row (ra.setCells (YQ ra.cells 0 (h.map ZN))))):=UH (v:=.agg (h.map ZN)) ga ca oa.1 roa oa.2.1 (by omega) nh (by simp)
 generalize hv':ra.setCells (YQ ra.cells 0 (h.map ZN))=rv at sta
 have cv:Cells rv (h.map ZN):=by rw[<-hv'];exact ca.whole (by rw[nh];rfl)
 have ov:rv.own=true∧rv.fz=0∧rv.sm=false∧rv.elem=82∧rv.sz=1:=by rw[<-hv'];exact oa
 generalize hbh:Ha.put H.nx (.row rv)=Hb at sta
 have nxb:Hb.nx=H.nx+1:=by rw[<-hbh];exact nxa
 have kb:Zw H Hb []:=by rw[<-hbh];exact ka.then_put λhlt=>absurd hlt (XT _)
 have gv:Hb.t.get H.nx=some (.row rv):=by rw[<-hbh,U3,if_pos rfl]
 obtain⟨Hc,ec,kc⟩:=lW (n:=n) (fuel:=fuel) hl hl2 hl3 hf hf2 hf3 hF (hb.keep kb hbk (by simp)) hbl (by omega) (by rw[kb.ro];omega)
 have kbc:Zw H Hc []:=kb.trans kc λc hc _=>hc
 have nxc:H.nx+1<=Hc.nx:=by have:=kc.nx;omega
 have gvc:Hc.t.get H.nx=some (.row rv):=by rw[kc.get H.nx (by omega) (by simp)];exact gv
 generalize hd:Hc.new (.row ⟨80,1,64,.leaf,nI .u32 0,0,false,true,true⟩)=Hd
 have nxd:Hd.nx=Hc.nx+1:=by rw[<-hd];rfl
 have kd:Zw H Hd []:=by rw[<-hd];exact kbc.then_new _
 have gd:Hd.t.get Hc.nx=some (.row ⟨80,1,64,.leaf,nI .u32 0,0,false,true,true⟩):=by rw[<-hd,VL,if_pos rfl]
 have gvd:Hd.t.get H.nx=some (.row rv):=by rw[<-hd,VL,if_neg (by omega)];exact gvc
 have nw:((YY bl).map ZN).length=64:=by rw[Zp];exact Ka bl
 have cd:=Cells.zero 80 64 (nI .u32 0) 0 false true true
 have std:RB 64 (.ptr Hc.nx 0) (.agg ((YY bl).map ZN)) Hd=.val YS (Hd.put Hc.nx (.row (Row.setCells ⟨80,1,64,.leaf,nI .u32 0,0,false,true,true⟩ (YQ .leaf 0 ((YY bl).map ZN))))):=
  UH (v:=.agg ((YY bl).map ZN)) gd cd rfl (by rw[kd.ro];omega) rfl (by omega) nw (by simp)
 have cw:Cells (Row.setCells ⟨80,1,64,.leaf,nI .u32 0,0,false,true,true⟩ (YQ .leaf 0 ((YY bl).map ZN))) ((YY bl).map ZN):=cd.whole (by rw[nw,Y5])
 generalize hrw:Row.setCells ⟨80,1,64,.leaf,nI .u32 0,0,false,true,true⟩ (YQ .leaf 0 ((YY bl).map ZN))=rw_ at std cw
 generalize he:Hd.put Hc.nx (.row rw_)=He at std
 have nxe:He.nx=Hc.nx+1:=by rw[<-he];exact nxd
 have ke:Zw H He []:=by rw[<-he];exact kd.then_put λhlt=>by omega
 have ge:He.t.get Hc.nx=some (.row rw_):=by rw[<-he,U3,if_pos rfl]
 have gve:He.t.get H.nx=some (.row rv):=by rw[<-he,U3,if_neg (by omega)];exact gvd
 simp only[js,Jw,ld,Zbq,ha,sta,ec,R5,hd,std,Rt,Xy,Xw,Rq,QW,XE,Yq,Xb,W1,Ni,TL,PV,RS,W8,Sv,N8.g00,N8.g01,N8.g02,N8.g10,N8.g11,N8.g14,N8.g20,N8.g21,N8.g22,N8.g44,N8.g55,N8.g66,N8.g77,NL,Tc,O1,O0,R5,O2,OX,Zf,VF,Ov,Tb,Ss,OW,Km,J7,EJ,EK,CL,Eg,Eh,G2,E5,E6,BW,yo,tk,yp,Ef,kl,VF,Ov]
 generalize hL:XD (Is _) fuel _ _ _=L
 have ownv:Own He H.nx 82 ((Y1 K (YY bl) h 0).map ZN) rv:=⟨gve,ov.2.2.2.1,ov.2.2.2.2,ov.1,ov.2.1,ov.2.2.1,cv,by rw[ke.ro];exact hro⟩
 obtain⟨tC,Hf,rfl,j⟩:=Tx (P:=λT=>L3 sb H.nx Hc.nx K (YY bl) h He 0 T He) (Q:=L3 sb H.nx Hc.nx K (YY bl) h He 64)
  (λT hi=>Zfp (n:=n+1) hl hl2 hf hf2 hh (by rw[ke.get 3 h7 (by simp)];exact hK) cK nK ge cw (Ka bl) h7 (by omega) (by omega) (by omega) hF _ T He hi) hL ⟨rfl,rfl,rfl,rfl,Zw.refl _ _,_,ownv⟩
 obtain⟨rv2,Bn⟩:=j.row
 have j0:=j.t0;have j4:=j.t4
 simp only[VF,Tb] at j0 j4
 simp only[Tv,Yq,XE,Xy,W8,Xw,TL,Xb,W1,Rt,Zd3]
 generalize hL2:XD (It _) fuel _ _ _=L2
 have kf:Zw H Hf []:=ke.trans j.keep λc hc hlt=>by simp only[ZD] at hc;omega
 have owns:Own Hf sb e ((NO h (Y1 K (YY bl) h 64) 0).map ZN++rest) r:=by
  rw[ah _ _ hh]
  exact⟨by rw[kf.get sb hsb (by simp)];exact own.at_,own.elem,own.sz,own.own,own.fz,own.sm,own.cells,by rw[kf.ro];exact own.ro⟩
 have nxf:He.nx<=Hf.nx:=j.keep.nx
 obtain⟨tm3,Hg,rfl,q⟩:=Tx (P:=λT=>L4 sb H.nx e h (Y1 K (YY bl) h 64) rest Hf 0 T Hf) (Q:=L4 sb H.nx e h (Y1 K (YY bl) h 64) rest Hf 8)
  (λT hi=>Zfq Bn.at_ Bn.cells (Jk K (YY bl) h hh 64) (by omega) (by omega) (by omega) _ (show 8<fuel by omega) _ T Hf hi) hL2 ⟨rfl,j0,j4,Zw.refl _ _,_,owns⟩
 simp only[Tv,EW,GB]
 exact⟨_,rfl,kf.trans' q.keep,q.row⟩
end
section
attribute [local irreducible] YY
variable {lib:Nat->List AV->Heap->Option CR} {fs:T CF} {fuel:Nat}
def BV(H:Heap)(v:AV)(l:List UInt8):Prop:=
 (l=[]∧(v=.nils∨ ∃b o c,v=.slice b o 0 c))∨(l≠[]∧ ∃b o c r,v=.slice b o l.length c∧Bytes H b o c l r∧b<H.nx)
theorem BV.len{H:Heap}{v:AV}{l:List UInt8}(h:BV H v l)(H':Heap):Oy v H'=.val (nI .i64 l.length) H':=by
 rcases h with⟨rfl,rfl|⟨b,o,c,rfl⟩⟩|⟨_,b,o,c,r,rfl,_⟩
 ·exact CZ H'
 ·exact Vz ..
 ·exact Vz ..
theorem Bytes.take{H:Heap}{b o n:Nat}{c:Option Nat}{l:List UInt8}{r:Row}(h:Bytes H b o c l r)(hn:n<=l.length):Bytes H b o (VJ c 0) (l.take n) r:=by
 have hl:(l.take n).length=n:=by rw[ZW,Wb hn]
 refine⟨h.at_,h.sz,by have:=h.fits;omega,λi hi=>?_,λk hk=>?_⟩
 ·rw[h.get i (by omega),Ze,Ze,XK (by omega)]
 ·cases c with
  |none=>cases hk
  |some c=>
   cases hk
   have:=h.cap c rfl
   show(l.take n).length<=c - 0∧o+(c - 0)<=r.size
   omega
theorem Bytes.drop{H:Heap}{b o n:Nat}{c:Option Nat}{l:List UInt8}{r:Row}(h:Bytes H b o c l r)(hn:n<=l.length):Bytes H b (o+n) (VJ c n) (l.drop n) r:=by
 have hl:(l.drop n).length=l.length - n:=Ya ..
 have hf:=h.fits
 refine⟨h.at_,h.sz,by omega,λi hi=>?_,λk hk=>?_⟩
 ·rw[UJ,h.get (n+i) (by omega),Ze,Ze,Xl]
 ·cases c with
  |none=>cases hk
  |some c=>
   cases hk
   have:=h.cap c rfl
   show(l.drop n).length<=c - n∧o+n+(c - n)<=r.size
   omega
theorem BV.keep{H H':Heap}{S:List Nat}{v:AV}{l:List UInt8}(h:BV H v l)(k:Zw H H' S)(hS: ∀b o n c,v=.slice b o n c->b∉S):BV H' v l:=by
 rcases h with h|⟨hne,b,o,c,r,rfl,hb,hlt⟩
 ·exact .inl h
 ·exact .inr ⟨hne,b,o,c,r,rfl,hb.keep k hlt (hS _ _ _ _ rfl),ZF hlt k.nx⟩
theorem Jn{H:Heap}{b o n:Nat}{c:Option Nat}{l:List UInt8}{r:Row}(h:Bytes H b o c l r)(hb:b<H.nx)(hn:n<=l.length)(k:IntKind):
  ∃v H',Pp 1 (.slice b o l.length c) (some (nI k n)) none H=.val v H'∧BV H' v (l.drop n)∧Zw H H' []∧ ∀b' o' m c',v=.slice b' o' m c'->b'=b∨H.nx<=b':=by
 have hcap:l.length<=VI r o c:=by
  cases c with
  |none=>
   show l.length<=cond (Nat.beq r.sz 1) (r.size - o) _
   rw[h.sz];have:=h.fits;show l.length<=r.size - o;omega
  |some k=>exact(h.cap k rfl).1
 have hs:Js r 1 c=true:=by
  cases c with
  |none=>show Nat.beq r.sz 1=true;rw[h.sz];rfl
  |some c=>rfl
 have e:Pp 1 (.slice b o l.length c) (some (nI k n)) none H=cond (Nat.beq n (VI r o c)) (Option.rec (.val (.slice H.nx 0 (l.length - n) none) ⟨Nat.succ H.nx,H.t,H.ro⟩) (λ_=>.val (.slice b o (l.length - n) (some 0)) H) c) (.val (.slice b (o+n) (l.length - n) (VJ c n)) H):=by
  show XB H b _=_
  unfold XB
  rw[h.at_]
  show ZP (Js r 1 c) (ZP (Nat.ble n l.length) (ZP (Nat.ble n (VI r o c)) (cond (Nat.beq n (VI r o c)) _ (.val (.slice b (o+n*1) (l.length - n) _) H))))=_
  rw[hs,Zl hn,Zl (ZX hn hcap),Xr]
  cases c<;>rfl
 rw[e,Yp]
 by_cases hq:n=VI r o c
 ·rw[Zd hq]
  have h0:l.length - n=0:=by omega
  cases c with
  |none=>
   refine⟨_,_,rfl,.inl ⟨Sb (by omega),.inr ⟨_,_,_,by rw[h0]⟩⟩,⟨Vj _,rfl,λ_ _ _=>rfl⟩,λb' o' m c' hv=>?_⟩
   cases hv;exact .inr (Zo _)
  |some c=>
   refine⟨_,_,rfl,.inl ⟨Sb (by omega),.inr ⟨_,_,_,by rw[h0]⟩⟩,Zw.refl _ _,λb' o' m c' hv=>?_⟩
   cases hv;exact .inl rfl
 ·rw[Zb hq]
  refine⟨_,_,rfl,?_,Zw.refl _ _,λb' o' m c' hv=>?_⟩
  ·have hl:(l.drop n).length=l.length - n:=Ya ..
   by_cases h0:l.drop n=[]
   ·exact .inl ⟨h0,.inr ⟨_,_,_,by rw[<-hl,h0];rfl⟩⟩
   ·exact .inr ⟨h0,_,_,_,r,by rw[hl],h.drop hn,hb⟩
  ·cases hv;exact .inl rfl
end
section
attribute [local irreducible] YY
variable {lib:Nat->List AV->Heap->Option CR} {fs:T CF} {fuel:Nat}
theorem Qv{H:Heap}{b o n:Nat}{c:Option Nat}{l:List UInt8}{r:Row}(h:Bytes H b o c l r)(h0:0<n)(hn:n<=l.length)(k:IntKind):
  Pp 1 (.slice b o l.length c) none (some (nI k n)) H=.val (.slice b o n (VJ c 0)) H:=by
 have hcap:l.length<=VI r o c:=by
  cases c with
  |none=>
   show l.length<=cond (Nat.beq r.sz 1) (r.size - o) _
   rw[h.sz];have:=h.fits;show l.length<=r.size - o;omega
  |some k=>exact(h.cap k rfl).1
 have hs:Js r 1 c=true:=by
  cases c with
  |none=>show Nat.beq r.sz 1=true;rw[h.sz];rfl
  |some c=>rfl
 show XB H b _=_
 unfold XB
 rw[h.at_]
 show ZP (Js r 1 c) (ZP (Nat.ble n (VI r o c)) (ZP (Nat.ble 0 n) (ZP (Nat.ble 0 (VI r o c)) (cond (Nat.beq 0 (VI r o c)) _ (.val (.slice b (o+0*1) (n - 0) _) H)))))=_
 rw[hs,Zl (ZX hn hcap),Zl (Ym _),Zl (Ym _),Yp,Zb (by omega),W4]
 cases c<;>rfl
def jw(P:Program)(a:AV)(args:List AV)(H:Heap):OR:=match a with
 |.func f p q=>.oth (.call f (p++(args++q)) H)
 |.meth n r=>Pb r .fail λu v=>JE P n u λg=>.oth (.call g (v::args) H)
 |.yield b=>.oth (.yield b args H)
 |_=>.fail
theorem mQ(x:Z2)(P:Program)(args:List Z2)(tm:TM)(H:Heap):OZ x P args tm H=jw P (x tm) (evs tm args) H:=rfl
theorem wG(P:Program)(f:Nat)(p q args:List AV)(H:Heap):jw P (.func f p q) args H=.oth (.call f (p++(args++q)) H):=rfl
def WR(K h:List UInt32)(l:List UInt8):Nat->List UInt32
 |0=>h
 |t+1=>NS K (WR K h l t) ((l.drop (64*t)).take 64)
theorem RQ(K h:List UInt32)(l:List UInt8)(hh:h.length=8): ∀t,(WR K h l t).length=8
 |0=>hh
 |_+1=>Qj ..
structure L5(sb e:Nat)(K h:List UInt32)(l:List UInt8)(rest:List AV)(H0:Heap)(t:Nat)(tm:TM)(H:Heap):Prop where
 t1:XR tm=.func 56 [.ptr sb 0] []
 t0:BV H (Yu tm) (l.drop (64*t))
 far: ∀b o n c,Yu tm=.slice b o n c->b≠sb
 keep:Zw H0 H [sb]
 row: ∃r,Own H sb e ((WR K h l t).map ZN++rest) r
theorem ZaX{n:Nat}(hl: ∀l H,lib 97 l H=none)(hl2: ∀l H,lib 74 l H=none)(hl3: ∀l H,lib 73 l H=none)(hl4: ∀l H,lib 56 l H=none)(hf:fs.get 97=some yR)(hf2:fs.get 74=some wg)(hf3:fs.get 73=some kP)(tH:fs.get 56=some js)(hF:64<fuel)
  {sb e:Nat}{K h:List UInt32}{l:List UInt8}{rest:List AV}{H0:Heap}{rK:Row}(hK:H0.t.get 3=some (.row rK))(cK:Cells rK (K.map ZN))(nK:K.length=64)(h7:3<H0.nx)(h7s:3≠sb)(hh:h.length=8)(hsb:sb<H0.nx)(hro:H0.ro<=H0.nx)
  {rng:AV->(List AV->Heap->CR)->TM->Heap->X->WC}{yld:Nat->List AV->Heap->CR}(x:X)
  (t:Nat)(tm:TM)(H:Heap)(ht:t<l.length/64)(hi:L5 sb e K h l rest H0 t tm H): ∃tm' H',Fq ⟨ZU lib fs fuel (n+4),yld,rng,fuel,false⟩ tm H x=.ok .normal tm' H' x∧L5 sb e K h l rest H0 (t+1) tm' H':=by
 obtain⟨r,own⟩:=hi.row
 have i1:=hi.t1;have i0:=hi.t0;have far:=hi.far
 simp only[Ov,VF] at i1 i0 far
 have hlen:64<=(l.drop (64*t)).length:=by rw[Ya];omega
 have hne:l.drop (64*t)≠[]:=λe=>by rw[e] at hlen;simp at hlen
 rcases i0 with⟨h0,_⟩|⟨_,b,o,c,rb,e0,hb,hlt⟩
 ·exact absurd h0 hne
 have hbs:=far _ _ _ _ e0
 have d1:decide (64<=(l.drop (64*t)).length)=true:=Zd hlen
 have lv: ∀H',Oy (.slice b o (l.drop (64*t)).length c) H'=.val (nI .i64 (l.drop (64*t)).length) H':=λH'=>Vz ..
 have sl:Pp 1 (.slice b o (l.drop (64*t)).length c) none (some (nI .i64 64)) H=.val (.slice b o 64 (VJ c 0)) H:=Qv hb (by omega) hlen _
 have gR:=RQ K h l hh t
 have nx0:=hi.keep.nx
 obtain⟨H1,e1,k1,r1,Pn⟩:=bJ (n:=n) (fuel:=fuel) hl hl2 hl3 hl4 hf hf2 hf3 tH hF (K:=K) (by rw[hi.keep.get 3 h7 (by simpa using h7s)];exact hK) cK nK (ZF h7 nx0) h7s own gR (ZF hsb nx0) (hb.take hlen)
  (by rw[ZW];omega) hlt (by rw[hi.keep.ro];omega)
 obtain⟨v2,H2,e2,bv2,k2,wR⟩:=Jn (n:=64) (hb.keep k1 hlt (by simpa using hbs)) (ZF hlt k1.nx) hlen .i64
 have app:([.ptr sb 0]:List AV)++([.slice b o 64 (VJ c 0)]++[])=[.ptr sb 0,.slice b o 64 (VJ c 0)]:=rfl
 simp only[Fq,i1,e0,lv,d1,Wh,LV,XA,Rk,sl,mQ,wG,app,e1,e2,Xy,Xw,Rq,QW,XE,Yq,Xb,WT,WW,TH,W1,V6,TL,PV,RS,W8,UT,N8.g00,N8.g01,N8.g05,N8.g06,N8.g07,N8.g10,N8.g11,N8.g15,N8.g16,N8.g17,N8.g22,N8.g23,N8.g24,N8.g33,N8.g44,N8.g55,N8.g66,N8.g77,Py,VF,Ov,Ss,NA,LN,MI,FF,Mm,Sy,OW,Ef,Eh,BX,Ar,xZ,tx,BU,Ih,G2,E5]
 refine⟨_,_,rfl,i1,?_,?_,?_,r1,?_⟩
 ·show BV H2 v2 (l.drop (64*(t+1)))
  rw[show 64*(t+1)=64*t+64 by omega,<-SG]
  exact bv2
 ·intro b' o' m c' hv
  have hv:v2=.slice b' o' m c':=hv
  rcases wR b' o' m c' hv with rfl|h3
  ·exact hbs
  ·have:=k1.nx;omega
 ·exact(hi.keep.trans k1 λc hc _=>hc).trans k2 λc hc _=>by simp at hc
 ·have hlt1:sb<H1.nx:=by have:=k1.nx;omega
  exact⟨by rw[k2.get sb hlt1 (by simp)];exact Pn.at_,Pn.elem,Pn.sz,Pn.own,Pn.fz,Pn.sm,Pn.cells,by rw[k2.ro];exact Pn.ro⟩
end
section
attribute [local irreducible] YY
variable {lib:Nat->List AV->Heap->Option CR} {fs:T CF} {fuel:Nat}
theorem ZaW{sb e:Nat}{K h:List UInt32}{l:List UInt8}{rest:List AV}{H0:Heap}(c:Ctx)(x:X)(tm:TM)(H:Heap)(hi:L5 sb e K h l rest H0 (l.length/64) tm H):
  ∃tm' H',Fq c tm H x=.ok (.exit 0) tm' H' x∧L5 sb e K h l rest H0 (l.length/64) tm' H':=by
 have i1:=hi.t1;have i0:=hi.t0;have far:=hi.far
 simp only[Ov,VF] at i1 i0 far
 have hlen:(l.drop (64*(l.length/64))).length<64:=by rw[Ya];omega
 have d1:decide (64<=(l.drop (64*(l.length/64))).length)=false:=Zb (by omega)
 have lv:=λH'=>i0.len H'
 simp only[Fq,lv,d1,Wh,Xy,Xw,XE,Yq,TT,Xb,SK,WT,WW,VU,TL,W8,UT,N8.g00,N8.g55,N8.g66,N8.g77,Py,VF,Ss,NA,LN,Eh,BX,Ar,]
 exact⟨_,_,rfl,i1,i0,far,hi.keep,hi.row⟩
theorem D2{n:Nat}(hl: ∀l H,lib 97 l H=none)(hl2: ∀l H,lib 74 l H=none)(hl3: ∀l H,lib 73 l H=none)(hl4: ∀l H,lib 56 l H=none)(hf:fs.get 97=some yR)(hf2:fs.get 74=some wg)(hf3:fs.get 73=some kP)(tH:fs.get 56=some js)(hF:64<fuel)(hl5: ∀l H,lib 55 l H=none)(kU:fs.get 55=some aP)
  {sb e:Nat}{K h:List UInt32}{l:List UInt8}{v:AV}{rest:List AV}{H:Heap}{rK r:Row}(hlF:l.length/64<fuel)(hK:H.t.get 3=some (.row rK))(cK:Cells rK (K.map ZN))(nK:K.length=64)(h7:3<H.nx)(h7s:3≠sb)(hh:h.length=8)(hsb:sb<H.nx)(hro:H.ro<=H.nx)
  (hv:BV H v l)(far: ∀b o n c,v=.slice b o n c->b≠sb)(own:Own H sb e (h.map ZN++rest) r):
  ∃v' H',ZU lib fs fuel (n+5) 55 [v,.func 56 [.ptr sb 0] []] H=.ret v' H'∧BV H' v' (l.drop (64*(l.length/64)))∧(∀b o n c,v'=.slice b o n c->b≠sb)∧Zw H H' [sb]∧ ∃r',Own H' sb e ((WR K h l (l.length/64)).map ZN++rest) r':=by
 rw[Z4 (hl5 _ _) kU]
 simp only[aP,Jw,Rt,Xy,Xw,XE,Yq,Xb,W1,TL,W8,Eg,Ef,kl,]
 generalize hL:XD (Fq _) fuel _ _ _=L
 obtain⟨tC,H2,rfl,j⟩:=Tx (P:=λT=>L5 sb e K h l rest H 0 T H) (Q:=L5 sb e K h l rest H (l.length/64))
  (λT hi=>Re (L5 sb e K h l rest H) (L5 sb e K h l rest H (l.length/64)) (l.length/64) (λt tm H' ht hi=>ZaX (n:=n) hl hl2 hl3 hl4 hf hf2 hf3 tH hF hK cK nK h7 h7s hh hsb hro _ t tm H' ht hi) (λtm H' hi=>ZaW _ _ tm H' hi) (l.length/64) 0 fuel T H (Zf _) hlF hi) hL
  ⟨rfl,hv,far,Zw.refl _ _,r,own⟩
 have j0:=j.t0;have f0:=j.far
 simp only[VF] at j0 f0
 simp only[Tv,Yq,XE,Xy,W8,Xw,VF,J7,E6,Eg,Tb,Xb,Qa,QX,PA,N8.g00,N8.g01,N8.g11,N8.g44,N8.g66,]
 exact⟨_,_,rfl,j0,f0,j.keep,j.row⟩
end
section
attribute [local irreducible] YY
variable {lib:Nat->List AV->Heap->Option CR} {fs:T CF} {fuel:Nat}
theorem wQ(b o:Nat)(H:Heap):Iz nA false (.ptr b o) .nilp H=.val (.bool false) H:=rfl
theorem mO(b:Bool)(H:Heap):fU (.bool b) H=.val (.bool (!b)) H:=by cases b<;>rfl
theorem ud(a b:AV)(H:Heap):Bp (.bool false) a b H=.val b H:=rfl
structure Lx(H:Heap)(sb:Nat)(h:List UInt32)(left:AV)(many:Nat)(r:Row):Prop extends Own H sb 113 (h.map ZN++[left,nI .u64 many,.bool true]) r where
 len:h.length=8
 low:sb<H.nx
theorem Lx.load{H H':Heap}{sb many i:Nat}{h:List UInt32}{left:AV}{r:Row}(s:Lx H sb h left many r)(he:H'.t=H.t)(hi:i<3):T5 (.ptr sb (8+i)) H'=.val (([left,nI .u64 many,.bool true]:List AV).getD i .unk) H':=by
 have hl:(h.map ZN).length=8:=by rw[Zp];exact s.len
 rw[TN (r:=r) (by rw[he];exact s.at_) s.cells (by rw[ZE,hl];simp;omega),Ze,Z5 (by omega),hl,Uv,<-Ze]
theorem vM{n:Nat}(hl: ∀l H,lib 54 l H=none)(hf:fs.get 54=some aO){H:Heap}{sb many:Nat}{h:List UInt32}{left:AV}{r:Row}(s:Lx H sb h left many r):
  ZU lib fs fuel (n+1) 54 [.ptr sb 0] H=.ret (.bool false) H:=by
 rw[Z4 (hl _ _) hf]
 have ld:T5 (.ptr sb 10) H=.val (.bool true) H:=s.load rfl (by omega:2<3)
 simp only[aO,Jv,wQ,uy,zq,ld,mO,ud,YJ,QX,PA,Xy,Xw,XE,Yq,Xb,Qa,TL,W8,Dv,vU,zD,N8.g00,N8.g01,N8.g02,N8.g03,N8.g04,N8.g05,N8.g10,N8.g11,N8.g22,N8.g33,N8.g44,N8.g55,N8.g56,N8.g57,N8.g66,N8.g77,TP,O1,O0,O2,OX,Zf,VF,Sk,UN,Tb,Ss,NA,LN,MI,FF,Mm,Sy,km,qo,Eg,Eh,BX,Ar,xZ,tx,BU,Ih,Ef,VF]
theorem yO(a0 a1 a2 a3 a4 a5 a6 a7:AV)(H:Heap):
  PT [(nI .u32 0),(nI .u32 0),(nI .u32 0),(nI .u32 0),(nI .u32 0),(nI .u32 0),(nI .u32 0),(nI .u32 0),.nils,(nI .u64 0),(.bool false)] [(0,8,.agg [a0,a1,a2,a3,a4,a5,a6,a7]),(10,1,.bool true)] H=.val (.agg [a0,a1,a2,a3,a4,a5,a6,a7,.nils,nI .u64 0,.bool true]) H:=rfl
def Zed(e:Nat)(a:AV)(H:Heap):OR:=ZP (Nat.ble 1 (YL a.cells))<|.val (.ptr H.nx 0) (H.newRow e 1 a.cells true)
theorem vQ(x:Z2)(e:Nat)(tm:TM)(H:Heap):Mc x e tm H=Zed e (x tm) H:=rfl
theorem jm(e:Nat)(a:AV)(l:List AV)(H:Heap):Zed e (.agg (a::l)) H=.val (.ptr H.nx 0) (H.newRow e 1 (a::l) true):=rfl
theorem zz{H:Heap}{h:List UInt32}{left:AV}{many:Nat}(hh:h.length=8)(hro:H.ro<=H.nx): ∃r,Lx (H.newRow 113 1 (h.map ZN++[left,nI .u64 many,.bool true]) true) H.nx h left many r:=
 ⟨_,⟨⟨by rw[TC,VL,if_pos rfl],rfl,rfl,rfl,rfl,rfl,Cells.new ..,hro⟩,hh,Yo _⟩⟩
theorem Zbk{n:Nat}(hl: ∀l H,lib 33 l H=none)(hf:fs.get 33=some c33){H:Heap}{h:List UInt32}{rB:Row}(hB:H.t.get 2=some (.row rB))(cB:Cells rB (h.map ZN))(hh:h.length=8):
  ZU lib fs fuel (n+1) 33 [] H=.ret (.ptr H.nx 0) (H.newRow 113 1 (h.map ZN++[.nils,nI .u64 0,.bool true]) true):=by
 rw[Z4 (hl _ _) hf]
 have nh:(h.map ZN).length=8:=by rw[Zp];exact hh
 have ld:K2 8 (.ptr 2 0) H=.val (.agg (h.map ZN)) H:=by
  rw[NJ hB cB (by omega),Zz,Xq (by omega)]
 obtain⟨a0,a1,a2,a3,a4,a5,a6,a7,rfl⟩:=vD hh
 simp only[Zy,ZH,Wq,ZQ] at ld ⊢
 simp only[c33,qK,ld,Vl,Zy,ZH,yO,vQ,jm,QX,PA,Xy,Xw,XE,Yq,Xb,Qa,TL,W8,N8.g00,N8.g11,N8.g22,N8.g33,NL,VF,Ov,Sk,UN,Ef,kl,km,qo,Ef,VF]
end
section
attribute [local irreducible] YY
variable {lib:Nat->List AV->Heap->Option CR} {fs:T CF} {fuel:Nat}
theorem BV.src{H:Heap}{v:AV}{l:List UInt8}(h:BV H v l):Src H v (l.map XP):=by
 rcases h with⟨rfl,rfl|⟨b,o,c,rfl⟩⟩|⟨_,b,o,c,r,rfl,hb,_⟩
 ·exact Src.nils H
 ·exact Src.none H b o c
 ·have:=Src.row (c:=c) (l:=l.map XP) hb.at_ (by rw[Zp];exact hb.fits) (λi hi=>by
   rw[Zp] at hi
   rw[hb.get i hi,Ze,Ze,ZZ,Zk hi];rfl)
  rw[Zp] at this
  exact this
theorem Cells.bytes{H:Heap}{b:Nat}{r:Row}{l:List UInt8}(hr:H.t.get b=some (.row r))(hs:r.sz=1)(hc:Cells r (l.map XP)):Bytes H b 0 none l r:=by
 have hz:=hc.size
 rw[Zp] at hz
 refine⟨hr,hs,by omega,λi hi=>?_,λc hc=>by cases hc⟩
 rw[Zf,hc.get i (by rw[Zp];exact hi),Ze,ZZ,Ze,Zk hi];rfl
theorem wK{H:Heap}{v:AV}{l:List UInt8}(h:BV H v l)(hl:l.length<=140737488355328)(hro:H.ro<=H.nx):
  ∃v' H',U0 5 1 1 .nils v H=.val v' H'∧BV H' v' l∧Zw H H' []∧(∀b o n c,v'=.slice b o n c->b=H.nx∧H.nx<H'.nx):=by
 rw[Pu (Zo 1) h.src]
 by_cases h0:l=[]
 ·subst h0
  exact⟨_,_,Au 5 1 H,.inl ⟨rfl,.inl rfl⟩,Zw.refl _ _,λb o n c e=>by cases e⟩
 ·have hp:0<(l.map XP).length:=by rw[Zp];exact Uz.2 h0
  have g:=KU (H:=H) (e:=5) (l:=l.map XP) hro
  refine⟨_,_,KK hp (by rw[Zp];exact hl),.inr ⟨h0,H.nx,0,none,_,by rw[Zp],g.cells.bytes g.at_ g.sz,Yo _⟩,Zw.new _ _ _,λb o n c e=>?_⟩
  cases e;exact⟨rfl,Yo _⟩
theorem zC(f:Nat)(a b:List Z2)(tm:TM)(H:Heap):Ib f a b tm H=.val (.func f (evs tm a) (evs tm b)) H:=rfl
theorem sP{n:Nat}(h:n<9223372036854775808)(H:Heap):Ga .u64 (nI .i64 n) H=.val (nI .u64 n) H:=by
 show TU .u64 (.ofNat n) H=_
 rw[Wy,Nc,Yx (by omega)];rfl
theorem uA{a b:Nat}(h:a+b<18446744073709551616)(H:Heap):DP (nI .u64 a) (nI .u64 b) H=.val (nI .u64 (a+b)) H:=by
 show ZP (Nl .u64 .u64) (TU .u64 (sK (.ofNat a) (.ofNat b)) H)=_
 rw[X3,Wy,CT,Nc,Yx h];rfl
theorem Lx.store{H:Heap}{sb many i:Nat}{h:List UInt32}{left:AV}{r:Row}(s:Lx H sb h left many r)(hi:i<3)(v:AV)(hv:v.cells=[v]):
  RB 1 (.ptr sb (8+i)) v H=.val YS (H.put sb (.row (r.setCells (YQ r.cells (8+i) [v])))):=by
 have hl:(h.map ZN).length=8:=by rw[Zp];exact s.len
 have:=UH (v:=v) (n:=1) (o:=8+i) s.at_ s.cells s.own s.ro s.fz (Zo _) (by rw[hv];rfl) (by rw[ZE,hl];simp;omega)
 rw[hv] at this
 exact this
theorem Lx.stored{H:Heap}{sb many i:Nat}{h:List UInt32}{left:AV}{r:Row}(s:Lx H sb h left many r)(hi:i<3)(v:AV):
  Own (H.put sb (.row (r.setCells (YQ r.cells (8+i) [v])))) sb 113 (h.map ZN++([left,nI .u64 many,.bool true]:List AV).set i v) (r.setCells (YQ r.cells (8+i) [v])):=by
 have hl:(h.map ZN).length=8:=by rw[Zp];exact s.len
 refine⟨by rw[U3,if_pos rfl],s.elem,s.sz,s.own,s.fz,s.sm,?_,s.ro⟩
 have:=s.cells.store1 (o:=8+i) (v:=v) (by rw[ZE,hl];simp;omega)
 rw[Sd _ _ (by omega),hl,Uv] at this
 exact this
theorem kM{n:Nat}(hl: ∀l H,lib 97 l H=none)(hl2: ∀l H,lib 74 l H=none)(hl3: ∀l H,lib 73 l H=none)(hl4: ∀l H,lib 56 l H=none)(hf:fs.get 97=some yR)(hf2:fs.get 74=some wg)(hf3:fs.get 73=some kP)(tH:fs.get 56=some js)(hF:64<fuel)(hl5: ∀l H,lib 55 l H=none)(kU:fs.get 55=some aP)(bZ: ∀l H,lib 54 l H=none)(bY:fs.get 54=some aO)(hl7: ∀l H,lib 34 l H=none)(hf7:fs.get 34=some c34)
  {sb many:Nat}{K h:List UInt32}{l:List UInt8}{v:AV}{H:Heap}{rK r:Row}(hlF:l.length/64<fuel)(hll:l.length<=140737488355328)(hmany:many+l.length<18446744073709551616)(hK:H.t.get 3=some (.row rK))(cK:Cells rK (K.map ZN))(nK:K.length=64)(h7:3<H.nx)(h7s:3≠sb)(hro:H.ro<=H.nx)
  (hv:BV H v l)(far: ∀b o n c,v=.slice b o n c->b≠sb)(s:Lx H sb h .nils many r):
  ∃left H' r',ZU lib fs fuel (n+6) 34 [.ptr sb 0,v] H=.ret (nI .i64 0) H'∧BV H' left (l.drop (64*(l.length/64)))∧(∀b o n c,left=.slice b o n c->H.nx<=b)∧Zw H H' [sb]∧Lx H' sb (WR K h l (l.length/64)) left (many+l.length) r':=by
 rw[Z4 (hl7 _ _) hf7]
 have en:=vM (fuel:=fuel) (n:=n+4) bZ bY s
 have ld9:T5 (.ptr sb 9) H=.val (nI .u64 many) H:=s.load rfl (by omega:1<3)
 have Uh:=s.store (i:=1) (by omega) (nI .u64 (many+l.length)) rfl
 have Pn:=s.stored (i:=1) (by omega) (nI .u64 (many+l.length))
 generalize hr1:r.setCells (YQ r.cells (8+1) [nI .u64 (many+l.length)])=r1 at Uh Pn
 generalize hH1:H.put sb (.row r1)=H1 at Uh Pn
 have k1:Zw H H1 [sb]:=by rw[<-hH1];exact Zw.put λ_=>ZD.2 rfl
 have Lb:H1.nx=H.nx:=by rw[<-hH1];rfl
 have s1:Lx H1 sb h .nils (many+l.length) r1:=⟨Pn,s.len,by rw[Lb];exact s.low⟩
 have ld8:T5 (.ptr sb 8) H1=.val .nils H1:=s1.load rfl (by omega:0<3)
 have hv1:BV H1 v l:=hv.keep k1 λb o n c e=>by simpa using far b o n c e
 obtain⟨v2,H2,e2,hv2,k2,wR⟩:=wK hv1 hll (by rw[k1.ro,Lb];exact hro)
 have Bn:Own H2 sb 113 (h.map ZN++[.nils,nI .u64 (many+l.length),.bool true]) r1:=⟨by rw[k2.get sb s1.low (by simp)];exact Pn.at_,Pn.elem,Pn.sz,Pn.own,Pn.fz,Pn.sm,Pn.cells,by rw[k2.ro];exact Pn.ro⟩
 have nx2:H.nx<=H2.nx:=by have:=k2.nx;omega
 have ZhP: ∀b o n c,v2=.slice b o n c->b≠sb:=λb o n c e=>by have:=(wR b o n c e).1;have:=s1.low;omega
 obtain⟨v3,H3,e3,hv3,nC,k3,r3,Am⟩:=D2 (n:=n) (fuel:=fuel) hl hl2 hl3 hl4 hf hf2 hf3 tH hF hl5 kU hlF (by rw[k2.get 3 (by omega) (by simp),k1.get 3 h7 (by simpa using h7s)];exact hK) cK nK (by omega) h7s s.len (by have:=s.low;omega) (by rw[k2.ro,k1.ro];omega) hv2 ZhP Bn
 have ZmA:(l.drop (64*(l.length/64))).length<=140737488355328:=by rw[Ya];omega
 have nx3:H.nx<=H3.nx:=by have:=k3.nx;omega
 obtain⟨v4,H4,e4,hv4,k4,ZhQ⟩:=wK hv3 ZmA (by rw[k3.ro,k2.ro,k1.ro];omega)
 have s4:Lx H4 sb (WR K h l (l.length/64)) .nils (many+l.length) r3:=⟨⟨by rw[k4.get sb (by have:=s.low;omega) (by simp)];exact Am.at_,Am.elem,Am.sz,Am.own,Am.fz,Am.sm,Am.cells,by rw[k4.ro];exact Am.ro⟩,RQ K h l s.len _,by have:=s.low;have:=k4.nx;omega⟩
 have hcell:v4.cells=[v4]:=by
  rcases hv4 with⟨_,rfl|⟨b,o,c,rfl⟩⟩|⟨_,b,o,c,r,rfl,_⟩<;>rfl
 have Vc:=s4.store (i:=0) (by omega) v4 hcell
 have rM:=s4.stored (i:=0) (by omega) v4
 simp(maxSteps:=4000000) (disch:=omega) only[c34,Jw,en,ld9,hv.len,sP,uA,Uh,ld8,Wn,e2,zC,e3,e4,Vc,Nat.reduceAdd,Xy,Xw,Rq,QW,XE,Yq,Xb,Qa,WT,WW,VU,Ni,TL,PV,RS,W8,Lc,Ru,Sv,N8.g00,N8.g01,N8.g02,N8.g03,N8.g04,N8.g05,N8.g06,N8.g07,N8.g10,N8.g11,N8.g12,N8.g14,N8.g16,N8.g17,N8.g20,N8.g21,N8.g22,N8.g23,N8.g30,N8.g31,N8.g32,N8.g33,N8.g34,N8.g35,N8.g36,N8.g44,N8.g55,N8.g56,N8.g57,N8.g66,N8.g77,TP,Tc,O1,O0,Py,O2,OX,Zf,VF,Ov,Ss,NA,LN,MI,FF,Mm,Sy,OW,Km,J7,EJ,EK,CL,J8,zm,pg,ph,CM,CN,HV,CO,zn,vm,pi,pj,pk,vp,Eg,Eh,BX,Ar,xZ,tx,BU,Ih,G2,E5,E6,BW,yo,tk,yp,tp,oA,oB,oC,oD,yq,yr,tq,tu,oE,oF,oG,tw,Ef,kl,VF,Ov]
 refine⟨v4,_,_,rfl,?_,λb o n c e=>?_,?_,rM,s4.len,?_⟩
 ·exact hv4.keep (Zw.put λ_=>ZD.2 rfl) λb o n c e=>by
   have:=(ZhQ b o n c e).1;have:=s4.low;simp only[ZD];have:=s.low;omega
 ·have:=(ZhQ b o n c e).1;omega
 ·exact(((k1.trans k2 λc hc _=>by simp at hc).trans k3 λc hc _=>hc).trans k4 λc hc _=>by simp at hc).then_put λ_=>ZD.2 rfl
 ·exact s4.low
end
section
attribute [local irreducible] YY
variable {lib:Nat->List AV->Heap->Option CR} {fs:T CF} {fuel:Nat}
def MB(H:Heap)(v:AV)(l:List UInt8)(lo:Nat):Prop:= ∃b r,v=.slice b 0 l.length none∧tJ H b 5 (l.map XP) r∧lo<=b
theorem Ei{H:Heap}{v:AV}{l:List UInt8}{lo:Nat}(h:MB H v l lo)(hl:l.length<140737488355328)(x:UInt8):
  ∃v' H',U0 5 1 1 v (.slice H.nx 0 1 none) (H.newRow 5 1 [XP x] true)=.val v' H'∧MB H' v' (l++[x]) lo∧H.nx<=H'.nx∧H'.ro=H.ro∧ ∀c,c<lo->c<H.nx->H'.t.get c=H.t.get c:=by
 obtain⟨b,r,rfl,g,hlo⟩:=h
 generalize hH1:H.newRow 5 1 [XP x] true=H1
 have Lb:H1.nx=H.nx+1:=by rw[<-hH1];rfl
 have k1:Zw H H1 []:=by rw[<-hH1];exact Zw.new H _ []
 have gx:H1.t.get H.nx=some (.row ⟨5,1,1,T.ofList [XP x],.unk,0,false,true,true⟩):=by rw[<-hH1,TC,VL,if_pos rfl];rfl
 have src:Src H1 (.slice H.nx 0 1 none) [XP x]:=Src.row (l:=[XP x]) gx (Zo _) (λi hi=>by
  have:i=0:=by simp at hi;exact hi
  subst this
  rfl)
 have g1:tJ H1 b 5 (l.map XP) r:=⟨⟨by rw[k1.get b g.low (by simp)];exact g.at_,g.elem,g.sz,g.own,g.fz,g.sm,g.cells,by rw[k1.ro];exact g.ro⟩,g.exact_,by have:=g.low;omega⟩
 obtain⟨H',r',e,g',k',nx'⟩:=Fe (m:=[XP x]) g1 (by simp) (by rw[Zp];simp;omega)
 rw[Pu (Zo 1) src]
 rw[Zp] at e
 refine⟨_,H',e,⟨H1.nx,r',by rw[ZE];rfl,by rw[YA];exact g',by have:=g.low;omega⟩,by omega,by rw[k'.ro,k1.ro],λc hc hn=>?_⟩
 rw[k'.get c (by omega) (by simp;omega),k1.get c hn (by simp)]
theorem qr{H:Heap}{v:AV}{l:List UInt8}(h:BV H v l)(hl:l.length<140737488355328)(hro:H.ro<=H.nx)(x:UInt8):
  ∃v1 H1 v' H',U0 5 1 1 .nils v H=.val v1 H1∧U0 5 1 1 v1 (.slice H1.nx 0 1 none) (H1.newRow 5 1 [XP x] true)=.val v' H'∧MB H' v' (l++[x]) H.nx∧Zw H H' []:=by
 rw[Pu (Zo 1) h.src]
 by_cases h0:l=[]
 ·subst h0
  generalize hH1:H.newRow 5 1 [XP x] true=H1
  have Lb:H1.nx=H.nx+1:=by rw[<-hH1];rfl
  have k1:Zw H H1 []:=by rw[<-hH1];exact Zw.new H _ []
  have gx:H1.t.get H.nx=some (.row ⟨5,1,1,T.ofList [XP x],.unk,0,false,true,true⟩):=by rw[<-hH1,TC,VL,if_pos rfl];rfl
  have src:Src H1 (.slice H.nx 0 1 none) [XP x]:=Src.row (l:=[XP x]) gx (Zo _) (λi hi=>by
   have:i=0:=by simp at hi;exact hi
   subst this
   rfl)
  have g:=KU (H:=H1) (e:=5) (l:=[XP x]) (by rw[k1.ro];omega)
  refine⟨_,_,_,_,Au 5 1 H,(by rw[hH1,Pu (Zo 1) src];exact KK (l:=[XP x]) (by simp) (by simp)),⟨_,_,rfl,g,by omega⟩,k1.then_new _⟩
 ·have hp:0<(l.map XP).length:=by rw[Zp];exact Uz.2 h0
  have g:=KU (H:=H) (e:=5) (l:=l.map XP) hro
  have e0:=KK (e:=5) (H:=H) hp (by rw[Zp];omega)
  obtain⟨v',H',e,tl,nx,ro,k⟩:=Ei (v:=.slice H.nx 0 (l.map XP).length none) (lo:=H.nx) ⟨H.nx,_,by rw[Zp],g,Zo _⟩ hl x
  exact⟨_,_,v',H',e0,e,tl,ZX (Vj _) nx,ro,λc hc hn=>(k c hc (Nat.lt_succ_of_lt hc)).trans ((Zw.new H _ []).get c hc hn)⟩
end
section
attribute [local irreducible] YY
variable {lib:Nat->List AV->Heap->Option CR} {fs:T CF} {fuel:Nat}
structure L6(sb b2 b3 cb:Nat)(l:List UInt8)(H0:Heap)(t:Nat)(tm:TM)(H:Heap):Prop where
 t0:Yu tm=.ptr sb 0
 t2:Vt tm=.ptr b2 0
 t3:Xx tm=.ptr b3 0
 t4:Xu tm=.ptr cb 0
 t5:MB H (YT tm) (l++List.replicate t 0) H0.nx
 keep:Zw H0 H []
theorem MB.len{H:Heap}{v:AV}{l:List UInt8}{lo:Nat}(h:MB H v l lo)(H':Heap):Oy v H'=.val (nI .i64 l.length) H':=by
 obtain⟨b,r,rfl,_⟩:=h;exact Vz ..
theorem zw{H0 H H':Heap}(k:Zw H0 H [])(nx:H.nx<=H'.nx)(ro:H'.ro=H.ro)(h: ∀c,c<H0.nx->c<H.nx->H'.t.get c=H.t.get c):Zw H0 H' []:=
 ⟨ZX k.nx nx,ro.trans k.ro,λc hc _=>(h c hc (ZF hc k.nx)).trans (k.get c hc (by simp))⟩
theorem ZaZ{sb b2 b3 cb:Nat}{l:List UInt8}{H0:Heap}{N:Nat}(hN: ∀t,t<N->(l.length+t) % 64≠56)(hl:l.length+N<140737488355328)(c:Ctx)(x:X)(t:Nat)(tm:TM)(H:Heap)(ht:t<N)(h:L6 sb b2 b3 cb l H0 t tm H):
  ∃tm' H',Fk c tm H x=.ok .normal tm' H' x∧L6 sb b2 b3 cb l H0 (t+1) tm' H':=by
 have i0:=h.t0;have i2:=h.t2;have i3:=h.t3;have i4:=h.t4;have i5:=h.t5
 simp only[VF,Sk,UN,Tb,Ss] at i0 i2 i3 i4 i5
 have hlen:(l++List.replicate t (0:UInt8)).length=l.length+t:=by simp
 have d1:decide ((l++List.replicate t (0:UInt8)).length % 64≠56)=true:=Zd (by rw[hlen];exact hN t ht)
 obtain⟨v',H',e,tl,nx,ro,k⟩:=Ei i5 (by rw[hlen];omega) 0
 have bs:S9 5 1 1 [nI .u8 0] [(0,1,nI .u8 0)] H=.val (.slice H.nx 0 1 none) (H.newRow 5 1 [XP 0] true):=Sg 5 (nI .u8 0) (nI .u8 0) rfl H
 simp(maxSteps:=4000000) (disch:=omega) only[Fk,i5.len,rZ,VQ,d1,Z9,Zy,ZH,bs,Wn,e,Xy,Xw,XE,Yq,Xb,WT,WW,TH,W1,V6,TL,W8,Gl,Dv,N8.g00,N8.g03,N8.g11,N8.g22,N8.g33,N8.g44,N8.g45,N8.g55,N8.g66,Py,Ss,HV,CO,zn,vm,pi,pj,pk,Eh,yq,yr,tq,tu,oE,oF,oG]
 refine⟨_,_,rfl,i0,i2,i3,i4,?_,zw h.keep nx ro k⟩
 have e2:l++List.replicate (t+1) (0:UInt8)=(l++List.replicate t 0)++[0]:=by rw[List.replicate_succ',Xk]
 rw[e2]
 exact tl
theorem ZaY{sb b2 b3 cb:Nat}{l:List UInt8}{H0:Heap}{N:Nat}(hN:(l.length+N) % 64=56)(c:Ctx)(x:X)(tm:TM)(H:Heap)(h:L6 sb b2 b3 cb l H0 N tm H):
  ∃tm' H',Fk c tm H x=.ok (.exit 0) tm' H' x∧L6 sb b2 b3 cb l H0 N tm' H':=by
 have i0:=h.t0;have i2:=h.t2;have i3:=h.t3;have i4:=h.t4;have i5:=h.t5
 simp only[VF,Sk,UN,Tb,Ss] at i0 i2 i3 i4 i5
 have hlen:(l++List.replicate N (0:UInt8)).length=l.length+N:=by simp
 have d1:decide ((l++List.replicate N (0:UInt8)).length % 64≠56)=false:=Zb (by rw[hlen];exact λh=>h hN)
 simp(maxSteps:=4000000) (disch:=omega) only[Fk,i5.len,rZ,VQ,d1,Xy,Xw,XE,Yq,TT,Xb,SK,WT,WW,VU,TL,W8,Gl,Dv,N8.g00,N8.g11,N8.g22,N8.g33,Py,Ss,HV,CO,zn,vm,yq,yr,tq,tu,]
 exact⟨_,_,rfl,i0,i2,i3,i4,i5,h.keep⟩
end
section
attribute [local irreducible] YY
variable {lib:Nat->List AV->Heap->Option CR} {fs:T CF} {fuel:Nat}
def g9(t:Nat):AV:=if t<8 then nI .i64 (7 - t) else .int .i64 (.negSucc 0)
def LQ(many t:Nat):UInt8:=UInt8.ofNat ((many*8 % 18446744073709551616)/2^(8*(7 - t)))
def Vk(many t:Nat):List UInt8:=(List.range t).map (LQ many)
theorem Ak(many t:Nat):Vk many (t+1)=Vk many t++[LQ many t]:=by
 unfold Vk;rw[List.range_succ,YA];rfl
theorem qd(a:Nat)(H:Heap):dF (nI .u64 a) (nI .u64 3) H=.val (nI .u64 (a*8 % 18446744073709551616)) H:=by
 show TU .u64 (Ai (.ofNat a) (.ofNat 8)) H=_
 rw[Wy,HZ,Nc];rfl
theorem dI(a:Nat){n:Nat}(h:n<64)(H:Heap):l4 (nI .u64 a) (nI .i64 n) H=.val (nI .u64 (a/2^n)) H:=by
 show Nj (.ofNat (Nat.div a (Nat.pow 2 (K5 n 64)))) (λn=>OR.val (.int .u64 n) H)=_
 rw[Oo]
 have:K5 n 64=n:=by unfold K5;rw[Zl (by omega)];rfl
 rw[this];rfl
theorem vz(a:Nat)(H:Heap):Ga .u8 (nI .u64 a) H=.val (XP (UInt8.ofNat a)) H:=by
 show TU .u8 (.ofNat a) H=_
 rw[Wy,DK]
 unfold XP
 rw[S8]
structure L7(sb b2 b3 cb many:Nat)(l:List UInt8)(H0:Heap)(t:Nat)(tm:TM)(H:Heap):Prop where
 t0:Yu tm=.ptr sb 0
 t2:Vt tm=.ptr b2 0
 t3:Xx tm=.ptr b3 0
 t4:Xu tm=.ptr cb 0
 t5:MB H (YT tm) (l++Vk many t) H0.nx
 t6:Wm tm=g9 t
 keep:Zw H0 H []
theorem Za1{sb b2 b3 cb many:Nat}{l:List UInt8}{H0:Heap}{h:List UInt32}{left:AV}{r:Row}(s:Lx H0 sb h left many r)(hl:l.length+8<140737488355328)(c:Ctx)(x:X)(t:Nat)(tm:TM)(H:Heap)(ht:t<8)(hi:L7 sb b2 b3 cb many l H0 t tm H):
  ∃tm' H',Fl c tm H x=.ok .normal tm' H' x∧L7 sb b2 b3 cb many l H0 (t+1) tm' H':=by
 have i0:=hi.t0;have i2:=hi.t2;have i3:=hi.t3;have i4:=hi.t4;have i5:=hi.t5;have i6:=hi.t6
 rw[show g9 t=nI .i64 (7 - t) from if_pos ht] at i6
 simp only[VF,Sk,UN,Tb,Ss,NA] at i0 i2 i3 i4 i5 i6
 have d1:decide (0<=7 - t)=true:=Zd (Ym _)
 have s1:Lx H sb h left many r:=⟨⟨by rw[hi.keep.get sb s.low (by simp)];exact s.at_,s.elem,s.sz,s.own,s.fz,s.sm,s.cells,by rw[hi.keep.ro];exact s.ro⟩,s.len,ZF s.low hi.keep.nx⟩
 have ld:T5 (.ptr sb 9) H=.val (nI .u64 many) H:=s1.load rfl (by omega:1<3)
 have hlen:(l++Vk many t).length=l.length+t:=by simp[Vk]
 obtain⟨v',H',e,tl,nx,ro,k⟩:=Ei i5 (by rw[hlen];omega) (LQ many t)
 have bs:S9 5 1 1 [nI .u8 0] [(0,1,XP (LQ many t))] H=.val (.slice H.nx 0 1 none) (H.newRow 5 1 [XP (LQ many t)] true):=Sg 5 (nI .u8 0) _ rfl H
 have dec: ∀H',Di (nI .i64 (7 - t)) (nI .i64 1) H'=.val (g9 (t+1)) H':=λH'=>by
  by_cases h7:t=7
  ·subst h7
   show TU .i64 (IK (.ofNat 0) (.ofNat 1)) H'=_
   rw[Wy];rfl
  ·rw[Vp (by omega) (by omega),show g9 (t+1)=nI .i64 (7 - (t+1)) from if_pos (by omega),show 7 - t - 1=7 - (t+1) by omega]
 have lb: ∀H',Ga .u8 (nI .u64 (many*8 % 18446744073709551616/2^(8*(7 - t)))) H'=.val (XP (LQ many t)) H':=λH'=>vz _ H'
 simp(maxSteps:=4000000) (disch:=omega) only[Fl,i0,i6,Wh,d1,ld,qd,FN,dI,lb,Z9,Zy,ZH,bs,Wn,e,dec,Xy,Xw,XE,Yq,Xb,WT,WW,TH,W1,V6,TL,W8,Lc,Jb,Gj,Gm,Ja,UT,N8.g00,N8.g01,N8.g02,N8.g03,N8.g04,N8.g05,N8.g11,N8.g22,N8.g33,N8.g34,N8.g35,N8.g36,N8.g37,N8.g40,N8.g43,N8.g44,N8.g45,N8.g53,N8.g54,N8.g55,N8.g65,N8.g66,N8.g77,TP,O1,O0,O2,OX,Zf,VF,Ss,NA,vp,pm,iP,iQ,iR,iS,iT,iU,iV,iW,iX,iY,iZ,i7,pp,hJ,Eh,BX,tw,oH,cD,cE,cF,cG,cH,cI,cJ,cL,cM,cN,cO,cP,cQ,cS]
 refine⟨_,_,rfl,i0,i2,i3,i4,?_,rfl,zw hi.keep nx ro k⟩
 rw[Ak,<-Xk]
 exact tl
theorem Za0{sb b2 b3 cb many:Nat}{l:List UInt8}{H0:Heap}(c:Ctx)(x:X)(tm:TM)(H:Heap)(hi:L7 sb b2 b3 cb many l H0 8 tm H):
  ∃tm' H',Fl c tm H x=.ok (.exit 2) tm' H' x∧L7 sb b2 b3 cb many l H0 8 tm' H':=by
 have i0:=hi.t0;have i2:=hi.t2;have i3:=hi.t3;have i4:=hi.t4;have i5:=hi.t5;have i6:=hi.t6
 rw[show g9 8=.int .i64 (.negSucc 0) from rfl] at i6
 simp only[VF,Sk,UN,Tb,Ss,NA] at i0 i2 i3 i4 i5 i6
 have d1: ∀H',OM SA Wx (.int .i64 (.negSucc 0)) (nI .i64 0) H'=.val (.bool false) H':=λH'=>rfl
 simp(maxSteps:=4000000) (disch:=omega) only[Fl,i6,d1,Xy,Xw,XE,Yq,TT,Xb,SK,WT,WW,VU,TL,W8,UT,N8.g00,N8.g33,N8.g43,N8.g44,N8.g77,NA,vp,pm,tw,oH,]
 exact⟨_,_,rfl,i0,i2,i3,i4,i5,i6,hi.keep⟩
end
section
attribute [local irreducible] YY
variable {lib:Nat->List AV->Heap->Option CR} {fs:T CF} {fuel:Nat}
def Ht(h:List UInt32)(i:Nat):UInt8:=((h.getD (i/4) 0)>>>UInt32.ofNat (24 - 8*(i % 4))).toUInt8
def Qd(h:List UInt32)(t:Nat):List UInt8:=(List.range t).map (Ht h)
theorem nu(h:List UInt32)(t:Nat):Qd h (t+1)=Qd h t++[Ht h t]:=by
 unfold Qd;rw[List.range_succ,YA];rfl
theorem Pv(h:List UInt32)(t:Nat):(Qd h t).length=t:=by unfold Qd;simp
theorem dH(a:UInt32){n:Nat}(h:n<32)(k:IntKind)(H:Heap):l4 (ZN a) (nI k n) H=.val (ZN (a>>>UInt32.ofNat n)) H:=GJ a h H
theorem sO(a:UInt32)(H:Heap):Ga .u8 (ZN a) H=.val (XP a.toUInt8) H:=by
 show TU .u8 (.ofNat a.toNat) H=_
 rw[Wy,DK]
 unfold XP
 rw[UInt32.toNat_toUInt8]
structure L8(b2 b3 cb:Nat)(h:List UInt32)(H0:Heap)(t:Nat)(tm:TM)(H:Heap):Prop where
 t2:Vt tm=.ptr b2 0
 t3:Xx tm=.ptr b3 0
 t4:Xu tm=.ptr cb 0
 t51:Sr tm=nI .i64 t
 keep:Zw H0 H [b3]
 row: ∃r,Own H b3 55 ((Qd h t++List.replicate (32 - t) 0).map XP) r
theorem Za3{b2 b3 cb many:Nat}{H0:Heap}{h:List UInt32}{left:AV}{rc:Row}(s:Lx H0 cb h left many rc)(hne:cb≠b3)(c:Ctx)(x:X)(t:Nat)(tm:TM)(H:Heap)(ht:t<32)(hi:L8 b2 b3 cb h H0 t tm H):
  ∃tm' H',Fm c tm H x=.ok .normal tm' H' x∧L8 b2 b3 cb h H0 (t+1) tm' H':=by
 obtain⟨r,own⟩:=hi.row
 have i2:=hi.t2;have i3:=hi.t3;have i4:=hi.t4;have i51:=hi.t51
 simp only[Sk,UN,Tb,zo] at i2 i3 i4 i51
 have d1:decide (t<32)=true:=Zd ht
 have hl:=Pv h t
 have ld:T5 (.ptr cb (t/4)) H=.val (ZN (h.getD (t/4) 0)) H:=by
  have h8:t/4<(h.map ZN).length:=by rw[Zp,s.len];omega
  rw[TN (r:=rc) (by rw[hi.keep.get cb s.low (by simpa using hne)];exact s.at_) s.cells (by rw[ZE];omega),Ze,Z1 h8,<-Ze,IA _ _ (by rw[s.len];omega)]
 have st:RB 1 (.ptr b3 t) (XP (Ht h t)) H=.val YS (H.put b3 (.row (r.setCells (YQ r.cells t [XP (Ht h t)])))):=UH (v:=XP (Ht h t)) own.at_ own.cells own.own own.ro own.fz (Zo _) rfl (by simp;omega)
 have lb: ∀H',Ga .u8 (ZN ((h.getD (t/4) 0)>>>UInt32.ofNat (24 - 8*(t % 4)))) H'=.val (XP (Ht h t)) H':=λH'=>sO _ H'
 simp(maxSteps:=4000000) (disch:=omega) only[Fm,i3,i4,i51,Zv,d1,Zf1,rZ,FN,Vp,YU,UE,ld,dH,lb,st,Xy,Xw,XE,Yq,Xb,WT,WW,TH,W1,V6,Ni,TL,W8,Lc,Ru,Jb,Gj,vV,Gl,Ja,UT,N8.g00,N8.g01,N8.g06,N8.g07,N8.g10,N8.g11,N8.g12,N8.g13,N8.g22,N8.g33,N8.g34,N8.g35,N8.g36,N8.g37,N8.g44,N8.g47,N8.g55,N8.g56,N8.g57,N8.g60,N8.g66,N8.g67,N8.g70,N8.g76,N8.g77,TP,Tc,O1,NK,O0,O2,OX,Zf,UN,Tb,LN,zo,pw,hM,px,py,pz,hO,pA,pB,pC,hU,hX,hY,gc,gf,gg,gj,gt,gu,Ar,oI,oJ,cZ,ba,be,bf,bg,bh,bi,bj,bm,bn,bo,bp,bq,br,bt,bu,bz]
 refine⟨_,_,rfl,i2,i3,i4,rfl,hi.keep.then_put λ_=>ZD.2 rfl,r.setCells (YQ r.cells t [XP (Ht h t)]),⟨by rw[U3,if_pos rfl],own.elem,own.sz,own.own,own.fz,own.sm,?_,own.ro⟩⟩
 have:=own.cells.store1 (o:=t) (v:=XP (Ht h t)) (by simp;omega)
 have e:((Qd h t++List.replicate (32 - t) 0).map XP).set t (XP (Ht h t))=(Qd h (t+1)++List.replicate (32 - (t+1)) 0).map XP:=by
  rw[YA,Sd _ _ (by rw[Zp];omega),Zp,hl,Ti,show 32 - t=(32 - (t+1))+1 by omega,Wo,Zy,List.set_cons_zero,nu,Xk,YA]
  rfl
 rw[e] at this
 exact this
theorem Za2{b2 b3 cb:Nat}{H0:Heap}{h:List UInt32}(c:Ctx)(x:X)(tm:TM)(H:Heap)(hi:L8 b2 b3 cb h H0 32 tm H):
  ∃tm' H',Fm c tm H x=.ok (.exit 4) tm' H' x∧L8 b2 b3 cb h H0 32 tm' H':=by
 have i2:=hi.t2;have i3:=hi.t3;have i4:=hi.t4;have i51:=hi.t51
 simp only[Sk,UN,Tb,zo] at i2 i3 i4 i51
 have d1:decide (32<32)=false:=rfl
 simp(maxSteps:=4000000) (disch:=omega) only[Fm,i51,Zv,d1,Xy,Xw,XE,Yq,TT,Xb,SK,WT,WW,VU,TL,UT,N8.g00,N8.g44,N8.g66,zo,pw,oJ,]
 exact⟨_,_,rfl,i2,i3,i4,i51,hi.keep,hi.row⟩
end
section
attribute [local irreducible] YY
variable {lib:Nat->List AV->Heap->Option CR} {fs:T CF} {fuel:Nat}
def O5(m:Nat):Nat:=(119 - m) % 64
def Le(l:List UInt8)(many:Nat):List UInt8:=(l++[128])++List.replicate (O5 l.length) 0++Vk many 8
theorem uc(l:List UInt8)(many:Nat):(Le l many).length=l.length+1+O5 l.length+8:=by unfold Le Vk;simp;omega
theorem MB.bv{H:Heap}{v:AV}{l:List UInt8}{lo:Nat}(h:MB H v l lo)(hne:l≠[]):BV H v l∧ ∀b o n c,v=.slice b o n c->lo<=b:=by
 obtain⟨b,r,rfl,g,hlo⟩:=h
 exact⟨.inr ⟨hne,b,0,none,r,rfl,g.cells.bytes g.at_ g.sz,g.low⟩,λb o n c e=>by cases e;exact hlo⟩
def BY(K h:List UInt32)(l:List UInt8)(many:Nat):List UInt8:=Qd (WR K h (Le l many) ((Le l many).length/64)) 32
theorem Zb3{n:Nat}(hl: ∀l H,lib 97 l H=none)(hl2: ∀l H,lib 74 l H=none)(hl3: ∀l H,lib 73 l H=none)(hl4: ∀l H,lib 56 l H=none)(hf:fs.get 97=some yR)(hf2:fs.get 74=some wg)(hf3:fs.get 73=some kP)(tH:fs.get 56=some js)(hF:64<fuel)(hl5: ∀l H,lib 55 l H=none)(kU:fs.get 55=some aP)(bZ: ∀l H,lib 54 l H=none)(bY:fs.get 54=some aO)(gR: ∀l H,lib 35 l H=none)(hf8:fs.get 35=some c35)
  {sb many:Nat}{K h:List UInt32}{l:List UInt8}{left:AV}{H:Heap}{rK r:Row}(hll:l.length<64)(hK:H.t.get 3=some (.row rK))(cK:Cells rK (K.map ZN))(nK:K.length=64)(h7:3<H.nx)(h7s:3≠sb)(hro:H.ro<=H.nx)
  (s:Lx H sb h left many r)(hv:BV H left l):
  ∃H',ZU lib fs fuel (n+6) 35 [.ptr sb 0] H=.ret (.agg ((BY K h l many).map XP)) H'∧Zw H H' []:=by
 rw[Z4 (gR _ _) hf8]
 generalize ha:H.new (.row ⟨55,1,32,.leaf,nI .u8 0,0,false,true,true⟩)=Ha
 have nxa:Ha.nx=H.nx+1:=by rw[<-ha];rfl
 have ka:Zw H Ha []:=by rw[<-ha];exact Zw.new H _ []
 have ga:Ha.t.get H.nx=some (.row ⟨55,1,32,.leaf,nI .u8 0,0,false,true,true⟩):=by rw[<-ha,VL,if_pos rfl]
 generalize hb:Ha.new (.row ⟨55,1,32,.leaf,nI .u8 0,0,false,true,true⟩)=Hb
 have nxb:Hb.nx=H.nx+2:=by rw[<-hb,MM,nxa]
 have kb:Zw H Hb []:=by rw[<-hb];exact ka.then_new _
 have gb:Hb.t.get (H.nx+1)=some (.row ⟨55,1,32,.leaf,nI .u8 0,0,false,true,true⟩):=by rw[<-hb,VL,nxa,if_pos rfl]
 have nM:Hb.t.get H.nx=some (.row ⟨55,1,32,.leaf,nI .u8 0,0,false,true,true⟩):=by rw[<-hb,VL,nxa,if_neg (by omega),ga]
 have sB:Lx Hb sb h left many r:=⟨⟨by rw[kb.get sb s.low (by simp)];exact s.at_,s.elem,s.sz,s.own,s.fz,s.sm,s.cells,by rw[kb.ro];exact s.ro⟩,s.len,by have:=s.low;omega⟩
 have en:=vM (fuel:=fuel) (n:=n+4) bZ bY sB
 have ld:K2 8 (.ptr sb 0) Hb=.val (.agg (h.map ZN)) Hb:=by
  rw[NJ sB.at_ sB.cells (by rw[ZE,Zp,s.len];omega),Zz,List.take_left' (by rw[Zp];exact s.len)]
 have bld: ∀H',PT [(nI .u32 0),(nI .u32 0),(nI .u32 0),(nI .u32 0),(nI .u32 0),(nI .u32 0),(nI .u32 0),(nI .u32 0),.nils,(nI .u64 0),(.bool false)] [(0,8,.agg (h.map ZN)),(10,1,.bool true)] H'=.val (.agg (h.map ZN++[.nils,nI .u64 0,.bool true])) H':=λH'=>by
  obtain⟨a0,a1,a2,a3,a4,a5,a6,a7,rfl⟩:=vD s.len
  rfl
 have box:Zed 113 (.agg (h.map ZN++[.nils,nI .u64 0,.bool true])) Hb=.val (.ptr (H.nx+2) 0) (Hb.newRow 113 1 (h.map ZN++[.nils,nI .u64 0,.bool true]) true):=by
  rw[<-nxb]
  obtain⟨a0,a1,a2,a3,a4,a5,a6,a7,rfl⟩:=vD s.len
  rfl
 obtain⟨rc,sc⟩:=zz (H:=Hb) (left:=.nils) (many:=0) s.len (by rw[kb.ro];omega)
 generalize hc:Hb.newRow 113 1 (h.map ZN++[.nils,nI .u64 0,.bool true]) true=Hc at box sc
 rw[nxb] at sc
 have nxc:Hc.nx=H.nx+3:=by rw[<-hc,TC,MM,nxb]
 have kbc:Zw Hb Hc []:=by rw[<-hc];exact Zw.new Hb _ []
 have kc:Zw H Hc []:=kb.trans' kbc
 have sC:Lx Hc sb h left many r:=⟨⟨by rw[kc.get sb s.low (by simp)];exact s.at_,s.elem,s.sz,s.own,s.fz,s.sm,s.cells,by rw[kc.ro];exact s.ro⟩,s.len,by have:=s.low;omega⟩
 have ld8:T5 (.ptr sb 8) Hc=.val left Hc:=sC.load rfl (by omega:0<3)
 obtain⟨v1,H1,v',H',e1,e2,tl,k'⟩:=qr (hv.keep kc (S:=[]) (by simp)) (by omega) (by rw[kc.ro];omega) 128
 have bs:S9 5 1 1 [nI .u8 0] [(0,1,nI .u8 128)] H1=.val (.slice H1.nx 0 1 none) (H1.newRow 5 1 [XP 128] true):=Sg 5 (nI .u8 0) (nI .u8 128) rfl H1
 simp only[c35,Jv,ha,hb,nxa,en,ld,Vl,Zy,ZH,bld,vQ,box,ld8,Wn,e1,Z9,bs,e2,Rt,Xy,Xw,Rq,QW,XE,Yq,Xb,WT,WW,VU,W1,TL,PV,RS,W8,Sv,N8.g00,N8.g01,N8.g02,N8.g03,N8.g04,N8.g10,N8.g11,N8.g20,N8.g21,N8.g22,N8.g33,N8.g44,N8.g55,N8.g56,N8.g66,N8.g77,TP,NL,O1,O0,R5,O2,OX,Zf,VF,MI,FF,Sy,OW,Km,J7,EJ,EK,CL,J8,zm,pg,ph,CM,CN,km,qo,Eg,Eh,xZ,tx,Ih,G2,E5,E6,BW,yo,tk,yp,tp,oA,oB,oC,oD,Ef,VF]
 generalize hL:XD (Fk _) fuel _ _ _=L
 have hN1: ∀t,t<O5 l.length->((l++[128]:List UInt8).length+t) % 64≠56:=λt ht=>by
  rw[ZE];unfold O5 at ht;simp only[Ye,Nd];omega
 have hN2:((l++[128]:List UInt8).length+O5 l.length) % 64=56:=by
  rw[ZE];unfold O5;simp only[Ye,Nd];omega
 have hNl:O5 l.length<64:=by unfold O5;omega
 have hl1:(l++[128]:List UInt8).length=l.length+1:=by simp
 obtain⟨tb,tr,tv,tg,tlo⟩:=tl
 obtain⟨tC,H2,rfl,j⟩:=Tx (P:=λT=>L6 sb H.nx (H.nx+1) (H.nx+2) (l++[128]) Hc 0 T H') (Q:=L6 sb H.nx (H.nx+1) (H.nx+2) (l++[128]) Hc (O5 l.length))
  (λT hi=>Re (L6 sb H.nx (H.nx+1) (H.nx+2) (l++[128]) Hc) (L6 sb H.nx (H.nx+1) (H.nx+2) (l++[128]) Hc (O5 l.length)) (O5 l.length)
   (λt tm H ht hi=>ZaZ hN1 (by rw[hl1];omega) _ _ t tm H ht hi) (λtm H hi=>ZaY hN2 _ _ tm H hi) (O5 l.length) 0 fuel T H' (Zf _) (by omega) hi) hL
  ⟨rfl,rfl,rfl,rfl,by rw[Ui,Yn];exact⟨tb,tr,tv,tg,tlo⟩,k'⟩
 have j0:=j.t0;have j2:=j.t2;have j3:=j.t3;have j4:=j.t4;have j5:=j.t5
 simp only[VF,Sk,UN,Tb,Ss] at j0 j2 j3 j4 j5
 simp only[Tv,Yq,XE,Xy,W8,Xw,TL,Xb,W1,Rt,BX]
 generalize hL2:XD (Fl _) fuel _ _ _=L2
 have gQ:((l++[128]:List UInt8)++List.replicate (O5 l.length) 0).length=l.length+1+O5 l.length:=by simp;omega
 obtain⟨tm3,H3,rfl,q⟩:=Tx (P:=λT=>L7 sb H.nx (H.nx+1) (H.nx+2) many ((l++[128])++List.replicate (O5 l.length) 0) Hc 0 T H2) (Q:=L7 sb H.nx (H.nx+1) (H.nx+2) many ((l++[128])++List.replicate (O5 l.length) 0) Hc 8)
  (λT hi=>Re (L7 sb H.nx (H.nx+1) (H.nx+2) many ((l++[128])++List.replicate (O5 l.length) 0) Hc) (L7 sb H.nx (H.nx+1) (H.nx+2) many ((l++[128])++List.replicate (O5 l.length) 0) Hc 8) 8
   (λt tm H ht hi=>Za1 sC (by rw[gQ];omega) _ _ t tm H ht hi) (λtm H hi=>Za0 _ _ tm H hi) 8 0 fuel T H2 (Zf _) (by omega) hi) hL2
  ⟨j0,j2,j3,j4,by rw[show Vk many 0=[] from rfl,Yn];exact j5,rfl,j.keep⟩
 have q0:=q.t0;have q2:=q.t2;have q3:=q.t3;have q4:=q.t4;have q5:=q.t5
 simp only[VF,Sk,UN,Tb,Ss] at q0 q2 q3 q4 q5
 have hpl:=uc l many
 have ZmI:Le l many≠[]:=λe=>by rw[e] at hpl;simp at hpl
 obtain⟨bv,bfar⟩:=MB.bv (l:=Le l many) q5 ZmI
 have scH:Own H3 (H.nx+2) 113 (h.map ZN++[.nils,nI .u64 0,.bool true]) rc:=⟨by rw[q.keep.get (H.nx+2) (by omega) (by simp)];exact sc.at_,sc.elem,sc.sz,sc.own,sc.fz,sc.sm,sc.cells,by rw[q.keep.ro];exact sc.ro⟩
 have nx3:H.nx+3<=H3.nx:=by have:=q.keep.nx;omega
 obtain⟨v4,H4,e4,_,_,k4,r4,Zna⟩:=D2 (n:=n) (fuel:=fuel) hl hl2 hl3 hl4 hf hf2 hf3 tH hF hl5 kU (l:=Le l many) (by omega) (by rw[q.keep.get 3 (by omega) (by simp),kc.get 3 h7 (by simp)];exact hK) cK nK (by omega) (by omega) s.len (by omega) (by rw[q.keep.ro,kc.ro];omega) bv
  (λb o n c e=>by have:=bfar b o n c e;omega) scH
 simp only[Tv,Yq,XE,Xy,W8,Xw,TL,Xb,W1,Rt,zC,Sv,Rq,QW,RS,PV,cT,cU,cX,cY,oI,Ss,Tb,pq,pr,pu,q4,e4,N8.g00,N8.g05,N8.g11,N8.g55,N8.g56,N8.g65,N8.g66,N8.g77]
 generalize hL3:XD (Fm _) fuel _ _ _=L3x
 have s4:Lx H4 (H.nx+2) (WR K h (Le l many) ((Le l many).length/64)) .nils 0 r4:=⟨Zna,RQ K h _ s.len _,by have:=k4.nx;omega⟩
 have g4: ∀b,b=H.nx∨b=H.nx+1->H4.t.get b=Hb.t.get b:=λb hb=>by
  rw[k4.get b (by omega) (by simp;omega),q.keep.get b (by omega) (by simp),kbc.get b (by omega) (by simp)]
 have ro4:H4.ro=H.ro:=by rw[k4.ro,q.keep.ro,kc.ro]
 obtain⟨tm5,H5,rfl,z⟩:=Tx (P:=λT=>L8 H.nx (H.nx+1) (H.nx+2) (WR K h (Le l many) ((Le l many).length/64)) H4 0 T H4) (Q:=L8 H.nx (H.nx+1) (H.nx+2) (WR K h (Le l many) ((Le l many).length/64)) H4 32)
  (λT hi=>Re (L8 H.nx (H.nx+1) (H.nx+2) (WR K h (Le l many) ((Le l many).length/64)) H4) (L8 H.nx (H.nx+1) (H.nx+2) (WR K h (Le l many) ((Le l many).length/64)) H4 32) 32
   (λt tm H ht hi=>Za3 s4 (by omega) _ _ t tm H ht hi) (λtm H hi=>Za2 _ _ tm H hi) 32 0 fuel T H4 (Zf _) (by omega) hi) hL3
  ⟨q2,q3,q4,rfl,Zw.refl _ _,_,⟨by rw[g4 _ (.inr rfl)];exact gb,rfl,rfl,rfl,rfl,rfl,Cells.zero 55 32 (nI .u8 0) 0 false true true,by rw[ro4];omega⟩⟩
 obtain⟨r5,rM⟩:=z.row
 rw[show 32 - 32=0 from rfl,Ui,Yn] at rM
 have z2:=z.t2;have z3:=z.t3
 simp only[Sk,UN] at z2 z3
 have nd:((BY K h l many).map XP).length=32:=by rw[Zp];exact Pv _ _
 have rM:Own H5 (H.nx+1) 55 ((BY K h l many).map XP) r5:=rM
 have ldd:K2 32 (.ptr (H.nx+1) 0) H5=.val (.agg ((BY K h l many).map XP)) H5:=by
  rw[NJ rM.at_ rM.cells (by omega),Zz,Xq (by omega)]
 have r2:H5.t.get H.nx=some (.row ⟨55,1,32,.leaf,nI .u8 0,0,false,true,true⟩):=by
  rw[z.keep.get H.nx (by have:=k4.nx;omega) (by simp),g4 _ (.inl rfl),nM]
 have std:RB 32 (.ptr H.nx 0) (.agg ((BY K h l many).map XP)) H5=.val YS (H5.put H.nx (.row (Row.setCells ⟨55,1,32,.leaf,nI .u8 0,0,false,true,true⟩ (YQ .leaf 0 ((BY K h l many).map XP))))):=
  UH (v:=.agg ((BY K h l many).map XP)) r2 (Cells.zero 55 32 (nI .u8 0) 0 false true true) rfl (by rw[z.keep.ro,ro4];exact hro) rfl (by omega) nd (by simp)
 have cw:Cells (Row.setCells ⟨55,1,32,.leaf,nI .u8 0,0,false,true,true⟩ (YQ .leaf 0 ((BY K h l many).map XP))) ((BY K h l many).map XP):=(Cells.zero 55 32 (nI .u8 0) 0 false true true).whole (by rw[nd,Y5])
 simp only[Tv,Yq,XE,Xy,NL,Tc,Xw,Sk,UN,gy,bA,z2,z3,ldd,std,Ni,Xb,Qa,QX,N8.g00,N8.g01,N8.g11,N8.g66,]
 refine⟨_,Ms z2 (by rw[U3,if_pos rfl]) cw nd,Zw.then_put ?_ λhlt=>absurd hlt (XT _)⟩
 have kH3:Zw H H3 []:=kc.trans' q.keep
 exact((kH3.trans k4 (S:=[]) λc hc hlt=>by simp only[ZD] at hc;omega).trans z.keep λc hc hlt=>by simp only[ZD] at hc;omega)
end
section
attribute [local irreducible] YY
variable {lib:Nat->List AV->Heap->Option CR} {fs:T CF} {fuel:Nat}
def Kb(K B:List UInt32)(l:List UInt8):List UInt8:=BY K (WR K B l (l.length/64)) (l.drop (64*(l.length/64))) l.length
theorem Ap(a:TM->Heap->X->WC)(n:Nat)(tm:TM)(H:Heap)(x:X):XD a (n+1) tm H x=Q7 (a tm H x) (XD a n):=rfl
theorem al{n:Nat}(hl: ∀l H,lib 97 l H=none)(hl2: ∀l H,lib 74 l H=none)(hl3: ∀l H,lib 73 l H=none)(hl4: ∀l H,lib 56 l H=none)(hf:fs.get 97=some yR)(hf2:fs.get 74=some wg)(hf3:fs.get 73=some kP)(tH:fs.get 56=some js)(hF:64<fuel)(hl5: ∀l H,lib 55 l H=none)(kU:fs.get 55=some aP)(bZ: ∀l H,lib 54 l H=none)(bY:fs.get 54=some aO)(gR: ∀l H,lib 35 l H=none)(hf8:fs.get 35=some c35)
  (hl7: ∀l H,lib 34 l H=none)(hf7:fs.get 34=some c34)(hl9: ∀l H,lib 33 l H=none)(hf9:fs.get 33=some c33)(hlA: ∀l H,lib 24 l H=none)(hfA:fs.get 24=some c24)
  {K B:List UInt32}{l:List UInt8}{v:AV}{H:Heap}{rK rB rp:Row}{pb:Nat}(hlF:l.length/64<fuel)(hll:l.length<=140737488355328)(hK:H.t.get 3=some (.row rK))(cK:Cells rK (K.map ZN))(nK:K.length=64)(h7:3<H.nx)(hB:H.t.get 2=some (.row rB))(cB:Cells rB (B.map ZN))(nB:B.length=8)(hro:H.ro<=H.nx)
  (hv:BV H v l)(far: ∀b o n c,v=.slice b o n c->b<H.nx)(hp:H.t.get pb=some (.row rp))(cp:Cells rp [v])(hpb:pb<H.nx):
  ∃H',ZU lib fs fuel (n+7) 24 [.slice pb 0 1 none] H=.ret (.agg ((Kb K B l).map XP)) H'∧Zw H H' []:=by
 rw[Z4 (hlA _ _) hfA]
 generalize ha:H.new (.row ⟨55,1,32,.leaf,nI .u8 0,0,false,true,true⟩)=Ha
 have nxa:Ha.nx=H.nx+1:=by rw[<-ha];rfl
 have ka:Zw H Ha []:=by rw[<-ha];exact Zw.new H _ []
 have ga:Ha.t.get H.nx=some (.row ⟨55,1,32,.leaf,nI .u8 0,0,false,true,true⟩):=by rw[<-ha,VL,if_pos rfl]
 have en:=Zbk (fuel:=fuel) (lib:=lib) (n:=n+5) hl9 hf9 (H:=Ha) (by rw[ka.get 2 (by omega) (by simp)];exact hB) cB nB
 obtain⟨rs,ss⟩:=zz (H:=Ha) (left:=.nils) (many:=0) nB (by rw[ka.ro];omega)
 generalize hb:Ha.newRow 113 1 (B.map ZN++[.nils,nI .u64 0,.bool true]) true=Hb at en ss
 have nxb:Hb.nx=H.nx+2:=by rw[<-hb,TC,MM,nxa]
 have kab:Zw Ha Hb []:=by rw[<-hb];exact Zw.new Ha _ []
 have kb:Zw H Hb []:=ka.trans' kab
 rw[nxa] at en ss
 have ldp:T5 (.ptr pb 0) Hb=.val v Hb:=TN (l:=[v]) (by rw[kb.get pb hpb (by simp)];exact hp) cp (by simp)
 obtain⟨left,Hc,rc,ew,bl,fl,kc,sc⟩:=kM (n:=n) (fuel:=fuel) hl hl2 hl3 hl4 hf hf2 hf3 tH hF hl5 kU bZ bY hl7 hf7 hlF hll (many:=0) (by omega) (by rw[kb.get 3 h7 (by simp)];exact hK) cK nK (by omega) (by omega) (by rw[kb.ro];omega)
  (hv.keep kb (S:=[]) (by simp)) (λb o n c e=>by have:=far b o n c e;omega) ss
 rw[Zf] at sc
 obtain⟨Hd,es,kd⟩:=Zb3 (n:=n) (fuel:=fuel) hl hl2 hl3 hl4 hf hf2 hf3 tH hF hl5 kU bZ bY gR hf8 (by rw[Ya];omega) (K:=K) (by rw[kc.get 3 (by omega) (by simp;omega),kb.get 3 h7 (by simp)];exact hK) cK nK (by have:=kc.nx;omega) (by omega) (by rw[kc.ro,kb.ro];have:=kc.nx;omega) sc bl
 obtain⟨F,rfl⟩: ∃F,fuel=F+2:=⟨fuel - 2,by omega⟩
 have d1:decide (0<1)=true:=rfl
 have d2:decide (1<1)=false:=rfl
 have es:ZU lib fs (F+2) (n+6) 35 [.ptr (H.nx+1) 0] Hc=.ret (.agg ((Kb K B l).map XP)) Hd:=es
 have nd:((Kb K B l).map XP).length=32:=by rw[Zp];exact Pv _ _
 have kcd:Zw Hb Hd [H.nx+1]:=kc.trans kd λc hc _=>by simp at hc
 have r2:Hd.t.get H.nx=some (.row ⟨55,1,32,.leaf,nI .u8 0,0,false,true,true⟩):=by
  rw[kcd.get H.nx (by omega) (by simp),kab.get H.nx (by omega) (by simp),ga]
 have std:RB 32 (.ptr H.nx 0) (.agg ((Kb K B l).map XP)) Hd=.val YS (Hd.put H.nx (.row (Row.setCells ⟨55,1,32,.leaf,nI .u8 0,0,false,true,true⟩ (YQ .leaf 0 ((Kb K B l).map XP))))):=
  UH (v:=.agg ((Kb K B l).map XP)) r2 (Cells.zero 55 32 (nI .u8 0) 0 false true true) rfl (by rw[kcd.ro,kb.ro];exact hro) rfl (by omega) nd (by simp)
 have cw:Cells (Row.setCells ⟨55,1,32,.leaf,nI .u8 0,0,false,true,true⟩ (YQ .leaf 0 ((Kb K B l).map XP))) ((Kb K B l).map XP):=(Cells.zero 55 32 (nI .u8 0) 0 false true true).whole (by rw[nd,Y5])
 simp(maxSteps:=4000000) (disch:=omega) only[c24,jr,Jv,ha,en,Rt,Ap,Vz,Zv,d1,d2,RY,Zf,Zj,ldp,ew,es,std,YU,Xy,Xw,Rq,QW,XE,Yq,TT,Xb,Qa,SK,WT,WW,TH,VU,W1,V6,Tv,Ni,TL,PV,RS,W8,Ru,UT,Sv,N8.g00,N8.g01,N8.g02,N8.g03,N8.g04,N8.g05,N8.g06,N8.g07,N8.g10,N8.g11,N8.g12,N8.g13,N8.g14,N8.g15,N8.g16,N8.g17,N8.g20,N8.g21,N8.g22,N8.g23,N8.g25,N8.g26,N8.g27,N8.g33,N8.g35,N8.g37,N8.g44,N8.g55,N8.g56,N8.g66,N8.g77,TP,Tc,FQ,Py,R5,Vz,Zf,VF,Sk,UN,Ss,NA,LN,MI,FF,Mm,Sy,OW,Km,J7,EK,CL,J8,km,qo,Eh,BX,Ar,xZ,tx,BU,Ih,G2,E5,E6,BW,yo,tk,yp,Ef,VF]
 simp only[QX]
 refine⟨_,Ms rfl (by rw[U3,if_pos rfl]) cw nd,Zw.then_put ?_ (λhlt=>absurd hlt (XT _))⟩
 exact kb.trans kcd (λc hc hlt=>by simp only[ZD] at hc;omega)
end
section
attribute [local irreducible] YY
variable {lib:Nat->List AV->Heap->Option CR} {fs:T CF} {fuel:Nat}
theorem ZbJ{n:Nat}(hl: ∀l H,lib 97 l H=none)(hl2: ∀l H,lib 74 l H=none)(hl3: ∀l H,lib 73 l H=none)(hl4: ∀l H,lib 56 l H=none)(hf:fs.get 97=some yR)(hf2:fs.get 74=some wg)(hf3:fs.get 73=some kP)(tH:fs.get 56=some js)(hF:64<fuel)(hl5: ∀l H,lib 55 l H=none)(kU:fs.get 55=some aP)(bZ: ∀l H,lib 54 l H=none)(bY:fs.get 54=some aO)(gR: ∀l H,lib 35 l H=none)(hf8:fs.get 35=some c35)
  (hl7: ∀l H,lib 34 l H=none)(hf7:fs.get 34=some c34)(hl9: ∀l H,lib 33 l H=none)(hf9:fs.get 33=some c33)(hlA: ∀l H,lib 24 l H=none)(hfA:fs.get 24=some c24)(hlB: ∀l H,lib 15 l H=none)(hfB:fs.get 15=some c15)
  {K B:List UInt32}{l:List UInt8}{v:AV}{H:Heap}{rK rB:Row}(hlF:l.length/64<fuel)(hll:l.length<=140737488355328)(hK:H.t.get 3=some (.row rK))(cK:Cells rK (K.map ZN))(nK:K.length=64)(h7:3<H.nx)(hB:H.t.get 2=some (.row rB))(cB:Cells rB (B.map ZN))(nB:B.length=8)(hro:H.ro<=H.nx)
  (hv:BV H v l)(far: ∀b o n c,v=.slice b o n c->b<H.nx):
  ∃H',ZU lib fs fuel (n+8) 15 [v] H=.ret (.agg ((Kb K B l).map XP)) H'∧Zw H H' []:=by
 rw[Z4 (hlB _ _) hfB]
 generalize ha:H.new (.row ⟨55,1,32,.leaf,nI .u8 0,0,false,true,true⟩)=Ha
 have nxa:Ha.nx=H.nx+1:=by rw[<-ha];rfl
 have ka:Zw H Ha []:=by rw[<-ha];exact Zw.new H _ []
 have ga:Ha.t.get H.nx=some (.row ⟨55,1,32,.leaf,nI .u8 0,0,false,true,true⟩):=by rw[<-ha,VL,if_pos rfl]
 have vc:v.cells=[v]:=by
  rcases hv with⟨_,rfl|⟨b,o,c,rfl⟩⟩|⟨_,b,o,c,r,rfl,_⟩<;>rfl
 have bs:S9 24 1 1 [.nils] [(0,1,v)] Ha=.val (.slice (H.nx+1) 0 1 none) (Ha.newRow 24 1 [v] true):=by
  rw[<-nxa];exact Sg 24 .nils v vc Ha
 generalize hb:Ha.newRow 24 1 [v] true=Hb at bs
 have nxb:Hb.nx=H.nx+2:=by rw[<-hb,TC,MM,nxa]
 have kab:Zw Ha Hb []:=by rw[<-hb];exact Zw.new Ha _ []
 have kb:Zw H Hb []:=ka.trans' kab
 have gb:Hb.t.get (H.nx+1)=some (.row ⟨24,1,1,T.ofList [v],.unk,0,false,true,true⟩):=by rw[<-hb,TC,VL,nxa,if_pos rfl];rfl
 obtain⟨Hd,es,kd⟩:=al (n:=n) (fuel:=fuel) hl hl2 hl3 hl4 hf hf2 hf3 tH hF hl5 kU bZ bY gR hf8 hl7 hf7 hl9 hf9 hlA hfA (H:=Hb) (v:=v) (l:=l) hlF hll (by rw[kb.get 3 h7 (by simp)];exact hK) cK nK (by omega) (by rw[kb.get 2 (by omega) (by simp)];exact hB) cB nB (by rw[kb.ro];omega) (hv.keep kb (S:=[]) (by simp)) (λb o n c e=>by have:=far b o n c e;omega) gb (Cells.new 24 1 [v] 0 false true true) (by omega)
 have nd:((Kb K B l).map XP).length=32:=by rw[Zp];exact Pv _ _
 have kad:Zw Ha Hd []:=kab.trans' kd
 have r2:Hd.t.get H.nx=some (.row ⟨55,1,32,.leaf,nI .u8 0,0,false,true,true⟩):=by
  rw[kad.get H.nx (by omega) (by simp),ga]
 have std:RB 32 (.ptr H.nx 0) (.agg ((Kb K B l).map XP)) Hd=.val YS (Hd.put H.nx (.row (Row.setCells ⟨55,1,32,.leaf,nI .u8 0,0,false,true,true⟩ (YQ .leaf 0 ((Kb K B l).map XP))))):=
  UH (v:=.agg ((Kb K B l).map XP)) r2 (Cells.zero 55 32 (nI .u8 0) 0 false true true) rfl (by rw[kad.ro,ka.ro];exact hro) rfl (by omega) nd (by simp)
 have cw:Cells (Row.setCells ⟨55,1,32,.leaf,nI .u8 0,0,false,true,true⟩ (YQ .leaf 0 ((Kb K B l).map XP))) ((Kb K B l).map XP):=(Cells.zero 55 32 (nI .u8 0) 0 false true true).whole (by rw[nd,Y5])
 simp(maxSteps:=4000000) (disch:=omega) only[c15,Jv,ha,Z9,Zy,ZH,bs,es,std,Xy,Xw,Rq,QW,XE,Yq,Xb,Qa,Ni,PV,RS,W8,Sv,N8.g00,N8.g02,N8.g22,N8.g23,N8.g24,N8.g25,N8.g33,N8.g44,N8.g55,Tc,R5,VF,Sk,UN,Tb,Ss,km,qo,Eg,Eh,Ef,VF]
 simp only[QX]
 exact⟨_,Ms rfl (by rw[U3,if_pos rfl]) cw nd,Zw.then_put (ka.trans' kad) (λhlt=>absurd hlt (XT _))⟩
end
section
attribute [local irreducible] YY
theorem Zca{x y:UInt8}(h:XP x=XP y):x=y:=by
 unfold XP at h
 injection h with _ h
 injection h with h
 exact U9.1 h
theorem Bytes.uniq{H:Heap}{b o:Nat}{c:Option Nat}{l l':List UInt8}{r r':Row}(h:Bytes H b o c l r)(h':Bytes H b o c l' r')(e:l.length=l'.length):l=l':=by
 have hr:r=r':=by
  have:=h.at_.symm.trans h'.at_
  injection this with this
  injection this
 subst hr
 refine List.ext_getElem e λi h1 h2=>?_
 have a:=h.get i h1
 have b:=h'.get i h2
 rw[a] at b
 have:=Zca b
 rwa [Ze,Ze,Zk h1,Zk h2] at this
theorem BV.uniq{H:Heap}{v:AV}{l l':List UInt8}(h:BV H v l)(h':BV H v l'):l=l':=by
 have e:l.length=l'.length:=by
  have a:=h.len H
  rw[h'.len H] at a
  injection a with a _
  injection a with _ a
  injection a with a
  exact a.symm
 rcases h with⟨rfl,_⟩|⟨hne,b,o,c,r,rfl,hb,_⟩
 ·exact(YR.1 e.symm).symm
 ·rcases h' with⟨rfl,_⟩|⟨hne',b',o',c',r',e',hb',_⟩
  ·exact YR.1 e
  ·injection e' with e1 e2 e3 e4
   subst e1;subst e2;subst e4
   exact hb.uniq hb' e
structure ja(top:Nat)(K B:List UInt32)(H:Heap)(v:AV)(l:List UInt8):Prop where
 bv:BV H v l
 short:l.length<=64*top
 keys: ∃r,H.t.get 3=some (.row r)∧Cells r (K.map ZN)
 beg: ∃r,H.t.get 2=some (.row r)∧Cells r (B.map ZN)
 nx:3<H.nx
 ro:H.ro<=H.nx
theorem BV.far{H:Heap}{v:AV}{l:List UInt8}(h:BV H v l)(hne:l≠[]): ∀b o n c,v=.slice b o n c->b<H.nx:=by
 rcases h with⟨rfl,_⟩|⟨_,b,o,c,r,rfl,_,hlt⟩
 ·exact absurd rfl hne
 ·intro b o n c e;cases e;exact hlt
def BD(f0 top:Nat)(K B:List UInt32)(base:Nat->List AV->Heap->Option CR)(f:Nat)(args:List AV)(H:Heap):Option CR:=
 cond (Nat.beq f f0) (open Classical in if h: ∃v l,args=[v]∧ja top K B H v l∧(∀b o n c,v=.slice b o n c->b<H.nx) then some (.ret (.agg ((Kb K B h.choose_spec.choose).map XP)) H) else none) (base f args H)
theorem lY{f0 top:Nat}{K B:List UInt32}{base:Nat->List AV->Heap->Option CR}{H:Heap}{v:AV}{l:List UInt8}(h:ja top K B H v l)(far: ∀b o n c,v=.slice b o n c->b<H.nx):
  BD f0 top K B base f0 [v] H=some (.ret (.agg ((Kb K B l).map XP)) H):=by
 have hx: ∃v' l',[v]=[v']∧ja top K B H v' l'∧(∀b o n c,v'=.slice b o n c->b<H.nx):=⟨v,l,rfl,h,far⟩
 unfold BD
 rw[show Nat.beq f0 f0=true from Ys f0,cond_true,dif_pos hx]
 obtain⟨e1,e2,_⟩:=hx.choose_spec.choose_spec
 generalize hx.choose_spec.choose=l2 at e2
 generalize hx.choose=v2 at e1 e2
 injection e1 with e1 _
 subst e1
 rw[e2.bv.uniq h.bv]
theorem pR(n:Nat): ∀l:List UInt8,RJ n (l.map XP)=true
 |[]=>rfl
 |x::l=>by
  show cond (Wl n (XP x)) (RJ n (l.map XP)) false=true
  rw[pR n l];rfl
variable {lib:Nat->List AV->Heap->Option CR} {fs:T CF} {fuel:Nat} {P:Program}
theorem lZ{n:Nat}(hl: ∀l H,lib 97 l H=none)(hl2: ∀l H,lib 74 l H=none)(hl3: ∀l H,lib 73 l H=none)(hl4: ∀l H,lib 56 l H=none)(hf:fs.get 97=some yR)(hf2:fs.get 74=some wg)(hf3:fs.get 73=some kP)(tH:fs.get 56=some js)(hF:64<fuel)(hl5: ∀l H,lib 55 l H=none)(kU:fs.get 55=some aP)(bZ: ∀l H,lib 54 l H=none)(bY:fs.get 54=some aO)(gR: ∀l H,lib 35 l H=none)(hf8:fs.get 35=some c35)
  (hl7: ∀l H,lib 34 l H=none)(hf7:fs.get 34=some c34)(hl9: ∀l H,lib 33 l H=none)(hf9:fs.get 33=some c33)(hlA: ∀l H,lib 24 l H=none)(hfA:fs.get 24=some c24)(hlB: ∀l H,lib 15 l H=none)(hfB:fs.get 15=some c15)(hcall:SE P (ZU lib fs fuel (n+8))){K B:List UInt32}(nK:K.length=64)(nB:B.length=8){top:Nat}(htop:top<fuel)(htop2:64*top<=140737488355328)
  {base:Nat->List AV->Heap->Option CR}(hb:Nu P base):Nu P (BD 15 top K B base):=by
 intro f args H r hr σ w vs hs hv
 unfold BD at hr
 cases e:Nat.beq f 15 with
 |false=>rw[e] at hr;exact hb f args H r hr σ w vs hs hv
 |true=>
  have:=ZM e
  subst this
  rw[e,cond_true] at hr
  split at hr
  ·rename_i hx
   obtain⟨e1,h1,far⟩:=hx.choose_spec.choose_spec
   generalize hx.choose_spec.choose=l at hr h1
   generalize hx.choose=v at e1 h1 far
   subst e1
   cases hr
   obtain⟨rK,gK,cK⟩:=h1.keys
   obtain⟨rB,gB,cB⟩:=h1.beg
   have hs1:=h1.short
   obtain⟨H',e2,k⟩:=ZbJ (n:=n) (fuel:=fuel) hl hl2 hl3 hl4 hf hf2 hf3 tH hF hl5 kU bZ bY gR hf8 hl7 hf7 hl9 hf9 hlA hfA hlB hfB (by omega) (by omega) gK cK nK h1.nx gB cB nB h1.ro h1.bv far
   exact pM hcall e2 k (pR 0 _) hs hv
  ·cases hr
end
end
end Go.AI
