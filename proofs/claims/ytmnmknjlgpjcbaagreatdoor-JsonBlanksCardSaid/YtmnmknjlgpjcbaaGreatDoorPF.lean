/- A reader of texts, plainly and walked: proved, as each says. -/
import Derived.Test.YtmnmknjlgpjcbaaGreatDoorP9
import Derived.Test.YtmnmknjlgpjcbaaGreatDoorPA
import Derived.Test.YtmnmknjlgpjcbaaGreatDoorPD
import Derived.Test.YtmnmknjlgpjcbaaGreatDoorPB
import Derived.Test.YtmnmknjlgpjcbaaGreatDoorPE
set_option maxRecDepth 1000000
set_option maxHeartbeats 0
set_option linter.unusedVariables false
set_option linter.unusedSimpArgs false
namespace Go.AI
open Go
noncomputable section
section
variable {Zo:NJ} {fs:T CF} {fuel k n i h b:Nat} {H H0:Zc} {s:List UInt8} {cs:List AV}
theorem LE.nnp{H H':Zc}{o o1 o2:Obj}(hb:b<H.nx)(ho:kJ H.nx o)(k: ∀c,c<H.nx->H'.t.get c=(((H.new o1).new o2).put b o).t.get c):LE H H' (H.put b o):=
 LE.put hb ho λc hc=>by
  rw[k c hc,OD,OD]
  split
  ·rfl
  ·rw[ZK (by show ¬H.nx+1=c;omega),ZK (by omega)]
theorem DE(h:i<s.length)(hb:dg (s.getD i 0)=true):On s (i+1)=On s i:=by
 unfold On
 have e:s.getD i 0=s[i]:=by rw[Zf,Zi h];rfl
 rw[e] at hb
 rw[Xs h,Wn hb,Zl];omega
theorem DD(hb:dg (s.getD i 0)=false):On s i=i:=by
 unfold On
 by_cases h:i<s.length
 ·have e:s.getD i 0=s[i]:=by rw[Zf,Zi h];rfl
  rw[e] at hb
  rw[Xs h,Wm (by rw[hb];simp)];rfl
 ·rw[Y0 (by omega)];rfl
theorem vF(hb:dg (s.getD i 0)=true):i<s.length:=by
 by_cases h:i<s.length
 ·exact h
 ·rw[Cb (by omega)] at hb;cases hb
theorem aD(s:List UInt8)(i:Nat)(h:i<=s.length):On s i<=s.length:=by
 unfold On
 have:=(List.takeWhile_sublist dg (l:=s.drop i)).length_le
 rw[Z7] at this;omega
theorem mt(s:List UInt8)(i:Nat):i<=On s i:=by unfold On;omega
theorem aC: ∀{i j:Nat},i<=j->j<On s i->dg (s.getD j 0)=true:=by
 have: ∀(k i j:Nat),j - i=k->i<=j->j<On s i->dg (s.getD j 0)=true:=by
  intro k
  induction k with
  |zero=>
   intro i j h1 h2 h3
   obtain rfl:i=j:=by omega
   cases hb:dg (s.getD i 0) with
   |true=>rfl
   |false=>rw[DD hb] at h3;omega
  |succ k ih=>
   intro i j h1 h2 h3
   cases hb:dg (s.getD i 0) with
   |false=>rw[DD hb] at h3;omega
   |true=>exact ih (i+1) j (by omega) (by omega) (by rw[DE (vF hb) hb];exact h3)
 intro i j;exact this _ i j rfl
theorem ce{p:Nat}(hb:dg (s.getD p 0)=true)(h:(s.getD p 0).toNat≠48):T6 s p=On s (p+1):=by
 unfold T6;rw[if_neg h,DE (vF hb) hb]
theorem CQ{p:Nat}(hb:dg (s.getD p 0)=true):p<T6 s p:=by
 unfold T6
 split
 ·omega
 ·rw[<-DE (vF hb) hb];have:=mt s (p+1);omega
theorem Hk{p:Nat}(hb:dg (s.getD p 0)=true):T6 s p<=s.length:=by
 have:=vF hb
 unfold T6
 split
 ·omega
 ·exact aD s p (by omega)
theorem fU{p q j:Nat}(hj:j<q - p):((s.take q).drop p).getD j 0=s.getD (p+j) 0:=by
 rw[Zf,X9,XJ (by omega),Zf]
theorem ci{p:Nat}(hb:dg (s.getD p 0)=true):wZ ((s.take (T6 s p)).drop p):=by
 intro j hj
 rw[Z7,Z9] at hj
 rw[fU (by omega)]
 have:dg (s.getD (p+j) 0)=true:=by
  by_cases h:(s.getD p 0).toNat=48
  ·unfold T6 at hj
   rw[if_pos h] at hj
   obtain rfl:j=0:=by omega
   exact hb
  ·unfold T6 at hj
   rw[if_neg h] at hj
   exact aC (i:=p) (by omega) (by omega)
 unfold dg at this
 rw[XE,decide_eq_true_eq,decide_eq_true_eq] at this
 exact this
theorem fd{q:Nat}(h:i<q)(hq:q<=s.length):(s.take q).drop i=s.getD i 0::(s.take q).drop (i+1):=by
 rw[Xs (by rw[Z9];omega),List.getElem_take,Zf,Zi (by omega)];rfl
theorem uN(E:Env Zo fs fuel){z:Int}(YL:H.ro<=H.nx):
  ∃H',ZG (LK Zo fs fuel 0) fs fuel (n+2) 106 [.iface 2 (.int .i64 z)] H=.ret (Le z) H'∧Zp H H' []:=by
 rw[ZF (ZB E.n106 (.inl (by decide)) _ _) E.f106]
 simp(disch:=first|assumption|omega|(simp -implicitDefEqProofs only[ZY,ZZ]<;>first|assumption|omega)|decide) only[mK,Il,Kn,Hc,Tf,B7,Zu,ZX,Zw,Zz,Yf]
 exact⟨_,rfl,Zp.new H _ []⟩
theorem nL(E:Env Zo fs fuel)(hk:1<=k){z:Int}(YL:H.ro<=H.nx):
  ZG (LK Zo fs fuel k) fs fuel (n+1) 106 [.iface 2 (.int .i64 z)] H=.ret (Le z) H:=by
 obtain⟨H',e,g⟩:=uN E (n:=898) (H:=H) YL
 exact Xd (r:=0) rfl rfl e g (rfl) hk
structure NL(H2:Zc)(b e:Nat)(s:List UInt8)(i q:Nat)(z:Bool)(m:Nat)(tm:TM)(H:Zc):Prop where
 t1:Xz tm=.ptr e 0
 t2:Wc tm=.ptr (e+1) 0
 t3:W6 tm=nI .i64 i
 t4:XG tm=.func 166 [] [.ptr e 0]
 t5:Wp tm=.bool z
 j: ∃j,H=H2.put b (rd s j)∧j+m=q∧((z=true∧m=0)∨(z=false∧On s j=q))
theorem Zcz(E:Env Zo fs fuel){H2:Zc}{e q:Nat}{z:Bool}(hb:b<H2.nx)(hbe:b<e)(YL:H2.ro<=b)(hq:q<=s.length)(hl:s.length<1000000)(ge:H2.t.get e=some (rH 118 [.ptr b 0]))(y f d r)(x:X)(m:Nat)(tm:TM)(H:Zc)(h:NL H2 b e s i q z m tm H):
  ∃o Yp H',Ot ⟨ZG (LK Zo fs fuel 4) fs fuel (n+1),y,f,d,r⟩ tm H x=.ok o Yp H' x∧((o=.normal∧ ∃k,k<m∧NL H2 b e s i q z k Yp H')∨(o≠.normal∧o=.exit 0∧NL H2 b e s i q z 0 Yp H')):=by
 obtain⟨t1,t2,t3,t4,t5,j,rfl,hj,hz⟩:=h
 simp only[PO,N6,J7,Ah,GU] at t1 t2 t3 t4 t5
 have gr:(H2.put b (rd s j)).t.get b=some (rd s j):=ZS ..
 have J4:(H2.put b (rd s j)).t.get b=some (rH 120 [.str s,nI .i64 j]):=gr
 have ge':(H2.put b (rd s j)).t.get e=some (rH 118 [.ptr b 0]):=by rw[ZD (by omega)];exact ge
 have ed:=λ{m}=>bB E (k:=4) (n:=m) (by decide) gr hb YL ge'
 rcases hz with⟨rfl,rfl⟩|⟨rfl,hz⟩
 ·simp only[Ot,t5,Ot,Zu,ZX,Zz,Yf,WL]
  exact⟨_,_,_,rfl,.inr ⟨by simp,rfl,t1,t2,t3,t4,t5,j,rfl,hj,.inl ⟨rfl,rfl⟩⟩⟩
 ·cases hd:dg (s.getD j 0) with
  |false=>
   rw[DD hd] at hz
   rw[hd] at ed
   simp only[Ot,t4,t5,ed,Ot,Zu,ZX,Zw,Zz,Yf,WL]
   exact⟨_,_,_,rfl,.inr ⟨by simp,rfl,t1,t2,t3,t4,t5,j,rfl,by omega,.inr ⟨rfl,by rw[DD hd];exact hz⟩⟩⟩
  |true=>
   have Y6:=vF hd
   rw[<-DE Y6 hd] at hz
   have lP:=mt s (j+1)
   rw[hd] at ed
   simp(disch:=first|omega|simp only[ZY,ZZ]<;>omega) only[Ot,t1,t4,t5,ed,J4,ge',ZJ,YQ,XK,Ot,Zu,ZX,Zw,Zz,Yf,WL]
   exact⟨_,_,_,rfl,.inl ⟨rfl,m - 1,by omega,t1,t2,t3,t4,t5,j+1,rfl,by omega,.inr ⟨rfl,hz⟩⟩⟩
theorem uY(E:Env Zo fs fuel)(g:Sh H)(gr:H.t.get b=some (rd s i))(hb:b<H.nx)(QY:100<=b)(YL:H.ro<=b)(hl:s.length<999998)(hi:i<=s.length):
  FO H (ZG (LK Zo fs fuel 4) fs fuel (n+6) 122 [.ptr b 0] H) (match Te s i with|.ok z q=>.ret (Le z) (H.put b (rd s q))|.bad p q=>.pan (MM 5 p) (H.put b (rd s q))):=by
 rw[ZF (ZB E.n122 (.inl (by decide)) _ _) E.f122]
 obtain⟨H1,Yo⟩:=WQ (H.new (rH 118 [.ptr b 0]))
 obtain⟨H2,XH⟩:=WQ (H1.new (rH 27 zV))
 have VH:H1.nx=H.nx+1:=by rw[<-Yo];rfl
 have nx2:H2.nx=H.nx+1+1:=by rw[<-XH,WJ,VH]
 have DB:H2.ro=H.ro:=by rw[<-XH,<-Yo];rfl
 have ge:H2.t.get H.nx=some (rH 118 [.ptr b 0]):=by rw[<-XH,ZK (by omega),<-Yo,ZC rfl]
 have gv:H2.t.get (H.nx+1)=some (rH 27 zV):=by rw[<-XH,ZC VH]
 have gb2:H2.t.get b=some (rd s i):=by rw[<-XH,ZK (by omega),<-Yo,ZK (by omega)];exact gr
 have vK:H2.t.get b=some (rH 120 [.str s,nI .i64 i]):=gb2
 have g2:Sh H2:=by rw[<-XH,<-Yo];exact(g.new _).new _
 have Ak:H2.put b (rd s i)=H2:=O9 gb2
 have en:=λ{m}=>uX E (k:=4) (n:=m) (by decide) gb2 (by omega) (by rw[DB];exact YL)
 have key: ∀(T:TM) (p:Nat) (neg:Bool),(s.take (T6 s p)).drop i=(if neg then 45::(s.take (T6 s p)).drop p else(s.take (T6 s p)).drop p)∨dg (s.getD p 0)=false->
   (p=i∧neg=false∨p=i+1∧neg=true)->p=TS s i->Xz T=.ptr H.nx 0->Wc T=.ptr (H.nx+1) 0->W6 T=nI .i64 i->
   FO H (Mh (λpn g xs H=>Js .fail fs g λcg=>Hu pn cg.rs (cg.body ⟨ZG (LK Zo fs fuel 4) fs fuel (n+5),Vt,VB,fuel,false⟩ (TX xs) H ⟨[],pn⟩)) [(Wc,some (6,true))]
    (KV ⟨ZG (LK Zo fs fuel 4) fs fuel (n+5),Vt,NV fs fuel (ZG (LK Zo fs fuel 4) fs fuel (n+5)),fuel,false⟩ T (H2.put b (rd s p)) ⟨[],none⟩))
    (match Te s i with|.ok z q=>.ret (Le z) (H.put b (rd s q))|.bad p q=>.pan (MM 5 p) (H.put b (rd s q))):=by
  intro T p neg hw hpn eQ t1 t2 t3
  simp only[PO,N6,J7] at t1 t2 t3
  have gp:(H2.put b (rd s p)).t.get b=some (rd s p):=ZS ..
  have gp':(H2.put b (rd s p)).t.get b=some (rH 120 [.str s,nI .i64 p]):=gp
  have gep:(H2.put b (rd s p)).t.get H.nx=some (rH 118 [.ptr b 0]):=by rw[ZD (by omega)];exact ge
  have ed:=λ{m}=>bB E (k:=4) (n:=m) (by decide) gp (by rw[Of];omega) (by rw[NU,DB];exact YL) gep
  have enp:=λ{m}=>uX E (k:=4) (n:=m) (by decide) gp (by rw[Of];omega) (by rw[NU,DB];exact YL)
  have ef:=λ{m}=>HE E (k:=4) (n:=m) (by decide) gp (by rw[Of];omega) (by rw[NU,DB];exact YL)
  have no:Te s i=(if dg (s.getD p 0)=false then .bad p p else(if p=i then(if X5 ((s.take (T6 s p)).drop p)<9223372036854775808 then .ok (X5 ((s.take (T6 s p)).drop p)) (T6 s p) else .bad i (T6 s p)) else(if X5 ((s.take (T6 s p)).drop p)<=9223372036854775808 then .ok (-(X5 ((s.take (T6 s p)).drop p):Int)) (T6 s p) else .bad i (T6 s p)))):=by
   unfold Te;rw[<-eQ]
  rw[no]
  cases hd:dg (s.getD p 0) with
  |false=>
   rw[if_pos rfl]
   rw[hd] at ed
   simp(disch:=first|omega|simp only[ZY,ZZ]<;>omega) only[KV,t1,ed,gep,ZJ,ef,KV,Zu,ZX,Zw,Zz,Yf,]
   refine⟨rfl,?_,rfl⟩
   exact LE.nnp hb (K1 _ _ _) (λc _=>by rw[Yo,XH])
  |true=>
   rw[if_neg (by simp)]
   have hw:=hw.resolve_right (by rw[hd];simp)
   rw[hd] at ed
   have o6:=CQ hd
   have wR:=Hk hd
   have hal:=ci hd
   have VY:(s.take (T6 s p)).drop p≠[]:=by
    intro e
    have:=congrArg List.length e
    rw[Z7,Z9] at this
    simp at this;omega
   have hls:((s.take (T6 s p)).drop p).length<999999:=by rw[Z7,Z9];omega
   generalize hqq:T6 s p=q at o6 wR hal VY hls hw ⊢
   have hz: ∀zz,zz=decide ((s.getD p 0).toNat=48)->((zz=true∧q - (p+1)=0)∨(zz=false∧On s (p+1)=q)):=by
    intro zz hzz
    by_cases h48:(s.getD p 0).toNat=48
    ·left
     refine⟨by rw[hzz];exact Ze h48,?_⟩
     rw[<-hqq];unfold T6;rw[if_pos h48];omega
    ·right
     exact⟨by rw[hzz];exact Za h48,by rw[<-hqq,ce hd h48]⟩
   have ZfW: ∀H,LV VN false (nI .u8 (s.getD p 0).toNat) (nI .u8 48) H=.val (.bool (decide ((s.getD p 0).toNat=48))) H:=λH=>Z2 ..
   simp(disch:=first|omega|simp only[ZY,ZZ]<;>omega) only[KV,t1,ed,enp,gep,gp',ZJ,YQ,XK,ZfW,KV,Zu,ZX,Zw,Zz,Yf,WL]
   generalize hL:WR (Ot _) fuel _ _ _=L
   obtain⟨o,SY,H3,rfl,_,rfl,zz⟩:=Y9 (P:=λT=>NL H2 b H.nx s i q (decide ((s.getD p 0).toNat=48)) (q - (p+1)) T (H2.put b (rd s (p+1)))) (Q:=λo tm H'=>o=.exit 0∧NL H2 b H.nx s i q (decide ((s.getD p 0).toNat=48)) 0 tm H')
    (λT R0=>Xk (NL H2 b H.nx s i q (decide ((s.getD p 0).toNat=48))) (λo tm H'=>o=.exit 0∧NL H2 b H.nx s i q (decide ((s.getD p 0).toNat=48)) 0 tm H') (λm tm H' h=>Zcz E (by omega) hb (by rw[DB];exact YL) wR (by omega) ge _ _ _ _ _ m tm H' h) fuel _ T _ (by have:=E.big;omega) R0) hL
    ⟨t1,t2,t3,rfl,rfl,p+1,rfl,by omega,hz _ rfl⟩
   obtain⟨z1,z2,z3,_,_,j,rfl,hj,_⟩:=zz
   obtain rfl:j=q:=by omega
   simp only[PO,N6,J7] at z1 z2 z3
   have gq':(H2.put b (rd s j)).t.get b=some (rH 120 [.str s,nI .i64 j]):=ZS ..
   have geq:(H2.put b (rd s j)).t.get H.nx=some (rH 118 [.ptr b 0]):=by rw[ZD (by omega)];exact ge
   have gvq:(H2.put b (rd s j)).t.get (H.nx+1)=some (rH 27 zV):=by rw[ZD (by omega)];exact gv
   have gq:Sh (H2.put b (rd s j)):=g2.put (by omega) _
   have roq:(H2.put b (rd s j)).ro<=(H2.put b (rd s j)).nx:=by rw[NU,Of,DB];omega
   generalize wP:(s.take j).drop p=ds at hw hal VY hls ⊢
   generalize hHq:H2.put b (rd s j)=Hq at gq' geq gvq gq roq
   have nxq:Hq.nx=H.nx+1+1:=by rw[<-hHq,Of,nx2]
   have roqe:Hq.ro=H.ro:=by rw[<-hHq,NU,DB]
   have hkq: ∀c,c<H.nx->Hq.t.get c=(((H.new (rH 118 [.ptr b 0])).new (rH 27 zV)).put b (rd s j)).t.get c:=λc _=>by rw[Yo,XH,hHq]
   have sl: ∀H,M8 (.str s) (some (nI .i64 i)) (some (nI .i64 j)) H=.val (.str (if neg=true then 45::ds else ds)) H:=λH=>by
    rw[Ps (by rcases hpn with⟨h,_⟩|⟨h,_⟩<;>omega) wR,hw]
   rcases hpn with⟨wQ,hng⟩|⟨wQ,hng⟩
   ·rw[if_pos wQ]
    by_cases hu:X5 ds<9223372036854775808
    ·rw[if_pos hu]
     have hpz:q9 neg (X5 ds)=.tup [.int .i64 ((X5 ds:Int)),.nili]:=by unfold q9;rw[hng,if_neg (by simp),if_pos hu];rfl
     have po:=nN E (k:=4) (n:=n+3) (by decide) (neg:=neg) (H:=Hq) hal VY hls hpz
     have ow:=λ{m}=>nL E (k:=4) (n:=m) (by decide) (z:=(X5 ds:Int)) (H:=Hq) roq
     unfold Le at ow
     simp(disch:=first|omega|simp only[ZY,ZZ]<;>omega) only[z1,z2,z3,geq,gq',gvq,ZJ,sl,po,ow,Yq,Il,Kn,Hc,Tf,Zu,ZX,Zw,Zz,ZQ,Yk,Nat.reducePow,Nat.reduceDiv,Nat.reduceMod,Yf,WL,RA]
     exact⟨rfl,LE.nnp hb (K1 _ _ _) (λc hc=>by rw[ZD (by omega)];exact hkq c hc),rfl⟩
    ·rw[if_neg hu]
     have hpz:q9 neg (X5 ds)=.tup [.int .i64 (9223372036854775807),JZ 1]:=by unfold q9;rw[hng,if_neg (by simp),if_neg hu];rfl
     obtain⟨H4,po,k4,n4⟩:=uS E (k:=4) (n:=n+1) (by decide) (neg:=neg) (H:=Hq) gq roq hal VY hls hpz
     simp(disch:=first|omega|simp only[ZY,ZZ]<;>omega) only[z1,z3,geq,gq',ZJ,sl,po,Yq,MM,Zu,ZX,Zw,Zz,ZQ,Yk,Nat.reducePow,Nat.reduceDiv,Nat.reduceMod,Yf,WL,RA]
     exact⟨rfl,LE.nnp hb (K1 _ _ _) (λc hc=>by rw[k4.get c (by omega) (by simp)];exact hkq c hc),rfl⟩
   ·rw[if_neg (by omega)]
    by_cases hu:X5 ds<=9223372036854775808
    ·rw[if_pos hu]
     have hpz:q9 neg (X5 ds)=.tup [.int .i64 (-(X5 ds:Int)),.nili]:=by unfold q9;rw[hng,if_pos rfl,if_pos hu]
     have po:=nN E (k:=4) (n:=n+3) (by decide) (neg:=neg) (H:=Hq) hal VY hls hpz
     have ow:=λ{m}=>nL E (k:=4) (n:=m) (by decide) (z:= -(X5 ds:Int)) (H:=Hq) roq
     unfold Le at ow
     simp(disch:=first|omega|simp only[ZY,ZZ]<;>omega) only[z1,z2,z3,geq,gq',gvq,ZJ,sl,po,ow,Yq,Il,Kn,Hc,Tf,Zu,ZX,Zw,Zz,ZQ,Yk,Nat.reducePow,Nat.reduceDiv,Nat.reduceMod,Yf,WL,RA]
     exact⟨rfl,LE.nnp hb (K1 _ _ _) (λc hc=>by rw[ZD (by omega)];exact hkq c hc),rfl⟩
    ·rw[if_neg hu]
     have hpz:q9 neg (X5 ds)=.tup [.int .i64 (.negSucc 9223372036854775807),JZ 1]:=by unfold q9;rw[hng,if_pos rfl,if_neg hu]
     obtain⟨H4,po,k4,n4⟩:=uS E (k:=4) (n:=n+1) (by decide) (neg:=neg) (H:=Hq) gq roq hal VY hls hpz
     simp(disch:=first|omega|simp only[ZY,ZZ]<;>omega) only[z1,z3,geq,gq',ZJ,sl,po,Yq,MM,Zu,ZX,Zw,Zz,ZQ,Yk,Nat.reducePow,Nat.reduceDiv,Nat.reduceMod,Yf,WL,RA]
     exact⟨rfl,LE.nnp hb (K1 _ _ _) (λc hc=>by rw[k4.get c (by omega) (by simp)];exact hkq c hc),rfl⟩
 have eQ:TS s i=if (s.getD i 0).toNat=45 then i+1 else i:=rfl
 by_cases h45:(s.getD i 0).toNat=45
 ·rw[if_pos h45] at eQ
  have d1:decide ((s.getD i 0).toNat=45)=true:=Ze h45
  simp(disch:=first|omega|simp only[ZY,ZZ]<;>omega) only[Yo,XH,VH,en,d1,vK,ge,ZJ,Z2,YQ,XK,Za6,Zu,ZX,Zw,Zz,Yf]
  refine key _ (i+1) true ?_ (.inr ⟨rfl,rfl⟩) eQ.symm ?_ ?_ ?_
  rotate_left
  ·rfl
  ·rfl
  ·rfl
  cases hd:dg (s.getD (i+1) 0) with
  |false=>exact .inr rfl
  |true=>
   left
   have:=CQ hd
   rw[if_pos rfl,fd (by omega) (Hk hd)]
   congr 1
   exact WO.1 h45
 ·rw[if_neg h45] at eQ
  have d1:decide ((s.getD i 0).toNat=45)=false:=Za h45
  simp(disch:=first|omega|simp only[ZY,ZZ]<;>omega) only[Yo,XH,VH,en,d1,vK,ge,ZJ,Z2,Za6,Zu,ZX,Zw,Zz,Yf]
  have Zkv:=λT=>key T i false (.inl (by rw[if_neg (by simp)])) (.inl ⟨rfl,rfl⟩) eQ.symm
  rw[Ak] at Zkv
  refine Zkv _ ?_ ?_ ?_
  ·rfl
  ·rfl
  ·rfl
theorem Zdc(E:Env Zo fs fuel)(hk:5<=k)(g:Sh H)(gr:H.t.get b=some (rd s i))(hb:b<H.nx)(QY:100<=b)(YL:H.ro<=b)(hl:s.length<999998)(hi:i<=s.length):
  ZG (LK Zo fs fuel k) fs fuel (n+1) 122 [.ptr b 0] H=match Te s i with|.ok z q=>.ret (Le z) (H.put b (rd s q))|.bad p q=>.pan (MM 5 p) (H.put b (rd s q)):=
 Bj (r:=4) rfl (by show(pu (H.t.get b)).map _=_;rw[gr,wq];rfl) (uY E (n:=894) (H:=H) g gr hb QY YL hl hi) hk
structure ZqG(s:List UInt8)(i:Nat):Prop where
 lt:i<s.length
 blk:blk (s.getD i 0)=false
 n1:(s.getD i 0).toNat≠110
 n2:(s.getD i 0).toNat≠116
 n3:(s.getD i 0).toNat≠102
 n4:(s.getD i 0).toNat≠34
 n5:(s.getD i 0).toNat≠91
 n6:(s.getD i 0).toNat≠123
def Zhu:List AV:=zV
theorem kR{z:Int}{q:Nat}(h:Te s i=.ok z q):q<=s.length:=by
 unfold Te at h
 simp only at h
 split at h
 ·cases h
 ·rename_i hd
  have hd:dg (s.getD (TS s i) 0)=true:=by simpa using hd
  have:=Hk hd
  split at h
  ·split at h
   ·cases h;exact this
   ·cases h
  ·split at h
   ·cases h;exact this
   ·cases h
end
inductive RR(α:Type) where
 |ok (v:α) (j:Nat)
 |bad (e p:Nat)
def Ew(c:Nat):Option Nat:=if 48<=c∧c<=57 then some (c - 48) else if 97<=c∧c<=102 then some (c - 87) else if 65<=c∧c<=70 then some (c - 55) else none
def HF:List UInt8->Nat->Option Nat
 |[],n=>some n
 |c::l,n=>match Ew c.toNat with
  |none=>none
  |some d=>HF l (n*16+d)
def Nb(s:List UInt8)(i:Nat):Option Nat:=if s.length<i+4 then none else HF ((s.drop i).take 4) 0
def wk(n:Nat):List UInt8:=(Utf8.encode (Int.ofNat n)).data.toList
def nR:List UInt8:=[34,92,47,98,102,110,114,116]
def ZkX:List UInt8:=[34,92,47,8,12,10,13,9]
def bD:List Nat:=[34,92,47,8,12,10,13,9]
def C3(c:Nat):Option Nat:=if c=34 then some 0 else if c=92 then some 1 else if c=47 then some 2 else if c=98 then some 3 else if c=102 then some 4 else if c=110 then some 5 else if c=114 then some 6 else if c=116 then some 7 else none
def LA(s:List UInt8)(i:Nat):RR (List UInt8):=
 match C3 (Z3 s (i+1)) with
 |some d=>.ok [UInt8.ofNat (bD.getD d 0)] (i+2)
 |none=>
 if Z3 s (i+1)≠117 then .bad 5 i
 else match Nb s (i+2) with
  |none=>.bad 5 i
  |some c=>if 56320<=c∧c<=57343 then .bad 5 i
   else if 55296<=c∧c<=56319 then
    (if Z3 s (i+6)=92∧Z3 s (i+7)=117 then
     (match Nb s (i+8) with
     |none=>.bad 5 i
     |some low=>if 56320<=low∧low<=57343 then .ok (wk (65536+(c - 55296)*1024+(low - 56320))) (i+12) else .bad 5 i)
    else .bad 5 i)
   else .ok (wk c) (i+6)
def wu(s:List UInt8):Nat->Nat->List UInt8->RR (List UInt8)
 |0,i,_=>.bad 5 i
 |m+1,i,acc=>
  if Z3 s i=34 then .ok acc (i+1)
  else if Z3 s i=92 then(match LA s i with
   |.bad e p=>.bad e p
   |.ok t j=>wu s m j (acc++t))
  else if Z3 s i<32 then .bad 5 i
  else if Xc (s.drop i)=0 then .bad 5 i
  else wu s m (i+Xc (s.drop i)) (acc++(s.drop i).take (Xc (s.drop i)))
def rq(s:List UInt8)(i:Nat):RR (List UInt8):=
 if Z3 s (Z5 s i)=34 then wu s (s.length+1) (Z5 s i+1) [] else .bad 5 (Z5 s i)
def Qe(s:List UInt8):List UInt8->Nat->RR Unit
 |[],i=>.ok () i
 |c::w,i=>if Z3 s i=c.toNat then Qe s w (i+1) else .bad 5 i
def RO{α:Type}(s:List UInt8)(c:Nat)(one:List α->Nat->RR α):Nat->Nat->List α->RR (List α)
 |0,i,_=>.bad 5 i
 |m+1,i,acc=>
  if Z3 s (Z5 s i)=c then .ok acc (Z5 s i+1)
  else if Z3 s (Z5 s i)≠44 then .bad 5 (Z5 s i)
  else match one acc (Z5 s i+1) with
   |.bad e p=>.bad e p
   |.ok v k=>RO s c one m k (acc++[v])
def RF{α:Type}(s:List UInt8)(c:Nat)(one:List α->Nat->RR α)(i:Nat):RR (List α):=
 if Z3 s (Z5 s i)=c then .ok [] (Z5 s i+1)
 else match one [] (Z5 s i) with
  |.bad e p=>.bad e p
  |.ok v k=>RO s c one (s.length+1) k [v]
def M4(s:List UInt8)(rv:Nat->RR JV)(acc:List (List UInt8×JV))(i:Nat):RR (List UInt8×JV):=
 match rq s (Z5 s i) with
 |.bad e p=>.bad e p
 |.ok key k=>if key∈acc.map (·.1) then .bad 9 (Z5 s i)
  else if Z3 s (Z5 s k)≠58 then .bad 5 (Z5 s k)
  else match rv (Z5 s k+1) with
   |.bad e p=>.bad e p
   |.ok v j=>.ok (key,v) j
def ER:List UInt8:=[110,117,108,108]
def BU:List UInt8:=[116,114,117,101]
def Iq:List UInt8:=[102,97,108,115,101]
def Mq{α β:Type}(f:α->β):RR α->RR β
 |.ok v j=>.ok (f v) j
 |.bad e p=>.bad e p
def rv(s:List UInt8):Nat->Nat->RR JV
 |0,i=>.bad 23 (Z5 s i)
 |lv+1,i=>
  let j:=Z5 s i
  let c:=Z3 s j
  if c=110 then Mq (λ_=>.mk 1 false 0 [] [] []) (Qe s ER j)
  else if c=116 then Mq (λ_=>.mk 2 true 0 [] [] []) (Qe s BU j)
  else if c=102 then Mq (λ_=>.mk 2 false 0 [] [] []) (Qe s Iq j)
  else if c=34 then Mq (λt=>.mk 4 false 0 t [] []) (rq s j)
  else if c=91 then Mq (λl=>.mk 5 false 0 [] l []) (RF s 93 (λ_=>rv s lv) (j+1))
  else if c=123 then Mq (λm=>.mk 6 false 0 [] [] m) (RF s 125 (M4 s (rv s lv)) (j+1))
  else match Te s j with
   |.ok z q=>.ok (.mk 3 false z [] [] []) q
   |.bad p _=>.bad 5 p
section
variable {Zo:NJ} {fs:T CF} {fuel k n i h b:Nat} {H H0:Zc} {s:List UInt8} {cs:List AV}
theorem Gz(h:s.length<=i):Z3 s i=0:=by unfold Z3;rw[Cb h];rfl
theorem Iy(h:Z3 s i≠0):i<s.length:=by
 by_cases h2:i<s.length
 ·exact h2
 ·exact absurd (Gz (by omega)) h
theorem pk(E:Env Zo fs fuel)(hk:3<=k){c:Nat}(gr:H.t.get b=some (rd s i))(hb:b<H.nx)(YL:H.ro<=b)(hl:s.length<999998)(hi:i<=s.length)(hc:c≠0):
  ZG (LK Zo fs fuel k) fs fuel (n+2) 160 [.ptr b 0,nI .u8 c] H=if Z3 s (Z5 s i)=c then .ret (.tup []) (H.put b (rd s (Z5 s i+1))) else .pan (MM 5 (Z5 s i)) (H.put b (rd s (Z5 s i))):=by
 rw[ZF (ZB E.n160 (.inr rfl) _ _) E.f160]
 have MT:=R3 s i hi
 have eb:=λ{m}=>Fm E (k:=k) (n:=m) (by omega) gr hb YL (by omega) (by omega)
 generalize hj:Z5 s i=j at eb MT ⊢
 obtain⟨H1,Yo⟩:=WQ (H.put b (rd s j))
 rw[Yo] at eb
 have g1:H1.t.get b=some (rd s j):=by rw[<-Yo,ZS]
 have fS:H1.t.get b=some (rH 120 [.str s,nI .i64 j]):=g1
 have Q3:b<H1.nx:=by rw[<-Yo];exact hb
 have ZbW:H1.ro<=b:=by rw[<-Yo];exact YL
 have pp: ∀o,H1.put b o=H.put b o:=λo=>by rw[<-Yo];exact Hx ..
 have ef:=λ{m}=>HE E (k:=k) (n:=m) (by omega) g1 Q3 ZbW
 by_cases h:j<s.length
 ·have d1:decide (s.length<=j)=false:=Za (by omega)
  by_cases h2:Z3 s j=c
  ·have d2:decide (Z3 s j≠c)=false:=Za (by simp[h2])
   rw[if_pos h2]
   simp(disch:=first|omega|simp only[ZY,ZZ]<;>omega) only[d1,d2,fS,ZJ,Yq,Yz,Yu,Zv,eb,YQ,XK,Vi,gL,Zu,ZX,Zw,Zz,ZQ,Yk,Yf,WL]
   rw[pp];rfl
  ·have d2:decide (Z3 s j≠c)=true:=Ze h2
   rw[if_neg h2]
   simp(disch:=first|omega|simp only[ZY,ZZ]<;>omega) only[d1,d2,fS,ZJ,Yq,Yz,Yu,Zv,Yo,eb,ef,Vi,gL,Zu,ZX,Zw,Zz,ZQ,Yk,Yf]
 ·have d1:decide (s.length<=j)=true:=Ze (by omega)
  rw[if_neg (by rw[Gz (by omega)];omega)]
  simp(disch:=first|omega|simp only[ZY,ZZ]<;>omega) only[d1,fS,ZJ,Yq,Yu,Zv,Yo,eb,ef,gL,Zu,ZX,Zw,Zz,ZQ,Yk,Yf]
theorem bJ(E:Env Zo fs fuel)(hk:3<=k){c:Nat}(gr:H.t.get b=some (rd s i))(hb:b<H.nx)(YL:H.ro<=b)(hl:s.length<999998)(hi:i<=s.length)(hc:c≠0):
  ZG (LK Zo fs fuel k) fs fuel (n+2) 202 [.ptr b 0,nI .u8 c] H=if Z3 s (Z5 s i)=c then .ret (.bool true) (H.put b (rd s (Z5 s i+1))) else .ret (.bool false) (H.put b (rd s (Z5 s i))):=by
 rw[ZF (ZB E.n202 (.inr rfl) _ _) E.f202]
 have MT:=R3 s i hi
 have eb:=λ{m}=>Fm E (k:=k) (n:=m) (by omega) gr hb YL (by omega) (by omega)
 generalize hj:Z5 s i=j at eb MT ⊢
 obtain⟨H1,Yo⟩:=WQ (H.put b (rd s j))
 rw[Yo] at eb
 have g1:H1.t.get b=some (rd s j):=by rw[<-Yo,ZS]
 have fS:H1.t.get b=some (rH 120 [.str s,nI .i64 j]):=g1
 have Q3:b<H1.nx:=by rw[<-Yo];exact hb
 have ZbW:H1.ro<=b:=by rw[<-Yo];exact YL
 have pp: ∀o,H1.put b o=H.put b o:=λo=>by rw[<-Yo];exact Hx ..
 by_cases h:j<s.length
 ·have d1:decide (j<s.length)=true:=Ze (by omega)
  by_cases h2:Z3 s j=c
  ·have d2:decide (Z3 s j=c)=true:=Ze h2
   rw[if_pos h2]
   simp(disch:=first|omega|simp only[ZY,ZZ]<;>omega) only[d1,d2,fS,ZJ,Yq,Yz,ZO,Zv,eb,YQ,XK,Z2,gO,Zu,ZX,Zw,Zz,ZQ,Yk,Yf,WL]
   rw[pp];rfl
  ·have d2:decide (Z3 s j=c)=false:=Za h2
   rw[if_neg h2]
   simp(disch:=first|omega|simp only[ZY,ZZ]<;>omega) only[d1,d2,fS,ZJ,Yq,Yz,ZO,Zv,Yo,eb,Z2,gO,Zu,ZX,Zw,Zz,ZQ,Yk,Yf]
 ·have d1:decide (j<s.length)=false:=Za (by omega)
  rw[if_neg (by rw[Gz (by omega)];omega)]
  simp(disch:=first|omega|simp only[ZY,ZZ]<;>omega) only[d1,fS,ZJ,Yq,ZO,Zv,Yo,eb,gO,Zu,ZX,Zw,Zz,ZQ,Yk,Yf]
def mI{α:Type}(H:Zc)(b:Nat)(s:List UInt8)(r:CR)(P:α->AV->Zc->Prop):RR α->Prop
 |.ok v j=> ∃a H',r=.ret a H'∧H'.t.get b=some (rd s j)∧j<=s.length∧Zp H H' [b]∧P v a H'
 |.bad e p=> ∃H' q,r=.pan (MM e p) H'∧H'.t.get b=some (rd s q)∧q<=s.length∧p<=s.length∧Zp H H' [b]
structure WOI(H3:Zc)(b e:Nat)(s w:List UInt8)(i:Nat)(T:RR Unit)(m:Nat)(tm:TM)(H:Zc):Prop where
 j: ∃c,YW tm=nI .i64 c∧c<=w.length∧m=w.length - c∧Qe s (w.drop c) (i+c)=T∧H=H3.put b (rd s (i+c))∧i+c<=s.length
 t0:Z4 tm=.ptr b 0
 t1:Xz tm=.str w
 t5:Wp tm=.ptr e 0
 t6:Wi tm=.ptr (e+1) 0
 t9:Vn tm=nI .i64 w.length
def WOQ(H3:Zc)(b e:Nat)(s:List UInt8)(T:RR Unit)(o:Out)(tm:TM)(H:Zc):Prop:=
 (∃j,o=.exit 0∧T=.ok () j∧H=H3.put b (rd s j)∧j<=s.length∧Wp tm=.ptr e 0∧Wi tm=.ptr (e+1) 0)∨(∃j,o=.pan (MM 5 j)∧T=.bad 5 j∧H=H3.put b (rd s j)∧j<=s.length)
theorem ZdA(E:Env Zo fs fuel)(hk:3<=k){H3:Zc}{e:Nat}{w:List UInt8}{T:RR Unit}(hb:b<H3.nx)(YL:H3.ro<=b)(hl:s.length<999998)(hw:w.length<=100)(hz: ∀x∈w,x≠0)(y f d r)(x:X)(m:Nat)(tm:TM)(H:Zc)(hI:WOI H3 b e s w i T m tm H):
  ∃o Yp H',Mz ⟨ZG (LK Zo fs fuel k) fs fuel (n+1),y,f,d,r⟩ tm H x=.ok o Yp H' x∧((o=.normal∧ ∃q,q<m∧WOI H3 b e s w i T q Yp H')∨(o≠.normal∧WOQ H3 b e s T o Yp H')):=by
 obtain⟨⟨c,t10,hc,rfl,hT,rfl,hj⟩,t0,t1,t5,t6,t9⟩:=hI
 have KQ:=t0;have Px:=t1;have Dj:=t5;have wS:=t6;have aL:=t9
 simp only[Pi,PO,GU,GV,ZbA,f7] at t0 t1 t5 t6 t9 t10
 by_cases Y6:c<w.length
 ·have d1:decide (c<w.length)=true:=Ze Y6
  have hd:w.drop c=w.getD c 0::w.drop (c+1):=by
   rw[Xs Y6,Zf,Zi Y6];rfl
  have hnz:Z3 w c≠0:=by
   unfold Z3
   intro h0
   have hm:w.getD c 0∈w:=by rw[Zf,Zi Y6];exact YJ Y6
   exact hz _ hm (WO.1 (by simpa using h0))
  rw[hd] at hT
  replace hT:(if Z3 s (i+c)=Z3 w c then Qe s (w.drop (c+1)) (i+c+1) else .bad 5 (i+c))=T:=hT
  obtain⟨HA,oS⟩:=WQ (H3.put b (rd s (i+c)))
  have g1:HA.t.get b=some (rd s (i+c)):=by rw[<-oS,ZS]
  have fS:HA.t.get b=some (rH 120 [.str s,nI .i64 (i+c)]):=g1
  have nA:HA.nx=H3.nx:=by rw[<-oS];rfl
  have roA:HA.ro=H3.ro:=by rw[<-oS];rfl
  have pp: ∀o,HA.put b o=H3.put b o:=λo=>by rw[<-oS];exact Hx ..
  have ef:=λ{m}=>HE E (k:=k) (n:=m) (by omega) g1 (by omega) (by omega)
  rw[oS]
  by_cases h:i+c<s.length
  ·have d2:decide (s.length<=i+c)=false:=Za (by omega)
   by_cases h2:Z3 s (i+c)=Z3 w c
   ·have d3:decide (Z3 s (i+c)≠Z3 w c)=false:=Za (by simp[h2])
    rw[if_pos h2] at hT
    simp(disch:=first|omega|simp only[ZY,ZZ]<;>omega) only[t0,t1,t9,t10,d1,d2,d3,fS,ZJ,Yq,Yz,ZO,Yu,Zv,YQ,XK,Vi,Mz,Zu,ZX,Zz,ZQ,Yk,Yf,WL]
    refine⟨_,_,_,rfl,?_⟩
    exact .inl ⟨rfl,w.length - (c+1),by omega,⟨⟨c+1,rfl,by omega,rfl,by rw[<-hT];rfl,by rw[pp];rfl,by omega⟩,KQ,Px,Dj,wS,aL⟩⟩
   ·have d3:decide (Z3 s (i+c)≠Z3 w c)=true:=Ze h2
    rw[if_neg h2] at hT
    simp(disch:=first|omega|simp only[ZY,ZZ]<;>omega) only[t0,t1,t9,t10,d1,d2,d3,fS,ef,ZJ,Yq,Yz,ZO,Yu,Zv,Vi,Mz,Zu,ZX,Zw,Zz,ZQ,Yk,Yf,WL]
    refine⟨_,_,_,rfl,?_⟩
    exact .inr ⟨by simp,.inr ⟨i+c,rfl,hT.symm,oS.symm,by omega⟩⟩
  ·have d2:decide (s.length<=i+c)=true:=Ze (by omega)
   rw[if_neg (by rw[Gz (by omega)];omega)] at hT
   simp(disch:=first|omega|simp only[ZY,ZZ]<;>omega) only[t0,t9,t10,d1,d2,fS,ef,ZJ,Yq,ZO,Yu,Zv,Mz,Zu,ZX,Zw,Zz,ZQ,Yk,Yf,WL]
   refine⟨_,_,_,rfl,?_⟩
   exact .inr ⟨by simp,.inr ⟨i+c,rfl,hT.symm,oS.symm,by omega⟩⟩
 ·have d1:decide (c<w.length)=false:=Za Y6
  rw[Y0 (by omega)] at hT
  simp only[t9,t10,d1,ZO,Mz,Zu,ZX,Yf]
  refine⟨_,_,_,rfl,?_⟩
  exact .inr ⟨by simp,.inl ⟨i+c,rfl,hT.symm,rfl,hj,Dj,wS⟩⟩
theorem bK(E:Env Zo fs fuel)(hk:3<=k){w:List UInt8}(gr:H.t.get b=some (rd s i))(hb:b<H.nx)(YL:H.ro<=b)(hl:s.length<999998)(hi:i<=s.length)(Gr:cs.length=6)(hw:w.length<=100)(hz: ∀x∈w,x≠0):
  mI H b s (ZG (LK Zo fs fuel k) fs fuel (n+2) 118 [.ptr b 0,.str w,.agg cs] H) (λ_ a _=>a=.agg cs) (Qe s w i):=by
 rw[ZF (ZB E.n118 (.inr rfl) _ _) E.f118]
 obtain⟨H1,Yo⟩:=WQ (H.new (rH 27 cs))
 obtain⟨H2,XH⟩:=WQ (H1.new (rH 27 zV))
 have VH:H1.nx=H.nx+1:=by rw[<-Yo];rfl
 have nx2:H2.nx=H.nx+1+1:=by rw[<-XH,WJ,VH]
 have DB:H2.ro=H.ro:=by rw[<-XH,<-Yo];rfl
 have k2:Zp H H2 [b]:=by rw[<-XH,<-Yo];exact(Zp.new H _ _).then_new _
 have bx:=VW (l:=cs) (by omega) 27 H
 rw[Yo] at bx
 have gb2:H2.t.get b=some (rd s i):=by rw[<-XH,ZK (by omega),<-Yo,ZK (by omega)];exact gr
 have ge:H2.t.get H.nx=some (rH 27 cs):=by rw[<-XH,ZK (by omega),<-Yo,ZC rfl]
 have gz:H2.t.get (H.nx+1)=some (rH 27 zV):=by rw[<-XH,ZC VH]
 simp only[bx,VH,XH,Yv,Ze2,Zu,ZX,Yf]
 generalize hL:WR (Mz _) fuel _ _ _=L
 obtain⟨o,SY,H3,rfl,_,hq⟩:=Y9 (P:=λT=>WOI H2 b H.nx s w i (Qe s w i) w.length T H2) (Q:=WOQ H2 b H.nx s (Qe s w i))
  (λT R0=>Xk (WOI H2 b H.nx s w i (Qe s w i)) _ (λm tm H' h'=>ZdA E (n:=n) hk (by omega) (by omega) hl hw hz _ _ _ _ _ m tm H' h') fuel w.length T H2 (by have:=E.big;omega) R0) hL
  ⟨⟨0,rfl,Z1 _,rfl,rfl,(O9 gb2).symm,hi⟩,rfl,rfl,rfl,rfl,rfl⟩
 rcases hq with⟨j,rfl,hT,rfl,hj,t5,t6⟩|⟨j,rfl,hT,rfl,hj⟩
 ·simp only[GU,GV] at t5 t6
  rw[hT]
  have g3:(H2.put b (rd s j)).t.get H.nx=some (rH 27 cs):=by rw[ZD (by omega)];exact ge
  have g4:(H2.put b (rd s j)).t.get (H.nx+1)=some (rH 27 zV):=by rw[ZD (by omega)];exact gz
  have ldx: ∀G:Zc,ldN 6 (some (rH 27 cs)) 0 G=.val (.agg cs) G:=λG=>by rw[WV (by omega)];congr 2;rw[Ye,ZM (by omega)]
  have Ut:=Xg (n:=6) (l:=zV) (vs:=cs) (b:=H.nx+1) (H:=H2.put b (rd s j)) (by rfl) Gr (by omega) (show H2.ro<=H.nx+1 by omega) 27 1 false true
  refine⟨.agg cs,(H2.put b (rd s j)).put (H.nx+1) (rH 27 cs),?_,?_,hj,(k2.then_put λ_=>by simp).then_put λh=>absurd h (by omega),rfl⟩
  ·have ge5:((H2.put b (rd s j)).put (H.nx+1) (rH 27 cs)).t.get (H.nx+1)=some (rH 27 cs):=ZS ..
   simp(disch:=omega) only[t5,t6,g3,g4,ldx,Ut,ge5,Tf,Zu,ZX,Zw,Yf,WL]
  ·rw[ZD (by omega),ZS]
 ·rw[hT]
  refine⟨H2.put b (rd s j),j,?_,ZS ..,hj,hj,k2.then_put λ_=>by simp⟩
  simp only[Zw,]
theorem Zcq{a:Nat}(ha:a<256)(hb:b<256)(H:Zc):Nq Re (nI .u8 a) (nI .u8 b) H=.val (nI .u8 (a|||b)) H:=by
 show ZL (Qd .u8 .u8) (Vm .u8 (.ofNat (Nat.lor (a % 256) (b % 256))) H)=_
 rw[Y4,YY,OI,ZV ha,ZV hb]
 show OR.val _ H=_
 rw[show Nat.lor a b=a|||b from rfl,ZV (Sw (n:=8) ha hb)];rfl
theorem dM{a:Nat}(ha:a<2147483648)(hb:b<2147483648)(H:Zc):Nq Re (nI .i32 a) (nI .i32 b) H=.val (nI .i32 (a|||b)) H:=by
 show ZL (Qd .i32 .i32) (Vm .i32 (.ofNat (Nat.lor (a % 4294967296) (b % 4294967296))) H)=_
 rw[Y4,YY,ZV (by omega),ZV (by omega),show Nat.lor a b=a|||b from rfl,KS (Sw (n:=31) ha hb)];rfl
theorem yn{j:IntKind}{a:Nat}(h:b<=64)(h2:a*2^b<2147483648)(H:Zc):E5 (nI .i32 a) (nI j b) H=.val (nI .i32 (a*2^b)) H:=by
 show Vm .i32 (Kk (.ofNat a) (.ofNat (Nat.pow 2 (cond (Nat.ble b 64) b 64)))) H=_
 rw[YY,Kl,Zg h,show Nat.pow 2 (cond true b 64)=2^b from rfl,KS h2];rfl
theorem Zkz{d:Nat}(h:d<16):n*16|||d=n*16+d:=by
 have:=Nat.two_pow_add_eq_or_of_lt (i:=4) (b:=d) (by simpa using h) n
 rw[Ty] at this
 exact this.symm
def ZbI:List UInt8:=[48,49,50,51,52,53,54,55,56,57,97,98,99,100,101,102]
theorem eJ: ∀c:Fin 256,(VS (c.val|||32) ZbI 0= -1∧Ew c.val=none)∨ ∃d:Fin 16,VS (c.val|||32) ZbI 0=Int.ofNat d.val∧((c.val|||32≠c.val∧d.val<10∧Ew c.val=none)∨(c.val|||32=c.val∧d.val<10∧Ew c.val=some d.val)∨(10<=d.val∧Ew c.val=some d.val)):=by decide+kernel
structure FOI(H:Zc)(e:Nat)(l:List UInt8)(T:Option Nat)(m:Nat)(tm:TM)(H':Zc):Prop where
 i: ∃c n,Va tm=nI .i64 c∧c<=l.length∧m=l.length - c∧Wp tm=nI .i32 n∧n<16^c∧HF (l.drop c) n=T
 t25:VX tm=.slice e 0 l.length none
 t26:UH tm=nI .i64 l.length
 h:H'=H
def FOQ(H:Zc)(T:Option Nat)(o:Out)(tm:TM)(H':Zc):Prop:=
 H'=H∧((o=.ret∧T=none∧XG tm=.int .i32 (.negSucc 0))∨(∃n,o=.exit 0∧T=some n∧n<65536∧Wp tm=nI .i32 n))
theorem Zbw(E:Env Zo fs fuel){m0:Nat}(hk:3<=k){e:Nat}{l:List UInt8}{T:Option Nat}(g:H.t.get e=some (rG 5 1 (l.map UZ) 0 true true false))(he:e<H.nx)(h4:l.length=4)(y f d r)(x:X)(m:Nat)(tm:TM)(H':Zc)(hI:FOI H e l T m tm H'):
  ∃o Yp H'',Ov ⟨ZG (LK Zo fs fuel k) fs fuel (m0+1),y,f,d,r⟩ tm H' x=.ok o Yp H'' x∧((o=.normal∧ ∃q,q<m∧FOI H e l T q Yp H'')∨(o≠.normal∧FOQ H T o Yp H'')):=by
 obtain⟨⟨c,n,t27,hc,rfl,t5,hn,hT⟩,t25,t26,rfl⟩:=hI
 have Zhf:=t25;have Zhg:=t26;have Dj:=t5
 simp only[GU,ZiX,ZiY,ZdS] at t5 t25 t26 t27
 by_cases Y6:c<l.length
 ·have d1:decide (c<l.length)=true:=Ze Y6
  have hd:l.drop c=l.getD c 0::l.drop (c+1):=by
   rw[Xs Y6,Zf,Zi Y6];rfl
  have ld: ∀G,ld1 (some (rG 5 1 (l.map UZ) 0 true true false)) c G=.val (nI .u8 (Z3 l c)) G:=λG=>by
   rw[ZJ (by rw[Zr];exact Y6),Zf,YR]
   unfold Z3
   rw[Zi Y6,Zf,Zi Y6];rfl
  have hb:=N0 l c
  rw[hd] at hT
  replace hT:(match Ew (Z3 l c) with|none=>none|some d=>HF (l.drop (c+1)) (n*16+d))=T:=hT
  have CA:=eJ ⟨Z3 l c,hb⟩
  simp only at CA
  have ho:Z3 l c|||32<256:=Sw (n:=8) hb (by decide)
  have lo:=λG=>Zcq hb (show(32:Nat)<256 by decide) G
  have ei:=λ{m}=>Zb6 E (k:=k) (n:=m) (by omega) (s:=CJ) (H:=H') ho
  rw[show(CJ:List UInt8)=ZbI from rfl] at ei
  have rL:n<4096:=by
   have:16^c<=16^3:=Nat.pow_le_pow_right (by decide) (by omega)
   omega
  generalize hB:Z3 l c=B at*
  rcases CA with⟨hx,hr⟩|⟨⟨d,Zjx⟩,hx,hr⟩
  ·rw[hx] at ei
   rw[hr] at hT
   have cm: ∀G,P6 XY YD (.int .i64 (-1)) (nI .i64 0) G=.val (.bool true) G:=λG=>rfl
   rw[show ZbI=CJ from rfl] at ei
   simp(disch:=omega) only[t25,t26,t27,d1,Xw,g,ld,lo,ei,cm,ZO,Ov,Zu,ZX,Zz,Yf,WL]
   refine⟨_,_,_,rfl,?_⟩
   exact .inr ⟨by simp,rfl,.inl ⟨rfl,hT.symm,(by simp only[Yf,ZX]<;>rfl)⟩⟩
  ·simp only at hx hr Zjx
   rw[hx] at ei
   have ei: ∀{m},ZG (LK Zo fs fuel k) fs fuel (m+1) 13 [.str CJ,nI .u8 (B|||32)] H'=.ret (nI .i64 d) H':=λ{m}=>ei
   have e0:decide (d<0)=false:=rfl
   have iv: ∀G,MW .i32 (nI .i64 d) G=.val (nI .i32 d) G:=λG=>ug (by omega) G
   have sh: ∀G,E5 (nI .i32 n) (nI .u64 4) G=.val (nI .i32 (n*16)) G:=λG=>yn (by decide) (by omega) G
   have lr: ∀G,Nq Re (nI .i32 (n*16)) (nI .i32 d) G=.val (nI .i32 (n*16+d)) G:=λG=>by rw[dM (by omega) (by omega),Zkz Zjx]
   rcases hr with⟨h1,h2,hr⟩|⟨h1,h2,hr⟩|⟨h2,hr⟩
   ·rw[hr] at hT
    have d2:decide (B|||32≠B)=true:=Ze h1
    have d3:decide (d<10)=true:=Ze h2
    simp(disch:=omega) only[t25,t26,t27,d1,Xw,g,ld,lo,ei,e0,d2,d3,ZO,Vi,Ov,Zu,ZX,Zz,Yf,WL]
    refine⟨_,_,_,rfl,?_⟩
    exact .inr ⟨by simp,rfl,.inl ⟨rfl,hT.symm,(by simp only[Yf,ZX]<;>rfl)⟩⟩
   ·rw[hr] at hT
    have d2:decide (B|||32≠B)=false:=Za (by simp[h1])
    simp(disch:=omega) only[t25,t26,t27,t5,d1,Xw,g,ld,lo,ei,e0,d2,iv,sh,lr,ZO,Vi,YQ,Ov,Zu,ZX,Zz,Yf,WL]
    refine⟨_,_,_,rfl,?_⟩
    exact .inl ⟨rfl,l.length - (c+1),by omega,⟨⟨c+1,n*16+d,rfl,by omega,rfl,rfl,by omega,hT⟩,Zhf,Zhg,rfl⟩⟩
   ·rw[hr] at hT
    have d3:decide (d<10)=false:=Za (by omega)
    cases d2:decide (B|||32≠B) with
    |false=>
     simp(disch:=omega) only[t25,t26,t27,t5,d1,Xw,g,ld,lo,ei,e0,d2,iv,sh,lr,ZO,Vi,YQ,Ov,Zu,ZX,Zz,Yf,WL]
     refine⟨_,_,_,rfl,?_⟩
     exact .inl ⟨rfl,l.length - (c+1),by omega,⟨⟨c+1,n*16+d,rfl,by omega,rfl,rfl,by omega,hT⟩,Zhf,Zhg,rfl⟩⟩
    |true=>
     simp(disch:=omega) only[t25,t26,t27,t5,d1,Xw,g,ld,lo,ei,e0,d2,d3,iv,sh,lr,ZO,Vi,YQ,Ov,Zu,ZX,Zz,Yf,WL]
     refine⟨_,_,_,rfl,?_⟩
     exact .inl ⟨rfl,l.length - (c+1),by omega,⟨⟨c+1,n*16+d,rfl,by omega,rfl,rfl,by omega,hT⟩,Zhf,Zhg,rfl⟩⟩
 ·have d1:decide (c<l.length)=false:=Za Y6
  rw[Y0 (by omega)] at hT
  obtain rfl:c=4:=by omega
  simp only[t26,t27,d1,ZO,Ov,Zu,ZX,Yf]
  refine⟨_,_,_,rfl,?_⟩
  exact .inr ⟨by simp,rfl,.inr ⟨n,rfl,hT.symm,hn,Dj⟩⟩
theorem Zex(E:Env Zo fs fuel)(hk:3<=k){p:Nat}(gr:H.t.get b=some (rd s i))(hb:b<H.nx)(YL:H.ro<=H.nx)(hl:s.length<999998)(hp:p<2000000000):
  ∃H',ZG (LK Zo fs fuel k) fs fuel (n+2) 199 [.ptr b 0,nI .i64 p] H=.ret (match Nb s p with|none=>.int .i32 (.negSucc 0)|some n=>nI .i32 n) H'∧Zp H H' []∧ ∀n,Nb s p=some n->n<65536:=by
 rw[ZF (ZB E.n199 (.inr rfl) _ _) E.f199]
 have J4:H.t.get b=some (rH 120 [.str s,nI .i64 i]):=gr
 unfold Nb
 by_cases h:s.length<p+4
 ·have d1:decide (s.length<p+4)=true:=Ze h
  rw[if_pos h]
  simp(disch:=first|omega|simp only[ZY,ZZ]<;>omega) only[J4,d1,ZJ,YK,Yv,YQ,Zbh,Zu,ZX,Zw,Zz,reduceCtorEq,Yf]
  refine⟨_,rfl,?_⟩
  exact⟨Zp.refl _ _,λn hn=>(by cases hn)⟩
 ·have d1:decide (s.length<p+4)=false:=Za h
  rw[if_neg h]
  obtain⟨l,hl4⟩:=WQ ((s.drop p).take 4)
  have h4:l.length=4:=by rw[<-hl4,Z9,Z7];omega
  have sl: ∀G,M8 (.str s) (some (nI .i64 p)) (some (nI .i64 (p+4))) G=.val (.str l) G:=λG=>by
   rw[Ps (by omega) (by omega),List.drop_take,show p+4 - p=4 by omega,hl4]
  rw[hl4]
  obtain⟨H1,Yo⟩:=WQ (H.new (rG 5 1 (l.map UZ) 0 true true false))
  have VH:H1.nx=H.nx+1:=by rw[<-Yo];rfl
  have g1:H1.t.get H.nx=some (rG 5 1 (l.map UZ) 0 true true false):=by rw[<-Yo,ZC rfl]
  have k1:Zp H H1 []:=by rw[<-Yo];exact Zp.new H _ _
  simp(disch:=first|omega|simp only[ZY,ZZ]<;>omega) only[J4,d1,ZJ,YK,Yv,YQ,sl,Yo,Zbh,Zu,ZX,Zw,Zz,Yf]
  generalize hL:WR (Ov _) fuel _ _ _=L
  obtain⟨o,SY,H3,rfl,_,hq⟩:=Y9 (P:=λT=>FOI H1 H.nx l (HF l 0) l.length T H1) (Q:=FOQ H1 (HF l 0))
   (λT R0=>Xk (FOI H1 H.nx l (HF l 0)) _ (λm tm H' h'=>Zbw E (m0:=n) hk g1 (by omega) h4 _ _ _ _ _ m tm H' h') fuel l.length T H1 (by have:=E.big;omega) R0) hL
   ⟨⟨0,0,rfl,Z1 _,rfl,rfl,by decide,rfl⟩,rfl,rfl,rfl⟩
  obtain⟨rfl,hq⟩:=hq
  rcases hq with⟨rfl,hT,t4⟩|⟨n,rfl,hT,hn,t5⟩
  ·simp only[Ah] at t4
   rw[hT]
   refine⟨H3,?_,k1,λn hn=>(by cases hn)⟩
   simp only[t4,Zu,Zw,Yf]
  ·simp only[GU] at t5
   rw[hT]
   refine⟨H3,?_,k1,λn' oY=>(by cases oY;exact hn)⟩
   simp only[t5,Zu,ZX,Zw,Yf,WL]
theorem wz(k:IntKind)(n:Nat)(H:Zc):nY (nI k n) H=.val (.str (wk n)) H:=by
 unfold nY wk nI RC
 rfl
theorem fJ: ∀c:Fin 256,(VS c.val nR 0= -1∧C3 c.val=none)∨ ∃d:Fin 8,VS c.val nR 0=Int.ofNat d.val∧C3 c.val=some d.val:=by decide+kernel
theorem Zbq: ∀d:Fin 8,(ZkX.take (d.val+1)).drop d.val=[UInt8.ofNat (bD.getD d.val 0)]
 |⟨0,_⟩=>rfl|⟨1,_⟩=>rfl|⟨2,_⟩=>rfl|⟨3,_⟩=>rfl|⟨4,_⟩=>rfl|⟨5,_⟩=>rfl|⟨6,_⟩=>rfl|⟨7,_⟩=>rfl
theorem ZfT(E:Env Zo fs fuel)(s:List UInt8)(H:Zc)(hl:s.length<4000000000000000000):ZG (LK Zo fs fuel k) fs fuel (n+2) 200 [.str s,.str [92,117]] H=.ret (.bool (decide (Z3 s 0=92∧Z3 s 1=117))) H:=by
 rw[ZF (ZB E.n200 (.inr rfl) _ _) E.f200]
 have e2:ZG (LK Zo fs fuel k) fs fuel (n+1) 239 [.str s,.str [92,117]] H=.ret (.bool (decide (Z3 s 0=92∧Z3 s 1=117))) H:=by
  rw[ZF (ZB E.n239 (.inr rfl) _ _) E.f239]
  by_cases h:2<=s.length
  ·have d1:decide (2<=s.length)=true:=Ze h
   have l2: ∀G,zL (.str [92,117]) G=.val (nI .i64 2) G:=λG=>rfl
   have ee: ∀G,LV Lt false (.str (s.take 2)) (.str [92,117]) G=.val (.bool (decide (Z3 s 0=92∧Z3 s 1=117))) G:=λG=>by
    match s,h with
    |x::y::s,_=>
     rw[show(x::y::s).take 2=[x,y] from rfl]
     rw[GH]
     congr 2
     unfold Z3
     have e0:((x::y::s).getD 0 0)=x:=rfl
     have e1:((x::y::s).getD 1 0)=y:=rfl
     rw[e0,e1]
     apply decide_eq_decide.2
     constructor
     ·intro h;cases h;exact⟨rfl,rfl⟩
     ·rintro ⟨h1,h2⟩
      rw[show x=92 from WO.1 h1,show y=117 from WO.1 h2]
   simp(maxSteps:=4000000) (disch:=first|assumption|omega|(simp -implicitDefEqProofs only[ZY,ZZ]<;>first|assumption|omega)|decide) only[d1,l2,ee,Yv,Yu,pI,Zbj,Zu,ZX,Zw,Zz,ZQ,Yk,WW,Nat.reduceEqDiff,reduceCtorEq,Yf]
  ·have d1:decide (2<=s.length)=false:=Za h
   have l2: ∀G,zL (.str [92,117]) G=.val (nI .i64 2) G:=λG=>rfl
   have ee:decide (Z3 s 0=92∧Z3 s 1=117)=false:=Za (λhh=>by rw[Gz (i:=1) (by omega)] at hh;omega)
   rw[ee]
   simp(maxSteps:=4000000) (disch:=first|assumption|omega|(simp -implicitDefEqProofs only[ZY,ZZ]<;>first|assumption|omega)|decide) only[d1,l2,Yv,Yu,Zbj,Zu,ZX,Zw,Zz,ZQ,Yk,WW,Nat.reduceEqDiff,reduceCtorEq,Yf]
 simp(maxSteps:=4000000) (disch:=first|assumption|omega|(simp -implicitDefEqProofs only[ZY,ZZ]<;>first|assumption|omega)|decide) only[e2,Zfn,Zu,ZX,Zw,Zz,ZQ,Yk,WW,Nat.reduceEqDiff,reduceCtorEq,Yf]
theorem Zdb(E:Env Zo fs fuel)(hk:3<=k)(gr:H.t.get b=some (rd s i))(hb:b<H.nx)(YL:H.ro<=b)(hl:s.length<999998)(hi:i<=s.length)(o7:H.ro<=H.nx):
  mI H b s (ZG (LK Zo fs fuel k) fs fuel (n+3) 161 [.ptr b 0] H) (λv a _=>a=.str v) (LA s i):=by
 rw[ZF (ZB E.n161 (.inr rfl) _ _) E.f161]
 have J4:H.t.get b=some (rH 120 [.str s,nI .i64 i]):=gr
 have ef:=λ{m}=>HE (Zo:=Zo) (fs:=fs) (fuel:=fuel) E (k:=k) (n:=m) (by omega) gr hb YL
 have hB:=N0 s (i+1)
 have ei:=λ{m}=>Zb6 (Zo:=Zo) (fs:=fs) (fuel:=fuel) E (k:=k) (n:=m) (by omega) (s:=[34,92,47,98,102,110,114,116]) (H:=H) hB
 have cm: ∀G,P6 T3 Vs (.int .i64 (-1)) (nI .i64 0) G=.val (.bool false) G:=λG=>rfl
 have CA:=fJ ⟨Z3 s (i+1),hB⟩
 simp only at CA
 unfold LA
 by_cases Y6:i+1<s.length
 ·have d1:decide (i+1<s.length)=true:=Ze Y6
  have iU:decide (s.length<=i+1)=false:=Za (by omega)
  rcases CA with⟨hx,hm⟩|⟨⟨d,hd8⟩,hx,hm⟩
  ·rw[show nR=[34,92,47,98,102,110,114,116] from rfl] at hx
   rw[hx] at ei
   simp only[hm]
   by_cases hu:Z3 s (i+1)=117
   ·have d2:decide (Z3 s (i+1)≠117)=false:=Za (by simp[hu])
    rw[if_neg (by simp[hu])]
    obtain⟨H2,e4,k2,hn⟩:=Zex (Zo:=Zo) (fs:=fs) (fuel:=fuel) E (k:=k) (n:=n) hk gr hb o7 hl (p:=i+2) (by omega)
    have g2:H2.t.get b=some (rd s i):=by rw[k2.get b hb (by simp)];exact gr
    have Ae:H2.t.get b=some (rH 120 [.str s,nI .i64 i]):=g2
    have nx2:=k2.nx
    have DB:=k2.ro
    have ef2:=λ{m}=>HE (Zo:=Zo) (fs:=fs) (fuel:=fuel) E (k:=k) (n:=m) (by omega) g2 (by omega) (by omega)
    have kb:Zp H H2 [b]:=⟨k2.nx,k2.ro,λc hc _=>k2.get c hc (by simp)⟩
    cases hh:Nb s (i+2) with
    |none=>
     rw[hh] at e4
     have c1: ∀G,P6 XY YD (.int .i32 (.negSucc 0)) (nI .i32 0) G=.val (.bool true) G:=λG=>rfl
     refine⟨H2,i,?_,g2,hi,hi,kb⟩
     simp(maxSteps:=4000000) (disch:=first|assumption|omega|(simp -implicitDefEqProofs only[ZY,ZZ]<;>first|assumption|omega)|decide) only[d1,iU,d2,ei,cm,e4,c1,Ae,ef2,UK,J4,ZJ,Yq,Yz,ZO,Yu,WG,YK,Zv,YQ,XK,Vi,Z2,Yv,IE,Zu,ZX,Zw,Zz,ZQ,Yk,WW,Nat.reducePow,Nat.reduceDiv,Nat.reduceMod,Nat.reduceEqDiff,reduceCtorEq,Yf,WL,RA,NK,LG]
    |some v=>
     rw[hh] at e4
     have hv:=hn v hh
     have hp6:i+6<=s.length:=by
      unfold Nb at hh
      split at hh
      ·cases hh
      ·omega
     have c0:decide (v<0)=false:=rfl
     simp only
     by_cases h1:56320<=v∧v<=57343
     ·rw[if_pos h1]
      have c1:decide (56320<=v)=true:=Ze h1.1
      have c2:decide (v<=57343)=true:=Ze h1.2
      refine⟨H2,i,?_,g2,hi,hi,kb⟩
      simp(maxSteps:=4000000) (disch:=first|assumption|omega|(simp -implicitDefEqProofs only[ZY,ZZ]<;>first|assumption|omega)|decide) only[d1,iU,d2,ei,cm,e4,c0,c1,c2,Ae,ef2,UK,J4,ZJ,Yq,Yz,ZO,Yu,WG,YK,Zv,YQ,XK,Vi,Z2,Yv,IE,Zu,ZX,Zw,Zz,ZQ,Yk,WW,Nat.reducePow,Nat.reduceDiv,Nat.reduceMod,Nat.reduceEqDiff,reduceCtorEq,Yf,WL,RA,NK,LG]
     ·rw[if_neg h1]
      by_cases h2:55296<=v∧v<=56319
      ·rw[if_pos h2]
       have c1:decide (56320<=v)=false:=Za (by omega)
       have c3:decide (55296<=v)=true:=Ze h2.1
       have c4:decide (v<=56319)=true:=Ze h2.2
       have hpx:=λ{m}=>ZfT (Zo:=Zo) (fs:=fs) (fuel:=fuel) E (k:=k) (n:=m) (s.drop (i+6)) H2 (by rw[Z7];omega)
       rw[Nr,Nr,Zv,show i+6+1=i+7 from rfl] at hpx
       by_cases h3:Z3 s (i+6)=92∧Z3 s (i+7)=117
       ·rw[if_pos h3]
        have d3:decide (Z3 s (i+6)=92∧Z3 s (i+7)=117)=true:=Ze h3
        rw[d3] at hpx
        obtain⟨H3,e5,k3,lT⟩:=Zex (Zo:=Zo) (fs:=fs) (fuel:=fuel) E (k:=k) (n:=n) hk g2 (by omega) (by omega) hl (p:=i+8) (by omega)
        have g3:H3.t.get b=some (rd s i):=by rw[k3.get b (by omega) (by simp)];exact g2
        have g3':H3.t.get b=some (rH 120 [.str s,nI .i64 i]):=g3
        have Fe:=k3.nx
        have jZ:=k3.ro
        have ef3:=λ{m}=>HE (Zo:=Zo) (fs:=fs) (fuel:=fuel) E (k:=k) (n:=m) (by omega) g3 (by omega) (by omega)
        have kb3:Zp H H3 [b]:=kb.trans k3 (by simp)
        cases lQ:Nb s (i+8) with
        |none=>
         rw[lQ] at e5
         have c5: ∀G,P6 XY YD (.int .i32 (.negSucc 0)) (nI .i32 56320) G=.val (.bool true) G:=λG=>rfl
         refine⟨H3,i,?_,g3,hi,hi,kb3⟩
         simp(maxSteps:=4000000) (disch:=first|assumption|omega|(simp -implicitDefEqProofs only[ZY,ZZ]<;>first|assumption|omega)|decide) only[d1,iU,d2,ei,cm,e4,c0,c1,c3,c4,Ae,hpx,XO,e5,c5,g3',ef3,UK,J4,ZJ,Yq,Yz,ZO,Yu,WG,YK,Zv,YQ,XK,Vi,Z2,Yv,IE,Zu,ZX,Zw,Zz,ZQ,Yk,WW,Nat.reducePow,Nat.reduceDiv,Nat.reduceMod,Nat.reduceEqDiff,reduceCtorEq,Yf,WL,RA,NK,LG]
        |some w=>
         rw[lQ] at e5
         have hw:=lT w lQ
         have Zoj:i+12<=s.length:=by
          unfold Nb at lQ
          split at lQ
          ·cases lQ
          ·omega
         simp only
         by_cases h4:w<56320
         ·have c5:decide (w<56320)=true:=Ze h4
          rw[if_neg (by omega)]
          refine⟨H3,i,?_,g3,hi,hi,kb3⟩
          simp(maxSteps:=4000000) (disch:=first|assumption|omega|(simp -implicitDefEqProofs only[ZY,ZZ]<;>first|assumption|omega)|decide) only[d1,iU,d2,ei,cm,e4,c0,c1,c3,c4,Ae,hpx,XO,e5,c5,g3',ef3,UK,J4,ZJ,Yq,Yz,ZO,Yu,WG,YK,Zv,YQ,XK,Vi,Z2,Yv,IE,Zu,ZX,Zw,Zz,ZQ,Yk,WW,Nat.reducePow,Nat.reduceDiv,Nat.reduceMod,Nat.reduceEqDiff,reduceCtorEq,Yf,WL,RA,NK,LG]
         ·have c5:decide (w<56320)=false:=Za h4
          by_cases h5:57343<w
          ·have c6:decide (57343<w)=true:=Ze h5
           rw[if_neg (by omega)]
           refine⟨H3,i,?_,g3,hi,hi,kb3⟩
           simp(maxSteps:=4000000) (disch:=first|assumption|omega|(simp -implicitDefEqProofs only[ZY,ZZ]<;>first|assumption|omega)|decide) only[d1,iU,d2,ei,cm,e4,c0,c1,c3,c4,Ae,hpx,XO,e5,c5,c6,g3',ef3,UK,J4,ZJ,Yq,Yz,ZO,Yu,WG,YK,Zv,YQ,XK,Vi,Z2,Yv,IE,Zu,ZX,Zw,Zz,ZQ,Yk,WW,Nat.reducePow,Nat.reduceDiv,Nat.reduceMod,Nat.reduceEqDiff,reduceCtorEq,Yf,WL,RA,NK,LG]
          ·have c6:decide (57343<w)=false:=Za h5
           rw[if_pos ⟨by omega,by omega⟩]
           have sh: ∀G,E5 (nI .i32 (v - 55296)) (nI .u64 10) G=.val (nI .i32 ((v - 55296)*1024)) G:=λG=>yn (by decide) (by omega) G
           refine⟨.str (wk (65536+(v - 55296)*1024+(w - 56320))),H3.put b (rd s (i+12)),?_,ZS ..,Zoj,kb3.then_put λ_=>by simp,rfl⟩
           simp(maxSteps:=4000000) (disch:=first|assumption|omega|(simp -implicitDefEqProofs only[ZY,ZZ]<;>first|assumption|omega)|decide) only[d1,iU,d2,ei,cm,e4,c0,c1,c3,c4,Ae,hpx,XO,e5,c5,c6,sh,g3',Hm,wz,aH,gg,ZS,UK,J4,ZJ,Yq,Yz,ZO,Yu,WG,YK,Zv,YQ,XK,Vi,Z2,Yv,IE,Zu,ZX,Zw,Zz,ZQ,Yk,WW,Nat.reducePow,Nat.reduceDiv,Nat.reduceMod,Nat.reduceEqDiff,reduceCtorEq,Yf,WL,RA,NK,LG]
           rfl
       ·rw[if_neg h3]
        have d3:decide (Z3 s (i+6)=92∧Z3 s (i+7)=117)=false:=Za h3
        rw[d3] at hpx
        have c5: ∀G,P6 XY YD (.int .i32 (.negSucc 0)) (nI .i32 56320) G=.val (.bool true) G:=λG=>rfl
        refine⟨H2,i,?_,g2,hi,hi,kb⟩
        simp(maxSteps:=4000000) (disch:=first|assumption|omega|(simp -implicitDefEqProofs only[ZY,ZZ]<;>first|assumption|omega)|decide) only[d1,iU,d2,ei,cm,e4,c0,c1,c3,c4,Ae,hpx,XO,c5,ef2,UK,J4,ZJ,Yq,Yz,ZO,Yu,WG,YK,Zv,YQ,XK,Vi,Z2,Yv,IE,Zu,ZX,Zw,Zz,ZQ,Yk,WW,Nat.reducePow,Nat.reduceDiv,Nat.reduceMod,Nat.reduceEqDiff,reduceCtorEq,Yf,WL,RA,NK,LG]
      ·rw[if_neg h2]
       refine⟨.str (wk v),H2.put b (rd s (i+6)),?_,ZS ..,hp6,kb.then_put λ_=>by simp,rfl⟩
       cases c1:decide (56320<=v) with
       |true=>
        have c2:decide (v<=57343)=false:=Za (by have:=Zn c1;omega)
        have c3:decide (55296<=v)=true:=Ze (by have:=Zn c1;omega)
        have c4:decide (v<=56319)=false:=Za (by have:=Zn c1;omega)
        simp(maxSteps:=4000000) (disch:=first|assumption|omega|(simp -implicitDefEqProofs only[ZY,ZZ]<;>first|assumption|omega)|decide) only[d1,iU,d2,ei,cm,e4,c0,c1,c2,c3,c4,Ae,Hm,wz,UK,J4,ZJ,Yq,Yz,ZO,Yu,WG,YK,Zv,YQ,XK,Vi,Z2,Yv,IE,Zu,ZX,Zw,Zz,ZQ,Yk,WW,Nat.reducePow,Nat.reduceDiv,Nat.reduceMod,Nat.reduceEqDiff,reduceCtorEq,Yf,WL,RA,NK,LG]
        rfl
       |false=>
        have c3:decide (55296<=v)=false:=Za (by have:=of_decide_eq_false c1;omega)
        simp(maxSteps:=4000000) (disch:=first|assumption|omega|(simp -implicitDefEqProofs only[ZY,ZZ]<;>first|assumption|omega)|decide) only[d1,iU,d2,ei,cm,e4,c0,c1,c3,Ae,Hm,wz,UK,J4,ZJ,Yq,Yz,ZO,Yu,WG,YK,Zv,YQ,XK,Vi,Z2,Yv,IE,Zu,ZX,Zw,Zz,ZQ,Yk,WW,Nat.reducePow,Nat.reduceDiv,Nat.reduceMod,Nat.reduceEqDiff,reduceCtorEq,Yf,WL,RA,NK,LG]
        rfl
   ·have d2:decide (Z3 s (i+1)≠117)=true:=Ze hu
    rw[if_pos hu]
    refine⟨H,i,?_,gr,hi,hi,Zp.refl _ _⟩
    simp(maxSteps:=4000000) (disch:=first|assumption|omega|(simp -implicitDefEqProofs only[ZY,ZZ]<;>first|assumption|omega)|decide) only[d1,iU,d2,ei,cm,ef,UK,J4,ZJ,Yq,Yz,ZO,Yu,WG,YK,Zv,YQ,XK,Vi,Z2,Yv,IE,Zu,ZX,Zw,Zz,ZQ,Yk,WW,Nat.reducePow,Nat.reduceDiv,Nat.reduceMod,Nat.reduceEqDiff,reduceCtorEq,Yf,WL,RA,NK,LG]
  ·simp only at hx hm hd8
   have hs:=Zbq ⟨d,hd8⟩
   simp only at hs
   rw[show nR=[34,92,47,98,102,110,114,116] from rfl] at hx
   rw[hx] at ei
   have ei: ∀{m},ZG (LK Zo fs fuel k) fs fuel (m+1) 13 [.str [34,92,47,98,102,110,114,116],nI .u8 (Z3 s (i+1))] H=.ret (nI .i64 d) H:=λ{m}=>ei
   have sl: ∀G,M8 (.str [34,92,47,8,12,10,13,9]) (some (nI .i64 d)) (some (nI .i64 (d+1))) G=.val (.str [UInt8.ofNat (bD.getD d 0)]) G:=λG=>by
    rw[<-hs];exact Ps (by omega) (show d+1<=8 by omega) .i64 .i64 G
   have e0:decide (0<=d)=true:=Ze (Z1 _)
   simp only[hm]
   refine⟨_,H.put b (rd s (i+2)),?_,ZS ..,by omega,(Zp.refl _ _).then_put λ_=>by simp,rfl⟩
   simp(maxSteps:=4000000) (disch:=first|assumption|omega|(simp -implicitDefEqProofs only[ZY,ZZ]<;>first|assumption|omega)|decide) only[d1,ei,e0,sl,UK,J4,ZJ,Yq,Yz,ZO,Yu,WG,YK,Zv,YQ,XK,Vi,Z2,Yv,IE,Zu,ZX,Zw,Zz,ZQ,Yk,WW,Nat.reducePow,Nat.reduceDiv,Nat.reduceMod,Nat.reduceEqDiff,reduceCtorEq,Yf,WL,RA,NK,LG]
   rfl
 ·have d1:decide (i+1<s.length)=false:=Za Y6
  have iU:decide (s.length<=i+1)=true:=Ze (by omega)
  have e0:Z3 s (i+1)=0:=Gz (by omega)
  rw[e0]
  rw[show C3 0=none from rfl]
  simp only
  rw[if_pos (by decide)]
  refine⟨H,i,?_,gr,hi,hi,Zp.refl _ _⟩
  simp(maxSteps:=4000000) (disch:=first|assumption|omega|(simp -implicitDefEqProofs only[ZY,ZZ]<;>first|assumption|omega)|decide) only[d1,iU,ef,UK,J4,ZJ,Yq,Yz,ZO,Yu,WG,YK,Zv,YQ,XK,Vi,Z2,Yv,IE,Zu,ZX,Zw,Zz,ZQ,Yk,WW,Nat.reducePow,Nat.reduceDiv,Nat.reduceMod,Nat.reduceEqDiff,reduceCtorEq,Yf,WL,RA,NK,LG]
def bI(f:Nat->Nat->Nat->Nat)(a b:Int):Int:=IntKind.i32.wrap (.ofNat (f (Rf .i32) (Qy (Rf .i32) a) (Qy (Rf .i32) b)))
theorem y3(f:Nat->Nat->Nat->Nat)(a b:Int)(G:Zc):Nq f (.int .i32 a) (.int .i32 b) G=.val (.int .i32 (bI f a b)) G:=by
 show ZL (Qd .i32 .i32) (Vm .i32 (.ofNat (f (Rf .i32) (Qy (Rf .i32) a) (Qy (Rf .i32) b))) G)=_
 rw[Y4,YY];rfl
def sI(a:Int)(n:Nat):Int:=IntKind.i32.wrap (Kk a (.ofNat (Nat.pow 2 (cond (Nat.ble n 64) n 64))))
theorem pG(a:Int)(j:IntKind)(n:Nat)(G:Zc):E5 (.int .i32 a) (nI j n) G=.val (.int .i32 (sI a n)) G:=by
 show Vm .i32 (Kk a (.ofNat (Nat.pow 2 (cond (Nat.ble n 64) n 64)))) G=_
 rw[YY];rfl
theorem CG{a:Nat}(ha:a<256)(hb:b<256)(H:Zc):Nq Sf (nI .u8 a) (nI .u8 b) H=.val (nI .u8 (a&&&b)) H:=by
 show ZL (Qd .u8 .u8) (Vm .u8 (.ofNat (Nat.land (a % 256) (b % 256))) H)=_
 rw[Y4,YY,OI,ZV ha,ZV hb]
 show OR.val _ H=_
 rw[show Nat.land a b=a&&&b from rfl,ZV (VJ Nat.and_le_left ha)];rfl
theorem rU{a:Nat}(ha:a<256)(G:Zc):MW .i32 (nI .u8 a) G=.val (.int .i32 (Int.ofNat a)) G:=ug (by omega) G
theorem xD{a c:Nat}(ha:a<256)(G:Zc):MW .i32 (nI .u8 (a&&&c)) G=.val (.int .i32 (Int.ofNat (a&&&c))) G:=rU (VJ Nat.and_le_left ha) G
theorem ZkB{a:Nat}(G:Zc):Nq Mv (.int .i32 (Int.ofNat a)) (.int .i32 (-1)) G=.val (.int .i32 0) G:=by
 show ZL (Qd .i32 .i32) (Vm .i32 (.ofNat (Nat.land (a % 4294967296) 0)) G)=_
 rw[Y4,show Nat.land (a % 4294967296) 0=0 from Nat.and_zero _];rfl
theorem fR(b:Nat)(h: ¬b<128):V4 b=241∨(V4 b<240∧(V4 b % 8=2∨V4 b % 8=3∨V4 b % 8=4)∧V4 b/16<16):=by
 unfold V4
 rw[if_neg h]
 repeat' split
 all_goals first|exact .inl rfl|exact .inr (by decide)
theorem aA(E:Env Zo fs fuel){t:List UInt8}(g:V8 H)(YL:H.ro<=H.nx)(h0:0<t.length)(hl:t.length<4000000000000000000)(ha: ¬Z3 t 0<128):
  ∃x H',ZG (LK Zo fs fuel k) fs fuel (n+1) 201 [.str t] H=.ret (.tup [.int .i32 x,nI .i64 (if Xc t=0 then 1 else Xc t)]) H'∧Zp H H' []∧(Xc t=0->x=65533)∧(Xc t≠0->Xc t≠1):=by
 rw[ZF (ZB E.n201 (.inr rfl) _ _) E.f201]
 have d0:decide (t.length<1)=false:=Za (by omega)
 have hb0:=N0 t 0
 have Q3:=N0 t 1
 obtain⟨r0,gf,lf⟩:=g.fst
 obtain⟨r1,ga,la⟩:=g.acc
 have dw: ∀(G:Zc),zy 256 1 (.ptr 1 0) (nI .u8 (Z3 t 0)) G=.val (.ptr 1 (Z3 t 0)) G:=λG=>by
  show ZL (Nat.ble (Nat.succ (Z3 t 0)) 256) (OR.val (.ptr 1 (Nat.add 0 (Nat.mul (Z3 t 0) 1))) G)=_
  rw[Zg (by omega)]
  show OR.val (.ptr 1 (0+Z3 t 0*1)) G=_
  rw[Zt,Xr]
 have hC:=λG=>lf (Z3 t 0) G hb0
 rcases fR (Z3 t 0) ha with hx|⟨hx,hs,hq⟩
 ·have hr:Xc t=0:=nX ha (by rw[hx];decide) (by rw[hx];decide) (by rw[hx];decide)
  rw[hx] at hC
  have d1:decide (240<=241)=true:=rfl
  have i1: ∀G,MW .i32 (nI .u8 241) G=.val (.int .i32 241) G:=λG=>rfl
  have s1: ∀G,E5 (.int .i32 241) (nI .u64 31) G=.val (.int .i32 (-2147483648)) G:=λG=>rfl
  have s2: ∀G,pH (.int .i32 (-2147483648)) (nI .u64 31) G=.val (.int .i32 (-1)) G:=λG=>rfl
  have i2:=λG=>rU hb0 G
  have b1: ∀G,Nq Sf (nI .i32 65533) (.int .i32 (-1)) G=.val (.int .i32 65533) G:=λG=>rfl
  have b2: ∀G,Nq Re (.int .i32 0) (.int .i32 65533) G=.val (.int .i32 65533) G:=λG=>rfl
  have m0:=λG=>ZkB (a:=Z3 t 0) G
  rw[if_pos hr]
  refine⟨65533,H,?_,Zp.refl _ _,λ_=>rfl,λh=>absurd hr h⟩
  simp(disch:=omega) only[d0,d1,dw,gf,hC,i1,i2,s1,s2,b1,b2,m0,Yv,ZO,Yu,Yz,GB,Zu,ZX,Zw,Yf,WL,]
 ·have d1:decide (240<=V4 (Z3 t 0))=false:=Za (by omega)
  have a7:=λG=>nv (a:=V4 (Z3 t 0)) (by omega) G
  have i7:=λG=>Ek (a:=V4 (Z3 t 0) % 8) (by omega) G
  have sh:=λG=>Zhb (a:=V4 (Z3 t 0)) G
  have ix1: ∀(G:Zc),zy 16 2 (.ptr 2 0) (nI .u8 (V4 (Z3 t 0)/16)) G=.val (.ptr 2 (V4 (Z3 t 0)/16*2)) G:=λG=>by
   show ZL (Nat.ble (Nat.succ (V4 (Z3 t 0)/16)) 16) (OR.val (.ptr 2 (Nat.add 0 (Nat.mul (V4 (Z3 t 0)/16) 2))) G)=_
   rw[Zg (by omega)]
   show OR.val (.ptr 2 (0+V4 (Z3 t 0)/16*2)) G=_
   rw[Zt]
  have i9:=λG=>la (V4 (Z3 t 0)/16) G hq
  have hn2:=λh=>wv (s:=t) ha h
  have lT:=λh=>ww (s:=t) ha h
  have rL:=λh=>wx (s:=t) ha h
  generalize Pj:QZ.getD (V4 (Z3 t 0)/16*2) 0=lo at i9 hn2 lT rL
  generalize hhi:QZ.getD (V4 (Z3 t 0)/16*2+1) 0=hi at i9 hn2 lT rL
  obtain⟨H1,Yo⟩:=WQ (H.new (rH 241 [nI .u8 0,nI .u8 0]))
  obtain⟨H2,XH⟩:=WQ (H1.put H.nx (rH 241 [nI .u8 lo,nI .u8 hi]))
  have lM:H1.t.get H.nx=some (rH 241 [nI .u8 0,nI .u8 0]):=by rw[<-Yo,ZC rfl]
  have Ut: ∀q,FG 2 (some (rH 241 [nI .u8 0,nI .u8 0])) H.nx 0 (.agg [nI .u8 lo,nI .u8 hi]) H1=.val q (H1.put H.nx (rH 241 [nI .u8 lo,nI .u8 hi]))->q=YS:=λq h=>by
   rw[Xg (n:=2) (l:=[nI .u8 0,nI .u8 0]) (vs:=[nI .u8 lo,nI .u8 hi]) (b:=H.nx) (H:=H1) rfl rfl (by decide) (by rw[<-Yo];exact YL) 241 1 false true] at h
   cases h;rfl
  have LD:=Xg (n:=2) (l:=[nI .u8 0,nI .u8 0]) (vs:=[nI .u8 lo,nI .u8 hi]) (b:=H.nx) (H:=H1) rfl rfl (by decide) (by rw[<-Yo];exact YL) 241 1 false true
  rw[XH] at LD
  have gz:H2.t.get H.nx=some (rH 241 [nI .u8 lo,nI .u8 hi]):=by rw[<-XH,ZS]
  have oQ:H.t.get 2=some (.row r1):=ga
  have kk:Zp H H2 []:=by rw[<-XH,<-Yo];exact(Zp.new H _ _).then_put λh=>absurd h (Vw _)
  have pa: ∀{q:Prop} {x:Int} {m:Nat},Xc t=0->(∃y H',(CR.ret (.tup [.int .i32 65533,nI .i64 1]) H2:CR)=.ret (.tup [.int .i32 y,nI .i64 (if Xc t=0 then 1 else Xc t)]) H'∧Zp H H' []∧(Xc t=0->y=65533)∧(Xc t≠0->Xc t≠1)):=λ{_ _ _} hr=>⟨65533,H2,by rw[if_pos hr],kk,λ_=>rfl,λh=>absurd hr h⟩
  have pb: ∀{x:Int} {m:Nat},Xc t=m->m≠0->m≠1->(∃y H',(CR.ret (.tup [.int .i32 x,nI .i64 m]) H2:CR)=.ret (.tup [.int .i32 y,nI .i64 (if Xc t=0 then 1 else Xc t)]) H'∧Zp H H' []∧(Xc t=0->y=65533)∧(Xc t≠0->Xc t≠1)):=λ{x m} hr h1 h2=>⟨x,H2,by rw[if_neg (by omega),hr],kk,λh=>absurd h (by omega),λ_=>by omega⟩
  generalize V4 (Z3 t 0)=F at*
  generalize hsz:F % 8=sz at*
  by_cases e1:t.length<sz
  ·have c1:decide (t.length<sz)=true:=Ze e1
   simp(disch:=omega) only[d0,d1,dw,gf,hC,a7,i7,sh,ix1,oQ,i9,Yo,lM,LD,c1,Yv,ZO,Yu,Yz,GB,Zu,ZX,Zw,Yf,WL,]
   refine pa (q:=True) (x:=0) (m:=0) ?_
   rcases hs with h|h|h
   ·rw[hn2 h,if_pos (.inl (by omega))]
   ·rw[lT h,if_pos (.inl (by omega))]
   ·rw[rL h,if_pos (.inl (by omega))]
  have c1:decide (t.length<sz)=false:=Za e1
  by_cases e2:Z3 t 1<lo
  ·have c2:decide (Z3 t 1<lo)=true:=Ze e2
   simp(disch:=first|assumption|omega|(simp -implicitDefEqProofs only[ZY,ZZ]<;>first|assumption|omega)|decide) only[d0,d1,dw,gf,hC,a7,i7,sh,ix1,oQ,i9,Yo,lM,LD,gz,c1,c2,Yv,ZO,Yu,Yz,ZJ,Zv,GB,Zu,ZX,Zw,Zz,Yf,WL,]
   refine pa (q:=True) (x:=0) (m:=0) ?_
   rcases hs with h|h|h
   ·rw[hn2 h,if_pos (.inr (.inl e2))]
   ·rw[lT h,if_pos (.inr (.inl e2))]
   ·rw[rL h,if_pos (.inr (.inl e2))]
  have c2:decide (Z3 t 1<lo)=false:=Za e2
  by_cases e3:hi<Z3 t 1
  ·have c3:decide (hi<Z3 t 1)=true:=Ze e3
   simp(disch:=first|assumption|omega|(simp -implicitDefEqProofs only[ZY,ZZ]<;>first|assumption|omega)|decide) only[d0,d1,dw,gf,hC,a7,i7,sh,ix1,oQ,i9,Yo,lM,LD,gz,c1,c2,c3,Yv,ZO,Yu,Yz,ZJ,Zv,GB,Zu,ZX,Zw,Zz,Yf,WL,]
   refine pa (q:=True) (x:=0) (m:=0) ?_
   rcases hs with h|h|h
   ·rw[hn2 h,if_pos (.inr (.inr e3))]
   ·rw[lT h,if_pos (.inr (.inr (.inl e3)))]
   ·rw[rL h,if_pos (.inr (.inr (.inl e3)))]
  have c3:decide (hi<Z3 t 1)=false:=Za e3
  by_cases e4:sz<=2
  ·have c4:decide (sz<=2)=true:=Ze e4
   simp(disch:=first|assumption|omega|(simp -implicitDefEqProofs only[ZY,ZZ]<;>first|assumption|omega)|decide) only[d0,d1,dw,gf,hC,a7,i7,sh,ix1,oQ,i9,Yo,lM,LD,gz,c1,c2,c3,c4,y3,pG,CG,xD,Yv,ZO,Yu,WG,Yz,ZJ,Zv,GB,Zu,ZX,Zw,Zz,Yf,WL,RA]
   exact pb (by rw[hn2 (by omega),if_neg (by rintro (h|h|h)<;>omega)]) (by decide) (by decide)
  have c4:decide (sz<=2)=false:=Za e4
  by_cases e5:Z3 t 2<128
  ·have c5:decide (Z3 t 2<128)=true:=Ze e5
   simp(disch:=first|assumption|omega|(simp -implicitDefEqProofs only[ZY,ZZ]<;>first|assumption|omega)|decide) only[d0,d1,dw,gf,hC,a7,i7,sh,ix1,oQ,i9,Yo,lM,LD,gz,c1,c2,c3,c4,c5,Yv,ZO,Yu,WG,Yz,ZJ,Zv,GB,Zu,ZX,Zw,Zz,Yf,WL,RA]
   refine pa (q:=True) (x:=0) (m:=0) ?_
   rcases hs with h|h|h
   ·omega
   ·rw[lT h,if_pos (by simp[e5])]
   ·rw[rL h,if_pos (by simp[e5])]
  have c5:decide (Z3 t 2<128)=false:=Za e5
  by_cases e6:191<Z3 t 2
  ·have c6:decide (191<Z3 t 2)=true:=Ze e6
   simp(disch:=first|assumption|omega|(simp -implicitDefEqProofs only[ZY,ZZ]<;>first|assumption|omega)|decide) only[d0,d1,dw,gf,hC,a7,i7,sh,ix1,oQ,i9,Yo,lM,LD,gz,c1,c2,c3,c4,c5,c6,Yv,ZO,Yu,WG,Yz,ZJ,Zv,GB,Zu,ZX,Zw,Zz,Yf,WL,RA]
   refine pa (q:=True) (x:=0) (m:=0) ?_
   rcases hs with h|h|h
   ·omega
   ·rw[lT h,if_pos (by simp[e6])]
   ·rw[rL h,if_pos (by simp[e6])]
  have c6:decide (191<Z3 t 2)=false:=Za e6
  by_cases e7:sz<=3
  ·have c7:decide (sz<=3)=true:=Ze e7
   simp(disch:=first|assumption|omega|(simp -implicitDefEqProofs only[ZY,ZZ]<;>first|assumption|omega)|decide) only[d0,d1,dw,gf,hC,a7,i7,sh,ix1,oQ,i9,Yo,lM,LD,gz,c1,c2,c3,c4,c5,c6,c7,y3,pG,CG,xD,Yv,ZO,Yu,WG,Yz,ZJ,Zv,GB,Zu,ZX,Zw,Zz,Yf,WL,RA]
   exact pb (by rw[lT (by omega),if_neg (by rintro (h|h|h|h|h)<;>omega)]) (by decide) (by decide)
  have c7:decide (sz<=3)=false:=Za e7
  by_cases e8:Z3 t 3<128
  ·have c8:decide (Z3 t 3<128)=true:=Ze e8
   simp(disch:=first|assumption|omega|(simp -implicitDefEqProofs only[ZY,ZZ]<;>first|assumption|omega)|decide) only[d0,d1,dw,gf,hC,a7,i7,sh,ix1,oQ,i9,Yo,lM,LD,gz,c1,c2,c3,c4,c5,c6,c7,c8,Yv,ZO,Yu,WG,Yz,ZJ,Zv,GB,Zu,ZX,Zw,Zz,Yf,WL,RA,NK]
   refine pa (q:=True) (x:=0) (m:=0) ?_
   rw[rL (by omega),if_pos (by simp[e8])]
  have c8:decide (Z3 t 3<128)=false:=Za e8
  by_cases e9:191<Z3 t 3
  ·have c9:decide (191<Z3 t 3)=true:=Ze e9
   simp(disch:=first|assumption|omega|(simp -implicitDefEqProofs only[ZY,ZZ]<;>first|assumption|omega)|decide) only[d0,d1,dw,gf,hC,a7,i7,sh,ix1,oQ,i9,Yo,lM,LD,gz,c1,c2,c3,c4,c5,c6,c7,c8,c9,Yv,ZO,Yu,WG,Yz,ZJ,Zv,GB,Zu,ZX,Zw,Zz,Yf,WL,RA,NK]
   refine pa (q:=True) (x:=0) (m:=0) ?_
   rw[rL (by omega),if_pos (by simp[e9])]
  have c9:decide (191<Z3 t 3)=false:=Za e9
  simp(disch:=first|assumption|omega|(simp -implicitDefEqProofs only[ZY,ZZ]<;>first|assumption|omega)|decide) only[d0,d1,dw,gf,hC,a7,i7,sh,ix1,oQ,i9,Yo,lM,LD,gz,c1,c2,c3,c4,c5,c6,c7,c8,c9,y3,pG,CG,xD,Yv,ZO,Yu,WG,Yz,ZJ,Zv,GB,Zu,ZX,Zw,Zz,Yf,WL,RA,NK]
  exact pb (by rw[rL (by omega),if_neg (by rintro (h|h|h|h|h|h|h)<;>omega)]) (by decide) (by decide)
theorem Zbn(E:Env Zo fs fuel){t:List UInt8}(g:V8 H)(YL:H.ro<=H.nx)(h0:0<t.length)(hl:t.length<4000000000000000000):
  ∃x H',ZG (LK Zo fs fuel k) fs fuel (n+2) 162 [.str t] H=.ret (.tup [.int .i32 x,nI .i64 (if Xc t=0 then 1 else Xc t)]) H'∧Zp H H' []∧(Xc t=0->x=65533)∧(Xc t=1->x≠65533):=by
 rw[ZF (ZB E.n162 (.inr rfl) _ _) E.f162]
 have e0:decide (t=[])=false:=Za (by intro h;rw[h] at h0;exact absurd h0 (by decide))
 have hb0:=N0 t 0
 by_cases ha:Z3 t 0<128
 ·have d1:decide (Z3 t 0<128)=true:=Ze ha
  have iv:=λG=>rU hb0 G
  rw[PX ha]
  refine⟨Int.ofNat (Z3 t 0),H,?_,Zp.refl _ _,λh=>absurd h (by decide),λ_ h=>by have:(Int.ofNat (Z3 t 0))=Int.ofNat 65533:=h;have:=Int.ofNat.inj this;omega⟩
  simp(disch:=first|assumption|omega|decide) only[e0,d1,iv,Uk,Yz,ZO,if_neg,Nat.one_ne_zero,Zba,Zu,ZX,Zw,Yf]
 ·have d1:decide (Z3 t 0<128)=false:=Za ha
  obtain⟨x,H',e,k1,h1,h2⟩:=aA E (k:=k) (n:=n) g YL h0 hl ha
  refine⟨x,H',?_,k1,h1,λh=>absurd h (h2 (by omega))⟩
  simp(disch:=omega) only[e0,d1,e,Uk,Yz,ZO,Zba,Zu,ZX,Zw,Yf]
theorem oF(n:Nat):(wk n).length<=4:=by
 unfold wk Utf8.encode
 simp only
 generalize(if Utf8.valid (Int.ofNat n)=true then(Int.ofNat n).toNat else Utf8.runeError)=c
 repeat' split
 all_goals first|(show 1<=4;decide)|(show 2<=4;decide)|(show 3<=4;decide)|(show 4<=4;decide)
theorem nS{t:List UInt8}{j:Nat}(h:LA s i=.ok t j):t.length<=4∧i+2<=j:=by
 unfold LA at h
 cases h1:C3 (Z3 s (i+1)) with
 |some d=>
  rw[h1] at h
  injection h with h2 h3
  subst h2;subst h3
  exact⟨by simp,Zj _⟩
 |none=>
  rw[h1] at h
  simp only at h
  by_cases c1:Z3 s (i+1)≠117
  ·rw[if_pos c1] at h;cases h
  rw[if_neg c1] at h
  cases h2:Nb s (i+2) with
  |none=>rw[h2] at h;cases h
  |some c=>
   rw[h2] at h
   simp only at h
   by_cases c2:56320<=c∧c<=57343
   ·rw[if_pos c2] at h;cases h
   rw[if_neg c2] at h
   by_cases c3:55296<=c∧c<=56319
   ·rw[if_pos c3] at h
    by_cases c4:Z3 s (i+6)=92∧Z3 s (i+7)=117
    ·rw[if_pos c4] at h
     cases h5:Nb s (i+8) with
     |none=>rw[h5] at h;cases h
     |some w=>
      rw[h5] at h
      simp only at h
      by_cases c5:56320<=w∧w<=57343
      ·rw[if_pos c5] at h
       injection h with h6 h7
       rw[<-h6,<-h7]
       exact⟨oF _,by omega⟩
      ·rw[if_neg c5] at h;cases h
    ·rw[if_neg c4] at h;cases h
   ·rw[if_neg c3] at h
    injection h with h6 h7
    rw[<-h6,<-h7]
    exact⟨oF _,by omega⟩
theorem JQ.below{H H':Zc}{sb:Nat}{l:List UInt8}(b:JQ H sb l)(hg: ∀c,sb<=c->c<H.nx->H'.t.get c=H.t.get c)(hr:H'.ro=H.ro)(hn:H.nx<=H'.nx):JQ H' sb l:=by
 obtain⟨a,buf,g,h,ha⟩:=b.ok
 exact⟨ZH b.low hn,by rw[hr];exact b.ro,a,buf,by rw[hg _ (Zj _) b.low];exact g,h.below (λc h1 hc=>hg c (by omega) hc) hr hn,ha⟩
structure RQI(H0:Zc)(b sb:Nat)(s:List UInt8)(T:RR (List UInt8))(m:Nat)(tm:TM)(H:Zc):Prop where
 i: ∃i acc,H.t.get b=some (rd s i)∧i<=s.length∧s.length<i+m∧JQ H sb acc∧acc.length<=4*i∧wu s m i acc=T
 t0:Z4 tm=.ptr b 0
 t3:W6 tm=.ptr sb 0
 k:Zp H0 H [b]
 ro:H.ro<=H.nx
def RQQ(H0:Zc)(b:Nat)(s:List UInt8)(T:RR (List UInt8))(o:Out)(tm:TM)(H:Zc):Prop:=
 (∃t j,o=.ret∧Wc tm=.str t∧T=.ok t j∧H.t.get b=some (rd s j)∧j<=s.length∧Zp H0 H [b])∨(∃e p q,o=.pan (MM e p)∧T=.bad e p∧H.t.get b=some (rd s q)∧q<=s.length∧p<=s.length∧Zp H0 H [b])
theorem Zdi(E:Env Zo fs fuel)(hk:3<=k){sb:Nat}{T:RR (List UInt8)}(g0:V8 H0)(Qc:100<=b)(hb:b<H0.nx)(ne:H0.nx<=sb)(eY:H0.ro<=b)(hl:s.length<999998)(y f d r)(x:X)(m:Nat)(tm:TM)(H:Zc)(hI:RQI H0 b sb s T m tm H):
  ∃o Yp H',Pz ⟨ZG (LK Zo fs fuel k) fs fuel (n+3),y,f,d,r⟩ tm H x=.ok o Yp H' x∧((o=.normal∧ ∃q,q<m∧RQI H0 b sb s T q Yp H')∨(o≠.normal∧RQQ H0 b s T o Yp H')):=by
 obtain⟨⟨i,acc,gr,hi,hm,bl,hacc,hT⟩,t0,t3,k0,YL⟩:=hI
 have KQ:=t0;have Di:=t3
 simp only[Pi,J7] at t0 t3
 obtain⟨m,rfl⟩: ∃q,m=q+1:=⟨m - 1,by omega⟩
 have knx:=k0.nx
 have kro:=k0.ro
 have hbH:b<H.nx:=by omega
 have hrb:H.ro<=b:=by omega
 have J4:H.t.get b=some (rH 120 [.str s,nI .i64 i]):=gr
 have en:=λ{j}=>uX E (k:=k) (n:=j) (by omega) gr hbH hrb
 have ef:=λ{j}=>HE E (k:=k) (n:=j) (by omega) gr hbH hrb
 have Zjv:(s.getD i 0).toNat=Z3 s i:=rfl
 rw[Zjv] at en
 have hblow:=bl.low
 have Nk:Z3 s i≠0->i<s.length:=Iy
 replace hT:(if Z3 s i=34 then .ok acc (i+1) else if Z3 s i=92 then(match LA s i with|.bad e p=>.bad e p|.ok t j=>wu s m j (acc++t)) else if Z3 s i<32 then .bad 5 i else if Xc (s.drop i)=0 then .bad 5 i else wu s m (i+Xc (s.drop i)) (acc++(s.drop i).take (Xc (s.drop i))))=T:=hT
 generalize hcc:Z3 s i=cc at en hT Nk
 by_cases h34:cc=34
 ·have c1:decide (cc=34)=true:=Ze h34
  rw[if_pos h34] at hT
  have Y6:=Nk (by omega)
  obtain⟨H1,Yo⟩:=WQ (H.put b (rd s (i+1)))
  have b1:JQ H1 sb acc:=bl.below (λc h1 h2=>by rw[<-Yo,ZD (by omega)]) (by rw[<-Yo];rfl) (by rw[<-Yo];exact Zj _)
  have Znt:H.put b (rH 120 [.str s,nI .i64 (i+1)])=H1:=Yo
  obtain⟨H2,e2,w2⟩:=yX E (k:=k) (n:=n+2) b1 (by omega)
  have g2:H2.t.get b=some (rd s (i+1)):=by rw[w2.get b (by omega) (by rw[<-Yo];exact hbH),<-Yo,ZS]
  have k1:Zp H0 H1 [b]:=by rw[<-Yo];exact k0.then_put λ_=>by simp
  simp(disch:=first|omega|simp only[ZY,ZZ]<;>omega) only[t0,t3,en,J4,c1,Znt,e2,ZJ,Z2,YQ,XK,Pz,Zu,ZX,Zz,Yf,]
  refine⟨_,_,_,rfl,?_⟩
  exact .inr ⟨by simp,.inl ⟨acc,i+1,rfl,rfl,hT.symm,g2,by omega,Below.keepS k1 w2 ne⟩⟩
 have c1:decide (cc=34)=false:=Za h34
 rw[if_neg h34] at hT
 by_cases h92:cc=92
 ·have c2:decide (cc=92)=true:=Ze h92
  rw[if_pos h92] at hT
  have Y6:=Nk (by omega)
  have he:=Zdb E (k:=k) (n:=n) hk gr hbH hrb hl hi YL
  cases hr:LA s i with
  |bad e p=>
   rw[hr] at he hT
   obtain⟨H2,q,e2,g2,hq,hp,k2⟩:=he
   simp only[t0,en,c1,c2,e2,Z2,Pz,Zu,ZX,Zw,Yf,]
   refine⟨_,_,_,rfl,?_⟩
   exact .inr ⟨by simp,.inr ⟨e,p,q,rfl,hT.symm,g2,hq,hp,k0.trans k2 (by simp)⟩⟩
  |ok t j=>
   rw[hr] at he hT
   obtain⟨a,H2,e2,g2,hj,k2,rfl⟩:=he
   obtain⟨ht4,eM⟩:=nS hr
   have k2n:=k2.nx
   have k2r:=k2.ro
   have b2:JQ H2 sb acc:=bl.below (λc h1 h2=>k2.get c h2 (by simp;omega)) k2.ro k2.nx
   obtain⟨H3,e3,b3,w3⟩:=Qs E (k:=k) (n:=n) b2 (m:=t) (by omega) (by omega)
   have g3:H3.t.get b=some (rd s j):=by rw[w3.get b (by omega) (by omega)];exact g2
   have w3n:=w3.nx
   have w3r:=w3.ro
   simp only[t0,t3,en,c1,c2,e2,e3,Z2,Pz,Zu,ZX,Yf,]
   refine⟨_,_,_,rfl,?_⟩
   exact .inl ⟨rfl,m,YZ _,⟨⟨j,acc++t,g3,hj,by omega,b3,by rw[Zm];omega,hT⟩,KQ,Di,Below.keepS (k0.trans k2 (by simp)) w3 ne,by omega⟩⟩
 have c2:decide (cc=92)=false:=Za h92
 rw[if_neg h92] at hT
 by_cases h32:cc<32
 ·have c3:decide (cc<32)=true:=Ze h32
  rw[if_pos h32] at hT
  simp only[t0,en,c1,c2,c3,ef,Z2,ZO,Pz,Zu,ZX,Zw,Yf,]
  refine⟨_,_,_,rfl,?_⟩
  exact .inr ⟨by simp,.inr ⟨5,i,i,rfl,hT.symm,gr,hi,hi,k0⟩⟩
 have c3:decide (cc<32)=false:=Za h32
 rw[if_neg h32] at hT
 have hdl:(s.drop i).length=s.length - i:=Z7 ..
 obtain⟨xx,H2,e2,k2,x0,x1⟩:=Zbn E (k:=k) (n:=n+1) (t:=s.drop i) (H:=H) (g0.keep k0 (by simp;exact Qc)) YL (by omega) (by omega)
 have Tn:=ae (s:=s.drop i) (by omega)
 have htk:(s.take (i+Xc (s.drop i))).drop i=(s.drop i).take (Xc (s.drop i)):=by rw[List.drop_take];congr 1;omega
 generalize hN:Xc (s.drop i)=N at e2 x0 x1 hT Tn htk
 have k2n:=k2.nx
 have k2r:=k2.ro
 have g2:H2.t.get b=some (rd s i):=by rw[k2.get b hbH (by simp)];exact gr
 have Ae:H2.t.get b=some (rH 120 [.str s,nI .i64 i]):=g2
 have b2:JQ H2 sb acc:=bl.keep k2
 have k02:Zp H0 H2 [b]:=k0.trans k2 (by simp)
 by_cases hz:N=0
 ·have xe:=x0 hz
  rw[if_pos hz] at hT e2
  rw[xe] at e2
  have ef2:=λ{j}=>HE E (k:=k) (n:=j) (by omega) g2 (by omega) (by omega)
  have ex: ∀G,LV VN false (.int .i32 65533) (nI .i32 65533) G=.val (.bool true) G:=λG=>rfl
  have e11:decide (1=1)=true:=rfl
  simp(disch:=first|omega|simp only[ZY,ZZ]<;>omega) only[t0,en,c1,c2,c3,J4,XO,e2,ex,ef2,ZJ,Yq,Z2,ZO,Zv,Pz,Zu,ZX,Zw,Zz,ZQ,Yk,Nat.reducePow,Nat.reduceDiv,Nat.reduceMod,Yf,WL]
  refine⟨_,_,_,rfl,?_⟩
  exact .inr ⟨by simp,.inr ⟨5,i,i,rfl,hT.symm,g2,hi,hi,k02⟩⟩
 rw[if_neg hz] at hT e2
 obtain⟨tx,htx⟩:=WQ ((s.drop i).take N)
 have lW:tx.length=N:=by rw[<-htx,Z9];omega
 rw[htx] at htk hT
 have sl: ∀G,M8 (.str s) (some (nI .i64 i)) (some (nI .i64 (i+N))) G=.val (.str tx) G:=λG=>by rw[Ps (by omega) (by omega),htk]
 obtain⟨H3,e3,b3,w3⟩:=Qs E (k:=k) (n:=n) b2 (m:=tx) (by omega) (by omega)
 have w3n:=w3.nx
 have w3r:=w3.ro
 have g3:H3.t.get b=some (rd s i):=by rw[w3.get b (by omega) (by omega)];exact g2
 have g3':H3.t.get b=some (rH 120 [.str s,nI .i64 i]):=g3
 have k03:Zp H0 H3 [b]:=Below.keepS k02 w3 ne
 have fin: ∀{Yp:TM},Z4 Yp=.ptr b 0->W6 Yp=.ptr sb 0->RQI H0 b sb s T m Yp (H3.put b (rd s (i+N))):=λ{Yp} a0 a3=>
  ⟨⟨i+N,acc++tx,ZS ..,by omega,by omega,b3.below (λc h1 h2=>by rw[ZD (by omega)]) rfl (Zj _),by rw[Zm];omega,hT⟩,a0,a3,k03.then_put λ_=>by simp,by show H3.ro<=H3.nx;omega⟩
 by_cases hx:xx=65533
 ·have e11:decide (N=1)=false:=Za (λh=>x1 h hx)
  subst hx
  have ex: ∀G,LV VN false (.int .i32 65533) (nI .i32 65533) G=.val (.bool true) G:=λG=>rfl
  simp(disch:=first|omega|simp only[ZY,ZZ]<;>omega) only[t0,t3,en,c1,c2,c3,J4,XO,e2,ex,e11,Ae,sl,e3,g3',ZJ,Yq,Z2,ZO,YQ,XK,Zv,Pz,Zu,ZX,Zw,Zz,ZQ,Yk,Nat.reducePow,Nat.reduceDiv,Nat.reduceMod,Yf,WL,RA]
  refine⟨_,_,_,rfl,?_⟩
  exact .inl ⟨rfl,m,YZ _,fin KQ Di⟩
 ·have ex: ∀G,LV VN false (.int .i32 xx) (nI .i32 65533) G=.val (.bool false) G:=λG=>by
   rw[show nI .i32 65533=.int .i32 65533 from rfl,fH,Za hx]
  simp(disch:=first|omega|simp only[ZY,ZZ]<;>omega) only[t0,t3,en,c1,c2,c3,J4,XO,e2,ex,Ae,sl,e3,g3',ZJ,Yq,Z2,ZO,YQ,XK,Zv,Pz,Zu,ZX,Zw,Zz,ZQ,Yk,Nat.reducePow,Nat.reduceDiv,Nat.reduceMod,Yf,WL,RA]
  refine⟨_,_,_,rfl,?_⟩
  exact .inl ⟨rfl,m,YZ _,fin KQ Di⟩
theorem nV(E:Env Zo fs fuel)(hk:3<=k)(g:V8 H)(Qc:100<=b)(gr:H.t.get b=some (rd s i))(hb:b<H.nx)(YL:H.ro<=b)(hl:s.length<999998)(hi:i<=s.length)(o7:H.ro<=H.nx):
  mI H b s (ZG (LK Zo fs fuel k) fs fuel (n+4) 119 [.ptr b 0] H) (λv a _=>a=.str v) (rq s i):=by
 rw[ZF (ZB E.n119 (.inr rfl) _ _) E.f119]
 have ew:=pk E (k:=k) (n:=n+1) hk gr hb YL hl hi (c:=34) (by decide)
 have MT:=R3 s i hi
 unfold rq
 generalize hj:Z5 s i=j at ew MT ⊢
 by_cases h:Z3 s j=34
 ·rw[if_pos h] at ew ⊢
  have Y6:=Iy (s:=s) (i:=j) (by omega)
  obtain⟨H1,Yo⟩:=WQ (H.put b (rd s (j+1)))
  rw[Yo] at ew
  have VH:H1.nx=H.nx:=by rw[<-Yo];rfl
  have Nn:H1.ro=H.ro:=by rw[<-Yo];rfl
  have bn:=JQ.new (H:=H1) (by omega)
  obtain⟨H2,XH⟩:=WQ (H1.new (rH 35 [.nilp,.nils]))
  rw[XH] at bn
  have g2:H2.t.get b=some (rd s (j+1)):=by rw[<-XH,ZK (by omega),<-Yo,ZS]
  have k1:Zp H H1 [b]:=by rw[<-Yo];exact(Zp.refl _ _).then_put λ_=>by simp
  have k2:Zp H H2 [b]:=by rw[<-XH];exact k1.then_new _
  simp only[ew,XH,Za3,Zu,ZX,Yf]
  generalize hL:WR (Pz _) fuel _ _ _=L
  obtain⟨o,SY,H3,rfl,_,hq⟩:=Y9 (P:=λT=>RQI H b H1.nx s (wu s (s.length+1) (j+1) []) (s.length+1) T H2) (Q:=RQQ H b s (wu s (s.length+1) (j+1) []))
   (λT R0=>Xk (RQI H b H1.nx s (wu s (s.length+1) (j+1) [])) _ (λm tm H' h'=>Zdi E (n:=n) hk g Qc hb (by omega) YL hl _ _ _ _ _ m tm H' h') fuel (s.length+1) T H2 (by have:=E.big;omega) R0) hL
   ⟨⟨j+1,[],g2,by omega,by omega,bn,Z1 _,rfl⟩,rfl,rfl,k2,by rw[<-XH];show H1.ro<=H1.nx+1;omega⟩
  rcases hq with⟨t,q,rfl,t2,hT,g3,hq,k3⟩|⟨e,p,q,rfl,hT,g3,hq,hp,k3⟩
  ·simp only[N6] at t2
   rw[hT]
   refine⟨.str t,H3,?_,g3,hq,k3,rfl⟩
   simp only[t2,Zu,Zw,Yf]
  ·rw[hT]
   refine⟨H3,q,?_,g3,hq,hp,k3⟩
   simp only[Zw,]
 ·rw[if_neg h] at ew ⊢
  refine⟨H.put b (rd s j),j,?_,ZS ..,MT,MT,(Zp.refl _ _).then_put λ_=>by simp⟩
  simp only[ew,Za3,Zu,ZX,Zw,Yf]
end
def Jz(H:Zc)(S:Nat->Prop):Nat->JV->List AV->Prop
 |0,_,_=>False
 |h+1,.mk k b n s l m,cs=> ∃lv mv ls ms,cs=[nI .i64 k,.bool b,.int .i64 n,.str s,lv,mv]∧ -9223372036854775808<=n∧n<9223372036854775808∧(Sl H 6 lv ls∧Off S lv)∧(Sl H 7 mv ms∧Off S mv)∧ls.length=l.length∧ms.length=m.length∧
  (∀i,i<l.length->Jz H S h (l.getD i default) (ls.getD i []))∧ ∀i,i<m.length-> ∃t,ms.getD i []=.str (m.getD i default).1::t∧Jz H S h (m.getD i default).2 t
theorem Jz.len{H:Zc}{S:Nat->Prop}: ∀{h:Nat} {v:JV} {cs:List AV},Jz H S h v cs->cs.length=6
 |h+1,.mk _ _ _ _ l m,cs,⟨lv,mv,ls,ms,e,_⟩=>by rw[e];rfl
theorem Jz.move{X Y:Zc}{S S':Nat->Prop}(hg: ∀c,c<X.nx-> ¬S c->Y.t.get c=X.t.get c)(hn:X.nx<=Y.nx)(hs: ∀c,c<X.nx->S' c->S c): ∀{h:Nat} {v:JV} {cs:List AV},Jz X S h v cs->Jz Y S' h v cs
 |h+1,.mk _ _ _ _ l m,cs,⟨lv,mv,ls,ms,e,a1,a2,sl,sm,e1,e2,hl,hm⟩=>
  ⟨lv,mv,ls,ms,e,a1,a2,Sl.move2 hg hn hs sl,Sl.move2 hg hn hs sm,e1,e2,λi hi=>(hl i hi).move hg hn hs,λi hi=>by
   obtain⟨t,c,d⟩:=hm i hi
   exact⟨t,c,d.move hg hn hs⟩⟩
def Iw:Nat->JV->Prop
 |0,_=>True
 |h+1,.mk _ _ _ s l m=>s.length<=9000∧l.length<=9000∧m.length<=9000∧(∀x∈l,Iw h x)∧ ∀e∈m,e.1.length<=9000∧Iw h e.2
theorem pF{α:Type}[Inhabited α]{l:List α}{i:Nat}(h:i<l.length):l.getD i default∈l:=by
 rw[Zf,Zi h];exact YJ h
theorem Jz.vr{H:Zc}{S:Nat->Prop}: ∀{h:Nat} {v:JV} {cs:List AV},Jz H S h v cs->Iw h v->VR H h v cs
 |h+1,.mk _ _ _ _ l m,cs,⟨lv,mv,ls,ms,e,a1,a2,sl,sm,e1,e2,hl,hm⟩,⟨b1,b2,b3,b4,b5⟩=>
  ⟨lv,mv,ls,ms,e,a1,a2,b1,b2,b3,sl.1,sm.1,e1,e2,λi hi=>(hl i hi).vr (b4 _ (pF hi)),λi hi=>by
   obtain⟨t,c,d⟩:=hm i hi
   exact⟨(b5 _ (pF hi)).1,t,c,d.vr (b5 _ (pF hi)).2⟩⟩
section
variable {Zo:NJ} {fs:T CF} {fuel k n i h b:Nat} {H H0:Zc} {s:List UInt8} {cs:List AV}
def hX{β:Type}(H0:Zc)(b:Nat)(s:List UInt8)(r:CR)(P:β->Zc->Prop)(i:Nat):RR β->Prop
 |.ok v j=> ∃H',r=.ret (.tup []) H'∧H'.t.get b=some (rd s j)∧j<=s.length∧i<=j∧Zp H0 H' [b]∧P v H'
 |.bad e p=> ∃H' q,r=.pan (MM e p) H'∧H'.t.get b=some (rd s q)∧q<=s.length∧p<=s.length∧Zp H0 H' [b]
theorem ic(s:List UInt8)(i:Nat):Z5 s (Z5 s i)=Z5 s i:=by
 apply mj
 unfold Z5
 have key: ∀l:List UInt8,blk ((l.drop ((l.takeWhile blk).length)).getD 0 0)=false:=by
  intro l
  induction l with
  |nil=>rfl
  |cons a l ih=>
   cases ha:blk a with
   |true=>rw[Wn ha,Zl,Ve];exact ih
   |false=>rw[Wm (by rw[ha];simp)];exact ha
 have:=key (s.drop i)
 rw[U8] at this
 rw[Zf,X9,Zv] at this
 rw[Zf];exact this
structure MI{α:Type}(H0:Zc)(b c q:Nat)(bs:List AV)(s:List UInt8)(one:List α->Nat->RR α)(St:List α->Zc->Prop)(T:RR (List α))(m:Nat)(tm:TM)(H:Zc):Prop where
 i: ∃i acc,H.t.get b=some (rd s i)∧i<=s.length∧s.length<i+m∧St acc H∧RO s c one m i acc=T∧acc.length<=i
 t0:Z4 tm=.ptr b 0
 t1:Xz tm=nI .u8 c
 t2:Wc tm=.func q [] bs
 k:Zp H0 H [b]
def MQ{α:Type}(H0:Zc)(b:Nat)(s:List UInt8)(St:List α->Zc->Prop)(T:RR (List α))(o:Out)(H:Zc):Prop:=
 (∃l j,o=.exit 0∧T=.ok l j∧H.t.get b=some (rd s j)∧j<=s.length∧Zp H0 H [b]∧St l H)∨(∃e p q,o=.pan (MM e p)∧T=.bad e p∧H.t.get b=some (rd s q)∧q<=s.length∧p<=s.length∧Zp H0 H [b])
theorem NF(s:List UInt8)(i:Nat):i<=Z5 s i:=by unfold Z5;omega
theorem ZgA(E:Env Zo fs fuel)(hk:3<=k){α:Type}{c q:Nat}{bs:List AV}{one:List α->Nat->RR α}{St:List α->Zc->Prop}{T:RR (List α)}(hb:b<H0.nx)(eY:H0.ro<=b)(hl:s.length<999998)(hc:c≠0)
  (Al: ∀acc H j,St acc H->St acc (H.put b (rd s j)))
  (UL: ∀acc H i,St acc H->acc.length<=i->H.t.get b=some (rd s i)->i<=s.length->Zp H0 H [b]->hX H0 b s (ZG (LK Zo fs fuel k) fs fuel (n+2) q bs H) (λv H'=>St (acc++[v]) H') i (one acc i))
  (y f d r)(x:X)(m:Nat)(tm:TM)(H:Zc)(hI:MI H0 b c q bs s one St T m tm H):
  ∃o Yp H',ME ⟨ZG (LK Zo fs fuel k) fs fuel (n+2),y,f,d,r⟩ tm H x=.ok o Yp H' x∧((o=.normal∧ ∃q',q'<m∧MI H0 b c q bs s one St T q' Yp H')∨(o≠.normal∧MQ H0 b s St T o H')):=by
 obtain⟨⟨i,acc,gr,hi,hm,st,hT,hal⟩,t0,t1,t2,k0⟩:=hI
 have KQ:=t0;have Px:=t1;have mD:=t2
 simp only[Pi,PO,N6] at t0 t1 t2
 obtain⟨m,rfl⟩: ∃q,m=q+1:=⟨m - 1,by omega⟩
 have knx:=k0.nx
 have kro:=k0.ro
 have et:=bJ E (k:=k) (n:=n) hk gr (by omega) (by omega) hl hi hc
 have MT:=R3 s i hi
 have lP:=NF s i
 replace hT:(if Z3 s (Z5 s i)=c then .ok acc (Z5 s i+1) else if Z3 s (Z5 s i)≠44 then .bad 5 (Z5 s i) else match one acc (Z5 s i+1) with|.bad e p=>.bad e p|.ok v k=>RO s c one m k (acc++[v]))=T:=hT
 have hsj:Z5 s (Z5 s i)=Z5 s i:=ic s i
 generalize hj:Z5 s i=j at*
 obtain⟨H1,Yo⟩:=WQ (H.put b (rd s j))
 by_cases h:Z3 s j=c
 ·rw[if_pos h] at et hT
  have Y6:=Iy (s:=s) (i:=j) (by omega)
  simp only[t0,t1,et,ME,Zu,ZX,Zz,Yf]
  refine⟨_,_,_,rfl,?_⟩
  exact .inr ⟨by simp,.inl ⟨acc,j+1,rfl,hT.symm,ZS ..,by omega,k0.then_put λ_=>by simp,Al _ _ _ st⟩⟩
 rw[if_neg h,Yo] at et
 rw[if_neg h] at hT
 have g1:H1.t.get b=some (rd s j):=by rw[<-Yo,ZS]
 have n1:H1.nx=H.nx:=by rw[<-Yo];rfl
 have r1:H1.ro=H.ro:=by rw[<-Yo];rfl
 have k1:Zp H0 H1 [b]:=by rw[<-Yo];exact k0.then_put λ_=>by simp
 have st1:St acc H1:=by rw[<-Yo];exact Al _ _ _ st
 have ew:=pk E (k:=k) (n:=n) hk g1 (by omega) (by omega) hl MT (c:=44) (by decide)
 rw[hsj] at ew
 by_cases h2:Z3 s j=44
 ·rw[if_pos h2] at ew
  rw[if_neg (by simp[h2])] at hT
  have Y6:=Iy (s:=s) (i:=j) (by omega)
  obtain⟨H2,XH⟩:=WQ (H1.put b (rd s (j+1)))
  rw[XH] at ew
  have g2:H2.t.get b=some (rd s (j+1)):=by rw[<-XH,ZS]
  have k2:Zp H0 H2 [b]:=by rw[<-XH];exact k1.then_put λ_=>by simp
  have st2:St acc H2:=by rw[<-XH];exact Al _ _ _ st1
  have ho:=UL acc H2 (j+1) st2 (by omega) g2 (by omega) k2
  cases hr:one acc (j+1) with
  |bad e p=>
   rw[hr] at ho hT
   obtain⟨H3,q3,e3,g3,hq3,hp3,k3⟩:=ho
   simp only[t0,t1,t2,et,ew,e3,ME,Zu,ZX,Zw,Zz,Yf]
   refine⟨_,_,_,rfl,?_⟩
   exact .inr ⟨by simp,.inr ⟨e,p,q3,rfl,hT.symm,g3,hq3,hp3,k3⟩⟩
  |ok v j3=>
   rw[hr] at ho hT
   obtain⟨H3,e3,g3,hj3,eM,k3,Tl⟩:=ho
   simp only[t0,t1,t2,et,ew,e3,ME,Zu,ZX,Zw,Zz,Yf]
   refine⟨_,_,_,rfl,?_⟩
   exact .inl ⟨rfl,m,YZ _,⟨⟨j3,acc++[v],g3,hj3,by omega,Tl,hT,by rw[Zm,Zl,ZA];omega⟩,KQ,Px,mD,k3⟩⟩
 ·rw[if_neg h2] at ew
  rw[if_pos h2] at hT
  have k2:Zp H0 (H1.put b (rd s j)) [b]:=k1.then_put λ_=>by simp
  simp only[t0,t1,et,ew,ME,Zu,ZX,Zw,Zz,Yf]
  refine⟨_,_,_,rfl,?_⟩
  exact .inr ⟨by simp,.inr ⟨5,j,j,rfl,hT.symm,ZS ..,MT,MT,k2⟩⟩
theorem ut(E:Env Zo fs fuel)(hk:3<=k){α:Type}{c q:Nat}{bs:List AV}{one:List α->Nat->RR α}{St:List α->Zc->Prop}(hb:b<H0.nx)(eY:H0.ro<=b)(hl:s.length<999998)(hc:c≠0)
  (Al: ∀acc H j,St acc H->St acc (H.put b (rd s j)))
  (UL: ∀acc H i,St acc H->acc.length<=i->H.t.get b=some (rd s i)->i<=s.length->Zp H0 H [b]->hX H0 b s (ZG (LK Zo fs fuel k) fs fuel (n+2) q bs H) (λv H'=>St (acc++[v]) H') i (one acc i))
  (gr:H.t.get b=some (rd s i))(hi:i<=s.length)(h1:1<=i)(k0:Zp H0 H [b])(st:St [] H):
  hX H0 b s (ZG (LK Zo fs fuel k) fs fuel (n+3) 163 [.ptr b 0,nI .u8 c,.func q [] bs] H) St 0 (RF s c one i):=by
 rw[ZF (ZB E.n163 (.inr rfl) _ _) E.f163]
 have knx:=k0.nx
 have kro:=k0.ro
 have et:=bJ E (k:=k) (n:=n) hk gr (by omega) (by omega) hl hi hc
 have MT:=R3 s i hi
 have hgi:=NF s i
 unfold RF
 generalize hj:Z5 s i=j at et MT hgi ⊢
 by_cases h:Z3 s j=c
 ·rw[if_pos h] at et ⊢
  have Y6:=Iy (s:=s) (i:=j) (by omega)
  refine⟨H.put b (rd s (j+1)),?_,ZS ..,by omega,Z1 _,k0.then_put λ_=>by simp,Al _ _ _ st⟩
  simp only[et,gM,Zu,ZX,Zw,Yf]
 ·rw[if_neg h] at et ⊢
  obtain⟨H1,Yo⟩:=WQ (H.put b (rd s j))
  rw[Yo] at et
  have g1:H1.t.get b=some (rd s j):=by rw[<-Yo,ZS]
  have k1:Zp H0 H1 [b]:=by rw[<-Yo];exact k0.then_put λ_=>by simp
  have st1:St [] H1:=by rw[<-Yo];exact Al _ _ _ st
  have ho:=UL [] H1 j st1 (Z1 _) g1 MT k1
  cases hr:one [] j with
  |bad e p=>
   rw[hr] at ho
   obtain⟨H3,q3,e3,g3,hq3,hp3,k3⟩:=ho
   refine⟨H3,q3,?_,g3,hq3,hp3,k3⟩
   simp only[et,e3,gM,Zu,ZX,Zw,Zz,Yf]
  |ok v j3=>
   rw[hr] at ho
   obtain⟨H3,e3,g3,hj3,eM,k3,Tl⟩:=ho
   simp only
   simp only[et,e3,gM,Zu,ZX,Zw,Zz,Yf]
   generalize hL:WR (ME _) fuel _ _ _=L
   obtain⟨o,SY,H4,rfl,_,hq⟩:=Y9 (P:=λT=>MI H0 b c q bs s one St (RO s c one (s.length+1) j3 [v]) (s.length+1) T H3) (Q:=λo _ H'=>MQ H0 b s St (RO s c one (s.length+1) j3 [v]) o H')
    (λT R0=>Xk (MI H0 b c q bs s one St (RO s c one (s.length+1) j3 [v])) _ (λm tm H' h'=>ZgA E (n:=n) hk hb eY hl hc Al UL _ _ _ _ _ m tm H' h') fuel (s.length+1) T H3 (by have:=E.big;omega) R0) hL
    ⟨⟨j3,[v],g3,hj3,by omega,Tl,rfl,by show 1<=j3;omega⟩,rfl,rfl,rfl,k3⟩
   rcases hq with⟨l,j4,rfl,hT,g4,hj4,k4,Wf⟩|⟨e,p,q4,rfl,hT,g4,hq4,hp4,k4⟩
   ·rw[hT]
    refine⟨H4,?_,g4,hj4,Z1 _,k4,Wf⟩
    simp only[Zu,Zw,]
   ·rw[hT]
    refine⟨H4,q4,?_,g4,hq4,hp4,k4⟩
    simp only[Zw,]
end
theorem pq{H:Zc}{v:AV}{e e1 sz bytes tb:Nat}{ls:List (List AV)}{lo:Nat}(h:V0 H v e sz ls lo)(hsz:1<=sz)(hby:1<=bytes)(hl:(ls.length+1)*bytes<=140737488355328)(YL:H.ro<=H.nx)(Pj:lo<=H.nx){x:List AV}(hx:x.length=sz)(gx:H.t.get tb=some (rG e1 sz x 0 false true true)):
  ∃v' H',Uw e sz bytes v (.slice tb 0 1 none) H=.val v' H'∧Q8 v e sz bytes H 1 x=.val v' H'∧V0 H' v' e sz (ls++[x]) lo∧Below lo H H':=by
 have cx:=V7.new e1 sz x 0 false true true
 have ap:Uw e sz bytes v (.slice tb 0 1 none) H=Q8 v e sz bytes H 1 x:=by
  show ZL (Nat.ble 1 sz) (ZL (Nat.ble 1 bytes) (Wt H sz (.slice tb 0 1 none) 1 λnew=>Q8 v e sz bytes H 1 new))=_
  rw[Zg hsz,Zg hby]
  show(Wt H sz (.slice tb 0 1 none) 1 λnew=>Q8 v e sz bytes H 1 new)=_
  have gx':H.t.get tb=some (.row ⟨e1,sz,YH x,T.ofList x,.unk,0,false,true,true⟩):=gx
  generalize(⟨e1,sz,YH x,T.ofList x,.unk,0,false,true,true⟩:Row)=r0 at gx' cx
  unfold Wt Y3
  simp only[gx']
  show ZL (Nat.ble (0+1*sz) r0.size) (Q8 v e sz bytes H 1 (loadN r0 0 (1*sz)))=_
  rw[U0,cx.size,hx,Zg (show 0+sz<=sz by omega)]
  have:=cx.load (o:=0) (n:=sz) (by omega)
  rw[this,Ye,ZM (by omega)]
  rfl
 rw[ap]
 suffices hh: ∃v' H',Q8 v e sz bytes H 1 x=.val v' H'∧V0 H' v' e sz (ls++[x]) lo∧Below lo H H' by
  obtain⟨v',H',a,b,c⟩:=hh
  exact⟨v',H',a,a,b,c⟩
 rcases h with⟨rfl,rfl⟩|⟨VY,b,r,rfl,g,hb⟩
 ·refine⟨.slice H.nx 0 1 none,H.newRow e sz x false,?_,.inr ⟨by simp,H.nx,_,rfl,⟨by rw[OM,QL,if_pos rfl],rfl,rfl,rfl,rfl,rfl,rfl,by simpa using V7.new e sz x 0 false true false,λl hm=>by simp at hm;rw[hm];exact hx,by show H.ro<=H.nx;omega,YZ _⟩,by omega⟩,Below.new lo H _⟩
  show ZL (Nat.ble (1*bytes) 140737488355328) (OR.val (.slice H.nx 0 1 none) (H.newRow e sz x false))=_
  rw[Zg (by simpa using hl)];rfl
 ·have g1:Lr H b e sz ls r:=g
  have hs:=g1.size
  have GX:Uo r 0 none=ls.length:=by
   show cond (Nat.beq r.sz 1) (r.size - 0) ((r.size - 0)/r.sz)=_
   rw[g1.szr,hs,Qx]
   by_cases h1:sz=1
   ·subst h1;show ls.length*1=_;omega
   ·rw[Ym,Za h1]
    exact TA _ (by omega)
  have Rb:H.may r b=true:=by unfold Zc.may;rw[g1.own,Zg g1.ro];rfl
  have hlen:(ls.length+1)*sz=ls.length*sz+sz:=by rw[XQ];omega
  refine⟨.slice H.nx 0 (ls++[x]).length none,⟨Nat.succ H.nx,(H.t.del b).set H.nx (.row ⟨r.elem,sz,(ls.length+1)*sz,XM r.cells (ls.length*sz) x,r.dflt,r.fz,r.sm,true,false⟩),H.ro⟩,?_,.inr ⟨by simp,H.nx,⟨r.elem,sz,(ls.length+1)*sz,XM r.cells (ls.length*sz) x,r.dflt,r.fz,r.sm,true,false⟩,rfl,⟨by rw[T.get_set,if_pos rfl],g1.elem,rfl,rfl,g1.fz,g1.sm,rfl,?_,?_,Yt g1.ro (PG g1.low),YZ _⟩,by omega⟩,⟨XZ _,rfl,λc hc hn=>?_⟩⟩
  ·show Y3 H b _=_
   unfold Y3
   simp only[g1.at_]
   have h1:Jx r sz none=true:=by show Nat.beq r.sz sz=true;rw[g1.szr,Yb]
   have h2:Nat.ble (Nat.add ls.length 1) (Uo r 0 none)=false:=by
    rw[GX]
    cases h:Nat.ble (Nat.add ls.length 1) ls.length with
    |false=>rfl
    |true=>have:=ZN h;have:ls.length+1<=ls.length:=this;omega
   rw[h1,h2]
   show ZL (Nat.ble ((ls.length+1)*bytes) 140737488355328) (ZL (Nat.ble (0+ls.length*sz) r.size) (cond r.exact _ (LI H e b 0 ls.length 1 sz r x)))=_
   rw[Zg hl,hs,Zt,Zg (Zj _),g1.exact_]
   show ZL (Nat.beq r.elem e) (ZL (H.may r b) (ZL (Nat.ble r.fz (ls.length*sz)) (ZL (Nat.beq (ls.length*sz) r.size) (ZL (Nat.beq 0 0) _))))=_
   rw[g1.elem,Yb,Rb,g1.fz,Zg (Z1 _),hs,Yb]
   show OR.val (.slice H.nx 0 (ls.length+1) none) _=_
   rw[Zm]
   rfl
  ·have hf:=TZ g1.each
   refine⟨by show(ls.length+1)*sz=_;rw[VE,Zm,hf];simp[hx];omega,λi hi=>?_⟩
   rw[VE,Zm,hf] at hi
   have e1:[x].flatten=x:=by simp
   rw[e1] at hi
   rw[Row.get_eq]
   show((XM r.cells (ls.length*sz) x).get i).getD r.dflt=_
   rw[Ss,Zf,VE,e1]
   by_cases h1:ls.length*sz<=i
   ·rw[if_pos ⟨h1,by omega⟩,YI (by omega),hf,Zi (show i - ls.length*sz<x.length by omega)];rfl
   ·rw[if_neg (by omega),Yr (by omega)]
    have:=g1.cells.get i (by omega)
    rw[Row.get_eq,Zf] at this
    exact this
  ·intro l hm
   rcases Zs.1 hm with hm|hm
   ·exact g1.each l hm
   ·simp at hm;rw[hm];exact hx
  ·show((H.t.del b).set H.nx _).get c=_
   rw[T.get_set,if_neg (by omega),T.get_del,if_neg (by omega)]
theorem C5{H:Zc}{v:AV}{e e1 sz bytes tb:Nat}{ls:List (List AV)}{lo:Nat}(h:V0 H v e sz ls lo)(hsz:1<=sz)(hby:1<=bytes)(hl:(ls.length+1)*bytes<=140737488355328)(YL:H.ro<=H.nx)(Pj:lo<=H.nx){x:List AV}(hx:x.length=sz)(gx:H.t.get tb=some (rG e1 sz x 0 false true true)):
  ∃v' H',Uw e sz bytes v (.slice tb 0 1 none) H=.val v' H'∧V0 H' v' e sz (ls++[x]) lo∧Below lo H H'∧
   (∀c,c<H.nx->(∀b o l q,v=.slice b o l q->c≠b)->H'.t.get c=H.t.get c)∧ ∀b o l q,v'=.slice b o l q->H.nx<=b:=by
 obtain⟨v',H',ea,ax,rb,w⟩:=pq h hsz hby hl YL Pj hx gx
 refine⟨v',H',ea,rb,w,λc hc hv=>AD ax hc hv,λb o l q e'=>?_⟩
 have:=vd ax (λb o l q ev r hr=>by
  rcases h with⟨_,rfl⟩|⟨_,b2,r2,rfl,g,_⟩
  ·cases ev
  ·cases ev
   rw[g.at_] at hr
   cases hr
   have GX:Uo r 0 none=ls.length:=by
    show cond (Nat.beq r.sz 1) (r.size - 0) ((r.size - 0)/r.sz)=_
    rw[g.szr,g.size,Qx]
    by_cases h1:sz=1
    ·subst h1;show ls.length*1=_;omega
    ·rw[Ym,Za h1]
     exact TA _ (by omega)
   rw[GX]
   cases h:Nat.ble (Nat.add ls.length 1) ls.length with
   |false=>rfl
   |true=>have:=ZN h;have:ls.length+1<=ls.length:=this;omega) b o l q e'
 omega
theorem V0.last{H:Zc}{v:AV}{e sz lo:Nat}{ls:List (List AV)}{z x:List AV}(h:V0 H v e sz (ls++[z]) lo)(hsz:1<=sz)(hx:x.length=sz):
  ∃bb H',v=.slice bb 0 (ls.length+1) none∧FG sz (H.t.get bb) bb (ls.length*sz) (.agg x) H=.val YS H'∧V0 H' v e sz (ls++[x]) lo∧H'.nx=H.nx∧H'.ro=H.ro∧(∀c,c≠bb->H'.t.get c=H.t.get c)∧lo<=bb∧bb<H.nx:=by
 rcases h with⟨h1,_⟩|⟨_,b,r,rfl,g,hb⟩
 ·simp at h1
 have hz:z.length=sz:=g.each z (by simp)
 have hl: ∀l∈ls,l.length=sz:=λl hm=>g.each l (by simp[hm])
 have hf:=TZ hl
 have ZjG:(ls++[z]).flatten=ls.flatten++z:=by simp
 have hc:=g.cells
 rw[ZjG] at hc
 have st:=pU (v:=.agg x) (o:=ls.length*sz) (n:=sz) g.at_ hc g.own g.ro g.fz hsz hx (by rw[Zm,hf];omega)
 have Gr:=hc.store (o:=ls.length*sz) (vs:=x) (by rw[Zm,hf];omega)
 have e1:(ls.flatten++z).take (ls.length*sz)++(x++(ls.flatten++z).drop (ls.length*sz+x.length))=(ls++[x]).flatten:=by
  rw[List.take_append_of_le_length (by omega),ZM (by omega),Y0 (by rw[Zm];omega)]
  simp
 rw[e1] at Gr
 refine⟨b,_,?_,st,.inr ⟨by simp,b,_,?_,⟨ZS ..,g.elem,g.szr,g.own,g.fz,g.sm,g.exact_,Gr,λl hm=>?_,g.ro,g.low⟩,hb⟩,rfl,rfl,λc hc=>ZD (λe=>hc e.symm) ..,hb,g.low⟩
 ·rw[Zm];rfl
 ·rw[Zm,Zm];rfl
 ·rcases Zs.1 hm with h2|h2
  ·exact hl l h2
  ·rw[Y1.1 h2];exact hx
structure Xl(H:Zc)(h:Nat)(bv:AV)(lo:Nat)(l:List JV):Prop where
 ok: ∃bb ls,V0 H bv 27 6 ls lo∧(∀c o n q,bv=.slice c o n q->c=bb)∧ls.length=l.length∧ ∀q,q<l.length->Jz H (λc=>c<lo∨c=bb) h (l.getD q default) (ls.getD q [])
theorem Xl.start(H:Zc)(h lo:Nat):Xl H h .nils lo []:=⟨0,[],.inl ⟨rfl,rfl⟩,λ_ _ _ _ e=>(by cases e),rfl,λq hq=>absurd hq (Xa _)⟩
theorem Xl.buf{H:Zc}{h:Nat}{bv:AV}{lo:Nat}{l:List JV}(s:Xl H h bv lo l): ∃ls,V0 H bv 27 6 ls lo∧ls.length=l.length:=by
 obtain⟨bb,ls,rb,_,e,_⟩:=s.ok
 exact⟨ls,rb,e⟩
theorem Xl.keep{H H':Zc}{h:Nat}{bv:AV}{lo:Nat}{l:List JV}(s:Xl H h bv lo l)(hg: ∀c,c<H.nx->lo<=c->H'.t.get c=H.t.get c)(YL:H'.ro=H.ro)(hn:H.nx<=H'.nx):Xl H' h bv lo l:=by
 obtain⟨bb,ls,rb,B4,e,hv⟩:=s.ok
 refine⟨bb,ls,rb.below (λc h1 h2=>hg c h2 h1) YL hn,B4,e,λq hq=>?_⟩
 exact(hv q hq).move (λc hc hS=>hg c hc (by rcases Un c lo with h1|h1;exact absurd (.inl h1) hS;exact h1)) hn (λc hc hS=>hS)
theorem Xl.push{H HT H2:Zc}{h b tb:Nat}{bv:AV}{lo:Nat}{l:List JV}{v:JV}{cs:List AV}(s:Xl H h bv lo l)(hT1: ∀c,c<H.nx->lo<=c->HT.t.get c=H.t.get c)(hT2:HT.ro=H.ro)(hT3:H.nx<=HT.nx)(gx:H2.t.get tb=some (rG 27 6 zV 0 false true true))(k:Zp HT H2 [b])(hb:b<lo)(Pj:lo<=H.nx)(rO:H2.ro<=H2.nx)(hr:Jz H2 (λc=>c<HT.nx) h v cs)(hl:l.length<=1000000000):
  ∃P4 H3 bb H4,Uw 27 6 88 bv (.slice tb 0 1 none) H2=.val P4 H3∧P4=.slice bb 0 (l.length+1) none∧FG 6 (H3.t.get bb) bb (l.length*6) (.agg cs) H3=.val YS H4∧Xl H4 h P4 lo (l++[v])∧Below lo H2 H4∧Below lo H2 H3∧bb<H3.nx:=by
 obtain⟨bb,ls,rb,B4,e,hv⟩:=s.ok
 have knx:=k.nx
 have rbT:V0 HT bv 27 6 ls lo:=rb.below (λc h1 h2=>hT1 c h2 h1) hT2 hT3
 have rb2:V0 H2 bv 27 6 ls lo:=rbT.below (λc h1 h2=>k.get c h2 (by simp;omega)) k.ro k.nx
 obtain⟨P4,H3,ea,rb3,w3,only,fresh⟩:=C5 rb2 (bytes:=88) (by omega) (by omega) (by omega) rO (by omega) (x:=zV) (by rfl) gx
 obtain⟨b4,H4,hb4,st,rb4,nH,pz,oth,Zn1,rL⟩:=rb3.last (x:=cs) (by omega) (by exact hr.len)
 have w3r:=w3.ro
 have hf4:=fresh _ _ _ _ hb4
 rw[e] at hb4 st
 have w4:Below lo H2 H4:=⟨by omega,by omega,λc h1 h2=>by rw[oth c (by omega)];exact w3.get c h1 h2⟩
 refine⟨P4,H3,b4,H4,ea,hb4,st,?_,w4,w3,rL⟩
 have hbbH: ∀c o n q,bv=.slice c o n q->c<H.nx:=by
  rcases rb with⟨_,rfl⟩|⟨_,c',r,rfl,Kg,_⟩
  ·intro _ _ _ _ e;cases e
  ·intro _ _ _ _ e;cases e;exact Kg.low
 refine⟨b4,ls++[cs],rb4,λc o n q ev=>by rw[hb4] at ev;cases ev;rfl,by simp[e],λq hq=>?_⟩
 rw[Qk,Qk,e]
 rw[Zm,Zl,ZA] at hq
 by_cases h1:q<l.length
 ·rw[if_pos h1,if_pos h1]
  refine(hv q h1).move (λc hc hS=>?_) (by omega) (λc hc hS=>?_)
  ·have hlc:lo<=c:=by rcases Un c lo with h2|h2;exact absurd (.inl h2) hS;exact h2
   rw[oth c (by omega),only c (by omega) (λb' o' l' q' e' zt=>hS (.inr (by rw[zt];exact B4 _ _ _ _ e'))),k.get c (by omega) (by simp;omega),hT1 c hc hlc]
  ·rcases hS with h2|h2
   ·exact .inl h2
   ·omega
 ·have:q=l.length:=by omega
  subst this
  rw[if_neg h1,if_neg h1,if_pos rfl,if_pos rfl]
  refine hr.move (λc hc hS=>?_) (by omega) (λc hc hS=>?_)
  ·rw[oth c (by omega)]
   exact only c hc (λb' o' l' q' e' zt=>hS (by have:=hbbH _ _ _ _ e';show c<HT.nx;omega))
  ·rcases hS with h2|h2
   ·show c<HT.nx;omega
   ·omega
structure Xe(H:Zc)(h:Nat)(bv:AV)(lo:Nat)(l:List (List UInt8×JV)):Prop where
 ok: ∃bb ls,V0 H bv 124 7 ls lo∧(∀c o n q,bv=.slice c o n q->c=bb)∧ls.length=l.length∧ ∀q,q<l.length-> ∃t,ls.getD q []=.str (l.getD q default).1::t∧Jz H (λc=>c<lo∨c=bb) h (l.getD q default).2 t
theorem Xe.start(H:Zc)(h lo:Nat):Xe H h .nils lo []:=⟨0,[],.inl ⟨rfl,rfl⟩,λ_ _ _ _ e=>(by cases e),rfl,λq hq=>absurd hq (Xa _)⟩
theorem Xe.buf{H:Zc}{h:Nat}{bv:AV}{lo:Nat}{l:List (List UInt8×JV)}(s:Xe H h bv lo l): ∃ls,V0 H bv 124 7 ls lo∧ls.length=l.length:=by
 obtain⟨bb,ls,rb,_,e,_⟩:=s.ok
 exact⟨ls,rb,e⟩
theorem Xe.keep{H H':Zc}{h:Nat}{bv:AV}{lo:Nat}{l:List (List UInt8×JV)}(s:Xe H h bv lo l)(hg: ∀c,c<H.nx->lo<=c->H'.t.get c=H.t.get c)(YL:H'.ro=H.ro)(hn:H.nx<=H'.nx):Xe H' h bv lo l:=by
 obtain⟨bb,ls,rb,B4,e,hv⟩:=s.ok
 refine⟨bb,ls,rb.below (λc h1 h2=>hg c h2 h1) YL hn,B4,e,λq hq=>?_⟩
 obtain⟨t,a2,a3⟩:=hv q hq
 exact⟨t,a2,a3.move (λc hc hS=>hg c hc (by rcases Un c lo with h1|h1;exact absurd (.inl h1) hS;exact h1)) hn (λc hc hS=>hS)⟩
theorem Xe.push{H HT H2:Zc}{h b tb:Nat}{bv:AV}{lo:Nat}{l:List (List UInt8×JV)}{v:JV}{cs:List AV}{w:List UInt8}(s:Xe H h bv lo l)(hT1: ∀c,c<H.nx->lo<=c->HT.t.get c=H.t.get c)(hT2:HT.ro=H.ro)(hT3:H.nx<=HT.nx)(gx:H2.t.get tb=some (rG 124 7 [.str [],nI .i64 0,.bool false,nI .i64 0,.str [],.nils,.nils] 0 false true true))(k:Zp HT H2 [b])(hb:b<lo)(Pj:lo<=H.nx)(rO:H2.ro<=H2.nx)(hr:Jz H2 (λc=>c<HT.nx) h v cs)(hl:l.length<=1000000000):
  ∃P4 H3 bb H4,Uw 124 7 104 bv (.slice tb 0 1 none) H2=.val P4 H3∧P4=.slice bb 0 (l.length+1) none∧FG 7 (H3.t.get bb) bb (l.length*7) (.agg (.str w::cs)) H3=.val YS H4∧Xe H4 h P4 lo (l++[(w,v)])∧Below lo H2 H4∧Below lo H2 H3∧bb<H3.nx:=by
 obtain⟨bb,ls,rb,B4,e,hv⟩:=s.ok
 have knx:=k.nx
 have rbT:V0 HT bv 124 7 ls lo:=rb.below (λc h1 h2=>hT1 c h2 h1) hT2 hT3
 have rb2:V0 H2 bv 124 7 ls lo:=rbT.below (λc h1 h2=>k.get c h2 (by simp;omega)) k.ro k.nx
 obtain⟨P4,H3,ea,rb3,w3,only,fresh⟩:=C5 rb2 (bytes:=104) (by omega) (by omega) (by omega) rO (by omega) (x:=[.str [],nI .i64 0,.bool false,nI .i64 0,.str [],.nils,.nils]) (by rfl) gx
 obtain⟨b4,H4,hb4,st,rb4,nH,pz,oth,Zn1,rL⟩:=rb3.last (x:=(.str w::cs)) (by omega) (by rw[Zl,hr.len])
 have w3r:=w3.ro
 have hf4:=fresh _ _ _ _ hb4
 rw[e] at hb4 st
 have w4:Below lo H2 H4:=⟨by omega,by omega,λc h1 h2=>by rw[oth c (by omega)];exact w3.get c h1 h2⟩
 refine⟨P4,H3,b4,H4,ea,hb4,st,?_,w4,w3,rL⟩
 have hbbH: ∀c o n q,bv=.slice c o n q->c<H.nx:=by
  rcases rb with⟨_,rfl⟩|⟨_,c',r,rfl,Kg,_⟩
  ·intro _ _ _ _ e;cases e
  ·intro _ _ _ _ e;cases e;exact Kg.low
 refine⟨b4,ls++[(.str w::cs)],rb4,λc o n q ev=>by rw[hb4] at ev;cases ev;rfl,by simp[e],λq hq=>?_⟩
 rw[Qk,Qk,e]
 rw[Zm,Zl,ZA] at hq
 by_cases h1:q<l.length
 ·rw[if_pos h1,if_pos h1]
  obtain⟨t,a2,a3⟩:=hv q h1
  refine⟨t,a2,a3.move (λc hc hS=>?_) (by omega) (λc hc hS=>?_)⟩
  ·have hlc:lo<=c:=by rcases Un c lo with h2|h2;exact absurd (.inl h2) hS;exact h2
   rw[oth c (by omega),only c (by omega) (λb' o' l' q' e' zt=>hS (.inr (by rw[zt];exact B4 _ _ _ _ e'))),k.get c (by omega) (by simp;omega),hT1 c hc hlc]
  ·rcases hS with h2|h2
   ·exact .inl h2
   ·omega
 ·have:q=l.length:=by omega
  subst this
  rw[if_neg h1,if_neg h1,if_pos rfl,if_pos rfl]
  refine⟨cs,rfl,hr.move (λc hc hS=>?_) (by omega) (λc hc hS=>?_)⟩
  ·rw[oth c (by omega)]
   exact only c hc (λb' o' l' q' e' zt=>hS (by have:=hbbH _ _ _ _ e';show c<HT.nx;omega))
  ·rcases hS with h2|h2
   ·show c<HT.nx;omega
   ·omega
end
end Go.AI
