/- Values read: lists, tables, all values, walked: proved, as each says. -/
import Derived.Test.YtmnmknjlgpjcbaaGreatDoorPF
import Derived.Test.YtmnmknjlgpjcbaaGreatDoorPC
import Derived.Test.YtmnmknjlgpjcbaaGreatDoorPE
import Derived.Test.YtmnmknjlgpjcbaaGreatDoorPD
set_option maxRecDepth 1000000
set_option maxHeartbeats 0
set_option linter.unusedVariables false
set_option linter.unusedSimpArgs false
namespace Go.AI
open Go
noncomputable section
section
variable {Zo:NJ} {fs:T CF} {fuel k n i h b:Nat} {H H0:Zc} {s:List UInt8} {cs:List AV}
def mJ(Zo:NJ)(fs:T CF)(fuel k n lv b:Nat)(s:List UInt8):Prop:= ∀{H:Zc} {i:Nat},Sh H->V8 H->H.t.get b=some (rd s i)->b<H.nx->100<=b->H.ro<=b->i<=s.length->
 mI H b s (ZG (LK Zo fs fuel k) fs fuel n 59 [.ptr b 0,nI .i64 lv] H) (λv a H'=> ∃cs,a=.agg cs∧Jz H' (λc=>c<H.nx) lv v cs) (rv s lv i)
structure LSt(H0:Zc)(b lv:Nat)(l:List JV)(H:Zc):Prop where
 ex: ∃bv,H.t.get (H0.nx+3)=some (rH 27 [nI .i64 5,.bool false,nI .i64 0,.str [],bv,.nils])∧Xl H lv bv (H0.nx+4) l
 g0:H.t.get H0.nx=some (rH 118 [.ptr b 0])
 g1:H.t.get (H0.nx+1)=some (rH 3 [nI .i64 lv])
 g2:H.t.get (H0.nx+2)=some (rH 27 zV)
 nx:H0.nx+4<=H.nx
 few:l.length<=1000000
theorem LSt.put{lv:Nat}{l:List JV}(hb:b<H0.nx)(s:LSt H0 b lv l H)(o:Obj):LSt H0 b lv l (H.put b o):=by
 obtain⟨⟨bv,a,x⟩,g0,g1,g2,nx,few⟩:=s
 exact⟨⟨bv,by rw[ZD (by omega)];exact a,x.keep (λc h1 h2=>by rw[ZD (by omega)]) rfl (Zj _)⟩,by rw[ZD (by omega)];exact g0,by rw[ZD (by omega)];exact g1,by rw[ZD (by omega)];exact g2,nx,few⟩
theorem ku(E:Env Zo fs fuel){lv:Nat}(ih:mJ Zo fs fuel k n lv b s)(lP: ∀i v j,rv s lv i=.ok v j->i<=j)(gl:Sh H0)(gu:V8 H0)(hb:b<H0.nx)(Qc:100<=b)(eY:H0.ro<=b){acc:List JV}(ZjE:acc.length<1000000)(st:LSt H0 b lv acc H)(gr:H.t.get b=some (rd s i))(hi:i<=s.length)(k0:Zp H0 H [b]):
  hX H0 b s (ZG (LK Zo fs fuel k) fs fuel (n+1) 164 [.ptr (H0.nx+3) 0,.ptr H0.nx 0,.ptr (H0.nx+1) 0] H) (λv H'=>LSt H0 b lv (acc++[v]) H') i (rv s lv i):=by
 rw[ZF (ZB E.n164 (.inr rfl) _ _) E.f164]
 obtain⟨⟨bv,ga,xl⟩,g0,g1,g2,B5,few⟩:=st
 have kro:=k0.ro
 obtain⟨ls0,rb0,el0⟩:=xl.buf
 have dI: ∀G,QK bv G=.val (nI .i64 acc.length) G:=λG=>by rw[(Sl.of_buf rb0).len G,el0]
 obtain⟨HT,hT⟩:=WQ (H.new (rG 27 6 zV 0 false true true))
 have nxT:HT.nx=H.nx+1:=by rw[<-hT];rfl
 have roT:HT.ro=H.ro:=by rw[<-hT];rfl
 have kT:Zp H HT []:=by rw[<-hT];exact Zp.new _ _ _
 have k0T:Zp H0 HT [b]:=by rw[<-hT];exact k0.then_new _
 have bs: ∀G:Zc,Py 27 6 1 zV [(0,6,.agg zV)] G=.val (.slice G.nx 0 1 none) (G.new (rG 27 6 zV 0 false true true)):=λG=>by
  rw[ZaZ (cs:=zV) (by rfl) 27 G,Uy]
 have gT: ∀c,c<H.nx->HT.t.get c=H.t.get c:=λc hc=>kT.get c hc (by simp)
 have gaT:HT.t.get (H0.nx+3)=some (rH 27 [nI .i64 5,.bool false,nI .i64 0,.str [],bv,.nils]):=by rw[gT _ (by omega)];exact ga
 have g0T:HT.t.get H0.nx=some (rH 118 [.ptr b 0]):=by rw[gT _ (by omega)];exact g0
 have g1T:HT.t.get (H0.nx+1)=some (rH 3 [nI .i64 lv]):=by rw[gT _ (by omega)];exact g1
 have hv:=ih (H:=HT) (i:=i) (gl.keep k0T (by simp;exact Qc)) (gu.keep k0T (by simp;exact Qc)) (by rw[gT _ (by omega)];exact gr) (by omega) Qc (by omega) hi
 have ld4: ∀(G:Zc),ld1 (some (rH 27 [nI .i64 5,.bool false,nI .i64 0,.str [],bv,.nils])) 4 G=.val bv G:=λG=>by rw[ZJ (by simp)];rfl
 have lbv: ∀m,H.nx<=m->Xt m bv=true:=λm hm=>rb0.low hm
 have sbv:=rb0.same
 cases hr:rv s lv i with
 |bad e p=>
  rw[hr] at hv
  obtain⟨H2,q,e2,gq,hq,hp,k2⟩:=hv
  refine⟨H2,q,?_,gq,hq,hp,k0T.trans k2 (by simp)⟩
  simp(disch:=first|omega|simp only[ZY,ZZ]<;>omega) only[ga,g0,g1,ld4,dI,bs,hT,gaT,g0T,g1T,e2,lbv,sbv,Yq,OV,ZJ,Zt,Zbb,Zu,ZX,Zw,Zz,ZQ,Yk,WW,Yf]
 |ok v j=>
  rw[hr] at hv
  obtain⟨a,H2,e2,gq,hj,k2,cs,rfl,hx⟩:=hv
  have k2n:=k2.nx
  have k2r:=k2.ro
  have gx:H2.t.get H.nx=some (rG 27 6 zV 0 false true true):=by rw[k2.get _ (by omega) (by simp;omega),<-hT,ZC rfl]
  obtain⟨P4,H3,bb,H4,ea,B4,stw,xl4,w4,w3,hbb3⟩:=xl.push (HT:=HT) (λc h1 _=>gT c h1) roT (by omega) gx k2 (by omega) (by omega) (by omega) hx (by omega)
  subst B4
  have w4r:=w4.ro
  have g23:H2.t.get (H0.nx+3)=some (rH 27 [nI .i64 5,.bool false,nI .i64 0,.str [],bv,.nils]):=by rw[k2.get _ (by omega) (by simp;omega)];exact gaT
  have old: ∀c,c<H0.nx+4->c≠b->H4.t.get c=H.t.get c:=λc hc zt=>by
   rw[w4.get c hc (by omega),k2.get c (by omega) (by simp;exact zt),gT c (by omega)]
  have g43:H4.t.get (H0.nx+3)=some (rH 27 [nI .i64 5,.bool false,nI .i64 0,.str [],bv,.nils]):=by rw[old _ (by omega) (by omega)];exact ga
  have ix: ∀G,Ha 6 (.slice bb 0 (acc.length+1) none) (nI .i64 acc.length) G=.val (.ptr bb (acc.length*6)) G:=λG=>by
   rw[Qm (by omega),Zt]
  obtain⟨ls4,rb4,el4⟩:=xl4.buf
  have hbb4:H0.nx+4<=bb∧bb<H4.nx:=by
   rcases rb4 with⟨_,h2⟩|⟨_,c',r,h2,Kg,h3⟩
   ·cases h2
   ·obtain⟨e1,_⟩:=AV.slice.inj h2
    rw[e1];exact⟨h3,Kg.low⟩
  have sv:=XK (fz:=0) (b:=H0.nx+3) (H:=H4) (l:=[nI .i64 5,.bool false,nI .i64 0,.str [],bv,.nils]) (o:=4) (v:=.slice bb 0 (acc.length+1) none) rfl (by simp) (by omega) (by omega) 27 1 false true
  have sv:FG 1 (some (rH 27 [nI .i64 5,.bool false,nI .i64 0,.str [],bv,.nils])) (H0.nx+3) 4 (.slice bb 0 (acc.length+1) none) H4=.val YS (H4.put (H0.nx+3) (rH 27 [nI .i64 5,.bool false,nI .i64 0,.str [],.slice bb 0 (acc.length+1) none,.nils])):=sv
  refine⟨H4.put (H0.nx+3) (rH 27 [nI .i64 5,.bool false,nI .i64 0,.str [],.slice bb 0 (acc.length+1) none,.nils]),?_,?_,hj,lP _ _ _ hr,?_,?_⟩
  ·skip
   simp(disch:=first|omega|simp only[ZY,ZZ]<;>omega) only[ga,g0,g1,ld4,dI,bs,hT,gaT,g0T,g1T,e2,ea,ix,stw,g23,g43,sv,lbv,sbv,Yq,We,OV,Fl,CP,we,DN,ZJ,Zt,Zbb,Zu,ZX,Zw,Zz,ZQ,Yk,WW,Nat.reducePow,Nat.reduceDiv,Nat.reduceMod,reduceCtorEq,Yf]
  ·rw[ZD (by omega),w4.get b (by omega) (by omega)];exact gq
  ·exact(Below.keepS (k0T.trans k2 (by simp)) (w4.mono (show H0.nx<=H0.nx+4 by omega)) (Zj _)).then_put λh=>absurd h (by omega)
  ·refine⟨⟨_,ZS ..,xl4.keep (λc h1 h2=>by rw[ZD (by omega)]) rfl (Zj _)⟩,?_,?_,?_,by show H0.nx+4<=H4.nx;omega,by rw[Zm,Zl,ZA];omega⟩
   ·rw[ZD (by omega),old _ (by omega) (by omega)];exact g0
   ·rw[ZD (by omega),old _ (by omega) (by omega)];exact g1
   ·rw[ZD (by omega),old _ (by omega) (by omega)];exact g2
theorem LSt.vr{H0 H H':Zc}{b lv:Nat}{l:List JV}{bv:AV}(xl:Xl H lv bv (H0.nx+4) l)(hg: ∀c,c<H.nx->H0.nx+4<=c->H'.t.get c=H.t.get c)(YL:H'.ro=H.ro)(hn:H.nx<=H'.nx):
  Jz H' (λc=>c<H0.nx) (lv+1) (.mk 5 false 0 [] l []) [nI .i64 5,.bool false,nI .i64 0,.str [],bv,.nils]:=by
 obtain⟨bb,ls,rb,B4,e,hv⟩:=xl.ok
 have rb':=rb.below (λc h1 h2=>hg c h2 h1) YL hn
 refine⟨bv,.nils,ls,[],rfl,by omega,by omega,⟨Sl.of_buf rb',λc o n q ev=>?_⟩,⟨Sl.nil ..,λ_ _ _ _ e=>by cases e⟩,e,rfl,λi hi=>?_,λi hi=>absurd hi (Xa _)⟩
 ·rcases rb with⟨_,rfl⟩|⟨_,c',r,rfl,_,h3⟩
  ·cases ev
  ·obtain⟨e1,_⟩:=AV.slice.inj ev
   rw[<-e1];show ¬c'<H0.nx;omega
 ·exact(hv i hi).move (λc hc hS=>hg c hc (by rcases Un c (H0.nx+4) with h1|h1;exact absurd (.inl h1) hS;exact h1)) hn (λc hc hS=>.inl (show c<H0.nx+4 by have:c<H0.nx:=hS;omega))
theorem dK(E:Env Zo fs fuel){lv:Nat}(hk:3<=k)(ih:mJ Zo fs fuel k (n+1) lv b s)(lP: ∀i v j,rv s lv i=.ok v j->i<=j)(gl:Sh H)(gu:V8 H)(Qc:100<=b)(gr:H.t.get b=some (rd s i))(hb:b<H.nx)(YL:H.ro<=b)(hl:s.length<999998)(hi:i<=s.length)(h1:1<=i):
  mI H b s (ZG (LK Zo fs fuel k) fs fuel (n+4) 120 [.ptr b 0,nI .i64 lv] H) (λl a H'=> ∃cs,a=.agg cs∧Jz H' (λc=>c<H.nx) (lv+1) (.mk 5 false 0 [] l []) cs) (RF s 93 (λ_=>rv s lv) i):=by
 rw[ZF (ZB E.n120 (.inr rfl) _ _) E.f120]
 obtain⟨H1,Yo⟩:=WQ (H.new (rH 118 [.ptr b 0]))
 obtain⟨H2,XH⟩:=WQ (H1.new (rH 3 [nI .i64 lv]))
 obtain⟨H3,V9⟩:=WQ (H2.new (rH 27 zV))
 obtain⟨H4,Oy⟩:=WQ (H3.new (rH 27 [nI .i64 5,.bool false,nI .i64 0,.str [],.nils,.nils]))
 have VH:H1.nx=H.nx+1:=by rw[<-Yo];rfl
 have nx2:H2.nx=H.nx+1+1:=by rw[<-XH,WJ,VH]
 have Fe:H3.nx=H.nx+1+1+1:=by rw[<-V9,WJ,nx2]
 have nH:H4.nx=H.nx+1+1+1+1:=by rw[<-Oy,WJ,Fe]
 have k4:Zp H H4 [b]:=by rw[<-Oy,<-V9,<-XH,<-Yo];exact(((Zp.new H _ _).then_new _).then_new _).then_new _
 have a0:H4.t.get H.nx=some (rH 118 [.ptr b 0]):=by rw[<-Oy,ZK (by omega),<-V9,ZK (by omega),<-XH,ZK (by omega),<-Yo,ZC rfl]
 have a1:H4.t.get (H.nx+1)=some (rH 3 [nI .i64 lv]):=by rw[<-Oy,ZK (by omega),<-V9,ZK (by omega),<-XH,ZC VH]
 have a2:H4.t.get (H.nx+1+1)=some (rH 27 zV):=by rw[<-Oy,ZK (by omega),<-V9,ZC nx2]
 have a3:H4.t.get (H.nx+1+1+1)=some (rH 27 [nI .i64 5,.bool false,nI .i64 0,.str [],.nils,.nils]):=by rw[<-Oy,ZC Fe]
 have fT:H4.t.get b=some (rd s i):=by rw[<-Oy,ZK (by omega),<-V9,ZK (by omega),<-XH,ZK (by omega),<-Yo,ZK (by omega)];exact gr
 have dh:=Xg (n:=6) (l:=zV) (vs:=[nI .i64 5,.bool false,nI .i64 0,.str [],.nils,.nils]) (b:=H3.nx) (H:=H3.new (rH 27 zV)) rfl rfl (by decide) (by show H3.ro<=H3.nx;rw[<-V9,<-XH,<-Yo];show H.ro<=_;rw[WJ,WJ,WJ];omega) 27 1 false true
 rw[Vb rfl,Oy,Fe] at dh
 have hm:=ut E (k:=k) (n:=n) hk (H0:=H) (H:=H4) (b:=b) (c:=93) (q:=164) (i:=i) (bs:=[.ptr (H.nx+3) 0,.ptr H.nx 0,.ptr (H.nx+1) 0]) (s:=s) (one:=λ_=>rv s lv) (St:=λl G=>LSt H b lv l G) hb YL hl (by decide)
  (λacc G j st=>st.put hb _)
  (λacc G i' st hal J4 R0 kk=>ku E (n:=n+1) ih lP gl gu hb Qc YL (by omega) st J4 R0 kk)
  fT hi h1 k4 ⟨⟨.nils,a3,Xl.start _ _ _⟩,a0,a1,a2,by omega,Z1 _⟩
 cases hr:RF s 93 (λ_=>rv s lv) i with
 |bad e p=>
  rw[hr] at hm
  obtain⟨H5,q,e5,g5,hq,hp,k5⟩:=hm
  refine⟨H5,q,?_,g5,hq,hp,k5⟩
  simp(disch:=first|omega|simp only[ZY,ZZ]<;>omega) only[Yo,VH,XH,nx2,V9,Fe,dh,a0,e5,ZJ,Za4,Zu,ZX,Zw,Zz,Yf]
 |ok l j=>
  rw[hr] at hm
  obtain⟨H5,e5,g5,hj,_,k5,⟨⟨bv,b3,xl⟩,b0,b1,b2,B5,_⟩⟩:=hm
  have ro5:=k5.ro
  have Ut:=Xg (n:=6) (l:=zV) (vs:=[nI .i64 5,.bool false,nI .i64 0,.str [],bv,.nils]) (b:=H.nx+2) (H:=H5) rfl rfl (by decide) (by omega) 27 1 false true
  have b3':H5.t.get (H.nx+1+1+1)=some (rH 27 [nI .i64 5,.bool false,nI .i64 0,.str [],bv,.nils]):=b3
  have b2':H5.t.get (H.nx+1+1)=some (rH 27 zV):=b2
  have Zgj:FG 6 (some (rH 27 zV)) (H.nx+1+1) 0 (.agg [nI .i64 5,.bool false,nI .i64 0,.str [],bv,.nils]) H5=.val YS (H5.put (H.nx+1+1) (rH 27 [nI .i64 5,.bool false,nI .i64 0,.str [],bv,.nils])):=Ut
  refine⟨.agg [nI .i64 5,.bool false,nI .i64 0,.str [],bv,.nils],H5.put (H.nx+1+1) (rH 27 [nI .i64 5,.bool false,nI .i64 0,.str [],bv,.nils]),?_,?_,hj,k5.then_put λh=>absurd h (by omega),_,rfl,?_⟩
  ·skip
   simp(disch:=first|omega|simp only[ZY,ZZ]<;>omega) only[Yo,VH,XH,nx2,V9,Fe,dh,a0,e5,b3',b2',Zgj,WV,Tf,ZJ,Ye,Tc,Um,Za4,Zu,ZX,Zw,Zz,Yf]
  ·rw[ZD (by omega)];exact g5
  ·exact LSt.vr (b:=b) xl (λc h1 h2=>by rw[ZD (by omega)]) rfl (Zj _)
end
theorem pA(s:List UInt8): ∀(m i:Nat) (acc t:List UInt8) (j:Nat),wu s m i acc=.ok t j->i<=j
 |0,i,acc,t,j,h=>by cases h
 |m+1,i,acc,t,j,h=>by
  replace h:(if Z3 s i=34 then .ok acc (i+1) else if Z3 s i=92 then(match LA s i with|.bad e p=>.bad e p|.ok t j=>wu s m j (acc++t)) else if Z3 s i<32 then .bad 5 i else if Xc (s.drop i)=0 then .bad 5 i else wu s m (i+Xc (s.drop i)) (acc++(s.drop i).take (Xc (s.drop i))))=RR.ok t j:=h
  by_cases h1:Z3 s i=34
  ·rw[if_pos h1] at h;injection h with _ h2;omega
  rw[if_neg h1] at h
  by_cases h2:Z3 s i=92
  ·rw[if_pos h2] at h
   cases he:LA s i with
   |bad e p=>rw[he] at h;cases h
   |ok t' j'=>
    rw[he] at h
    have:=pA s m j' _ _ _ h
    have:=(nS he).2
    omega
  rw[if_neg h2] at h
  by_cases h3:Z3 s i<32
  ·rw[if_pos h3] at h;cases h
  rw[if_neg h3] at h
  by_cases h4:Xc (s.drop i)=0
  ·rw[if_pos h4] at h;cases h
  rw[if_neg h4] at h
  have:=pA s m _ _ _ _ h
  omega
theorem Zez{s:List UInt8}{i:Nat}{t:List UInt8}{j:Nat}(h:rq s i=.ok t j):i<=j:=by
 unfold rq at h
 have hs:=NF s i
 by_cases h1:Z3 s (Z5 s i)=34
 ·rw[if_pos h1] at h
  have:=pA s _ _ _ _ _ h
  omega
 ·rw[if_neg h1] at h;cases h
theorem DA(s:List UInt8): ∀(w:List UInt8) (i:Nat) (u:Unit) (j:Nat),Qe s w i=.ok u j->i<=j
 |[],i,u,j,h=>by injection h with _ h2;omega
 |c::w,i,u,j,h=>by
  replace h:(if Z3 s i=c.toNat then Qe s w (i+1) else .bad 5 i)=RR.ok u j:=h
  by_cases h1:Z3 s i=c.toNat
  ·rw[if_pos h1] at h
   have:=DA s w _ _ _ h
   omega
  ·rw[if_neg h1] at h;cases h
theorem ya{α:Type}(s:List UInt8)(c:Nat)(one:List α->Nat->RR α)(ho: ∀acc i v j,one acc i=.ok v j->i<=j): ∀(m i:Nat) (acc l:List α) (j:Nat),RO s c one m i acc=.ok l j->i<=j
 |0,i,acc,l,j,h=>by cases h
 |m+1,i,acc,l,j,h=>by
  replace h:(if Z3 s (Z5 s i)=c then .ok acc (Z5 s i+1) else if Z3 s (Z5 s i)≠44 then .bad 5 (Z5 s i) else match one acc (Z5 s i+1) with|.bad e p=>.bad e p|.ok v k=>RO s c one m k (acc++[v]))=RR.ok l j:=h
  have hs:=NF s i
  by_cases h1:Z3 s (Z5 s i)=c
  ·rw[if_pos h1] at h;injection h with _ h2;omega
  rw[if_neg h1] at h
  by_cases h2:Z3 s (Z5 s i)≠44
  ·rw[if_pos h2] at h;cases h
  rw[if_neg h2] at h
  cases he:one acc (Z5 s i+1) with
  |bad e p=>rw[he] at h;cases h
  |ok v k=>
   rw[he] at h
   have:=ya s c one ho m _ _ _ _ h
   have:=ho _ _ _ _ he
   omega
theorem uW{α:Type}{s:List UInt8}{c:Nat}{one:List α->Nat->RR α}(ho: ∀acc i v j,one acc i=.ok v j->i<=j){i:Nat}{l:List α}{j:Nat}(h:RF s c one i=.ok l j):i<=j:=by
 unfold RF at h
 have hs:=NF s i
 by_cases h1:Z3 s (Z5 s i)=c
 ·rw[if_pos h1] at h;injection h with _ h2;omega
 rw[if_neg h1] at h
 cases he:one [] (Z5 s i) with
 |bad e p=>rw[he] at h;cases h
 |ok v k=>
  rw[he] at h
  have:=ya s c one ho _ _ _ _ _ h
  have:=ho _ _ _ _ he
  omega
theorem nQ{s:List UInt8}{rv:Nat->RR JV}(ho: ∀i v j,rv i=.ok v j->i<=j){acc:List (List UInt8×JV)}{i:Nat}{e:List UInt8×JV}{j:Nat}(h:M4 s rv acc i=.ok e j):i<=j:=by
 unfold M4 at h
 have hs:=NF s i
 cases hq:rq s (Z5 s i) with
 |bad e p=>rw[hq] at h;cases h
 |ok key k=>
  rw[hq] at h
  have hk:=Zez hq
  have LD:=NF s k
  simp only at h
  by_cases h1:key∈acc.map (·.1)
  ·rw[if_pos h1] at h;cases h
  rw[if_neg h1] at h
  by_cases h2:Z3 s (Z5 s k)≠58
  ·rw[if_pos h2] at h;cases h
  rw[if_neg h2] at h
  cases hv:rv (Z5 s k+1) with
  |bad e p=>rw[hv] at h;cases h
  |ok v q=>
   rw[hv] at h
   have:=ho _ _ _ hv
   injection h with _ h3
   omega
theorem Jg{α β:Type}{f:α->β}{x:RR α}{v:β}{j:Nat}(h:Mq f x=.ok v j): ∃a,x=.ok a j:=by
 cases x with
 |bad e p=>cases h
 |ok a k=>injection h with _ h2;exact⟨a,by rw[h2]⟩
theorem kQ{s:List UInt8}{i:Nat}{z:Int}{q:Nat}(h:Te s i=.ok z q):i<=q:=by
 unfold Te at h
 simp only at h
 have hf:i<=TS s i:=by unfold TS;split<;>omega
 by_cases hd:dg (s.getD (TS s i) 0)=false
 ·rw[if_pos hd] at h;cases h
 rw[if_neg hd] at h
 have hd:dg (s.getD (TS s i) 0)=true:=by simpa using hd
 have:=CQ hd
 by_cases h1:TS s i=i
 ·rw[if_pos h1] at h
  split at h
  ·injection h with _ h2;omega
  ·cases h
 ·rw[if_neg h1] at h
  split at h
  ·injection h with _ h2;omega
  ·cases h
theorem nZ(s:List UInt8): ∀(lv i:Nat) (v:JV) (j:Nat),rv s lv i=.ok v j->i<=j
 |0,i,v,j,h=>by cases h
 |lv+1,i,v,j,h=>by
  have hs:=NF s i
  unfold rv at h
  simp only at h
  by_cases c1:Z3 s (Z5 s i)=110
  ·rw[if_pos c1] at h
   obtain⟨a,h⟩:=Jg h
   have:=DA _ _ _ _ _ h;omega
  rw[if_neg c1] at h
  by_cases c2:Z3 s (Z5 s i)=116
  ·rw[if_pos c2] at h
   obtain⟨a,h⟩:=Jg h
   have:=DA _ _ _ _ _ h;omega
  rw[if_neg c2] at h
  by_cases c3:Z3 s (Z5 s i)=102
  ·rw[if_pos c3] at h
   obtain⟨a,h⟩:=Jg h
   have:=DA _ _ _ _ _ h;omega
  rw[if_neg c3] at h
  by_cases c4:Z3 s (Z5 s i)=34
  ·rw[if_pos c4] at h
   obtain⟨a,h⟩:=Jg h
   have:=Zez h;omega
  rw[if_neg c4] at h
  by_cases c5:Z3 s (Z5 s i)=91
  ·rw[if_pos c5] at h
   obtain⟨a,h⟩:=Jg h
   have:=uW (λ_ i v j h=>nZ s lv i v j h) h;omega
  rw[if_neg c5] at h
  by_cases c6:Z3 s (Z5 s i)=123
  ·rw[if_pos c6] at h
   obtain⟨a,h⟩:=Jg h
   have:=uW (λ_ _ _ _ h=>nQ (nZ s lv) h) h;omega
  rw[if_neg c6] at h
  cases hn:Te s (Z5 s i) with
  |bad p q=>rw[hn] at h;cases h
  |ok z q=>
   rw[hn] at h
   have:=kQ hn
   injection h with _ h2
   omega
structure iS(H0:Zc)(b lv:Nat)(l:List (List UInt8×JV))(H:Zc):Prop where
 ex: ∃bv,H.t.get (H0.nx+3)=some (rH 27 [nI .i64 6,.bool false,nI .i64 0,.str [],.nils,bv])∧Xe H lv bv (H0.nx+6) l
 map: ∃es c,H.t.get (H0.nx+4)=some (.map es c)∧Seen es (l.map (·.1))
 g0:H.t.get H0.nx=some (rH 118 [.ptr b 0])
 g1:H.t.get (H0.nx+1)=some (rH 3 [nI .i64 lv])
 g2:H.t.get (H0.nx+2)=some (rH 27 zV)
 g5:H.t.get (H0.nx+5)=some (rH 192 [.map (H0.nx+4)])
 nx:H0.nx+6<=H.nx
theorem iS.keep{H0 H H':Zc}{b lv:Nat}{l:List (List UInt8×JV)}(hb:b<H0.nx)(s:iS H0 b lv l H)(k:Zp H H' [b]):iS H0 b lv l H':=by
 obtain⟨⟨bv,a,x⟩,⟨es,c,m1,m2⟩,g0,g1,g2,g5,nx⟩:=s
 have hg: ∀c,c<H.nx->c≠b->H'.t.get c=H.t.get c:=λc h1 h2=>k.get c h1 (by simp;exact h2)
 have:=k.nx
 exact⟨⟨bv,by rw[hg _ (by omega) (by omega)];exact a,x.keep (λc h1 h2=>hg c h1 (by omega)) k.ro k.nx⟩,⟨es,c,by rw[hg _ (by omega) (by omega)];exact m1,m2⟩,by rw[hg _ (by omega) (by omega)];exact g0,by rw[hg _ (by omega) (by omega)];exact g1,by rw[hg _ (by omega) (by omega)];exact g2,by rw[hg _ (by omega) (by omega)];exact g5,by omega⟩
theorem iS.put{H0 H:Zc}{b lv:Nat}{l:List (List UInt8×JV)}(hb:b<H0.nx)(s:iS H0 b lv l H)(o:Obj):iS H0 b lv l (H.put b o):=s.keep hb (Zp.put λ_=>by simp)
section
variable {Zo:NJ} {fs:T CF} {fuel k n i h b:Nat} {H H0:Zc} {s:List UInt8} {cs:List AV}
theorem Jz.low{S:Nat->Prop}: ∀{h:Nat} {v:JV} {cs:List AV},Jz H S h v cs-> ∀{n:Nat},H.nx<=n->Ob n cs=true
 |h+1,.mk _ _ _ _ l m,cs,⟨lv,mv,ls,ms,e,a1,a2,sl,sm,_⟩,n,hn=>by
  rw[e]
  show cond (Xt n lv) (cond (Xt n mv) true false) false=true
  rw[sl.1.low hn,sm.1.low hn];rfl
theorem pZ(E:Env Zo fs fuel){lv:Nat}(hk:3<=k)(ih:mJ Zo fs fuel k (n+4) lv b s)(hl:s.length<999998)(gl:Sh H0)(gu:V8 H0)(hb:b<H0.nx)(Qc:100<=b)(eY:H0.ro<=b){acc:List (List UInt8×JV)}(ZjE:acc.length<1000000)(st:iS H0 b lv acc H)(gr:H.t.get b=some (rd s i))(hi:i<=s.length)(k0:Zp H0 H [b]):
  hX H0 b s (ZG (LK Zo fs fuel k) fs fuel (n+5) 165 [.ptr H0.nx 0,.ptr (H0.nx+5) 0,.ptr (H0.nx+3) 0,.ptr (H0.nx+1) 0] H) (λv H'=>iS H0 b lv (acc++[v]) H') i (M4 s (rv s lv) acc i):=by
 rw[ZF (ZB E.n165 (.inr rfl) _ _) E.f165]
 have kro:=k0.ro
 have B5:=st.nx
 have g0:=st.g0
 have lP:=λe j (h:M4 s (rv s lv) acc i=.ok e j)=>nQ (nZ s lv) h
 have eb:=λ{m}=>Fm E (k:=k) (n:=m) hk gr (by omega) (by omega) (by omega) (by omega)
 have MT:=R3 s i hi
 unfold M4 at lP ⊢
 generalize hj:Z5 s i=j at eb MT lP ⊢
 obtain⟨H1,Yo⟩:=WQ (H.put b (rd s j))
 rw[Yo] at eb
 have k1:Zp H0 H1 [b]:=by rw[<-Yo];exact k0.then_put λ_=>by simp
 have st1:iS H0 b lv acc H1:=by rw[<-Yo];exact st.put hb _
 have VH:H1.nx=H.nx:=by rw[<-Yo];rfl
 have Nn:H1.ro=H.ro:=by rw[<-Yo];rfl
 have zf:H1.t.get b=some (rd s j):=by rw[<-Yo,ZS]
 have f4:H1.t.get b=some (rH 120 [.str s,nI .i64 j]):=zf
 have g01:=st1.g0
 have hq:=nV E (k:=k) (n:=n) hk (H:=H1) (gu.keep k1 (by simp;exact Qc)) Qc zf (by omega) (by omega) hl MT (by omega)
 cases hr:rq s j with
 |bad e p=>
  rw[hr] at hq
  obtain⟨H2,q,e2,g2,wR,Ak,k2⟩:=hq
  refine⟨H2,q,?_,g2,wR,Ak,k1.trans k2 (by simp)⟩
  simp(disch:=first|omega|simp only[ZY,ZZ]<;>omega) only[g0,eb,g01,f4,e2,ZJ,Zt,sR,Zu,ZX,Zw,Zz,Yf]
 |ok key kq=>
  rw[hr] at hq
  simp only[hr] at lP ⊢
  obtain⟨a,H2,e2,gr2,hkq,k2,rfl⟩:=hq
  have k2n:=k2.nx
  have k2r:=k2.ro
  have st2:=st1.keep hb k2
  have k02:Zp H0 H2 [b]:=k1.trans k2 (by simp)
  have g02:=st2.g0
  have g52:=st2.g5
  obtain⟨es,cc,gm,I9⟩:=st2.map
  have lk:=λ(G:Zc)=>uq (c:=cc) I9 key G
  by_cases Nk:key∈acc.map (·.1)
  ·rw[if_pos Nk] at lk ⊢
   have c0:decide (0<1)=true:=rfl
   refine⟨H2,kq,?_,gr2,hkq,MT,k02⟩
   simp(disch:=first|omega|simp only[ZY,ZZ]<;>omega) only[g0,eb,g01,f4,e2,g52,gm,lk,c0,Rg,PS,YK,ZJ,Zt,sR,Zu,ZX,Zw,Zz,Yf]
   rfl
  ·rw[if_neg Nk] at lk lP ⊢
   have c0:decide (0<0)=false:=rfl
   have up:=su (c:=cc) I9 Nk (b:=H0.nx+4) (H:=H2) (by omega)
   obtain⟨H3,V9⟩:=WQ (H2.put (H0.nx+4) (.map (es++[⟨.str key,nI .i64 1,cc⟩]) (cc+1)))
   rw[V9] at up
   have Fe:H3.nx=H2.nx:=by rw[<-V9];rfl
   have jZ:H3.ro=H2.ro:=by rw[<-V9];rfl
   have gr3:H3.t.get b=some (rd s kq):=by rw[<-V9,ZD (by omega)];exact gr2
   have k03:Zp H0 H3 [b]:=by rw[<-V9];exact k02.then_put λh=>absurd h (by omega)
   have g03:H3.t.get H0.nx=some (rH 118 [.ptr b 0]):=by rw[<-V9,ZD (by omega)];exact g02
   have ew:=pk E (k:=k) (n:=n+2) hk gr3 (by omega) (by omega) hl hkq (c:=58) (by decide)
   have Zj9:=R3 s kq hkq
   by_cases h58:Z3 s (Z5 s kq)≠58
   ·rw[if_pos h58]
    rw[if_neg h58] at ew
    refine⟨H3.put b (rd s (Z5 s kq)),Z5 s kq,?_,ZS ..,Zj9,Zj9,k03.then_put λ_=>by simp⟩
    simp(disch:=first|omega|simp only[ZY,ZZ]<;>omega) only[g0,eb,g01,f4,e2,g52,gm,lk,c0,up,g03,ew,Rg,PS,MZ,DG,YK,ZJ,Zt,sR,Zu,ZX,Zw,Zz,Yf]
   ·rw[if_neg h58] at lP ⊢
    have h58:Z3 s (Z5 s kq)=58:=by simpa using h58
    rw[if_pos h58] at ew
    have hin58:=Iy (s:=s) (i:=Z5 s kq) (by omega)
    obtain⟨H4,Oy⟩:=WQ (H3.put b (rd s (Z5 s kq+1)))
    rw[Oy] at ew
    have nH:H4.nx=H3.nx:=by rw[<-Oy];rfl
    have pz:H4.ro=H3.ro:=by rw[<-Oy];rfl
    have k04:Zp H0 H4 [b]:=by rw[<-Oy];exact k03.then_put λ_=>by simp
    have jB: ∀c,c≠b->c≠H0.nx+4->H4.t.get c=H2.t.get c:=λc h1 h2=>by rw[<-Oy,ZD (λh=>h1 h.symm),<-V9,ZD (λh=>h2 h.symm)]
    obtain⟨bv,ga2,xe2⟩:=st2.ex
    have hnx2:=st2.nx
    have xe4:Xe H4 lv bv (H0.nx+6) acc:=xe2.keep (λc h1 h2=>jB c (by omega) (by omega)) (by omega) (by omega)
    have gm4:H4.t.get (H0.nx+4)=some (.map (es++[⟨.str key,nI .i64 1,cc⟩]) (cc+1)):=by rw[<-Oy,ZD (by omega),<-V9,ZS]
    have ga4:H4.t.get (H0.nx+3)=some (rH 27 [nI .i64 6,.bool false,nI .i64 0,.str [],.nils,bv]):=by rw[jB _ (by omega) (by omega)];exact ga2
    have g04:H4.t.get H0.nx=some (rH 118 [.ptr b 0]):=by rw[jB _ (by omega) (by omega)];exact g02
    have g14:H4.t.get (H0.nx+1)=some (rH 3 [nI .i64 lv]):=by rw[jB _ (by omega) (by omega)];exact st2.g1
    obtain⟨ls0,rb0,el0⟩:=xe4.buf
    have dI: ∀G,QK bv G=.val (nI .i64 acc.length) G:=λG=>by rw[(Sl.of_buf rb0).len G,el0]
    obtain⟨HT,hT⟩:=WQ (H4.new (rG 124 7 [.str [],nI .i64 0,.bool false,nI .i64 0,.str [],.nils,.nils] 0 false true true))
    have nxT:HT.nx=H4.nx+1:=by rw[<-hT];rfl
    have roT:HT.ro=H4.ro:=by rw[<-hT];rfl
    have k0T:Zp H0 HT [b]:=by rw[<-hT];exact k04.then_new _
    have bs: ∀G:Zc,Py 124 7 1 [.str [],nI .i64 0,.bool false,nI .i64 0,.str [],.nils,.nils] [(0,7,.agg [.str [],nI .i64 0,.bool false,nI .i64 0,.str [],.nils,.nils])] G=.val (.slice G.nx 0 1 none) (G.new (rG 124 7 [.str [],nI .i64 0,.bool false,nI .i64 0,.str [],.nils,.nils] 0 false true true)):=λG=>by
     rw[Zh7 (cs:=zV) (by rfl) [] 124 G,Uy]
    have gT: ∀c,c<H4.nx->HT.t.get c=H4.t.get c:=λc hc=>by rw[<-hT,ZK (by omega)]
    have gaT:HT.t.get (H0.nx+3)=some (rH 27 [nI .i64 6,.bool false,nI .i64 0,.str [],.nils,bv]):=by rw[gT _ (by omega)];exact ga4
    have g0T:HT.t.get H0.nx=some (rH 118 [.ptr b 0]):=by rw[gT _ (by omega)];exact g04
    have g1T:HT.t.get (H0.nx+1)=some (rH 3 [nI .i64 lv]):=by rw[gT _ (by omega)];exact g14
    have hv:=ih (H:=HT) (i:=Z5 s kq+1) (gl.keep k0T (by simp;exact Qc)) (gu.keep k0T (by simp;exact Qc)) (by rw[gT _ (by omega),<-Oy,ZS]) (by omega) Qc (by omega) (by omega)
    have ld5: ∀(G:Zc),ld1 (some (rH 27 [nI .i64 6,.bool false,nI .i64 0,.str [],.nils,bv])) 5 G=.val bv G:=λG=>by rw[ZJ (by simp)];rfl
    have lbv: ∀m,H4.nx<=m->Xt m bv=true:=λm hm=>rb0.low hm
    have sbv:=rb0.same
    cases hrv:rv s lv (Z5 s kq+1) with
    |bad e p=>
     rw[hrv] at hv
     obtain⟨H5,q,e5,gq,hq,hp,k5⟩:=hv
     refine⟨H5,q,?_,gq,hq,hp,k0T.trans k5 (by simp)⟩
     simp(disch:=first|omega|simp only[ZY,ZZ]<;>omega) only[g0,eb,g01,f4,e2,g52,gm,lk,c0,up,g03,ew,ga4,g04,g14,ld5,dI,bs,hT,gaT,g0T,g1T,e5,lbv,sbv,Rg,PS,MZ,DG,YK,OV,ZJ,Yq,Zt,sR,Zu,ZX,Zw,Zz,ZQ,Yk,WW,Yf,WL]
    |ok v jv=>
     rw[hrv] at hv lP
     obtain⟨a,H5,e5,gq,hjv,k5,cs,rfl,hx⟩:=hv
     have k5n:=k5.nx
     have k5r:=k5.ro
     have gx:H5.t.get H4.nx=some (rG 124 7 [.str [],nI .i64 0,.bool false,nI .i64 0,.str [],.nils,.nils] 0 false true true):=by rw[k5.get _ (by omega) (by simp;omega),<-hT,ZC rfl]
     obtain⟨P4,H6,bb,H7,ea,B4,stw,xe7,w7,w6,hbb6⟩:=xe4.push (w:=key) (HT:=HT) (λc h1 _=>gT c h1) roT (by omega) gx k5 (by omega) (by omega) (by omega) hx (by omega)
     subst B4
     have w6n:=w6.nx
     have w6r:=w6.ro
     have w7n:=w7.nx
     have w7r:=w7.ro
     have bd: ∀G:Zc,LP [.str [],nI .i64 0,.bool false,nI .i64 0,.str [],.nils,.nils] [(0,1,.str key),(1,6,.agg cs)] G=.val (.agg (.str key::cs)) G:=λG=>Zh2 hx.len key G
     have lds: ∀m,H5.nx<=m->Ob m cs=true:=λm hm=>hx.low hm
     have g53:H5.t.get (H0.nx+3)=some (rH 27 [nI .i64 6,.bool false,nI .i64 0,.str [],.nils,bv]):=by rw[k5.get _ (by omega) (by simp;omega)];exact gaT
     have old: ∀c,c<H0.nx+6->c≠b->H7.t.get c=H4.t.get c:=λc hc zt=>by
      rw[w7.get c hc (by omega),k5.get c (by omega) (by simp;exact zt),gT c (by omega)]
     have g73:H7.t.get (H0.nx+3)=some (rH 27 [nI .i64 6,.bool false,nI .i64 0,.str [],.nils,bv]):=by rw[old _ (by omega) (by omega)];exact ga4
     have ix: ∀G,Ha 7 (.slice bb 0 (acc.length+1) none) (nI .i64 acc.length) G=.val (.ptr bb (acc.length*7)) G:=λG=>by
      rw[Qm (by omega),Zt]
     obtain⟨ls7,rb7,el7⟩:=xe7.buf
     have hbb7:H0.nx+6<=bb∧bb<H7.nx:=by
      rcases rb7 with⟨_,h2⟩|⟨_,c',r,h2,Kg,h3⟩
      ·cases h2
      ·obtain⟨e1,_⟩:=AV.slice.inj h2
       rw[e1];exact⟨h3,Kg.low⟩
     have sv:=XK (fz:=0) (b:=H0.nx+3) (H:=H7) (l:=[nI .i64 6,.bool false,nI .i64 0,.str [],.nils,bv]) (o:=5) (v:=.slice bb 0 (acc.length+1) none) rfl (by simp) (by omega) (by omega) 27 1 false true
     have sv:FG 1 (some (rH 27 [nI .i64 6,.bool false,nI .i64 0,.str [],.nils,bv])) (H0.nx+3) 5 (.slice bb 0 (acc.length+1) none) H7=.val YS (H7.put (H0.nx+3) (rH 27 [nI .i64 6,.bool false,nI .i64 0,.str [],.nils,.slice bb 0 (acc.length+1) none])):=sv
     have np: ∀c,c≠H0.nx+3->c<H0.nx+6->c≠b->(H7.put (H0.nx+3) (rH 27 [nI .i64 6,.bool false,nI .i64 0,.str [],.nils,.slice bb 0 (acc.length+1) none])).t.get c=H4.t.get c:=λc h1 h2 h3=>by rw[ZD (λh=>h1 h.symm)];exact old c h2 h3
     refine⟨H7.put (H0.nx+3) (rH 27 [nI .i64 6,.bool false,nI .i64 0,.str [],.nils,.slice bb 0 (acc.length+1) none]),?_,?_,hjv,lP _ _ rfl,?_,?_⟩
     ·skip
      simp(disch:=first|omega|simp only[ZY,ZZ]<;>omega) only[g0,eb,g01,f4,e2,g52,gm,lk,c0,up,g03,ew,ga4,g04,g14,ld5,dI,bs,hT,gaT,g0T,g1T,e5,ea,ix,bd,lds,stw,g53,g73,sv,lbv,sbv,Rg,PS,MZ,DG,YK,OV,Fl,CP,we,DN,ZJ,Yq,We,Zt,sR,Zu,ZX,Zw,Zz,ZQ,Yk,WW,Nat.reducePow,Nat.reduceDiv,Nat.reduceMod,reduceCtorEq,Yf,WL]
     ·rw[ZD (by omega),w7.get b (by omega) (by omega)];exact gq
     ·exact(Below.keepS (k0T.trans k5 (by simp)) (w7.mono (show H0.nx<=H0.nx+6 by omega)) (Zj _)).then_put λh=>absurd h (by omega)
     ·refine⟨⟨_,ZS ..,xe7.keep (λc h1 h2=>by rw[ZD (by omega)]) rfl (Zj _)⟩,⟨_,_,by rw[np _ (by omega) (by omega) (by omega)];exact gm4,by rw[Xo];exact I9.push key cc⟩,?_,?_,?_,?_,by show H0.nx+6<=H7.nx;omega⟩
      ·rw[np _ (by omega) (by omega) (by omega)];exact g04
      ·rw[np _ (by omega) (by omega) (by omega)];exact g14
      ·rw[np _ (by omega) (by omega) (by omega),jB _ (by omega) (by omega)];exact st2.g2
      ·rw[np _ (by omega) (by omega) (by omega),jB _ (by omega) (by omega)];exact st2.g5
theorem iS.vr{H0 H H':Zc}{b lv:Nat}{l:List (List UInt8×JV)}{bv:AV}(xl:Xe H lv bv (H0.nx+6) l)(hg: ∀c,c<H.nx->H0.nx+6<=c->H'.t.get c=H.t.get c)(YL:H'.ro=H.ro)(hn:H.nx<=H'.nx):
  Jz H' (λc=>c<H0.nx) (lv+1) (.mk 6 false 0 [] [] l) [nI .i64 6,.bool false,nI .i64 0,.str [],.nils,bv]:=by
 obtain⟨bb,ls,rb,B4,e,hv⟩:=xl.ok
 have rb':=rb.below (λc h1 h2=>hg c h2 h1) YL hn
 refine⟨.nils,bv,[],ls,rfl,by omega,by omega,⟨Sl.nil ..,λ_ _ _ _ e=>by cases e⟩,⟨Sl.of_buf rb',λc o n q ev=>?_⟩,rfl,e,λi hi=>absurd hi (Xa _),λi hi=>?_⟩
 ·rcases rb with⟨_,rfl⟩|⟨_,c',r,rfl,_,h3⟩
  ·cases ev
  ·obtain⟨e1,_⟩:=AV.slice.inj ev
   rw[<-e1];show ¬c'<H0.nx;omega
 ·obtain⟨t,a2,a3⟩:=hv i hi
  exact⟨t,a2,a3.move (λc hc hS=>hg c hc (by rcases Un c (H0.nx+6) with h1|h1;exact absurd (.inl h1) hS;exact h1)) hn (λc hc hS=>.inl (show c<H0.nx+6 by have:c<H0.nx:=hS;omega))⟩
theorem it(E:Env Zo fs fuel){lv:Nat}(hk:3<=k)(ih:mJ Zo fs fuel k (n+4) lv b s)(gl:Sh H)(gu:V8 H)(Qc:100<=b)(gr:H.t.get b=some (rd s i))(hb:b<H.nx)(YL:H.ro<=b)(hl:s.length<999998)(hi:i<=s.length)(h1:1<=i):
  mI H b s (ZG (LK Zo fs fuel k) fs fuel (n+7) 121 [.ptr b 0,nI .i64 lv] H) (λl a H'=> ∃cs,a=.agg cs∧Jz H' (λc=>c<H.nx) (lv+1) (.mk 6 false 0 [] [] l) cs) (RF s 125 (M4 s (rv s lv)) i):=by
 rw[ZF (ZB E.n121 (.inr rfl) _ _) E.f121]
 obtain⟨H1,Yo⟩:=WQ (H.new (rH 118 [.ptr b 0]))
 obtain⟨H2,XH⟩:=WQ (H1.new (rH 3 [nI .i64 lv]))
 obtain⟨H3,V9⟩:=WQ (H2.new (rH 27 zV))
 obtain⟨H4,Oy⟩:=WQ (H3.new (rH 27 [nI .i64 6,.bool false,nI .i64 0,.str [],.nils,.nils]))
 obtain⟨H5,Kb⟩:=WQ (H4.new (.map [] 0))
 obtain⟨H6,I8⟩:=WQ (H5.new (rH 192 [.map (H.nx+4)]))
 have VH:H1.nx=H.nx+1:=by rw[<-Yo];rfl
 have nx2:H2.nx=H.nx+1+1:=by rw[<-XH,WJ,VH]
 have Fe:H3.nx=H.nx+1+1+1:=by rw[<-V9,WJ,nx2]
 have nH:H4.nx=H.nx+1+1+1+1:=by rw[<-Oy,WJ,Fe]
 have nx5:H5.nx=H.nx+1+1+1+1+1:=by rw[<-Kb,WJ,nH]
 have nx6:H6.nx=H.nx+1+1+1+1+1+1:=by rw[<-I8,WJ,nx5]
 have k6:Zp H H6 [b]:=by rw[<-I8,<-Kb,<-Oy,<-V9,<-XH,<-Yo];exact(((((Zp.new H _ _).then_new _).then_new _).then_new _).then_new _).then_new _
 have a0:H6.t.get H.nx=some (rH 118 [.ptr b 0]):=by rw[<-I8,ZK (by omega),<-Kb,ZK (by omega),<-Oy,ZK (by omega),<-V9,ZK (by omega),<-XH,ZK (by omega),<-Yo,ZC rfl]
 have a1:H6.t.get (H.nx+1)=some (rH 3 [nI .i64 lv]):=by rw[<-I8,ZK (by omega),<-Kb,ZK (by omega),<-Oy,ZK (by omega),<-V9,ZK (by omega),<-XH,ZC VH]
 have a2:H6.t.get (H.nx+1+1)=some (rH 27 zV):=by rw[<-I8,ZK (by omega),<-Kb,ZK (by omega),<-Oy,ZK (by omega),<-V9,ZC nx2]
 have a3:H6.t.get (H.nx+1+1+1)=some (rH 27 [nI .i64 6,.bool false,nI .i64 0,.str [],.nils,.nils]):=by rw[<-I8,ZK (by omega),<-Kb,ZK (by omega),<-Oy,ZC Fe]
 have a4:H6.t.get (H.nx+1+1+1+1)=some (.map [] 0):=by rw[<-I8,ZK (by omega),<-Kb,ZC nH]
 have a5:H6.t.get (H.nx+1+1+1+1+1)=some (rH 192 [.map (H.nx+4)]):=by rw[<-I8,ZC nx5]
 have gb6:H6.t.get b=some (rd s i):=by rw[<-I8,ZK (by omega),<-Kb,ZK (by omega),<-Oy,ZK (by omega),<-V9,ZK (by omega),<-XH,ZK (by omega),<-Yo,ZK (by omega)];exact gr
 have dh:=Xg (n:=6) (l:=zV) (vs:=[nI .i64 6,.bool false,nI .i64 0,.str [],.nils,.nils]) (b:=H3.nx) (H:=H3.new (rH 27 zV)) rfl rfl (by decide) (by show H3.ro<=H3.nx;rw[<-V9,<-XH,<-Yo];show H.ro<=_;rw[WJ,WJ,WJ];omega) 27 1 false true
 rw[Vb rfl,Oy,Fe] at dh
 have Am:=XK (fz:=0) (b:=H5.nx) (H:=H5.new (rH 192 [.nilm])) (l:=[.nilm]) (o:=0) (v:=.map (H.nx+1+1+1+1)) rfl (by simp) (by show H5.ro<=H5.nx;rw[<-Kb,<-Oy,<-V9,<-XH,<-Yo];show H.ro<=_;rw[WJ,WJ,WJ,WJ,WJ];omega) (Z1 _) 192 1 false true
 have Am:FG 1 (some (rH 192 [.nilm])) (H.nx+1+1+1+1+1) 0 (.map (H.nx+1+1+1+1)) (H5.new (rH 192 [.nilm]))=.val YS H6:=by
  rw[Vb rfl] at Am
  rw[<-nx5,Am,<-I8];rfl
 have hm:=ut E (k:=k) (n:=n+3) hk (H0:=H) (H:=H6) (b:=b) (c:=125) (q:=165) (i:=i) (bs:=[.ptr H.nx 0,.ptr (H.nx+5) 0,.ptr (H.nx+3) 0,.ptr (H.nx+1) 0]) (s:=s) (one:=M4 s (rv s lv)) (St:=λl G=>iS H b lv l G) hb YL hl (by decide)
  (λacc G j st=>st.put hb _)
  (λacc G i' st hal J4 R0 kk=>pZ E (n:=n) hk ih hl gl gu hb Qc YL (by omega) st J4 R0 kk)
  gb6 hi h1 k6 ⟨⟨.nils,a3,Xe.start _ _ _⟩,⟨[],0,a4,Seen.nil⟩,a0,a1,a2,a5,by omega⟩
 cases hr:RF s 125 (M4 s (rv s lv)) i with
 |bad e p=>
  rw[hr] at hm
  obtain⟨H7,q,e7,g7,hq,hp,k7⟩:=hm
  refine⟨H7,q,?_,g7,hq,hp,k7⟩
  simp(disch:=first|omega|simp only[ZY,ZZ]<;>omega) only[Yo,VH,XH,nx2,V9,Fe,dh,nH,Kb,nx5,Am,a0,e7,Fg,ZJ,Za5,Zu,ZX,Zw,Zz,Yf]
 |ok l j=>
  rw[hr] at hm
  obtain⟨H7,e7,g7,hj,_,k7,⟨⟨bv,b3,xl⟩,_,b0,b1,b2,b5,B5⟩⟩:=hm
  have ro7:=k7.ro
  have Ut:=Xg (n:=6) (l:=zV) (vs:=[nI .i64 6,.bool false,nI .i64 0,.str [],.nils,bv]) (b:=H.nx+2) (H:=H7) rfl rfl (by decide) (by omega) 27 1 false true
  have b3':H7.t.get (H.nx+1+1+1)=some (rH 27 [nI .i64 6,.bool false,nI .i64 0,.str [],.nils,bv]):=b3
  have b2':H7.t.get (H.nx+1+1)=some (rH 27 zV):=b2
  have Zgj:FG 6 (some (rH 27 zV)) (H.nx+1+1) 0 (.agg [nI .i64 6,.bool false,nI .i64 0,.str [],.nils,bv]) H7=.val YS (H7.put (H.nx+1+1) (rH 27 [nI .i64 6,.bool false,nI .i64 0,.str [],.nils,bv])):=Ut
  refine⟨.agg [nI .i64 6,.bool false,nI .i64 0,.str [],.nils,bv],H7.put (H.nx+1+1) (rH 27 [nI .i64 6,.bool false,nI .i64 0,.str [],.nils,bv]),?_,?_,hj,k7.then_put λh=>absurd h (by omega),_,rfl,?_⟩
  ·skip
   simp(disch:=first|omega|simp only[ZY,ZZ]<;>omega) only[Yo,VH,XH,nx2,V9,Fe,dh,nH,Kb,nx5,Am,a0,e7,b3',b2',Zgj,Fg,WV,Tf,ZJ,Ye,Tc,Um,Za5,Zu,ZX,Zw,Zz,Yf]
  ·rw[ZD (by omega)];exact g7
  ·exact iS.vr (b:=b) xl (λc h1 h2=>by rw[ZD (by omega)]) rfl (Zj _)
theorem Jz.leaf{S:Nat->Prop}{lv:Nat}{b:Bool}{z:Int}{t:List UInt8}(h1: -9223372036854775808<=z)(h2:z<9223372036854775808):Jz H S (lv+1) (.mk k b z t [] []) [nI .i64 k,.bool b,.int .i64 z,.str t,.nils,.nils]:=
 ⟨.nils,.nils,[],[],rfl,h1,h2,⟨Sl.nil ..,λ_ _ _ _ e=>by cases e⟩,⟨Sl.nil ..,λ_ _ _ _ e=>by cases e⟩,rfl,rfl,λi hi=>absurd hi (Xa _),λi hi=>absurd hi (Xa _)⟩
theorem qA{z:Int}{q:Nat}(h:Te s i=.ok z q): -9223372036854775808<=z∧z<9223372036854775808:=by
 unfold Te at h
 simp only at h
 split at h
 ·cases h
 ·split at h
  ·split at h
   ·injection h with h1 _;omega
   ·cases h
  ·split at h
   ·injection h with h1 _;omega
   ·cases h
theorem kP{p q:Nat}(hi:i<=s.length)(h:Te s i=.bad p q):p<=s.length∧q<=s.length:=by
 have hf:TS s i<=s.length:=by
  unfold TS
  split
  ·rename_i h45
   have:=Iy (s:=s) (i:=i) (by unfold Z3;omega)
   omega
  ·exact hi
 unfold Te at h
 simp only at h
 split at h
 ·injection h with h1 h2;omega
 ·rename_i hd
  have hd:dg (s.getD (TS s i) 0)=true:=by simpa using hd
  have:=Hk hd
  split at h
  ·split at h
   ·cases h
   ·injection h with h1 h2;omega
  ·split at h
   ·cases h
   ·injection h with h1 h2;omega
theorem pE(E:Env Zo fs fuel)(hk:6<=k)(hl:s.length<999998): ∀(lv:Nat),lv<=100-> ∀(n:Nat),6*lv+10<=n->mJ Zo fs fuel k n lv b s:=by
 intro lv
 induction lv with
 |zero=>
  intro _ n hn H i gl gu gr hb Qc YL hi
  obtain⟨m,rfl⟩: ∃m,n=m+9:=⟨n - 9,by omega⟩
  rw[ZF (ZB E.n59 (.inr rfl) _ _) E.f59]
  obtain⟨H1,Yo⟩:=WQ (H.new (rH 27 zV))
  have VH:H1.nx=H.nx+1:=by rw[<-Yo];rfl
  have Nn:H1.ro=H.ro:=by rw[<-Yo];rfl
  have GL:H1.t.get b=some (rd s i):=by rw[<-Yo,ZK (by omega)];exact gr
  have lM:H1.t.get H.nx=some (rH 27 zV):=by rw[<-Yo,ZC rfl]
  have k1:Zp H H1 [b]:=by rw[<-Yo];exact Zp.new H _ _
  have eb:=λ{m}=>Fm E (k:=k) (n:=m) (by omega) GL (by omega) (by omega) (by omega) (by omega)
  have MT:=R3 s i hi
  have er:rv s 0 i=.bad 23 (Z5 s i):=rfl
  rw[er]
  generalize hj:Z5 s i=j at eb MT ⊢
  obtain⟨H2,XH⟩:=WQ (H1.put b (rd s j))
  rw[XH] at eb
  have g2:H2.t.get b=some (rd s j):=by rw[<-XH,ZS]
  have Ae:H2.t.get b=some (rH 120 [.str s,nI .i64 j]):=g2
  have k2:Zp H H2 [b]:=by rw[<-XH];exact k1.then_put λ_=>by simp
  have z0:decide (0=0)=true:=rfl
  refine⟨H2,j,?_,g2,MT,MT,k2⟩
  unfold MM
  simp(disch:=first|omega|simp only[ZY,ZZ]<;>omega) only[Yo,eb,Ae,ZJ,Z2,c59,Zu,ZX,Zw,Zz,Yf,]
 |succ lv ih=>
  intro hlv n hn H i gl gu gr hb Qc YL hi
  obtain⟨m,rfl⟩: ∃m,n=m+9:=⟨n - 9,by omega⟩
  have ihL:mJ Zo fs fuel k (m+5) lv b s:=ih (by omega) _ (by omega)
  rw[ZF (ZB E.n59 (.inr rfl) _ _) E.f59]
  obtain⟨H1,Yo⟩:=WQ (H.new (rH 27 zV))
  have VH:H1.nx=H.nx+1:=by rw[<-Yo];rfl
  have Nn:H1.ro=H.ro:=by rw[<-Yo];rfl
  have GL:H1.t.get b=some (rd s i):=by rw[<-Yo,ZK (by omega)];exact gr
  have lM:H1.t.get H.nx=some (rH 27 zV):=by rw[<-Yo,ZC rfl]
  have k1:Zp H H1 [b]:=by rw[<-Yo];exact Zp.new H _ _
  have eb:=λ{m}=>Fm E (k:=k) (n:=m) (by omega) GL (by omega) (by omega) (by omega) (by omega)
  have MT:=R3 s i hi
  have er:rv s (lv+1) i=(if Z3 s (Z5 s i)=110 then Mq (λ_=>.mk 1 false 0 [] [] []) (Qe s ER (Z5 s i))
   else if Z3 s (Z5 s i)=116 then Mq (λ_=>.mk 2 true 0 [] [] []) (Qe s BU (Z5 s i))
   else if Z3 s (Z5 s i)=102 then Mq (λ_=>.mk 2 false 0 [] [] []) (Qe s Iq (Z5 s i))
   else if Z3 s (Z5 s i)=34 then Mq (λt=>.mk 4 false 0 t [] []) (rq s (Z5 s i))
   else if Z3 s (Z5 s i)=91 then Mq (λl=>.mk 5 false 0 [] l []) (RF s 93 (λ_=>rv s lv) (Z5 s i+1))
   else if Z3 s (Z5 s i)=123 then Mq (λm=>.mk 6 false 0 [] [] m) (RF s 125 (M4 s (rv s lv)) (Z5 s i+1))
   else match Te s (Z5 s i) with
    |.ok z q=>.ok (.mk 3 false z [] [] []) q
    |.bad p _=>.bad 5 p):=rfl
  rw[er]
  generalize hj:Z5 s i=j at eb MT ⊢
  obtain⟨H2,XH⟩:=WQ (H1.put b (rd s j))
  rw[XH] at eb
  have nx2:H2.nx=H1.nx:=by rw[<-XH];rfl
  have DB:H2.ro=H1.ro:=by rw[<-XH];rfl
  have g2:H2.t.get b=some (rd s j):=by rw[<-XH,ZS]
  have Ae:H2.t.get b=some (rH 120 [.str s,nI .i64 j]):=g2
  have gz2:H2.t.get H.nx=some (rH 27 zV):=by rw[<-XH,ZD (by omega)];exact lM
  have k2:Zp H H2 [b]:=by rw[<-XH];exact k1.then_put λ_=>by simp
  have gl2:Sh H2:=gl.keep k2 (by simp;exact Qc)
  have gu2:V8 H2:=gu.keep k2 (by simp;exact Qc)
  have en: ∀{m},ZG (LK Zo fs fuel k) fs fuel (m+1) 117 [.ptr b 0] H2=.ret (nI .u8 (Z3 s j)) H2:=λ{m}=>uX E (k:=k) (n:=m) (by omega) g2 (by omega) (by omega)
  have fin: ∀(H3:Zc) (cs:List AV),Zp H2 H3 [b]->cs.length=6-> ∃H4,FG 6 (H3.t.get H.nx) H.nx 0 (.agg cs) H3=.val YS H4∧H4=H3.put H.nx (rH 27 cs)∧H4.t.get H.nx=some (rH 27 cs)∧Zp H H4 [b]∧H4.t.get b=H3.t.get b:=by
   intro H3 cs k3 Gr
   have n3:=k3.nx
   have r3:=k3.ro
   have gz3:H3.t.get H.nx=some (rH 27 zV):=by rw[k3.get _ (by omega) (by simp;omega)];exact gz2
   have Ut:=Xg (n:=6) (l:=zV) (vs:=cs) (b:=H.nx) (H:=H3) (by rfl) Gr (by omega) (by omega) 27 1 false true
   rw[gz3]
   exact⟨_,Ut,rfl,ZS ..,(k2.trans k3 (by simp)).then_put λh=>absurd h (by omega),ZD (by omega) ..⟩
  have ldx: ∀(cs:List AV) (kk:AV->CR),cs.length=6->rV 6 true (some (rH 27 cs)) 0 kk=kk (.agg cs):=λcs kk h=>Tf (n:=6) (l:=cs) h kk
  by_cases hc:Z3 s j=110
  ·rw[if_pos hc]
   have N2:decide (Z3 s j=110)=true:=Ze hc
   have eo:=λ{m}=>cJ E (k:=k) (n:=m) (by omega) (H:=H2) (show H2.ro<=H2.nx by omega)
   have ew:=bK E (k:=k) (n:=m+6) (by omega) (s:=s) (w:=[110,117,108,108]) (i:=j) (b:=b) (cs:=[nI .i64 1,.bool false,nI .i64 0,.str [],.nils,.nils]) (H:=H2) g2 (by omega) (by omega) hl MT rfl (by decide) (by decide)
   have e1:Qe s ER j=Qe s [110,117,108,108] j:=rfl
   rw[e1]
   cases hr:Qe s [110,117,108,108] j with
   |bad e p=>
    rw[hr] at ew
    obtain⟨H3,q,e3,g3,hq,hp,k3⟩:=ew
    refine⟨H3,q,?_,g3,hq,hp,k2.trans k3 (by simp)⟩
    simp only[Yo,eb,en,N2,eo,e3,Z2,c59,Zu,ZX,Zw,Zz,reduceCtorEq,Yf,]
   |ok u q=>
    rw[hr] at ew
    obtain⟨a,H3,e3,g3,hq,k3,rfl⟩:=ew
    obtain⟨H4,st,_,g4,k4,fT⟩:=fin H3 [nI .i64 1,.bool false,nI .i64 0,.str [],.nils,.nils] k3 rfl
    have n3:=k3.nx
    have ld:=λkk=>ldx [nI .i64 1,.bool false,nI .i64 0,.str [],.nils,.nils] kk rfl
    have vl:Jz H4 (λc=>c<H.nx) (lv+1) (.mk 1 false 0 [] [] []) [nI .i64 1,.bool false,nI .i64 0,.str [],.nils,.nils]:=Jz.leaf (z:=0) (by omega) (by omega)
    refine⟨.agg [nI .i64 1,.bool false,nI .i64 0,.str [],.nils,.nils],H4,?_,by rw[fT];exact g3,hq,k4,_,rfl,vl⟩
    simp only[Yo,eb,en,N2,eo,e3,st,g4,ld,Z2,c59,Zu,ZX,Zw,Zz,reduceCtorEq,Yf,]
  rw[if_neg hc]
  by_cases hc:Z3 s j=116
  ·rw[if_pos hc]
   have N2:decide (Z3 s j=110)=false:=Za (by omega)
   have LS:decide (Z3 s j=116)=true:=Ze hc
   have eo:=λ{m}=>qM E (k:=k) (n:=m) (by omega) (b:=true) (H:=H2) (show H2.ro<=H2.nx by omega)
   have ew:=bK E (k:=k) (n:=m+6) (by omega) (s:=s) (w:=[116,114,117,101]) (i:=j) (b:=b) (cs:=[nI .i64 2,.bool true,nI .i64 0,.str [],.nils,.nils]) (H:=H2) g2 (by omega) (by omega) hl MT rfl (by decide) (by decide)
   have e1:Qe s BU j=Qe s [116,114,117,101] j:=rfl
   rw[e1]
   cases hr:Qe s [116,114,117,101] j with
   |bad e p=>
    rw[hr] at ew
    obtain⟨H3,q,e3,g3,hq,hp,k3⟩:=ew
    refine⟨H3,q,?_,g3,hq,hp,k2.trans k3 (by simp)⟩
    simp only[Yo,eb,en,N2,LS,eo,e3,Z2,c59,Zu,ZX,Zw,Zz,reduceCtorEq,Yf,]
   |ok u q=>
    rw[hr] at ew
    obtain⟨a,H3,e3,g3,hq,k3,rfl⟩:=ew
    obtain⟨H4,st,_,g4,k4,fT⟩:=fin H3 [nI .i64 2,.bool true,nI .i64 0,.str [],.nils,.nils] k3 rfl
    have n3:=k3.nx
    have ld:=λkk=>ldx [nI .i64 2,.bool true,nI .i64 0,.str [],.nils,.nils] kk rfl
    have vl:Jz H4 (λc=>c<H.nx) (lv+1) (.mk 2 true 0 [] [] []) [nI .i64 2,.bool true,nI .i64 0,.str [],.nils,.nils]:=Jz.leaf (z:=0) (by omega) (by omega)
    refine⟨.agg [nI .i64 2,.bool true,nI .i64 0,.str [],.nils,.nils],H4,?_,by rw[fT];exact g3,hq,k4,_,rfl,vl⟩
    simp only[Yo,eb,en,N2,LS,eo,e3,st,g4,ld,Z2,c59,Zu,ZX,Zw,Zz,reduceCtorEq,Yf,]
  rw[if_neg hc]
  by_cases hc:Z3 s j=102
  ·rw[if_pos hc]
   have N2:decide (Z3 s j=110)=false:=Za (by omega)
   have LS:decide (Z3 s j=116)=false:=Za (by omega)
   have II:decide (Z3 s j=102)=true:=Ze hc
   have eo:=λ{m}=>qM E (k:=k) (n:=m) (by omega) (b:=false) (H:=H2) (show H2.ro<=H2.nx by omega)
   have ew:=bK E (k:=k) (n:=m+6) (by omega) (s:=s) (w:=[102,97,108,115,101]) (i:=j) (b:=b) (cs:=[nI .i64 2,.bool false,nI .i64 0,.str [],.nils,.nils]) (H:=H2) g2 (by omega) (by omega) hl MT rfl (by decide) (by decide)
   have e1:Qe s Iq j=Qe s [102,97,108,115,101] j:=rfl
   rw[e1]
   cases hr:Qe s [102,97,108,115,101] j with
   |bad e p=>
    rw[hr] at ew
    obtain⟨H3,q,e3,g3,hq,hp,k3⟩:=ew
    refine⟨H3,q,?_,g3,hq,hp,k2.trans k3 (by simp)⟩
    simp only[Yo,eb,en,N2,LS,II,eo,e3,Z2,c59,Zu,ZX,Zw,Zz,reduceCtorEq,Yf,WL]
   |ok u q=>
    rw[hr] at ew
    obtain⟨a,H3,e3,g3,hq,k3,rfl⟩:=ew
    obtain⟨H4,st,_,g4,k4,fT⟩:=fin H3 [nI .i64 2,.bool false,nI .i64 0,.str [],.nils,.nils] k3 rfl
    have n3:=k3.nx
    have ld:=λkk=>ldx [nI .i64 2,.bool false,nI .i64 0,.str [],.nils,.nils] kk rfl
    have vl:Jz H4 (λc=>c<H.nx) (lv+1) (.mk 2 false 0 [] [] []) [nI .i64 2,.bool false,nI .i64 0,.str [],.nils,.nils]:=Jz.leaf (z:=0) (by omega) (by omega)
    refine⟨.agg [nI .i64 2,.bool false,nI .i64 0,.str [],.nils,.nils],H4,?_,by rw[fT];exact g3,hq,k4,_,rfl,vl⟩
    simp only[Yo,eb,en,N2,LS,II,eo,e3,st,g4,ld,Z2,c59,Zu,ZX,Zw,Zz,reduceCtorEq,Yf,WL]
  rw[if_neg hc]
  by_cases hc:Z3 s j=34
  ·rw[if_pos hc]
   have N2:decide (Z3 s j=110)=false:=Za (by omega)
   have LS:decide (Z3 s j=116)=false:=Za (by omega)
   have II:decide (Z3 s j=102)=false:=Za (by omega)
   have IJ:decide (Z3 s j=34)=true:=Ze hc
   have eq:=nV E (k:=k) (n:=m+4) (by omega) (H:=H2) gu2 Qc g2 (by omega) (by omega) hl MT (by omega)
   cases hr:rq s j with
   |bad e p=>
    rw[hr] at eq
    obtain⟨H3,q,e3,g3,hq,hp,k3⟩:=eq
    refine⟨H3,q,?_,g3,hq,hp,k2.trans k3 (by simp)⟩
    simp only[Yo,eb,en,N2,LS,II,IJ,e3,Z2,c59,Zu,ZX,Zw,Zz,reduceCtorEq,Yf,WL]
   |ok w q=>
    rw[hr] at eq
    obtain⟨a,H3,e3,g3,hq,k3,rfl⟩:=eq
    have n3:=k3.nx
    have r3:=k3.ro
    have eo:=λ{m}=>cK E (k:=k) (n:=m) (by omega) (s:=w) (H:=H3) (show H3.ro<=H3.nx by omega)
    obtain⟨H4,st,_,g4,k4,fT⟩:=fin H3 [nI .i64 4,.bool false,nI .i64 0,.str w,.nils,.nils] k3 rfl
    have ld:=λkk=>ldx [nI .i64 4,.bool false,nI .i64 0,.str w,.nils,.nils] kk rfl
    have vl:Jz H4 (λc=>c<H.nx) (lv+1) (.mk 4 false 0 w [] []) [nI .i64 4,.bool false,nI .i64 0,.str w,.nils,.nils]:=Jz.leaf (z:=0) (by omega) (by omega)
    refine⟨.agg [nI .i64 4,.bool false,nI .i64 0,.str w,.nils,.nils],H4,?_,by rw[fT];exact g3,hq,k4,_,rfl,vl⟩
    simp only[Yo,eb,en,N2,LS,II,IJ,e3,eo,st,g4,ld,Z2,c59,Zu,ZX,Zw,Zz,reduceCtorEq,Yf,WL]
  rw[if_neg hc]
  by_cases hc:Z3 s j=91
  ·rw[if_pos hc]
   have N2:decide (Z3 s j=110)=false:=Za (by omega)
   have LS:decide (Z3 s j=116)=false:=Za (by omega)
   have II:decide (Z3 s j=102)=false:=Za (by omega)
   have IJ:decide (Z3 s j=34)=false:=Za (by omega)
   have d91:decide (Z3 s j=91)=true:=Ze hc
   have ZkU:decide (Z3 s j=123)=false:=Za (by omega)
   have Y6:=Iy (s:=s) (i:=j) (by omega)
   obtain⟨H3,V9⟩:=WQ (H2.put b (rd s (j+1)))
   have g3:H3.t.get b=some (rd s (j+1)):=by rw[<-V9,ZS]
   have Fe:H3.nx=H2.nx:=by rw[<-V9];rfl
   have jZ:H3.ro=H2.ro:=by rw[<-V9];rfl
   have qe:Zp H2 H3 [b]:=by rw[<-V9];exact Zp.put λ_=>by simp
   have gl3:Sh H3:=gl2.keep qe (by simp;exact Qc)
   have gu3:V8 H3:=gu2.keep qe (by simp;exact Qc)
   have sv:=XK (fz:=0) (b:=b) (H:=H2) (l:=[.str s,nI .i64 j]) (o:=1) (v:=nI .i64 (j+1)) rfl (by simp) (by omega) (by omega) 120 1 false true
   have sv:FG 1 (some (rH 120 [.str s,nI .i64 j])) b 1 (nI .i64 (j+1)) H2=.val YS H3:=by rw[<-V9];exact sv
   have sb: ∀G,Az (nI .i64 (lv+1)) (nI .i64 1) G=.val (nI .i64 lv) G:=λG=>by rw[Wy (by omega) (by omega)];rfl
   have em:=dK E (k:=k) (n:=m+4) (by omega) ihL (nZ s lv) gl3 gu3 Qc g3 (by omega) (by omega) hl (by omega) (by omega)
   cases hr:RF s 93 (λ_=>rv s lv) (j+1) with
   |bad e p=>
    rw[hr] at em
    obtain⟨H4,q,e4,g4,hq,hp,k4⟩:=em
    refine⟨H4,q,?_,g4,hq,hp,(k2.trans qe (by simp)).trans k4 (by simp)⟩
    simp(disch:=first|omega|simp only[ZY,ZZ]<;>omega) only[Yo,eb,en,N2,LS,II,IJ,d91,ZkU,Ae,sv,sb,e4,OU,Xj,Xp,ZJ,Z2,YQ,c59,Zu,ZX,Zw,Zz,reduceCtorEq,Yf,WL]
   |ok l q=>
    rw[hr] at em
    obtain⟨a,H4,e4,g4,hq,k4,cs,rfl,hx⟩:=em
    have n4:=k4.nx
    have r4:=k4.ro
    obtain⟨H5,st,Kb,g5,k5,gb5⟩:=fin H4 cs (qe.trans k4 (by simp)) hx.len
    have ld:=λkk=>ldx cs kk hx.len
    refine⟨_,H5,?_,by rw[gb5];exact g4,hq,k5,cs,rfl,hx.move (λc hc hS=>by rw[Kb,ZD (by have hS: ¬c<H3.nx:=hS;omega)]) (by rw[Kb];exact Zj _) (λc hc hS=>by show c<H3.nx;have hS:c<H.nx:=hS;omega)⟩
    simp(disch:=first|omega|simp only[ZY,ZZ]<;>omega) only[Yo,eb,en,N2,LS,II,IJ,d91,ZkU,Ae,sv,sb,e4,st,g5,ld,OU,Xj,Xp,ZJ,Z2,YQ,c59,Zu,ZX,Zw,Zz,reduceCtorEq,Yf,WL]
  rw[if_neg hc]
  by_cases hc:Z3 s j=123
  ·rw[if_pos hc]
   have N2:decide (Z3 s j=110)=false:=Za (by omega)
   have LS:decide (Z3 s j=116)=false:=Za (by omega)
   have II:decide (Z3 s j=102)=false:=Za (by omega)
   have IJ:decide (Z3 s j=34)=false:=Za (by omega)
   have d91:decide (Z3 s j=91)=false:=Za (by omega)
   have fe:decide (Z3 s j=123)=true:=Ze hc
   have Y6:=Iy (s:=s) (i:=j) (by omega)
   obtain⟨H3,V9⟩:=WQ (H2.put b (rd s (j+1)))
   have g3:H3.t.get b=some (rd s (j+1)):=by rw[<-V9,ZS]
   have Fe:H3.nx=H2.nx:=by rw[<-V9];rfl
   have jZ:H3.ro=H2.ro:=by rw[<-V9];rfl
   have qe:Zp H2 H3 [b]:=by rw[<-V9];exact Zp.put λ_=>by simp
   have gl3:Sh H3:=gl2.keep qe (by simp;exact Qc)
   have gu3:V8 H3:=gu2.keep qe (by simp;exact Qc)
   have sv:=XK (fz:=0) (b:=b) (H:=H2) (l:=[.str s,nI .i64 j]) (o:=1) (v:=nI .i64 (j+1)) rfl (by simp) (by omega) (by omega) 120 1 false true
   have sv:FG 1 (some (rH 120 [.str s,nI .i64 j])) b 1 (nI .i64 (j+1)) H2=.val YS H3:=by rw[<-V9];exact sv
   have sb: ∀G,Az (nI .i64 (lv+1)) (nI .i64 1) G=.val (nI .i64 lv) G:=λG=>by rw[Wy (by omega) (by omega)];rfl
   have em:=it E (k:=k) (n:=m+1) (by omega) ihL gl3 gu3 Qc g3 (by omega) (by omega) hl (by omega) (by omega)
   cases hr:RF s 125 (M4 s (rv s lv)) (j+1) with
   |bad e p=>
    rw[hr] at em
    obtain⟨H4,q,e4,g4,hq,hp,k4⟩:=em
    refine⟨H4,q,?_,g4,hq,hp,(k2.trans qe (by simp)).trans k4 (by simp)⟩
    simp(disch:=first|omega|simp only[ZY,ZZ]<;>omega) only[Yo,eb,en,N2,LS,II,IJ,d91,fe,Ae,sv,sb,e4,OU,Xj,Xp,ZJ,Z2,YQ,c59,Zu,ZX,Zw,Zz,reduceCtorEq,Yf,WL]
   |ok l q=>
    rw[hr] at em
    obtain⟨a,H4,e4,g4,hq,k4,cs,rfl,hx⟩:=em
    obtain⟨H5,st,Kb,g5,k5,gb5⟩:=fin H4 cs (qe.trans k4 (by simp)) hx.len
    have ld:=λkk=>ldx cs kk hx.len
    refine⟨_,H5,?_,by rw[gb5];exact g4,hq,k5,cs,rfl,hx.move (λc hc hS=>by rw[Kb,ZD (by have hS: ¬c<H3.nx:=hS;omega)]) (by rw[Kb];exact Zj _) (λc hc hS=>by show c<H3.nx;have hS:c<H.nx:=hS;omega)⟩
    simp(disch:=first|omega|simp only[ZY,ZZ]<;>omega) only[Yo,eb,en,N2,LS,II,IJ,d91,fe,Ae,sv,sb,e4,st,g5,ld,OU,Xj,Xp,ZJ,Z2,YQ,c59,Zu,ZX,Zw,Zz,reduceCtorEq,Yf,WL]
  rw[if_neg hc]
  have N2:decide (Z3 s j=110)=false:=Za (by omega)
  have LS:decide (Z3 s j=116)=false:=Za (by omega)
  have II:decide (Z3 s j=102)=false:=Za (by omega)
  have IJ:decide (Z3 s j=34)=false:=Za (by omega)
  have d91:decide (Z3 s j=91)=false:=Za (by omega)
  have fe:decide (Z3 s j=123)=false:=Za (by omega)
  have e5:=λ{m}=>Zdc E (k:=k) (n:=m) (by omega) gl2 g2 (by omega) Qc (by omega) hl MT
  cases hn:Te s j with
  |bad p q=>
   rw[hn] at e5
   obtain⟨hp,hq⟩:=kP MT hn
   refine⟨H2.put b (rd s q),q,?_,ZS ..,hq,hp,k2.then_put λ_=>by simp⟩
   simp only[Yo,eb,en,N2,LS,II,IJ,d91,fe,e5,Z2,c59,Zu,ZX,Zw,Zz,reduceCtorEq,Yf,WL]
  |ok z q=>
   rw[hn] at e5
   obtain⟨r1,r2⟩:=qA hn
   have hq:=kR hn
   unfold Le at e5
   obtain⟨H3,V9⟩:=WQ (H2.put b (rd s q))
   have qe:Zp H2 H3 [b]:=by rw[<-V9];exact Zp.put λ_=>by simp
   have g3:H3.t.get b=some (rd s q):=by rw[<-V9,ZS]
   simp only[V9] at e5
   obtain⟨H4,st,_,g4,k4,fT⟩:=fin H3 [nI .i64 3,.bool false,.int .i64 z,.str [],.nils,.nils] qe rfl
   have ld:=λkk=>ldx [nI .i64 3,.bool false,.int .i64 z,.str [],.nils,.nils] kk rfl
   refine⟨.agg [nI .i64 3,.bool false,.int .i64 z,.str [],.nils,.nils],H4,?_,by rw[fT];exact g3,hq,k4,_,rfl,Jz.leaf r1 r2⟩
   simp only[Yo,eb,en,N2,LS,II,IJ,d91,fe,e5,st,g4,ld,Z2,c59,Zu,ZX,Zw,Zz,reduceCtorEq,Yf,WL,RA]
end
end
end Go.AI
