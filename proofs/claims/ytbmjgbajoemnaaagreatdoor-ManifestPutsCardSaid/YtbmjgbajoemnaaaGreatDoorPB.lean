/- Texts gathered, quoted; entries sorted: walked: proved without conditions but those that each names. -/
import Derived.Test.YtbmjgbajoemnaaaGreatDoorP9
import Derived.Test.YtbmjgbajoemnaaaGreatDoorPA
import Derived.Test.YtbmjgbajoemnaaaGreatDoorP8
set_option maxRecDepth 1000000
set_option maxHeartbeats 0
set_option linter.unusedVariables false
set_option linter.unusedSimpArgs false
namespace Go.AI
open Go
noncomputable section
section
variable {Zp:Lib} {fs:T CF} {fuel k n i h b:Nat} {H H0:Heap} {s:List UInt8} {cs:List AV}
theorem Dx(H:Heap)(m:List UInt8):Src H (.str m) (m.map XM):=by
 intro k
 show Vq H 1 (.str m) (YF m) (λnew=>k (YF m) new)=_
 rw[Yw,Zi]
 have e:Gj m=m.map XM:=by rw[Dp];rfl
 unfold Vq
 cases m with
 |nil=>rfl
 |cons x m=>
  rw[Zh,Yu,Zb (by omega)]
  show ZX (Nat.beq 1 1) (k (m.length+1) (Gj (LL (m.length+1) (x::m))))=_
  rw[OZ,ZB (by simp),e];rfl
theorem xP{c:Nat}(h:c<256):XM (UInt8.ofNat c)=nI .u8 c:=by
 unfold XM nI
 rw[UInt8.toNat_ofNat',Z7 h]
theorem qs{v:AV}{l m:List UInt8}{lo:Nat}(h:Buf H v l lo)(hl:l.length+m.length<=140737488355328)(hro:H.ro<=H.nx)(hlo:lo<=H.nx):
  ∃v' H',Vb 5 1 1 v (.str m) H=.val v' H'∧Buf H' v' (l++m) lo∧Below lo H H':=by
 rw[Qm (Zl 1) (Dx H m),Zi]
 by_cases hm:m=[]
 ·subst hm
  rw[Yl]
  rcases h with⟨rfl,rfl⟩|⟨hne,b,r,rfl,g,hb⟩
  ·exact⟨_,_,rfl,.inl ⟨rfl,rfl⟩,Below.refl _ _⟩
  ·refine⟨.slice b 0 l.length none,H,?_,.inr ⟨hne,b,r,rfl,g,hb⟩,Below.refl _ _⟩
   have hs:r.size=l.length:=by rw[g.cells.size,Zi]
   show Xp H b _=_
   unfold Xp
   simp only[g.at_]
   have h1:Ha r 1 none=true:=by show Nat.beq r.sz 1=true;rw[g.sz];rfl
   have h2:UT r 0 none=l.length:=by show cond (Nat.beq r.sz 1) (r.size - 0) _=_;rw[g.sz,hs];rfl
   rw[h1]
   show cond (Nat.ble (l.length+0) (UT r 0 none)) _ _=_
   rw[h2,Zm (by omega)];rfl
 ·have hm0:0<m.length:=Ws.2 hm
  rcases h with⟨rfl,rfl⟩|⟨hne,b,r,rfl,g,hb⟩
  ·have g:=Ct (H:=H) (e:=5) (l:=m.map XM) hro
   have e:=x9 (e:=5) (H:=H) (l:=m.map XM) (by rw[Zi];exact hm0) (by rw[Zi];simpa using hl)
   rw[Zi] at e
   exact⟨_,_,e,.inr ⟨by simpa using hm,_,_,by rw[Xs],by rw[Xs];exact g,hlo⟩,Below.new lo H _⟩
  ·obtain⟨H',r',e,g',k',nx'⟩:=Ar (m:=m.map XM) g (by rw[Zi];exact hm0) (by rw[Zi,Zi];exact hl)
   rw[Zi,Zi] at e
   refine⟨_,H',e,.inr ⟨by simp[hm],H.nx,r',by rw[Zf],by rw[Xe];exact g',hlo⟩,⟨by omega,k'.ro,λc h1 h2=>k'.get c h2 (by simp;omega)⟩⟩
structure xU(H:Heap)(sb:Nat)(l:List UInt8):Prop where
 low:sb<H.nx
 ro:H.ro<=sb
 ok: ∃a buf,H.t.get sb=some (rH 102 [a,buf])∧Buf H buf l (sb+1)∧(a=.nilp∨a=.ptr sb 0)
theorem xU.new(hro:H.ro<=H.nx):xU (H.new (rH 102 [.nilp,.nils])) H.nx []:=⟨Yo _,hro,.nilp,.nils,Zx rfl _,.inl ⟨rfl,rfl⟩,.inl rfl⟩
theorem xU.keep{H H':Heap}{sb:Nat}{l:List UInt8}(b:xU H sb l)(k:Zq H H' []):xU H' sb l:=by
 obtain⟨a,buf,g,h,ha⟩:=b.ok
 exact⟨ZO b.low k.nx,by rw[k.ro];exact b.ro,a,buf,by rw[k.get _ b.low (by simp)];exact g,h.below (λc _ hc=>k.get c hc (by simp)) k.ro k.nx,ha⟩
theorem Below.keep{H0 H H':Heap}(k:Zq H0 H [])(b:Below n H H')(h:H0.nx<=n):Zq H0 H' []:=Zq.below k b h
theorem Av{v:AV}{l:List UInt8}{lo:Nat}(h:Buf H v l lo):v.cells=[v]:=by
 rcases h with⟨_,rfl⟩|⟨_,_,_,rfl,_⟩<;>rfl
theorem K9(E:Env Zp fs fuel){sb:Nat}{a buf:AV}(g:H.t.get sb=some (rH 102 [a,buf]))(hro:H.ro<=sb)(ha:a=.nilp∨a=.ptr sb 0):
  ZJ (LK Zp fs fuel k) fs fuel (n+2) 72 [.ptr sb 0] H=.ret (.tup []) (H.put sb (rH 102 [.ptr sb 0,buf])):=by
 rw[ZL (ZF E.n72 (.inr rfl) _ _) E.f72]
 have p1:gL (.ptr sb 0) H=.val (.ptr sb 0) H:=by
  show Xp H sb _=_
  unfold Xp
  rw[g]
  rfl
 have p2:gK 102 2 (.ptr sb 0) H=.val (.ptr sb 0) H:=by
  show Xp H sb _=_
  unfold Xp
  rw[g]
  show ZX (Nat.beq 102 102) _=_
  rw[Z9];rfl
 have en:=λ{j}=>DL (Zp:=Zp) (fs:=fs) (fuel:=fuel) (TP:=TP) (RM:=RM) (k:=k) (n:=j) (f:=88) rfl (E.nesc (.ptr sb 0) H)
 rcases ha with rfl|rfl
 ·simp(maxSteps:=4000000) (disch:=first|assumption|omega|(simp -implicitDefEqProofs only[ZQ,ZR]<;>first|assumption|omega)|decide) only[g,tp,zp,p1,en,zn,p2,Z2,Lk,c72,ZC,ZY,Zz,Zw,Zr,Zt,ZA,Nat.reduceEqDiff,reduceCtorEq,Z4]
 ·rw[Bm g]
  simp(maxSteps:=4000000) (disch:=first|assumption|omega|(simp -implicitDefEqProofs only[ZQ,ZR]<;>first|assumption|omega)|decide) only[g,dO,jg,Z2,c72,ZC,ZY,Zz,Zw,Zr,Zt,ZA,Nat.reduceEqDiff,reduceCtorEq,Z4]
theorem MJ(E:Env Zp fs fuel){sb:Nat}{x:Nat}{l:List UInt8}(b:xU H sb l)(hx:x<256)(hl:l.length+[UInt8.ofNat x].length<=140737488355328)(hro:H.ro<=H.nx):
  ∃H',ZJ (LK Zp fs fuel k) fs fuel (n+3) 54 [.ptr sb 0,nI .u8 x] H=.ret (.nili) H'∧xU H' sb (l++[UInt8.ofNat x])∧Below sb H H':=by
 rw[ZL (ZF E.n54 (.inr rfl) _ _) E.f54]
 obtain⟨a,buf,g,hb,ha⟩:=b.ok
 have hlow:=b.low
 have hrs:=b.ro
 have ec:=λ{j}=>K9 (Zp:=Zp) (fs:=fs) (fuel:=fuel) E (k:=k) (n:=j) g b.ro ha
 obtain⟨H1,hH1⟩:=XZ (H.put sb (rH 102 [.ptr sb 0,buf]))
 rw[hH1] at ec
 have U2:H1.nx=H.nx:=by rw[<-hH1];rfl
 have Rm:H1.ro=H.ro:=by rw[<-hH1];rfl
 have g1:H1.t.get sb=some (rH 102 [.ptr sb 0,buf]):=by rw[<-hH1,Y1]
 have b1:Below sb H H1:=by rw[<-hH1];exact Below.put (Zl _)
 have hb1:Buf H1 buf l (sb+1):=hb.below (λc h _=>by rw[<-hH1,YT (by omega)]) Rm (by omega)
 obtain⟨v',H3,ea,hb3,b3⟩:=kx hb1 (by simp at hl;omega) (by rw[Rm,U2];exact hro) (by omega) (UInt8.ofNat x)
 have g3:H3.t.get sb=some (rH 102 [.ptr sb 0,buf]):=by rw[b3.get sb (by omega) (by omega)];exact g1
 have hv:=Av hb3
 have r3:H3.ro<=sb:=by rw[b3.ro,Rm];exact hrs
 have st: ∀(e:Nat),rK 1 (some (rH 102 [.ptr sb 0,buf])) sb 1 v' H3=.val Xl (H3.put sb (rH 102 [.ptr sb 0,v'])):=λe=>Lk hv (by simp) r3 (by omega) _ _ _ _
 have st:=st 0
 rw[xP hx,UN,U2] at ea
 simp(maxSteps:=4000000) (disch:=first|assumption|omega|(simp -implicitDefEqProofs only[ZQ,ZR]<;>first|assumption|omega)|decide) only[ec,g1,ea,g3,st,U2,Z2,VO,PF,UN,Y7,YS,c54,ZC,ZY,Zz,Zw,Zr,Zt,ZA,Nat.reduceEqDiff,reduceCtorEq,Z4]
 refine⟨_,rfl,⟨?_,r3,.ptr sb 0,v',Y1 ..,?_,.inr rfl⟩,b1.trans ((b3.mono (XV _)).trans (Below.put (Zl _)))⟩
 ·have:=b3.nx;show sb<H3.nx;omega
 ·exact hb3.below (λc h _=>by rw[YT (by omega)]) rfl (Zl _)
theorem Nu(E:Env Zp fs fuel){sb:Nat}{m:List UInt8}{l:List UInt8}(b:xU H sb l)(hl:l.length+m.length<=140737488355328)(hro:H.ro<=H.nx):
  ∃H',ZJ (LK Zp fs fuel k) fs fuel (n+3) 53 [.ptr sb 0,.str m] H=.ret (.tup [nI .i64 m.length,.nili]) H'∧xU H' sb (l++m)∧Below sb H H':=by
 rw[ZL (ZF E.n53 (.inr rfl) _ _) E.f53]
 obtain⟨a,buf,g,hb,ha⟩:=b.ok
 have hlow:=b.low
 have hrs:=b.ro
 have ec:=λ{j}=>K9 (Zp:=Zp) (fs:=fs) (fuel:=fuel) E (k:=k) (n:=j) g b.ro ha
 obtain⟨H1,hH1⟩:=XZ (H.put sb (rH 102 [.ptr sb 0,buf]))
 rw[hH1] at ec
 have U2:H1.nx=H.nx:=by rw[<-hH1];rfl
 have Rm:H1.ro=H.ro:=by rw[<-hH1];rfl
 have g1:H1.t.get sb=some (rH 102 [.ptr sb 0,buf]):=by rw[<-hH1,Y1]
 have b1:Below sb H H1:=by rw[<-hH1];exact Below.put (Zl _)
 have hb1:Buf H1 buf l (sb+1):=hb.below (λc h _=>by rw[<-hH1,YT (by omega)]) Rm (by omega)
 obtain⟨v',H3,ea,hb3,b3⟩:=qs (m:=m) hb1 (by simpa using hl) (by rw[Rm,U2];exact hro) (by omega)
 have g3:H3.t.get sb=some (rH 102 [.ptr sb 0,buf]):=by rw[b3.get sb (by omega) (by omega)];exact g1
 have hv:=Av hb3
 have r3:H3.ro<=sb:=by rw[b3.ro,Rm];exact hrs
 have st: ∀(e:Nat),rK 1 (some (rH 102 [.ptr sb 0,buf])) sb 1 v' H3=.val Xl (H3.put sb (rH 102 [.ptr sb 0,v'])):=λe=>Lk hv (by simp) r3 (by omega) _ _ _ _
 have st:=st 0
 simp(maxSteps:=4000000) (disch:=first|assumption|omega|(simp -implicitDefEqProofs only[ZQ,ZR]<;>first|assumption|omega)|decide) only[ec,g1,ea,g3,st,U2,Z2,VO,PF,UN,Y7,YS,c53,ZC,ZY,Zz,Zw,Zr,Zt,ZA,Nat.reduceEqDiff,reduceCtorEq,Z4]
 refine⟨_,rfl,⟨?_,r3,.ptr sb 0,v',Y1 ..,?_,.inr rfl⟩,b1.trans ((b3.mono (XV _)).trans (Below.put (Zl _)))⟩
 ·have:=b3.nx;show sb<H3.nx;omega
 ·exact hb3.below (λc h _=>by rw[YT (by omega)]) rfl (Zl _)
theorem qj(E:Env Zp fs fuel){sb:Nat}{l:List UInt8}(b:xU H sb l)(hlen:l.length<=140737488355328):
  ∃H',ZJ (LK Zp fs fuel k) fs fuel (n+1) 55 [.ptr sb 0] H=.ret (.str l) H'∧Below sb H H':=by
 rw[ZL (ZF E.n55 (.inr rfl) _ _) E.f55]
 obtain⟨a,buf,g,hb,ha⟩:=b.ok
 have hlow:=b.low
 obtain⟨p,u1,⟨H',u2,u3⟩,u4,u5,u6,u7,u8⟩:=rZ hb hlen
 have u1:=u1 ⟨H.nx,H.t,H.nx⟩ rfl
 have u4:=u4 H.nx (Zl _)
 have u5:=u5 H.nx H.t
 have u6:=u6 H.nx (Zl _)
 have u7:=u7 H.nx H.t
 have lp:Xm H.nx (.ptr sb 0)=true:=Yp b.low 0
 have lp1:Xm H.nx (.ptr sb 1)=true:=Yp b.low 1
 simp(maxSteps:=4000000) (disch:=first|assumption|omega|(simp -implicitDefEqProofs only[ZQ,ZR]<;>first|assumption|omega)|decide) only[lp,lp1,g,Z2,KG,u1,FU,u2,u4,u5,u6,u7,u8,c55,ZC,ZY,Zz,Zw,Zr,Zt,ZA,Nat.reducePow,Nat.reduceDiv,Nat.reduceMod,Nat.reduceEqDiff,reduceCtorEq,Z4]
 refine⟨_,rfl,?_⟩
 exact u3.mono (XV _)
end
def Jx(n:Nat):UInt8:=if n<10 then UInt8.ofNat (48+n) else UInt8.ofNat (87+n)
def qB(c:UInt8):List UInt8:=if c.toNat=34∨c.toNat=92 then [92,c] else if c.toNat<32 then [92,117,48,48,Jx (c.toNat/16),Jx (c.toNat % 16)] else [c]
def quo(s:List UInt8):List UInt8:=[34]++s.flatMap qB++[34]
theorem ZcA(c:UInt8):1<=(qB c).length∧(qB c).length<=6:=by
 unfold qB;split
 ·simp
 ·split<;>simp
theorem Bn: ∀s:List UInt8,(s.flatMap qB).length<=6*s.length
 |[]=>by simp
 |c::s=>by
  rw[List.flatMap_cons,Zf,Zh]
  have:=Bn s;have:=(ZcA c).2;omega
theorem xz(s:List UInt8):(quo s).length<=6*s.length+2∧2<=(quo s).length:=by
 unfold quo
 have:=Bn s
 simp only[Zf,Zh,Zv]
 omega
theorem fI{s:List UInt8}{i:Nat}(h:i<s.length):(s.take (i+1)).flatMap qB=(s.take i).flatMap qB++qB (s.getD i 0):=by
 rw[UH,Zg h,TD,Za,Zg h]
 simp
theorem cW{s:List UInt8}{i:Nat}(h:i<s.length):(s.take (i+1)).drop i=[s.getD i 0]:=by
 rw[UH,Zg h,List.drop_append,Uu (by rw[ZP];omega),ZP,Vi (by omega),T6,Za,Zg h]
 rfl
theorem jG{n:Nat}(h:n<16):XN [48,49,50,51,52,53,54,55,56,57,97,98,99,100,101,102] n=(Jx n).toNat:=by
 have:n=0∨n=1∨n=2∨n=3∨n=4∨n=5∨n=6∨n=7∨n=8∨n=9∨n=10∨n=11∨n=12∨n=13∨n=14∨n=15:=by omega
 rcases this with rfl|rfl|rfl|rfl|rfl|rfl|rfl|rfl|rfl|rfl|rfl|rfl|rfl|rfl|rfl|rfl<;>rfl
theorem Za0{n:Nat}(h:n<2):XN [48,49] n=(Jx n).toNat:=by
 have:n=0∨n=1:=by omega
 rcases this with rfl|rfl<;>rfl
theorem qO{n:Nat}(h:n<16):(Jx n).toNat<128:=by
 have:n=0∨n=1∨n=2∨n=3∨n=4∨n=5∨n=6∨n=7∨n=8∨n=9∨n=10∨n=11∨n=12∨n=13∨n=14∨n=15:=by omega
 rcases this with rfl|rfl|rfl|rfl|rfl|rfl|rfl|rfl|rfl|rfl|rfl|rfl|rfl|rfl|rfl|rfl<;>decide
section
variable {Zp:Lib} {fs:T CF} {fuel k n i h b:Nat} {H H0:Heap} {s:List UInt8} {cs:List AV}
theorem yE(h:n<128):(Utf8.encode (n:Int)).data.toList=[UInt8.ofNat n]:=by
 have: ∀n:Fin 128,(Utf8.encode ((n.val:Nat):Int)).data.toList=[UInt8.ofNat n.val]:=by decide
 exact this ⟨n,h⟩
def ZaG(a:AV)(H:Heap):OR:=Qq a λ_ n=>.val (.str (Utf8.encode n).data.toList) H
theorem iR(x:Ye)(tm:TM)(H:Heap):pr x tm H=ZaG (x tm) H:=rfl
theorem EW{k:IntKind}(h:n<128)(H:Heap):ZaG (nI k n) H=.val (.str [UInt8.ofNat n]) H:=by
 show OR.val (.str (Utf8.encode (n:Int)).data.toList) H=_
 rw[yE h]
theorem zi{a:Nat}(ha:a<256)(H:Heap):DM OK (nI .u8 a) (nI .u8 15) H=.val (nI .u8 (a % 16)) H:=by
 show ZX (P0 .u8 .u8) (UP .u8 (.ofNat (Nat.land (a % 256) (15 % 256))) H)=_
 rw[XI,XY,Jt,Z7 ha]
 show OR.val _ H=_
 rw[show Nat.land a (15 % 256)=a&&&(2^4 - 1) from rfl,Nat.and_two_pow_sub_one_eq_mod,Z7 (show a % 2^4<256 by omega)];rfl
theorem iW(s:List UInt8)(i:Nat):UInt8.ofNat (XN s i)=s.getD i 0:=by unfold XN;exact Ti
structure QI(H0:Heap)(s:List UInt8)(m:Nat)(tm:TM)(H:Heap):Prop where
 i: ∃i,Wv tm=nI .i64 i∧i<=s.length∧m=s.length - i∧xU H H0.nx ([34]++(s.take i).flatMap qB)
 t0:Ys tm=.str s
 t3:XK tm=.ptr H0.nx 0
 t8:Wc tm=nI .i64 s.length
 k:Zq H0 H []
 ro:H.ro<=H.nx
theorem ZcB(E:Env Zp fs fuel)(hs:s.length<=9000)(y f d r)(x:X)(m:Nat)(tm:TM)(H:Heap)(h:QI H0 s m tm H):
  ∃o tm' H',LY ⟨ZJ (LK Zp fs fuel 1) fs fuel (n+3),y,f,d,r⟩ tm H x=.ok o tm' H' x∧((o=.normal∧ ∃k,k<m∧QI H0 s k tm' H')∨(o≠.normal∧(o=.exit 0∧XK tm'=.ptr H0.nx 0∧xU H' H0.nx ([34]++s.flatMap qB)∧Zq H0 H' []∧H'.ro<=H'.nx))):=by
 obtain⟨⟨i,t9,hi,rfl,b⟩,t0,t3,t8,k0,hro⟩:=h
 have t0':=t0;have O9:=t3;have zW:=t8
 simp only[Pn,Qg,Jw,yM] at t0 t3 t8 t9
 by_cases hlt:i<s.length
 ·have d1:decide (i<s.length)=true:=Ze hlt
  have hq:=Bn (s.take i)
  rw[ZP] at hq
  have hb:=NX s i
  have hmid:=cW hlt
  have done: ∀{H2:Heap} {m:List UInt8} {fL:TM},m=qB (s.getD i 0)->xU H2 H0.nx ([34]++(s.take i).flatMap qB++m)->Below H0.nx H H2->Wv fL=nI .i64 (i+1)->Ys fL=.str s->XK fL=.ptr H0.nx 0->Wc fL=nI .i64 s.length->QI H0 s (s.length - (i+1)) fL H2:=λhm b2 w2 a1 a2 a3 a4=>
   ⟨⟨i+1,a1,by omega,rfl,by rw[fI hlt,<-hm,<-Y6];exact b2⟩,a2,a3,a4,Below.keep k0 w2 (Zl _),by rw[w2.ro];have:=w2.nx;omega⟩
  have slm:=λ(G:Heap)=>Ox (s:=s) (p:=i) (q:=i+1) (by omega) (by omega) .i64 .i64 G
  rw[hmid] at slm
  have lowsb:Xm H.nx (.ptr H0.nx 0)=true:=Yp b.low 0
  generalize hc:XN s i=cc at hb
  have hcc:(s.getD i 0).toNat=cc:=hc
  have ofc:UInt8.ofNat cc=s.getD i 0:=by rw[<-hc,iW]
  have ibs:=λ(G:Heap)=>Wf hlt .i64 G
  rw[hc] at ibs
  by_cases EH:cc=34
  ·have d34:decide (cc=34)=true:=Ze EH
   obtain⟨H2,e2,b2,w2⟩:=Nu E (k:=1) (n:=n) b (m:=[92,s.getD i 0]) (by simp only[Zf,Zh,Zv];omega) hro
   simp(maxSteps:=4000000) (disch:=first|assumption|(simp only[Zh,Zv];omega)|omega|(simp -implicitDefEqProofs only[ZQ,ZR]<;>first|assumption|omega)|decide) only[t0,t3,t8,t9,d1,d34,ibs,slm,ZH,YD,YZ,YI,V7,e2,LY,ZC,ZY,Zz,Zw,Zr,Zt,ZA,Nat.reducePow,Nat.reduceDiv,Nat.reduceMod,Nat.reduceEqDiff,reduceCtorEq,Z4,WG]
   refine⟨_,_,_,rfl,?_⟩
   exact .inl ⟨rfl,_,by omega,done (by unfold qB;rw[hcc,if_pos (.inl EH)]) b2 w2 rfl t0' O9 zW⟩
  have d34:decide (cc=34)=false:=Zb EH
  by_cases h92:cc=92
  ·have d92:decide (cc=92)=true:=Ze h92
   obtain⟨H2,e2,b2,w2⟩:=Nu E (k:=1) (n:=n) b (m:=[92,s.getD i 0]) (by simp only[Zf,Zh,Zv];omega) hro
   simp(maxSteps:=4000000) (disch:=first|assumption|(simp only[Zh,Zv];omega)|omega|(simp -implicitDefEqProofs only[ZQ,ZR]<;>first|assumption|omega)|decide) only[t0,t3,t8,t9,d1,d34,d92,ibs,slm,ZH,YD,YZ,YI,V7,e2,LY,ZC,ZY,Zz,Zw,Zr,Zt,ZA,Nat.reducePow,Nat.reduceDiv,Nat.reduceMod,Nat.reduceEqDiff,reduceCtorEq,Z4,WG]
   refine⟨_,_,_,rfl,?_⟩
   exact .inl ⟨rfl,_,by omega,done (by unfold qB;rw[hcc,if_pos (.inr h92)]) b2 w2 rfl t0' O9 zW⟩
  have d92:decide (cc=92)=false:=Zb h92
  by_cases h32:cc<32
  ·have aZ:decide (cc<32)=true:=Ze h32
   have hd1:cc/16<2:=by omega
   have hd2:cc % 16<16:=by omega
   obtain⟨H2,e2,b2,w2⟩:=Nu E (k:=1) (n:=n) b (m:=[92,117,48,48,Jx (cc/16),Jx (cc % 16)]) (by simp only[Zf,Zh,Zv];omega) hro
   have x1:=λ(G:Heap)=>Wf (s:=[48,49]) (i:=cc/16) hd1 .u8 G
   have x2:=λ(G:Heap)=>Wf (s:=[48,49,50,51,52,53,54,55,56,57,97,98,99,100,101,102]) (i:=cc % 16) hd2 .u8 G
   rw[Za0 hd1] at x1
   rw[jG hd2] at x2
   have r1:=λ(G:Heap)=>EW (k:=.u8) (qO (n:=cc/16) (by omega)) G
   have r2:=λ(G:Heap)=>EW (k:=.u8) (qO hd2) G
   rw[Ti] at r1 r2
   simp(maxSteps:=4000000) (disch:=first|assumption|(simp only[Zh,Zv];omega)|omega|(simp -implicitDefEqProofs only[ZQ,ZR]<;>first|assumption|omega)|decide) only[t0,t3,t8,t9,d1,d34,d92,aZ,ibs,lowsb,ZH,YD,YZ,Zgk,x1,x2,SS,r1,r2,iR,zi,YI,V7,Gi,e2,LY,ZC,ZY,Zz,Zw,Zr,Zt,ZA,Nat.reducePow,Nat.reduceDiv,Nat.reduceMod,Nat.reduceEqDiff,reduceCtorEq,Z4,WG]
   refine⟨_,_,_,rfl,?_⟩
   exact .inl ⟨rfl,_,by omega,done (by unfold qB;rw[hcc,if_neg (by omega),if_pos h32]) b2 w2 rfl t0' O9 zW⟩
  have aZ:decide (cc<32)=false:=Zb h32
  obtain⟨H2,e2,b2,w2⟩:=MJ E (k:=1) (n:=n) b (x:=cc) hb (by simp only[Zf,Zh,Zv];omega) hro
  rw[ofc] at b2
  simp(maxSteps:=4000000) (disch:=first|assumption|omega|(simp -implicitDefEqProofs only[ZQ,ZR]<;>first|assumption|omega)|decide) only[t0,t3,t8,t9,d1,d34,d92,aZ,ibs,ZH,YD,YZ,e2,LY,ZC,ZY,Zz,Zw,Zr,Zt,ZA,Nat.reducePow,Nat.reduceDiv,Nat.reduceMod,Nat.reduceEqDiff,reduceCtorEq,Z4,WG]
  refine⟨_,_,_,rfl,?_⟩
  exact .inl ⟨rfl,_,by omega,done (by unfold qB;rw[hcc,if_neg (by omega),if_neg h32]) b2 w2 rfl t0' O9 zW⟩
 ·have d1:decide (i<s.length)=false:=Zb hlt
  simp(maxSteps:=4000000) (disch:=first|assumption|omega|(simp -implicitDefEqProofs only[ZQ,ZR]<;>first|assumption|omega)|decide) only[t8,t9,d1,ZH,LY,ZC,ZY,Zz,Zw,Zr,Zt,ZA,Nat.reducePow,Nat.reduceDiv,Nat.reduceMod,Nat.reduceEqDiff,reduceCtorEq,Z4,WG]
  refine⟨_,_,_,rfl,?_⟩
  exact .inr ⟨by simp,rfl,O9,by rw[ZB (by omega)] at b;exact b,k0,hro⟩
theorem rk(E:Env Zp fs fuel)(hs:s.length<=9000)(hro:H.ro<=H.nx):
  ∃H',ZJ (LK Zp fs fuel 1) fs fuel (n+4) 63 [.str s] H=.ret (.str (quo s)) H'∧Zq H H' []:=by
 rw[ZL (ZF E.n63 (.inl (by decide)) _ _) E.f63]
 obtain⟨H1,hH1⟩:=XZ (H.new (rH 102 [.nilp,.nils]))
 have b1:=xU.new (H:=H) hro
 rw[hH1] at b1
 have k1:Zq H H1 []:=by rw[<-hH1];exact Zq.new H _ _
 have Rm:H1.ro<=H1.nx:=by rw[k1.ro];have:=k1.nx;omega
 obtain⟨H2,e2,b2,w2⟩:=MJ E (k:=1) (n:=n) b1 (x:=34) (by decide) (by simp) Rm
 have k2:=Below.keep k1 w2 (Zl _)
 simp(maxSteps:=4000000) (disch:=first|assumption|omega|(simp -implicitDefEqProofs only[ZQ,ZR]<;>first|assumption|omega)|decide) only[hH1,e2,Y7,c63,ZC,ZY,Zz,Zw,Zr,Zt,ZA,Nat.reduceEqDiff,reduceCtorEq,Z4,WG]
 generalize hL:XQ (LY _) fuel _ _ _=L
 obtain⟨o,Tx,H3,rfl,_,rfl,t3,b3,k3,GJ⟩:=YA (P:=λT=>QI H s s.length T H2) (Q:=λo tm' H'=>o=.exit 0∧XK tm'=.ptr H.nx 0∧xU H' H.nx ([34]++s.flatMap qB)∧Zq H H' []∧H'.ro<=H'.nx)
  (λT hi'=>YK (QI H s) _ (λm tm H' h'=>ZcB E hs _ _ _ _ _ m tm H' h') fuel s.length T H2 (by have:=E.big;omega) hi') hL
  ⟨⟨0,rfl,Z8 _,rfl,b2⟩,rfl,rfl,rfl,k2,by rw[w2.ro];have:=w2.nx;omega⟩
 simp only[Qg] at t3
 have hq:=Bn s
 obtain⟨H4,e4,b4,w4⟩:=MJ E (k:=1) (n:=n) b3 (x:=34) (by decide) (by simp only[Zf,Zh,Zv];omega) GJ
 obtain⟨H5,e5,w5⟩:=qj E (k:=1) (n:=n+2) b4 (by simp only[Zf,Zh,Zv];omega)
 simp(maxSteps:=4000000) (disch:=first|assumption|omega|(simp -implicitDefEqProofs only[ZQ,ZR]<;>first|assumption|omega)|decide) only[t3,e4,e5,c63,ZC,ZY,Zz,Zw,Zr,Zt,ZA,Nat.reduceEqDiff,reduceCtorEq,Z4,WG]
 refine⟨_,rfl,?_⟩
 exact Below.keep (Below.keep k3 w4 (Zl _)) w5 (Zl _)
theorem gX(E:Env Zp fs fuel)(hk:2<=k)(hs:s.length<=9000)(hro:H.ro<=H.nx):
  ZJ (LK Zp fs fuel k) fs fuel (n+1) 63 [.str s] H=.ret (.str (quo s)) H:=by
 obtain⟨H',e,g⟩:=rk E (n:=896) (H:=H) hs hro
 exact Wn (r:=1) rfl rfl e g (rfl) hk
def xZ(H:Heap)(v:AV)(N:Nat)(l:List UInt8)(lo:Nat):Prop:=
 ∃b r,v=.slice b 0 l.length none∧lo<=b∧b<H.nx∧H.ro<=b∧H.t.get b=some (.row r)∧r.elem=5∧r.sz=1∧r.size=N∧r.own=true∧r.sm=false∧r.fz=0∧ ∀i,i<l.length->r.get i=(l.map XM).getD i .unk
theorem xZ.below{H H':Heap}{v:AV}{N:Nat}{l:List UInt8}{lo:Nat}(h:xZ H v N l lo)(hg: ∀c,lo<=c->c<H.nx->H'.t.get c=H.t.get c)(hr:H'.ro=H.ro)(hn:H.nx<=H'.nx):xZ H' v N l lo:=by
 obtain⟨b,r,e,h1,h2,h3,h4,h5⟩:=h
 exact⟨b,r,e,h1,ZO h2 hn,by rw[hr];exact h3,by rw[hg b h1 h2];exact h4,h5⟩
theorem s9{v:AV}{N:Nat}{l:List UInt8}{lo:Nat}(h:xZ H v N l lo):v.cells=[v]:=by
 obtain⟨b,r,rfl,_⟩:=h;rfl
theorem gI{v:AV}{N:Nat}{l m:List UInt8}{lo:Nat}(h:xZ H v N l lo)(hl:l.length+m.length<=N):
  ∃v' H',Vb 5 1 1 v (.str m) H=.val v' H'∧xZ H' v' N (l++m) lo∧Below lo H H':=by
 rw[Qm (Zl 1) (Dx H m),Zi]
 obtain⟨b,r,rfl,h1,h2,h3,h4,h5,h6,h7,h8,h9,h10,h11⟩:=h
 have RI:H.may r b=true:=by unfold Heap.may;rw[h8,Zm h3];rfl
 have hs:Ha r 1 none=true:=by show Nat.beq r.sz 1=true;rw[h6];rfl
 have hc:UT r 0 none=N:=by show cond (Nat.beq r.sz 1) (r.size - 0) _=_;rw[h6,h7];rfl
 have e1:NW (.slice b 0 l.length none) 5 1 1 H m.length (m.map XM)=DJ H (.slice b 0 l.length none) b 0 l.length m.length 1 none r (m.map XM):=by
  show Xp H b _=_
  unfold Xp
  rw[h4]
  show ZX (Ha r 1 none) (cond (Nat.ble (l.length+m.length) (UT r 0 none)) _ _)=_
  rw[hs,hc,Zm hl];rfl
 rw[e1]
 by_cases hm:m.length=0
 ·have:m=[]:=YW.1 hm
  subst this
  rw[Yl]
  exact⟨_,_,rfl,⟨b,r,rfl,h1,h2,h3,h4,h5,h6,h7,h8,h9,h10,h11⟩,Below.refl _ _⟩
 ·refine⟨.slice b 0 (l.length+m.length) none,H.put b (.row (r.setCells (Wg r.cells l.length (m.map XM)))),?_,⟨b,_,by rw[Zf],h1,h2,h3,Y1 ..,h5,h6,h7,h8,h9,h10,λi hi=>?_⟩,Below.put h1⟩
  ·show cond (Nat.beq m.length 0) _ (ZX (H.may r b) (ZX (Nat.ble (0+(l.length+m.length)*1) r.size) (ZX (Nat.ble r.fz (0+l.length*1)) (.val (.slice b 0 (l.length+m.length) none) (H.put b (.row (r.setCells (Wg r.cells (0+l.length*1) (m.map XM)))))))))=_
   rw[Yu,Zb hm,RI,h7,h10,Zm (by omega),Zm (by omega),Xw,Zs];rfl
  ·show(Option.rec r.dflt (λv=>v) ((Wg r.cells l.length (m.map XM)).get i):AV)=_
   rw[Sj,Xe,Za]
   rw[Zf] at hi
   by_cases hil:i<l.length
   ·rw[if_neg (by omega),Yc (by rw[Zi];exact hil)]
    have:=h11 i hil
    rw[Za] at this
    exact this
   ·rw[if_pos (by rw[Zi];omega),Zu (by rw[Zi];omega),Zi]
    rw[Zg (by rw[Zi];omega)];rfl
theorem uD{v:AV}{l:List UInt8}{lo:Nat}(h:xZ H v l.length l lo)(hp:0<l.length)(hl:l.length<=140737488355328): ∃p,(∀G:Heap,G.t=H.t->DB v G=.val p G)∧(∃H',pW 5 p (nI .i64 l.length) H=.val (.str l) H'∧Below lo H H')∧(∀n,H.nx<=n->Xm n p=true)∧(∀n t,Vv (.val p ⟨n,t,n⟩) p n=true)∧(∀n,H.nx<=n->Xm n v=true)∧(∀n t,Vv (.val v ⟨n,t,n⟩) v n=true)∧ ∀G,RV v G=.val (nI .i64 l.length) G:=by
 obtain⟨b,r,rfl,h1,h2,h3,h4,h5,h6,h7,h8,h9,h10,h11⟩:=h
 refine⟨.ptr b 0,λG e=>?_,?_,λn hn=>Yp (ZO h2 hn) 0,λn t=>Ur _ _ _ (by unfold same;rw[Z9,Z9];rfl),λn hn=>Xk (ZO h2 hn) _ _ _,λn t=>Sd _ _ _ _ _ _,λG=>XP ..⟩
 ·show Xp G b _=_
  unfold Xp
  rw[e,h4]
  show ZX (Nat.ble 1 r.size) _=_
  rw[Zm (by omega)];rfl
 ·refine⟨H.put b (.row ⟨r.elem,r.sz,r.size,r.cells,r.dflt,cond (Nat.ble r.fz (Nat.add 0 l.length)) (Nat.add 0 l.length) r.fz,r.sm,r.own,r.exact⟩),?_,Below.put h1⟩
  show cond (Nat.beq l.length 0) _ (ZX (Nat.ble l.length 140737488355328) (Xp H b _))=_
  rw[Yu,Zb (by omega),Zm hl]
  unfold Xp
  rw[h4]
  show ZX (Nat.beq r.elem 5) (ZX (cond r.sm false (H.may r b)) (ZX (Nat.ble (0+l.length) r.size) (R7 _ (WO r 0 l.length))))=_
  have RI:H.may r b=true:=by unfold Heap.may;rw[h8,Zm h3];rfl
  have hld:WO r 0 l.length=l.map XM:=by
   apply X4
   intro j
   by_cases hj:j<l.length
   ·rw[SB _ _ _ _ hj,Zs,h11 j hj,Za,Zg (by rw[Zi];exact hj)];rfl
   ·rw[YB (by rw[Se];omega),YB (by rw[Zi];omega)]
  rw[h5,h9,RI,Zm (by omega),hld,Lq]
  rfl
structure DE(H:Heap)(sb N:Nat)(l:List UInt8):Prop where
 low:sb<H.nx
 ro:H.ro<=sb
 ok: ∃buf,H.t.get sb=some (rH 102 [.ptr sb 0,buf])∧xZ H buf N l (sb+1)
theorem DE.keep{H H':Heap}{sb N:Nat}{l:List UInt8}(b:DE H sb N l)(k:Zq H H' []):DE H' sb N l:=by
 obtain⟨buf,g,h⟩:=b.ok
 exact⟨ZO b.low k.nx,by rw[k.ro];exact b.ro,buf,by rw[k.get _ b.low (by simp)];exact g,h.below (λc _ hc=>k.get c hc (by simp)) k.ro k.nx⟩
theorem Lv(E:Env Zp fs fuel){sb N:Nat}{m:List UInt8}{l:List UInt8}(b:DE H sb N l)(hl:l.length+m.length<=N):
  ∃H',ZJ (LK Zp fs fuel k) fs fuel (n+3) 53 [.ptr sb 0,.str m] H=.ret (.tup [nI .i64 m.length,.nili]) H'∧DE H' sb N (l++m)∧Below sb H H':=by
 rw[ZL (ZF E.n53 (.inr rfl) _ _) E.f53]
 obtain⟨buf,g,hb⟩:=b.ok
 have hlow:=b.low
 have hrs:=b.ro
 have ec:=λ{j}=>K9 E (k:=k) (n:=j) g b.ro (.inr rfl)
 rw[Bm g] at ec
 obtain⟨v',H3,ea,hb3,b3⟩:=gI (m:=m) hb hl
 have g3:H3.t.get sb=some (rH 102 [.ptr sb 0,buf]):=by rw[b3.get sb (by omega) (by omega)];exact g
 have hv:=s9 hb3
 have r3:H3.ro<=sb:=by rw[b3.ro];exact hrs
 have st:=Lk (fz:=0) (b:=sb) (H:=H3) (l:=[.ptr sb 0,buf]) (o:=1) hv (by simp) r3 (by omega) 102 1 false true
 simp(disch:=first|assumption|omega|(simp -implicitDefEqProofs only[ZQ,ZR]<;>first|assumption|omega)|decide) only[ec,g,ea,g3,st,Z2,VO,Y7,Zs,XU,List.set_cons_zero,c53,ZC,ZY,Zz,Zw,Z4]
 refine⟨_,rfl,⟨?_,r3,v',Y1 ..,?_⟩,(b3.mono (XV _)).trans (Below.put (Zl _))⟩
 ·have:=b3.nx;show sb<H3.nx;omega
 ·exact hb3.below (λc h _=>by rw[YT (by omega)]) rfl (Zl _)
theorem kr(E:Env Zp fs fuel){sb:Nat}{l:List UInt8}(b:DE H sb l.length l)(hp:0<l.length)(hlen:l.length<=140737488355328):
  ∃H',ZJ (LK Zp fs fuel k) fs fuel (n+1) 55 [.ptr sb 0] H=.ret (.str l) H'∧Below sb H H':=by
 rw[ZL (ZF E.n55 (.inr rfl) _ _) E.f55]
 obtain⟨buf,g,hb⟩:=b.ok
 obtain⟨p,u1,⟨H',u2,u3⟩,u4,u5,u6,u7,u8⟩:=uD hb hp hlen
 have u1:=u1 ⟨H.nx,H.t,H.nx⟩ rfl
 have u5:=u5 H.nx H.t
 have u6:=u6 H.nx (Zl _)
 have u7:=u7 H.nx H.t
 have lp:Xm H.nx (.ptr sb 0)=true:=Yp b.low 0
 simp(disch:=first|assumption|omega|(simp -implicitDefEqProofs only[ZQ,ZR]<;>first|assumption|omega)|decide) only[lp,g,Z2,KG,u1,FU,u2,u5,u6,u7,u8,c55,ZC,ZY,Zz,Zw,Zr,Zt,Nat.reducePow,Nat.reduceDiv,Nat.reduceMod,Z4]
 refine⟨_,rfl,?_⟩
 exact u3.mono (XV _)
def ZdL(v:AV)(H:Heap):OR:=U0 v (.val (.int .i64 0) H) λb o _ cap=>Option.rec (Xp H b λr=>ZX r.exact (ZX (Nat.beq (Nat.mod o r.sz) 0) (.val (.int .i64 (.ofNat (UT r o none))) H))) (λc=>.val (.int .i64 (.ofNat c)) H) cap
theorem pp(x:Ye)(tm:TM)(H:Heap):bo x tm H=ZdL (x tm) H:=rfl
theorem AA(H:Heap):ZdL .nils H=.val (nI .i64 0) H:=rfl
def ai(e N:Nat):Obj:=.row ⟨e,1,N,.leaf,.unk,0,false,true,false⟩
theorem fE{N:Nat}(g:H.t.get b=some (ai 5 N))(hN:0<N)(k:IntKind):Bx 1 (.slice b 0 N none) none (some (nI k 0)) H=.val (.slice b 0 0 none) H:=by
 show Xp H b _=_
 unfold Xp
 rw[g]
 show cond (Nat.beq 0 N) _ _=_
 rw[Yu,Zb (by omega)];rfl
theorem th(b o:Nat)(c:Option Nat)(H:Heap):kT 1 (.slice b o 0 c) .nils H=.val (.int .i64 0) H:=rfl
theorem ni(b o n:Nat)(c:Option Nat)(q:Nat)(t:T Obj):Vv (.val (.slice b o n c) ⟨q,t,q⟩) (.slice b o n c) q=true:=Sd ..
def pY(Zp:Lib):Prop:= ∀(n:Nat) (H:Heap),n<=281474976710656->Zp 105 [nI .i64 n] H=some (.ret (.slice H.nx 0 n none) (H.new (ai 5 n)))
theorem Zea(E:Env Zp fs fuel)(M:pY Zp){sb N:Nat}(g:H.t.get sb=some (rH 102 [.ptr sb 0,.nils]))(hlow:sb<H.nx)(hro:H.ro<=sb)(h0:0<N)(hN:N<=281474976710656)(hnn:TP 105=0):
  ∃H',ZJ (LK Zp fs fuel k) fs fuel (n+2) 96 [.ptr sb 0,nI .i64 N] H=.ret (.tup []) H'∧DE H' sb N []∧Below sb H H':=by
 rw[ZL (ZF E.n96 (.inr rfl) _ _) E.f96]
 have em:=λ{j}=>DL (Zp:=Zp) (fs:=fs) (fuel:=fuel) (TP:=TP) (RM:=RM) (k:=k) (n:=j) (f:=105) rfl (M N H hN)
 obtain⟨H1,hH1⟩:=XZ (H.new (ai 5 N))
 rw[hH1] at em
 have U2:H1.nx=H.nx+1:=by rw[<-hH1];rfl
 have Rm:H1.ro=H.ro:=by rw[<-hH1];rfl
 have g1:H1.t.get H.nx=some (ai 5 N):=by rw[<-hH1,Zx rfl]
 have gs:H1.t.get sb=some (rH 102 [.ptr sb 0,.nils]):=by rw[<-hH1,YV (by omega)];exact g
 have r1:H1.ro<=sb:=by omega
 have st:=Lk (fz:=0) (b:=sb) (H:=H1) (l:=[.ptr sb 0,.nils]) (o:=1) (v:=.slice H.nx 0 0 none) rfl (by simp) r1 (by omega) 102 1 false true
 have lp:Xm H.nx (.ptr sb 0)=true:=Yp hlow 0
 have lp':Xm H1.nx (.ptr sb 0)=true:=Yp (by omega) 0
 have Zjz:Xm H1.nx (.ptr sb 1)=true:=Yp (by omega) 1
 have ls:=Xk (show H.nx<H1.nx by omega) 0 N none
 have sl:=fE (H:=⟨H1.nx,H1.t,H1.nx⟩) g1 h0 .i64
 rw[U2] at sl lp' Zjz ls
 simp(disch:=first|assumption|omega|(simp -implicitDefEqProofs only[ZQ,ZR]<;>first|assumption|omega)|decide) only[lp,g,gs,U2,em,sl,st,Z2,pp,AA,Kx,YZ,Nat.mul_zero,OL,th,ni,zb,XU,List.set_cons_zero,c96,ZC,ZY,Zz,Zw,Zr,Zt,Nat.reducePow,Nat.reduceDiv,Nat.reduceMod,reduceCtorEq,Z4]
 refine⟨_,rfl,?_⟩
 exact⟨⟨by show sb<H1.nx;omega,r1,_,Y1 ..,H.nx,_,rfl,hlow,by show H.nx<H1.nx;omega,by show H1.ro<=H.nx;omega,by rw[YT (by omega)];exact g1,rfl,rfl,rfl,rfl,rfl,rfl,λi hi=>by cases hi⟩,⟨by show H.nx<=H1.nx;omega,Rm,λc h1 h2=>by rw[YT (by omega),<-hH1,YV (by omega)]⟩⟩
def yc(H:Heap)(b:Nat)(ss:List (List UInt8)):Prop:= ∃r,H.t.get b=some (.row r)∧r.sz=1∧r.size=ss.length∧(∀i (G:Heap),i<ss.length->ld1 (some (.row r)) i G=.val (.str (ss.getD i [])) G)
theorem yc.keep{H H':Heap}{ss:List (List UInt8)}(h:yc H b ss)(hb:b<H.nx)(k:Zq H H' []):yc H' b ss:=by
 obtain⟨r,h1,h2⟩:=h
 exact⟨r,by rw[k.get b hb (by simp)];exact h1,h2⟩
theorem tD(ss:List (List UInt8))(i:Nat)(h:i<ss.length):(ss.map λs=>AV.str s).getD i .unk=.str (ss.getD i []):=by
 rw[Za,Yh,Za,Zg h];rfl
theorem Cp(ss:List (List UInt8)):(ss.map λs=>[AV.str s]).flatten=ss.map λs=>AV.str s:=by
 induction ss with
 |nil=>rfl
 |cons s ss ih=>rw[ZE,W8,ih];rfl
theorem yc.of{ss:List (List UInt8)}{r:Row}(h:LM H b 9 1 (ss.map λs=>[AV.str s]) r):yc H b ss:=by
 have hs:=h.size
 rw[Zi,Xw] at hs
 refine⟨r,h.at_,h.szr,hs,λi G hi=>?_⟩
 rw[M2 (by omega),h.cells.get i (by rw[Cp,Zi];exact hi),Cp,tD _ _ hi]
theorem v9{r:Row}(g:H.t.get b=some (.row r))(hz:r.sz=1)(hs:r.size=n)(hn:1<n)(k:IntKind):Bx 1 (.slice b 0 n none) (some (nI k 1)) none H=.val (.slice b 1 (n - 1) none) H:=by
 show Xp H b _=_
 unfold Xp
 rw[g]
 have e1:Ha r 1 none=true:=by show Nat.beq r.sz 1=true;rw[hz];rfl
 have e2:UT r 0 none=n:=by show cond (Nat.beq r.sz 1) (r.size - 0) _=_;rw[hz,hs];rfl
 show ZX (Ha r 1 none) (ZX (Nat.ble 1 n) (ZX (Nat.ble 1 (UT r 0 none)) (cond (Nat.beq 1 (UT r 0 none)) _ _)))=_
 rw[e1,e2,Zm (by omega),Yu,Zb (by omega)];rfl
structure J0(b:Nat)(ss:List (List UInt8))(m:Nat)(tm:TM):Prop where
 i: ∃i,TX tm=nI .i64 i∧i<=ss.length∧m=ss.length - i∧X5 tm=nI .i64 ((ss.length - 1)+Ln (ss.take i))
 t0:Ys tm=.slice b 0 ss.length none
 t1:Y2 tm=.str [44]
 t39:TW tm=.slice b 0 ss.length none
 t40:Sb tm=nI .i64 ss.length
theorem cE{cl:Nat->List AV->Heap->CR}{ss:List (List UInt8)}(hT:yc H b ss)(hc:ss.length<=9000)(hs:Ln ss<=1000000000)(y f d r)(x:X)(m:Nat)(tm:TM)(h:J0 b ss m tm):
  ∃o tm',Fq ⟨cl,y,f,d,r⟩ tm H x=.ok o tm' H x∧((o=.normal∧ ∃k,k<m∧J0 b ss k tm')∨(o≠.normal∧(o=.exit 1∧J0 b ss 0 tm'))):=by
 obtain⟨⟨i,t41,hi,rfl,t5⟩,t0,t1,t39,t40⟩:=h
 have t0':=t0;have t1':=t1;have ZgU:=t39;have ZgV:=t40;have aC:=t5;have Zj2:=t41
 simp only[yL,ZeO,ZeM,ZeN] at t5 t41 t39 t40
 obtain⟨rw_,g,_,_,ld⟩:=hT
 by_cases hlt:i<ss.length
 ·have d1:decide (i<ss.length)=true:=Ze hlt
  have ld:=λ(G:Heap)=>ld i G hlt
  have hst:=lE hlt
  have hb2:=aA ss (i+1)
  have ix:=λ(G:Heap)=>Xx hlt b 0 none .i64 G
  rw[Zs] at ix
  generalize(ss.getD i [])=e at ld hst
  generalize hA:(ss.length - 1)+Ln (ss.take i)=A at t5
  have dn:decide (9223372036854775807 - A<e.length)=false:=Zb (by omega)
  simp(disch:=omega) only[t5,t41,t39,t40,d1,dn,g,ld,ix,ZH,Yi,Y7,Vj,YZ,Fq,ZC,ZY,Z4,WG]
  exact⟨_,_,rfl,.inl ⟨rfl,ss.length - (i+1),by omega,⟨⟨i+1,rfl,by omega,rfl,by rw[hst,<-XF,hA];simp only[Z4,ZY]⟩,t0',t1',ZgU,ZgV⟩⟩⟩
 ·have d1:decide (i<ss.length)=false:=Zb hlt
  simp only[t41,t40,d1,ZH,Fq,ZC,ZY,WG]
  exact⟨_,_,rfl,.inr ⟨by simp,rfl,⟨⟨i,Zj2,hi,by omega,aC⟩,t0',t1',ZgU,ZgV⟩⟩⟩
theorem jW{cl:Nat->List AV->Heap->CR}{ss:List (List UInt8)}(hT:yc H0 b ss)(hc:ss.length<=9000)(hs:Ln ss<=1000000000)(y f d r)(x:X)(m:Nat)(tm:TM)(H:Heap)(h:H=H0∧J0 b ss m tm):
  ∃o tm' H',Fq ⟨cl,y,f,d,r⟩ tm H x=.ok o tm' H' x∧((o=.normal∧ ∃k,k<m∧(H'=H0∧J0 b ss k tm'))∨(o≠.normal∧(o=.exit 1∧H'=H0∧J0 b ss 0 tm'))):=by
 obtain⟨rfl,h⟩:=h
 obtain⟨o,tm',e,h3⟩:=cE (cl:=cl) hT hc hs y f d r x m tm h
 refine⟨o,tm',H,e,?_⟩
 rcases h3 with⟨h4,k,h5,h6⟩|⟨h4,h5,h6⟩
 ·exact .inl ⟨h4,k,h5,rfl,h6⟩
 ·exact .inr ⟨h4,h5,rfl,h6⟩
structure J1I(H0:Heap)(b N:Nat)(ss:List (List UInt8))(m:Nat)(tm:TM)(H:Heap):Prop where
 i: ∃i,MX tm=nI .i64 i∧i<=ss.length - 1∧m=ss.length - 1 - i∧DE H H0.nx N (XS (ss.take (i+1)))
 t1:Y2 tm=.str [44]
 t8:Wc tm=.ptr H0.nx 0
 t63:O5 tm=.slice b 1 (ss.length - 1) none
 t64:MW tm=nI .i64 (ss.length - 1)
 k:Zq H0 H []
theorem cF(E:Env Zp fs fuel){N:Nat}{ss:List (List UInt8)}(hT:yc H0 b ss)(hb:b<H0.nx)(hc:ss.length<=9000)(h2:2<=ss.length)(hN:(XS ss).length=N)(y f d r)(x:X)(m:Nat)(tm:TM)(H:Heap)(h:J1I H0 b N ss m tm H):
  ∃o tm' H',D0 ⟨ZJ (LK Zp fs fuel k) fs fuel (n+3),y,f,d,r⟩ tm H x=.ok o tm' H' x∧((o=.normal∧ ∃k,k<m∧J1I H0 b N ss k tm' H')∨(o≠.normal∧(o=.exit 3∧Wc tm'=.ptr H0.nx 0∧DE H' H0.nx N (XS ss)∧Zq H0 H' []))):=by
 obtain⟨⟨i,t65,hi,rfl,bl⟩,t1,t8,t63,t64,k0⟩:=h
 have t1':=t1;have zW:=t8;have Zj5:=t63;have Zj6:=t64
 simp only[PM,Jw,ZeT,ZeU,ZeV] at t1 t8 t63 t64 t65
 obtain⟨rw_,g,_,_,ld⟩:=hT.keep hb k0
 have hne:ss≠[]:=by intro e;subst e;simp at h2
 by_cases hlt:i<ss.length - 1
 ·have d1:decide (i<ss.length - 1)=true:=Ze hlt
  have ld:=λ(G:Heap)=>ld (1+i) G (by omega)
  rw[show 1+i=i+1 by omega] at ld
  have ix:=λ(G:Heap)=>Xx hlt b 1 none .i64 G
  rw[show 1+i=i+1 by omega] at ix
  have hj:=M1 (l:=ss) (i:=i) (by omega)
  have hle:=ve (k:=i+2) (by omega) hne
  rw[hj,Zf,Zf,Zh,Zv] at hle
  obtain⟨H2,e2,b2,w2⟩:=Lv E (k:=k) (n:=n) bl (m:=[44]) (by rw[Zh,Zv];omega)
  have Zi5:(XS (ss.take (i+1))++[44]).length+(ss.getD (i+1) []).length<=N:=by rw[Zf,Zh,Zv];omega
  obtain⟨H3,e3,b3,w3⟩:=Lv E (k:=k) (n:=n) b2 (m:=ss.getD (i+1) []) Zi5
  have k3:=Below.keep (Below.keep k0 w2 (Zl _)) w3 (Zl _)
  rw[<-hj] at b3
  generalize ss.getD (i+1) []=e at ld e3
  simp(disch:=omega) only[t1,t8,t63,t64,t65,d1,g,ld,ix,e2,e3,ZH,YZ,D0,ZC,ZY,Z4,WG,Rn]
  refine⟨_,_,_,rfl,?_⟩
  exact .inl ⟨rfl,ss.length - 1 - (i+1),by omega,⟨⟨i+1,rfl,by omega,rfl,b3⟩,t1',zW,Zj5,Zj6,k3⟩⟩
 ·have d1:decide (i<ss.length - 1)=false:=Zb hlt
  rw[ZB (by omega)] at bl
  simp only[t64,t65,d1,ZH,D0,ZC,ZY,Z4,Rn]
  refine⟨_,_,_,rfl,?_⟩
  exact .inr ⟨by simp,rfl,(by simp only[ZY];exact zW),bl,k0⟩
theorem Zeb(E:Env Zp fs fuel)(M:pY Zp){sb N:Nat}(g:H.t.get sb=some (rH 102 [.nilp,.nils]))(hlow:sb<H.nx)(hro:H.ro<=sb)(h0:0<N)(hN:N<=281474976710656):
  ∃H',ZJ (LK Zp fs fuel k) fs fuel (n+3) 82 [.ptr sb 0,nI .i64 N] H=.ret (.tup []) H'∧DE H' sb N []∧Below sb H H':=by
 rw[ZL (ZF E.n82 (.inr rfl) _ _) E.f82]
 have ec:=λ{j}=>K9 E (k:=k) (n:=j) g hro (.inl rfl)
 obtain⟨H1,hH1⟩:=XZ (H.put sb (rH 102 [.ptr sb 0,.nils]))
 rw[hH1] at ec
 have U2:H1.nx=H.nx:=by rw[<-hH1];rfl
 have Rm:H1.ro=H.ro:=by rw[<-hH1];rfl
 have g1:H1.t.get sb=some (rH 102 [.ptr sb 0,.nils]):=by rw[<-hH1,Y1]
 obtain⟨H2,e2,b2,w2⟩:=Zea E M (k:=k) (n:=n) g1 (by omega) (by omega) h0 hN rfl
 have lp:Xm H.nx (.ptr sb 0)=true:=Yp hlow 0
 have d1:decide (N<0)=false:=Zb (by omega)
 have d2:decide (0<N)=true:=Ze h0
 simp(disch:=first|assumption|omega|(simp -implicitDefEqProofs only[ZQ,ZR]<;>first|assumption|omega)|decide) only[ec,lp,g1,U2,d1,d2,e2,Z2,pp,AA,OL,Vj,ZH,c82,ZC,ZY,Zz,Zw,Zr,Zt,Z4]
 refine⟨_,rfl,?_⟩
 exact⟨b2,(Below.trans (by rw[<-hH1];exact Below.put (Zl _)) w2)⟩
theorem jY(E:Env Zp fs fuel){ss:List (List UInt8)}{v:AV}{lo:Nat}(M:pY Zp)(h:VT H v 9 1 (ss.map λs=>[AV.str s]) lo)(hc:ss.length<=9000)(hs:(XS ss).length<=900000000)(hro:H.ro<=H.nx):
  ∃H',ZJ (LK Zp fs fuel 1) fs fuel (n+4) 64 [v,.str [44]] H=.ret (.str (XS ss)) H'∧Zq H H' []:=by
 rw[ZL (ZF E.n64 (.inl (by decide)) _ _) E.f64]
 rcases h with⟨hn,rfl⟩|⟨hn,b,r,rfl,hr,hlo⟩
 ·have:ss=[]:=by cases ss with|nil=>rfl|cons a l=>simp at hn
  subst this
  have d0:decide (0=0)=true:=rfl
  simp only[YD,OL,c64,ZC,ZY,Zz,Zw,Z4,]
  refine⟨_,rfl,?_⟩
  exact Zq.refl _ _
 ·have hT:=yc.of hr
  have hb:=hr.low
  rw[Zi]
  have hne:ss≠[]:=by rintro rfl;exact hn rfl
  have hp:=Ws.2 hne
  have d0:decide (ss.length=0)=false:=Zb (by omega)
  by_cases h1:ss.length=1
  ·have d1:decide (ss.length=1)=true:=Ze h1
   obtain⟨rw_,g,_,_,ld⟩:=hT
   have ld:=λ(G:Heap)=>ld 0 G (by omega)
   have ix:=λ(G:Heap)=>Xx hp b 0 none .i64 G
   have ej:XS ss=ss.getD 0 []:=by
    cases ss with
    |nil=>simp at h1
    |cons s l=>
     have:l=[]:=YW.1 (by simpa using h1)
     subst this;show s++[]=s;simp
   rw[ej]
   simp only[d0,d1,YD,XP,g,ld,ix,ZZ,c64,ZC,ZY,Zz,Z4,]
   refine⟨_,rfl,?_⟩
   exact Zq.refl _ _
  ·have d1:decide (ss.length=1)=false:=Zb h1
   have h2:2<=ss.length:=by omega
   have dl:decide (0<1)=true:=rfl
   have l44:([44]:List UInt8).length=1:=rfl
   have hN:=ze hne
   have dq:decide (9223372036854775807/(ss.length - 1)<=1)=false:=Zb (by
    intro hq
    have:=(Nat.div_le_iff_le_mul_add_pred (show 0<ss.length - 1 by omega)).1 hq
    omega)
   simp(disch:=omega) only[l44,d0,d1,dl,dq,YD,Yi,Xb,XP,Y7,Vj,gW,Kx,YZ,VM,Zs,c64,ZC,ZY,Z4,WG]
   generalize hL:XQ (Fq _) fuel _ _ _=L
   obtain⟨Tx,rfl,ji⟩: ∃Tx,L=.ok (.exit 1) Tx H ⟨[],none⟩∧J0 b ss 0 Tx:=by
    obtain⟨o,Tx,H1,e,_,rfl,rfl,ji⟩:=YA (P:=λT=>J0 b ss ss.length T) (Q:=λo tm' H'=>o=.exit 1∧H'=H∧J0 b ss 0 tm')
     (λT hi'=>YK (λm tm H'=>H'=H∧J0 b ss m tm) _ (λm tm H' h'=>jW hT hc (by omega) _ _ _ _ _ m tm H' h') fuel ss.length T H (by have:=E.big;omega) ⟨rfl,hi'⟩) hL ⟨⟨0,rfl,Z8 _,rfl,rfl⟩,rfl,rfl,rfl,rfl⟩
    exact⟨Tx,e,ji⟩
   obtain⟨⟨i,t41,hi,hm,t5⟩,t0,t1,_,_⟩:=ji
   rw[ZB (by omega),<-hN] at t5
   simp only[Pn,PM,yL] at t0 t1 t5
   have t1'':=t1
   obtain⟨H1,hH1⟩:=XZ (H.new (rH 102 [.nilp,.nils]))
   have k1:Zq H H1 []:=by rw[<-hH1];exact Zq.new H _ _
   have U2:H1.nx=H.nx+1:=by rw[<-hH1];rfl
   have g1:H1.t.get H.nx=some (rH 102 [.nilp,.nils]):=by rw[<-hH1,Zx rfl]
   obtain⟨H2,e2,b2,w2⟩:=Zeb E M (k:=1) (n:=n) (N:=(XS ss).length) g1 (by omega) (by rw[k1.ro];exact hro) (by omega) (by omega)
   have k2:=Below.keep k1 w2 (Zl _)
   obtain⟨rw2,g2,hz2,hs2,ld2⟩:=hT.keep hb k2
   have ldA:=λ(G:Heap)=>ld2 0 G (by omega)
   have ixA:=λ(G:Heap)=>Xx hp b 0 none .i64 G
   have hle:=ve (k:=1) (by omega) hne
   have ej:XS (ss.take 1)=ss.getD 0 []:=by
    cases ss with
    |nil=>simp at hp
    |cons s l=>show s++[]=s;simp
   rw[ej] at hle
   obtain⟨H3,e3,b3,w3⟩:=Lv E (k:=1) (n:=n) b2 (m:=ss.getD 0 []) (by rw[Zv];omega)
   have k3:=Below.keep k2 w3 (Zl _)
   obtain⟨rw3,g3,hz3,hs3,ld3⟩:=hT.keep hb k3
   have sl:=v9 g3 hz3 hs3 (by omega) .i64
   have lS:=λ(G:Heap)=>XP b 1 (ss.length - 1) none G
   simp only[t0,t5,hH1,e2,g2,ldA,ixA,e3,sl,lS,ZZ,ZC,ZY,Zw,Z4,WG,Rn]
   generalize hL:XQ (D0 _) fuel _ _ _=L
   obtain⟨o,fL,H4,rfl,_,rfl,t8,b4,k4⟩:=YA (P:=λT=>J1I H b (XS ss).length ss (ss.length - 1) T H3) (Q:=λo tm' H'=>o=.exit 3∧Wc tm'=.ptr H.nx 0∧DE H' H.nx (XS ss).length (XS ss)∧Zq H H' [])
    (λT hi'=>YK (J1I H b (XS ss).length ss) _ (λm tm H' h'=>cF E (k:=1) (n:=n) hT hb hc h2 rfl _ _ _ _ _ m tm H' h') fuel (ss.length - 1) T H3 (by have:=E.big;omega) hi') hL
    ⟨⟨0,rfl,Z8 _,rfl,by rw[Zs,ej];exact b3⟩,by simp only[Z4,ZY];exact t1'',rfl,rfl,rfl,k3⟩
   simp only[Jw] at t8
   obtain⟨H5,e5,w5⟩:=kr E (k:=1) (n:=n+2) b4 (by omega) (by omega)
   simp only[t8,e5,ZC,ZY,Zz,Z4,Rn]
   refine⟨_,rfl,?_⟩
   exact Below.keep k4 w5 (Zl _)
theorem ZfA(E:Env Zp fs fuel)(hk:2<=k){ss:List (List UInt8)}{v:AV}{lo:Nat}(M:pY Zp)(h:VT H v 9 1 (ss.map λs=>[AV.str s]) lo)(hc:ss.length<=9000)(hs:(XS ss).length<=900000000)(hro:H.ro<=H.nx):
  ZJ (LK Zp fs fuel k) fs fuel (n+1) 64 [v,.str [44]] H=.ret (.str (XS ss)) H:=by
 obtain⟨H',e,g⟩:=jY E (n:=896) (H:=H) M h hc hs hro
 exact Wn (r:=1) rfl rfl e g (rfl) hk
end
section
variable {α:Type} [Inhabited α] (lt:α->α->Bool)
def swp(L:List α)(j:Nat):List α:=(L.set (j+1) (L.getD j default)).set j (L.getD (j+1) default)
def JA:Nat->List α->List α
 |0,L=>L
 |j+1,L=>if lt (L.getD (j+1) default) (L.getD j default) then JA j (swp L j) else L
def CT:Nat->Nat->List α->List α
 |0,_,L=>L
 |k+1,i,L=>CT k (i+1) (JA lt i L)
def VN(L:List α):List α:=CT lt (L.length - 1) 1 L
theorem Jr(L:List α)(j:Nat):(swp L j).length=L.length:=by unfold swp;rw[Xv,Xv]
theorem Ko: ∀(j:Nat) (L:List α),(JA lt j L).length=L.length
 |0,L=>rfl
 |j+1,L=>by
  unfold JA
  split
  ·rw[Ko j,Jr]
  ·rfl
theorem wZ: ∀(k i:Nat) (L:List α),(CT lt k i L).length=L.length
 |0,_,L=>rfl
 |k+1,i,L=>by unfold CT;rw[wZ k,Ko]
theorem nk(L:List α):(VN lt L).length=L.length:=wZ lt _ _ L
theorem aB{L:List α}{j:Nat}(h:j+1<L.length): ∀x∈swp L j,x∈L:=by
 intro x hx
 unfold swp at hx
 have d: ∀i,i<L.length->L.getD i default∈L:=λi hi=>by rw[Za,Zg hi];exact Y0 hi
 rcases SE hx with h1|h1
 ·rcases SE h1 with h2|h2
  ·exact h2
  ·rw[h2];exact d _ (by omega)
 ·rw[h1];exact d _ h
theorem wX: ∀{j:Nat} {L:List α},j<L.length-> ∀x∈JA lt j L,x∈L
 |0,L,_,x,hx=>hx
 |j+1,L,h,x,hx=>by
  unfold JA at hx
  split at hx
  ·exact aB h x (wX (by rw[Jr];omega) x hx)
  ·exact hx
theorem w6: ∀{k i:Nat} {L:List α},i+k<=L.length-> ∀x∈CT lt k i L,x∈L
 |0,_,L,_,x,hx=>hx
 |k+1,i,L,h,x,hx=>by
  unfold CT at hx
  exact wX lt (by omega) x (w6 (by rw[Ko];omega) x hx)
theorem FH{L:List α}: ∀x∈VN lt L,x∈L:=by
 intro x hx
 unfold VN at hx
 by_cases h:L.length=0
 ·have:L=[]:=YW.1 h
  subst this;exact hx
 ·exact w6 lt (by omega) x hx
end
section
theorem Fx{sz:Nat}{ls:List (List AV)}(h: ∀l∈ls,l.length=sz){i j:Nat}(hi:i<ls.length)(hj:j<sz):ls.flatten.getD (i*sz+j) .unk=(ls.getD i []).getD j .unk:=by
 rw[<-flat_at h hi,Za,Za,Xo hj,Xd]
theorem GM{sz:Nat}{ls:List (List AV)}(h: ∀l∈ls,l.length=sz){vs:List AV}(hv:vs.length=sz)(i:Nat): ∀l∈ls.set i vs,l.length=sz:=by
 intro l hl
 rcases SE hl with h1|h1
 ·exact h l h1
 ·rw[h1];exact hv
theorem LM.store{H:Heap}{b e sz:Nat}{ls:List (List AV)}{r:Row}(h:LM H b e sz ls r){i:Nat}(hi:i<ls.length){vs:List AV}(hv:vs.length=sz)(hsz:1<=sz):
  ∃r',rK sz (some (.row r)) b (i*sz) (.agg vs) H=.val Xl (H.put b (.row r'))∧LM (H.put b (.row r')) b e sz (ls.set i vs) r':=by
 have hm:(i+1)*sz<=ls.length*sz:=Y5 _ hi
 rw[Xu,VM] at hm
 have hs:=h.size
 have RI:H.may r b=true:=by unfold Heap.may;rw[h.own,Zm h.ro];rfl
 refine⟨r.setCells (Wg r.cells (i*sz) vs),?_,Y1 ..,h.elem,h.szr,h.own,h.fz,h.sm,h.exact_,⟨?_,λq hq=>?_⟩,GM h.each hv i,h.ro,h.low⟩
 ·show ZX (Nat.ble 1 sz) (ZX (H.may r b) (ZX (Nat.ble (i*sz+sz) r.size) (ZX (Nat.ble r.fz (i*sz)) (ZX (Nat.beq (YF vs) sz) _))))=_
  rw[Zm hsz,RI,Zm (by omega),h.fz,Zm (Z8 _),Yw,hv,Z9];rfl
 ·show r.size=_
  rw[So (GM h.each hv i),Xv,hs]
 ·have hf:=So (GM h.each hv i)
  rw[Xv] at hf
  rw[hf] at hq
  show(Option.rec r.dflt (λv=>v) ((Wg r.cells (i*sz) vs).get q):AV)=_
  have hd:=TH q sz
  have hmd:=Vl q hsz
  have hq1:q/sz<ls.length:=SP (by rw[W2];exact hq)
  rw[W2] at hd
  generalize hqa:q/sz=a at hd hq1
  generalize hqc:q % sz=cc at hd hmd
  rw[Sj,<-hd,Fx (GM h.each hv i) (by rw[Xv];exact hq1) hmd]
  by_cases ha:a=i
  ·subst ha
   have e:(ls.set a vs).getD a []=vs:=by rw[Za,T3 hq1];rfl
   rw[if_pos (by omega),show a*sz+cc - a*sz=cc by omega,e,Za,Zg (by omega)];rfl
  ·have: ¬(i*sz<=a*sz+cc∧a*sz+cc<i*sz+vs.length):=by
    intro⟨h1,h2⟩
    rcases Nat.lt_or_gt_of_ne ha with h3|h3
    ·have:=Y5 sz (show a+1<=i from h3);rw[Xu] at this;omega
    ·have:=Y5 sz (show i+1<=a from h3);rw[Xu] at this;omega
   rw[if_neg this]
   have:=h.cells.get (a*sz+cc) (by rw[So h.each];omega)
   rw[Fx h.each hq1 hmd] at this
   rw[Za (l:=ls.set i vs),S0 (λe=>ha e.symm),<-Za]
   exact this
end
def NL(x y:List UInt8×JV):Bool:=Yn x.1 y.1
def Eo(M:List (List UInt8×JV)):Prop:= ∀i j,i<j->j<M.length->Yn (M.getD j default).1 (M.getD i default).1=false
def ka(M:List (List UInt8×JV)):Prop:=M.length<=12∨(M.length<=40∧Eo M)
namespace JV
def text:Nat->JV->List UInt8
 |0,_=>[]
 |h+1,.mk k b n s l m=>if k=1 then [110,117,108,108] else if k=2 then(if b=true then [116,114,117,101] else [102,97,108,115,101]) else if k=3 then SF n else if k=4 then quo s
  else if k=5 then [91]++XS (l.map (text h))++[93] else [123]++XS ((VN NL m).map λe=>quo e.1++[58]++text h e.2)++[125]
def tb:Nat->JV->Nat
 |0,_=>0
 |h+1,.mk _ _ _ s l m=>50+6*s.length+(l.map λx=>1+tb h x).sum+(m.map λe=>6*e.1.length+4+tb h e.2).sum
def ok:Nat->JV->Prop
 |0,_=>True
 |h+1,.mk _ _ n _ l m=>(-9223372036854775808<=n∧n<9223372036854775808)∧ka m∧(∀x∈l,ok h x)∧ ∀e∈m,ok h e.2
theorem pS{α:Type}[Inhabited α](f:α->Nat): ∀(L:List α) (j:Nat),j+1<L.length->((swp L j).map f).sum=(L.map f).sum
 |[],j,h=>by simp at h
 |[a],j,h=>by simp at h
 |a::b::L,0,_=>by
  show((b::a::L).map f).sum=_
  simp only[ZE,Sx];omega
 |a::b::L,j+1,h=>by
  show((a::swp (b::L) j).map f).sum=_
  show f a+((swp (b::L) j).map f).sum=f a+((b::L).map f).sum
  rw[pS f (b::L) j (by simpa using h)]
theorem wY{α:Type}[Inhabited α](lt:α->α->Bool)(f:α->Nat): ∀(j:Nat) (L:List α),j<L.length->((JA lt j L).map f).sum=(L.map f).sum
 |0,L,_=>rfl
 |j+1,L,h=>by
  unfold JA
  split
  ·rw[wY lt f j _ (by rw[Jr];omega),pS f L j h]
  ·rfl
theorem w7{α:Type}[Inhabited α](lt:α->α->Bool)(f:α->Nat): ∀(k i:Nat) (L:List α),i+k<=L.length->((CT lt k i L).map f).sum=(L.map f).sum
 |0,_,L,_=>rfl
 |k+1,i,L,h=>by
  unfold CT
  rw[w7 lt f k _ _ (by rw[Ko];omega),wY lt f i L (by omega)]
theorem FI{α:Type}[Inhabited α](lt:α->α->Bool)(f:α->Nat)(L:List α):((VN lt L).map f).sum=(L.map f).sum:=by
 unfold VN
 by_cases h:L.length=0
 ·have:L=[]:=YW.1 h
  subst this;rfl
 ·exact w7 lt f _ _ L (by omega)
theorem join_sum(l:List (List UInt8)):(XS l).length<=(l.map λx=>1+x.length).sum:=by
 cases l with
 |nil=>exact Z8 _
 |cons s l=>
  rw[ze (by simp)]
  have: ∀l:List (List UInt8),(l.map λx=>1+x.length).sum=l.length+Ln l:=by
   intro l
   induction l with
   |nil=>rfl
   |cons a l ih=>rw[ZE,Sx,ih,Ef,Zh];omega
  rw[this];omega
theorem rR{α:Type}(f g:α->Nat): ∀(l:List α),(∀x∈l,f x<=g x)->(l.map f).sum<=(l.map g).sum
 |[],_=>Zl _
 |a::l,h=>by
  rw[ZE,ZE,Sx,Sx]
  have:=h a (ZG ..)
  have:=rR f g l λx hx=>h x (ZK _ hx)
  omega
theorem mem_sum{α:Type}(f:α->Nat): ∀{l:List α} {x:α},x∈l->f x<=(l.map f).sum
 |a::l,x,h=>by
  rw[ZE,Sx]
  rcases ZN.1 h with rfl|h
  ·omega
  ·have:=mem_sum f h;omega
theorem tA{z:Int}(h1: -9223372036854775808<=z)(h2:z<9223372036854775808)(hd: ∀n,n<18446744073709551616->(dec n).length<=20):(SF z).length<=21:=by
 unfold SF
 split
 ·rw[Zh];have:=hd z.natAbs (by omega);omega
 ·have:=hd z.natAbs (by omega);omega
theorem text_len(hd: ∀n,n<18446744073709551616->(dec n).length<=20): ∀(h:Nat) (v:JV),ok h v->(text h v).length<=tb h v
 |0,_,_=>Zl _
 |h+1,.mk k b n s l m,⟨⟨h1,h2⟩,h3,h4,h5⟩=>by
  show List.length (if k=1 then _ else _)<=50+6*s.length+(l.map λx=>1+tb h x).sum+(m.map λe=>6*e.1.length+4+tb h e.2).sum
  by_cases k1:k=1
  ·rw[if_pos k1];simp only[Zh,Zv];omega
  rw[if_neg k1]
  by_cases k2:k=2
  ·rw[if_pos k2];split<;>(simp only[Zh,Zv];omega)
  rw[if_neg k2]
  by_cases k3:k=3
  ·rw[if_pos k3];have:=tA h1 h2 hd;omega
  rw[if_neg k3]
  by_cases k4:k=4
  ·rw[if_pos k4];have:=(xz s).1;omega
  rw[if_neg k4]
  by_cases k5:k=5
  ·rw[if_pos k5]
   simp only[Zf,Zh,Zv]
   have a:=join_sum (l.map (text h))
   rw[Wt] at a
   have b:=rR ((λx=>1+x.length)∘text h) (λx=>1+tb h x) l λx hx=>by
    have:=text_len hd h x (h4 x hx)
    show 1+(text h x).length<=1+tb h x;omega
   omega
  rw[if_neg k5]
  simp only[Zf,Zh,Zv]
  have a:=join_sum ((VN NL m).map λe=>quo e.1++[58]++text h e.2)
  rw[Wt] at a
  have b:=rR ((λx=>1+x.length)∘λe=>quo e.1++[58]++text h e.2) (λe=>6*e.1.length+4+tb h e.2) (VN NL m) λe he=>by
   have:=text_len hd h e.2 (h5 e (FH NL e he))
   have:=(xz e.1).1
   show 1+(quo e.1++[58]++text h e.2).length<=_
   simp only[Zf,Zh,Zv];omega
  rw[FI] at a
  rw[FI,FI] at b
  omega
end JV
section
variable {Zp:Lib} {fs:T CF} {fuel k n i h b:Nat} {H H0:Heap} {s:List UInt8} {cs:List AV}
def Hn(a b:List UInt8):AV:=if Yn a b=true then .int .i64 (.negSucc 0) else if Yn b a=true then nI .i64 1 else nI .i64 0
theorem yq(a b:List UInt8)(H:Heap):Pb XC Yn (Hn a b) (nI .i64 0) H=.val (.bool (Yn a b)) H:=by
 unfold Hn
 split
 ·rename_i h;rw[h];rfl
 ·rename_i h
  rw[Bool.eq_false_iff.2 h]
  split<;>rfl
theorem yr(a b:List UInt8)(H:Heap):Pb XC Yn (.str a) (.str b) H=.val (.bool (Yn a b)) H:=by
 show SV (Yn a b) H=_
 cases Yn a b<;>rfl
theorem qw(a b:List UInt8)(H:Heap):Pb Sq VS (.str a) (.str b) H=.val (.bool (Yn b a)) H:=by
 show SV (Yn b a) H=_
 cases Yn b a<;>rfl
theorem tu(a:List UInt8)(H:Heap):Fd Nc true (.str a) (.str a) H=.val (.bool false) H:=by
 rw[VV,Ze rfl];rfl
theorem nh(E:Env Zp fs fuel):
  ∃H',ZJ (LK Zp fs fuel 0) fs fuel (n+2) 86 [.str s] H=.ret (.bool false) H'∧Zq H H' []:=by
 rw[ZL (ZF E.n86 (.inl (by decide)) _ _) E.f86]
 simp only[tu,c86,ZC,ZY,Zz,Z4]
 refine⟨_,rfl,?_⟩
 exact Zq.refl _ _
theorem Zaq(E:Env Zp fs fuel)(hk:1<=k):
  ZJ (LK Zp fs fuel k) fs fuel (n+1) 86 [.str s] H=.ret (.bool false) H:=by
 obtain⟨H',e,g⟩:=nh E (n:=898) (H:=H)
 exact Wn (r:=0) rfl rfl e g (rfl) hk
theorem yt(E:Env Zp fs fuel){a b:List UInt8}:
  ∃H',ZJ (LK Zp fs fuel 1) fs fuel (n+3) 68 [.str a,.str b] H=.ret (Hn a b) H'∧Zq H H' []:=by
 rw[ZL (ZF E.n68 (.inl (by decide)) _ _) E.f68]
 have n1:=λ{j}=>Zaq E (k:=1) (n:=j) (by decide) (s:=a) (H:=H)
 have n2:=λ{j}=>Zaq E (k:=1) (n:=j) (by decide) (s:=b) (H:=H)
 unfold Hn
 cases h1:Yn a b with
 |true=>
  simp only[n1,n2,h1,yr,if_true,c68,ZC,ZY,Zz,Z4]
  refine⟨_,rfl,?_⟩
  exact Zq.refl _ _
 |false=>
  cases h2:Yn b a with
  |true=>
   simp only[n1,n2,h1,h2,yr,qw,if_true,YJ,if_false,c68,ZC,ZY,Zz,Z4]
   refine⟨_,rfl,?_⟩
   exact Zq.refl _ _
  |false=>
   simp only[n1,n2,h1,h2,yr,qw,YJ,if_false,c68,ZC,ZY,Zz,Z4]
   refine⟨_,rfl,?_⟩
   exact Zq.refl _ _
theorem kS(E:Env Zp fs fuel)(hk:2<=k){a b:List UInt8}:
  ZJ (LK Zp fs fuel k) fs fuel (n+1) 68 [.str a,.str b] H=.ret (Hn a b) H:=by
 obtain⟨H',e,g⟩:=yt E (n:=897) (H:=H)
 exact Wn (r:=1) rfl rfl e g (by unfold Hn;split;rfl;split<;>rfl) hk
theorem kR(E:Env Zp fs fuel){a b:List UInt8}{t u:List AV}(ht:t.length=6)(hu:u.length=6):
  ∃H',ZJ (LK Zp fs fuel 2) fs fuel (n+3) 67 [.agg (.str a::t),.agg (.str b::u)] H=.ret (Hn a b) H'∧Zq H H' []:=by
 rw[ZL (ZF E.n67 (.inl (by decide)) _ _) E.f67]
 obtain⟨H1,hH1⟩:=XZ (H.new (rH 77 (.str a::t)))
 have bx:=YU (l:=.str a::t) (by rw[Zh];omega) 77 H
 rw[hH1] at bx
 have U2:H1.nx=H.nx+1:=by rw[<-hH1];rfl
 have g1:H1.t.get H.nx=some (rH 77 (.str a::t)):=by rw[<-hH1,Zx rfl]
 obtain⟨H2,hH2⟩:=XZ (H1.new (rH 77 (.str b::u)))
 have XN:=YU (l:=.str b::u) (by rw[Zh];omega) 77 H1
 rw[hH2,U2] at XN
 have g2:H2.t.get H.nx=some (rH 77 (.str a::t)):=by rw[<-hH2,YV (by omega)];exact g1
 have g3:H2.t.get (H.nx+1)=some (rH 77 (.str b::u)):=by rw[<-hH2,Zx U2]
 have l2: ∀G:Heap,ld1 (some (rH 77 (.str a::t))) 0 G=.val (.str a) G:=λG=>by rw[Z2 (by rw[Zh];omega)];rfl
 have l3: ∀G:Heap,ld1 (some (rH 77 (.str b::u))) 0 G=.val (.str b) G:=λG=>by rw[Z2 (by rw[Zh];omega)];rfl
 have k2:Zq H H2 []:=by rw[<-hH2,<-hH1];exact(Zq.new H _ _).then_new _
 have ec:=λ{j}=>kS E (k:=2) (n:=j) (by decide) (a:=a) (b:=b) (H:=H2)
 simp only[bx,XN,g2,g3,l2,l3,ec,ZZ,c67,ZC,ZY,Zz,Z4]
 refine⟨_,rfl,?_⟩
 exact k2
theorem Ziz(E:Env Zp fs fuel)(hk:3<=k){a b:List UInt8}{t u:List AV}(ht:t.length=6)(hu:u.length=6):
  ZJ (LK Zp fs fuel k) fs fuel (n+1) 67 [.agg (.str a::t),.agg (.str b::u)] H=.ret (Hn a b) H:=by
 obtain⟨H',e,g⟩:=kR E (n:=897) (H:=H) ht hu
 exact Wn (r:=2) rfl rfl e g (by unfold Hn;split;rfl;split<;>rfl) hk
def l9(H0:Heap)(h:Nat)(x:List AV)(e:List UInt8×JV):Prop:=e.1.length<=9000∧ ∃t,x=.str e.1::t∧VR H0 h e.2 t
theorem LM.ldN{e sz:Nat}{ls:List (List AV)}{r:Row}(h:LM H b e sz ls r)(hi:i<ls.length)(G:Heap):AI.ldN sz (some (.row r)) (i*sz) G=.val (.agg (ls.getD i [])) G:=by
 have hm:(i+1)*sz<=ls.length*sz:=Y5 _ hi
 rw[Xu,VM] at hm
 have hf:=So h.each
 show(cond (Nat.ble (Nat.add (i*sz) sz) r.size) (OR.val (.agg (WO r (i*sz) sz)) G) .fail)=_
 rw[Zm (show Nat.add (i*sz) sz<=r.size by rw[h.size];exact hm),h.cells.load (by rw[hf];exact hm),flat_at h.each hi];rfl
structure R9(H0:Heap)(h b:Nat)(M:List (List UInt8×JV))(H:Heap):Prop where
 ok: ∃L r,LM H b 77 7 L r∧L.length=M.length∧ ∀i,i<M.length->l9 H0 h (L.getD i []) (M.getD i default)
theorem R9.keep{M:List (List UInt8×JV)}{H H':Heap}(s:R9 H0 h b M H)(k:Zq H H' []):R9 H0 h b M H':=by
 obtain⟨L,r,h1,h2⟩:=s.ok
 exact⟨L,r,h1.moved (k.get b h1.low (by simp)) k.ro k.nx,h2⟩
theorem R9.at_{M:List (List UInt8×JV)}(s:R9 H0 h b M H):
  ∃r,H.t.get b=some (.row r)∧b<H.nx∧H.ro<=b∧ ∀i,i<M.length-> ∃t,t.length=6∧VR H0 h (M.getD i default).2 t∧(M.getD i default).1.length<=9000∧ ∀G:Heap,ldN 7 (some (.row r)) (i*7) G=.val (.agg (.str (M.getD i default).1::t)) G:=by
 obtain⟨L,r,h1,h2,h3⟩:=s.ok
 refine⟨r,h1.at_,h1.low,h1.ro,λi hi=>?_⟩
 obtain⟨h4,t,h5,h6⟩:=h3 i hi
 refine⟨t,h6.len,h6,h4,λG=>?_⟩
 rw[<-h5];exact h1.ldN (by omega) G
theorem l9.len{x:List AV}{e:List UInt8×JV}(r:l9 H0 h x e):x.length=7:=by
 obtain⟨_,t,rfl,h1⟩:=r
 rw[Zh,h1.len]
theorem pR{α:Type}[Inhabited α]{L:List α}{j:Nat}(h:j+1<L.length)(d:α)(i:Nat):(swp L j).getD i d=if i=j then L.getD (j+1) default else if i=j+1 then L.getD j default else L.getD i d:=by
 unfold swp
 rw[Za]
 by_cases h1:i=j
 ·subst h1;rw[if_pos rfl,T3 (by rw[Xv];omega)];rfl
 ·rw[if_neg h1,S0 (λe=>h1 e.symm)]
  by_cases h2:i=j+1
  ·subst h2;rw[if_pos rfl,T3 h];rfl
  ·rw[if_neg h2,S0 (λe=>h2 e.symm),<-Za]
theorem R9.swap{M:List (List UInt8×JV)}(s:R9 H0 h b M H){j:Nat}(hj:j+1<M.length):
  ∃r r1 r2 t u,H.t.get b=some (.row r)∧b<H.nx∧H.ro<=b∧t.length=6∧u.length=6∧VR H0 h (M.getD (j+1) default).2 t∧VR H0 h (M.getD j default).2 u∧
   (∀G:Heap,ldN 7 (some (.row r)) ((j+1)*7) G=.val (.agg (.str (M.getD (j+1) default).1::t)) G)∧(∀G:Heap,ldN 7 (some (.row r)) (j*7) G=.val (.agg (.str (M.getD j default).1::u)) G)∧
   rK 7 (some (.row r)) b ((j+1)*7) (.agg (.str (M.getD j default).1::u)) H=.val Xl (H.put b (.row r1))∧
   rK 7 (some (.row r1)) b (j*7) (.agg (.str (M.getD (j+1) default).1::t)) (H.put b (.row r1))=.val Xl (H.put b (.row r2))∧R9 H0 h b (swp M j) (H.put b (.row r2)):=by
 obtain⟨L,r,h1,h2,h3⟩:=s.ok
 have ea:=h3 (j+1) hj
 have eb:=h3 j (by omega)
 have la:=ea.len
 have lb:=eb.len
 obtain⟨h4,t,h5,h6⟩:=ea
 obtain⟨h7,u,h8,h9⟩:=eb
 obtain⟨r1,s1,q1⟩:=h1.store (i:=j+1) (by omega) (vs:=L.getD j []) lb (by omega)
 obtain⟨r2,s2,q2⟩:=q1.store (i:=j) (by rw[Xv];omega) (vs:=L.getD (j+1) []) la (by omega)
 rw[xw] at s2 q2
 have d1: ∀G:Heap,ldN 7 (some (.row r)) ((j+1)*7) G=.val (.agg (L.getD (j+1) [])) G:=λG=>h1.ldN (by omega) G
 have d2: ∀G:Heap,ldN 7 (some (.row r)) (j*7) G=.val (.agg (L.getD j [])) G:=λG=>h1.ldN (by omega) G
 have q3:R9 H0 h b (swp M j) (H.put b (.row r2)):=⟨_,r2,q2,by rw[Xv,Xv,Jr];exact h2,λi hi=>by
  rw[Jr] at hi
  rw[pR hj,show((L.set (j+1) (L.getD j [])).set j (L.getD (j+1) [])).getD i []=(swp L j).getD i [] from rfl,pR (by omega)]
  by_cases i1:i=j
  ·rw[if_pos i1,if_pos i1];exact h3 (j+1) hj
  ·rw[if_neg i1,if_neg i1]
   by_cases i2:i=j+1
   ·rw[if_pos i2,if_pos i2];exact h3 j (by omega)
   ·rw[if_neg i2,if_neg i2];exact h3 i hi⟩
 rw[h5] at d1 s2
 rw[h8] at d2 s1
 exact⟨r,r1,r2,t,u,h1.at_,h1.low,h1.ro,h6.len,h9.len,h6,h9,d1,d2,s1,s2,q3⟩
theorem Sl.sameV{sz:Nat}{v:AV}{ls:List (List AV)}(h:Sl H sz v ls):AI.same v v=true:=by
 rcases h.here with⟨rfl,rfl⟩|⟨b,o,c,rfl,_⟩
 ·unfold AI.same;rfl
 ·unfold AI.same;rw[Z9,Z9,Z9]
  cases c with
  |none=>rfl
  |some c=>exact Z9 c
theorem VR.low: ∀{h:Nat} {v:JV} {cs:List AV},VR H h v cs-> ∀{n:Nat},H.nx<=n->U7 n cs=true
 |h+1,.mk _ _ _ _ l m,cs,⟨lv,mv,ls,ms,e,a1,a2,a3,a4,a5,sl,sm,_⟩,n,hn=>by
  rw[e]
  show cond (Xm n lv) (cond (Xm n mv) true false) false=true
  rw[sl.low hn,sm.low hn];rfl
theorem VR.same: ∀{h:Nat} {v:JV} {cs:List AV},VR H h v cs->XB cs cs=true
 |h+1,.mk k b z s l m,cs,⟨lv,mv,ls,ms,e,a1,a2,a3,a4,a5,sl,sm,_⟩=>by
  rw[e]
  unfold XB;rw[Dw];unfold XB
  rw[show AI.same (.bool b) (.bool b)=true by unfold AI.same;cases b<;>rfl];unfold XB
  rw[Mr];unfold XB;rw[QR];unfold XB;rw[sl.sameV];unfold XB;rw[sm.sameV];unfold XB;rfl
theorem NV{t:List AV}(h:XB t t=true)(n:Nat)(q:T Obj):Vv (.val (.agg (.str s::t)) ⟨n,q,n⟩) (.agg (.str s::t)) n=true:=VE (by unfold XB;rw[QR];exact h) n q
theorem OO(n f:Nat):Xm n (.func f [] [])=true:=rfl
def Hf(Zp:Lib)(fs:T CF)(fuel k f:Nat):Prop:= ∀{a b:List UInt8} {t u:List AV} {H:Heap} {j:Nat},t.length=6->u.length=6->ZJ (LK Zp fs fuel k) fs fuel (j+1) f [.agg (.str a::t),.agg (.str b::u)] H=.ret (Hn a b) H
structure eF(H0 HK:Heap)(S:List Nat)(h b f n i:Nat)(cp:Option Nat)(T:List (List UInt8×JV))(m:Nat)(tm:TM)(H:Heap):Prop where
 j: ∃j M,Wv tm=nI .i64 j∧m=j∧j<=i∧M.length=n∧R9 H0 h b M H∧JA NL j M=T
 t0:Ys tm=.slice b 0 n cp
 t1:Y2 tm=nI .i64 0
 t2:Xy tm=nI .i64 n
 t3:XK tm=.func f [] []
 t8:Wc tm=nI .i64 i
 k:Zq HK H S
theorem Zb0(E:Env Zp fs fuel){n0 f:Nat}(hf:Hf Zp fs fuel k f){HK:Heap}{S:List Nat}{cp:Option Nat}{T:List (List UInt8×JV)}(hi:i<n)(hn:n<=9000)(hnk:H0.nx<=HK.nx)(hb:b<HK.nx->b∈S)(y fr d r)(x:X)(m:Nat)(tm:TM)(H:Heap)(hI:eF H0 HK S h b f n i cp T m tm H):
  ∃o tm' H',K8 ⟨ZJ (LK Zp fs fuel k) fs fuel (n0+1),y,fr,d,r⟩ tm H x=.ok o tm' H' x∧((o=.normal∧ ∃q,q<m∧eF H0 HK S h b f n i cp T q tm' H')∨(o≠.normal∧(o=.exit 2∧Ys tm'=.slice b 0 n cp∧Y2 tm'=nI .i64 0∧Xy tm'=nI .i64 n∧XK tm'=.func f [] []∧Wc tm'=nI .i64 i∧Zq HK H' S∧R9 H0 h b T H'))):=by
 obtain⟨⟨j,M,t9,rfl,hj,hM,sr,hT⟩,t0,t1,t2,t3,t8,k0⟩:=hI
 have t0':=t0;have t1':=t1;have t2':=t2;have O9:=t3;have zW:=t8
 simp only[Pn,PM,Qg,yM] at t0 t1 t3 t9
 cases m with
 |zero=>
  have d0:decide (0<0)=false:=rfl
  have hT:M=T:=hT
  subst hT
  simp(maxSteps:=4000000) (disch:=first|assumption|omega|(simp -implicitDefEqProofs only[ZQ,ZR]<;>first|assumption|omega)|decide) only[t0,t1,t3,t9,d0,Yi,K8,ZC,ZY,Zz,Zw,Zr,Zt,ZA,Nat.reducePow,Nat.reduceDiv,Nat.reduceMod,Nat.reduceEqDiff,reduceCtorEq,Z4,WG]
  refine⟨_,_,_,rfl,?_⟩
  exact .inr ⟨by simp,rfl,(by simp only[Z4,ZY];exact t0'),(by simp only[Z4,ZY];exact t1'),(by simp only[Z4,ZY];exact t2'),(by simp only[Z4,ZY];exact O9),(by simp only[Z4,ZY];exact zW),k0,sr⟩
 |succ q=>
  have d0:decide (0<q+1)=true:=rfl
  obtain⟨rw0,r1,r2,t,u,g,blo,bro,ht,hu,vt,vu_,l1,l2,s1,s2,sr2⟩:=sr.swap (j:=q) (by omega)
  have lo1:=vt.low (n:=H.nx) (Zn hnk k0.nx)
  have lo2:=vu_.low (n:=H.nx) (Zn hnk k0.nx)
  have sa1:=λ(n:Nat) (z:AI.T Obj)=>NV (s:=(M.getD (q+1) default).1) vt.same n z
  have sa2:=λ(n:Nat) (z:AI.T Obj)=>NV (s:=(M.getD q default).1) vu_.same n z
  have hc:=λ{j}=>hf (j:=j) (a:=(M.getD (q+1) default).1) (b:=(M.getD q default).1) (H:=H) ht hu
  have lt:=yq (M.getD (q+1) default).1 (M.getD q default).1
  have hT:(if Yn (M.getD (q+1) default).1 (M.getD q default).1 then JA NL q (swp M q) else M)=T:=hT
  have lwb:Xm H.nx (.slice b 0 n cp)=true:=Xk blo 0 n cp
  generalize hk1:(M.getD (q+1) default).1=k1 at*
  generalize hk2:(M.getD q default).1=k2 at*
  have ca: ∀n,Xm n (Hn k1 k2)=true:=λn=>by unfold Hn;split;rfl;split<;>rfl
  cases hs:Yn k1 k2 with
  |false=>
   rw[hs] at lt hT
   have hT:M=T:=hT
   subst hT
   simp(maxSteps:=4000000) (disch:=first|assumption|omega|(simp -implicitDefEqProofs only[ZQ,ZR]<;>first|assumption|omega)|decide) only[t0,t1,t3,t9,d0,g,l1,l2,lo1,lo2,sa1,sa2,hc,lt,lwb,ca,OO,Yp,Yi,Ua,Vj,Va,K8,ZC,ZY,Zz,Zw,Zr,Zt,ZA,Nat.reducePow,Nat.reduceDiv,Nat.reduceMod,Nat.reduceEqDiff,reduceCtorEq,Z4,WG]
   refine⟨_,_,_,rfl,?_⟩
   exact .inr ⟨by simp,rfl,(by simp only[Z4,ZY];exact t0'),(by simp only[Z4,ZY];exact t1'),(by simp only[Z4,ZY];exact t2'),(by simp only[Z4,ZY];exact O9),(by simp only[Z4,ZY];exact zW),k0,sr⟩
  |true=>
   rw[hs] at lt hT
   simp(maxSteps:=4000000) (disch:=first|assumption|omega|(simp -implicitDefEqProofs only[ZQ,ZR]<;>first|assumption|omega)|decide) only[t0,t1,t3,t9,d0,g,l1,l2,lo1,lo2,sa1,sa2,hc,lt,lwb,ca,s1,s2,xw,OO,Yp,Yi,Ua,Vj,Va,K8,ZC,ZY,Zz,Zw,Zr,Zt,ZA,Nat.reducePow,Nat.reduceDiv,Nat.reduceMod,Nat.reduceEqDiff,reduceCtorEq,Z4,WG]
   refine⟨_,_,_,rfl,?_⟩
   exact .inl ⟨rfl,q,Yo _,⟨⟨q,swp M q,(by simp only[Z4,ZY]),rfl,by omega,by rw[Jr];exact hM,sr2,hT⟩,(by simp only[Z4,ZY];exact t0'),(by simp only[Z4,ZY];exact t1'),(by simp only[Z4,ZY];exact t2'),(by simp only[Z4,ZY];exact O9),(by simp only[Z4,ZY];exact zW),k0.then_put hb⟩⟩
structure eH(H0 HK:Heap)(S:List Nat)(h b f n:Nat)(cp:Option Nat)(T:List (List UInt8×JV))(m:Nat)(tm:TM)(H:Heap):Prop where
 i: ∃i M,Wc tm=nI .i64 i∧m=n - i∧1<=i∧M.length=n∧R9 H0 h b M H∧CT NL (n - i) i M=T
 t0:Ys tm=.slice b 0 n cp
 t1:Y2 tm=nI .i64 0
 t2:Xy tm=nI .i64 n
 t3:XK tm=.func f [] []
 k:Zq HK H S
theorem cz(E:Env Zp fs fuel){n0 f:Nat}(hf:Hf Zp fs fuel k f){HK:Heap}{S:List Nat}{cp:Option Nat}{T:List (List UInt8×JV)}(hn:n<=9000)(hnk:H0.nx<=HK.nx)(hb:b<HK.nx->b∈S)(y fr r)(x:X)(m:Nat)(tm:TM)(H:Heap)(hI:eH H0 HK S h b f n cp T m tm H):
  ∃o tm' H',Oi ⟨ZJ (LK Zp fs fuel k) fs fuel (n0+1),y,fr,fuel,r⟩ tm H x=.ok o tm' H' x∧((o=.normal∧ ∃q,q<m∧eH H0 HK S h b f n cp T q tm' H')∨(o≠.normal∧(o=.exit 0∧Zq HK H' S∧R9 H0 h b T H'))):=by
 obtain⟨⟨i,M,t8,rfl,hi1,hM,sr,hT⟩,t0,t1,t2,t3,k0⟩:=hI
 have t0':=t0;have t1':=t1;have t2':=t2;have O9:=t3;have zW:=t8
 simp only[PN,Jw] at t2 t8
 by_cases hlt:i<n
 ·have d1:decide (i<n)=true:=Ze hlt
  simp(maxSteps:=4000000) (disch:=first|assumption|omega|(simp -implicitDefEqProofs only[ZQ,ZR]<;>first|assumption|omega)|decide) only[t2,t8,d1,ZH,Oi,ZC,ZY,Zz,Zw,Zr,Zt,ZA,Nat.reduceEqDiff,reduceCtorEq,Z4]
  generalize hL:XQ (K8 _) fuel _ _ _=L
  obtain⟨o,Tx,H1,rfl,_,rfl,a0,a1,a2,a3,a8,k1,sr1⟩:=YA (P:=λT'=>eF H0 HK S h b f n i cp (JA NL i M) i T' H) (Q:=λo tm' H'=>o=.exit 2∧Ys tm'=.slice b 0 n cp∧Y2 tm'=nI .i64 0∧Xy tm'=nI .i64 n∧XK tm'=.func f [] []∧Wc tm'=nI .i64 i∧Zq HK H' S∧R9 H0 h b (JA NL i M) H')
   (λT' hi'=>YK (eF H0 HK S h b f n i cp (JA NL i M)) _ (λm tm H' h'=>Zb0 E hf hlt hn hnk hb _ _ _ _ _ m tm H' h') fuel i T' H (by have:=E.big;omega) hi') hL
   ⟨⟨i,M,(by simp only[Z4,ZY]),rfl,Zl _,hM,sr,rfl⟩,(by simp only[Z4,ZY];exact t0'),(by simp only[Z4,ZY];exact t1'),(by simp only[Z4,ZY];exact t2'),(by simp only[Z4,ZY];exact O9),(by simp only[Z4,ZY];exact zW),k0⟩
  have a8':=a8
  simp only[Jw] at a8
  simp(maxSteps:=4000000) (disch:=first|assumption|omega|(simp -implicitDefEqProofs only[ZQ,ZR]<;>first|assumption|omega)|decide) only[a8,YZ,Oi,ZC,ZY,Zz,Zw,Zr,Zt,ZA,Nat.reduceEqDiff,reduceCtorEq,Z4]
  refine⟨_,_,_,rfl,?_⟩
  exact .inl ⟨rfl,n - (i+1),by omega,⟨⟨i+1,JA NL i M,(by simp only[Z4,ZY]),rfl,by omega,by rw[Ko];exact hM,sr1,by rw[show n - i=(n - (i+1))+1 by omega] at hT;exact hT⟩,(by simp only[Z4,ZY];exact a0),(by simp only[Z4,ZY];exact a1),(by simp only[Z4,ZY];exact a2),(by simp only[Z4,ZY];exact a3),k1⟩⟩
 ·have d1:decide (i<n)=false:=Zb hlt
  rw[show n - i=0 by omega] at hT
  have hT:M=T:=hT
  subst hT
  simp(maxSteps:=4000000) (disch:=first|assumption|omega|(simp -implicitDefEqProofs only[ZQ,ZR]<;>first|assumption|omega)|decide) only[t2,t8,d1,ZH,Oi,ZC,ZY,Zz,Zw,Zr,Zt,ZA,Nat.reduceEqDiff,reduceCtorEq,Z4]
  refine⟨_,_,_,rfl,?_⟩
  exact .inr ⟨by simp,rfl,k0,sr⟩
theorem cA(E:Env Zp fs fuel){n0 f:Nat}(hf:Hf Zp fs fuel k f){HK:Heap}{S:List Nat}{cp:Option Nat}{M:List (List UInt8×JV)}(hn:n<=9000)(hnk:H0.nx<=HK.nx)(hb:b<HK.nx->b∈S)(hM:M.length=n)(k0:Zq HK H S)(sr:R9 H0 h b M H):
  ∃H',ZJ (LK Zp fs fuel k) fs fuel (n0+2) 106 [.slice b 0 n cp,nI .i64 0,nI .i64 n,.func f [] []] H=.ret (.tup []) H'∧Zq HK H' S∧R9 H0 h b (VN NL M) H':=by
 rw[ZL (ZF E.n106 (.inr rfl) _ _) E.f106]
 simp(maxSteps:=4000000) (disch:=first|assumption|omega|(simp -implicitDefEqProofs only[ZQ,ZR]<;>first|assumption|omega)|decide) only[YZ,Zs,oi,ZC,ZY,Zz,Zw,Zr,Zt,ZA,Nat.reduceEqDiff,reduceCtorEq,Z4]
 generalize hL:XQ (Oi _) fuel _ _ _=L
 obtain⟨o,Tx,H1,rfl,_,rfl,k1,sr1⟩:=YA (P:=λT'=>eH H0 HK S h b f n cp (VN NL M) (n - 1) T' H) (Q:=λo tm' H'=>o=.exit 0∧Zq HK H' S∧R9 H0 h b (VN NL M) H')
  (λT' hi'=>YK (eH H0 HK S h b f n cp (VN NL M)) _ (λm tm H' h'=>cz E hf hn hnk hb _ _ _ _ m tm H' h') fuel (n - 1) T' H (by have:=E.big;omega) hi') hL
  ⟨⟨1,M,rfl,rfl,Zl _,hM,sr,by unfold VN;rw[hM]⟩,rfl,rfl,rfl,rfl,k0⟩
 simp(maxSteps:=4000000) (disch:=first|assumption|omega|(simp -implicitDefEqProofs only[ZQ,ZR]<;>first|assumption|omega)|decide) only[oi,ZC,ZY,Zz,Zw,Zr,Zt,ZA,Nat.reduceEqDiff,reduceCtorEq,Z4]
 refine⟨_,rfl,?_⟩
 exact⟨k1,sr1⟩
theorem FO{a:TM->Heap->X->Wd}{F:Nat}{tm:TM}{H H':Heap}{x:X}{L:Wd}(hL:XQ a F tm H x=L)(hF:0<F)(h: ∃tm',a tm H x=.ok .ret tm' H' x): ∃tm',L=.ok .ret tm' H' x:=by
 obtain⟨tm',h⟩:=h
 cases F with
 |zero=>omega
 |succ F=>
  refine⟨tm',?_⟩
  rw[<-hL]
  show RC (a tm H x) _=_
  rw[h];rfl
theorem Cd(k:IntKind)(a b:Nat)(H:Heap):Pb Jz Og (nI k a) (nI k b) H=.val (.bool (decide (a<=b))) H:=X6 k a b H
theorem bT(E:Env Zp fs fuel){n0 f:Nat}(hf:Hf Zp fs fuel k f){lim:Nat}{cp:Option Nat}{M:List (List UInt8×JV)}(hn:n<=12)(hb:H0.nx<=b)(hM:M.length=n)(k0:Zq H0 H [])(sr:R9 H0 h b M H):
  ∃H',ZJ (LK Zp fs fuel k) fs fuel (n0+3) 98 [.slice b 0 n cp,nI .i64 0,nI .i64 n,nI .i64 lim,.func f [] []] H=.ret (.tup []) H'∧Zq H0 H' []∧R9 H0 h b (VN NL M) H':=by
 rw[ZL (ZF E.n98 (.inr rfl) _ _) E.f98]
 obtain⟨H1,e1,k1,sr1⟩:=cA E (k:=k) (n0:=n0) hf (cp:=cp) (HK:=H0) (S:=[]) (by omega) (Zl _) (λh=>absurd h (by omega)) hM k0 sr
 have d1:decide (n<=12)=true:=Ze hn
 simp(maxSteps:=4000000) (disch:=first|assumption|omega|(simp -implicitDefEqProofs only[ZQ,ZR]<;>first|assumption|omega)|decide) only[MN,aX,ZC,ZY,Zz,Zw,Zr,Zt,ZA,Nat.reduceEqDiff,reduceCtorEq,Z4]
 generalize hL:XQ (It _) fuel _ _ _=L
 obtain⟨tm',h⟩: ∃tm',L=.ok .ret tm' H1 ⟨[],none⟩:=by
  have hF:0<fuel:=by have:=E.big;omega
  refine FO hL hF ?_
  simp(maxSteps:=4000000) (disch:=first|assumption|omega|(simp -implicitDefEqProofs only[ZQ,ZR]<;>first|assumption|omega)|decide) only[d1,e1,Vj,Cd,T7,It,ZC,ZY,Zz,Zw,Zr,Zt,ZA,Nat.reducePow,Nat.reduceDiv,Nat.reduceMod,Nat.reduceEqDiff,reduceCtorEq,Z4,WG,Rn,JH,E3]
  exact⟨_,rfl⟩
 subst h
 simp(maxSteps:=4000000) (disch:=first|assumption|omega|(simp -implicitDefEqProofs only[ZQ,ZR]<;>first|assumption|omega)|decide) only[MN,aX,ZC,ZY,Zz,Zw,Zr,Zt,ZA,Nat.reduceEqDiff,reduceCtorEq,Z4]
 refine⟨_,rfl,?_⟩
 exact⟨k1,sr1⟩
theorem dj(a b c d e f:AV):TI [a,b,c,d,e,f]=Vs (Xz (Vk (st2 (st1 (st0 ML a) b) c) d) e) f:=rfl
theorem wv(a b:List UInt8)(n:Nat):Xm n (Hn a b)=true:=by unfold Hn;split;rfl;split<;>rfl
theorem Bi(E:Env Zp fs fuel){n0 f:Nat}(hf:Hf Zp fs fuel k f){x y q:Nat}{cp:Option Nat}{M:List (List UInt8×JV)}(hM:M.length=n)(k0:Zq H0 H [])(sr:R9 H0 h b M H)(hx:x<n)(hy:y<n)(hs:Yn (M.getD y default).1 (M.getD x default).1=false)(hq:q<H.nx)(ho:H.ro<=H.nx):
  ZJ (LK Zp fs fuel k) fs fuel (n0+2) 122 [.slice b 0 n cp,nI .i64 x,nI .i64 y,.ptr q 0,.func f [] []] H=.ret (.tup [nI .i64 x,nI .i64 y]) H:=by
 rw[ZL (ZF E.n122 (.inr rfl) _ _) E.f122]
 obtain⟨r,g,blo,bro,hat⟩:=sr.at_
 obtain⟨t,ht,vt,_,l1⟩:=hat y (by omega)
 obtain⟨u,hu,vu_,_,l2⟩:=hat x (by omega)
 have lo1:=vt.low (n:=H.nx) k0.nx
 have lo2:=vu_.low (n:=H.nx) k0.nx
 have sa1:=λ(n:Nat) (z:AI.T Obj)=>NV (s:=(M.getD y default).1) vt.same n z
 have sa2:=λ(n:Nat) (z:AI.T Obj)=>NV (s:=(M.getD x default).1) vu_.same n z
 have hc:=λ{j}=>hf (j:=j) (a:=(M.getD y default).1) (b:=(M.getD x default).1) (H:=H) ht hu
 have lt:=yq (M.getD y default).1 (M.getD x default).1
 rw[hs] at lt
 have lwb:Xm H.nx (.slice b 0 n cp)=true:=Xk blo 0 n cp
 have jT:=λ(G:Heap)=>Ua (sz:=7) hy b 0 cp .i64 G
 have ix2:=λ(G:Heap)=>Ua (sz:=7) hx b 0 cp .i64 G
 rw[Zs] at jT ix2
 have ca:=wv (M.getD y default).1 (M.getD x default).1
 generalize(M.getD y default).1=k1 at*
 generalize(M.getD x default).1=k2 at*
 simp(maxSteps:=4000000) (disch:=first|assumption|omega|(simp -implicitDefEqProofs only[ZQ,ZR]<;>first|assumption|omega)|decide) only[MN,g,l1,l2,lo1,lo2,sa1,sa2,hc,lt,lwb,ca,jT,ix2,OO,Yp,Za9,ZC,ZY,Zz,Zw,Zr,Zt,ZA,Nat.reducePow,Nat.reduceDiv,Nat.reduceMod,Nat.reduceEqDiff,reduceCtorEq,Z4]
theorem sB(E:Env Zp fs fuel){n0 f:Nat}(hf:Hf Zp fs fuel k f){x y z q:Nat}{cp:Option Nat}{M:List (List UInt8×JV)}(hM:M.length=n)(k0:Zq H0 H [])(sr:R9 H0 h b M H)(hxy:x<y)(hyz:y<z)(hz:z<n)(hs:Eo M)(hq:q<H.nx)(ho:H.ro<=H.nx):
  ZJ (LK Zp fs fuel k) fs fuel (n0+3) 121 [.slice b 0 n cp,nI .i64 x,nI .i64 y,nI .i64 z,.ptr q 0,.func f [] []] H=.ret (nI .i64 y) H:=by
 rw[ZL (ZF E.n121 (.inr rfl) _ _) E.f121]
 have e1:=Bi E (k:=k) (n0:=n0) hf (cp:=cp) (x:=x) (y:=y) (q:=q) hM k0 sr (by omega) (by omega) (hs x y hxy (by omega)) hq ho
 have e2:=Bi E (k:=k) (n0:=n0) hf (cp:=cp) (x:=y) (y:=z) (q:=q) hM k0 sr (by omega) (by omega) (hs y z hyz (by omega)) hq ho
 simp(maxSteps:=4000000) (disch:=first|assumption|omega|(simp -implicitDefEqProofs only[ZQ,ZR]<;>first|assumption|omega)|decide) only[dj,e1,e2,Za8,ZC,ZY,Zz,Zw,Zr,Zt,ZA,Nat.reduceEqDiff,reduceCtorEq,Z4,WG]
theorem mH(E:Env Zp fs fuel){n0 f:Nat}(hf:Hf Zp fs fuel k f){cp:Option Nat}{M:List (List UInt8×JV)}(hM:M.length=n)(k0:Zq H0 H [])(sr:R9 H0 h b M H)(h8:8<=n)(h50:n<50)(hs:Eo M)(ho:H.ro<=H.nx):
  ∃x:Nat,ZJ (LK Zp fs fuel k) fs fuel (n0+4) 109 [.slice b 0 n cp,nI .i64 0,nI .i64 n,.func f [] []] H=.ret (.tup [nI .i64 x,nI .i64 1]) (H.new (rH 3 [nI .i64 0])):=by
 rw[ZL (ZF E.n109 (.inr rfl) _ _) E.f109]
 obtain⟨H1,hH1⟩:=XZ (H.new (rH 3 [nI .i64 0]))
 have k1:Zq H H1 []:=by rw[<-hH1];exact Zq.new H _ _
 have U2:H1.nx=H.nx+1:=by rw[<-hH1];rfl
 have g1:H1.t.get H.nx=some (rH 3 [nI .i64 0]):=by rw[<-hH1,Zx rfl]
 have l1: ∀G:Heap,ld1 (some (rH 3 [nI .i64 0])) 0 G=.val (nI .i64 0) G:=λG=>Z2 (by simp) ..
 have hd:n/4*4<=n:=Nat.div_mul_le_self n 4
 have h2:2<=n/4:=by omega
 have e1:=sB E (k:=k) (n0:=n0) hf (cp:=cp) (x:=n/4) (y:=n/4*2) (z:=n/4*3) (q:=H.nx) hM (k0.trans' k1) (sr.keep k1) (by omega) (by omega) (by omega) hs (by omega) (by rw[k1.ro];omega)
 have d1:decide (8<=n)=true:=Ze h8
 have d2:decide (50<=n)=false:=Zb (by omega)
 have d3:decide (0=0)=true:=rfl
 have q1:=λG=>gW (a:=n) (b:=4) (by decide) (by omega) G
 have m1:=λG=>Kx (a:=n/4) (b:=1) (by omega) G
 have m2:=λG=>Kx (a:=n/4) (b:=2) (by omega) G
 have m3:=λG=>Kx (a:=n/4) (b:=3) (by omega) G
 have s0:=λG=>Vj (a:=n) (b:=0) (by omega) (by omega) G
 have a1:=λx (hx:x<=50) G=>YZ (a:=0) (b:=x) (by omega) G
 have a11:=a1 (n/4*1) (by omega)
 have a12:=a1 (n/4*2) (by omega)
 have a13:=a1 (n/4*3) (by omega)
 rw[Zs] at a11 a12 a13
 rw[T7] at s0
 rw[Xw] at m1 a11
 simp(maxSteps:=4000000) (disch:=first|assumption|omega|(simp -implicitDefEqProofs only[ZQ,ZR]<;>first|assumption|omega)|decide) only[hH1,g1,l1,e1,d1,d2,d3,q1,m1,m2,m3,s0,a11,a12,a13,Xb,YD,Za7,ZC,ZY,Zz,Zw,Zr,Zt,ZA,Nat.reducePow,Nat.reduceDiv,Nat.reduceMod,Nat.reduceEqDiff,reduceCtorEq,Z4,WG]
 exact⟨_,rfl⟩
structure PSI(H0:Heap)(b f n:Nat)(cp:Option Nat)(m:Nat)(tm:TM)(H:Heap):Prop where
 i: ∃i,Wv tm=nI .i64 i∧i+m=n∧1<=i
 t0:Ys tm=.slice b 0 n cp
 t2:Xy tm=nI .i64 n
 t3:XK tm=.func f [] []
 h:H=H0
theorem bX(E:Env Zp fs fuel){n0 f:Nat}(hf:Hf Zp fs fuel k f){H1:Heap}{cp:Option Nat}{M:List (List UInt8×JV)}(hM:M.length=n)(k0:Zq H0 H1 [])(sr:R9 H0 h b M H1)(hn:n<50)(hs:Eo M)(ho:H1.ro<=H1.nx)(y fr d r)(x:X)(m:Nat)(tm:TM)(H:Heap)(hI:PSI H1 b f n cp m tm H):
  ∃o tm' H',Hl ⟨ZJ (LK Zp fs fuel k) fs fuel (n0+1),y,fr,d,r⟩ tm H x=.ok o tm' H' x∧((o=.normal∧ ∃q,q<m∧PSI H1 b f n cp q tm' H')∨(o≠.normal∧(o=.exit 2∧Wv tm'=nI .i64 n∧Xy tm'=nI .i64 n∧H'=H1))):=by
 obtain⟨⟨i,t9,him,h1⟩,t0,t2,t3,rfl⟩:=hI
 have t0':=t0;have t2':=t2;have O9:=t3;have t9':=t9
 simp only[Pn,PN,Qg,yM] at t0 t2 t3 t9
 have lwb:Xm H.nx (.slice b 0 n cp)=true:=by
  obtain⟨r,g,blo,_⟩:=sr.at_
  exact Xk blo 0 n cp
 cases m with
 |zero=>
  have d0:decide (i<n)=false:=Zb (by omega)
  obtain rfl:i=n:=by omega
  simp(maxSteps:=4000000) (disch:=first|assumption|omega|(simp -implicitDefEqProofs only[ZQ,ZR]<;>first|assumption|omega)|decide) only[t0,t2,t3,t9,d0,lwb,OO,ZH,QC,Hl,ZC,ZY,Zz,Zw,Zr,Zt,ZA,Nat.reducePow,Nat.reduceDiv,Nat.reduceMod,Nat.reduceEqDiff,reduceCtorEq,Z4,WG]
  refine⟨_,_,_,rfl,?_⟩
  exact .inr ⟨by simp,rfl,(by simp only[Z4,ZY];exact t9'),(by simp only[Z4,ZY];exact t2'),rfl⟩
 |succ m=>
  have d0:decide (i<n)=true:=Ze (by omega)
  obtain⟨r,g,blo,bro,hat⟩:=sr.at_
  obtain⟨t,ht,vt,_,l1⟩:=hat i (by omega)
  obtain⟨u,hu,vu_,_,l2⟩:=hat (i - 1) (by omega)
  have lo1:=vt.low (n:=H.nx) k0.nx
  have lo2:=vu_.low (n:=H.nx) k0.nx
  have sa1:=λ(n:Nat) (z:AI.T Obj)=>NV (s:=(M.getD i default).1) vt.same n z
  have sa2:=λ(n:Nat) (z:AI.T Obj)=>NV (s:=(M.getD (i - 1) default).1) vu_.same n z
  have hc:=λ{j}=>hf (j:=j) (a:=(M.getD i default).1) (b:=(M.getD (i - 1) default).1) (H:=H) ht hu
  have lt:=yq (M.getD i default).1 (M.getD (i - 1) default).1
  rw[hs (i - 1) i (by omega) (by omega)] at lt
  have jT:=λ(G:Heap)=>Ua (sz:=7) (show i<n by omega) b 0 cp .i64 G
  have ix2:=λ(G:Heap)=>Ua (sz:=7) (show i - 1<n by omega) b 0 cp .i64 G
  rw[Zs] at jT ix2
  have ca:=wv (M.getD i default).1 (M.getD (i - 1) default).1
  have sb:=λG=>Vj (a:=i) (b:=1) h1 (by omega) G
  have ad:=λG=>YZ (a:=i) (b:=1) (by omega) G
  generalize(M.getD i default).1=k1 at*
  generalize(M.getD (i - 1) default).1=k2 at*
  generalize i - 1=i' at*
  simp(maxSteps:=4000000) (disch:=first|assumption|omega|(simp -implicitDefEqProofs only[ZQ,ZR]<;>first|assumption|omega)|decide) only[t0,t2,t3,t9,d0,g,l1,l2,lo1,lo2,sa1,sa2,hc,lt,lwb,ca,jT,ix2,sb,ad,OO,Yp,ZH,Rc,Hl,ZC,ZY,Zz,Zw,Zr,Zt,ZA,Nat.reducePow,Nat.reduceDiv,Nat.reduceMod,Nat.reduceEqDiff,reduceCtorEq,Z4,WG]
  refine⟨_,_,_,rfl,?_⟩
  exact .inl ⟨rfl,m,by omega,⟨⟨i+1,(by simp only[Z4,ZY]),by omega,by omega⟩,(by simp only[Z4,ZY];exact t0'),(by simp only[Z4,ZY];exact t2'),(by simp only[Z4,ZY];exact O9),rfl⟩⟩
theorem ip{a:TM->Heap->X->Wd}{Q:TM->Prop}{F:Nat}{tm:TM}{H H':Heap}{x:X}{L:Wd}(hL:XQ a F tm H x=L)(hF:0<F)(h: ∃tm',a tm H x=.ok .ret tm' H' x∧Q tm'): ∃tm',L=.ok .ret tm' H' x∧Q tm':=by
 obtain⟨tm',h,q⟩:=h
 cases F with
 |zero=>omega
 |succ F=>
  refine⟨tm',?_,q⟩
  rw[<-hL]
  show RC (a tm H x) _=_
  rw[h];rfl
theorem gH(E:Env Zp fs fuel){n0 f:Nat}(hf:Hf Zp fs fuel k f){cp:Option Nat}{M:List (List UInt8×JV)}(hM:M.length=n)(k0:Zq H0 H [])(sr:R9 H0 h b M H)(h1:1<=n)(hn:n<50)(hs:Eo M)(ho:H.ro<=H.nx):
  ZJ (LK Zp fs fuel k) fs fuel (n0+2) 111 [.slice b 0 n cp,nI .i64 0,nI .i64 n,.func f [] []] H=.ret (.bool true) H:=by
 rw[ZL (ZF E.n111 (.inr rfl) _ _) E.f111]
 have hF:0<fuel:=by have:=E.big;omega
 simp(maxSteps:=4000000) (disch:=first|assumption|omega|(simp -implicitDefEqProofs only[ZQ,ZR]<;>first|assumption|omega)|decide) only[YZ,Zs,dG,ZC,ZY,Zz,Zw,Zr,Zt,ZA,Nat.reduceEqDiff,reduceCtorEq,Z4]
 generalize hL:XQ (Dj _) fuel _ _ _=L
 obtain⟨tm',rfl,t8⟩: ∃tm',L=.ok .ret tm' H ⟨[],none⟩∧Wc tm'=.bool true:=by
  refine ip (Q:=λtm=>Wc tm=.bool true) hL hF ?_
  have d0:decide (0<5)=true:=rfl
  have d1:decide (n=n)=true:=Ze rfl
  simp(maxSteps:=4000000) (disch:=first|assumption|omega|(simp -implicitDefEqProofs only[ZQ,ZR]<;>first|assumption|omega)|decide) only[d0,ZH,Dj,ZC,ZY,Zz,Zw,Zr,Zt,ZA,Nat.reducePow,Nat.reduceDiv,Nat.reduceMod,Nat.reduceEqDiff,reduceCtorEq,Z4,WG,Rn,JH]
  generalize hL2:XQ (Hl _) fuel _ _ _=L2
  obtain⟨o,Tx,H1,rfl,_,rfl,t9,t2,rfl⟩:=YA (P:=λT'=>PSI H b f n cp (n - 1) T' H) (Q:=λo tm' H'=>o=.exit 2∧Wv tm'=nI .i64 n∧Xy tm'=nI .i64 n∧H'=H)
   (λT' hi'=>YK (PSI H b f n cp) _ (λm tm H' h'=>bX E hf hM k0 sr hn hs ho _ _ _ _ _ m tm H' h') fuel (n - 1) T' H (by have:=E.big;omega) hi') hL2
   (by exact⟨⟨1,rfl,by omega,Zl _⟩,rfl,rfl,rfl,rfl⟩)
  simp only[yM,PN] at t9 t2
  simp(maxSteps:=4000000) (disch:=first|assumption|omega|(simp -implicitDefEqProofs only[ZQ,ZR]<;>first|assumption|omega)|decide) only[t9,t2,d1,YD,Dj,ZC,ZY,Zz,Zw,Zr,Zt,ZA,Nat.reducePow,Nat.reduceDiv,Nat.reduceMod,Nat.reduceEqDiff,reduceCtorEq,Z4,WG,Rn,JH]
  refine⟨_,rfl,?_⟩
  exact rfl
 simp only[Jw] at t8
 simp(maxSteps:=4000000) (disch:=first|assumption|omega|(simp -implicitDefEqProofs only[ZQ,ZR]<;>first|assumption|omega)|decide) only[t8,dG,ZC,ZY,Zz,Zw,Zr,Zt,ZA,Nat.reduceEqDiff,reduceCtorEq,Z4]
theorem gJ(E:Env Zp fs fuel){n0 f:Nat}(hf:Hf Zp fs fuel k f){lim:Nat}{cp:Option Nat}{M:List (List UInt8×JV)}(h12:12<n)(hn:n<50)(hl:0<lim)(hs:Eo M)(hb:H0.nx<=b)(hM:M.length=n)(k0:Zq H0 H [])(sr:R9 H0 h b M H)(ho:H.ro<=H.nx):
  ∃H',ZJ (LK Zp fs fuel k) fs fuel (n0+5) 98 [.slice b 0 n cp,nI .i64 0,nI .i64 n,nI .i64 lim,.func f [] []] H=.ret (.tup []) H'∧Zq H0 H' []∧R9 H0 h b M H':=by
 rw[ZL (ZF E.n98 (.inr rfl) _ _) E.f98]
 obtain⟨x,e1⟩:=mH E (k:=k) (n0:=n0) hf (cp:=cp) hM k0 sr (by omega) hn hs ho
 obtain⟨H1,hH1⟩:=XZ (H.new (rH 3 [nI .i64 0]))
 have k1:Zq H H1 []:=by rw[<-hH1];exact Zq.new H _ _
 have U2:H1.nx=H.nx+1:=by rw[<-hH1];rfl
 rw[hH1] at e1
 have e2:=gH E (k:=k) (n0:=n0+2) hf (cp:=cp) hM (k0.trans' k1) (sr.keep k1) (by omega) hn hs (by rw[k1.ro];omega)
 have e2:ZJ (LK Zp fs fuel k) fs fuel (n0+4) 111 [.slice b 0 n cp,nI .i64 0,nI .i64 n,.func f [] []] H1=.ret (.bool true) H1:=e2
 have d1:decide (n<=12)=false:=Zb (by omega)
 have d2:decide (lim=0)=false:=Zb (by omega)
 have d3:decide (1=2)=false:=rfl
 have d4:decide (1=1)=true:=rfl
 simp(maxSteps:=4000000) (disch:=first|assumption|omega|(simp -implicitDefEqProofs only[ZQ,ZR]<;>first|assumption|omega)|decide) only[MN,aX,ZC,ZY,Zz,Zw,Zr,Zt,ZA,Nat.reduceEqDiff,reduceCtorEq,Z4]
 generalize hL:XQ (It _) fuel _ _ _=L
 obtain⟨tm',h⟩: ∃tm',L=.ok .ret tm' H1 ⟨[],none⟩:=by
  have hF:0<fuel:=by have:=E.big;omega
  refine FO hL hF ?_
  simp(maxSteps:=4000000) (disch:=first|assumption|omega|(simp -implicitDefEqProofs only[ZQ,ZR]<;>first|assumption|omega)|decide) only[d1,d2,d3,d4,e1,e2,Vj,Cd,YD,T7,Rc,It,ZC,ZY,Zz,Zw,Zr,Zt,ZA,Nat.reducePow,Nat.reduceDiv,Nat.reduceMod,Nat.reduceEqDiff,reduceCtorEq,Z4,WG,Rn,JH,E3]
  exact⟨_,rfl⟩
 subst h
 simp(maxSteps:=4000000) (disch:=first|assumption|omega|(simp -implicitDefEqProofs only[ZQ,ZR]<;>first|assumption|omega)|decide) only[MN,aX,ZC,ZY,Zz,Zw,Zr,Zt,ZA,Nat.reduceEqDiff,reduceCtorEq,Z4]
 refine⟨_,rfl,?_⟩
 exact⟨k0.trans' k1,sr.keep k1⟩
theorem ZcN{α:Type}[Inhabited α](lt:α->α->Bool){L:List α}(h: ∀j,j<i->lt (L.getD (j+1) default) (L.getD j default)=false):JA lt i L=L:=by
 cases i with
 |zero=>rfl
 |succ j=>unfold JA;rw[h j (Yo j)];rfl
theorem qX{α:Type}[Inhabited α](lt:α->α->Bool){L:List α}(h: ∀j,j+1<L.length->lt (L.getD (j+1) default) (L.getD j default)=false): ∀(k i:Nat),i+k<=L.length->CT lt k i L=L
 |0,_,_=>rfl
 |k+1,i,hi=>by unfold CT;rw[ZcN lt λj hj=>h j (by omega)];exact qX lt h k (i+1) (by omega)
theorem vd{M:List (List UInt8×JV)}(h:Eo M):VN NL M=M:=by
 unfold VN
 by_cases h0:M.length=0
 ·rw[YW.1 h0];rfl
 ·exact qX NL (λj hj=>h j (j+1) (Yo j) hj) _ _ (by omega)
theorem kw{x:Nat}(h:0<x):0<RQ x:=by unfold RQ;rw[if_neg (by omega)];omega
theorem bR(E:Env Zp fs fuel){n0 f lim:Nat}(hl:0<lim)(ho:H.ro<=H.nx)(hf:Hf Zp fs fuel k f){cp:Option Nat}{M:List (List UInt8×JV)}(hn:ka M)(hb:H0.nx<=b)(hM:M.length=n)(k0:Zq H0 H [])(sr:R9 H0 h b M H):
  ∃H',ZJ (LK Zp fs fuel k) fs fuel (n0+5) 98 [.slice b 0 n cp,nI .i64 0,nI .i64 n,nI .i64 lim,.func f [] []] H=.ret (.tup []) H'∧Zq H0 H' []∧R9 H0 h b (VN NL M) H':=by
 by_cases h12:n<=12
 ·exact bT E (n0:=n0+2) hf h12 hb hM k0 sr
 ·rcases hn with hn|⟨hn,hs⟩
  ·omega
  ·rw[vd hs]
   exact gJ E hf (by omega) (by omega) hl hs hb hM k0 sr ho
end
theorem tn(l:List PI)(p q:PI)(a b:Ye)(c:Ctx)(tm:TM)(H:Heap)(x:X):yC l p q a b c tm H x=VP (l.map (·.dst)) (JW p q a b) l c [] tm H x:=rfl
theorem mF(f g:W7)(o1 o2:List (ZS×Ye))(d1 d2:ZS)(k1 k2:If)(i1 i2 b1 b2:Nat)(e1 e2:Option (Ye×Bool))(a b:Ye)(rs:List RD)(tm:TM)(H:Heap)(x:X):JW ⟨f,e1,o1,d1,k1,i1,b1⟩ ⟨g,e2,o2,d2,k2,i2,b2⟩ a b rs tm H x=nH (Uk b1 rs) (nH (Uk b2 rs) (AI.apart (a (RL tm o1)) (b (RL tm o2)) (onV (f (RL tm o1) H) λH1=>onV (g (RL tm o2) H1) λH2=>.ok .normal tm H2 x))):=rfl
theorem iE(k:Wd):nH [] k=k:=rfl
theorem km{b c:Nat}(h: ¬b=c)(o q:Nat)(k:Wd):AI.apart (.ptr b o) (.ptr c q) k=k:=by
 show cond (Nat.beq b c) .fail k=k
 rw[Yu,Zb h];rfl
theorem bL(v:AV)(H:Heap)(k:Heap->Wd):onV (.val v H) k=k H:=rfl
theorem fC{α:Type}(l:List α)(a b:α):(l++[a]).set l.length b=l++[b]:=by
 induction l with
 |nil=>rfl
 |cons x l ih=>show x::(l++[a]).set l.length b=_;rw[ih];rfl
theorem Zh8(H:Heap):Wa 77 7 1 eV [(0,7,.agg eV)] H=.val (.slice H.nx 0 1 none) (H.new (rG 77 7 eV 0 false true true)):=rfl
theorem gY{H:Heap}{v:AV}{ls:List (List AV)}{lo:Nat}(h:VT H v 77 7 ls lo)(hl:ls.length<=9000)(hro:H.ro<=H.nx)(hlo:lo<=H.nx){x:List AV}(hx:x.length=7):
  ∃b r r' H',Vb 77 7 104 v (.slice H.nx 0 1 none) (H.new (rG 77 7 eV 0 false true true))=.val (.slice b 0 (ls.length+1) none) H'∧lo<=b∧b<H'.nx∧H'.t.get b=some (.row r)∧
   (∀G:Heap,EJ 7 (.slice b 0 (ls.length+1) none) (nI .i64 ls.length) G=.val (.ptr b (ls.length*7)) G)∧rK 7 (some (.row r)) b (ls.length*7) (.agg x) H'=.val Xl (H'.put b (.row r'))∧VT (H'.put b (.row r')) (.slice b 0 (ls.length+1) none) 77 7 (ls++[x]) lo∧Below lo H H':=by
 obtain⟨v',H',e,hb,w⟩:=Jl h (bytes:=104) (by omega) (by omega) (by omega) hro hlo (x:=eV) rfl
 rcases hb with⟨h1,_⟩|⟨_,b,r,rfl,hr,hlb⟩
 ·simp at h1
 ·rw[Zf,Zh,Zv] at e
  obtain⟨r',s1,q1⟩:=hr.store (i:=ls.length) (by simp) hx (by omega)
  rw[fC] at q1
  refine⟨b,r,r',H',e,hlb,hr.low,hr.at_,λG=>?_,s1,.inr ⟨by simp,b,r',by rw[Zf];rfl,q1,hlb⟩,w⟩
  rw[Ua (by omega),Zs]
theorem kp{C:Ctx}{tm:TM}{H:Heap}{X0:X}{sb:Nat}{v:AV}{ls:List (List AV)}{x:List AV}(t2:Xy tm=.ptr sb 0)(g:H.t.get sb=some (rH 71 [v]))(hr:VT H v 77 7 ls (sb+1))(hsb:sb<H.nx)(hro:H.ro<=sb)(hx:x.length=7)(lx: ∀n,H.nx<=n->U7 n x=true)(sx:XB x x=true)(hl:ls.length<=9000):
  ∃tm' H' v',uX C (VZ tm (.agg x)) H X0=.ok .normal tm' H' X0∧H'.t.get sb=some (rH 71 [v'])∧VT H' v' 77 7 (ls++[x]) (sb+1)∧Below sb H H':=by
 simp only[PN] at t2
 obtain⟨H1,hH1⟩:=XZ (H.new (rH 77 x))
 have U2:H1.nx=H.nx+1:=by rw[<-hH1];rfl
 have Rm:H1.ro=H.ro:=by rw[<-hH1];rfl
 have hB:=WQ (n:=7) (l:=eV) (vs:=x) (by rfl) hx (by omega) (show(H.new (rH 77 eV)).ro<=H.nx by show H.ro<=_;omega) 77 1 false true
 rw[SU rfl,hH1] at hB
 have gs1:H1.t.get sb=some (rH 71 [v]):=by rw[<-hH1,YV (by omega)];exact g
 have gx1:H1.t.get H.nx=some (rH 77 x):=by rw[<-hH1,Zx rfl]
 have ldx: ∀G:Heap,ldN 7 (some (rH 77 x)) 0 G=.val (.agg x) G:=λG=>by rw[X8 (by omega)];congr 2;rw[Z6,ZB (by omega)]
 have b1:Below sb H H1:=by rw[<-hH1];exact Below.new sb H _
 have hr1:VT H1 v 77 7 ls (sb+1):=hr.below (λc h1 h2=>by rw[<-hH1,YV (by omega)]) Rm (by omega)
 obtain⟨b,r,r',H2,ea,hlb,hb2,gr,ix,s1,r2,w2⟩:=gY hr1 hl (by omega) (by omega) hx
 rw[U2] at ea
 have gs2:H2.t.get sb=some (rH 71 [v]):=by rw[w2.get sb (by omega) (by omega)];exact gs1
 have hne: ¬b=sb:=by omega
 have gs3:(H2.put b (.row r')).t.get sb=some (rH 71 [v]):=by rw[YT hne];exact gs2
 have st:=Lk (fz:=0) (b:=sb) (H:=H2.put b (.row r')) (l:=[v]) (o:=0) (v:=.slice b 0 (ls.length+1) none) rfl (by simp) (by show H2.ro<=sb;rw[w2.ro,Rm];exact hro) (by omega) 71 1 false true
 have lsv:=hr1.low (n:=H.nx+1) (by omega)
 have lv:=hr1.len
 have ssv:=hr1.same
 have lx1:=lx (H.nx+1) (by omega)
 have lx2:=lx H2.nx (by have:=w2.nx;omega)
 have ax:=VE sx
 have lsb:Xm (H.nx+1) (.ptr sb 0)=true:=Yp (by omega) 0
 have ZjA:Xm H2.nx (.ptr sb 0)=true:=Yp (by have:=w2.nx;omega) 0
 have lbb: ∀o,Xm H2.nx (.ptr b o)=true:=λo=>Yp hb2 o
 have lxn:Xm (H.nx+1) (.ptr H.nx 0)=true:=Yp (by omega) 0
 have lsl:Xm H2.nx (.slice b 0 (ls.length+1) none)=true:=Xk hb2 _ _ _
 have la2:Xm (H.nx+1+1) (.slice (H.nx+1) 0 1 none)=true:=Xk (by omega) _ _ _
 simp(maxSteps:=4000000) (disch:=first|assumption|omega|(simp -implicitDefEqProofs only[ZQ,ZR]<;>first|assumption|omega)|decide) only[t2,hB,gs1,gx1,U2,ldx,lv,ea,gr,ix,s1,gs3,st,lsv,ssv,lx1,lx2,ax,lsb,ZjA,lbb,lxn,lsl,la2,tn,mF,iE,bL,km,Zh8,UN,Z2,ZZ,Zs,uX,ZC,ZY,Zz,Zw,Zr,Zt,ZA,Nat.reducePow,Nat.reduceDiv,Nat.reduceMod,Nat.reduceEqDiff,reduceCtorEq,Z4]
 refine⟨_,_,.slice b 0 (ls.length+1) none,rfl,Y1 ..,?_,?_⟩
 ·exact r2.below (λc h1 _=>by rw[YT (by omega)]) rfl (Zl _)
 ·exact b1.trans ((w2.mono (XV _)).trans ((Below.put (by omega)).trans (Below.put (Zl _))))
section
variable {Zp:Lib} {fs:T CF} {fuel k n i h b:Nat} {H H0:Heap} {s:List UInt8} {cs:List AV}
theorem tF(nx:TM->Heap->X->Wd)(d:ZS)(c:Ctx)(tm:TM)(H H':Heap)(x:X)(b:Nat)(l:List AV):Ph nx d c tm H x (.oth (.yield b l H'))=Da nx d tm x (c.yld b l H'):=rfl
theorem wp(P:Program)(b:Nat)(l:List AV)(H:Heap):wo P (.yield b) l H=.oth (.yield b l H):=rfl
theorem mR{fs:T CF}{g:Nat}{cf:CF}(h:fs.get g=some cf)(fuel:Nat)(call:Nat->List AV->Heap->CR)(a b:List AV)(round:List AV->Heap->CR)(tm:TM)(H:Heap)(x:X):
  Lc fs fuel call (.func g a b) round tm H x=kH (M9 (λ_ _ _ _=>.fail) cf.rs (cf.body ⟨call,λl ys H'=>cond (Nat.beq l H.nx) (round ys H') .fail,VX,fuel,false⟩ (TI (a++(.yield H.nx::b))) (H.new .loop) ⟨[],none⟩)) tm x:=by
 show FY Wd.fail fs g _=_
 unfold FY
 rw[h]
theorem rl(q:Ye)(ps:List ZS)(a:D)(c:Ctx)(tm:TM)(H:Heap)(x:X):xB q ps a c tm H x=c.rng (q tm) (λys H=>cond (Nat.beq (YF ys) (YF ps)) (Le (a ⟨c.call,VY,VX,c.fuel,true⟩ (Pt tm ps ys) H ⟨[],none⟩)) .fail) tm H x:=rfl
structure uI(H0:Heap)(sb:Nat)(xs:List (List AV))(i:Nat)(G:Heap):Prop where
 k:Zq H0 G []
 low:sb<G.nx
 hi:H0.nx<=sb
 ro:G.ro<=sb
 ok: ∃v,G.t.get sb=some (rH 71 [v])∧VT G v 77 7 (xs.take i) (sb+1)
theorem uI.keep{sb:Nat}{xs:List (List AV)}{G G':Heap}(g:uI H0 sb xs i G)(k:Zq G G' []):uI H0 sb xs i G':=by
 obtain⟨v,h1,h2⟩:=g.ok
 exact⟨g.k.trans k (by simp),ZO g.low k.nx,g.hi,by rw[k.ro];exact g.ro,v,by rw[k.get _ g.low (by simp)];exact h1,h2.below (λc _ hc=>k.get c hc (by simp)) k.ro k.nx⟩
structure VI2(H0:Heap)(sb B:Nat)(src:AV)(xs:List (List AV))(m:Nat)(tm:TM)(H:Heap):Prop where
 i: ∃i,WB tm=nI .i64 i∧i<=xs.length∧m=xs.length - i∧uI H0 sb xs i H
 t0:Ys tm=.yield B
 t5:X5 tm=src
 t6:WN tm=nI .i64 xs.length
theorem ZcY{cl:Nat->List AV->Heap->CR}{Y:Nat->List AV->Heap->CR}{sb B:Nat}{src:AV}{xs:List (List AV)}(sl:Sl H0 7 src xs)(hn:xs.length<=9000)
  (hy: ∀i G,i<xs.length->uI H0 sb xs i G-> ∃G',Y B [.agg (xs.getD i [])] G=.ret (.bool true) G'∧uI H0 sb xs (i+1) G')(f d r)(x:X)(m:Nat)(tm:TM)(H:Heap)(h:VI2 H0 sb B src xs m tm H):
  ∃o tm' H',D1 ⟨cl,Y,f,d,r⟩ tm H x=.ok o tm' H' x∧((o=.normal∧ ∃q,q<m∧VI2 H0 sb B src xs q tm' H')∨(o≠.normal∧(o=.exit 0∧uI H0 sb xs xs.length H'))):=by
 obtain⟨⟨i,t7,hi,rfl,g⟩,t0,t5,t6⟩:=h
 have t0':=t0;have aC:=t5;have t6':=t6
 simp only[Pn,yL,Ab,CK] at t0 t5 t6 t7
 by_cases hlt:i<xs.length
 ·have d1:decide (i<xs.length)=true:=Ze hlt
  obtain⟨b,o,rw_,eI,hb,gb,eL,_⟩:=(sl.keep0 g.k).at_ hlt
  have hx:(xs.getD i []).length=7:=sl.each _ (by rw[Za,Zg hlt];exact Y0 hlt)
  obtain⟨H1,hH1⟩:=XZ (H.new (rH 77 (xs.getD i [])))
  have hro:H.ro<=H.nx:=by have:=g.ro;have:=g.low;omega
  have hB:=WQ (n:=7) (l:=eV) (vs:=xs.getD i []) (by rfl) hx (by omega) (show(H.new (rH 77 eV)).ro<=H.nx from hro) 77 1 false true
  rw[SU rfl,hH1] at hB
  have gx1:H1.t.get H.nx=some (rH 77 (xs.getD i [])):=by rw[<-hH1,Zx rfl]
  have ldx: ∀G:Heap,ldN 7 (some (rH 77 (xs.getD i []))) 0 G=.val (.agg (xs.getD i [])) G:=λG=>by rw[X8 (by omega)];congr 2;rw[Z6,ZB (by omega)]
  have k1:Zq H H1 []:=by rw[<-hH1];exact Zq.new H _ _
  obtain⟨G',ey,g'⟩:=hy i H1 hlt (g.keep k1)
  generalize xs.getD i []=xx at*
  simp(disch:=omega) only[t0,t5,t6,t7,d1,eI,gb,eL,hB,gx1,ldx,ey,ZH,tF,wp,Rc,YZ,D1,ZC,ZY,Zz,Zw,Z4]
  refine⟨_,_,_,rfl,?_⟩
  exact .inl ⟨rfl,xs.length - (i+1),by omega,⟨⟨i+1,rfl,by omega,rfl,g'⟩,t0',aC,t6'⟩⟩
 ·have d1:decide (i<xs.length)=false:=Zb hlt
  have:i=xs.length:=by omega
  subst this
  simp only[t6,t7,d1,ZH,D1,ZC,ZY,Z4]
  refine⟨_,_,_,rfl,?_⟩
  exact .inr ⟨by simp,rfl,g⟩
theorem Zg3(E:Env Zp fs fuel){sb vb:Nat}{src:AV}{xs:List (List AV)}(sl:Sl H0 7 src xs)(hn:xs.length<=9000){call:Nat->List AV->Heap->CR}{round:List AV->Heap->CR}(gv:H0.t.get vb=some (rH 71 [src]))(lvb:vb<H0.nx)
  (hy: ∀i G,i<xs.length->uI H0 sb xs i G-> ∃G',round [.agg (xs.getD i [])] G=.ret (.bool true) G'∧uI H0 sb xs (i+1) G')(g:uI H0 sb xs 0 H)(tm:TM)(x:X):
  ∃H',Lc fs fuel call (.func 85 [] [.ptr vb 0]) round tm H x=.ok .normal tm H' x∧uI H0 sb xs xs.length H':=by
 rw[mR E.f85]
 have k1:Zq H (H.new .loop) []:=Zq.new _ _ _
 have g1:=g.keep k1
 have gv1:(H.new .loop).t.get vb=some (rH 71 [src]):=by rw[g1.k.get _ lvb (by simp)];exact gv
 have el:=sl.len
 have hy': ∀i G,i<xs.length->uI H0 sb xs i G-> ∃G',(λl ys H'=>cond (Nat.beq l H.nx) (round ys H') CR.fail) H.nx [.agg (xs.getD i [])] G=.ret (.bool true) G'∧uI H0 sb xs (i+1) G':=λi G h1 h2=>by
  obtain⟨G',e,h3⟩:=hy i G h1 h2
  refine⟨G',?_,h3⟩
  show cond (Nat.beq H.nx H.nx) (round _ G) CR.fail=_
  rw[Z9];exact e
 generalize(λl ys H'=>cond (Nat.beq l H.nx) (round ys H') CR.fail)=Y at hy'
 simp(disch:=first|assumption|omega|(simp -implicitDefEqProofs only[ZQ,ZR]<;>first|assumption|omega)|decide) only[gv1,el,Z2,Xs,c85,ZC,ZY,Zw,Z4]
 generalize hL:XQ (D1 _) fuel _ _ _=L
 obtain⟨o,Tx,H1,rfl,_,rfl,g2⟩:=YA (P:=λT=>VI2 H0 sb H.nx src xs xs.length T (H.new .loop)) (Q:=λo tm' H'=>o=.exit 0∧uI H0 sb xs xs.length H')
  (λT hi'=>YK (VI2 H0 sb H.nx src xs) _ (λm tm H' h'=>ZcY sl hn hy' _ _ _ _ m tm H' h') fuel xs.length T _ (by have:=E.big;omega) hi') hL
  ⟨⟨0,rfl,Z8 _,rfl,g1⟩,rfl,rfl,rfl⟩
 simp only[ZC,Zz,]
 refine⟨_,rfl,?_⟩
 exact g2
theorem ZbA(E:Env Zp fs fuel){n0:Nat}{vb:Nat}{src:AV}{xs:List (List AV)}(sl:Sl H0 7 src xs)(hn:xs.length<=9000)(gv:H0.t.get vb=some (rH 71 [src]))(lvb:vb<H0.nx)
  (hx: ∀i,i<xs.length->(∀n,H0.nx<=n->U7 n (xs.getD i [])=true)∧XB (xs.getD i []) (xs.getD i [])=true)(k0:Zq H0 H [])(hro:H.ro<=H.nx):
  ∃v H',ZJ (LK Zp fs fuel k) fs fuel (n0+1) 97 [.nils,.func 85 [] [.ptr vb 0]] H=.ret v H'∧Zq H0 H' []∧VT H' v 77 7 xs (H.nx+1)∧H'.ro<=H'.nx:=by
 rw[ZL (ZF E.n97 (.inr rfl) _ _) E.f97]
 obtain⟨H1,hH1⟩:=XZ (H.new (rH 71 [.nils]))
 have U2:H1.nx=H.nx+1:=by rw[<-hH1];rfl
 have k1:Zq H0 H1 []:=by rw[<-hH1];exact k0.then_new _
 have g1:uI H0 H.nx xs 0 H1:=⟨k1,by omega,k0.nx,by rw[<-hH1];exact hro,.nils,by rw[<-hH1,Zx rfl],.inl ⟨rfl,rfl⟩⟩
 simp only[hH1,rl,c97,ZC,ZY,Zz,Z4]
 generalize hR:Lc fs fuel _ _ _ _ _ _=R
 obtain⟨H2,rfl,g2⟩: ∃H2,R=.ok .normal ((N8.u0 (N8.u0 (N8.u6 λ_=>.func 85 [] [.ptr vb 0])) (N8.u0 (N8.u0 (N8.u4 λ_=>.nils)) (N8.u0 (N8.u0 (N8.u2 λ_=>.ptr H.nx 0)) (N8.u0 (N8.u0 (N8.u1 λ_=>.func 85 [] [.ptr vb 0])) (N8.u0 (N8.u0 (N8.u0 λ_=>.nils)) ML)))))) H2 ⟨[],none⟩∧uI H0 H.nx xs xs.length H2:=by
  rw[<-hR]
  refine Zg3 E sl hn gv lvb (λi G hi g=>?_) g1 _ _
  obtain⟨v,h1,h2⟩:=g.ok
  have hx7:(xs.getD i []).length=7:=sl.each _ (by rw[Za,Zg hi];exact Y0 hi)
  obtain⟨tm',G',v',e,h3,h4,w⟩:=kp (C:=⟨ZJ (LK Zp fs fuel k) fs fuel n0,VY,VX,fuel,true⟩) (X0:=⟨[],none⟩) (tm:=(N8.u0 (N8.u0 (N8.u6 λ_=>.func 85 [] [.ptr vb 0])) (N8.u0 (N8.u0 (N8.u4 λ_=>.nils)) (N8.u0 (N8.u0 (N8.u2 λ_=>.ptr H.nx 0)) (N8.u0 (N8.u0 (N8.u1 λ_=>.func 85 [] [.ptr vb 0])) (N8.u0 (N8.u0 (N8.u0 λ_=>.nils)) ML)))))) (by rfl) h1 h2 g.low g.ro hx7 (λn hn'=>(hx i hi).1 n (Zn g.k.nx hn')) (hx i hi).2 (by rw[ZP];omega)
  refine⟨G',?_,?_⟩
  ·exact congrArg Le e
  ·exact⟨Below.keep g.k w g.hi,by have:=w.nx;have:=g.low;omega,g.hi,by rw[w.ro];exact g.ro,v',h3,by rw[TU hi []];exact h4⟩
 obtain⟨v,h1,h2⟩:=g2.ok
 rw[ZB (Zl _)] at h2
 simp only[h1,Z2,ZC,ZY,Zz,Zw,Z4]
 refine⟨_,_,rfl,g2.k,h2,?_⟩
 have:=g2.ro;have:=g2.low;omega
theorem Dm(h:n<9223372036854775808)(H:Heap):Gb .u64 (nI .i64 n) H=.val (nI .u64 n) H:=by
 unfold nI;rw[Gc,XY]
 show OR.val (.int .u64 (IntKind.u64.wrap (.ofNat n))) H=_
 rw[PZ,Z7 (by omega)]
theorem dC(E:Env Zp fs fuel)(hk:1<=k){x:Nat}(hx:x<18446744073709551616):ZJ (LK Zp fs fuel k) fs fuel (n+2) 99 [nI .u64 x] H=.ret (nI .i64 (RQ x)) H:=by
 rw[ZL (ZF E.n99 (.inr rfl) _ _) E.f99]
 have e:=λ{j}=>Zau (Zp:=Zp) (fs:=fs) (fuel:=fuel) E (k:=k) (n:=j) hk (x:=x) hx (H:=H)
 simp(maxSteps:=4000000) (disch:=first|assumption|omega|(simp -implicitDefEqProofs only[ZQ,ZR]<;>first|assumption|omega)|decide) only[e,c99,ZC,ZY,Zz,Zw,Zr,Zt,ZA,Nat.reduceEqDiff,reduceCtorEq,Z4]
theorem ZcZ(E:Env Zp fs fuel){src:AV}(hs:src.cells=[src]):ZJ (LK Zp fs fuel k) fs fuel (n+1) 66 [src] H=.ret (.func 85 [] [.ptr H.nx 0]) (H.new (rH 71 [src])):=by
 rw[ZL (ZF E.n66 (.inr rfl) _ _) E.f66]
 have bx:=DO hs 71 H
 simp(maxSteps:=4000000) (disch:=first|assumption|omega|(simp -implicitDefEqProofs only[ZQ,ZR]<;>first|assumption|omega)|decide) only[bx,c66,ZC,ZY,Zz,Zw,Zr,Zt,ZA,Nat.reduceEqDiff,reduceCtorEq,Z4]
structure eG(H0:Heap)(m:Nat)(tm:TM)(H:Heap):Prop where
 t8:Wc tm=nI .i64 1
 t2:Xy tm=nI .i64 0
 h:H=H0
theorem nf{C:Ctx}(x:X)(m:Nat)(tm:TM)(H:Heap)(h:eG H0 m tm H): ∃o tm' H',Oi C tm H x=.ok o tm' H' x∧((o=.normal∧ ∃q,q<m∧eG H0 q tm' H')∨(o≠.normal∧(o=.exit 0∧H'=H0))):=by
 obtain⟨t8,t2,rfl⟩:=h
 simp only[Jw,PN] at t8 t2
 have d1:decide (1<0)=false:=rfl
 simp(maxSteps:=4000000) (disch:=first|assumption|omega|(simp -implicitDefEqProofs only[ZQ,ZR]<;>first|assumption|omega)|decide) only[t2,t8,d1,ZH,Oi,ZC,ZY,Zz,Zw,Zr,Zt,ZA,Nat.reduceEqDiff,reduceCtorEq,Z4]
 refine⟨_,_,_,rfl,?_⟩
 exact .inr ⟨by simp,rfl,rfl⟩
theorem cu(E:Env Zp fs fuel){n0 f:Nat}:ZJ (LK Zp fs fuel k) fs fuel (n0+1) 106 [.nils,nI .i64 0,nI .i64 0,.func f [] []] H=.ret (.tup []) H:=by
 rw[ZL (ZF E.n106 (.inr rfl) _ _) E.f106]
 simp(maxSteps:=4000000) (disch:=first|assumption|omega|(simp -implicitDefEqProofs only[ZQ,ZR]<;>first|assumption|omega)|decide) only[YZ,Zs,oi,ZC,ZY,Zz,Zw,Zr,Zt,ZA,Nat.reduceEqDiff,reduceCtorEq,Z4]
 generalize hL:XQ (Oi _) fuel _ _ _=L
 obtain⟨o,Tx,H1,rfl,_,rfl,rfl⟩:=YA (P:=λT'=>eG H 0 T' H) (Q:=λo tm' H'=>o=.exit 0∧H'=H)
  (λT' hi'=>YK (eG H) _ (λm tm H' h'=>nf _ m tm H' h') fuel 0 T' H (by have:=E.big;omega) hi') hL ⟨rfl,rfl,rfl⟩
 simp(maxSteps:=4000000) (disch:=first|assumption|omega|(simp -implicitDefEqProofs only[ZQ,ZR]<;>first|assumption|omega)|decide) only[oi,ZC,ZY,Zz,Zw,Zr,Zt,ZA,Nat.reduceEqDiff,reduceCtorEq,Z4]
theorem bS(E:Env Zp fs fuel){n0 f lim:Nat}:ZJ (LK Zp fs fuel k) fs fuel (n0+2) 98 [.nils,nI .i64 0,nI .i64 0,nI .i64 lim,.func f [] []] H=.ret (.tup []) H:=by
 rw[ZL (ZF E.n98 (.inr rfl) _ _) E.f98]
 have e1:=cu E (k:=k) (n0:=n0) (f:=f) (H:=H)
 have d1:decide (0<=12)=true:=rfl
 simp(maxSteps:=4000000) (disch:=first|assumption|omega|(simp -implicitDefEqProofs only[ZQ,ZR]<;>first|assumption|omega)|decide) only[MN,aX,ZC,ZY,Zz,Zw,Zr,Zt,ZA,Nat.reduceEqDiff,reduceCtorEq,Z4]
 generalize hL:XQ (It _) fuel _ _ _=L
 obtain⟨tm',h⟩: ∃tm',L=.ok .ret tm' H ⟨[],none⟩:=by
  have hF:0<fuel:=by have:=E.big;omega
  refine FO hL hF ?_
  simp(maxSteps:=4000000) (disch:=first|assumption|omega|(simp -implicitDefEqProofs only[ZQ,ZR]<;>first|assumption|omega)|decide) only[d1,e1,Vj,Cd,T7,T6,It,ZC,ZY,Zz,Zw,Zr,Zt,ZA,Nat.reducePow,Nat.reduceDiv,Nat.reduceMod,Nat.reduceEqDiff,reduceCtorEq,Z4,WG,Rn,JH,E3]
  exact⟨_,rfl⟩
 subst h
 simp(maxSteps:=4000000) (disch:=first|assumption|omega|(simp -implicitDefEqProofs only[ZQ,ZR]<;>first|assumption|omega)|decide) only[MN,aX,ZC,ZY,Zz,Zw,Zr,Zt,ZA,Nat.reduceEqDiff,reduceCtorEq,Z4]
def Zdn(H0:Heap)(h:Nat)(M:List (List UInt8×JV))(v:AV)(H:Heap):Prop:=(M=[]∧v=.nils)∨(M≠[]∧ ∃b,v=.slice b 0 M.length none∧H0.nx<=b∧R9 H0 h b (VN NL M) H)
theorem Zgq(E:Env Zp fs fuel){n0 f:Nat}(hk:1<=k)(hf:Hf Zp fs fuel k f){lo:Nat}{v:AV}{ms:List (List AV)}{M:List (List UInt8×JV)}(hn:ka M)(hlo:H0.nx<=lo)(e:ms.length=M.length)(hE: ∀i,i<M.length->l9 H0 h (ms.getD i []) (M.getD i default))(k0:Zq H0 H [])(rb:VT H v 77 7 ms lo):
  ∃H',ZJ (LK Zp fs fuel k) fs fuel (n0+6) 84 [v,.func f [] []] H=.ret (.tup []) H'∧Zq H0 H' []∧Zdn H0 h M v H':=by
 rw[ZL (ZF E.n84 (.inr rfl) _ _) E.f84]
 have hn9:M.length<=40:=by rcases hn with h|⟨h,_⟩<;>omega
 have el:=rb.len
 rw[e] at el
 have eb:=λ{j}=>dC (Zp:=Zp) (fs:=fs) (fuel:=fuel) E (k:=k) (n:=j) hk (x:=M.length) (by omega) (H:=H)
 rcases rb with⟨h1,rfl⟩|⟨h1,b,r,rfl,hr,hb⟩
 ·subst h1
  have hM:M=[]:=YW.1 e.symm
  subst hM
  have ep:=λ{j}=>bS E (k:=k) (n0:=j) (f:=f) (lim:=RQ 0) (H:=H)
  simp only[Zv] at el eb
  simp(maxSteps:=4000000) (disch:=first|assumption|omega|(simp -implicitDefEqProofs only[ZQ,ZR]<;>first|assumption|omega)|decide) only[el,eb,ep,Dm,c84,ZC,ZY,Zz,Zw,Zr,Zt,ZA,Nat.reduceEqDiff,reduceCtorEq,Z4]
  refine⟨_,rfl,?_⟩
  exact⟨k0,.inl ⟨rfl,rfl⟩⟩
 ·have hM:M≠[]:=by rintro rfl;exact h1 (YW.1 e)
  rw[e] at el ⊢
  obtain⟨H1,ep,k1,sr⟩:=bR E (k:=k) (n0:=n0) (lim:=RQ M.length) (kw (Ws.2 hM)) (by have:=hr.ro;have:=hr.low;omega) hf (cp:=none) hn (Zn hlo hb) rfl k0 ⟨ms,r,hr,e,hE⟩
  simp(maxSteps:=4000000) (disch:=first|assumption|omega|(simp -implicitDefEqProofs only[ZQ,ZR]<;>first|assumption|omega)|decide) only[el,eb,ep,Dm,c84,ZC,ZY,Zz,Zw,Zr,Zt,ZA,Nat.reduceEqDiff,reduceCtorEq,Z4]
  refine⟨_,rfl,?_⟩
  exact⟨k1,.inr ⟨hM,b,rfl,Zn hlo hb,sr⟩⟩
theorem ay(E:Env Zp fs fuel){n0 f:Nat}(hk:1<=k)(hf:Hf Zp fs fuel k f){vb:Nat}{src:AV}{ms:List (List AV)}{M:List (List UInt8×JV)}(sl:Sl H 7 src ms)(gv:H.t.get vb=some (rH 71 [src]))(lvb:vb<H.nx)(hro:H.ro<=H.nx)
  (hn:ka M)(e:ms.length=M.length)(hE: ∀i,i<M.length->l9 H h (ms.getD i []) (M.getD i default)):
  ∃v H',ZJ (LK Zp fs fuel k) fs fuel (n0+7) 65 [.func 85 [] [.ptr vb 0],.func f [] []] H=.ret v H'∧Zq H H' []∧Zdn H h M v H':=by
 rw[ZL (ZF E.n65 (.inr rfl) _ _) E.f65]
 have hn9:M.length<=40:=by rcases hn with h|⟨h,_⟩<;>omega
 obtain⟨v,H1,e1,k1,rb,Rm⟩:=ZbA E (k:=k) (n0:=n0+4) sl (by omega) gv lvb (λi hi=>by
  obtain⟨_,t,e2,hv⟩:=hE i (by omega)
  rw[e2]
  exact⟨λn hn'=>hv.low hn',by unfold XB;rw[QR];exact hv.same⟩) (Zq.refl H []) hro
 have ec:ZJ (LK Zp fs fuel k) fs fuel (n0+6) 83 [.func 85 [] [.ptr vb 0]] H=.ret v H1:=by
  rw[ZL (ZF E.n83 (.inr rfl) _ _) E.f83]
  simp(maxSteps:=4000000) (disch:=first|assumption|omega|(simp -implicitDefEqProofs only[ZQ,ZR]<;>first|assumption|omega)|decide) only[e1,c83,ZC,ZY,Zz,Zw,Zr,Zt,ZA,Nat.reduceEqDiff,reduceCtorEq,Z4]
 obtain⟨H2,e2,k2,sr⟩:=Zgq E (k:=k) (n0:=n0) hk hf hn (XV _) e hE k1 rb
 simp(maxSteps:=4000000) (disch:=first|assumption|omega|(simp -implicitDefEqProofs only[ZQ,ZR]<;>first|assumption|omega)|decide) only[ec,e2,c65,ZC,ZY,Zz,Zw,Zr,Zt,ZA,Nat.reduceEqDiff,reduceCtorEq,Z4]
 refine⟨_,_,rfl,?_⟩
 exact⟨k2,sr⟩
end
end
end Go.AI
