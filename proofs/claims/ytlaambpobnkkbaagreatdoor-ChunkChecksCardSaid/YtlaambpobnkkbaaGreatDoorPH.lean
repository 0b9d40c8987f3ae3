/- An entry cut short, and as the document has it; the law: walked: proved without conditions but those that each names. -/
import Derived.Test.YtlaambpobnkkbaaGreatDoorPG
set_option maxRecDepth 1000000
set_option maxHeartbeats 0
set_option linter.unusedVariables false
set_option linter.unusedSimpArgs false
namespace Go.AI
open Go
noncomputable section
theorem DH(s:List UInt8)(k:Nat)(G:Heap):F4 (.str s) none (some (nI .i64 (min s.length k))) G=.val (.str (s.take k)) G:=by
 rw[N4 (PQ _ _)];congr 2;rw[Nat.min_comm,<-SH,Xg]
theorem R8{H:Heap}{w:AV}{e sz lo:Nat}{ls:List (List AV)}(h:RG H w e sz ls lo):(∀n,H.nx<=n->Wl n w=true)∧(∀n T,VS (.val w ⟨n,T,n⟩) w n=true)∧w.cells=[w]∧(∀b∈MC w,lo<=b∧b<H.nx):=by
 rcases h with⟨_,rfl⟩|⟨_,b0,r0,rfl,rc,hl⟩
 ·exact⟨λ_ _=>rfl,λn T=>Mo n T,rfl,λb hb=>by cases hb⟩
 ·exact⟨λn hn=>TO (by have:=rc.low;omega) _ _ _,λn T=>Ua ..,rfl,λb hb=>by rw[ZD.1 hb];exact⟨hl,rc.low⟩⟩
theorem lO(l:List NP)(p:NP):N0 (l++[p])=N0 l++[[.str p.1,.str p.2]]:=by unfold N0;rw[YA];rfl
theorem Sz.lt{H:Heap}{sz:Nat}{v:AV}{ls:List (List AV)}(h:Sz H sz v ls): ∀b∈MC v,b<H.nx:=by
 rcases h with⟨_,rfl⟩|⟨_,⟨_,rfl⟩|⟨b,o,c,rfl,hb,_⟩⟩
 ·intro b hb;cases hb
 ·intro b hb;cases hb
 ·intro b' hb';rw[ZD.1 hb'];exact hb
theorem Sz.move{H H':Heap}{sz:Nat}{v:AV}{ls:List (List AV)}{S:List Nat}(h:Sz H sz v ls)(k:Zw H H' S)(hS: ∀b∈MC v,b∉S):Sz H' sz v ls:=
 h.keep k λb o n c e=>hS b (by rw[e];exact ZD.2 rfl)
def DM(H:Heap)(S:List Nat)(cs:List AV)(e:V0):Prop:= ∃av dv cv,cs=[.str e.mem.path,.int .i64 e.mem.kind,nI .u32 e.mem.mode,nI .u32 e.mem.uid,nI .u32 e.mem.gid,.int .i64 e.mem.time,av,dv,.str e.mem.link,.int .i64 e.size,.int .i64 e.head,cv]∧Sz H 2 av (N0 e.mem.attrs)∧Sz H 1 dv (P8 e.mem.data)∧Sz H 35 cv (MF e.chunks)∧(∀b∈MC av,b∉S)∧(∀b∈MC dv,b∉S)∧ ∀b∈MC cv,b∉S
theorem DM.keep{H H':Heap}{S S':List Nat}{cs:List AV}{e:V0}(h:DM H S cs e)(k:Zw H H' S)(hS: ∀b∈S',b∈S∨H.nx<=b):DM H' S' cs e:=by
 obtain⟨av,dv,cv,e1,h1,h2,h3,o1,o2,o3⟩:=h
 have f: ∀{sz:Nat} {v:AV} {ls:List (List AV)},Sz H sz v ls->(∀b∈MC v,b∉S)-> ∀b∈MC v,b∉S':=λh o b hb hm=>by
  have:=h.lt b hb
  rcases hS b hm with h2|h2
  ·exact o b hb h2
  ·omega
 exact⟨av,dv,cv,e1,h1.move k o1,h2.move k o2,h3.move k o3,f h1 o1,f h2 o2,f h3 o3⟩
theorem Zw.more{H H':Heap}{S:List Nat}(k:Zw H H' []):Zw H H' S:=⟨k.nx,k.ro,λc hc _=>k.get c hc (by simp)⟩
theorem DM.toC{H:Heap}{S:List Nat}{cs:List AV}{e:V0}(h:DM H S cs e):JR H cs e:=by
 obtain⟨av,dv,cv,e1,h1,h2,h3,_⟩:=h
 exact⟨av,dv,cv,e1,h1,h2,h3⟩
theorem DM.len{H:Heap}{S:List Nat}{cs:List AV}{e:V0}(h:DM H S cs e):cs.length=12:=h.toC.len
theorem nt(l:List UInt8)(k:Nat):(P8 l).take k=P8 (l.take k):=by unfold P8;rw[List.map_take]
theorem nj(l:List I3)(k:Nat):(MF l).take k=MF (l.take k):=by unfold MF;rw[List.map_take]
theorem B1{α:Type}(l:List α)(k:Nat):l.take (min l.length k)=l.take k:=by
 rw[Nat.min_comm,<-SH,Xg]
theorem Zln{e sz:Nat}{zs x:List AV}(h1:1<=sz)(hz:zs.length=sz)(hx:x.length=sz)(G:Heap):S9 e sz 1 zs [(0,sz,.agg x)] G=.val (.slice G.nx 0 1 none) (G.new (rG e sz x 0 false true true)):=by
 rw[D3 h1 (by rw[hz,S2]),AO hx h1 (by omega),Fx]
 rw[CX _ _ _ (by omega),ZJ,ZQ,X8 (by omega),Yn]
 rfl
def pa(e:V0)(av dv cw:AV):Obj:=rG 42 1 [.str e.mem.path,.int .i64 e.mem.kind,nI .u32 e.mem.mode,nI .u32 e.mem.uid,nI .u32 e.mem.gid,.int .i64 e.mem.time,av,dv,.str e.mem.link,.int .i64 e.size,.int .i64 e.head,cw] 0 false true true
theorem ni(l:List I3)(x:I3):MF (l++[x])=MF l++[Ta x]:=by unfold MF;rw[YA];rfl
theorem RG.mv{H H':Heap}{w:AV}{e sz lo:Nat}{ls:List (List AV)}(h:RG H w e sz ls lo)(hk: ∀b∈MC w,H'.t.get b=H.t.get b)(hro:H'.ro=H.ro)(hn:H.nx<=H'.nx):RG H' w e sz ls lo:=by
 rcases h with hw|⟨h1,b0,r0,rfl,h3,h4⟩
 ·exact .inl hw
 ·exact .inr ⟨h1,b0,r0,rfl,h3.moved (hk _ (ZD.2 rfl)) hro hn,h4⟩
structure OCI(Hs:Heap)(q:Nat)(e:V0)(av dv cv w0 ev:AV)(len i:Nat)(l:List I3)(m:Nat)(tm:TM)(H:Heap):Prop where
 t6:Wm tm=.ptr q 0
 t3:Xx tm=w0
 t10:YB tm=ev
 t11:YN tm=nI .i64 len
 t12:Xj tm=nI .i64 i
 t24:Wz tm=cv
 t25:VX tm=nI .i64 l.length
 k: ∃k cw,VD tm=nI .i64 k∧k+m=l.length∧H.t.get q=some (pa e av dv cw)∧RG H cw 63 35 (MF (l.take k)) Hs.nx
 keep:Zw Hs H [q]
def OCQ(Hs:Heap)(q:Nat)(e:V0)(av dv w0 ev:AV)(len i:Nat)(l:List I3)(o:Out)(tm:TM)(H:Heap):Prop:=o=.exit 2∧Wm tm=.ptr q 0∧Xx tm=w0∧YB tm=ev∧YN tm=nI .i64 len∧Xj tm=nI .i64 i∧Zw Hs H [q]∧ ∃cw,H.t.get q=some (pa e av dv cw)∧RG H cw 63 35 (MF l) Hs.nx
theorem Zbw{Hs:Heap}{q:Nat}{e:V0}{av dv cv w0 ev:AV}{len i:Nat}{l:List I3}(hl:l.length<=90000)(hs: ∀x∈l,x.sum.length=32)(hro:Hs.ro<=q)(hq:q<Hs.nx)(hN: ∀H,Zw Hs H [q]->Sz H 35 cv (MF l))(cx:Ctx)(X0:X)(m:Nat)(tm:TM)(H:Heap)(hI:OCI Hs q e av dv cv w0 ev len i l m tm H):
  ∃o tm' H',wE cx tm H X0=.ok o tm' H' X0∧((o=.normal∧ ∃k,k<m∧OCI Hs q e av dv cv w0 ev len i l k tm' H')∨(o≠.normal∧OCQ Hs q e av dv w0 ev len i l o tm' H')):=by
 obtain⟨t6,t3,t10,t11,t12,t24,t25,⟨k,cw,t26,hkm,gq,hw⟩,k0⟩:=hI
 have oK:=t6;have My:=t3;have JZ:=t10;have NG:=t11;have G4:=t12;have Znt:=t24;have Znu:=t25
 simp only[NA] at t6
 simp only[HV] at t24
 simp only[CO] at t25
 simp only[zn] at t26
 have n0:=k0.nx
 have roH:H.ro<=q:=by rw[k0.ro];exact hro
 cases m with
 |zero=>
  have d1:decide (k<l.length)=false:=Zb (by omega)
  simp only[t25,t26,d1,Zv,wE,ZI,Yw,Yt]
  obtain rfl:k=l.length:=by omega
  rw[Xg] at hw
  refine⟨_,_,_,rfl,?_⟩
  exact .inr ⟨by simp,rfl,oK,My,JZ,NG,G4,k0,cw,gq,hw⟩
 |succ m=>
  have d1:decide (k<l.length)=true:=Zd (by omega)
  have hk:k<l.length:=by omega
  have hS:=hN H k0
  obtain⟨b,o,r,eI,hb,gb,eL,eE⟩:=hS.at_ (i:=k) (by rw[TG];omega)
  rw[Jy hk] at eL
  have hsum:(l.getD k default).sum.length=32:=hs _ (by rw[Ze,Zk hk];exact Xp hk)
  have htk:l.take (k+1)=l.take k++[l.getD k default]:=by
   rw[UB,Ze,Zk hk];rfl
  generalize hx:l.getD k default=x at*
  have xl:(Ta x).length=35:=by unfold Ta;simp[hsum]
  obtain⟨H1,hH1⟩: ∃G,H.new (rG 57 1 (Ta x) 0 false true true)=G:=⟨_,rfl⟩
  have k1:Zw H H1 []:=by rw[<-hH1];exact Zw.new _ _ _
  have sU:Zw Hs H1 [q]:=k0.trans k1 (by intro x hx;cases hx)
  have Lb:H1.nx=H.nx+1:=by rw[<-hH1];rfl
  have g1:H1.t.get H.nx=some (rG 57 1 (Ta x) 0 false true true):=by rw[<-hH1];exact Yi rfl _
  have sf:=U4 (n:=35) (b:=H.nx) (l:=z35) (vs:=Ta x) (H:=H.new (rG 57 1 z35 0 false true true)) Kh xl (by decide) (by show H.ro<=_;omega) 57 1 false true
  rw[Us rfl,hH1] at sf
  have gq1:H1.t.get q=some (pa e av dv cw):=by rw[k1.get _ (by omega) (by simp)];exact gq
  have lx: ∀G,wh 35 (some (rG 57 1 (Ta x) 0 false true true)) 0 G=.val (.agg (Ta x)) G:=λG=>by
   rw[Xo (by rw[xl];decide),Zz,Xq (by rw[xl];decide)]
  have w1:RG H1 cw 63 35 (MF (l.take k)) Hs.nx:=hw.mv (λb hb=>k1.get _ ((R8 hw).2.2.2 b hb).2 (by simp)) k1.ro k1.nx
  obtain⟨lw,sw,cww,bw⟩:=R8 w1
  obtain⟨w',H2,ea,w2,k2,hb2,n2⟩:=Br (bytes:=56) w1 (by decide) (by decide) (by rw[TG,ZW];omega) (by rw[sU.ro];omega) (by omega) (x:=Ta x) xl
  have bs:=λG=>Zln (e:=63) (sz:=35) (by decide) Kh xl G
  have gq2:H2.t.get q=some (pa e av dv cw):=by rw[k2.get _ (by omega) (λh=>by have:=(bw _ h).1;omega)];exact gq1
  have lq: ∀G,ld1 (some (pa e av dv cw)) 11 G=.val cw G:=λG=>by unfold pa;rw[Yf (show 11<12 by decide)];rfl
  obtain⟨_,_,cw',bw'⟩:=R8 w2
  have sq:tI 1 (some (pa e av dv cw)) q 11 w' H2=.val YS (H2.put q (pa e av dv w')):=by
   unfold pa
   rw[NF cw' (show 11<12 by decide) (by rw[k2.ro,sU.ro];exact hro) (Ym _)];rfl
  simp(disch:=omega) only[t6,t24,t25,t26,d1,eI,gb,eL,sf,g1,gq1,gq2,lx,lq,sq,bs,ea,X4,Zv,YU,Zf,Zf,wE,ZI,Yw,ZG,Yl,Yt,Vf]
  have kQ:Zw Hs (H2.put q (pa e av dv w')) [q]:=(sU.trans k2 (λx hx hlt=>by have:=(bw _ hx).1;omega)).then_put (λ_=>by simp)
  refine⟨_,_,_,rfl,.inl ⟨rfl,m,by omega,oK,My,JZ,NG,G4,Znt,Znu,⟨k+1,w',rfl,by omega,X9 ..,?_⟩,kQ⟩⟩
  rw[htk,ni]
  exact w2.mv (λb hb=>RU (λe=>by have:=(bw' b hb).1;omega) ..) rfl (Zo _)
structure OEI(H0:Heap)(ev:AV)(L:List V0)(m:Nat)(tm:TM)(H:Heap):Prop where
 t10:YB tm=ev
 t11:YN tm=nI .i64 L.length
 i: ∃i w Ls,Xj tm=nI .i64 i∧Xx tm=w∧i+m=L.length∧RG H w 42 12 Ls H0.nx∧Ls.length=i∧ ∀j,j<i->DM H (MC w) (Ls.getD j []) (L.getD j default)
 k:Zw H0 H []
def OEQ(H0:Heap)(L:List V0)(o:Out)(tm:TM)(H:Heap):Prop:=o=.exit 0∧Zw H0 H []∧ ∃w Ls,Xx tm=w∧Sz H 12 w Ls∧Ls.length=L.length∧ ∀j,j<L.length->DM H (MC w) (Ls.getD j []) (L.getD j default)
theorem Zbx{Zr:Lib}{fs:T CF}{fuel:Nat}(E:Env Zr fs fuel){ev:AV}{L:List V0}(hl:L.length<=90000)(hsh: ∀i,i<L.length->Oi (L.getD i default)){H0:Heap}(hro:H0.ro<=H0.nx)(hN:MV H0 ev L)(cl y f q)(X0:X)(m:Nat)(tm:TM)(H:Heap)(hI:OEI H0 ev L m tm H):
  ∃o tm' H',wF ⟨cl,y,f,fuel,q⟩ tm H X0=.ok o tm' H' X0∧((o=.normal∧ ∃k,k<m∧OEI H0 ev L k tm' H')∨(o≠.normal∧OEQ H0 L o tm' H')):=by
 obtain⟨t10,t11,⟨i,w,Ls,t12,t3,him,hw,hLs,hE⟩,kk⟩:=hI
 have JZ:=t10;have NG:=t11;have My:=t3;have G4:=t12
 simp only[UN] at t3
 simp only[Mm] at t10
 simp only[Sy] at t11
 simp only[OW] at t12
 have n0:=kk.nx
 have hroH:H.ro<=H0.nx:=by rw[kk.ro];exact hro
 cases m with
 |zero=>
  have d1:decide (i<L.length)=false:=Zb (by omega)
  simp only[t11,t12,d1,Zv,wF,ZI,Yw,Yt]
  obtain rfl:i=L.length:=by omega
  refine⟨_,_,_,rfl,?_⟩
  exact .inr ⟨by simp,rfl,kk,w,Ls,My,.inr (Sl.of_buf hw),hLs,hE⟩
 |succ m=>
  have d1:decide (i<L.length)=true:=Zd (by omega)
  have hi:i<L.length:=by omega
  obtain⟨La,hS0,hLl,hEA⟩:=hN
  have hS:=hS0.keep0 kk
  obtain⟨bb,o,r,eI,hb,gb,eL,eE⟩:=hS.at_ (i:=i) (by omega)
  have hEi:=hEA i hi
  have Zfd:=hsh i hi
  obtain⟨e,he⟩: ∃e,L.getD i default=e:=⟨_,rfl⟩
  rw[he] at hEi Zfd
  obtain⟨av,dv,cv,ecs,hA,hD,hC⟩:=hEi
  have ecs:La.getD i []=[.str e.mem.path,.int .i64 e.mem.kind,nI .u32 e.mem.mode,nI .u32 e.mem.uid,nI .u32 e.mem.gid,.int .i64 e.mem.time,av,dv,.str e.mem.link,.int .i64 e.size,.int .i64 e.head,cv]:=ecs
  rw[ecs] at eL
  obtain⟨H1,hH1⟩: ∃G,H.new (rG 31 1 [.str e.mem.path,.int .i64 e.mem.kind,nI .u32 e.mem.mode,nI .u32 e.mem.uid,nI .u32 e.mem.gid,.int .i64 e.mem.time,av,dv,.str e.mem.link,.int .i64 e.size,.int .i64 e.head,cv] 0 false true true)=G:=⟨_,rfl⟩
  have k1:Zw H H1 []:=by rw[<-hH1];exact Zw.new _ _ _
  have Lb:H1.nx=H.nx+1:=by rw[<-hH1];rfl
  have qa:H1.ro<=H1.nx:=by rw[k1.ro];omega
  have g5:H1.t.get H.nx=some (rG 31 1 [.str e.mem.path,.int .i64 e.mem.kind,nI .u32 e.mem.mode,nI .u32 e.mem.uid,nI .u32 e.mem.gid,.int .i64 e.mem.time,av,dv,.str e.mem.link,.int .i64 e.size,.int .i64 e.head,cv] 0 false true true):=by rw[<-hH1];exact Yi rfl _
  have sf:=U4 (n:=12) (b:=H.nx) (l:=[.str [],nI .i64 0,nI .u32 0,nI .u32 0,nI .u32 0,nI .i64 0,.nils,.nils,.str [],nI .i64 0,nI .i64 0,.nils]) (vs:=[.str e.mem.path,.int .i64 e.mem.kind,nI .u32 e.mem.mode,nI .u32 e.mem.uid,nI .u32 e.mem.gid,.int .i64 e.mem.time,av,dv,.str e.mem.link,.int .i64 e.size,.int .i64 e.head,cv]) (H:=H.new (rG 31 1 [.str [],nI .i64 0,nI .u32 0,nI .u32 0,nI .u32 0,nI .i64 0,.nils,.nils,.str [],nI .i64 0,nI .i64 0,.nils] 0 false true true)) rfl rfl (by decide) (by show H.ro<=_;omega) 31 1 false true
  rw[Us rfl,hH1] at sf
  have gz:=λ(ob:Obj)=>Yi (H:=H) rfl ob
  have b3: ∀G,PT [.str [],nI .i64 0,nI .u32 0,nI .u32 0,nI .u32 0,nI .i64 0,.nils,.nils,.str [],nI .i64 0,nI .i64 0,.nils] [(0,9,.agg [.str e.mem.path,.int .i64 e.mem.kind,nI .u32 e.mem.mode,nI .u32 e.mem.uid,nI .u32 e.mem.gid,.int .i64 e.mem.time,av,dv,.str e.mem.link]),(9,1,.int .i64 e.size),(10,1,.int .i64 e.head)] G=.val (.agg [.str e.mem.path,.int .i64 e.mem.kind,nI .u32 e.mem.mode,nI .u32 e.mem.uid,nI .u32 e.mem.gid,.int .i64 e.mem.time,av,dv,.str e.mem.link,.int .i64 e.size,.int .i64 e.head,.nils]) G:=λ_=>rfl
  obtain⟨Hs,hHs⟩: ∃G,H1.new (pa e av dv .nils)=G:=⟨_,rfl⟩
  have Zmi:H1.new (rG 42 1 [.str e.mem.path,.int .i64 e.mem.kind,nI .u32 e.mem.mode,nI .u32 e.mem.uid,nI .u32 e.mem.gid,.int .i64 e.mem.time,av,dv,.str e.mem.link,.int .i64 e.size,.int .i64 e.head,.nils] 0 false true true)=Hs:=hHs
  have ks:Zw H1 Hs []:=by rw[<-hHs];exact Zw.new _ _ _
  have nxs:Hs.nx=H.nx+1+1:=by rw[<-hHs,MM,Lb]
  have sg:=U4 (n:=12) (b:=H1.nx) (l:=[.str [],nI .i64 0,nI .u32 0,nI .u32 0,nI .u32 0,nI .i64 0,.nils,.nils,.str [],nI .i64 0,nI .i64 0,.nils]) (vs:=[.str e.mem.path,.int .i64 e.mem.kind,nI .u32 e.mem.mode,nI .u32 e.mem.uid,nI .u32 e.mem.gid,.int .i64 e.mem.time,av,dv,.str e.mem.link,.int .i64 e.size,.int .i64 e.head,.nils]) (H:=H1.new (rG 42 1 [.str [],nI .i64 0,nI .u32 0,nI .u32 0,nI .u32 0,nI .i64 0,.nils,.nils,.str [],nI .i64 0,nI .i64 0,.nils] 0 false true true)) rfl rfl (by decide) (by show H1.ro<=_;exact qa) 42 1 false true
  rw[Us rfl,Zmi] at sg
  have gm:=λ(ob:Obj)=>Yi (H:=H1) rfl ob
  have g5s:Hs.t.get H.nx=some (rG 31 1 [.str e.mem.path,.int .i64 e.mem.kind,nI .u32 e.mem.mode,nI .u32 e.mem.uid,nI .u32 e.mem.gid,.int .i64 e.mem.time,av,dv,.str e.mem.link,.int .i64 e.size,.int .i64 e.head,cv] 0 false true true):=by rw[<-hHs,NU (by omega)];exact g5
  have gqs:Hs.t.get H1.nx=some (pa e av dv .nils):=by rw[<-hHs];exact Yi rfl _
  have kHs:Zw H0 Hs []:=(kk.trans' k1).trans' ks
  have lcc:=λG=>hC.len G
  rw[TG] at lcc
  have hcl:=Zfd.chunks
  simp(disch:=first|assumption|omega|(simp -implicitDefEqProofs only[Y3,Y4]<;>first|assumption|omega)|decide) only[t10,t11,t12,d1,eI,gb,eL,gz,sf,g5,g5s,b3,sg,gm,lcc,Yf,Xo,Vl,Zy,ZH,Zv,Zj,Zf,Zf,Zj,Zz,ZA,ZJ,Zn,Zq,wF,ZI,Yw,Yt]
  generalize hL:XD (wE _) fuel _ _ _=Lp
  obtain⟨oc,Nb,H2,rfl,_,rfl,s6,s3,s10,s11,s12,k2,cw,gq2,hcw⟩:=YG (P:=λT=>OCI Hs H1.nx e av dv cv w ev L.length i e.chunks e.chunks.length T Hs) (Q:=OCQ Hs H1.nx e av dv w ev L.length i e.chunks)
   (λT hi=>YX (OCI Hs H1.nx e av dv cv w ev L.length i e.chunks) (OCQ Hs H1.nx e av dv w ev L.length i e.chunks) (λm tm H2 h=>Zbw hcl Zfd.sums (by rw[kHs.ro];omega) (by omega) (λG hG=>(hC.keep0 kHs).move hG (λb hb hm=>by have:=hC.lt b hb;rw[ZD.1 hm] at this;omega)) _ _ m tm H2 h) fuel e.chunks.length T Hs (by have:=E.big;omega) hi) hL
   (by exact⟨rfl,My,JZ,NG,G4,rfl,rfl,⟨0,.nils,rfl,by omega,gqs,.inl ⟨by unfold MF;simp,rfl⟩⟩,Zw.refl _ _⟩)
  have s3':=s3;have Zf6:=s10;have Zni:=s11;have s12':=s12
  simp only[NA] at s6
  simp only[UN] at s3
  simp only[OW] at s12
  have n2:=k2.nx
  obtain⟨lC,smC,cvCw,bwC⟩:=R8 hcw
  have lx: ∀G,wh 12 (some (pa e av dv cw)) 0 G=.val (.agg [.str e.mem.path,.int .i64 e.mem.kind,nI .u32 e.mem.mode,nI .u32 e.mem.uid,nI .u32 e.mem.gid,.int .i64 e.mem.time,av,dv,.str e.mem.link,.int .i64 e.size,.int .i64 e.head,cw]) G:=λG=>by unfold pa;rw[Xo (show 0+12<=12 by decide)];rfl
  have up: ∀{c},c<H.nx->H2.t.get c=H.t.get c:=λ{c} hc=>by
   rw[k2.get _ (by omega) (by simp;omega),ks.get _ (by omega) (by simp),k1.get _ hc (by simp)]
  have kV:Zw H H2 []:=⟨by omega,by rw[k2.ro,ks.ro,k1.ro],λc hc _=>up hc⟩
  obtain⟨lwA,swA,cwA,bwA⟩:=R8 hw
  have w4:RG H2 w 42 12 Ls H0.nx:=hw.mv (λb hb=>up (bwA b hb).2) kV.ro kV.nx
  obtain⟨w',H5,ea,w5,k5,hb5,n5⟩:=Br (bytes:=152) w4 (by decide) (by decide) (by omega) (by rw[kV.ro];omega) (by omega) (x:=[.str e.mem.path,.int .i64 e.mem.kind,nI .u32 e.mem.mode,nI .u32 e.mem.uid,nI .u32 e.mem.gid,.int .i64 e.mem.time,av,dv,.str e.mem.link,.int .i64 e.size,.int .i64 e.head,cw]) rfl
  have bs: ∀G,S9 42 12 1 [.str [],nI .i64 0,nI .u32 0,nI .u32 0,nI .u32 0,nI .i64 0,.nils,.nils,.str [],nI .i64 0,nI .i64 0,.nils] [(0,12,.agg [.str e.mem.path,.int .i64 e.mem.kind,nI .u32 e.mem.mode,nI .u32 e.mem.uid,nI .u32 e.mem.gid,.int .i64 e.mem.time,av,dv,.str e.mem.link,.int .i64 e.size,.int .i64 e.head,cw])] G=.val (.slice G.nx 0 1 none) (G.new (rG 42 12 [.str e.mem.path,.int .i64 e.mem.kind,nI .u32 e.mem.mode,nI .u32 e.mem.uid,nI .u32 e.mem.gid,.int .i64 e.mem.time,av,dv,.str e.mem.link,.int .i64 e.size,.int .i64 e.head,cw] 0 false true true)):=λ_=>rfl
  simp(disch:=omega) only[s3,s6,s12,gq2,lx,bs,ea,YU,ZI,Yw,Yl,Yt,Vf]
  have hS': ∀b∈MC w',b∈MC w∨H2.nx<=b:=λb hb=>.inr (hb5 b hb)
  have hnew:DM H2 (MC w) [.str e.mem.path,.int .i64 e.mem.kind,nI .u32 e.mem.mode,nI .u32 e.mem.uid,nI .u32 e.mem.gid,.int .i64 e.mem.time,av,dv,.str e.mem.link,.int .i64 e.size,.int .i64 e.head,cw] e:=by
   refine⟨av,dv,cw,rfl,hA.keep0 (kk.trans' kV),hD.keep0 (kk.trans' kV),.inr (Sl.of_buf hcw),λb hb hm=>?_,λb hb hm=>?_,λb hb hm=>?_⟩
   ·have:=hA.lt b hb;have:=(bwA b hm).1;omega
   ·have:=hD.lt b hb;have:=(bwA b hm).1;omega
   ·have:=(bwC b hb).1;have:=(bwA b hm).2;omega
  refine⟨_,_,_,rfl,.inl ⟨rfl,m,by omega,Zf6,Zni,⟨i+1,w',Ls++[[.str e.mem.path,.int .i64 e.mem.kind,nI .u32 e.mem.mode,nI .u32 e.mem.uid,nI .u32 e.mem.gid,.int .i64 e.mem.time,av,dv,.str e.mem.link,.int .i64 e.size,.int .i64 e.head,cw]],rfl,rfl,by omega,w5,by rw[ZE,hLs];rfl,λj hj=>?_⟩,?_⟩⟩
  ·refine DM.keep (S:=MC w) ?_ k5 hS'
   by_cases hj2:j<i
   ·have:=(hE j hj2).keep (S':=MC w) kV.more (λb hb=>.inl hb)
    rw[Ze,Z1 (by omega),<-Ze]
    exact this
   ·obtain rfl:j=i:=by omega
    rw[Ze,Z5 (by omega),hLs,Ti,he]
    exact hnew
  ·exact(kk.trans' kV).trans k5 (by intro x hx hlt;have:=(bwA x hx).1;omega)
theorem of_run{Zr:Lib}{fs:T CF}{fuel:Nat}(E:Env Zr fs fuel){k0 n:Nat}{ev:AV}{L:List V0}(hl:L.length<=90000)(hsh: ∀i,i<L.length->Oi (L.getD i default)){H:Heap}(hro:H.ro<=H.nx)(hN:MV H ev L):
  ∃w H',ZU (LK Zr fs fuel k0) fs fuel (n+1) 8 [.agg [ev]] H=.ret w H'∧MV H' w L∧Zw H H' []:=by
 rw[Z4 (Z3 E.n8 (.inr rfl) _ _) E.f8]
 have ln:=hN.len
 obtain⟨H1,hH1⟩: ∃G,H.new (oM ev)=G:=⟨_,rfl⟩
 have hb1:H.new (rG 47 1 [ev] 0 false true true)=H1:=hH1
 have k1:Zw H H1 []:=by rw[<-hH1];exact Zw.new _ _ _
 have g1:H1.t.get H.nx=some (oM ev):=by rw[<-hH1];exact Yi rfl _
 have lt0: ∀G,ld1 (some (oM ev)) 0 G=.val ev G:=λG=>by unfold oM;rw[Yf (Yo 0)];rfl
 simp(disch:=first|assumption|omega|(simp -implicitDefEqProofs only[Y3,Y4]<;>first|assumption|omega)|decide) only[XU,hb1,g1,lt0,ln,Zj,Zj,c8,ZI,Yw,Yt]
 generalize hL:XD (wF _) fuel _ _ _=Lp
 obtain⟨oc,Nb,H4,rfl,_,rfl,k4,w,Ls,t3,hS,hLs,hE⟩:=YG (P:=λT=>OEI H1 ev L L.length T H1) (Q:=OEQ H1 L)
  (λT hi=>YX (OEI H1 ev L) (OEQ H1 L) (λm tm H4 h=>Zbx E hl hsh (by rw[k1.ro];exact ZX hro k1.nx) (hN.keep k1) _ _ _ _ _ m tm H4 h) fuel L.length T H1 (by have:=E.big;omega) hi) hL
  (by exact⟨rfl,rfl,⟨0,.nils,[],rfl,rfl,by omega,.inl ⟨rfl,rfl⟩,rfl,λj hj=>by omega⟩,Zw.refl _ _⟩)
 simp only[UN] at t3
 simp only[t3,ZI,Yw,ZG,Yt,Vf]
 exact⟨_,_,rfl,⟨Ls,hS,hLs,λj hj=>(hE j hj).toC⟩,k1.trans' k4⟩
def ZhK(q:NP):NP:=(q.1.take 40,q.2.take 40)
def SJ(l:List NP):List NP:=(l.take 18).map ZhK
def mK(p:List UInt8)(kd:Int)(mo ui gi:Nat)(ti:Int)(dv:AV)(lk:List UInt8)(w:AV):Obj:=rG 28 1 [.str p,.int .i64 kd,nI .u32 mo,nI .u32 ui,nI .u32 gi,.int .i64 ti,w,dv,.str lk] 0 false true true
structure GAI(Hs:Heap)(q:Nat)(w0:AV)(p:List UInt8)(kd:Int)(mo ui gi:Nat)(ti:Int)(dv:AV)(lk:List UInt8)(ev av:AV)(len i:Nat)(l:List NP)(m:Nat)(tm:TM)(H:Heap):Prop where
 t5:YT tm=.ptr q 0
 t3:Xx tm=w0
 t9:WO tm=ev
 t10:YB tm=nI .i64 len
 t11:YN tm=nI .i64 i
 t54:Te tm=av
 t55:Qo tm=nI .i64 l.length
 k: ∃k w,SZ tm=nI .i64 k∧k+m=l.length∧H.t.get q=some (mK p kd mo ui gi ti dv lk w)∧RG H w 52 2 (N0 (SJ (l.take k))) Hs.nx
 keep:Zw Hs H [q]
def GAQ(Hs:Heap)(q:Nat)(w0:AV)(p:List UInt8)(kd:Int)(mo ui gi:Nat)(ti:Int)(dv:AV)(lk:List UInt8)(ev:AV)(len i:Nat)(l:List NP)(o:Out)(tm:TM)(H:Heap):Prop:=o=.exit 2∧YT tm=.ptr q 0∧Xx tm=w0∧WO tm=ev∧YB tm=nI .i64 len∧YN tm=nI .i64 i∧Zw Hs H [q]∧ ∃w,H.t.get q=some (mK p kd mo ui gi ti dv lk w)∧RG H w 52 2 (N0 (SJ l)) Hs.nx
theorem wt{l:List NP}{k:Nat}(hk:k<l.length)(h18:k<18):SJ (l.take (k+1))=SJ (l.take k)++[ZhK (l.getD k ([],[]))]:=by
 unfold SJ
 rw[SH,SH,U8 (by omega),U8 (by omega),UB,Zk hk,YA,Ze,Zk hk];rfl
theorem wu{l:List NP}{k:Nat}(h18:18<=k):SJ (l.take (k+1))=SJ (l.take k):=by
 unfold SJ
 rw[SH,SH,Wb (by omega),Wb (by omega)]
theorem D1(l:List NP):(SJ l).length<=18:=by unfold SJ;rw[Zp,ZW];omega
theorem Zan{Hs:Heap}{q:Nat}{w0:AV}{p:List UInt8}{kd:Int}{mo ui gi:Nat}{ti:Int}{dv:AV}{lk:List UInt8}{ev av:AV}{len i:Nat}{l:List NP}(hl:l.length<9223372036854775808)(hro:Hs.ro<=q)(hq:q<Hs.nx)(hN: ∀H,Zw Hs H [q]->Sz H 2 av (N0 l))(cx:Ctx)(X0:X)(m:Nat)(tm:TM)(H:Heap)(hI:GAI Hs q w0 p kd mo ui gi ti dv lk ev av len i l m tm H):
  ∃o tm' H',Az cx tm H X0=.ok o tm' H' X0∧((o=.normal∧ ∃k,k<m∧GAI Hs q w0 p kd mo ui gi ti dv lk ev av len i l k tm' H')∨(o≠.normal∧GAQ Hs q w0 p kd mo ui gi ti dv lk ev len i l o tm' H')):=by
 obtain⟨t5,t3,t9,t10,t11,t54,t55,⟨k,w,t56,hkm,gq,hw⟩,k0⟩:=hI
 have Dj:=t5;have My:=t3;have t9':=t9;have JZ:=t10;have NG:=t11;have Zj0:=t54;have Zj1:=t55
 simp only[Ss] at t5
 simp only[px] at t54
 simp only[py] at t55
 simp only[pz] at t56
 have n0:=k0.nx
 have roH:H.ro<=q:=by rw[k0.ro];exact hro
 cases m with
 |zero=>
  have d1:decide (k<l.length)=false:=Zb (by omega)
  simp only[t55,t56,d1,Zv,Az,ZI,Yw,Vf]
  obtain rfl:k=l.length:=by omega
  rw[Xg] at hw
  refine⟨_,_,_,rfl,?_⟩
  exact .inr ⟨by simp,rfl,Dj,My,t9',JZ,NG,k0,w,gq,hw⟩
 |succ m=>
  have d1:decide (k<l.length)=true:=Zd (by omega)
  have hk:k<l.length:=by omega
  have hS:=hN H k0
  obtain⟨b,o,r,eI,hb,gb,eL,eE⟩:=hS.at_ (i:=k) (by rw[QZ];omega)
  rw[Gz hk] at eL
  have hal:=λh18=>wt hk h18
  generalize hp:l.getD k ([],[])=a at*
  obtain⟨H1,hH1⟩: ∃G,H.new (rG 52 1 [.str a.1,.str a.2] 0 false true true)=G:=⟨_,rfl⟩
  have k1:Zw H H1 []:=by rw[<-hH1];exact Zw.new _ _ _
  have sU:Zw Hs H1 [q]:=k0.trans k1 (by intro x hx;cases hx)
  have Lb:H1.nx=H.nx+1:=by rw[<-hH1];rfl
  have g1:H1.t.get H.nx=some (rG 52 1 [.str a.1,.str a.2] 0 false true true):=by rw[<-hH1];exact Yi rfl _
  have gq1:H1.t.get q=some (mK p kd mo ui gi ti dv lk w):=by rw[k1.get _ (by omega) (by simp)];exact gq
  have sf:=U4 (n:=2) (b:=H.nx) (l:=[.str [],.str []]) (vs:=[.str a.1,.str a.2]) (H:=H.new (rG 52 1 [.str [],.str []] 0 false true true)) rfl rfl (by decide) (by show H.ro<=_;omega) 52 1 false true
  rw[Us rfl,hH1] at sf
  by_cases h18:k<18
  ·have d2:decide (k<18)=true:=Zd h18
   have hal:=hal h18
   have w1:RG H1 w 52 2 (N0 (SJ (l.take k))) Hs.nx:=by
    rcases hw with hw|⟨h1,b0,r0,h2,h3,h4⟩
    ·exact .inl hw
    ·exact .inr ⟨h1,b0,r0,h2,h3.moved (k1.get _ h3.low (by simp)) k1.ro k1.nx,h4⟩
   obtain⟨lw,sw,cw,bw⟩:=R8 w1
   obtain⟨w',H2,ea,w2,k2,hb2,n2⟩:=Br (bytes:=32) w1 (by decide) (by decide) (by rw[QZ];have:=D1 (l.take k);omega) (by rw[sU.ro];omega) (by omega) (x:=[.str (a.1.take 40),.str (a.2.take 40)]) rfl
   rw[Lb] at ea
   have bs: ∀G,S9 52 2 1 [.str [],.str []] [(0,2,.agg [.str (a.1.take 40),.str (a.2.take 40)])] G=.val (.slice G.nx 0 1 none) (G.new (rG 52 2 [.str (a.1.take 40),.str (a.2.take 40)] 0 false true true)):=λ_=>rfl
   have b2: ∀G,PT [.str [],.str []] [(0,1,.str (a.1.take 40)),(1,1,.str (a.2.take 40))] G=.val (.agg [.str (a.1.take 40),.str (a.2.take 40)]) G:=λ_=>rfl
   have gq2:H2.t.get q=some (mK p kd mo ui gi ti dv lk w):=by rw[k2.get _ (by omega) (λh=>by have:=(bw _ h).1;omega)];exact gq1
   have lq: ∀G,ld1 (some (mK p kd mo ui gi ti dv lk w)) 6 G=.val w G:=λG=>by unfold mK;rw[Yf (show 6<9 by decide)];rfl
   obtain⟨_,_,cw',bw'⟩:=R8 w2
   have sq:tI 1 (some (mK p kd mo ui gi ti dv lk w)) q 6 w' H2=.val YS (H2.put q (mK p kd mo ui gi ti dv lk w')):=by
    unfold mK
    rw[NF cw' (show 6<9 by decide) (by rw[k2.ro,sU.ro];exact hro) (Ym _)];rfl
   have t3a:=DH a.1 40
   have t3b:=DH a.2 40
   simp(disch:=first|assumption|omega|(simp -implicitDefEqProofs only[Y3,Y4]<;>first|assumption|omega)|decide) only[t5,t54,t55,t56,d1,eI,gb,eL,sf,g1,Yf,d2,gq1,gq2,lq,sq,sw,bs,b2,ea,t3a,t3b,Lb,Zv,YU,Z0,Nat.reduceAdd,decide_true,Zj,Zf,Zf,Zj,Wj,Zn,Zq,Ge,Az,ZI,Yw,ZG,Yl,Xm,XX,j8,Nat.reducePow,Nat.reduceDiv,Nat.reduceMod,Yt,Vf,PE]
   have kQ:Zw Hs (H2.put q (mK p kd mo ui gi ti dv lk w')) [q]:=(sU.trans k2 (λx hx hlt=>by have:=(bw _ hx).1;omega)).then_put (λ_=>by simp)
   refine⟨_,_,_,rfl,.inl ⟨rfl,m,by omega,Dj,My,t9',JZ,NG,Zj0,Zj1,⟨k+1,w',rfl,by omega,X9 ..,?_⟩,kQ⟩⟩
   rw[hal,lO]
   rcases w2 with hw2|⟨h1,b0,r0,h2,h3,h4⟩
   ·exact .inl hw2
   ·exact .inr ⟨h1,b0,r0,h2,h3.moved (RU (by omega) ..) rfl (Zo _),h4⟩
  ·have d2:decide (k<18)=false:=Zb h18
   simp(disch:=omega) only[t54,t55,t56,d1,eI,gb,eL,sf,d2,Zv,YU,Az,ZI,Yw,ZG,Yt,Vf,PE]
   refine⟨_,_,_,rfl,.inl ⟨rfl,m,by omega,Dj,My,t9',JZ,NG,Zj0,Zj1,⟨k+1,w,rfl,by omega,gq1,?_⟩,sU⟩⟩
   rw[wu (by omega)]
   rcases hw with hw|⟨h1,b0,r0,h2,h3,h4⟩
   ·exact .inl hw
   ·exact .inr ⟨h1,b0,r0,h2,h3.moved (k1.get _ h3.low (by simp)) k1.ro k1.nx,h4⟩
def nE(e:Mem):Mem:=⟨e.path.take 300,e.kind,e.mode,e.uid,e.gid,e.time,SJ e.attrs,e.data.take 300,e.link.take 300⟩
def Zeb(lo:Nat)(H:Heap)(cs:List AV)(m:Mem):Prop:= ∃av dv,cs=[.str m.path,.int .i64 m.kind,nI .u32 m.mode,nI .u32 m.uid,nI .u32 m.gid,.int .i64 m.time,av,dv,.str m.link]∧Sz H 2 av (N0 m.attrs)∧Sz H 1 dv (P8 m.data)∧(∀b∈MC av,lo<=b)∧ ∀b∈MC dv,lo<=b
def FMI(Hs:Heap)(ev:AV)(e:Mem)(m:Nat)(tm:TM)(H:Heap):Prop:=WO tm=ev∧YB tm=nI .i64 1∧((m=1∧H=Hs∧YN tm=nI .i64 0∧Xx tm=.nils)∨(m=0∧YN tm=nI .i64 1∧Zw Hs H []∧ ∃w cs,Xx tm=w∧Sl H 9 w [cs]∧Zeb Hs.nx H cs (nE e)))
def FMQ(Hs:Heap)(e:Mem)(o:Out)(tm:TM)(H:Heap):Prop:=o=.exit 0∧Zw Hs H []∧ ∃w cs,Xx tm=w∧Sl H 9 w [cs]∧Zeb Hs.nx H cs (nE e)
theorem Zak{Zr:Lib}{fs:T CF}{fuel:Nat}(E:Env Zr fs fuel){k0 n:Nat}{ev:AV}{cs:List AV}{e:Mem}(hat:e.attrs.length<9223372036854775808)(hfu:e.attrs.length<fuel){Hs:Heap}(hro:Hs.ro<=Hs.nx)(hV:Sl Hs 9 ev [cs])(hE:ae Hs cs e)(y f q)(X0:X)(m:Nat)(tm:TM)(H:Heap)(hI:FMI Hs ev e m tm H):
  ∃o tm' H',wD ⟨ZU (LK Zr fs fuel k0) fs fuel (n+1),y,f,fuel,q⟩ tm H X0=.ok o tm' H' X0∧((o=.normal∧ ∃k,k<m∧FMI Hs ev e k tm' H')∨(o≠.normal∧FMQ Hs e o tm' H')):=by
 obtain⟨t9,t10,z⟩:=hI
 have t9':=t9;have JZ:=t10
 simp only[FF] at t9
 simp only[Mm] at t10
 rcases z with⟨rfl,rfl,t11,t3⟩|⟨rfl,t11,k0_,w,cs',t3,hw,hm⟩
 ·have NG:=t11;have My:=t3
  simp only[Sy] at t11
  simp only[UN] at t3
  have d1:decide (0<1)=true:=rfl
  obtain⟨bb,o,r,eI,hb,gb,eL,eE⟩:=hV.at_ (i:=0) (Yo 0)
  have eL: ∀G,wh 9 (some (.row r)) o G=.val (.agg cs) G:=eL
  obtain⟨av,dv,ecs,hA,hD⟩:=hE
  rw[ecs] at eL
  obtain⟨H1,hH1⟩: ∃G,H.new (rG 28 1 [.str e.path,.int .i64 e.kind,nI .u32 e.mode,nI .u32 e.uid,nI .u32 e.gid,.int .i64 e.time,av,dv,.str e.link] 0 false true true)=G:=⟨_,rfl⟩
  have k1:Zw H H1 []:=by rw[<-hH1];exact Zw.new _ _ _
  have Lb:H1.nx=H.nx+1:=by rw[<-hH1];rfl
  have g5:H1.t.get H.nx=some (rG 28 1 [.str e.path,.int .i64 e.kind,nI .u32 e.mode,nI .u32 e.uid,nI .u32 e.gid,.int .i64 e.time,av,dv,.str e.link] 0 false true true):=by rw[<-hH1];exact Yi rfl _
  have sf:=U4 (n:=9) (b:=H.nx) (l:=[.str [],nI .i64 0,nI .u32 0,nI .u32 0,nI .u32 0,nI .i64 0,.nils,.nils,.str []]) (vs:=[.str e.path,.int .i64 e.kind,nI .u32 e.mode,nI .u32 e.uid,nI .u32 e.gid,.int .i64 e.time,av,dv,.str e.link]) (H:=H.new (rG 28 1 [.str [],nI .i64 0,nI .u32 0,nI .u32 0,nI .u32 0,nI .i64 0,.nils,.nils,.str []] 0 false true true)) rfl rfl (by decide) (by show H.ro<=_;exact hro) 28 1 false true
  rw[Us rfl,hH1] at sf
  obtain⟨dv2,sd,hd2⟩:=hD.2 (min e.data.length 300) (by rw[TI];exact PQ _ _)
  rw[nt,B1] at hd2
  have sd1: ∀n m,Pp 1 dv none (some (nI .i64 (min e.data.length 300))) ⟨n,H1.t,m⟩=.val dv2 ⟨n,H1.t,m⟩:=λn m=>sd _ λc hc=>k1.get c hc (by simp)
  have ldd:=λG=>hD.1.len G
  rw[TI] at ldd
  have laa:=λG=>hA.1.len G
  rw[QZ] at laa
  have tk1:=DH e.path 300
  have tk2:=DH e.link 300
  have Zmr:Sz H1 1 dv2 (P8 (e.data.take 300)):=hd2.keep0 k1
  obtain⟨Lv,H2,e5,qQ,k2,nC⟩:=yK E (k:=k0) (n:=n) Zmr (by rw[ZW];omega)
  have n2:=k2.nx
  have g52:H2.t.get H.nx=some (rG 28 1 [.str e.path,.int .i64 e.kind,nI .u32 e.mode,nI .u32 e.uid,nI .u32 e.gid,.int .i64 e.time,av,dv,.str e.link] 0 false true true):=by rw[k2.get _ (by omega) (by simp)];exact g5
  have ro2:H2.ro<=H.nx:=by rw[k2.ro,k1.ro];exact hro
  have st0: ∀(l:List AV) (j:Nat) (v:AV),v.cells=[v]->j<l.length->tI 1 (some (rG 28 1 l 0 false true true)) H.nx j v H2=.val YS (H2.put H.nx (rG 28 1 (l.set j v) 0 false true true)):=λl j v hv hj=>by
   rw[NF hv hj (by omega) (Ym _)]
  have st1: ∀(l:List AV) (j:Nat) (v:AV),v.cells=[v]->j<l.length->tI 1 (some (rG 28 1 l 0 false true true)) H.nx j v (H2.put H.nx (rG 28 1 l 0 false true true))=.val YS (H2.put H.nx (rG 28 1 (l.set j v) 0 false true true)):=λl j v hv hj=>by
   rw[NF hv hj (by rw[xT];omega) (Ym _),xS]
  have gp: ∀ob,(H2.put H.nx ob).t.get H.nx=some ob:=λob=>X9 ..
  have cv3:Lv.cells=[Lv]:=(Hj qQ λb o n c h=>(nC b o n c h).2).cells
  have hS3:Sz H2 1 Lv (P8 (e.data.take 300)):=Hj qQ λb o n c h=>(nC b o n c h).2
  have hdl:=(hD.1.keep0 k1).low (n:=H1.nx) (Zo _)
  have hds:=hD.1.same
  have hd2s:=hd2.same
  have mJ:=λo=>Wj (n:=H1.nx) (b:=H.nx) (by omega) o
  have lp2:=λo=>Wj (n:=H2.nx) (b:=H.nx) (by omega) o
  obtain⟨H3,hH3⟩: ∃G,H2.put H.nx (rG 28 1 [.str (e.path.take 300),.int .i64 e.kind,nI .u32 e.mode,nI .u32 e.uid,nI .u32 e.gid,.int .i64 e.time,.nils,Lv,.str (e.link.take 300)] 0 false true true)=G:=⟨_,rfl⟩
  have k23:Zw H2 H3 [H.nx]:=by rw[<-hH3];exact Zw.put λ_=>by simp
  have kH3:Zw H H3 []:=by rw[<-hH3];exact(k1.trans' k2).then_put λh=>by omega
  have n3:H3.nx=H2.nx:=by rw[<-hH3,Nn]
  have g53:H3.t.get H.nx=some (mK (e.path.take 300) e.kind e.mode e.uid e.gid e.time Lv (e.link.take 300) .nils):=by rw[<-hH3];exact X9 ..
  simp(disch:=first|assumption|omega|(simp -implicitDefEqProofs only[Y3,Y4]<;>first|assumption|omega)|decide) only[t9,t10,t11,d1,eI,gb,eL,sf,g5,g52,Yf,sd1,ldd,laa,tk1,tk2,e5,st0,st1,gp,hH3,hdl,hds,hd2s,mJ,lp2,Zv,YW,Z0,Nat.reduceAdd,decide_true,decide_false,Zj,Zf,Zf,Zj,Zn,Zq,Ge,wD,ZI,Yw,ZG,Yl,Xm,XX,Nat.reducePow,Nat.reduceDiv,Nat.reduceMod,reduceCtorEq,Yt,Vf]
  generalize hL:XD (Az _) fuel _ _ _=Lp
  obtain⟨oc,Nb,H4,rfl,_,rfl,s5,s3,s9,s10,s11,k4,w9,gq4,hw9⟩:=YG (P:=λT=>GAI H3 H.nx .nils (e.path.take 300) e.kind e.mode e.uid e.gid e.time Lv (e.link.take 300) ev av 1 0 e.attrs e.attrs.length T H3) (Q:=GAQ H3 H.nx .nils (e.path.take 300) e.kind e.mode e.uid e.gid e.time Lv (e.link.take 300) ev 1 0 e.attrs)
   (λT hi=>YX (GAI H3 H.nx .nils (e.path.take 300) e.kind e.mode e.uid e.gid e.time Lv (e.link.take 300) ev av 1 0 e.attrs) (GAQ H3 H.nx .nils (e.path.take 300) e.kind e.mode e.uid e.gid e.time Lv (e.link.take 300) ev 1 0 e.attrs) (λm tm H4 h=>Zan hat (by rw[kH3.ro];exact hro) (by omega) (λG hG=>(hA.1.keep0 kH3).move hG (λb hb hm=>by have:=hA.1.lt b hb;rw[ZD.1 hm] at this;omega)) _ _ m tm H4 h) fuel e.attrs.length T H3 hfu hi) hL
   (by exact⟨rfl,My,t9',JZ,NG,rfl,rfl,⟨0,.nils,rfl,by omega,g53,.inl ⟨by unfold SJ N0;simp,rfl⟩⟩,Zw.refl _ _⟩)
  have s9':=s9;have Zf6:=s10
  simp only[Ss] at s5
  simp only[UN] at s3
  simp only[Sy] at s11
  have n4:=k4.nx
  have lq9: ∀G,wh 9 (some (mK (e.path.take 300) e.kind e.mode e.uid e.gid e.time Lv (e.link.take 300) w9)) 0 G=.val (.agg [.str (e.path.take 300),.int .i64 e.kind,nI .u32 e.mode,nI .u32 e.uid,nI .u32 e.gid,.int .i64 e.time,w9,Lv,.str (e.link.take 300)]) G:=λG=>by unfold mK;rw[Xo (show 0+9<=9 by decide)];rfl
  have kH4:Zw H H4 []:=kH3.trans k4 (by intro x hx hlt;rw[ZD.1 hx] at hlt;omega)
  have bs:=λ(G:Heap)=>jo (e:=28) (sz:=9) (zs:=[.str [],nI .i64 0,nI .u32 0,nI .u32 0,nI .u32 0,nI .i64 0,.nils,.nils,.str []]) (x:=[.str (e.path.take 300),.int .i64 e.kind,nI .u32 e.mode,nI .u32 e.uid,nI .u32 e.gid,.int .i64 e.time,w9,Lv,.str (e.link.take 300)]) (by decide) rfl rfl G
  obtain⟨v',H5,ea,w5,k5,hb5,n5⟩:=Br (bytes:=112) (e:=28) (sz:=9) (lo:=H4.nx) (ls:=[]) (v:=.nils) (H:=H4) (.inl ⟨rfl,rfl⟩) (by decide) (by decide) (by show(0+1)*112<=_;decide) (by rw[kH4.ro];omega) (Zo _) (x:=[.str (e.path.take 300),.int .i64 e.kind,nI .u32 e.mode,nI .u32 e.uid,nI .u32 e.gid,.int .i64 e.time,w9,Lv,.str (e.link.take 300)]) rfl
  have k5:Zw H4 H5 []:=k5
  simp only[s5,s3,s11,gq4,lq9,bs,ea,Z9,Wn,Zy,ZH,YU,Zf,Zf,ZI,Yw,Yt,PE]
  have hd4:Sz H4 1 Lv (P8 (e.data.take 300)):=(hS3.move k23 (λb hb hm=>by
   rw[ZD.1 hm] at hb
   cases Lv with
   |slice b o n c=>have:=(nC b o n c rfl).1;have hb:H.nx=b:=ZD.1 hb;omega
   |_=>cases hb)).move k4 (λb hb hm=>by
   rw[ZD.1 hm] at hb
   cases Lv with
   |slice b o n c=>have:=(nC b o n c rfl).1;have hb:H.nx=b:=ZD.1 hb;omega
   |_=>cases hb)
  exact⟨_,_,_,rfl,.inl ⟨rfl,0,by omega,s9',Zf6,.inr ⟨rfl,rfl,kH4.trans' k5,v',[.str (e.path.take 300),.int .i64 e.kind,nI .u32 e.mode,nI .u32 e.uid,nI .u32 e.gid,.int .i64 e.time,w9,Lv,.str (e.link.take 300)],rfl,Sl.of_buf w5,w9,Lv,rfl,(show Sz H4 2 w9 _ from .inr (Sl.of_buf hw9)).keep0 k5,hd4.keep0 k5,(λb hb=>by have:=((R8 hw9).2.2.2 b hb).1;omega),λb hb=>by
   cases Lv with
   |slice b' o n c=>have:=(nC b' o n c rfl).1;have hb:b=b':=ZD.1 hb;omega
   |_=>cases hb⟩⟩⟩
 ·have My:=t3
  simp only[Sy] at t11
  have d1:decide (1<1)=false:=rfl
  simp only[t10,t11,Zv,XT,decide_false,wD,ZI,Yw,Yt,]
  refine⟨_,_,_,rfl,?_⟩
  exact .inr ⟨by simp,rfl,k0_,w,cs',My,hw,hm⟩
theorem j6{Zr:Lib}{fs:T CF}{fuel:Nat}(E:Env Zr fs fuel){k0 n:Nat}{ev:AV}{cs:List AV}{e:Mem}(hat:e.attrs.length<9223372036854775808)(hfu:e.attrs.length<fuel){H:Heap}(hro:H.ro<=H.nx)(hV:Sl H 9 ev [cs])(hE:ae H cs e):
  ∃w H' cs',ZU (LK Zr fs fuel k0) fs fuel (n+2) 4 [ev] H=.ret w H'∧Zw H H' []∧Sl H' 9 w [cs']∧Zeb H.nx H' cs' (nE e):=by
 rw[Z4 (Z3 E.n4 (.inr rfl) _ _) E.f4]
 have hf:=E.big
 have ln: ∀G,Oy ev G=.val (nI .i64 1) G:=λG=>hV.len G
 simp only[ln,c4,ZI,Yw,Yt]
 generalize hL:XD (wD _) fuel _ _ _=Lp
 obtain⟨oc,Nb,H1,rfl,_,rfl,k1,w,cs',t3,hw,hm⟩:=YG (P:=λT=>FMI H ev e 1 T H) (Q:=FMQ H e)
  (λT hi=>YX (FMI H ev e) (FMQ H e) (λm tm H3 h=>Zak E hat hfu hro hV hE _ _ _ _ m tm H3 h) fuel 1 T H (by omega) hi) hL
  (by exact⟨rfl,rfl,.inl ⟨rfl,rfl,rfl,rfl⟩⟩)
 simp only[UN] at t3
 simp only[t3,ZI,Yw,ZG,Yt,PE]
 exact⟨_,_,cs',rfl,k1,hw,hm⟩
structure ZgV(H:Heap)(v:AV)(l:List UInt8):Prop where
 len: ∀G,Oy v G=.val (nI .i64 l.length) G
 cut: ∀k,k<=l.length-> ∃v',(∀G:Heap,(∀c,c<H.nx->G.t.get c=H.t.get c)->Pp 1 v none (some (nI .i64 k)) G=.val v' G)∧((l.take k=[]∧v'=.slice0)∨BV H v' (l.take k))∧ ∀b o n c,v'=.slice b o n c->b<H.nx
def cutE(e:V0):V0:=⟨nE e.mem,e.size,e.head,e.chunks.take 20⟩
theorem so{e:V0}(h:yC e):Oi (cutE e):=by
 refine⟨⟨by show(e.mem.path.take 300).length<=_;rw[ZW];omega,by show(SJ e.mem.attrs).length<=_;have:=D1 e.mem.attrs;omega,λi hi=>?_⟩,by show(e.chunks.take 20).length<=_;rw[ZW];omega,λx hx=>(h.chunks x (VO hx)).sum⟩
 have hm:(SJ e.mem.attrs).getD i ([],[])∈SJ e.mem.attrs:=by
  have hi:i<(SJ e.mem.attrs).length:=hi
  rw[Ze,Zk hi];exact Xp hi
 unfold SJ at hm
 obtain⟨a,_,ha⟩:=YV.1 hm
 show((SJ e.mem.attrs).getD i ([],[])).1.length<=_
 unfold SJ
 rw[<-ha]
 show(a.1.take 40).length<=_
 rw[ZW];omega
theorem Za5{Zr:Lib}{fs:T CF}{fuel:Nat}(E:Env Zr fs fuel){n:Nat}{cs:List AV}{e:V0}{kk:Int}{bv:AV}{l:List UInt8}{H:Heap}(gP:PM H)(hE:ZgZ H cs e)(hok:yC e)(hat:e.mem.attrs.length<9223372036854775808)(hfu:e.mem.attrs.length<fuel)(hB:ZgV H bv l)
  (hsum: ∀G v' l',Zw H G []->BV G v' l'->l'.length<=1200->(∀b o n c,v'=.slice b o n c->b<G.nx)->Zr 15 [v'] G=some (.ret (.agg ((Sx l').map XP)) G))
  (hwk: ∀G,Zw H G []->Zr 10 [] G=some (.ret (.bool true) G)):
  ∃H',ZU (LK Zr fs fuel 15) fs fuel (n+6) 3 [.agg cs,.int .i64 kk,bv] H=.ret (.bool true) H':=by
 rw[Z4 (Z3 E.n3 (.inr rfl) _ _) E.f3]
 have hro:=gP.ro
 obtain⟨ms,cv,ecs,hMA,hC⟩:=hE
 obtain⟨av,dv,ems,hA,hD⟩:=hMA
 subst ems
 have ecs:cs=[.str e.mem.path,.int .i64 e.mem.kind,nI .u32 e.mem.mode,nI .u32 e.mem.uid,nI .u32 e.mem.gid,.int .i64 e.mem.time,av,dv,.str e.mem.link,.int .i64 e.size,.int .i64 e.head,cv]:=ecs
 subst ecs
 obtain⟨H1,hH1⟩: ∃G,H.new (rG 31 1 [.str e.mem.path,.int .i64 e.mem.kind,nI .u32 e.mem.mode,nI .u32 e.mem.uid,nI .u32 e.mem.gid,.int .i64 e.mem.time,av,dv,.str e.mem.link,.int .i64 e.size,.int .i64 e.head,cv] 0 false true true)=G:=⟨_,rfl⟩
 have bx: ∀G,Ac 31 (.agg [.str e.mem.path,.int .i64 e.mem.kind,nI .u32 e.mem.mode,nI .u32 e.mem.uid,nI .u32 e.mem.gid,.int .i64 e.mem.time,av,dv,.str e.mem.link,.int .i64 e.size,.int .i64 e.head,cv]) G=.val (.ptr G.nx 0) (G.new (rG 31 1 [.str e.mem.path,.int .i64 e.mem.kind,nI .u32 e.mem.mode,nI .u32 e.mem.uid,nI .u32 e.mem.gid,.int .i64 e.mem.time,av,dv,.str e.mem.link,.int .i64 e.size,.int .i64 e.head,cv] 0 false true true)):=λG=>XU (l:=[.str e.mem.path,.int .i64 e.mem.kind,nI .u32 e.mem.mode,nI .u32 e.mem.uid,nI .u32 e.mem.gid,.int .i64 e.mem.time,av,dv,.str e.mem.link,.int .i64 e.size,.int .i64 e.head,cv]) (show 1<=12 by decide) 31 G
 have k1:Zw H H1 []:=by rw[<-hH1];exact Zw.new _ _ _
 have Lb:H1.nx=H.nx+1:=by rw[<-hH1];rfl
 have g1:H1.t.get H.nx=some (rG 31 1 [.str e.mem.path,.int .i64 e.mem.kind,nI .u32 e.mem.mode,nI .u32 e.mem.uid,nI .u32 e.mem.gid,.int .i64 e.mem.time,av,dv,.str e.mem.link,.int .i64 e.size,.int .i64 e.head,cv] 0 false true true):=by rw[<-hH1];exact Yi rfl _
 have lb:=hB.len
 obtain⟨v2,sl,hv2,wR⟩:=hB.cut (min l.length 1200) (PQ _ _)
 rw[B1] at hv2
 have sl1:=sl H1 λc hc=>k1.get c hc (by simp)
 obtain⟨H2,hH2⟩: ∃G,H1.new (rG 28 9 [.str e.mem.path,.int .i64 e.mem.kind,nI .u32 e.mem.mode,nI .u32 e.mem.uid,nI .u32 e.mem.gid,.int .i64 e.mem.time,av,dv,.str e.mem.link] 0 false true true)=G:=⟨_,rfl⟩
 have bs1:=λ(G:Heap)=>jo (e:=28) (sz:=9) (zs:=[.str [],nI .i64 0,nI .u32 0,nI .u32 0,nI .u32 0,nI .i64 0,.nils,.nils,.str []]) (x:=[.str e.mem.path,.int .i64 e.mem.kind,nI .u32 e.mem.mode,nI .u32 e.mem.uid,nI .u32 e.mem.gid,.int .i64 e.mem.time,av,dv,.str e.mem.link]) (by decide) rfl rfl G
 have k12:Zw H1 H2 []:=by rw[<-hH2];exact Zw.new _ _ _
 have k2:Zw H H2 []:=k1.trans' k12
 have nx2:H2.nx=H1.nx+1:=by rw[<-hH2];rfl
 have g2:H2.t.get H1.nx=some (rG 28 9 [.str e.mem.path,.int .i64 e.mem.kind,nI .u32 e.mem.mode,nI .u32 e.mem.uid,nI .u32 e.mem.gid,.int .i64 e.mem.time,av,dv,.str e.mem.link] 0 false true true):=by rw[<-hH2];exact Yi rfl _
 have hV2:Sl H2 9 (.slice H1.nx 0 1 none) [[.str e.mem.path,.int .i64 e.mem.kind,nI .u32 e.mem.mode,nI .u32 e.mem.uid,nI .u32 e.mem.gid,.int .i64 e.mem.time,av,dv,.str e.mem.link]]:=Sl.of_rG (ls:=[[.str e.mem.path,.int .i64 e.mem.kind,nI .u32 e.mem.mode,nI .u32 e.mem.uid,nI .u32 e.mem.gid,.int .i64 e.mem.time,av,dv,.str e.mem.link]]) g2 (by omega) (λl hl=>by rw[ZD.1 hl];rfl)
 obtain⟨w3,H3,cs3,e3,k23,hw3,hm3⟩:=j6 E (k0:=15) (n:=n+3) hat hfu (by rw[k2.ro];exact ZX hro k2.nx) hV2 (e:=e.mem) ⟨av,dv,rfl,hA.keep k2,hD.keep k2⟩
 obtain⟨Aw,Lv,Zeu,hA3,hD3,oA3,oD3⟩:=hm3
 have Zeu:cs3=[.str (e.mem.path.take 300),.int .i64 e.mem.kind,nI .u32 e.mem.mode,nI .u32 e.mem.uid,nI .u32 e.mem.gid,.int .i64 e.mem.time,Aw,Lv,.str (e.mem.link.take 300)]:=Zeu
 subst Zeu
 have k3:Zw H H3 []:=k2.trans' k23
 have n23:=k23.nx
 obtain⟨b3,o3,r3,eI3,hb3,bW,eL3,_⟩:=hw3.at_ (i:=0) (Yo 0)
 have eL3: ∀G,wh 9 (some (.row r3)) o3 G=.val (.agg [.str (e.mem.path.take 300),.int .i64 e.mem.kind,nI .u32 e.mem.mode,nI .u32 e.mem.uid,nI .u32 e.mem.gid,.int .i64 e.mem.time,Aw,Lv,.str (e.mem.link.take 300)]) G:=eL3
 have g13:H3.t.get H.nx=some (rG 31 1 [.str e.mem.path,.int .i64 e.mem.kind,nI .u32 e.mem.mode,nI .u32 e.mem.uid,nI .u32 e.mem.gid,.int .i64 e.mem.time,av,dv,.str e.mem.link,.int .i64 e.size,.int .i64 e.head,cv] 0 false true true):=by rw[k23.get _ (by omega) (by simp),k12.get _ (by omega) (by simp)];exact g1
 have Uh:tI 9 (some (rG 31 1 [.str e.mem.path,.int .i64 e.mem.kind,nI .u32 e.mem.mode,nI .u32 e.mem.uid,nI .u32 e.mem.gid,.int .i64 e.mem.time,av,dv,.str e.mem.link,.int .i64 e.size,.int .i64 e.head,cv] 0 false true true)) H.nx 0 (.agg [.str (e.mem.path.take 300),.int .i64 e.mem.kind,nI .u32 e.mem.mode,nI .u32 e.mem.uid,nI .u32 e.mem.gid,.int .i64 e.mem.time,Aw,Lv,.str (e.mem.link.take 300)]) H3=.val YS (H3.put H.nx (rG 31 1 [.str (e.mem.path.take 300),.int .i64 e.mem.kind,nI .u32 e.mem.mode,nI .u32 e.mem.uid,nI .u32 e.mem.gid,.int .i64 e.mem.time,Aw,Lv,.str (e.mem.link.take 300),.int .i64 e.size,.int .i64 e.head,cv] 0 false true true)):=by
  exact(qk (n:=9) (l:=[.str e.mem.path,.int .i64 e.mem.kind,nI .u32 e.mem.mode,nI .u32 e.mem.uid,nI .u32 e.mem.gid,.int .i64 e.mem.time,av,dv,.str e.mem.link,.int .i64 e.size,.int .i64 e.head,cv]) (b:=H.nx) (o:=0) (v:=.agg [.str (e.mem.path.take 300),.int .i64 e.mem.kind,nI .u32 e.mem.mode,nI .u32 e.mem.uid,nI .u32 e.mem.gid,.int .i64 e.mem.time,Aw,Lv,.str (e.mem.link.take 300)]) (H:=H3) (by decide) rfl (show 0+9<=12 by decide) (by rw[k3.ro];exact hro) (Ym _) _ _ _ _).trans rfl
 obtain⟨qT,sc,hc2⟩:=hC.2 (min e.chunks.length 20) (by rw[TG];exact PQ _ _)
 rw[nj,B1] at hc2
 have lcc:=λG=>hC.1.len G
 rw[TG] at lcc
 have Zls:=hc2.cells
 have gp3: ∀ob,(H3.put H.nx ob).t.get H.nx=some ob:=λob=>X9 ..
 have sc3: ∀ob,Pp 35 cv none (some (nI .i64 (min e.chunks.length 20))) (H3.put H.nx ob)=.val qT (H3.put H.nx ob):=λob=>sc _ λc hc=>by
  rw[RU (by omega)];exact k3.get c hc (by simp)
 obtain⟨H4,bX⟩: ∃G,H3.put H.nx (rG 31 1 [.str (e.mem.path.take 300),.int .i64 e.mem.kind,nI .u32 e.mem.mode,nI .u32 e.mem.uid,nI .u32 e.mem.gid,.int .i64 e.mem.time,Aw,Lv,.str (e.mem.link.take 300),.int .i64 e.size,.int .i64 e.head,qT] 0 false true true)=G:=⟨_,rfl⟩
 have XF:tI 1 (some (rG 31 1 [.str (e.mem.path.take 300),.int .i64 e.mem.kind,nI .u32 e.mem.mode,nI .u32 e.mem.uid,nI .u32 e.mem.gid,.int .i64 e.mem.time,Aw,Lv,.str (e.mem.link.take 300),.int .i64 e.size,.int .i64 e.head,cv] 0 false true true)) H.nx 11 qT (H3.put H.nx (rG 31 1 [.str (e.mem.path.take 300),.int .i64 e.mem.kind,nI .u32 e.mem.mode,nI .u32 e.mem.uid,nI .u32 e.mem.gid,.int .i64 e.mem.time,Aw,Lv,.str (e.mem.link.take 300),.int .i64 e.size,.int .i64 e.head,cv] 0 false true true))=.val YS H4:=by
  rw[NF Zls (show 11<12 by decide) (by rw[xT,k3.ro];exact hro) (Ym _),xS,<-bX];rfl
 have k4:Zw H H4 []:=by rw[<-bX];exact k3.then_put λh=>by omega
 have n4:H4.nx=H3.nx:=by rw[<-bX,Nn]
 have g14:H4.t.get H.nx=some (rG 31 1 [.str (e.mem.path.take 300),.int .i64 e.mem.kind,nI .u32 e.mem.mode,nI .u32 e.mem.uid,nI .u32 e.mem.gid,.int .i64 e.mem.time,Aw,Lv,.str (e.mem.link.take 300),.int .i64 e.size,.int .i64 e.head,qT] 0 false true true):=by rw[<-bX];exact X9 ..
 have fh:Zw H3 H4 [H.nx]:=by rw[<-bX];exact Zw.put λ_=>by simp
 have hA4:Sz H4 2 Aw (N0 (nE e.mem).attrs):=hA3.move fh λb hb hm=>by have:=oA3 b hb;rw[ZD.1 hm] at this;omega
 have hD4:Sz H4 1 Lv (P8 (nE e.mem).data):=hD3.move fh λb hb hm=>by have:=oD3 b hb;rw[ZD.1 hm] at this;omega
 have hz2:Sz H 1 v2 (P8 (l.take 1200)):=by
  rcases hv2 with⟨e0,e1⟩|h
  ·exact .inl ⟨by rw[e0];rfl,e1⟩
  ·exact Hj h wR
 have hl2:(l.take 1200).length<=1200:=by rw[ZW];omega
 obtain⟨own,H5,e5,bv5,k45,nD⟩:=yK E (k:=15) (n:=n+4) (hz2.keep0 k4) (by omega)
 have k5:Zw H H5 []:=k4.trans' k45
 have n45:=k45.nx
 have g15:H5.t.get H.nx=some (rG 31 1 [.str (e.mem.path.take 300),.int .i64 e.mem.kind,nI .u32 e.mem.mode,nI .u32 e.mem.uid,nI .u32 e.mem.gid,.int .i64 e.mem.time,Aw,Lv,.str (e.mem.link.take 300),.int .i64 e.size,.int .i64 e.head,qT] 0 false true true):=by rw[k45.get _ (by omega) (by simp)];exact g14
 have hE5:JR H5 [.str (e.mem.path.take 300),.int .i64 e.mem.kind,nI .u32 e.mem.mode,nI .u32 e.mem.uid,nI .u32 e.mem.gid,.int .i64 e.mem.time,Aw,Lv,.str (e.mem.link.take 300),.int .i64 e.size,.int .i64 e.head,qT] (cutE e):=⟨Aw,Lv,qT,rfl,hA4.keep0 k45,hD4.keep0 k45,hc2.keep0 k5⟩
 have hsh:=so hok
 obtain⟨w6,H6,e6,k56,bv6,Zl7⟩:=ng E (n:=n) (kk:=kk) hsh (gP.keep0 k5) hE5 bv5 (λb o n c h=>(nD b o n c h).2) hl2 (λG v' l' kG=>hsum G v' l' (k5.trans' kG))
 have k6:Zw H H6 []:=k5.trans' k56
 have g16:H6.t.get H.nx=some (rG 31 1 [.str (e.mem.path.take 300),.int .i64 e.mem.kind,nI .u32 e.mem.mode,nI .u32 e.mem.uid,nI .u32 e.mem.gid,.int .i64 e.mem.time,Aw,Lv,.str (e.mem.link.take 300),.int .i64 e.size,.int .i64 e.head,qT] 0 false true true):=by rw[k56.get _ (by omega) (by simp)];exact g15
 obtain⟨H7,hH7⟩: ∃G,H6.new (rG 31 12 [.str (e.mem.path.take 300),.int .i64 e.mem.kind,nI .u32 e.mem.mode,nI .u32 e.mem.uid,nI .u32 e.mem.gid,.int .i64 e.mem.time,Aw,Lv,.str (e.mem.link.take 300),.int .i64 e.size,.int .i64 e.head,qT] 0 false true true)=G:=⟨_,rfl⟩
 have bs2:=λ(G:Heap)=>jo (e:=31) (sz:=12) (zs:=[.str [],nI .i64 0,nI .u32 0,nI .u32 0,nI .u32 0,nI .i64 0,.nils,.nils,.str [],nI .i64 0,nI .i64 0,.nils]) (x:=[.str (e.mem.path.take 300),.int .i64 e.mem.kind,nI .u32 e.mem.mode,nI .u32 e.mem.uid,nI .u32 e.mem.gid,.int .i64 e.mem.time,Aw,Lv,.str (e.mem.link.take 300),.int .i64 e.size,.int .i64 e.head,qT]) (by decide) rfl rfl G
 have bd: ∀(b:Nat) (G:Heap),PT [.nils] [(0,1,.slice b 0 1 none)] G=.val (.agg [.slice b 0 1 none]) G:=λ_ _=>rfl
 have k67:Zw H6 H7 []:=by rw[<-hH7];exact Zw.new _ _ _
 have k7:Zw H H7 []:=k6.trans' k67
 have nx7:H7.nx=H6.nx+1:=by rw[<-hH7];rfl
 have g7:H7.t.get H6.nx=some (rG 31 12 [.str (e.mem.path.take 300),.int .i64 e.mem.kind,nI .u32 e.mem.mode,nI .u32 e.mem.uid,nI .u32 e.mem.gid,.int .i64 e.mem.time,Aw,Lv,.str (e.mem.link.take 300),.int .i64 e.size,.int .i64 e.head,qT] 0 false true true):=by rw[<-hH7];exact Yi rfl _
 have hS7:Sl H7 12 (.slice H6.nx 0 1 none) [[.str (e.mem.path.take 300),.int .i64 e.mem.kind,nI .u32 e.mem.mode,nI .u32 e.mem.uid,nI .u32 e.mem.gid,.int .i64 e.mem.time,Aw,Lv,.str (e.mem.link.take 300),.int .i64 e.size,.int .i64 e.head,qT]]:=Sl.of_rG (ls:=[[.str (e.mem.path.take 300),.int .i64 e.mem.kind,nI .u32 e.mem.mode,nI .u32 e.mem.uid,nI .u32 e.mem.gid,.int .i64 e.mem.time,Aw,Lv,.str (e.mem.link.take 300),.int .i64 e.size,.int .i64 e.head,qT]]) g7 (by omega) (λl hl=>by rw[ZD.1 hl];rfl)
 obtain⟨w8,H8,e8,hN8,k78⟩:=of_run E (k0:=15) (n:=n+4) (ev:=.slice H6.nx 0 1 none) (L:=[cutE e]) (H:=H7) (by show 1<=_;decide) (λi hi=>by
  obtain rfl:i=0:=by have:i<1:=hi;omega
  exact hsh) (by rw[k7.ro];exact ZX hro k7.nx) ⟨[[.str (e.mem.path.take 300),.int .i64 e.mem.kind,nI .u32 e.mem.mode,nI .u32 e.mem.uid,nI .u32 e.mem.gid,.int .i64 e.mem.time,Aw,Lv,.str (e.mem.link.take 300),.int .i64 e.size,.int .i64 e.head,qT]],.inr hS7,rfl,λi hi=>by
   obtain rfl:i=0:=by have:i<1:=hi;omega
   exact(hE5.keep k56).keep k67⟩
 have k8:Zw H H8 []:=k7.trans' k78
 obtain⟨Ls8,hS8,hL8,hE8⟩:=hN8
 have hE8:=hE8 0 (by show 0<1;decide)
 obtain⟨b8,o8,r8,eI8,hb8,gb8,eL8,_⟩:=hS8.at_ (i:=0) (by rw[hL8];show 0<1;decide)
 obtain⟨cs8,Zmo⟩: ∃c,Ls8.getD 0 []=c:=⟨_,rfl⟩
 rw[Zmo] at hE8 eL8
 have hE8:JR H8 cs8 (cutE e):=hE8
 obtain⟨w9,H9,e9,k89,bv9,Zl8⟩:=rX E (n:=n) (kk:=kk) (l:=l.take 1200) (v:=v2) hsh (gP.keep0 k8) (by show(e.mem.link.take 300).length<=_;rw[ZW];omega) hE8 (by
  rcases hv2 with h|h
  ·exact .inl h
  ·exact .inr (h.keep k8 λ_ _ _ _ _=>by simp)) (λb o n c h=>ZF (wR b o n c h) k8.nx) hl2
 have k9:Zw H H9 []:=k8.trans' k89
 have k69:Zw H6 H9 []:=(k67.trans' k78).trans' k89
 have q1:=λ{j}=>jk E (k:=15) (n:=j) (by decide) (H:=H9) ((Hj bv6 Zl7).keep0 k69) (Hj bv9 Zl8)
 have q2:=λ{j}=>jk E (k:=15) (n:=j) (by decide) (H:=H9) ((Hj bv5 λb o n c h=>(nD b o n c h).2).keep0 (k56.trans' k69)) (hz2.keep0 k9)
 rw[Zd rfl] at q1 q2
 have wk: ∀{j},ZU (LK Zr fs fuel 15) fs fuel (j+1) 10 [] H9=.ret (.bool true) H9:=λ{j}=>KL rfl (hwk H9 k9)
 simp(disch:=first|assumption|omega|(simp -implicitDefEqProofs only[Y3,Y4]<;>first|assumption|omega)|decide) only[hH1,hH2,hH7,bx,g1,lb,sl1,bs1,e3,eI3,bW,eL3,g13,Uh,gp3,lcc,sc3,XF,e5,g15,e6,g16,bs2,bd,e8,eI8,gb8,eL8,e9,q1,q2,wk,Yf,Xo,Z9,Zy,ZH,YW,decide_true,Zj,Zf,Zf,Zj,Zz,ZA,ZJ,Zn,Zq,Z9,Zy,ZH,Vl,Ge,c3,ZI,Yw,ZG,Yl,Yt,Vf,PE]
 exact⟨_,rfl⟩
theorem Zb8{G:Heap}{v:AV}(h:Told G (.sl [.int .u8]) v): ∃l:List UInt8,ZgV G v l:=by
 cases h with
 |nils=>
  refine⟨[],λ_=>rfl,λk hk=>?_⟩
  obtain rfl:k=0:=by simpa using hk
  exact⟨.nils,λ_ _=>rfl,.inr (.inl ⟨rfl,.inl rfl⟩),λb o n c h=>by cases h⟩
 |slice0=>
  refine⟨[],λ_=>rfl,λk hk=>?_⟩
  obtain rfl:k=0:=by simpa using hk
  exact⟨.slice0,λ_ _=>rfl,.inl ⟨rfl,rfl⟩,λb o n c h=>by cases h⟩
 | @slice _ b len cap r h1 hl h0 hc hb hr hs ho hz hok=>
  have hs:cap<=r.size:=by have hs:cap*1<=r.size:=hs;omega
  obtain⟨s,hs2⟩:=wa (G:=G) (l:=(List.range len).map r.get) λx hx=>by
   obtain⟨i,hi,rfl⟩:=YV.1 hx
   have hi:=RL.1 hi
   exact hok i (.int .u8) (by show i<cap*1;omega) (by show [Sh.int .u8][i % 1]? =_;rw[Nat.mod_one];rfl)
  have hsl:s.length=len:=by
   have:=congrArg List.length hs2
   simpa using this.symm
  have hget: ∀i,i<len->r.get i=XP (s.getD i 0):=λi hi=>by
   have:=congrArg (λl=>l.getD i .unk) hs2
   simp only[Ze,ZZ,XL hi,Zk (show i<s.length by omega),XA,Qm] at this
   rw[this,Ze,Zk (show i<s.length by omega)];rfl
  refine⟨s,λG'=>by rw[hsl];exact Vz ..,λk hk=>?_⟩
  have hkc:k<=cap:=by omega
  refine⟨.slice b 0 k (some cap),λG' hG=>?_,?_,λb' o n c h=>by cases h;exact hb⟩
  ·show XB G' b _=_
   unfold XB
   rw[hG b hb,hr]
   show ZP (Nat.ble k cap) (ZP (Nat.ble 0 k) (ZP (Nat.ble 0 cap) (cond (Nat.beq 0 cap) (OR.val (.slice b 0 (k - 0) (some 0)) G') (OR.val (.slice b (0+0*1) (k - 0) (some (cap - 0))) G'))))=_
   have:Nat.beq 0 cap=false:=by rw[Yp];exact Zb (by omega)
   rw[Zl hkc,Zl (Ym _),Zl (Ym _),this];rfl
  ·right
   by_cases hk0:k=0
   ·subst hk0
    exact .inl ⟨by rw[ZJ],.inr ⟨b,0,some cap,rfl⟩⟩
   ·have htl:(s.take k).length=k:=by rw[ZW];omega
    refine .inr ⟨λe=>hk0 (by rw[<-htl,e];rfl),b,0,some cap,r,by rw[htl],⟨hr,hz,by rw[htl];omega,λi hi=>?_,λc hc'=>?_⟩,hb⟩
    ·rw[htl] at hi
     rw[Zf,hget i (by omega),Ze,Ze,XK hi]
    ·cases hc'
     rw[htl];omega
end
end Go.AI
