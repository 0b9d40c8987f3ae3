/- Values of images, indexes, configs; their texts, plainly: proved without conditions but those that each names. -/
import Derived.Test.YtbmjgbajoemnaaaGreatDoorPT
import Derived.Test.YtbmjgbajoemnaaaGreatDoorPC
set_option maxRecDepth 1000000
set_option maxHeartbeats 0
set_option linter.unusedVariables false
set_option linter.unusedSimpArgs false
namespace Go.AI
open Go
noncomputable section
section
variable {Zp:Lib} {fs:T CF} {fuel k n i h b:Nat} {H H0:Heap} {s:List UInt8} {cs:List AV}
theorem MK.fin{X Z:Heap}{S S':Nat->Prop}(k:Zq X Z []){o:Obj}(hb:S b)(hs: ∀c,S' c->S c){v:JV}(r:MK X S h v cs):MK (Z.put b o) S' h v cs:=
 r.move (λc hc hS=>by rw[YT (λe=>hS (by rw[<-e];exact hb)),k.get c hc (by simp)]) (by exact k.nx) λc _ h=>hs c h
def NJ(L:List Vz):JV:=MH [([109,97,110,105,102,101,115,116,115],Sr (L.map dJ)),([109,101,100,105,97,84,121,112,101],TT RJ),([115,99,104,101,109,97,86,101,114,115,105,111,110],Gr 2)]
theorem tS(E:Env Zp fs fuel)(hk:1<=k){v:AV}{L:List Vz}(hl:L.length<=1000)(hro:H.ro<=H.nx)(hV:Te H v L)(hg: ∀x∈L,xX x):
  ∃cs H',ZJ (LK Zp fs fuel k) fs fuel (n+8) 24 [.agg [v]] H=.ret (.agg cs) H'∧Zq H H' []∧MK H' (λc=>c<H.nx) 6 (NJ L) cs:=by
 rw[ZL (ZF E.n24 (.inr rfl) _ _) E.f24]
 obtain⟨H1,hH1⟩:=XZ (H.new (rH 48 [v]))
 obtain⟨H2,hH2⟩:=XZ (H1.new (rH 73 zV))
 have bx: ∀G:Heap,Fk 48 (.agg [v]) G=.val (.ptr G.nx 0) (G.new (rH 48 [v])):=λG=>YU (l:=[v]) (Zl 1) 48 G
 have U2:H1.nx=H.nx+1:=by rw[<-hH1];rfl
 have nx2:H2.nx=H1.nx+1:=by rw[<-hH2];rfl
 have k1:Zq H H1 []:=by rw[<-hH1];exact Zq.new _ _ _
 have k2:Zq H H2 []:=by rw[<-hH2];exact k1.then_new _
 have g1:H2.t.get H.nx=some (rH 48 [v]):=by rw[<-hH2,YV (by omega),<-hH1];exact Zx rfl _
 have g2:H2.t.get H1.nx=some (rH 73 zV):=by rw[<-hH2];exact Zx rfl _
 have l0: ∀G,ld1 (some (rH 48 [v])) 0 G=.val v G:=λG=>Z2 (Yo 0) ..
 have Qw:H2.ro<=H2.nx:=by rw[k2.ro];exact Zn hro k2.nx
 obtain⟨xs,sl,hx,ho⟩:=zq E (n:=n+1) hk Qw (hV.keep k2) hg
 obtain⟨w,H3,e3,k3,hv⟩:=ij E (n:=n+4) hk (by rw[Zi];exact hl) Qw sl hx ho
 have e3:ZJ (LK Zp fs fuel k) fs fuel (n+7) 36 [v,.func 34 [] []] H2=.ret (.agg (.str []::Uc w)) H3:=e3
 have GJ:H3.ro<=H3.nx:=by rw[k3.ro];exact Zn Qw k3.nx
 obtain⟨H4,e4,FJ⟩:=FK E (k:=k) (n:=n+6) (s:=[109,97,110,105,102,101,115,116,115]) (s0:=[]) (cs:=Uc w) GJ rfl
 have k4:=k3.trans' FJ
 have B5:H4.ro<=H4.nx:=by rw[k4.ro];exact Zn Qw k4.nx
 obtain⟨H5,e5,Ae⟩:=Aa E (n:=n+4) hk (s:=[109,101,100,105,97,84,121,112,101]) (x:=RJ) B5
 have k5:=k4.trans' Ae
 have af:H5.ro<=H5.nx:=by rw[k5.ro];exact Zn Qw k5.nx
 obtain⟨H6,e6,tV⟩:=ZdX E (n:=n+4) hk (s:=[115,99,104,101,109,97,86,101,114,115,105,111,110]) (u:=2) af
 have k6:=k5.trans' tV
 have ro6:H6.ro<=H6.nx:=by rw[k6.ro];exact Zn Qw k6.nx
 obtain⟨cells,hcells⟩:=XZ ((.str [109,97,110,105,102,101,115,116,115]::Uc w)++(.str [109,101,100,105,97,84,121,112,101]::Vc RJ)++(.str [115,99,104,101,109,97,86,101,114,115,105,111,110]::PR 2))
 obtain⟨H7,hH7⟩:=XZ (H6.new (rG 77 7 cells 0 false true true))
 have k7:Zq H2 H7 []:=by rw[<-hH7];exact k6.then_new _
 have g7:H7.t.get H6.nx=some (rG 77 7 cells 0 false true true):=by rw[<-hH7];exact Zx rfl _
 have nx7:H7.nx=H6.nx+1:=by rw[<-hH7];rfl
 have aT: ∀G,Wa 77 7 3 (List.replicate 3 eV).flatten [(0,7,.agg (.str [109,97,110,105,102,101,115,116,115]::Uc w)),(7,7,.agg (.str [109,101,100,105,97,84,121,112,101]::Vc RJ)),(14,7,.agg (.str [115,99,104,101,109,97,86,101,114,115,105,111,110]::PR 2))] G=.val (.slice G.nx 0 3 none) (G.new (rG 77 7 cells 0 false true true)):=λ_=>by rw[<-hcells];rfl
 obtain⟨H8,e8,j5⟩:=Oy E (n:=n+4) hk (v:=.slice H6.nx 0 3 none) (H:=H7) (.inr ⟨_,_,_,_,rfl⟩) (by rw[k7.ro];exact Zn Qw k7.nx)
 have k8:=k7.trans' j5
 have g8:H8.t.get H1.nx=some (rH 73 zV):=by rw[k8.get _ (by omega) (by simp)];exact g2
 have ah:H8.ro<=H1.nx:=by rw[k8.ro,k2.ro];omega
 have e8:ZJ (LK Zp fs fuel k) fs fuel (n+7) 33 [.slice H6.nx 0 3 none] H7=.ret (.agg (XO (.slice H6.nx 0 3 none))) H8:=e8
 have st:=WQ (n:=6) (b:=H1.nx) (l:=zV) (vs:=XO (.slice H6.nx 0 3 none)) (H:=H8) rfl rfl (by decide) ah 73 1 false true
 have gp:=Y1 H8 H1.nx (rH 73 (XO (.slice H6.nx 0 3 none)))
 have rv: ∀kk,rV 6 true (some (rH 73 (XO (.slice H6.nx 0 3 none)))) 0 kk=kk (.agg (XO (.slice H6.nx 0 3 none))):=λkk=>Pr (n:=6) (l:=XO (.slice H6.nx 0 3 none)) rfl kk
 simp(maxSteps:=4000000) (disch:=first|assumption|omega|(simp -implicitDefEqProofs only[ZQ,ZR]<;>first|assumption|omega)|decide) only[bx,hH1,hH2,g1,g2,l0,e3,e4,e5,e6,aT,hH7,e8,g8,st,gp,rv,WP,YS,ZE,Yb,Zs,ZZ,c24,ZC,ZY,Zz,Zw,Zr,Zt,ZA,Nat.reduceEqDiff,reduceCtorEq,Z4]
 have n3:=k3.nx;have n6:=k6.nx
 have k38:Zq H3 H8 []:=(((FJ.trans' Ae).trans' tV).trans' (by rw[<-hH7];exact Zq.new _ _ _)).trans' j5
 refine⟨_,_,rfl,(k2.trans' k8).then_put (by omega),?_⟩
 have g9:(H8.put H1.nx (rH 73 (XO (.slice H6.nx 0 3 none)))).t.get H6.nx=some (rG 77 7 [.str [109,97,110,105,102,101,115,116,115]::Uc w,.str [109,101,100,105,97,84,121,112,101]::Vc RJ,.str [115,99,104,101,109,97,86,101,114,115,105,111,110]::PR 2].flatten 0 false true true):=by
  rw[YT (by have:=FJ.nx;have:=Ae.nx;have:=tV.nx;omega),j5.get _ (by omega) (by simp),g7,<-hcells];rfl
 have sr:=Ea g9 (by show H6.nx<H8.nx;have:=j5.nx;omega) (λx hx=>by
  simp only[ZN,YL,or_false] at hx
  rcases hx with rfl|rfl|rfl<;>rfl)
 refine Hc sr (λc o n q e hc=>by injection e with e1;have hc:c<H.nx:=hc;omega) rfl (by show 3<=9000;decide) λi hi=>?_
 match i,hi with
 |0,_=>exact⟨by show 9<=9000;decide,_,rfl,MK.fin k38 (S:=λc=>c<H2.nx) (by show H1.nx<H2.nx;omega) (λc hc=>by have hc:c<H.nx:=hc;show c<H2.nx;omega) hv⟩
 |1,_=>exact⟨by show 9<=9000;decide,_,rfl,NR (by decide)⟩
 |2,_=>exact⟨by show 13<=9000;decide,_,rfl,xT (by decide)⟩
def NI(x:Vz)(L:List Vz):JV:=MH [([99,111,110,102,105,103],dJ x),([108,97,121,101,114,115],Sr (L.map dJ)),([109,101,100,105,97,84,121,112,101],TT U6),([115,99,104,101,109,97,86,101,114,115,105,111,110],Gr 2)]
theorem Za5{c1 c2 c3 c4:List AV}(h1:c1.length=7)(h2:c2.length=7)(h3:c3.length=7)(h4:c4.length=7)(G:Heap):Wa 77 7 4 (List.replicate 4 eV).flatten [(0,7,.agg c1),(7,7,.agg c2),(14,7,.agg c3),(21,7,.agg c4)] G=.val (.slice G.nx 0 4 none) (G.new (rG 77 7 [c1,c2,c3,c4].flatten 0 false true true)):=by
 match c1,c2,c3,c4,h1,h2,h3,h4 with
 |[_,_,_,_,_,_,_],[_,_,_,_,_,_,_],[_,_,_,_,_,_,_],[_,_,_,_,_,_,_],_,_,_,_=>rfl
theorem KT{v:AV}(h:v=.nils∨ ∃b o m c,v=.slice b o m c):AI.same v v=true:=by
 rcases h with rfl|⟨b,o,m,c,rfl⟩
 ·unfold AI.same;rfl
 ·unfold AI.same
  rw[Z9,Z9,Z9]
  cases c with
  |none=>rfl
  |some c=>exact Z9 c
theorem Gh: ∀{a b:List AV},U7 n a=true->U7 n b=true->U7 n (a++b)=true
 |[],_,_,hb=>hb
 |x::a,b,ha,hb=>by
  rw[V7,W4]
  rw[W4] at ha
  cases hx:Xm n x with
  |false=>rw[hx] at ha;cases ha
  |true=>rw[hx] at ha;rw[show U7 n (a++b)=true from Gh ha hb];rfl
theorem Dh.slv{v:AV}{l:List NP}(h:Dh H v l):v=.nils∨ ∃b o m c,v=.slice b o m c:=by
 rcases h with⟨_,rfl⟩|⟨b,r,rfl,_⟩
 ·exact .inl rfl
 ·exact .inr ⟨_,_,_,_,rfl⟩
theorem Dh.low{v:AV}{l:List NP}(h:Dh H v l)(hn:H.nx<=n):Xm n v=true:=h.sl.low hn
theorem OA.low{x:Vz}(h:OA H cs x)(hn:H.nx<=n):U7 n cs=true:=by
 obtain⟨v,rfl,a,_⟩:=h
 rw[W4,Gh (y8 n x.d) (by rw[W4,W4,a.low hn];rfl)];rfl
theorem OA.same{x:Vz}(h:OA H cs x):XB cs cs=true:=by
 obtain⟨v,rfl,a,_⟩:=h
 unfold XB;rw[QR]
 exact Jq (KQ x.d) (by unfold XB;rw[Mr];unfold XB;rw[KT a.slv];unfold XB;rfl)
theorem Te.slv{v:AV}{L:List Vz}(h:Te H v L):(v=.nils∨ ∃b o m c,v=.slice b o m c)∧ ∀n,H.nx<=n->Xm n v=true:=by
 obtain⟨ls,sl,_⟩:=h
 refine⟨?_,λn hn=>sl.low hn⟩
 rcases sl.here with⟨_,rfl⟩|⟨b,o,c,rfl,_⟩
 ·exact .inl rfl
 ·exact .inr ⟨_,_,_,_,rfl⟩
theorem S8{v:AV}(h:v=.nils∨ ∃b o m c,v=.slice b o m c)(n:Nat)(t:T Obj):Vv (.val v ⟨n,t,n⟩) v n=true:=by
 rcases h with rfl|⟨b,o,m,c,rfl⟩
 ·exact PP ..
 ·exact Sd ..
theorem sE(E:Env Zp fs fuel)(hk:1<=k){v:AV}{x:Vz}{L:List Vz}(hl:L.length<=1000)(hro:H.ro<=H.nx)(hc:OA H cs x)(hgx:xX x)(hV:Te H v L)(hg: ∀x∈L,xX x):
  ∃cs' H',ZJ (LK Zp fs fuel k) fs fuel (n+8) 20 [.agg (cs++[v])] H=.ret (.agg cs') H'∧Zq H H' []∧MK H' (λc=>c<H.nx) 6 (NI x L) cs':=by
 rw[ZL (ZF E.n20 (.inr rfl) _ _) E.f20]
 have Ac:cs.length=35:=by
  obtain⟨nv,e,_,hd,_⟩:=hc
  rw[e,Zh,Zf,Zi,hd];rfl
 have h36:(cs++[v]).length=36:=by rw[Zf,Ac];rfl
 have bx:=YU (l:=cs++[v]) (by omega) 38 H
 have q7: ∀G,ldN 35 (some (rH 38 (cs++[v]))) 0 G=.val (.agg cs) G:=λG=>by
  rw[X8 (by omega),Z6,<-Ac,List.take_left]
 have lv: ∀G,ld1 (some (rH 38 (cs++[v]))) 35 G=.val v G:=λG=>by
  rw[Z2 (by omega),Za,Zu (by omega),Ac];rfl
 generalize cs++[v]=cv at*
 obtain⟨H1,hH1⟩:=XZ (H.new (rH 38 cv))
 obtain⟨H2,hH2⟩:=XZ (H1.new (rH 73 zV))
 rw[hH1] at bx
 have U2:H1.nx=H.nx+1:=by rw[<-hH1];rfl
 have nx2:H2.nx=H1.nx+1:=by rw[<-hH2];rfl
 have k1:Zq H H1 []:=by rw[<-hH1];exact Zq.new _ _ _
 have k2:Zq H H2 []:=by rw[<-hH2];exact k1.then_new _
 have gR: ∀G,Zq H2 G []->G.t.get H.nx=some (rH 38 cv):=λG kG=>by
  rw[kG.get _ (by omega) (by simp),<-hH2,YV (by omega),<-hH1,Zx rfl]
 have gV: ∀G,Zq H2 G []->G.t.get H1.nx=some (rH 73 zV):=λG kG=>by
  rw[kG.get _ (by omega) (by simp),<-hH2,Zx rfl]
 have g2:=gR H2 (Zq.refl _ _)
 have Qw:H2.ro<=H2.nx:=by rw[k2.ro];exact Zn hro k2.nx
 obtain⟨cs1,H3,e3,k3,hv1⟩:=wD E (n:=n+2) hk Qw (hc.keep k2) hgx.1 hgx.2.1 hgx.2.2
 have GJ:H3.ro<=H3.nx:=by rw[k3.ro];exact Zn Qw k3.nx
 obtain⟨xs,sl,hx,ho⟩:=zq E (n:=n+1) hk GJ (hV.keep (k2.trans' k3)) hg
 obtain⟨w,H4,e4,FJ,hv2⟩:=ij E (n:=n+4) hk (by rw[Zi];exact hl) GJ sl hx ho
 have e3:ZJ (LK Zp fs fuel k) fs fuel (n+7) 34 [.agg cs] H2=.ret (.agg cs1) H3:=e3
 have e4:ZJ (LK Zp fs fuel k) fs fuel (n+7) 36 [v,.func 34 [] []] H3=.ret (.agg (.str []::Uc w)) H4:=e4
 have k4:=k3.trans' FJ
 have B5:H4.ro<=H4.nx:=by rw[k4.ro];exact Zn Qw k4.nx
 obtain⟨H5,e5,Ae⟩:=FK E (k:=k) (n:=n+6) (s:=[108,97,121,101,114,115]) (s0:=[]) (cs:=Uc w) B5 rfl
 have k5:=k4.trans' Ae
 have af:H5.ro<=H5.nx:=by rw[k5.ro];exact Zn Qw k5.nx
 obtain⟨H6,e6,tV⟩:=Aa E (n:=n+4) hk (s:=[109,101,100,105,97,84,121,112,101]) (x:=U6) af
 have k6:=k5.trans' tV
 have ro6:H6.ro<=H6.nx:=by rw[k6.ro];exact Zn Qw k6.nx
 obtain⟨H7,e7,k7'⟩:=ZdX E (n:=n+4) hk (s:=[115,99,104,101,109,97,86,101,114,115,105,111,110]) (u:=2) ro6
 have k7:=k6.trans' k7'
 have hl1:=hv1.vr.len
 obtain⟨cells,hcells⟩:=XZ ([.str [99,111,110,102,105,103]::cs1,.str [108,97,121,101,114,115]::Uc w,.str [109,101,100,105,97,84,121,112,101]::Vc U6,.str [115,99,104,101,109,97,86,101,114,115,105,111,110]::PR 2].flatten)
 have bs4:=Za5 (c1:=.str [99,111,110,102,105,103]::cs1) (c2:=.str [108,97,121,101,114,115]::Uc w) (c3:=.str [109,101,100,105,97,84,121,112,101]::Vc U6) (c4:=.str [115,99,104,101,109,97,86,101,114,115,105,111,110]::PR 2) (by rw[Zh,hl1]) rfl rfl rfl
 rw[hcells] at bs4
 have b7:=λG=>yo (s:=[99,111,110,102,105,103]) hl1 G
 obtain⟨H8,jB⟩:=XZ (H7.new (rG 77 7 cells 0 false true true))
 have k8:Zq H2 H8 []:=by rw[<-jB];exact k7.then_new _
 have g8:H8.t.get H7.nx=some (rG 77 7 cells 0 false true true):=by rw[<-jB];exact Zx rfl _
 have nx8:H8.nx=H7.nx+1:=by rw[<-jB];rfl
 obtain⟨H9,e9,xV⟩:=Oy E (n:=n+4) hk (v:=.slice H7.nx 0 4 none) (H:=H8) (.inr ⟨_,_,_,_,rfl⟩) (by rw[k8.ro];exact Zn Qw k8.nx)
 have k9:=k8.trans' xV
 have g9:=gV H9 k9
 have ro9:H9.ro<=H1.nx:=by rw[k9.ro,k2.ro];omega
 have e9:ZJ (LK Zp fs fuel k) fs fuel (n+7) 33 [.slice H7.nx 0 4 none] H8=.ret (.agg (XO (.slice H7.nx 0 4 none))) H9:=e9
 have st:=WQ (n:=6) (b:=H1.nx) (l:=zV) (vs:=XO (.slice H7.nx 0 4 none)) (H:=H9) rfl rfl (by decide) ro9 73 1 false true
 have gp:=Y1 H9 H1.nx (rH 73 (XO (.slice H7.nx 0 4 none)))
 have rv: ∀kk,rV 6 true (some (rH 73 (XO (.slice H7.nx 0 4 none)))) 0 kk=kk (.agg (XO (.slice H7.nx 0 4 none))):=λkk=>Pr (n:=6) (l:=XO (.slice H7.nx 0 4 none)) rfl kk
 have n3:=k3.nx;have n4:=FJ.nx;have n5:=Ae.nx;have n6:=tV.nx;have n7:=k7'.nx;have n9:=xV.nx
 have g3:=gR H3 k3
 have sa:=λn T=>VE hc.same n T
 have svv:=S8 hV.slv.1
 have lp2: ∀o,Xm H2.nx (.ptr H.nx o)=true:=λo=>Yp (by omega) o
 have lc: ∀n,H3.nx<=n->U7 n cs1=true:=λn hn=>hv1.vr.low hn
 have lc3:=lc H3.nx (Zl _)
 have lc7:=lc H7.nx (by omega)
 have lw: ∀n,H4.nx<=n->U7 n (Uc w)=true:=λn hn=>hv2.vr.low hn
 have lw7:=lw H7.nx (by omega)
 have lS: ∀n s,U7 n (Vc s)=true:=λ_ _=>rfl
 have lN: ∀n u,U7 n (PR u)=true:=λ_ _=>rfl
 simp only[bx,hH2,g2,g3,q7,lv,sa,svv,lp2,lc3,lc7,lw7,lS,lN,e3,b7,e4,e5,e6,e7,bs4,jB,e9,g9,st,gp,rv,W4,WP,Y8,YS,Tt,ZE,Yb,Zs,ZZ,c20,ZC,ZY,Zz,Zw,Zr,Zt,ZA,Nat.reducePow,Nat.reduceDiv,Nat.reduceMod,reduceCtorEq,Z4]
 have k3f:Zq H3 H9 []:=(((((FJ.trans' Ae).trans' tV).trans' k7').trans' (by rw[<-jB];exact Zq.new _ _ _)).trans' xV)
 have k4f:Zq H4 H9 []:=((((Ae.trans' tV).trans' k7').trans' (by rw[<-jB];exact Zq.new _ _ _)).trans' xV)
 refine⟨_,_,rfl,(k2.trans' k9).then_put (λh=>by have h:H1.nx<H.nx:=h;omega),?_⟩
 have gf:(H9.put H1.nx (rH 73 (XO (.slice H7.nx 0 4 none)))).t.get H7.nx=some (rG 77 7 [.str [99,111,110,102,105,103]::cs1,.str [108,97,121,101,114,115]::Uc w,.str [109,101,100,105,97,84,121,112,101]::Vc U6,.str [115,99,104,101,109,97,86,101,114,115,105,111,110]::PR 2].flatten 0 false true true):=by
  rw[YT (by omega),xV.get _ (by omega) (by simp),g8,hcells]
 have sr:=Ea gf (by show H7.nx<H9.nx;omega) (λx hx=>by
  simp only[ZN,YL,or_false] at hx
  rcases hx with rfl|rfl|rfl|rfl
  ·rw[Zh,hl1]
  all_goals rfl)
 refine Hc sr (λc o n q e hc=>by injection e with e1;have hc:c<H.nx:=hc;omega) rfl (by show 4<=9000;decide) λi hi=>?_
 match i,hi with
 |0,_=>exact⟨by show 6<=9000;decide,_,rfl,(MK.fin k3f (S:=λc=>c<H2.nx) (by show H1.nx<H2.nx;omega) (λc hc=>by have hc:c<H.nx:=hc;show c<H2.nx;omega) hv1).up (by decide)⟩
 |1,_=>exact⟨by show 6<=9000;decide,_,rfl,MK.fin k4f (S:=λc=>c<H3.nx) (by show H1.nx<H3.nx;omega) (λc hc=>by have hc:c<H.nx:=hc;show c<H3.nx;omega) hv2⟩
 |2,_=>exact⟨by show 9<=9000;decide,_,rfl,NR (by decide)⟩
 |3,_=>exact⟨by show 13<=9000;decide,_,rfl,xT (by decide)⟩
def Px(a b:List UInt8)(L:List (List UInt8)):JV:=MH [([97,114,99,104,105,116,101,99,116,117,114,101],TT a),([111,115],TT b),([114,111,111,116,102,115],MH [([100,105,102,102,95,105,100,115],Sr (L.map λd=>TT (R6 d))),([116,121,112,101],TT [108,97,121,101,114,115])])]
def Na(H:Heap)(v:AV)(L:List (List UInt8)):Prop:= ∃xs,Sz H 32 v xs∧xs.length=L.length∧ ∀i,i<L.length->xs.getD i []=(L.getD i []).map XM∧(L.getD i []).length=32
theorem Na.keep{H H':Heap}{v:AV}{L:List (List UInt8)}(h:Na H v L)(k:Zq H H' []):Na H' v L:=by
 obtain⟨xs,a,b⟩:=h
 exact⟨xs,a.keep0 k,b⟩
theorem Za4{c1 c2 c3:List AV}(h1:c1.length=7)(h2:c2.length=7)(h3:c3.length=7)(G:Heap):Wa 77 7 3 (List.replicate 3 eV).flatten [(0,7,.agg c1),(7,7,.agg c2),(14,7,.agg c3)] G=.val (.slice G.nx 0 3 none) (G.new (rG 77 7 [c1,c2,c3].flatten 0 false true true)):=by
 match c1,c2,c3,h1,h2,h3 with
 |[_,_,_,_,_,_,_],[_,_,_,_,_,_,_],[_,_,_,_,_,_,_],_,_,_=>rfl
theorem Za3{c1 c2:List AV}(h1:c1.length=7)(h2:c2.length=7)(G:Heap):Wa 77 7 2 (List.replicate 2 eV).flatten [(0,7,.agg c1),(7,7,.agg c2)] G=.val (.slice G.nx 0 2 none) (G.new (rG 77 7 [c1,c2].flatten 0 false true true)):=by
 match c1,c2,h1,h2 with
 |[_,_,_,_,_,_,_],[_,_,_,_,_,_,_],_,_=>rfl
theorem ti(E:Env Zp fs fuel)(hk:1<=k){a b:List UInt8}{v:AV}{L:List (List UInt8)}(hl:L.length<=1000)(hro:H.ro<=H.nx)(ha:a.length<=9000)(hb:b.length<=9000)(hV:Na H v L):
  ∃cs' H',ZJ (LK Zp fs fuel k) fs fuel (n+8) 26 [.agg [.str a,.str b,v]] H=.ret (.agg cs') H'∧Zq H H' []∧MK H' (λc=>c<H.nx) 7 (Px a b L) cs':=by
 rw[ZL (ZF E.n26 (.inr rfl) _ _) E.f26]
 obtain⟨H1,hH1⟩:=XZ (H.new (rH 52 [.str a,.str b,v]))
 obtain⟨H2,hH2⟩:=XZ (H1.new (rH 73 zV))
 have bx: ∀G:Heap,Fk 52 (.agg [.str a,.str b,v]) G=.val (.ptr G.nx 0) (G.new (rH 52 [.str a,.str b,v])):=λG=>YU (l:=[.str a,.str b,v]) (show 1<=3 by decide) 52 G
 have U2:H1.nx=H.nx+1:=by rw[<-hH1];rfl
 have nx2:H2.nx=H1.nx+1:=by rw[<-hH2];rfl
 have k1:Zq H H1 []:=by rw[<-hH1];exact Zq.new _ _ _
 have k2:Zq H H2 []:=by rw[<-hH2];exact k1.then_new _
 have l0: ∀G,ld1 (some (rH 52 [.str a,.str b,v])) 0 G=.val (.str a) G:=λG=>Z2 (show 0<3 by decide) ..
 have l1: ∀G,ld1 (some (rH 52 [.str a,.str b,v])) 1 G=.val (.str b) G:=λG=>Z2 (show 1<3 by decide) ..
 have l2: ∀G,ld1 (some (rH 52 [.str a,.str b,v])) 2 G=.val v G:=λG=>Z2 (show 2<3 by decide) ..
 have gR: ∀G,Zq H2 G []->G.t.get H.nx=some (rH 52 [.str a,.str b,v]):=λG kG=>by
  rw[kG.get _ (by omega) (by simp),<-hH2,YV (by omega),<-hH1,Zx rfl]
 have gV: ∀G,Zq H2 G []->G.t.get H1.nx=some (rH 73 zV):=λG kG=>by
  rw[kG.get _ (by omega) (by simp),<-hH2,Zx rfl]
 have g2:=gR H2 (Zq.refl _ _)
 have Qw:H2.ro<=H2.nx:=by rw[k2.ro];exact Zn hro k2.nx
 obtain⟨xs,sl,hx,hxx⟩:=hV.keep k2
 obtain⟨w,H3,e3,k3,hv⟩:=Zb8 E (n:=n+4) hk (by rw[Zi];exact hl) Qw sl (by rw[Zi];exact hx) (iX E (n:=n+1) hk Qw hx hxx)
 have e3:ZJ (LK Zp fs fuel k) fs fuel (n+7) 43 [v,.func 40 [] []] H2=.ret (.agg (.str []::Uc w)) H3:=e3
 have GJ:H3.ro<=H3.nx:=by rw[k3.ro];exact Zn Qw k3.nx
 obtain⟨H4,e4,FJ⟩:=FK E (k:=k) (n:=n+6) (s:=[100,105,102,102,95,105,100,115]) (s0:=[]) (cs:=Uc w) GJ rfl
 have k4:=k3.trans' FJ
 have B5:H4.ro<=H4.nx:=by rw[k4.ro];exact Zn Qw k4.nx
 obtain⟨H5,e5,Ae⟩:=Aa E (n:=n+4) hk (s:=[116,121,112,101]) (x:=[108,97,121,101,114,115]) B5
 have k5:=k4.trans' Ae
 have bs2:=Za3 (c1:=.str [100,105,102,102,95,105,100,115]::Uc w) (c2:=.str [116,121,112,101]::Vc [108,97,121,101,114,115]) rfl rfl
 obtain⟨ZdM,Zah⟩:=XZ ([.str [100,105,102,102,95,105,100,115]::Uc w,.str [116,121,112,101]::Vc [108,97,121,101,114,115]].flatten)
 rw[Zah] at bs2
 obtain⟨H6,hH6⟩:=XZ (H5.new (rG 77 7 ZdM 0 false true true))
 have tV:Zq H5 H6 []:=by rw[<-hH6];exact Zq.new _ _ _
 have k6:=k5.trans' tV
 have nx6:H6.nx=H5.nx+1:=by rw[<-hH6];rfl
 have g6:H6.t.get H5.nx=some (rG 77 7 ZdM 0 false true true):=by rw[<-hH6];exact Zx rfl _
 obtain⟨H7,e7,k7'⟩:=Oy E (n:=n+4) hk (v:=.slice H5.nx 0 2 none) (H:=H6) (.inr ⟨_,_,_,_,rfl⟩) (by rw[k6.ro];exact Zn Qw k6.nx)
 have k7:=k6.trans' k7'
 have e7:ZJ (LK Zp fs fuel k) fs fuel (n+7) 33 [.slice H5.nx 0 2 none] H6=.ret (.agg (XO (.slice H5.nx 0 2 none))) H7:=e7
 have ro7:H7.ro<=H7.nx:=by rw[k7.ro];exact Zn Qw k7.nx
 obtain⟨H8,jB⟩:=XZ (H7.new (rH 73 (XO (.slice H5.nx 0 2 none))))
 have hB:=WQ (n:=6) (l:=zV) (vs:=XO (.slice H5.nx 0 2 none)) (b:=H7.nx) (H:=H7.new (rH 73 zV)) rfl rfl (by decide) (show H7.ro<=H7.nx from ro7) 73 1 false true
 rw[SU rfl,jB] at hB
 have j5:Zq H7 H8 []:=by rw[<-jB];exact Zq.new _ _ _
 have k8:=k7.trans' j5
 have nx8:H8.nx=H7.nx+1:=by rw[<-jB];rfl
 have ah:H8.ro<=H8.nx:=by rw[k8.ro];exact Zn Qw k8.nx
 have gn8:H8.t.get H7.nx=some (rH 73 (XO (.slice H5.nx 0 2 none))):=by rw[<-jB];exact Zx rfl _
 have l6: ∀G,ldN 6 (some (rH 73 (XO (.slice H5.nx 0 2 none)))) 0 G=.val (.agg (XO (.slice H5.nx 0 2 none))) G:=λG=>by
  rw[X8 (Zl _)];rfl
 have g8:=gR H8 k8
 obtain⟨H9,e9,xV⟩:=Aa E (n:=n+4) hk (s:=[97,114,99,104,105,116,101,99,116,117,114,101]) (x:=a) ah
 have k9:=k8.trans' xV
 have ro9:H9.ro<=H9.nx:=by rw[k9.ro];exact Zn Qw k9.nx
 have g9:=gR H9 k9
 have gn9:H9.t.get H7.nx=some (rH 73 (XO (.slice H5.nx 0 2 none))):=by rw[xV.get _ (by omega) (by simp)];exact gn8
 obtain⟨H10,e10,jZ⟩:=Aa E (n:=n+4) hk (s:=[111,115]) (x:=b) ro9
 have k10:=k9.trans' jZ
 have ZiJ:H10.t.get H7.nx=some (rH 73 (XO (.slice H5.nx 0 2 none))):=by rw[jZ.get _ (by have:=xV.nx;omega) (by simp)];exact gn9
 have b7:=λG=>yo (s:=[114,111,111,116,102,115]) (cs:=XO (.slice H5.nx 0 2 none)) rfl G
 have aT:=Za4 (c1:=.str [97,114,99,104,105,116,101,99,116,117,114,101]::Vc a) (c2:=.str [111,115]::Vc b) (c3:=.str [114,111,111,116,102,115]::XO (.slice H5.nx 0 2 none)) rfl rfl rfl
 obtain⟨cells,hcells⟩:=XZ ([.str [97,114,99,104,105,116,101,99,116,117,114,101]::Vc a,.str [111,115]::Vc b,.str [114,111,111,116,102,115]::XO (.slice H5.nx 0 2 none)].flatten)
 rw[hcells] at aT
 obtain⟨H11,o9⟩:=XZ (H10.new (rG 77 7 cells 0 false true true))
 have k11:Zq H2 H11 []:=by rw[<-o9];exact k10.then_new _
 have g11:H11.t.get H10.nx=some (rG 77 7 cells 0 false true true):=by rw[<-o9];exact Zx rfl _
 have nx11:H11.nx=H10.nx+1:=by rw[<-o9];rfl
 obtain⟨H12,e12,cG⟩:=Oy E (n:=n+4) hk (v:=.slice H10.nx 0 3 none) (H:=H11) (.inr ⟨_,_,_,_,rfl⟩) (by rw[k11.ro];exact Zn Qw k11.nx)
 have k12:=k11.trans' cG
 have g12:=gV H12 k12
 have ZcI:H12.ro<=H1.nx:=by rw[k12.ro,k2.ro];omega
 have e12:ZJ (LK Zp fs fuel k) fs fuel (n+7) 33 [.slice H10.nx 0 3 none] H11=.ret (.agg (XO (.slice H10.nx 0 3 none))) H12:=e12
 have ZiK:H11.t.get H7.nx=some (rH 73 (XO (.slice H5.nx 0 2 none))):=by rw[<-o9,YV (by have:=xV.nx;have:=jZ.nx;omega)];exact ZiJ
 have st:=WQ (n:=6) (b:=H1.nx) (l:=zV) (vs:=XO (.slice H10.nx 0 3 none)) (H:=H12) rfl rfl (by decide) ZcI 73 1 false true
 have gp:=Y1 H12 H1.nx (rH 73 (XO (.slice H10.nx 0 3 none)))
 have rv: ∀kk,rV 6 true (some (rH 73 (XO (.slice H10.nx 0 3 none)))) 0 kk=kk (.agg (XO (.slice H10.nx 0 3 none))):=λkk=>Pr (n:=6) (l:=XO (.slice H10.nx 0 3 none)) rfl kk
 have n3:=k3.nx;have n4:=FJ.nx;have n5:=Ae.nx;have n7:=k7'.nx;have n9:=xV.nx;have n10:=jZ.nx;have n12:=cG.nx
 have lp: ∀o,Xm H8.nx (.ptr H.nx o)=true:=λo=>Yp (by omega) o
 have lS: ∀n s,U7 n (Vc s)=true:=λ_ _=>rfl
 have lT: ∀n,H6.nx<=n->U7 n (XO (.slice H5.nx 0 2 none))=true:=λn hn=>by
  show cond (Xm n .nils) (cond (Xm n (.slice H5.nx 0 2 none)) true false) false=true
  rw[Xk (by omega) _ _ _];rfl
 have lT8:=lT H8.nx (by omega)
 have lT10:=lT H10.nx (by omega)
 have sT:=λn T=>VE (l:=XO (.slice H5.nx 0 2 none)) (by
  unfold XO XB;rw[Dw];unfold XB
  rw[show AI.same (.bool false) (.bool false)=true by unfold AI.same;rfl];unfold XB
  rw[Dw];unfold XB;rw[QR];unfold XB;rw[KT (.inl rfl)];unfold XB;rw[KT (.inr ⟨_,_,_,_,rfl⟩)];unfold XB;rfl) n T
 simp only[bx,hH1,hH2,g2,l0,l1,l2,lp,lS,lT8,lT10,sT,e3,e4,e5,bs2,hH6,e7,hB,g8,g9,gn8,gn9,ZiK,l6,e9,e10,b7,aT,o9,e12,g12,st,gp,rv,W4,WP,Y8,YS,Tt,ZE,Yb,Zs,ZZ,c26,ZC,ZY,Zz,Zw,Zr,Zt,ZA,Nat.reducePow,Nat.reduceDiv,Nat.reduceMod,reduceCtorEq,Z4]
 refine⟨_,_,rfl,(k2.trans' k12).then_put (λh=>by have h:H1.nx<H.nx:=h;omega),?_⟩
 have k6f:Zq H6 H12 []:=(((k7'.trans' j5).trans' xV).trans' jZ).trans' ((by rw[<-o9];exact Zq.new _ _ _:Zq H10 H11 []).trans' cG)
 have k3f:Zq H3 H12 []:=((FJ.trans' Ae).trans' tV).trans' k6f
 have gf:(H12.put H1.nx (rH 73 (XO (.slice H10.nx 0 3 none)))).t.get H10.nx=some (rG 77 7 [.str [97,114,99,104,105,116,101,99,116,117,114,101]::Vc a,.str [111,115]::Vc b,.str [114,111,111,116,102,115]::XO (.slice H5.nx 0 2 none)].flatten 0 false true true):=by
  rw[YT (by omega),cG.get _ (by omega) (by simp),g11,hcells]
 have gf2:(H12.put H1.nx (rH 73 (XO (.slice H10.nx 0 3 none)))).t.get H5.nx=some (rG 77 7 [.str [100,105,102,102,95,105,100,115]::Uc w,.str [116,121,112,101]::Vc [108,97,121,101,114,115]].flatten 0 false true true):=by
  rw[YT (by omega),k6f.get _ (by omega) (by simp),g6,Zah]
 have sr:=Ea gf (by show H10.nx<H12.nx;omega) (λx hx=>by
  simp only[ZN,YL,or_false] at hx
  rcases hx with rfl|rfl|rfl<;>rfl)
 have sr2:=Ea gf2 (by show H5.nx<H12.nx;omega) (λx hx=>by
  simp only[ZN,YL,or_false] at hx
  rcases hx with rfl|rfl<;>rfl)
 refine Hc sr (λc o n q e hc=>by injection e with e1;have hc:c<H.nx:=hc;omega) rfl (by show 3<=9000;decide) λi hi=>?_
 match i,hi with
 |0,_=>exact⟨by show 12<=9000;decide,_,rfl,NR ha⟩
 |1,_=>exact⟨by show 2<=9000;decide,_,rfl,NR hb⟩
 |2,_=>
  refine⟨by show 6<=9000;decide,_,rfl,?_⟩
  refine Hc sr2 (λc o n q e hc=>by injection e with e1;have hc:c<H.nx:=hc;omega) rfl (by show 2<=9000;decide) λi hi=>?_
  match i,hi with
  |0,_=>exact⟨by show 8<=9000;decide,_,rfl,MK.fin k3f (S:=λc=>c<H2.nx) (by show H1.nx<H2.nx;omega) (λc hc=>by have hc:c<H.nx:=hc;show c<H2.nx;omega) hv⟩
  |1,_=>exact⟨by show 4<=9000;decide,_,rfl,NR (by decide)⟩
end
theorem oh(x y:UInt8):LV x y=decide (x=y):=by
 show Nat.beq x.toNat y.toNat=_
 by_cases h:x=y
 ·subst h;rw[Ze rfl];exact Z9 _
 ·rw[Zb h]
  cases hb:Nat.beq x.toNat y.toNat with
  |false=>rfl
  |true=>exact absurd (UInt8.toNat_inj.1 (ZW hb)) h
theorem Ll(a b:UInt8)(x y:List UInt8):Yn (a::x) (b::y)=true↔a.toNat<b.toNat∨(a=b∧Yn x y=true):=by
 show cond (Nat.ble (Nat.succ a.toNat) b.toNat) true (cond (LV a b) (Yn x y) false)=true↔_
 rw[oh]
 by_cases h:a.toNat<b.toNat
 ·rw[Zm h];simp[h]
 ·have h1:Nat.ble (Nat.succ a.toNat) b.toNat=false:=by
   cases hb:Nat.ble (Nat.succ a.toNat) b.toNat with
   |false=>rfl
   |true=>exact absurd (Z1 hb) h
  rw[h1]
  by_cases e:a=b
  ·subst e;simp
  ·rw[Zb e];simp[h,e]
theorem Ee: ∀a:List UInt8,Yn a a≠true
 |[],h=>by cases h
 |a::x,h=>by
  rcases(Ll ..).1 h with h|⟨_,h⟩
  ·omega
  ·exact Ee x h
theorem K1: ∀a b d:List UInt8,Yn a b=true->Yn b d=true->Yn a d=true
 |[],[],_,h,_=>by cases h
 |_::_,[],_,h,_=>by cases h
 |_,_::_,[],_,h=>by cases h
 |[],_::_,_::_,_,_=>rfl
 |a::x,b::y,d::z,h1,h2=>by
  refine(Ll ..).2 ?_
  rcases(Ll ..).1 h1 with p1|⟨p1,p2⟩<;>rcases(Ll ..).1 h2 with q1|⟨q1,q2⟩
  ·exact .inl (by omega)
  ·exact .inl (by rw[<-q1];exact p1)
  ·exact .inl (by rw[p1];exact q1)
  ·exact .inr ⟨p1.trans q1,K1 x y z p2 q2⟩
theorem vy{l:List NP}(h: ∀j,j<l.length->P5 l j=true){i:Nat}: ∀j,i<j->j<l.length->Yn (l.getD i ([],[])).1 (l.getD j ([],[])).1=true
 |0,h1,_=>by omega
 |j+1,h1,h2=>by
  have hs:Yn (l.getD j ([],[])).1 (l.getD (j+1) ([],[])).1=true:=by
   have:=h (j+1) h2
   unfold P5 at this
   rw[Yj,Yj,Yj (_&&_) (_||_)] at this
   have:=this.2.2.2
   rw[Zb (by omega),Wh,Va] at this
   unfold Vd at this
   rw[Bool.not_not] at this
   exact this
  by_cases e:i=j
  ·subst e;exact hs
  ·exact K1 _ _ _ (vy h j (by omega) (by omega)) hs
structure eK(l:List NP):Prop where
 few:l.length<=16
 each: ∀p∈l,vu p.1=true∧vu p.2=true
 up: ∀i j,i<j->j<l.length->Yn (l.getD i ([],[])).1 (l.getD j ([],[])).1=true
structure He(x:Vz):Prop where
 md:x.md=U6∨x.md=RJ∨x.md=Qh∨x.md=RW
 ns:eK x.l
 z0:0<=x.z
 z1:x.z<=1099511627776
theorem sS{x:Vz}(h:Ku x.md x.z x.l=true):He x:=by
 unfold Ku at h
 rw[wC] at h
 rw[Yj,Yj,Yj] at h
 obtain⟨⟨h1,h2⟩,h3,h4⟩:=h
 unfold KB at h2
 rw[Yj] at h2
 have hk: ∀j,j<x.l.length->P5 x.l j=true:=λj hj=>YR.1 h2.2 j (Ug.2 hj)
 refine⟨?_,⟨Zo h2.1,λp hp=>?_,λi j hi hj=>vy hk j hi hj⟩,Zo h3,Zo h4⟩
 ·unfold QG at h1
  by_cases a0:x.md=U6
  ·exact .inl a0
  by_cases a1:x.md=RJ
  ·exact .inr (.inl a1)
  by_cases a2:x.md=Qh
  ·exact .inr (.inr (.inl a2))
  by_cases a3:x.md=RW
  ·exact .inr (.inr (.inr a3))
  rw[Zb a0,Zb a1,Zb a2,Zb a3] at h1
  cases h1
 ·obtain⟨i,hi,rfl⟩:=W6.1 hp
  have:=hk i hi
  unfold P5 at this
  rw[Yj,Yj,Yj (_&&_) (_||_),Yj,Yj,Za,Zg hi] at this
  exact⟨this.2.1.2,this.2.2.1.2⟩
def dT(x:Vz):List UInt8:=dtx x.md x.d x.z.toNat x.l
theorem QV(h:Nat)(m:List (List UInt8×JV)):JV.text (h+1) (MH m)=[123]++XS ((VN NL m).map λe=>quo e.1++[58]++JV.text h e.2)++[125]:=rfl
theorem zX(h:Nat)(l:List JV):JV.text (h+1) (Sr l)=[91]++XS (l.map (JV.text h))++[93]:=rfl
theorem QU(h:Nat)(s:List UInt8):JV.text (h+1) (TT s)=quo s:=rfl
theorem G9(h:Nat)(u:Nat):JV.text (h+1) (Gr u)=SF (u:Int):=rfl
theorem ut{a b:List UInt8}(h:Yn a b=true):Yn b a=false:=by
 cases h2:Yn b a with
 |false=>rfl
 |true=>exact absurd (K1 _ _ _ h h2) (Ee _)
theorem By{l:List NP}(h:eK l):Eo (l.map Nl):=λi j hi hj=>by
 rw[Zi] at hj
 have e: ∀i,i<l.length->((l.map Nl).getD i default).1=(l.getD i ([],[])).1:=λi hi=>by
  rw[L7 Nl l ([],[]) default hi];rfl
 rw[e i (by omega),e j hj]
 exact ut (h.up i j hi hj)
def nT(p:NP):List UInt8:=quo p.1++[58]++quo p.2
theorem sH{l:List NP}(h:eK l)(n:Nat):JV.text (n+2) (MH (l.map Nl))=[123]++XS (l.map nT)++[125]:=by
 rw[QV,vd (By h),Wt]
 rfl
theorem KM{s:List UInt8}(h:vu s=true):qt s=quo s:=by unfold qt;rw[h];rfl
theorem ZaK{l:List NP}(h: ∀p∈l,vu p.1=true∧vu p.2=true): ∀i,i<l.length->tx l (i+1)=[123]++([34,97,110,110,111,116,97,116,105,111,110,115,34,58,123]++XS ((l.map nT).take (i+1)))
 |0,hi=>by
  have hp:=h _ (Y0 hi)
  have hx:l.getD 0 ([],[])=l[0]:=by rw[Za,Zg hi];rfl
  rw[W9 (by rw[Zi];exact hi),VD,Rp]
  generalize l[0]=p at hp hx
  show([123]:List UInt8)++sep 0++qt (l.getD 0 ([],[])).1++([58]:List UInt8)++qt (l.getD 0 ([],[])).2=([123]:List UInt8)++(sep 0++(nT p++[]))
  rw[hx,KM hp.1,KM hp.2]
  unfold nT
  simp only[Y6,Yl]
 |i+1,hi=>by
  have hp:=h _ (Y0 hi)
  show tx l (i+1)++sep (i+1)++qt (l.getD (i+1) ([],[])).1++[58]++qt (l.getD (i+1) ([],[])).2=_
  rw[ZaK h i (by omega),M1 (by rw[Zi];exact hi),Za,Zg hi]
  show _++sep (i+1)++qt l[i+1].1++[58]++qt l[i+1].2=_
  rw[KM hp.1,KM hp.2,Za,Yh,Zg hi]
  show _=([123]:List UInt8)++(_++(_++[44]++nT l[i+1]))
  unfold nT
  rw[show sep (i+1)=[44] from rfl]
  simp only[Y6]
theorem Ej{s:List UInt8}(h:s.all (λb=>decide (b.toNat<128))=true):vu s=true:=by
 rw[K5 s.length (Zl _) (λi hi=>by
  unfold XN
  rw[Za,Zg hi]
  exact Zo (YR.1 h _ (Y0 hi))),List.drop_length]
 rfl
theorem qR{a:Nat}(h:a<16):(hxd a).all (λb=>decide (b.toNat<128))=true:=by
 have: ∀a:Fin 16,(hxd a.val).all (λb=>decide (b.toNat<128))=true:=by decide
 exact this ⟨a,h⟩
theorem BW(d:List UInt8):vu (R6 d)=true:=by
 refine Ej ?_
 unfold R6
 rw[List.all_append,List.all_flatMap]
 have: ∀b:UInt8,(hx b).all (λb=>decide (b.toNat<128))=true:=λb=>by
  unfold hx
  rw[List.all_append,qR (by have:=b.toNat_lt;omega),qR (by omega)];rfl
 rw[YR.2 λb _=>this b]
 rfl
theorem fY{x:Vz}(h:He x):vu x.md=true:=by
 rcases h.md with e|e|e|e<;>(rw[e];exact Ej (by decide))
theorem Zgo(a b c d:JV):VN NL [([100,105,103,101,115,116],a),([109,101,100,105,97,84,121,112,101],b),([115,105,122,101],c),([97,110,110,111,116,97,116,105,111,110,115],d)]=[([97,110,110,111,116,97,116,105,111,110,115],d),([100,105,103,101,115,116],a),([109,101,100,105,97,84,121,112,101],b),([115,105,122,101],c)]:=by rfl
theorem Zgn(a b c:JV):VN NL [([100,105,103,101,115,116],a),([109,101,100,105,97,84,121,112,101],b),([115,105,122,101],c)]=[([100,105,103,101,115,116],a),([109,101,100,105,97,84,121,112,101],b),([115,105,122,101],c)]:=by rfl
theorem ZfZ:quo [97,110,110,111,116,97,116,105,111,110,115]++[58]++[123]=[34,97,110,110,111,116,97,116,105,111,110,115,34,58,123]:=by decide
theorem Zf2:quo [100,105,103,101,115,116]++[58]=[34,100,105,103,101,115,116,34,58]:=by decide
theorem Zf6:[44]++quo [109,101,100,105,97,84,121,112,101]++[58]=[44,34,109,101,100,105,97,84,121,112,101,34,58]:=by decide
theorem Zf8:[44]++quo [115,105,122,101]++[58]=[44,34,115,105,122,101,34,58]:=by decide
theorem tT(a b c:List UInt8):XS [a,b,c]=a++([44]++b++([44]++c)):=by
 show a++((44::b)++((44::c)++[]))=_
 rw[Yl];rfl
theorem jX(a b c d:List UInt8):XS [a,b,c,d]=a++([44]++b++([44]++c++([44]++d))):=by
 show a++((44::b)++((44::c)++((44::d)++[])))=_
 rw[Yl];rfl
theorem Eh{x:Vz}(h:He x)(n:Nat):JV.text (n+3) (dJ x)=dT x:=by
 unfold dJ dT Hq dtx
 rw[KM (BW _),KM (fY h),QV,<-Zf2,<-Zf6,<-Zf8]
 by_cases h0:x.l=[]
 ·rw[if_pos h0,Yl,Zgn,ZE,ZE,ZE,Yb,tT,QU,QU,G9,h0]
  generalize quo [100,105,103,101,115,116]=a1
  generalize quo [109,101,100,105,97,84,121,112,101]=a2
  generalize quo [115,105,122,101]=a3
  generalize SF _=a4
  rw[show clo []=[] from rfl,show tx [] ([]:List NP).length=[123] from rfl]
  simp only[Y6,Yl,Xs]
 ·have hp:0<x.l.length:=Ws.2 h0
  have ht:=ZaK h.ns.each (x.l.length - 1) (by omega)
  rw[Nat.sub_add_cancel hp,ZB (by rw[Zi];exact Zl _),<-ZfZ] at ht
  rw[if_neg h0,ht,show([([100,105,103,101,115,116],TT (R6 x.d)),([109,101,100,105,97,84,121,112,101],TT x.md),([115,105,122,101],Gr x.z.toNat)]++[([97,110,110,111,116,97,116,105,111,110,115],MH (x.l.map Nl))]:List (List UInt8×JV))=[([100,105,103,101,115,116],TT (R6 x.d)),([109,101,100,105,97,84,121,112,101],TT x.md),([115,105,122,101],Gr x.z.toNat),([97,110,110,111,116,97,116,105,111,110,115],MH (x.l.map Nl))] from rfl,Zgo,ZE,ZE,ZE,ZE,Yb,jX,QU,QU,G9,sH h.ns,clo,if_pos hp]
  generalize quo [100,105,103,101,115,116]=a1
  generalize quo [109,101,100,105,97,84,121,112,101]=a2
  generalize quo [115,105,122,101]=a3
  generalize quo [97,110,110,111,116,97,116,105,111,110,115]=a4
  generalize SF _=a5
  generalize XS _=a6
  show _=_++(([125]:List UInt8)++[44])++_++_++_++_++_++_++_
  simp only[Y6]
def Um(L:List Vz):List UInt8:=[91]++XS (L.map dT)++[93]
def M0(L:List Vz):List UInt8:=[123,34,109,97,110,105,102,101,115,116,115,34,58]++Um L++[44,34,109,101,100,105,97,84,121,112,101,34,58]++qt RJ++C1
def MZ(x:Vz)(L:List Vz):List UInt8:=[123,34,99,111,110,102,105,103,34,58]++dT x++[44,34,108,97,121,101,114,115,34,58]++Um L++[44,34,109,101,100,105,97,84,121,112,101,34,58]++qt U6++C1
def Oj(a b:List UInt8)(L:List (List UInt8)):List UInt8:=sg++qt a++[44,34,111,115,34,58]++qt b++si++XS (L.map λd=>qt (R6 d))++sj
theorem uz{L:List Vz}(h: ∀x∈L,He x)(n:Nat):JV.text (n+4) (Sr (L.map dJ))=Um L:=by
 rw[zX,Wt]
 unfold Um
 rw[show L.map (JV.text (n+3)∘dJ)=L.map dT from T4 λx hx=>Eh (h x hx) n]
theorem Zgr(a b c:JV):VN NL [([109,97,110,105,102,101,115,116,115],a),([109,101,100,105,97,84,121,112,101],b),([115,99,104,101,109,97,86,101,114,115,105,111,110],c)]=[([109,97,110,105,102,101,115,116,115],a),([109,101,100,105,97,84,121,112,101],b),([115,99,104,101,109,97,86,101,114,115,105,111,110],c)]:=by rfl
theorem Zgs(a b c d:JV):VN NL [([99,111,110,102,105,103],a),([108,97,121,101,114,115],b),([109,101,100,105,97,84,121,112,101],c),([115,99,104,101,109,97,86,101,114,115,105,111,110],d)]=[([99,111,110,102,105,103],a),([108,97,121,101,114,115],b),([109,101,100,105,97,84,121,112,101],c),([115,99,104,101,109,97,86,101,114,115,105,111,110],d)]:=by rfl
theorem Zgp(a b c:JV):VN NL [([97,114,99,104,105,116,101,99,116,117,114,101],a),([111,115],b),([114,111,111,116,102,115],c)]=[([97,114,99,104,105,116,101,99,116,117,114,101],a),([111,115],b),([114,111,111,116,102,115],c)]:=by rfl
theorem Zgt(a b:JV):VN NL [([100,105,102,102,95,105,100,115],a),([116,121,112,101],b)]=[([100,105,102,102,95,105,100,115],a),([116,121,112,101],b)]:=by rfl
theorem Zf5:([123]:List UInt8)++(quo [109,97,110,105,102,101,115,116,115]++[58])=[123,34,109,97,110,105,102,101,115,116,115,34,58]:=by decide
theorem ZaE:([44]:List UInt8)++(quo [109,101,100,105,97,84,121,112,101]++[58])=[44,34,109,101,100,105,97,84,121,112,101,34,58]:=by decide
theorem Zbx:SF ((2:Nat):Int)=[50]:=by
 unfold SF
 rw[if_neg (by decide),show((2:Nat):Int).natAbs=2 from rfl,yz (by decide)];rfl
theorem ZaF:([44]:List UInt8)++(quo [115,99,104,101,109,97,86,101,114,115,105,111,110]++[58]++SF ((2:Nat):Int))++[125]=C1:=by rw[Zbx];decide
theorem Zf1:([123]:List UInt8)++(quo [99,111,110,102,105,103]++[58])=[123,34,99,111,110,102,105,103,34,58]:=by decide
theorem Zf4:([44]:List UInt8)++(quo [108,97,121,101,114,115]++[58])=[44,34,108,97,121,101,114,115,34,58]:=by decide
theorem Zf0:([123]:List UInt8)++(quo [97,114,99,104,105,116,101,99,116,117,114,101]++[58])=sg:=by decide
theorem ZjK:([44]:List UInt8)++(quo [111,115]++[58])=[44,34,111,115,34,58]:=by decide
theorem Zf7:([44]:List UInt8)++(quo [114,111,111,116,102,115]++[58]++([123]++(quo [100,105,102,102,95,105,100,115]++[58]++[91])))=si:=by decide
theorem Zf3:([93]:List UInt8)++([44]++(quo [116,121,112,101]++[58]++quo [108,97,121,101,114,115]))++[125]++[125]=sj:=by decide
theorem ZaM:vu RJ=true:=Ej (by decide)
theorem ZaL:vu U6=true:=Ej (by decide)
theorem tN{L:List Vz}(h: ∀x∈L,He x):JV.text 7 (NJ L)=M0 L:=by
 unfold NJ M0
 rw[KM ZaM,QV,Zgr,ZE,ZE,ZE,Yb,tT,QU,G9,uz h 2,<-Zf5,<-ZaE,<-ZaF]
 generalize quo [109,97,110,105,102,101,115,116,115]=a1
 generalize quo [109,101,100,105,97,84,121,112,101]=a2
 generalize quo [115,99,104,101,109,97,86,101,114,115,105,111,110]=a3
 generalize SF _=a4
 simp only[Y6]
theorem tM{x:Vz}{L:List Vz}(hx:He x)(h: ∀x∈L,He x):JV.text 7 (NI x L)=MZ x L:=by
 unfold NI MZ
 rw[KM ZaL,QV,Zgs,ZE,ZE,ZE,ZE,Yb,jX,QU,G9,uz h 2,Eh hx 3,<-Zf1,<-Zf4,<-ZaE,<-ZaF]
 generalize quo [99,111,110,102,105,103]=a0
 generalize quo [108,97,121,101,114,115]=a1
 generalize quo [109,101,100,105,97,84,121,112,101]=a2
 generalize quo [115,99,104,101,109,97,86,101,114,115,105,111,110]=a3
 generalize SF _=a4
 simp only[Y6]
theorem Zb2(a b:List UInt8):XS [a,b]=a++([44]++b):=by
 show a++((44::b)++[])=_
 rw[Yl];rfl
theorem wA{a b:List UInt8}(L:List (List UInt8))(ha:vu a=true)(hb:vu b=true):JV.text 7 (Px a b L)=Oj a b L:=by
 unfold Px Oj
 rw[KM ha,KM hb,QV,Zgp,ZE,ZE,ZE,Yb,tT,QU,QU,QV,Zgt,ZE,ZE,Yb,Zb2,QU,zX,Wt,<-Zf0,<-ZjK,<-Zf7,<-Zf3]
 rw[show L.map (JV.text 4∘λd=>TT (R6 d))=L.map λd=>qt (R6 d) from T4 λd _=>(KM (BW d)).symm]
 generalize quo [97,114,99,104,105,116,101,99,116,117,114,101]=a0
 generalize quo [111,115]=a1
 generalize quo [114,111,111,116,102,115]=a2
 generalize quo [100,105,102,102,95,105,100,115]=a3
 generalize quo [116,121,112,101]=a4
 generalize quo [108,97,121,101,114,115]=a5
 generalize XS _=a6
 simp only[Y6]
theorem M8(h:Nat)(s:List UInt8):JV.ok h (TT s):=by
 cases h with
 |zero=>trivial
 |succ h=>exact⟨⟨by decide,by decide⟩,.inl (Z8 _),λx hx=>(by cases hx),λe he=>(by cases he)⟩
theorem s5(h:Nat){u:Nat}(hu:u<9223372036854775808):JV.ok h (Gr u):=by
 cases h with
 |zero=>trivial
 |succ h=>exact⟨⟨by omega,by omega⟩,.inl (Z8 _),λx hx=>(by cases hx),λe he=>(by cases he)⟩
theorem FW{h:Nat}{m:List (List UInt8×JV)}(hf:ka m)(hm: ∀e∈m,JV.ok h e.2):JV.ok (h+1) (MH m):=⟨⟨by decide,by decide⟩,hf,λx hx=>(by cases hx),hm⟩
theorem px{h:Nat}{l:List JV}(hl: ∀x∈l,JV.ok h x):JV.ok (h+1) (Sr l):=⟨⟨by decide,by decide⟩,.inl (Z8 _),hl,λe he=>(by cases he)⟩
theorem xl{x:Vz}(h:He x)(n:Nat):JV.ok (n+2) (dJ x):=by
 unfold dJ Hq
 have hz:=h.z0;have hz1:=h.z1
 refine FW (.inl ?_) λe he=>?_
 ·rw[Zf];split
  ·show 3+0<=12;decide
  ·show 3+1<=12;decide
 ·rcases Zy.1 he with he|he
  ·simp only[ZN,YL,or_false] at he
   rcases he with rfl|rfl|rfl
   ·exact M8 _ _
   ·exact M8 _ _
   ·exact s5 _ (by omega)
  ·split at he
   ·cases he
   ·rw[YP.1 he]
    refine FW (.inr ⟨by rw[Zi];have:=h.ns.few;omega,By h.ns⟩) λe he=>?_
    obtain⟨p,_,rfl⟩:=YC.1 he
    exact M8 _ _
theorem vG{L:List Vz}(h: ∀x∈L,He x)(n:Nat):JV.ok (n+3) (Sr (L.map dJ)):=px λx hx=>by
 obtain⟨y,hy,rfl⟩:=YC.1 hx
 exact xl (h y hy) n
theorem jQ{L:List Vz}(h: ∀x∈L,He x):JV.ok 7 (NJ L):=FW (.inl (by show 3<=12;decide)) λe he=>by
 simp only[ZN,YL,or_false] at he
 rcases he with rfl|rfl|rfl
 ·exact vG h 3
 ·exact M8 _ _
 ·exact s5 _ (by decide)
theorem jM{x:Vz}{L:List Vz}(hx:He x)(h: ∀x∈L,He x):JV.ok 7 (NI x L):=FW (.inl (by show 4<=12;decide)) λe he=>by
 simp only[ZN,YL,or_false] at he
 rcases he with rfl|rfl|rfl|rfl
 ·exact xl hx 4
 ·exact vG h 3
 ·exact M8 _ _
 ·exact s5 _ (by decide)
theorem ow(a b:List UInt8)(L:List (List UInt8)):JV.ok 7 (Px a b L):=FW (.inl (by show 3<=12;decide)) λe he=>by
 simp only[ZN,YL,or_false] at he
 rcases he with rfl|rfl|rfl
 ·exact M8 _ _
 ·exact M8 _ _
 ·refine FW (.inl (by show 2<=12;decide)) λe he=>?_
  simp only[ZN,YL,or_false] at he
  rcases he with rfl|rfl
  ·refine px λx hx=>?_
   obtain⟨y,_,rfl⟩:=YC.1 hx
   exact M8 _ _
  ·exact M8 _ _
theorem G7{α:Type}(f:α->Nat)(c:Nat): ∀(l:List α),(∀x∈l,f x<=c)->(l.map f).sum<=l.length*c
 |[],_=>Z8 _
 |a::l,h=>by
  rw[ZE,Sx,Zh,Xu,VM]
  have:=h a (ZG ..)
  have:=G7 f c l λx hx=>h x (ZK _ hx)
  omega
theorem Lo(h:Nat)(s:List UInt8):JV.tb h (TT s)<=50+6*s.length:=by
 cases h with
 |zero=>exact Z8 _
 |succ h=>show 50+6*s.length+0+0<=_;omega
theorem rS(h u:Nat):JV.tb h (Gr u)<=50:=by
 cases h with
 |zero=>exact Z8 _
 |succ h=>show 50+6*0+0+0<=_;omega
theorem Eg(h:Nat)(m:List (List UInt8×JV)):JV.tb (h+1) (MH m)=50+(m.map λe=>6*e.1.length+4+JV.tb h e.2).sum:=by
 show 50+6*0+0+_=_;omega
theorem pU(h:Nat)(l:List JV):JV.tb (h+1) (Sr l)=50+(l.map λx=>1+JV.tb h x).sum:=by
 show 50+6*0+_+0=_;omega
structure BD(x:Vz):Prop where
 d:x.d.length=32
 each: ∀p∈x.l,p.1.length<=1000∧p.2.length<=1000
theorem sA{x:Vz}(h:He x):x.md.length<=60:=by
 rcases h.md with e|e|e|e<;>(rw[e];decide)
theorem fJ{l:List NP}(hl:l.length<=16)(he: ∀p∈l,p.1.length<=1000∧p.2.length<=1000)(h:Nat):JV.tb (h+1) (MH (l.map Nl))<=200000:=by
 rw[Eg,Wt]
 have:=G7 ((λe:List UInt8×JV=>6*e.1.length+4+JV.tb h e.2)∘Nl) 12100 l λp hp=>by
  have a:=Lo h p.2
  have b:=he p hp
  show 6*p.1.length+4+JV.tb h (TT p.2)<=_
  omega
 omega
theorem xL{x:Vz}(h:He x)(hb:BD x)(n:Nat):JV.tb (n+2) (dJ x)<=300000:=by
 unfold dJ Hq
 rw[Eg,Xe,List.sum_append]
 have a1:=Lo (n+1) (R6 x.d)
 rw[Jf hb.d] at a1
 have a2:=Lo (n+1) x.md
 have a3:=rS (n+1) x.z.toNat
 have a4:=sA h
 have a5:=fJ h.ns.few hb.each n
 have e1:(List.map (λe:List UInt8×JV=>6*e.1.length+4+JV.tb (n+1) e.2) [([100,105,103,101,115,116],TT (R6 x.d)),([109,101,100,105,97,84,121,112,101],TT x.md),([115,105,122,101],Gr x.z.toNat)]).sum=(6*6+4+JV.tb (n+1) (TT (R6 x.d)))+((6*9+4+JV.tb (n+1) (TT x.md))+((6*4+4+JV.tb (n+1) (Gr x.z.toNat))+0)):=rfl
 rw[e1]
 split
 ·show 50+(_+0)<=_;omega
 ·show 50+(_+((6*11+4+JV.tb (n+1) (MH (x.l.map Nl)))+0))<=_;omega
theorem uy{L:List Vz}(hl:L.length<=1000)(h: ∀x∈L,He x∧BD x)(n:Nat):JV.tb (n+3) (Sr (L.map dJ))<=301000000:=by
 rw[pU,Wt]
 have:=G7 ((λx=>1+JV.tb (n+2) x)∘dJ) 300001 L λx hx=>by
  have a:=xL (h x hx).1 (h x hx).2 n
  show 1+JV.tb (n+2) (dJ x)<=_
  omega
 omega
theorem jR{L:List Vz}(hl:L.length<=1000)(h: ∀x∈L,He x∧BD x):JV.tb 7 (NJ L)<=800000000:=by
 unfold NJ
 rw[Eg]
 have a1:JV.tb 6 (Sr (L.map dJ))<=301000000:=uy hl h 3
 have a2:=Lo 6 RJ
 have a3:=rS 6 2
 have e0:(RJ).length<=60:=by decide
 show 50+((6*9+4+JV.tb 6 (Sr (L.map dJ)))+((6*9+4+JV.tb 6 (TT RJ))+((6*13+4+JV.tb 6 (Gr 2))+0)))<=_
 omega
theorem jN{x:Vz}{L:List Vz}(hx:He x∧BD x)(hl:L.length<=1000)(h: ∀x∈L,He x∧BD x):JV.tb 7 (NI x L)<=800000000:=by
 unfold NI
 rw[Eg]
 have a0:JV.tb 6 (dJ x)<=300000:=xL hx.1 hx.2 4
 have a1:JV.tb 6 (Sr (L.map dJ))<=301000000:=uy hl h 3
 have a2:=Lo 6 U6
 have a3:=rS 6 2
 have e0:(U6).length<=60:=by decide
 show 50+((6*6+4+JV.tb 6 (dJ x))+((6*6+4+JV.tb 6 (Sr (L.map dJ)))+((6*9+4+JV.tb 6 (TT U6))+((6*13+4+JV.tb 6 (Gr 2))+0))))<=_
 omega
theorem oz{a b:List UInt8}{L:List (List UInt8)}(ha:a.length<=9000)(hb:b.length<=9000)(hl:L.length<=1000)(h: ∀d∈L,d.length=32):JV.tb 7 (Px a b L)<=800000000:=by
 unfold Px
 have a1:=Lo 6 a
 have a2:=Lo 6 b
 have a3:=Lo 5 [108,97,121,101,114,115]
 have a4:JV.tb 5 (Sr (L.map λd=>TT (R6 d)))<=600000:=by
  rw[pU,Wt]
  have:=G7 ((λx=>1+JV.tb 4 x)∘λd=>TT (R6 d)) 500 L λx hx=>by
   have a:=Lo 4 (R6 x)
   rw[Jf (h x hx)] at a
   show 1+JV.tb 4 (TT (R6 x))<=_
   omega
  omega
 have a5:JV.tb 6 (MH [([100,105,102,102,95,105,100,115],Sr (L.map λd=>TT (R6 d))),([116,121,112,101],TT [108,97,121,101,114,115])])<=700000:=by
  rw[Eg]
  show 50+((6*8+4+JV.tb 5 (Sr (L.map λd=>TT (R6 d))))+((6*4+4+JV.tb 5 (TT [108,97,121,101,114,115]))+0))<=_
  have:([108,97,121,101,114,115]:List UInt8).length=6:=rfl
  omega
 rw[Eg]
 show 50+((6*12+4+JV.tb 6 (TT a))+((6*2+4+JV.tb 6 (TT b))+((6*6+4+JV.tb 6 (MH [([100,105,102,102,95,105,100,115],Sr (L.map λd=>TT (R6 d))),([116,121,112,101],TT [108,97,121,101,114,115])]))+0)))<=_
 omega
theorem TV{s:List UInt8}(h:vu s=true)(d:Nat):JV.wrong d (TT s)=false:=by
 cases d with
 |zero=>rfl
 |succ d=>
  show(decide (4<1)||decide (6<4)||!JV.apart (.mk 4 false 0 s [] [])||!vu s||false||false)=false
  rw[h]
  show(false||false||!(true&&true&&(true||decide (s=[]))&&true&&true)||!true||false||false)=false
  cases decide (s=[])<;>rfl
theorem Ju(u d:Nat):JV.wrong d (Gr u)=false:=by
 cases d with
 |zero=>rfl
 |succ d=>show(false||false||!(true&&(true||decide ((u:Int)=0))&&true&&true&&true)||!true||false||false)=false;cases decide ((u:Int)=0)<;>rfl
theorem qk{f:JV->Bool}: ∀{m:List (List UInt8×JV)} {seen:List (List UInt8)},(∀e∈m,vu e.1=true∧f e.2=false∧e.1∉seen)->(m.map Prod.fst).Nodup->JV.badM f seen m=false
 |[],_,_,_=>rfl
 |e::m,seen,h,hn=>by
  obtain⟨h1,h2,h3⟩:=h e (ZG ..)
  rw[ZE,R3] at hn
  show(decide (e.1∈seen)||!vu e.1||f e.2||JV.badM f (seen++[e.1]) m)=false
  rw[Zb h3,h1,h2,qk (λx hx=>?_) hn.2]
  ·rfl
  ·obtain⟨a,b,c⟩:=h x (ZK _ hx)
   refine⟨a,b,λhm=>?_⟩
   rcases Zy.1 hm with hm|hm
   ·exact c hm
   ·rw[YP] at hm
    exact hn.1 (YC.2 ⟨x,hx,hm⟩)
theorem Pw{m:List (List UInt8×JV)}{d:Nat}(h: ∀e∈m,vu e.1=true∧JV.wrong d e.2=false)(hn:(m.map Prod.fst).Nodup):JV.wrong (d+1) (MH m)=false:=by
 show(false||false||!(true&&true&&true&&true&&(true||decide (m.length=0)))||!true||JV.badM (JV.wrong d) [] m||false)=false
 rw[qk (λe he=>⟨(h e he).1,(h e he).2,λh=>by cases h⟩) hn]
 cases decide (m.length=0)<;>rfl
theorem B3{l:List JV}{d:Nat}(h: ∀x∈l,JV.wrong d x=false):JV.wrong (d+1) (Sr l)=false:=by
 show(false||false||!(true&&true&&true&&(true||decide (l.length=0))&&true)||!true||false||l.any (JV.wrong d))=false
 rw[V6.2 λx hx=>by rw[h x hx];decide]
 cases decide (l.length=0)<;>rfl
theorem N0{m:List (List UInt8×JV)}{d:Nat}(h: ∀e∈m,JV.deep d e.2=false):JV.deep (d+1) (MH m)=false:=by
 show(false||m.any λe=>JV.deep d e.2)=false
 rw[V6.2 λe he=>by rw[h e he];decide];rfl
theorem AH{l:List JV}{d:Nat}(h: ∀x∈l,JV.deep d x=false):JV.deep (d+1) (Sr l)=false:=by
 show(l.any (JV.deep d)||false)=false
 rw[V6.2 λe he=>by rw[h e he];decide];rfl
theorem vz{l:List NP}(h:eK l):((l.map Nl).map Prod.fst).Nodup:=by
 rw[Wt]
 show(l.map λp=>p.1).Nodup
 refine List.pairwise_iff_getElem.2 λi j hi hj hij=>?_
 rw[Zi] at hi hj
 rw[Rp,Rp]
 intro e
 have:=h.up i j hij hj
 rw[Za,Za,Zg hi,Zg hj] at this
 have this:Yn l[i].1 l[j].1=true:=this
 rw[e] at this
 exact Ee _ this
theorem vk: ∀k∈([[100,105,103,101,115,116],[109,101,100,105,97,84,121,112,101],[115,105,122,101],[97,110,110,111,116,97,116,105,111,110,115],[109,97,110,105,102,101,115,116,115],[115,99,104,101,109,97,86,101,114,115,105,111,110],[99,111,110,102,105,103],[108,97,121,101,114,115],[97,114,99,104,105,116,101,99,116,117,114,101],[111,115],[114,111,111,116,102,115],[100,105,102,102,95,105,100,115],[116,121,112,101]]:List (List UInt8)),vu k=true:=λk hk=>Ej (by
 have:([[100,105,103,101,115,116],[109,101,100,105,97,84,121,112,101],[115,105,122,101],[97,110,110,111,116,97,116,105,111,110,115],[109,97,110,105,102,101,115,116,115],[115,99,104,101,109,97,86,101,114,115,105,111,110],[99,111,110,102,105,103],[108,97,121,101,114,115],[97,114,99,104,105,116,101,99,116,117,114,101],[111,115],[114,111,111,116,102,115],[100,105,102,102,95,105,100,115],[116,121,112,101]]:List (List UInt8)).all (λk=>k.all λb=>decide (b.toNat<128))=true:=by decide
 exact YR.1 this k hk)
theorem B0{x:Vz}(h:He x)(d:Nat):JV.wrong (d+2) (dJ x)=false:=by
 unfold dJ Hq
 by_cases h0:x.l=[]
 ·rw[if_pos h0,Yl]
  refine Pw (λe he=>?_) (by show([[100,105,103,101,115,116],[109,101,100,105,97,84,121,112,101],[115,105,122,101]]:List (List UInt8)).Nodup;decide)
  simp only[ZN,YL,or_false] at he
  rcases he with rfl|rfl|rfl
  ·exact⟨vk _ (by simp),TV (BW _) _⟩
  ·exact⟨vk _ (by simp),TV (fY h) _⟩
  ·exact⟨vk _ (by simp),Ju _ _⟩
 ·rw[if_neg h0]
  refine Pw (λe he=>?_) (by show([[100,105,103,101,115,116],[109,101,100,105,97,84,121,112,101],[115,105,122,101],[97,110,110,111,116,97,116,105,111,110,115]]:List (List UInt8)).Nodup;decide)
  simp only[V7,Xs,ZN,YL,or_false] at he
  rcases he with rfl|rfl|rfl|rfl
  ·exact⟨vk _ (by simp),TV (BW _) _⟩
  ·exact⟨vk _ (by simp),TV (fY h) _⟩
  ·exact⟨vk _ (by simp),Ju _ _⟩
  ·refine⟨vk _ (by simp),Pw (λe he=>?_) (vz h.ns)⟩
   obtain⟨p,hp,rfl⟩:=YC.1 he
   exact⟨(h.ns.each p hp).1,TV (h.ns.each p hp).2 _⟩
theorem AG(x:Vz)(d:Nat):JV.deep (d+3) (dJ x)=false:=by
 unfold dJ Hq
 refine N0 λe he=>?_
 rcases Zy.1 he with he|he
 ·simp only[ZN,YL,or_false] at he
  rcases he with rfl|rfl|rfl<;>rfl
 ·split at he
  ·cases he
  ·rw[YP.1 he]
   refine N0 λe he=>?_
   obtain⟨p,_,rfl⟩:=YC.1 he
   rfl
theorem Cb{v:JV}(h1:JV.wrong 32 v=false)(h2:JV.deep 32 v=false):JV.check v=0:=by
 unfold JV.check
 rw[h1,h2];rfl
theorem E1{L:List Vz}(h: ∀x∈L,He x)(d:Nat):JV.wrong (d+3) (Sr (L.map dJ))=false:=B3 λx hx=>by
 obtain⟨y,hy,rfl⟩:=YC.1 hx
 exact B0 (h y hy) d
theorem Cf(L:List Vz)(d:Nat):JV.deep (d+4) (Sr (L.map dJ))=false:=AH λx hx=>by
 obtain⟨y,hy,rfl⟩:=YC.1 hx
 exact AG y d
theorem wW{L:List Vz}(h: ∀x∈L,He x):JV.check (NJ L)=0:=by
 refine Cb (Pw (d:=31) (λe he=>?_) (by show([[109,97,110,105,102,101,115,116,115],[109,101,100,105,97,84,121,112,101],[115,99,104,101,109,97,86,101,114,115,105,111,110]]:List (List UInt8)).Nodup;decide)) (N0 (d:=31) λe he=>?_)
 ·simp only[ZN,YL,or_false] at he
  rcases he with rfl|rfl|rfl
  ·exact⟨vk _ (by simp),E1 h 28⟩
  ·exact⟨vk _ (by simp),TV ZaM _⟩
  ·exact⟨vk _ (by simp),Ju _ _⟩
 ·simp only[ZN,YL,or_false] at he
  rcases he with rfl|rfl|rfl
  ·exact Cf L 27
  ·rfl
  ·rfl
theorem wV{x:Vz}{L:List Vz}(hx:He x)(h: ∀x∈L,He x):JV.check (NI x L)=0:=by
 refine Cb (Pw (d:=31) (λe he=>?_) (by show([[99,111,110,102,105,103],[108,97,121,101,114,115],[109,101,100,105,97,84,121,112,101],[115,99,104,101,109,97,86,101,114,115,105,111,110]]:List (List UInt8)).Nodup;decide)) (N0 (d:=31) λe he=>?_)
 ·simp only[ZN,YL,or_false] at he
  rcases he with rfl|rfl|rfl|rfl
  ·exact⟨vk _ (by simp),B0 hx 29⟩
  ·exact⟨vk _ (by simp),E1 h 28⟩
  ·exact⟨vk _ (by simp),TV ZaL _⟩
  ·exact⟨vk _ (by simp),Ju _ _⟩
 ·simp only[ZN,YL,or_false] at he
  rcases he with rfl|rfl|rfl|rfl
  ·exact AG x 28
  ·exact Cf L 27
  ·rfl
  ·rfl
theorem yu{a b:List UInt8}(L:List (List UInt8))(ha:vu a=true)(hb:vu b=true):JV.check (Px a b L)=0:=by
 refine Cb (Pw (d:=31) (λe he=>?_) (by show([[97,114,99,104,105,116,101,99,116,117,114,101],[111,115],[114,111,111,116,102,115]]:List (List UInt8)).Nodup;decide)) (N0 (d:=31) λe he=>?_)
 ·simp only[ZN,YL,or_false] at he
  rcases he with rfl|rfl|rfl
  ·exact⟨vk _ (by simp),TV ha _⟩
  ·exact⟨vk _ (by simp),TV hb _⟩
  ·refine⟨vk _ (by simp),Pw (d:=30) (λe he=>?_) (by show([[100,105,102,102,95,105,100,115],[116,121,112,101]]:List (List UInt8)).Nodup;decide)⟩
   simp only[ZN,YL,or_false] at he
   rcases he with rfl|rfl
   ·refine⟨vk _ (by simp),B3 (d:=29) λx hx=>?_⟩
    obtain⟨y,_,rfl⟩:=YC.1 hx
    exact TV (BW _) _
   ·exact⟨vk _ (by simp),TV (Ej (by decide)) _⟩
 ·simp only[ZN,YL,or_false] at he
  rcases he with rfl|rfl|rfl
  ·rfl
  ·rfl
  ·refine N0 (d:=30) λe he=>?_
   simp only[ZN,YL,or_false] at he
   rcases he with rfl|rfl
   ·refine AH (d:=29) λx hx=>?_
    obtain⟨y,_,rfl⟩:=YC.1 hx
    rfl
   ·rfl
section
variable {Zp:Lib} {fs:T CF} {fuel k n i h b:Nat} {H H0:Heap} {s:List UInt8} {cs:List AV}
def Zdl(H:Heap)(T:List UInt8)(r:AV):Prop:= ∃b,r=.tup [.slice b 0 T.length none,nI .i64 0]∧b<H.nx∧H.t.get b=some (rG 5 1 (T.map XM) 0 true true false)
def OB(H:Heap)(ok:Bool)(T:List UInt8)(r:AV):Prop:=(ok=false∧r=.tup [.nils,nI .i64 1])∨(ok=true∧Zdl H T r)
theorem OB.keep{H H':Heap}{ok:Bool}{T:List UInt8}{r:AV}(h:OB H ok T r)(k:Zq H H' []):OB H' ok T r:=by
 rcases h with h|⟨h,b,e,hb,g⟩
 ·exact .inl h
 ·exact .inr ⟨h,b,e,ZO hb k.nx,by rw[k.get b hb (by simp)];exact g⟩
theorem rh(E:Env Zp fs fuel){f:AV}:ZJ (LK Zp fs fuel k) fs fuel (n+1) 18 [.bool false,f] H=.ret (.tup [.nils,nI .i64 1]) H:=by
 rw[ZL (ZF E.n18 (.inr rfl) _ _) E.f18]
 simp only[c18,ZC,ZY,Zz,Zw,Z4]
theorem xy(E:Env Zp fs fuel)(M:pY Zp){F:Nat}(hk:5<=k){x:AV}{v:JV}{H1:Heap}(g:PC H)(gu:Vy H)(hro:H.ro<=H.nx)(ev:ZJ (LK Zp fs fuel k) fs fuel (n+2) F [x] H=.ret (.agg cs) H1)(k1:Zq H H1 [])(hv:VR H1 7 v cs)(hok:JV.ok 7 v)(htb:JV.tb 7 v<=800000000)(hne:JV.text 7 v≠[])(hc:JV.check v=0):
  ∃r H',ZJ (LK Zp fs fuel k) fs fuel (n+3) 18 [.bool true,.func F [x] []] H=.ret r H'∧Zq H H' []∧Zdl H' (JV.text 7 v) r:=by
 rw[ZL (ZF E.n18 (.inr rfl) _ _) E.f18]
 have ep:=ZjJ E M (k:=k) (n:=n) (h:=7) hk (by decide) (H:=H1) (g.keep k1 (by simp)) (gu.keep0 k1) (by rw[k1.ro];exact Zn hro k1.nx) hv hok htb hne
 rw[if_pos hc] at ep
 obtain⟨H2,hH2⟩:=XZ ((H1.new (rH 73 cs)).new (rG 5 1 ((JV.text 7 v).map XM) 0 true true false))
 rw[hH2] at ep
 generalize JV.text 7 v=T at*
 simp only[ev,ep,Pa,Yl,c18,ZC,ZY,Zz,Zw,Z4]
 refine⟨_,_,rfl,?_,H1.nx+1,rfl,by rw[<-hH2];exact Yo _,by rw[<-hH2];exact Zx rfl _⟩
 exact k1.trans' (by rw[<-hH2];exact(Zq.new _ _ _).then_new _)
theorem pg{f:Nat}{x:List AV}(h:U7 n x=true):Xm n (.func f [.agg x] [])=true:=by
 show cond (cond (U7 n x) true false) true false=true
 rw[h];rfl
theorem jL(x:Vz)(L:List Vz):JV.text 7 (NI x L)≠[]:=by unfold NI;rw[QV];simp
theorem jP(L:List Vz):JV.text 7 (NJ L)≠[]:=by unfold NJ;rw[QV];simp
theorem ov(a b:List UInt8)(L:List (List UInt8)):JV.text 7 (Px a b L)≠[]:=by unfold Px;rw[QV];simp
theorem Hj{media:List UInt8}{L:List Vz}(h:RG media L=true):L.length<=127∧ ∀x∈L,He x∧x.md=media:=by
 unfold RG at h
 rw[Yj] at h
 refine⟨Zo h.1,λx hx=>?_⟩
 have h2:L.any (Ut media)=false:=by simpa using h.2
 have:=V6.1 h2 x hx
 unfold Ut at this
 rw[Bool.not_eq_true,V5] at this
 exact⟨sS (by simpa using this.2),by simpa using this.1⟩
theorem He.good{x:Vz}(h:He x):xX x:=by
 have:=sA h
 exact⟨h.z0,by have:=h.z1;omega,by omega⟩
theorem OA.bd{x:Vz}(h:OA H cs x):BD x:=by
 obtain⟨v,_,_,hd,_,hs⟩:=h
 refine⟨hd,λp hp=>?_⟩
 obtain⟨i,hi,rfl⟩:=W6.1 hp
 have:=hs i
 rw[Za,Zg hi] at this
 exact this
theorem Te.bd{v:AV}{L:List Vz}(h:Te H v L): ∀x∈L,BD x:=λx hx=>by
 obtain⟨ls,_,_,hc⟩:=h
 obtain⟨i,hi,rfl⟩:=W6.1 hx
 have:=(hc i hi).bd
 rw[Za,Zg hi] at this
 exact this
theorem OA.len{x:Vz}(h:OA H cs x):cs.length=35:=by
 obtain⟨nv,e,_,hd,_⟩:=h
 rw[e,Zh,Zf,Zi,hd];rfl
theorem gP(E:Env Zp fs fuel)(M:pY Zp)(hk:5<=k){v:AV}{x:Vz}{L:List Vz}(g:PC H)(gu:Vy H)(hro:H.ro<=H.nx)(hc:OA H cs x)(hV:Te H v L)(hL:L.length<=1000):
  ∃r H',ZJ (LK Zp fs fuel k) fs fuel (n+12) 6 [.agg (cs++[v])] H=.ret r H'∧Zq H H' []∧OB H' (RG Qh [x]&&RG RW L) (MZ x L) r:=by
 rw[ZL (ZF E.n6 (.inr rfl) _ _) E.f6]
 have hln:((cs++[v])).length=36:=by rw[Zf,hc.len];rfl
 have hlow: ∀n,H.nx<=n->U7 n (cs++[v])=true:=λn hn=>Gh (hc.low hn) (by rw[W4,hV.slv.2 n hn];rfl)
 have hsame:XB (cs++[v]) (cs++[v])=true:=Jq hc.same (by unfold XB;rw[KT hV.slv.1];unfold XB;rfl)
 obtain⟨okb,Jy⟩: ∃qq:Bool,(RG Qh [x]&&RG RW L)=qq:=⟨_,rfl⟩
 rw[Jy]
 obtain⟨cv,hcv⟩:=XZ ((cs++[v]))
 obtain⟨H1,hH1⟩:=XZ (H.new (rH 38 cv))
 have k1:Zq H H1 []:=by rw[<-hH1];exact Zq.new H _ _
 have U2:H1.nx=H.nx+1:=by rw[<-hH1];rfl
 have Rm:H1.ro<=H1.nx:=by rw[k1.ro];exact Zn hro k1.nx
 obtain⟨H2,e2,k2⟩:=jO E (k:=k) (n:=n) (by omega) Rm (λG hG=>gu.keep0 (k1.trans' hG)) (hc.keep k1) (hV.keep k1) hL
 rw[Jy] at e2
 rw[hcv] at hln hlow hsame e2 ⊢
 have bx:=YU (l:=cv) (by omega) 38 H
 rw[hH1] at bx
 have g1:H1.t.get H.nx=some (rH 38 cv):=by rw[<-hH1];exact Zx rfl _
 have g2:H2.t.get H.nx=some (rH 38 cv):=by rw[k2.get _ (by omega) (by simp)];exact g1
 have lN: ∀G,ldN 36 (some (rH 38 cv)) 0 G=.val (.agg cv) G:=λG=>by
  rw[X8 (by omega),Z6,ZB (by omega)]
 have Kq:=k1.trans' k2
 have n2:=k2.nx
 have ii:=hlow H1.nx (by omega)
 have lc2:=hlow H2.nx (by omega)
 have sc:=λn T=>VE hsame n T
 have Qw:H2.ro<=H2.nx:=by rw[k2.ro];exact Zn Rm n2
 cases okb with
 |false=>
  have e3:=rh E (k:=k) (n:=n+10) (f:=.func 20 [.agg cv] []) (H:=H2)
  have e3:ZJ (LK Zp fs fuel k) fs fuel (n+11) 18 [.bool false,.func 20 [.agg cv] []] H2=.ret (.tup [.nils,nI .i64 1]) H2:=e3
  simp only[bx,g1,g2,lN,ii,sc,e2,e3,WP,Y8,PT,ZE,Yb,c6,ZC,ZY,Zz,Zw,Zr,Zt,Nat.reducePow,Nat.reduceDiv,Nat.reduceMod,reduceCtorEq,Z4]
  refine⟨_,_,rfl,Kq,.inl ⟨rfl,rfl⟩⟩
 |true=>
  rw[Yj] at Jy
  obtain⟨_,ox⟩:=Hj Jy.1
  obtain⟨hl,oL⟩:=Hj Jy.2
  have ox:=(ox x (YP.2 rfl)).1
  have oL: ∀x∈L,He x:=λx hx=>(oL x hx).1
  obtain⟨cs3,H3,e3,k3,hv3⟩:=sE E (k:=k) (n:=n+2) (by omega) hL Qw (hc.keep Kq) ox.good (hV.keep Kq) λx hx=>(oL x hx).good
  rw[hcv] at e3
  obtain⟨r,H4,e4,k4,b,rfl,hb,gb⟩:=xy E M (n:=n+8) hk (g.keep Kq (by simp)) (gu.keep0 Kq) Qw (F:=20) (x:=.agg cv) (v:=NI x L) e3 k3 (hv3.vr.up (by decide)) (jM ox oL) (jN ⟨ox,hc.bd⟩ hL λx hx=>⟨oL x hx,hV.bd x hx⟩) (jL x L) (wV ox oL)
  rw[tM ox oL] at gb e4
  have e4:ZJ (LK Zp fs fuel k) fs fuel (n+11) 18 [.bool true,.func 20 [.agg cv] []] H2=.ret (.tup [.slice b 0 ((MZ x L)).length none,nI .i64 0]) H4:=e4
  have lb:Xm H4.nx (.slice b 0 ((MZ x L)).length none)=true:=Xk hb _ _ _
  generalize(MZ x L)=T at*
  simp only[bx,g1,g2,lN,ii,sc,lb,e2,e4,WP,Y8,PT,ZE,Yb,c6,ZC,ZY,Zz,Zw,Zr,Zt,Nat.reducePow,Nat.reduceDiv,Nat.reduceMod,reduceCtorEq,Z4]
  exact⟨_,_,rfl,Kq.trans' k4,.inr ⟨rfl,b,rfl,hb,gb⟩⟩
theorem gQ(E:Env Zp fs fuel)(M:pY Zp)(hk:5<=k){v:AV}{L:List Vz}(g:PC H)(gu:Vy H)(hro:H.ro<=H.nx)(hV:Te H v L)(hL:L.length<=1000):
  ∃r H',ZJ (LK Zp fs fuel k) fs fuel (n+12) 10 [.agg [v]] H=.ret r H'∧Zq H H' []∧OB H' (RG U6 L) (M0 L) r:=by
 rw[ZL (ZF E.n10 (.inr rfl) _ _) E.f10]
 have hln:([v]).length=1:=rfl
 have hlow: ∀n,H.nx<=n->U7 n [v]=true:=λn hn=>by rw[W4,hV.slv.2 n hn];rfl
 have hsame:XB [v] [v]=true:=by unfold XB;rw[KT hV.slv.1];unfold XB;rfl
 obtain⟨okb,Jy⟩: ∃qq:Bool,(RG U6 L)=qq:=⟨_,rfl⟩
 rw[Jy]
 obtain⟨cv,hcv⟩:=XZ ([v])
 obtain⟨H1,hH1⟩:=XZ (H.new (rH 48 cv))
 have k1:Zq H H1 []:=by rw[<-hH1];exact Zq.new H _ _
 have U2:H1.nx=H.nx+1:=by rw[<-hH1];rfl
 have Rm:H1.ro<=H1.nx:=by rw[k1.ro];exact Zn hro k1.nx
 obtain⟨H2,e2,k2⟩:=eg E (k:=k) (n:=n) (by omega) Rm (λG hG=>gu.keep0 (k1.trans' hG)) (hV.keep k1) hL
 rw[Jy] at e2
 rw[hcv] at hln hlow hsame e2 ⊢
 have bx:=YU (l:=cv) (by omega) 48 H
 rw[hH1] at bx
 have g1:H1.t.get H.nx=some (rH 48 cv):=by rw[<-hH1];exact Zx rfl _
 have g2:H2.t.get H.nx=some (rH 48 cv):=by rw[k2.get _ (by omega) (by simp)];exact g1
 have lN: ∀G,ldN 1 (some (rH 48 cv)) 0 G=.val (.agg cv) G:=λG=>by
  rw[X8 (by omega),Z6,ZB (by omega)]
 have Kq:=k1.trans' k2
 have n2:=k2.nx
 have ii:=hlow H1.nx (by omega)
 have lc2:=hlow H2.nx (by omega)
 have sc:=λn T=>VE hsame n T
 have Qw:H2.ro<=H2.nx:=by rw[k2.ro];exact Zn Rm n2
 cases okb with
 |false=>
  have e3:=rh E (k:=k) (n:=n+10) (f:=.func 24 [.agg cv] []) (H:=H2)
  have e3:ZJ (LK Zp fs fuel k) fs fuel (n+11) 18 [.bool false,.func 24 [.agg cv] []] H2=.ret (.tup [.nils,nI .i64 1]) H2:=e3
  simp only[bx,g1,g2,lN,ii,sc,e2,e3,WP,Y8,PT,ZE,Yb,c10,ZC,ZY,Zz,Zw,Zr,Zt,Nat.reducePow,Nat.reduceDiv,Nat.reduceMod,reduceCtorEq,Z4]
  refine⟨_,_,rfl,Kq,.inl ⟨rfl,rfl⟩⟩
 |true=>
  obtain⟨hl,oL⟩:=Hj Jy
  have oL: ∀x∈L,He x:=λx hx=>(oL x hx).1
  obtain⟨cs3,H3,e3,k3,hv3⟩:=tS E (k:=k) (n:=n+2) (by omega) hL Qw (hV.keep Kq) λx hx=>(oL x hx).good
  rw[hcv] at e3
  obtain⟨r,H4,e4,k4,b,rfl,hb,gb⟩:=xy E M (n:=n+8) hk (g.keep Kq (by simp)) (gu.keep0 Kq) Qw (F:=24) (x:=.agg cv) (v:=NJ L) e3 k3 (hv3.vr.up (by decide)) (jQ oL) (jR hL λx hx=>⟨oL x hx,hV.bd x hx⟩) (jP L) (wW oL)
  rw[tN oL] at gb e4
  have e4:ZJ (LK Zp fs fuel k) fs fuel (n+11) 18 [.bool true,.func 24 [.agg cv] []] H2=.ret (.tup [.slice b 0 ((M0 L)).length none,nI .i64 0]) H4:=e4
  have lb:Xm H4.nx (.slice b 0 ((M0 L)).length none)=true:=Xk hb _ _ _
  generalize(M0 L)=T at*
  simp only[bx,g1,g2,lN,ii,sc,lb,e2,e4,WP,Y8,PT,ZE,Yb,c10,ZC,ZY,Zz,Zw,Zr,Zt,Nat.reducePow,Nat.reduceDiv,Nat.reduceMod,reduceCtorEq,Z4]
  exact⟨_,_,rfl,Kq.trans' k4,.inr ⟨rfl,b,rfl,hb,gb⟩⟩
theorem Na.slv{v:AV}{L:List (List UInt8)}(h:Na H v L):AI.same v v=true∧(∀n,H.nx<=n->Xm n v=true)∧ ∀G,RV v G=.val (nI .i64 L.length) G:=by
 obtain⟨ls,sl,e,_⟩:=h
 exact⟨sl.sam,λn hn=>sl.low hn,λG=>by rw[<-e];exact sl.len G⟩
def okC(a b:List UInt8)(L:List (List UInt8)):Bool:=((decide (a.length<=255)&&vu a)&&(decide (b.length<=255)&&vu b))&&decide (L.length<=127)
theorem Na.len32{v:AV}{L:List (List UInt8)}(h:Na H v L): ∀d∈L,d.length=32:=λd hd=>by
 obtain⟨ls,_,_,h⟩:=h
 obtain⟨i,hi,rfl⟩:=W6.1 hd
 have:=(h i hi).2
 rw[Za,Zg hi] at this
 exact this
theorem gO(E:Env Zp fs fuel)(M:pY Zp)(hk:5<=k){a b:List UInt8}{v:AV}{L:List (List UInt8)}(g:PC H)(gu:Vy H)(hro:H.ro<=H.nx)(ha:a.length<=9000)(hb:b.length<=9000)(hV:Na H v L)(hL:L.length<=1000):
  ∃r H',ZJ (LK Zp fs fuel k) fs fuel (n+12) 12 [.agg [.str a,.str b,v]] H=.ret r H'∧Zq H H' []∧OB H' (okC a b L) (Oj a b L) r:=by
 rw[ZL (ZF E.n12 (.inr rfl) _ _) E.f12]
 have hln:([.str a,.str b,v]).length=3:=rfl
 have hlow: ∀n,H.nx<=n->U7 n [.str a,.str b,v]=true:=λn hn=>by rw[W4,W4,W4,hV.slv.2.1 n hn];rfl
 have hsame:XB [.str a,.str b,v] [.str a,.str b,v]=true:=by unfold XB;rw[QR];unfold XB;rw[QR];unfold XB;rw[hV.slv.1];unfold XB;rfl
 obtain⟨okb,Jy⟩: ∃qq:Bool,(okC a b L)=qq:=⟨_,rfl⟩
 rw[Jy]
 obtain⟨cv,hcv⟩:=XZ ([.str a,.str b,v])
 obtain⟨H1,hH1⟩:=XZ (H.new (rH 52 cv))
 have k1:Zq H H1 []:=by rw[<-hH1];exact Zq.new H _ _
 have U2:H1.nx=H.nx+1:=by rw[<-hH1];rfl
 have Rm:H1.ro<=H1.nx:=by rw[k1.ro];exact Zn hro k1.nx
 obtain⟨H2,e2,k2⟩:=kQ E (k:=k) (n:=n+8) (by omega) Rm (λG hG=>gu.keep0 (k1.trans' hG)) ha hb hV.slv.2.2
 have e2:ZJ (LK Zp fs fuel k) fs fuel (n+11) 25 [.agg [.str a,.str b,v]] H1=.ret (.bool (okC a b L)) H2:=e2
 rw[Jy] at e2
 rw[hcv] at hln hlow hsame e2 ⊢
 have bx:=YU (l:=cv) (by omega) 52 H
 rw[hH1] at bx
 have g1:H1.t.get H.nx=some (rH 52 cv):=by rw[<-hH1];exact Zx rfl _
 have g2:H2.t.get H.nx=some (rH 52 cv):=by rw[k2.get _ (by omega) (by simp)];exact g1
 have lN: ∀G,ldN 3 (some (rH 52 cv)) 0 G=.val (.agg cv) G:=λG=>by
  rw[X8 (by omega),Z6,ZB (by omega)]
 have Kq:=k1.trans' k2
 have n2:=k2.nx
 have ii:=hlow H1.nx (by omega)
 have lc2:=hlow H2.nx (by omega)
 have sc:=λn T=>VE hsame n T
 have lf1:=pg (f:=26) ii
 have lf2:=pg (f:=26) lc2
 have lp1:Xm H1.nx (.ptr H.nx 0)=true:=Yp (by omega) 0
 have lp2:Xm H2.nx (.ptr H.nx 0)=true:=Yp (by omega) 0
 have Qw:H2.ro<=H2.nx:=by rw[k2.ro];exact Zn Rm n2
 cases okb with
 |false=>
  have e3:=rh E (k:=k) (n:=n+10) (f:=.func 26 [.agg cv] []) (H:=H2)
  have e3:ZJ (LK Zp fs fuel k) fs fuel (n+11) 18 [.bool false,.func 26 [.agg cv] []] H2=.ret (.tup [.nils,nI .i64 1]) H2:=e3
  simp(maxSteps:=4000000) (disch:=first|assumption|omega|(simp -implicitDefEqProofs only[ZQ,ZR]<;>first|assumption|omega)|decide) only[bx,g1,g2,lN,ii,lc2,sc,lf1,lf2,lp1,lp2,e2,e3,WP,Y8,PT,ZE,Yb,Zs,ZZ,c12,ZC,ZY,Zz,Zw,Zr,Zt,ZA,Nat.reducePow,Nat.reduceDiv,Nat.reduceMod,Nat.reduceEqDiff,reduceCtorEq,Z4]
  refine⟨_,_,rfl,Kq,.inl ⟨rfl,rfl⟩⟩
 |true=>
  unfold okC at Jy
  rw[Yj,Yj,Yj,Yj] at Jy
  have va:=Jy.1.1.2
  have vb:=Jy.1.2.2
  obtain⟨cs3,H3,e3,k3,hv3⟩:=ti E (k:=k) (n:=n+2) (by omega) hL Qw ha hb (hV.keep Kq)
  rw[hcv] at e3
  obtain⟨r,H4,e4,k4,q,rfl,hq,gb⟩:=xy E M (n:=n+8) hk (g.keep Kq (by simp)) (gu.keep0 Kq) Qw (F:=26) (x:=.agg cv) (v:=Px a b L) e3 k3 (hv3.vr.up (by decide)) (ow a b L) (oz ha hb hL hV.len32) (ov a b L) (yu L va vb)
  rw[wA L va vb] at gb e4
  have e4:ZJ (LK Zp fs fuel k) fs fuel (n+11) 18 [.bool true,.func 26 [.agg cv] []] H2=.ret (.tup [.slice q 0 ((Oj a b L)).length none,nI .i64 0]) H4:=e4
  have lb:Xm H4.nx (.slice q 0 ((Oj a b L)).length none)=true:=Xk hq _ _ _
  generalize(Oj a b L)=T at*
  simp(maxSteps:=4000000) (disch:=first|assumption|omega|(simp -implicitDefEqProofs only[ZQ,ZR]<;>first|assumption|omega)|decide) only[bx,g1,g2,lN,ii,lc2,sc,lf1,lf2,lp1,lp2,lb,e2,e4,WP,Y8,PT,ZE,Yb,Zs,ZZ,c12,ZC,ZY,Zz,Zw,Zr,Zt,ZA,Nat.reducePow,Nat.reduceDiv,Nat.reduceMod,Nat.reduceEqDiff,reduceCtorEq,Z4]
  exact⟨_,_,rfl,Kq.trans' k4,.inr ⟨rfl,q,rfl,hq,gb⟩⟩
end
end
end Go.AI
