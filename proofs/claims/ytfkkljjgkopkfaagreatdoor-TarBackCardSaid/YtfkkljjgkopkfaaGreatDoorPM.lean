/- Attributes that wait, told in order of their names: walked; proved, conditions as named. -/
import Derived.Test.YtfkkljjgkopkfaaGreatDoorPK
import Derived.Test.YtfkkljjgkopkfaaGreatDoorP8
set_option maxRecDepth 1000000
set_option maxHeartbeats 0
set_option linter.all false
namespace Go.AI
open Go
noncomputable section
section
variable {Zq:Lib} {fs:T CF} {Zk k n i h b:Nat} {H H0:Heap} {s:Zd} {cs:List AV}
def xaS:Zd:=[83,67,72,73,76,89,46,120,97,116,116,114,46]
def Ih(p s:Zd):Zd:=if Qq p s=true then s.drop p.length else s
def NJ(x:NP):Option NP:=if (Qq xaS x.1&&!decide (Ih xaS x.1=[]))=true then some (Ih xaS x.1,x.2) else none
def V2(ws:List NP):List NP:=ws.filterMap NJ
def NE(es:List Ss)(al:List NP):Prop:=es.map (λe=>(e.key,e.val))=al.map λp=>(AV.str p.1,AV.agg [.str p.2])
def Ef{e:Ss}{es:List Ss}{p:NP}{al:List NP}(h:NE (e::es) (p::al)):e.key=.str p.1∧e.val=.agg [.str p.2]∧NE es al:=by
 unfold NE at h;rw[ZD,ZD,List.cons.injEq,Prod.mk.injEq] at h;exact⟨h.1.1,h.1.2,h.2⟩
theorem sB{done:List Ss->Nat->OR}{k:Zd}{v:AV}{c:Nat}: ∀{es:List Ss} {al:List NP} {pre:List Ss},NE es al->k∉al.map (·.1)->N1 QJ (.str k) v c (λl q=>done (pre++l) q) es=done (pre++(es++[⟨.str k,v,c⟩])) (c+1)
 |[],_,pre,_,_=>by simp[N1]
 |e::es,[],pre,h,_=>by unfold NE at h;simp at h
 |e::es,q::al,pre,h,hk=>by
  obtain⟨h1,_,h3⟩:=Ef h;rw[ZD] at hk;unfold N1;rw[h1,vL,Zc (λe=>hk (by rw[e];exact Zw ..))];show N1 QJ (.str k) v c (λl' c=>done (pre++(e::l')) c) es=_;have:=sB (done:=done) (v:=v) (c:=c) (pre:=pre++[e]) h3 (λhm=>hk (ZC _ hm));simp only[Yq,List.singleton_append] at this;rw[this];simp
theorem yI{no:OR}{yes:AV->OR}{k:Zd}: ∀{es:List Ss} {al:List NP},NE es al->(al.map (·.1)).Nodup->(k,s)∈al->V4 QJ (.str k) no yes es=yes (.agg [.str s])
 |[],al,h,_,hm=>by
  have:al=[]:=by
   unfold NE at h;cases al with
   |nil=>rfl
   |cons=>simp at h
  subst this;cases hm
 |e::es,[],h,_,_=>by unfold NE at h;simp at h
 |e::es,q::al,h,hn,hm=>by
  obtain⟨h1,h2,h3⟩:=Ef h;rw[ZD,SO] at hn;unfold V4;rw[h1,h2,vL];show cond (decide (k=q.1)) _ _=_;rcases ZY.1 hm with rfl|hm
  ·rw[Zi rfl];rfl
  ·rw[Zc (λe=>hn.1 (by rw[<-e];exact VQ (f:=Prod.fst) hm))]
   exact yI h3 hn.2 hm
theorem yJ: ∀{es:List Ss} {al:List NP},NE es al->Gj es=some (al.map (·.1))
 |[],[],_=>rfl
 |[],q::al,h=>by unfold NE at h;simp at h
 |e::es,[],h=>by unfold NE at h;simp at h
 |e::es,q::al,h=>by
  obtain⟨h1,_,h3⟩:=Ef h;unfold Gj;rw[h1,yJ h3];rfl
def gW{es:List Ss}{al:List NP}(h:NE es al)(k s:Zd)(c:Nat):NE (es++[⟨.str k,.agg [.str s],c⟩]) (al++[(k,s)]):=by
 unfold NE at h ⊢;rw[Xg,Xg,h];rfl
def upA{es:List Ss}{al:List NP}{c:Nat}(h:NE es al)(g:H.t.get b=some (.map es c))(hro:H.ro<=b){k:Zd}(hk:k∉al.map (·.1))(v:AV):ZjC QJ (.map b) (.str k) v H=.val Y9 (H.put b (.map (es++[⟨.str k,v,c⟩]) (c+1))):=by
 rw[Zfp,g];show ZJ (Nat.ble H.ro b) (N1 QJ (.str k) v c (λes c=>.val Y9 (H.put b (.map es c))) es)=_;rw[Zj hro];exact sB (done:=λes c=>OR.val Y9 (H.put b (.map es c))) (pre:=[]) h hk
def lkA{es:List Ss}{al:List NP}{c:Nat}(h:NE es al)(g:H.t.get b=some (.map es c))(hn:(al.map (·.1)).Nodup){k:Zd}(hk:(k,s)∈al)(z:AV):ZaJ QJ z false (.map b) (.str k) H=.val (.agg [.str s]) H:=by
 rw[Xz,g];show V4 QJ (.str k) _ _ es=_;rw[yI h hn hk];rfl
def vB{ws:List NP}(hi:i<ws.length):V2 (ws.take (i+1))=V2 (ws.take i)++(NJ (ws.getD i ([],[]))).toList:=by
 unfold V2;rw[WF,Zm hi,S2,Ze,Zm hi]
 congr 1
def tJ{ws:List NP}(i:Nat): ∃r,V2 ws=V2 (ws.take i)++r:=⟨V2 (ws.drop i),by unfold V2;rw[<-S2,XN]⟩
def gN(E:Env Zq fs Zk){p:Zd}(hs:s.length<=90000):
  ∃H',ZA (LK Zq fs Zk 1) fs Zk (n+2) 145 [.str s,.str p] H=.ret (.tup [.str (Ih p s),.bool (Qq p s)]) H'∧Zu H H' []:=by
 rw[Z5 E.f145 (.inl (by decide))];have e1:=λ{j}=>Zf0 E (k:=1) (n:=j) (by decide) (s:=s) (p:=p) (H:=H) hs;unfold Ih;cases hb:Qq p s with
 |false=>
  rw[hb] at e1;simp only[e1,Zdc,ZG,Yj,Zz,Yc,reduceCtorEq,Yg];refine⟨_,rfl,?_⟩;exact Zu.refl _ _
 |true=>
  rw[hb] at e1;have hpl:p.length<=s.length:=by
   unfold Qq at hb;rw[Z4] at hb;exact Zr hb.1
  simp(disch:=omega) only[e1,ZZ,Vy,Zdc,ZG,Yj,Zz,Yc,Yg];refine⟨_,rfl,?_⟩;exact Zu.refl _ _
def Zks(E:Env Zq fs Zk)(hk:2<=k){p:Zd}(hs:s.length<=90000):
  ZA (LK Zq fs Zk k) fs Zk (n+1) 145 [.str s,.str p] H=.ret (.tup [.str (Ih p s),.bool (Qq p s)]) H:=by
 obtain⟨H',e,g⟩:=gN E (n:=898) (H:=H) hs;exact Yh (r:=1) rfl rfl e g (rfl) hk
def gO(E:Env Zq fs Zk){p:Zd}(hs:s.length<=90000):
  ∃H',ZA (LK Zq fs Zk 2) fs Zk (n+2) 117 [.str s,.str p] H=.ret (.tup [.str (Ih p s),.bool (Qq p s)]) H'∧Zu H H' []:=by
 rw[Z5 E.f117 (.inl (by decide))];have e1:=λ{j}=>Zks E (k:=2) (n:=j) (by decide) (s:=s) (p:=p) (H:=H) hs;simp only[e1,Zg9,ZG,Yj,Zz,Yg];refine⟨_,rfl,?_⟩;exact Zu.refl _ _
def Zkt(E:Env Zq fs Zk)(hk:3<=k){p:Zd}(hs:s.length<=90000):
  ZA (LK Zq fs Zk k) fs Zk (n+1) 117 [.str s,.str p] H=.ret (.tup [.str (Ih p s),.bool (Qq p s)]) H:=by
 obtain⟨H',e,g⟩:=gO E (n:=898) (H:=H) hs;exact Yh (r:=2) rfl rfl e g (rfl) hk
structure AT1(Hs:Heap)(mb:Nat)(wv:AV)(ws:List NP)(m:Nat)(tm:TM)(H:Heap):Prop where
 k:Zu Hs H []
 nx:mb<H.nx
 t3:V0 tm=.map mb
 t15:Xs tm=wv
 t16:Xr tm=nI .i64 ws.length
 i: ∃i es cl,XK tm=nI .i64 i∧i+m=ws.length∧H.t.get mb=some (.map es cl)∧NE es (V2 (ws.take i))
def ZgO(Hs:Heap)(mb:Nat)(ws:List NP)(o:Out)(tm:TM)(H:Heap):Prop:=o=.exit 0∧Zu Hs H []∧mb<H.nx∧V0 tm=.map mb∧ ∃es cl,H.t.get mb=some (.map es cl)∧NE es (V2 ws)
def ZcI(E:Env Zq fs Zk)(hk:3<=k){Hs:Heap}{mb lo:Nat}{wv:AV}{ws:List NP}(hro:Hs.ro<=Hs.nx)(hmb:Hs.nx<=mb)(hw:WT Hs wv ws lo)(hs: ∀x∈ws,x.1.length<=90000)(hnd:((V2 ws).map (·.1)).Nodup)(y f dd qq)(X0:X)(m:Nat)(tm:TM)(H:Heap)(hI:AT1 Hs mb wv ws m tm H):
  ∃o tm' H',Hl ⟨ZA (LK Zq fs Zk k) fs Zk (n+1),y,f,dd,qq⟩ tm H X0=.ok o tm' H' X0∧((o=.normal∧ ∃k,k<m∧AT1 Hs mb wv ws k tm' H')∨(o≠.normal∧ZgO Hs mb ws o tm' H')):=by
 obtain⟨k0,hnx,t3,t15,t16,i,es,cl,t17,him,gm,hE⟩:=hI;have D7:=t3;have d9:=t15;have yg:=t16;simp only[Il,ZfU,jv,aY] at t3 t15 t16 t17;cases m with
 |zero=>
  have d1:decide (i<ws.length)=false:=Zc (by omega);simp only[t16,t17,d1,ZE,ZE,Hl,ZG,Yj,Yg];refine⟨_,_,_,rfl,?_⟩;exact .inr ⟨by simp,rfl,k0,hnx,D7,es,cl,gm,by rw[Z1 (by omega)] at hE;exact hE⟩
 |succ m=>
  have d1:decide (i<ws.length)=true:=Zi (by omega);have hi:i<ws.length:=by omega
  have hwl:=hw.2;have hsl:=(Sl.of_buf hw.1).keep k0 (λ_ _ _ _ _=>by simp);obtain⟨bb,o,r,eI,hb,gb,eL,_⟩:=hsl.at_ (i:=i) (by rw[Vm];exact hi);rw[Np hi] at eL;have hpush:=vB hi;have hm:ws.getD i ([],[])∈ws:=by rw[Ze,Zm hi];exact XD hi
  have hsx:=hs _ hm;obtain⟨rr,hrr⟩:=tJ (ws:=ws) (i+1);rw[hpush] at hrr;generalize ws.getD i ([],[])=x at eL hpush hm hsx hrr;obtain⟨p,s⟩:=x;have ep:=λ{j}=>Zkt E (k:=k) (n:=j) hk (s:=p) (p:=xaS) (H:=(H.new (rH 73 [.str [],.str []])).put H.nx (rH 73 [.str p,.str s])) hsx;obtain⟨H2,hH2⟩:=TO (H.new (rH 73 [.str [],.str []]));rw[hH2] at ep;obtain⟨H3,hH3⟩:=TO (H2.put H.nx (rH 73 [.str p,.str s]));rw[hH3] at ep;have nx2:H2.nx=H.nx+1:=by rw[<-hH2];rfl
  have nx3:H3.nx=H.nx+1:=by rw[<-hH3];exact nx2
  have k2:Zu H H2 []:=by rw[<-hH2];exact Zu.new _ _ _
  have k3:Zu H H3 []:=by rw[<-hH3];exact k2.then_put (by omega)
  have g2:H2.t.get H.nx=some (rH 73 [.str [],.str []]):=by rw[<-hH2];exact ZR rfl _
  have g3:H3.t.get H.nx=some (rH 73 [.str p,.str s]):=by rw[<-hH3];exact Yp _ _ _
  have st:=TL (n:=2) (b:=H.nx) (l:=[.str [],.str []]) (vs:=[.str p,.str s]) (H:=H2) rfl rfl (by decide) (by rw[k2.ro,k0.ro];have:=k0.nx;omega) 73 1 false true;rw[hH3] at st;have l0: ∀G,ld1 (some (rH 73 [.str p,.str s])) 0 G=.val (.str p) G:=λG=>XQ (show 0<2 by decide) ..;have l1: ∀G,ld1 (some (rH 73 [.str p,.str s])) 1 G=.val (.str s) G:=λG=>XQ (show 1<2 by decide) ..;have gm3:H3.t.get mb=some (.map es cl):=by rw[k3.get mb hnx (by simp)];exact gm
  have bd: ∀G:Heap,TS [.str []] [(0,1,.str s)] G=.val (.agg [.str s]) G:=λ_=>rfl;have xe:xaS=[83,67,72,73,76,89,46,120,97,116,116,114,46]:=rfl;rw[xe] at ep;have kk:=k0.trans' k3;cases hp:Qq [83,67,72,73,76,89,46,120,97,116,116,114,46] p with
  |false=>
   rw[hp] at ep;have hat:NJ (p,s)=none:=by
    unfold NJ;rw[xe,hp];rfl
   rw[hat] at hpush;simp(disch:=omega) only[t15,t16,t17,d1,eI,gb,eL,hH2,g2,g3,st,l0,ep,ZE,Y0,Zo,Zo,ZE,Zo,Hl,ZG,Yj,Yg,UH];refine⟨_,_,_,rfl,.inl ⟨rfl,m,by omega,kk,by omega,D7,d9,yg,i+1,es,cl,rfl,by omega,gm3,?_⟩⟩;rw[hpush];show NE es (V2 (ws.take i)++[]);rw[ZM];exact hE
  |true=>
   rw[hp] at ep
   by_cases he:Ih [83,67,72,73,76,89,46,120,97,116,116,114,46] p=[]
   ·have d2:decide (Ih [83,67,72,73,76,89,46,120,97,116,116,114,46] p=[])=true:=Zi he
    have hat:NJ (p,s)=none:=by
     unfold NJ;rw[xe,hp,d2];rfl
    rw[hat] at hpush;simp(disch:=omega) only[t15,t16,t17,d1,eI,gb,eL,hH2,g2,g3,st,l0,ep,d2,YI,ZE,VL,Y0,Zo,Zo,YI,ZE,Zo,Hl,ZG,Yj,Yg,UH];refine⟨_,_,_,rfl,.inl ⟨rfl,m,by omega,kk,by omega,D7,d9,yg,i+1,es,cl,rfl,by omega,gm3,?_⟩⟩;rw[hpush];show NE es (V2 (ws.take i)++[]);rw[ZM];exact hE
   ·have d2:decide (Ih [83,67,72,73,76,89,46,120,97,116,116,114,46] p=[])=false:=Zc he
    have hat:NJ (p,s)=some (Ih [83,67,72,73,76,89,46,120,97,116,116,114,46] p,s):=by
     unfold NJ;rw[xe,hp,d2];rfl
    rw[hat] at hpush hrr;have hnot:Ih [83,67,72,73,76,89,46,120,97,116,116,114,46] p∉(V2 (ws.take i)).map (·.1):=by
     rw[hrr] at hnd;have hnd:((V2 (ws.take i)++[(Ih [83,67,72,73,76,89,46,120,97,116,116,114,46] p,s)]++rr).map (·.1)).Nodup:=hnd
     rw[Xg,Xg] at hnd;have h1:=(T0.1 hnd).1;have h2:=(T0.1 h1).2.2;intro hmem;exact h2 _ hmem _ (Zw ..) rfl
    have up:=upA hE gm3 (by rw[k3.ro,k0.ro];omega) hnot (.agg [.str s]);generalize Ih [83,67,72,73,76,89,46,120,97,116,116,114,46] p=q at*;obtain⟨H4,MR⟩:=TO (H3.put mb (.map (es++[⟨.str q,.agg [.str s],cl⟩]) (cl+1)));rw[MR] at up;have g4:H4.t.get mb=some (.map (es++[⟨.str q,.agg [.str s],cl⟩]) (cl+1)):=by rw[<-MR];exact Yp _ _ _
    have k4:Zu Hs H4 []:=by rw[<-MR];exact kk.then_put (by omega)
    simp(disch:=omega) only[t3,t15,t16,t17,d1,eI,gb,eL,hH2,g2,g3,st,l0,l1,ep,d2,bd,up,YX,Ud,my,ZD,ZO,ZE,VL,Y0,Zo,Zl,Zl,Zo,YX,ZD,ZO,ZE,Zl,Zo,Hl,ZG,Yj,Yg,UH];refine⟨_,_,_,rfl,.inl ⟨rfl,m,by omega,k4,by rw[<-MR];show mb<H3.nx;omega,D7,d9,yg,i+1,_,_,rfl,by omega,g4,?_⟩⟩;rw[hpush];exact gW hE q s cl
def Zav(E:Env Zq fs Zk){mb:Nat}:ZA (LK Zq fs Zk k) fs Zk (n+1) 119 [.map mb] H=.ret (.func 148 [] [.ptr H.nx 0]) (H.new (rH 166 [.map mb])):=by
 rw[Z5 E.f119 (.inr rfl)];have bx: ∀G:Heap,MW 166 (.map mb) G=.val (.ptr G.nx 0) (G.new (rH 166 [.map mb])):=λG=>Gw rfl 166 G;simp only[bx,UJ,OA,Zha,ZG,Yj,Zz,Yg]
def fP{q mb:Nat}{es:List Ss}{cl:Nat}{al:List NP}(g:H.t.get q=some (rH 166 [.map mb]))(gm:H.t.get mb=some (.map es cl))(hE:NE es al)(h1:al.length<=1000)(h2: ∀x∈al,x.1.length<=100000)(h3:(al.map (·.1)).Nodup):Hx H q=some (al.map (·.1)):=by
 unfold Hx;rw[g];show xz H mb=_;unfold xz;rw[gm];show(match Gj es with|some ks=>cond (Nat.ble ks.length 1000) (cond (ks.all λs=>Nat.ble s.length 100000) (cond (decide ks.Nodup) (some ks) none) none) none|none=>none)=_;rw[yJ hE];show cond (Nat.ble (al.map (·.1)).length 1000) (cond ((al.map (·.1)).all λs=>Nat.ble s.length 100000) (cond (decide (al.map (·.1)).Nodup) (some (al.map (·.1))) none) none) none=_
 have ha:((al.map (·.1)).all λs=>Nat.ble s.length 100000)=true:=by
  rw[Ya];intro s hs;obtain⟨x,hx,rfl⟩:=YC.1 hs;exact Zj (h2 x hx)
 rw[Zj (by rw[Zx];exact h1),ha,Zi h3];rfl
def ly(E:Env Zq fs Zk){q mb:Nat}{es:List Ss}{cl:Nat}{al:List NP}(g:H.t.get q=some (rH 166 [.map mb]))(gm:H.t.get mb=some (.map es cl))(hE:NE es al)(h1:al.length<=1000)(h2: ∀x∈al,x.1.length<=100000)(h3:(al.map (·.1)).Nodup)(h4:QR (al.map (·.1))=al.map (·.1)):
  ∃sv H',(∀n,ZA (LK Zq fs Zk k) fs Zk (n+1) 118 [.func 148 [] [.ptr q 0]] H=.ret sv H')∧Zu H H' []∧((al=[]∧sv=.nils)∨ ∃b,sv=.slice b 0 al.length none∧b<H'.nx∧OT H' b (al.map (·.1))):=by
 have hk:=fP g gm hE h1 h2 h3;have hs:=E.so H q;have hm:pQ 148 [.func 148 [] [.ptr q 0]] H=(match Hx H q with|some []=>some (CR.ret .nils H)|some (a::l)=>some (.ret (.slice H.nx 0 (l.length+1) none) (H.new (FO (QR (a::l)))))|none=>none):=rfl;rw[hm,hk] at hs;cases al with
 |nil=>exact⟨_,_,λn=>Qh (fs:=fs) (Zk:=Zk) (k:=k) (n:=n) (Ta:=Ta) (Se:=Se) (f:=118) rfl hs,Zu.refl _ _,.inl ⟨rfl,rfl⟩⟩
 |cons x al=>
  have hs:Zq 118 [.func 148 [] [.ptr q 0]] H=some (.ret (.slice H.nx 0 ((al.map (·.1)).length+1) none) (H.new (FO (QR (x.1::al.map (·.1)))))):=hs
  have h4:QR (x.1::al.map (·.1))=x.1::al.map (·.1):=h4
  rw[h4,Zx] at hs;refine⟨_,_,λn=>Qh (fs:=fs) (Zk:=Zk) (k:=k) (n:=n) (Ta:=Ta) (Se:=Se) (f:=118) rfl hs,Zu.new _ _ _,.inr ⟨H.nx,rfl,ZU _,⟨_,ZR rfl _,rfl,?_,λi G hi=>?_⟩⟩⟩
  ·show(x.1::al.map (·.1)).length<=YN ((x.1::al.map (·.1)).map AV.str)
   rw[Yw,Zx];exact Zs _
  ·have hi2:i<(x.1::al.map (·.1)).length:=hi
   have:=XQ (o:=i) (l:=(x.1::al.map (·.1)).map AV.str) (by rw[Zx];exact hi2) 9 1 0 false true false G
   rw[Ze,Z3,Zm hi2] at this;show ld1 (some (rG 9 1 ((x.1::al.map (·.1)).map AV.str) 0 false true false)) i G=_
   rw[this,Ze,show(List.map (λx=>x.1) (x::al))[i]? =some ((x.1::al.map (·.1))[i]) from Zm hi2]
   rfl
def ZfF(o:Nat)(a:AV)(H:Heap):OR:=Fu a λcs=>Tu (HN cs o) λv=>.val v H
def Za8(x:WI)(o:Nat)(tm:TM)(H:Heap):Za7 x o tm H=ZfF o (x tm) H:=rfl
structure AT2(Hs:Heap)(mb lo:Nat)(sv:AV)(al:List NP)(m:Nat)(tm:TM)(H:Heap):Prop where
 k:Zu Hs H []
 t3:V0 tm=.map mb
 t40:Sn tm=sv
 t41:SG tm=nI .i64 al.length
 i: ∃i w,Sc tm=nI .i64 i∧i+m=al.length∧Xt tm=w∧TZ H w 44 2 (TN (al.take i)) lo
def ZgP(Hs:Heap)(lo:Nat)(al:List NP)(o:Out)(tm:TM)(H:Heap):Prop:=o=.exit 2∧Zu Hs H []∧ ∃w,Xt tm=w∧TZ H w 44 2 (TN al) lo
def ZcJ{Hs:Heap}{mb lo:Nat}{sv:AV}{al:List NP}{es:List Ss}{cl:Nat}(hro:Hs.ro<=Hs.nx)(hlo:Hs.nx<=lo)(hlo2:lo<=Hs.nx)(hmb:mb<Hs.nx)(gm:Hs.t.get mb=some (.map es cl))(hE:NE es al)(h1:al.length<=1000)(h3:(al.map (·.1)).Nodup)(hsv:(al=[]∧sv=.nils)∨ ∃b,sv=.slice b 0 al.length none∧b<Hs.nx∧OT Hs b (al.map (·.1)))(cx:Ctx)(X0:X)(m:Nat)(tm:TM)(H:Heap)(hI:AT2 Hs mb lo sv al m tm H):
  ∃o tm' H',Bn cx tm H X0=.ok o tm' H' X0∧((o=.normal∧ ∃k,k<m∧AT2 Hs mb lo sv al k tm' H')∨(o≠.normal∧ZgP Hs lo al o tm' H')):=by
 obtain⟨k0,t3,t40,t41,i,w,t42,him,t8,hw⟩:=hI;have D7:=t3;have Zfe:=t40;have Zju:=t41;have t8':=t8;simp only[Il,ZfV,ZfW,ZkX,G9] at t3 t40 t41 t42 t8;cases m with
 |zero=>
  have d1:decide (i<al.length)=false:=Zc (by omega);simp only[t41,t42,d1,ZE,ZE,Bn,ZG,Yj,UH];refine⟨_,_,_,rfl,?_⟩;exact .inr ⟨by simp,rfl,k0,w,t8',by rw[Z1 (by omega)] at hw;exact hw⟩
 |succ m=>
  have d1:decide (i<al.length)=true:=Zi (by omega);have hi:i<al.length:=by omega
  rcases hsv with⟨rfl,_⟩|⟨b,rfl,hb,hT⟩
  ·cases hi
  obtain⟨r,gr,_,_,ld⟩:=hT.keep hb k0;have hil:i<(al.map (·.1)).length:=by rw[Zx];exact hi
  have ldi:=λ(G:Heap)=>ld i G hil;have hnm:(al.map (·.1)).getD i []=(al.getD i ([],[])).1:=by
   rw[Ze,Z3,Ze,Zm hi];rfl
  rw[hnm] at ldi;have ix:=λ(G:Heap)=>XP hi b 0 none .i64 G;rw[Zl] at ix;have hmem:al.getD i ([],[])∈al:=by rw[Ze,Zm hi];exact XD hi
  have htk:al.take (i+1)=al.take i++[al.getD i ([],[])]:=EZ hi _;generalize al.getD i ([],[])=x at ldi hmem htk;obtain⟨p,s⟩:=x;have gmH:H.t.get mb=some (.map es cl):=by rw[k0.get mb hmb (by simp)];exact gm
  have lk:=lkA hE gmH h3 hmem (.agg [.str []]);have fl: ∀G,ZfF 0 (.agg [.str s]) G=.val (.str s) G:=λ_=>rfl;have bd: ∀G:Heap,TS [.str [],.str []] [(0,1,.str p),(1,1,.str s)] G=.val (.agg [.str p,.str s]) G:=λ_=>rfl;have bs: ∀G,US 44 2 1 [.str [],.str []] [(0,2,.agg [.str p,.str s])] G=.val (.slice G.nx 0 1 none) (G.new (rG 44 2 [.str p,.str s] 0 false true true)):=λ_=>rfl;obtain⟨w',H4,ea,w4,k4,_,n4⟩:=wj (bytes:=32) hw (by decide) (by decide) (by rw[Vm,Zy];omega) (by rw[k0.ro];have:=k0.nx;omega) (by have:=k0.nx;omega) (x:=[.str p,.str s]) rfl;obtain⟨_,_,_,bw⟩:=Wb hw;have nV:Zu Hs H4 []:=by
   refine⟨by have:=k0.nx;omega,by rw[k4.ro,k0.ro],λc hc _=>?_⟩;rw[k4.get c (by have:=k0.nx;omega) (λh=>by have:=(bw c h).1;omega),k0.get c hc (by simp)]
  simp(disch:=omega) only[t3,t8,t40,t41,t42,d1,gr,ix,ldi,lk,fl,bd,bs,ea,Za8,YM,Ud,YO,Ys,ZD,ZO,ZE,Y0,YM,YO,Ys,ZD,ZO,ZE,YM,Bn,ZG,Yj,Yg,UH];refine⟨_,_,_,rfl,.inl ⟨rfl,m,by omega,nV,D7,Zfe,Zju,i+1,w',rfl,by omega,rfl,?_⟩⟩;rw[htk,J4];exact w4
def hZ(E:Env Zq fs Zk)(hk:3<=k){q lo:Nat}{l:Zd}{wt:Bool}{wv ov:AV}{sp:Prop}{ws al:List NP}(hro:H.ro<=H.nx)(g:Lm sp H q l wt wv ov)(hw:WT H wv ws lo)(hs: ∀x∈ws,x.1.length<=90000)(hal:V2 ws=al)(hnd:(al.map (·.1)).Nodup)(hso:QR (al.map (·.1))=al.map (·.1))(hln: ∀x∈al,x.1.length<=100000)(nM:al.length<=16):
  ∃v H',ZA (LK Zq fs Zk k) fs Zk (n+2) 88 [.ptr q 0] H=.ret v H'∧Zu H H' []∧TZ H' v 44 2 (TN al) H.nx:=by
 rw[Z5 E.f88 (.inr rfl)];have hf:=E.big;obtain⟨⟨bv,h1,hb⟩,h4,h5,hlt,hroq⟩:=g;obtain⟨H1,hH1⟩:=TO (H.new (.map [] 0));have k1:Zu H H1 []:=by rw[<-hH1];exact Zu.new _ _ _
 have NB:H1.nx=H.nx+1:=by rw[<-hH1];rfl
 have g1:H1.t.get H.nx=some (.map [] 0):=by rw[<-hH1];exact ZR rfl _
 have h11:H1.t.get q=some (rH 69 [bv,wv,.bool wt,ov]):=by rw[k1.get q hlt (by simp)];exact h1
 have l1: ∀G,ld1 (some (rH 69 [bv,wv,.bool wt,ov])) 1 G=.val wv G:=λG=>XQ (show 1<4 by decide) ..;have lw:=λ(G:Heap)=>hw.1.len G;rw[Vm] at lw;have hwl:=hw.2;simp only[hH1,h11,l1,lw,eO,XA,XR,Zl,Zl,Zl,c88,ZG,Yj,Yg];generalize hL:Vq (Hl _) Zk _ _ _=L;obtain⟨o,OS,H2,rfl,_,rfl,k2,nx2,t3,es,cl,gm,hE⟩:=YP (P:=λT=>AT1 H H.nx wv ws ws.length T H1) (Q:=ZgO H H.nx ws)
  (λT hi=>Y5 (AT1 H H.nx wv ws) (ZgO H H.nx ws) (λm tm H2 h=>ZcI E (n:=n) hk hro (Zs _) hw hs (by rw[hal];exact hnd) _ _ _ _ _ m tm H2 h) Zk ws.length T H1 (by omega) hi) hL
  (by exact⟨k1,by omega,rfl,rfl,rfl,0,[],0,rfl,by omega,g1,rfl⟩)
 have D7:=t3;simp only[Il] at t3;rw[hal] at hE;have e1:=λ{j:Nat}=>Zav E (k:=k) (n:=j) (H:=H2) (mb:=H.nx);obtain⟨H3,hH3⟩:=TO (H2.new (rH 166 [.map H.nx]));rw[hH3] at e1;have k3:Zu H2 H3 []:=by rw[<-hH3];exact Zu.new _ _ _
 have nx3:H3.nx=H2.nx+1:=by rw[<-hH3];rfl
 have gq3:H3.t.get H2.nx=some (rH 166 [.map H.nx]):=by rw[<-hH3];exact ZR rfl _
 have gm3:H3.t.get H.nx=some (.map es cl):=by rw[k3.get _ nx2 (by simp)];exact gm
 obtain⟨sv,H4,e2,k4,hsv⟩:=ly E (k:=k) gq3 gm3 hE (by omega) hln hnd hso;have gm4:H4.t.get H.nx=some (.map es cl):=by rw[k4.get _ (by omega) (by simp)];exact gm3
 have ls: ∀G,Kq sv G=.val (nI .i64 al.length) G:=λG=>by
  rcases hsv with⟨rfl,rfl⟩|⟨b,rfl,_⟩
  ·exact N0 G
  ·exact WH ..
 have nV:Zu H H4 []:=(k2.trans' k3).trans' k4;have e2:=λ{j:Nat}=>e2 j;simp only[t3,e1,e2,ls,ZG,Yj,Yg,UH];generalize hL:Vq (Bn _) Zk _ _ _=L;obtain⟨o,tm2,H5,rfl,_,rfl,k5,w,t8,hw5⟩:=YP (P:=λT=>AT2 H4 H.nx H4.nx sv al al.length T H4) (Q:=ZgP H4 H4.nx al)
  (λT hi=>Y5 (AT2 H4 H.nx H4.nx sv al) (ZgP H4 H4.nx al) (λm tm H2 h=>ZcJ (by rw[nV.ro];have:=nV.nx;omega) (Zs _) (Zs _) (by have:=k4.nx;omega) gm4 hE (by omega) hnd hsv _ _ m tm H2 h) Zk al.length T H4 (by omega) hi) hL
  (by exact⟨Zu.refl _ _,by simp only[Yg,Yj];exact D7,rfl,rfl,0,.nils,rfl,by omega,rfl,.inl ⟨rfl,rfl⟩⟩)
 simp only[G9] at t8;have l5:=λ(G:Heap)=>hw5.len G;rw[Vm] at l5;have d1:decide (al.length<=16)=true:=Zi nM;have ew:=UL E (k:=k) (n:=n) (H:=H5) (e:=42);simp only[t8,l5,d1,ew,Y4,Y4,ZG,Yj,Zz,Yg,UH];refine⟨_,_,rfl,nV.trans' k5,?_⟩;have:=nV.nx;rcases hw5 with h|⟨a1,b,r,a2,a3,a4⟩
 ·exact .inl h
 ·exact .inr ⟨a1,b,r,a2,a3,by omega⟩
def Zjm(E:Env Zq fs Zk){v:AV}{l:Zd}(h:Sz H 1 v (ML l))(hl:l.length<=90000):
  ∃v' H',ZA (LK Zq fs Zk k) fs Zk (n+1) 85 [v] H=.ret v' H'∧BV H' v' l∧Zu H H' []∧ ∀b o m c,v'=.slice b o m c->H.nx<=b∧b<H'.nx:=by
 rw[Z5 E.f85 (.inr rfl)];rcases iJ h with en|⟨rfl,e0⟩
 ·have bs:US 5 1 0 (List.replicate 0 [nI .u8 0]).flatten [] H=.val (.slice H.nx 0 0 none) (H.new (rH 5 [])):=rfl
  have hk:Zu H (H.new (rH 5 [])) []:=Zu.new _ _ _;rcases kO (e:=5) (bytes:=1) h (by decide) (by decide) (by rw[U2];omega) with⟨ea,e0⟩|⟨ea,e0⟩
  ·have hz:l=[]:=by
    cases l with
    |nil=>rfl
    |cons a l=>cases e0
   simp only[en,bs,ea,YO,Ys,ZO,YO,Ys,ZO,c85,ZG,Yj,Zz,Yg];exact⟨_,_,rfl,.inl ⟨hz,.inr ⟨_,_,_,rfl⟩⟩,hk,λb o m c e=>by cases e;exact⟨Zs _,ZU _⟩⟩
  ·rw[Nu,U2] at ea
   have hne:l≠[]:=λe=>e0 (by rw[e];rfl);simp only[en,bs,ea,YO,Ys,ZO,YO,Ys,ZO,c85,ZG,Yj,Zz,Yg];exact⟨_,_,rfl,cY (H:=H.new (rH 5 [])) hne false,hk.then_new _,λb o m c e=>by cases e;exact⟨Ve _,ZU _⟩⟩
 ·have hz:l=[]:=by
   cases l with
   |nil=>rfl
   |cons a l=>cases e0
  simp only[kW,c85,ZG,Yj,Zz,Yg];exact⟨_,_,rfl,.inl ⟨hz,.inl rfl⟩,Zu.refl _ _,λb o m c e=>by cases e⟩
def Q0(Zq:Lib)(fs:T CF)(Zk K q b lo:Nat)(B:Zd)(ws:List NP)(key:Zd)(z:Int):Prop:=
 ∀(n:Nat) (G:Heap) (l:Zd) (wt:Bool) (wv ov:AV) (sp:Prop),V8 G->Lm sp G q l wt wv ov->WT G wv ws lo->HR G b B->
  ∃G',ZA (LK Zq fs Zk K) fs Zk (n+6) 84 [.ptr q 0,.ptr b 0,.str key] G=.ret (.int .i64 z) G'∧Zu G G' []
def E0(E:Env Zq fs Zk){K q lo:Nat}(hK:6<=K){B:Zd}{ws:List NP}{key:Zd}{z:Int}(hl:Proofs.lastR ws key=(QC z,true))(z1: -9223372036854775808<=z)(z2:z<=9223372036854775807):Q0 Zq fs Zk K q b lo B ws key z:=
 λn G l wt wv ov sp gH g hw _=>⟨G,ZiO E (k:=K) (n:=n+4) hK gH.g g hw hl z1 z2,Zu.refl _ _⟩
def Ib(E:Env Zq fs Zk){K q lo a m u:Nat}{B rest:Zd}{ws:List NP}{key:Zd}(hl:Proofs.lastR ws key=([],false))(F:CQ key a m)(hc:(B.drop a).take m=Qn k u++0::rest)(hk1:1<=k)(hk:k<=11)(hu:u<8^k)(hm:m<=20):Q0 Zq fs Zk K q b lo B ws key u:=
 λn G l wt wv ov sp gH g hw hB=>by
  obtain⟨G',e,k1⟩:=JE E (K:=K) (n:=n) gH hB F hc hk1 hk hu hm;exact⟨G',ZiN E (k:=K) (n:=n+4) g hw hl e,k1⟩
end
def Pd{H:Heap}{b o e:Nat}{l:List AV}{v:AV}{sm ex:Bool}(g:H.t.get b=some (rG e 1 l 0 sm true ex))(ho:o<l.length)(hro:H.ro<=b)(hv:v.cells=[v]):
  ∃H',F3 1 (some (rG e 1 l 0 sm true ex)) b o v H=.val Y9 H'∧H'.t.get b=some (rG e 1 (l.set o v) 0 sm true ex)∧Zu H H' [b]∧H'.nx=H.nx∧H'.ro=H.ro:=
 ⟨_,Te hv ho hro (ZN _) ..,Yp ..,Zu.put (λ_=>Zn.2 rfl),rfl,rfl⟩
end
end Go.AI
