/- A value's text is read as the value, plainly; Parse and the law, walked: proved, as each says. -/
import Derived.Test.YtmnmknjlgpjcbaaGreatDoorPF
import Derived.Test.YtmnmknjlgpjcbaaGreatDoorPA
import Derived.Test.YtmnmknjlgpjcbaaGreatDoorPG
import Derived.Test.YtmnmknjlgpjcbaaGreatDoorPB
import Derived.Test.YtmnmknjlgpjcbaaGreatDoorPD
import Derived.Test.YtmnmknjlgpjcbaaGreatDoorPE
set_option maxRecDepth 1000000
set_option maxHeartbeats 0
set_option linter.unusedVariables false
set_option linter.unusedSimpArgs false
namespace Go.AI
open Go
noncomputable section
theorem To{s:List UInt8}{i:Nat}{c:UInt8}{r:List UInt8}(h:s.drop i=c::r):Z3 s i=c.toNat∧i<s.length∧s.drop (i+1)=r:=by
 have hl:i<s.length:=by
  rcases Un i s.length with h1|h1
  ·exact h1
  ·rw[Y0 h1] at h;cases h
 refine⟨?_,hl,?_⟩
 ·have:=congrArg (λl=>l.getD 0 0) h
  simp only[Zf,X9,Zv] at this
  unfold Z3
  rw[Zf,this];rfl
 ·rw[<-U8,h];rfl
theorem Sx{s:List UInt8}{i:Nat}{a r:List UInt8}(h:s.drop i=a++r):s.drop (i+a.length)=r:=by
 rw[<-U8,h,List.drop_left]
theorem fp{s:List UInt8}{i:Nat}{a r:List UInt8}(h:s.drop i=a++r)(ha:a≠[]):i+a.length<=s.length:=by
 have:=congrArg List.length h
 rw[Z7,Zm] at this
 have:=XU.2 ha
 omega
def Bl(b:List UInt8):Prop:= ∀c∈b,blk c=true
def NoB(r:List UInt8):Prop:= ∀c q,r=c::q->blk c=false
theorem BO{p:UInt8->Bool}: ∀(b r:List UInt8),(∀c∈b,p c=true)->(∀c q,r=c::q->p c=false)->((b++r).takeWhile p).length=b.length
 |[],[],_,_=>rfl
 |[],c::q,_,h=>by rw[Xp,Wm (by rw[h c q rfl];simp)]
 |c::b,r,hb,h=>by
  rw[Xj,Wn (hb c (by simp)),Zl,BO b r (λx hx=>hb x (by simp[hx])) h];rfl
theorem OF{s:List UInt8}{i:Nat}{b r:List UInt8}(h:s.drop i=b++r)(hb:Bl b)(hr:NoB r):Z5 s i=i+b.length∧s.drop (Z5 s i)=r:=by
 have e:Z5 s i=i+b.length:=by unfold Z5;rw[h,BO b r hb hr]
 exact⟨e,by rw[e];exact Sx h⟩
theorem HG(s:List UInt8): ∀(w:List UInt8) (i:Nat) (r:List UInt8),s.drop i=w++r->Qe s w i=.ok () (i+w.length)
 |[],i,r,_=>rfl
 |c::w,i,r,h=>by
  obtain⟨h1,_,h3⟩:=To (r:=w++r) h
  show(if Z3 s i=c.toNat then Qe s w (i+1) else .bad 5 i)=_
  rw[if_pos h1,HG s w (i+1) r h3,Zl]
  congr 1;omega
theorem s4{m:Nat}: ∀c∈dec m,dg c=true:=λc h=>by
 have:=AS h
 unfold dg
 rw[Ze this.1,Ze this.2];rfl
def ND(r:List UInt8):Prop:= ∀c q,r=c::q->dg c=false
theorem zT{s:List UInt8}{p:Nat}{m:Nat}{r:List UInt8}(h:s.drop p=dec m++r)(hr:ND r):T6 s p=p+(dec m).length:=by
 unfold T6
 by_cases h0:m=0
 ·subst h0
  rw[fk] at h ⊢
  obtain⟨h1,_,_⟩:=To (r:=r) h
  unfold Z3 at h1
  rw[if_pos (by rw[h1];rfl)];rfl
 ·have hh:=fj m h0
  have hp:=O6 m
  rw[<-MH] at hp
  cases hd:dec m with
  |nil=>rw[hd] at hp;exact absurd hp (by simp)
  |cons c t=>
   rw[hd] at hh h
   have hh:c≠48:=hh
   obtain⟨h1,_,_⟩:=To (r:=t++r) h
   unfold Z3 at h1
   rw[if_neg (by rw[h1];intro e;exact hh (WO.1 (by rw[e];rfl)))]
   unfold On
   rw[h,BO (c::t) r (by rw[<-hd];exact s4) hr]
theorem ZcC{s:List UInt8}{i:Nat}{n:Int}{r:List UInt8}(h1: -9223372036854775808<=n)(h2:n<9223372036854775808)(h:s.drop i=P7 n++r)(hr:ND r):Te s i=.ok n (i+(P7 n).length):=by
 have hd: ∀m:Nat,∃c t,dec m=c::t∧dg c=true:=λm=>by
  have hp:=O6 m
  rw[<-MH] at hp
  cases hd:dec m with
  |nil=>rw[hd] at hp;exact absurd hp (by simp)
  |cons c t=>exact⟨c,t,rfl,by apply s4;rw[hd];simp⟩
 have dgv: ∀c,dg c=true->c.toNat≠45:=λc hc e=>by unfold dg at hc;rw[e] at hc;revert hc;decide
 have tk: ∀(p:Nat) (m:Nat) (r:List UInt8),s.drop p=dec m++r->(s.take (p+(dec m).length)).drop p=dec m:=λp m r h=>by
  rw[List.drop_take,h,show p+(dec m).length - p=(dec m).length by omega,List.take_left]
 unfold P7 at h ⊢
 by_cases hn:n<0
 ·rw[if_pos hn] at h ⊢
  generalize hm:n.natAbs=m at h ⊢
  obtain⟨b1,_,b3⟩:=To (r:=dec m++r) h
  have hf:TS s i=i+1:=by unfold TS;unfold Z3 at b1;rw[if_pos (by rw[b1];rfl)]
  obtain⟨c,t,hc,hg⟩:=hd m
  have b3':=b3
  rw[hc] at b3'
  obtain⟨c1,_,_⟩:=To (r:=t++r) b3'
  have hg2:dg (s.getD (i+1) 0)=true:=by
   unfold Z3 at c1
   rw[WO.1 c1];exact hg
  unfold Te
  simp only
  rw[hf,if_neg (by rw[hg2];simp),zT b3 hr,tk _ _ _ b3,yF,if_neg (by omega),if_pos (by omega)]
  rw[Zl]
  congr 1<;>omega
 ·rw[if_neg hn] at h ⊢
  generalize hm:n.natAbs=m at h ⊢
  obtain⟨c,t,hc,hg⟩:=hd m
  have h':=h
  rw[hc] at h'
  obtain⟨c1,_,_⟩:=To (r:=t++r) h'
  unfold Z3 at c1
  have hg2:dg (s.getD i 0)=true:=by
   rw[WO.1 c1];exact hg
  have hf:TS s i=i:=by unfold TS;rw[if_neg (by rw[c1];exact dgv c hg)]
  unfold Te
  simp only
  rw[hf,if_neg (by rw[hg2];simp),zT h hr,tk _ _ _ h,yF,if_pos rfl,if_pos (by omega)]
  congr 1;omega
theorem ZeV{a r:List UInt8}{i:Nat}(h:i<a.length):Z3 (a++r) i=Z3 a i:=by
 unfold Z3
 rw[Zf,Yr h,<-Zf]
theorem ad{t:List UInt8}(h:128<=Z3 t 0):Xc t=0∨(Xc t=2∧2<=t.length∧128<=Z3 t 1)∨(Xc t=3∧3<=t.length∧128<=Z3 t 1∧128<=Z3 t 2)∨(Xc t=4∧4<=t.length∧128<=Z3 t 1∧128<=Z3 t 2∧128<=Z3 t 3):=by
 have hl:=N0 t 0
 have Pj: ∀b,b<256->V4 b % 8=2∨V4 b % 8=3∨V4 b % 8=4->128<=QZ.getD (V4 b/16*2) 0:=by decide+kernel
 have e:Xc t=(if Z3 t 0<128 then 1 else if V4 (Z3 t 0) % 8=2 then(if t.length<2∨Z3 t 1<QZ.getD (V4 (Z3 t 0)/16*2) 0∨QZ.getD (V4 (Z3 t 0)/16*2+1) 0<Z3 t 1 then 0 else 2)
  else if V4 (Z3 t 0) % 8=3 then(if t.length<3∨Z3 t 1<QZ.getD (V4 (Z3 t 0)/16*2) 0∨QZ.getD (V4 (Z3 t 0)/16*2+1) 0<Z3 t 1∨Z3 t 2<128∨191<Z3 t 2 then 0 else 3)
  else if V4 (Z3 t 0) % 8=4 then(if t.length<4∨Z3 t 1<QZ.getD (V4 (Z3 t 0)/16*2) 0∨QZ.getD (V4 (Z3 t 0)/16*2+1) 0<Z3 t 1∨Z3 t 2<128∨191<Z3 t 2∨Z3 t 3<128∨191<Z3 t 3 then 0 else 4) else 0):=rfl
 have Pj:=Pj (Z3 t 0) hl
 generalize V4 (Z3 t 0)=x at*
 generalize QZ.getD (x/16*2) 0=lo at*
 generalize QZ.getD (x/16*2+1) 0=hi at*
 rw[e,if_neg (by omega)]
 by_cases h2:x % 8=2
 ·have:=Pj (.inl h2)
  rw[if_pos h2]
  by_cases c:t.length<2∨Z3 t 1<lo∨hi<Z3 t 1
  ·rw[if_pos c];exact .inl rfl
  ·rw[if_neg c];exact .inr (.inl ⟨rfl,by omega,by omega⟩)
 rw[if_neg h2]
 by_cases h3:x % 8=3
 ·have:=Pj (.inr (.inl h3))
  rw[if_pos h3]
  by_cases c:t.length<3∨Z3 t 1<lo∨hi<Z3 t 1∨Z3 t 2<128∨191<Z3 t 2
  ·rw[if_pos c];exact .inl rfl
  ·rw[if_neg c];exact .inr (.inr (.inl ⟨rfl,by omega,by omega,by omega⟩))
 rw[if_neg h3]
 by_cases h4:x % 8=4
 ·have:=Pj (.inr (.inr h4))
  rw[if_pos h4]
  by_cases c:t.length<4∨Z3 t 1<lo∨hi<Z3 t 1∨Z3 t 2<128∨191<Z3 t 2∨Z3 t 3<128∨191<Z3 t 3
  ·rw[if_pos c];exact .inl rfl
  ·rw[if_neg c];exact .inr (.inr (.inr ⟨rfl,by omega,by omega,by omega,by omega⟩))
 ·rw[if_neg h4];exact .inl rfl
theorem j0{t u:List UInt8}{n:Nat}(h:Xc t=n)(hn:n≠0)(hu:n<=u.length)(he: ∀j,j<n->Z3 u j=Z3 t j):Xc u=n:=by
 have e0:Z3 u 0=Z3 t 0:=he 0 (by omega)
 unfold Xc at h ⊢
 simp only at h ⊢
 rw[e0]
 by_cases h1:Z3 t 0<128
 ·rw[if_pos h1] at h ⊢;exact h
 rw[if_neg h1] at h ⊢
 generalize V4 (Z3 t 0)=x at*
 generalize QZ.getD (x/16*2) 0=lo at*
 generalize QZ.getD (x/16*2+1) 0=hi at*
 by_cases h2:x % 8=2
 ·rw[if_pos h2] at h ⊢
  by_cases c:t.length<2∨Z3 t 1<lo∨hi<Z3 t 1
  ·rw[if_pos c] at h;omega
  ·rw[if_neg c] at h
   have e1:=he 1 (by omega)
   rw[e1,if_neg (by omega)];exact h
 rw[if_neg h2] at h ⊢
 by_cases h3:x % 8=3
 ·rw[if_pos h3] at h ⊢
  by_cases c:t.length<3∨Z3 t 1<lo∨hi<Z3 t 1∨Z3 t 2<128∨191<Z3 t 2
  ·rw[if_pos c] at h;omega
  ·rw[if_neg c] at h
   have e1:=he 1 (by omega)
   have e2:=he 2 (by omega)
   rw[e1,e2,if_neg (by omega)];exact h
 rw[if_neg h3] at h ⊢
 by_cases h4:x % 8=4
 ·rw[if_pos h4] at h ⊢
  by_cases c:t.length<4∨Z3 t 1<lo∨hi<Z3 t 1∨Z3 t 2<128∨191<Z3 t 2∨Z3 t 3<128∨191<Z3 t 3
  ·rw[if_pos c] at h;omega
  ·rw[if_neg c] at h
   have e1:=he 1 (by omega)
   have e2:=he 2 (by omega)
   have e3:=he 3 (by omega)
   rw[e1,e2,e3,if_neg (by omega)];exact h
 ·rw[if_neg h4] at h;omega
theorem ZkV{c:UInt8}(h:128<=c.toNat):qB c=[c]:=by unfold qB;rw[if_neg (by omega),if_neg (by omega)]
theorem oN: ∀{l:List UInt8},(∀c∈l,qB c=[c])->l.flatMap qB=l
 |[],_=>rfl
 |c::l,h=>by rw[X8,h c (by simp),oN λx hx=>h x (by simp[hx])];rfl
theorem mX(n:Nat)(h:n<32):wk n=[UInt8.ofNat n]:=by
 have:n=0∨n=1∨n=2∨n=3∨n=4∨n=5∨n=6∨n=7∨n=8∨n=9∨n=10∨n=11∨n=12∨n=13∨n=14∨n=15∨n=16∨n=17∨n=18∨n=19∨n=20∨n=21∨n=22∨n=23∨n=24∨n=25∨n=26∨n=27∨n=28∨n=29∨n=30∨n=31:=by omega
 rcases this with rfl|rfl|rfl|rfl|rfl|rfl|rfl|rfl|rfl|rfl|rfl|rfl|rfl|rfl|rfl|rfl|rfl|rfl|rfl|rfl|rfl|rfl|rfl|rfl|rfl|rfl|rfl|rfl|rfl|rfl|rfl|rfl<;>decide+kernel
theorem eK: ∀n,n<16->Ew (N7 n).toNat=some n:=by decide+kernel
theorem oM: ∀s:List UInt8,s.length<=(s.flatMap qB).length
 |[]=>Zj _
 |c::s=>by
  rw[X8,Zm,Zl]
  have:=oM s;have:=(bw c).1;omega
theorem bC:C3 117=none:=by decide
theorem bF{s:List UInt8}{i:Nat}{c:UInt8}{r:List UInt8}(hc:c.toNat<32)(h:s.drop i=[92,117,48,48,N7 (c.toNat/16),N7 (c.toNat % 16)]++r):LA s i=.ok [c] (i+6):=by
 have hlen:i+6<=s.length:=fp h (by simp)
 have b1:Z3 s (i+1)=117:=by
  have:=(To h).2.2
  exact(To this).1
 have e4:Nb s (i+2)=some c.toNat:=by
  unfold Nb
  rw[if_neg (by omega)]
  have:s.drop (i+2)=[48,48,N7 (c.toNat/16),N7 (c.toNat % 16)]++r:=Sx (a:=[92,117]) h
  rw[this]
  have hh1:=eK (c.toNat/16) (by omega)
  have lQ:=eK (c.toNat % 16) (by omega)
  show HF [48,48,N7 (c.toNat/16),N7 (c.toNat % 16)] 0=_
  have h0:Ew (48:UInt8).toNat=some 0:=by decide
  simp only[HF,h0,hh1,lQ]
  congr 1;omega
 unfold LA
 rw[b1,bC]
 simp only
 rw[if_neg (by simp),e4]
 simp only
 rw[if_neg (by omega),if_neg (by omega),mX _ hc]
 congr 1
 rw[TC]
theorem HP(s:List UInt8): ∀(m:Nat) (t:List UInt8) (i:Nat) (acc r:List UInt8),t.length<m->vu t=true->s.drop i=t.flatMap qB++34::r->wu s m i acc=.ok (acc++t) (i+(t.flatMap qB).length+1)
 |0,t,i,acc,r,hm,_,_=>absurd hm (Xa _)
 |m+1,t,i,acc,r,hm,hv,h=>by
  have e:wu s (m+1) i acc=(if Z3 s i=34 then .ok acc (i+1)
   else if Z3 s i=92 then(match LA s i with
    |.bad e p=>.bad e p
    |.ok t j=>wu s m j (acc++t))
   else if Z3 s i<32 then .bad 5 i
   else if Xc (s.drop i)=0 then .bad 5 i
   else wu s m (i+Xc (s.drop i)) (acc++(s.drop i).take (Xc (s.drop i)))):=rfl
  rw[e]
  cases t with
  |nil=>
   obtain⟨h1,_,_⟩:=To (r:=r) h
   rw[if_pos (by rw[h1];rfl),Xu];rfl
  |cons c t=>
   have h0:Z3 (c::t) 0=c.toNat:=rfl
   rw[Zl] at hm
   rw[X8,Yl] at h
   rw[X8,Zm]
   have one:Z3 (c::t) 0<128->vu t=true:=λhb=>by
    rw[Gn (s:=c::t) (n:=1) (by simp) (PX hb) (by decide)] at hv;exact hv
   have ZeK: ∀x:UInt8,acc++[x]++t=acc++x::t:=λx=>by simp
   by_cases hq:c.toNat=34∨c.toNat=92
   ·have hqB:qB c=[92,c]:=by unfold qB;rw[if_pos hq]
    rw[hqB] at h ⊢
    obtain⟨h1,_,h2⟩:=To (r:=c::(t.flatMap qB++34::r)) h
    obtain⟨h3,_,h4⟩:=To h2
    have hv':=one (by rw[h0];omega)
    rw[if_neg (by rw[h1];decide),if_pos (by rw[h1];rfl)]
    have he:LA s i=.ok [c] (i+2):=by
     unfold LA
     rw[h3]
     have oT:c=UInt8.ofNat c.toNat:=(TC).symm
     rcases hq with hq|hq
     ·rw[hq];rw[hq] at oT;rw[oT];rfl
     ·rw[hq];rw[hq] at oT;rw[oT];rfl
    rw[he]
    simp only
    rw[HP s m t (i+2) (acc++[c]) r (by omega) hv' h4,ZeK]
    congr 1
    show i+2+_+1=i+(2+_)+1
    omega
   by_cases hc:c.toNat<32
   ·have hqB:qB c=[92,117,48,48,N7 (c.toNat/16),N7 (c.toNat % 16)]:=by unfold qB;rw[if_neg hq,if_pos hc]
    rw[hqB] at h ⊢
    obtain⟨h1,_,_⟩:=To h
    have hv':=one (by rw[h0];omega)
    rw[if_neg (by rw[h1];decide),if_pos (by rw[h1];rfl),bF hc h]
    simp only
    rw[HP s m t (i+6) (acc++[c]) r (by omega) hv' (Sx h),ZeK]
    congr 1
    show i+6+_+1=i+(6+_)+1
    omega
   ·have hqB:qB c=[c]:=by unfold qB;rw[if_neg hq,if_neg hc]
    rw[hqB] at h ⊢
    obtain⟨h1,_,h2⟩:=To (r:=t.flatMap qB++34::r) h
    rw[if_neg (by omega),if_neg (by omega),if_neg (by omega)]
    by_cases ha:c.toNat<128
    ·have hv':=one (by rw[h0];omega)
     have r1:Xc (s.drop i)=1:=PX (by rw[Nr,Zv,h1];exact ha)
     have tk:(s.drop i).take 1=[c]:=by rw[h];rfl
     rw[r1,if_neg (by decide),tk,HP s m t (i+1) (acc++[c]) r (by omega) hv' h2,ZeK]
     congr 1
     show i+1+_+1=i+(1+_)+1
     omega
    ·
     have hg:=ad (t:=c::t) (by rw[h0];omega)
     generalize hn:Xc (c::t)=n at hg
     have hn0:n≠0:=λh=>by
      rw[BT (s:=c::t) (by simp) (by rw[hn,h])] at hv;cases hv
     have Dp:2<=n∧n<=(c::t).length∧ ∀j,j<n->128<=Z3 (c::t) j:=by
      rcases hg with hg|⟨rfl,a,b⟩|⟨rfl,a,b,b2⟩|⟨rfl,a,b,b2,b3⟩
      ·exact absurd hg hn0
      ·refine⟨by omega,a,λj hj=>?_⟩
       have:j=0∨j=1:=by omega
       rcases this with rfl|rfl<;>omega
      ·refine⟨by omega,a,λj hj=>?_⟩
       have:j=0∨j=1∨j=2:=by omega
       rcases this with rfl|rfl|rfl<;>omega
      ·refine⟨by omega,a,λj hj=>?_⟩
       have:j=0∨j=1∨j=2∨j=3:=by omega
       rcases this with rfl|rfl|rfl|rfl<;>omega
     obtain⟨n2,nl,nb⟩:=Dp
     have hv':vu ((c::t).drop n)=true:=by rw[<-Gn (by simp) hn hn0];exact hv
     have hid:((c::t).take n).flatMap qB=(c::t).take n:=oN λx hx=>by
      obtain⟨j,hj,hx⟩:=List.mem_iff_getElem.1 hx
      rw[Z9] at hj
      have:=nb j (by omega)
      apply ZkV
      unfold Z3 at this
      rw[Zf,Zi (by omega)] at this
      rw[<-hx,List.getElem_take];exact this
     have hsp:s.drop i=(c::t).take n++(((c::t).drop n).flatMap qB++34::r):=by
      have e1:(c::t).flatMap qB=(c::t).take n++((c::t).drop n).flatMap qB:=by
       have:(c::t).flatMap qB=((c::t).take n++(c::t).drop n).flatMap qB:=by rw[WI]
       rw[this,TR,hid]
      rw[h,<-Yl,<-Yl,<-e1,X8,hqB]
     have tl:((c::t).take n).length=n:=by rw[Z9];omega
     have rn:Xc (s.drop i)=n:=j0 hn hn0 (by rw[hsp,Zm,tl];omega) λj hj=>by
      rw[hsp,ZeV (by omega)]
      unfold Z3
      rw[Zf,XJ hj,<-Zf]
     have tk:(s.drop i).take n=(c::t).take n:=by rw[hsp,List.take_left' tl]
     have hd:s.drop (i+n)=((c::t).drop n).flatMap qB++34::r:=by have:=Sx hsp;rw[tl] at this;exact this
     rw[rn,if_neg hn0,tk,HP s m ((c::t).drop n) (i+n) _ r (by rw[Z7,Zl];omega) hv' hd,Yl,WI]
     congr 1
     have e1:[c].length+(t.flatMap qB).length=n+(((c::t).drop n).flatMap qB).length:=by
      have:(c::t).flatMap qB=((c::t).take n++(c::t).drop n).flatMap qB:=by rw[WI]
      rw[TR,hid] at this
      have:=congrArg List.length this
      rw[X8,hqB,Zm,Zm,tl] at this
      exact this
     omega
theorem bY{s:List UInt8}{i:Nat}{b t r:List UInt8}(hb:Bl b)(hv:vu t=true)(h:s.drop i=b++(quo t++r)):rq s i=.ok t (i+b.length+(quo t).length):=by
 have hq:quo t=34::(t.flatMap qB++[34]):=rfl
 obtain⟨h1,h2⟩:=OF h hb (λc q e=>by rw[hq,Xj] at e;injection e with e _;subst e;rfl)
 rw[hq] at h2
 obtain⟨b1,bl,h3⟩:=To (r:=t.flatMap qB++[34]++r) h2
 have h3:s.drop (Z5 s i+1)=t.flatMap qB++34::r:=by rw[h3];simp
 have hlen:t.length<s.length+1:=by
  have:=congrArg List.length h3
  rw[Z7,Zm] at this
  have:=oM t
  omega
 unfold rq
 rw[if_pos (by rw[b1];rfl),HP s _ t _ [] r hlen hv h3,Xp,h1,hq,Zl,Zm]
 congr 1
 show _=i+b.length+(_+1+1)
 omega
section
variable {α:Type}
def RJ(f:α->List UInt8->Prop):List α->List UInt8->Prop
 |[],t=>t=[]
 |x::l,t=> ∃a b,t=44::(a++b)∧f x a∧RJ f l b
def RI(f:α->List UInt8->Prop):List α->List UInt8->Prop
 |[],t=>Bl t
 |x::l,t=> ∃a b,t=a++b∧f x a∧RJ f l b
end
def RE(f:JV->List UInt8->Prop)(e:List UInt8×JV)(t:List UInt8):Prop:= ∃b1 b2 a,t=b1++(quo e.1++(b2++58::a))∧Bl b1∧Bl b2∧f e.2 a
def Ren:Nat->JV->List UInt8->Prop
 |0,_,_=>False
 |h+1,.mk k b n s l m,t=> ∃b1 c b2,t=b1++(c++b2)∧Bl b1∧Bl b2∧
  ((k=1∧c=ER)∨(k=2∧c=if b=true then BU else Iq)∨(k=3∧c=P7 n)∨(k=4∧c=quo s)∨(k=5∧ ∃d,c=91::(d++[93])∧RI (Ren h) l d)∨(k=6∧ ∃d,c=123::(d++[125])∧RI (RE (Ren h)) m d))
def WF:Nat->JV->Prop
 |0,_=>False
 |h+1,.mk k b n s l m=>(-9223372036854775808<=n∧n<9223372036854775808)∧vu s=true∧(k≠2->b=false)∧(k≠3->n=0)∧(k≠4->s=[])∧(k≠5->l=[])∧(k≠6->m=[])∧(m.map (·.1)).Nodup∧(∀e∈m,vu e.1=true)∧(∀x∈l,WF h x)∧ ∀e∈m,WF h e.2
theorem Zii{c:UInt8}(h:blk c=true):dg c=false:=by
 unfold blk at h
 unfold dg
 simp only[Vx,beq_iff_eq] at h
 have: ¬48<=c.toNat:=by omega
 rw[Za this];rfl
theorem ND.bl{b r:List UInt8}(hb:Bl b)(hr:ND r):ND (b++r):=by
 intro c q e
 cases b with
 |nil=>exact hr c q e
 |cons x b=>
  rw[Xj] at e
  injection e with e _
  subst e
  exact Zii (hb _ (by simp))
def HD(t:List UInt8):Prop:= ∃b c q,t=b++c::q∧Bl b∧blk c=false∧c.toNat≠44∧c.toNat≠93∧c.toNat≠125
theorem HD.of{b1 c b2:List UInt8}{x:UInt8}{q:List UInt8}(hb:Bl b1)(hc:c=x::q)(h:blk x=false)(h1:x.toNat≠44)(h2:x.toNat≠93)(h3:x.toNat≠125):HD (b1++(c++b2)):=
 ⟨b1,x,q++b2,by rw[hc];rfl,hb,h,h1,h2,h3⟩
theorem rm(n:Int): ∃x q,P7 n=x::q∧(x.toNat=45∨dg x=true):=by
 unfold P7
 split
 ·exact⟨45,_,rfl,.inl rfl⟩
 ·have hp:=O6 n.natAbs
  rw[<-MH] at hp
  cases hd:dec n.natAbs with
  |nil=>rw[hd] at hp;exact absurd hp (by simp)
  |cons c t=>exact⟨c,t,rfl,.inr (by apply s4 (m:=n.natAbs);rw[hd];simp)⟩
theorem fo{c:UInt8}(h:dg c=true):48<=c.toNat∧c.toNat<=57:=by
 unfold dg at h
 simp only[XE,decide_eq_true_eq] at h
 exact h
theorem gD{c:UInt8}(h:33<=c.toNat):blk c=false:=by
 cases hb:blk c with
 |false=>rfl
 |true=>
  unfold blk at hb
  simp only[Vx,beq_iff_eq] at hb
  omega
theorem Ren.hd: ∀{h:Nat} {v:JV} {t:List UInt8},Ren h v t->HD t
 |h+1,.mk k b n s l m,t,⟨b1,c,b2,e,Q3,QY,hc⟩=>by
  rw[e]
  rcases hc with⟨_,hc⟩|⟨_,hc⟩|⟨_,hc⟩|⟨_,hc⟩|⟨_,d,hc,_⟩|⟨_,d,hc,_⟩
  ·exact .of Q3 hc rfl (by decide) (by decide) (by decide)
  ·cases b with
   |true=>exact .of Q3 hc rfl (by decide) (by decide) (by decide)
   |false=>exact .of Q3 hc rfl (by decide) (by decide) (by decide)
  ·obtain⟨x,q,hx,hx2⟩:=rm n
   have:45<=x.toNat∧x.toNat<=57:=by
    rcases hx2 with h|h
    ·omega
    ·have:=fo h;omega
   have h46:x.toNat≠44:=by omega
   exact .of Q3 (hc.trans hx) (gD (by omega)) h46 (by omega) (by omega)
  ·exact .of Q3 hc rfl (by decide) (by decide) (by decide)
  ·exact .of Q3 hc rfl (by decide) (by decide) (by decide)
  ·exact .of Q3 hc rfl (by decide) (by decide) (by decide)
theorem RE.hd{f:JV->List UInt8->Prop}{e:List UInt8×JV}{t:List UInt8}(h:RE f e t):HD t:=by
 obtain⟨b1,b2,a,rfl,Q3,_,_⟩:=h
 exact .of Q3 rfl rfl (by decide) (by decide) (by decide)
theorem Jh(s:List UInt8)(i:Nat):Z5 s (Z5 s i)=Z5 s i:=by
 have h:s.drop i=((s.drop i).takeWhile blk)++((s.drop i).dropWhile blk):=(List.takeWhile_append_dropWhile ..).symm
 have h2:=Sx h
 have hd:NoB ((s.drop i).dropWhile blk):=by
  intro c q e
  generalize s.drop i=l at e
  induction l with
  |nil=>cases e
  |cons x l ih=>
   by_cases hx:blk x=true
   ·rw[List.dropWhile_cons_of_pos hx] at e;exact ih e
   ·rw[List.dropWhile_cons_of_neg hx] at e
    injection e with e _
    subst e;simpa using hx
 have:=(OF (s:=s) (i:=Z5 s i) (b:=[]) (r:=(s.drop i).dropWhile blk) h2 (λ_ h=>by cases h) hd).1
 exact this
theorem Zdl(s:List UInt8)(lv i:Nat):rv s lv (Z5 s i)=rv s lv i:=by
 cases lv with
 |zero=>unfold rv;rw[Jh]
 |succ lv=>unfold rv;rw[Jh]
theorem Zdh(s:List UInt8)(i:Nat):rq s (Z5 s i)=rq s i:=by unfold rq;rw[Jh]
theorem jQ(s:List UInt8)(f:Nat->RR JV)(acc:List (List UInt8×JV))(i:Nat):M4 s f acc (Z5 s i)=M4 s f acc i:=by unfold M4;rw[Jh]
def One{α:Type}(s:List UInt8)(one:Nat->RR α)(f:α->List UInt8->Prop)(x:α):Prop:= ∀i a r,f x a->s.drop i=a++r->ND r-> ∃j b2,one i=.ok x j∧s.drop j=b2++r∧Bl b2
theorem RJ.nd{α:Type}{f:α->List UInt8->Prop}{l:List α}{t r:List UInt8}(h:RJ f l t)(hr:ND r):ND (t++r):=by
 cases l with
 |nil=>have h:t=[]:=h;rw[h];exact hr
 |cons x l=>
  obtain⟨a,b,rfl,_⟩:=h
  intro c q e
  injection e with e _
  subst e;rfl
theorem RJ.len{α:Type}{f:α->List UInt8->Prop}: ∀{l:List α} {t:List UInt8},RJ f l t->l.length<=t.length
 |[],_,_=>Z1 _
 |x::l,t,⟨a,b,e,_,hb⟩=>by
  have:=RJ.len hb
  rw[e,Zl,Zl,Zm];omega
theorem nT{α:Type}{s:List UInt8}{c:UInt8}{one:List α->Nat->RR α}{f:α->List UInt8->Prop}(hc:blk c=false)(hc2:c.toNat≠44)(hcd:dg c=false)(MT: ∀acc i,one acc (Z5 s i)=one acc i)(hhd: ∀x a,f x a->HD a): ∀(l acc:List α) (m i:Nat) (b0 b r:List UInt8),
  (∀pre x post,acc++l=pre++x::post->acc.length<=pre.length->One s (one pre) f x)->l.length<m->Bl b0->RJ f l b->s.drop i=b0++(b++c::r)-> ∃j,RO s c.toNat one m i acc=.ok (acc++l) j∧s.drop j=r
 |l,acc,0,i,b0,b,r,_,hm,_,_,_=>absurd hm (Xa _)
 |[],acc,m+1,i,b0,b,r,ho,hm,hb0,hb,h=>by
  have hb:b=[]:=hb
  rw[hb,Xp] at h
  have e:RO s c.toNat one (m+1) i acc=(if Z3 s (Z5 s i)=c.toNat then .ok acc (Z5 s i+1) else if Z3 s (Z5 s i)≠44 then .bad 5 (Z5 s i) else match one acc (Z5 s i+1) with|.bad e p=>.bad e p|.ok v k=>RO s c.toNat one m k (acc++[v])):=rfl
  obtain⟨_,h2⟩:=OF h hb0 (λx q e=>by injection e with e _;subst e;exact hc)
  obtain⟨h3,_,h4⟩:=To h2
  exact⟨_,by rw[e,if_pos h3,Xu],h4⟩
 |x::l,acc,m+1,i,b0,b,r,ho,hm,hb0,⟨a,b',hb,hx,hl⟩,h=>by
  have e:RO s c.toNat one (m+1) i acc=(if Z3 s (Z5 s i)=c.toNat then .ok acc (Z5 s i+1) else if Z3 s (Z5 s i)≠44 then .bad 5 (Z5 s i) else match one acc (Z5 s i+1) with|.bad e p=>.bad e p|.ok v k=>RO s c.toNat one m k (acc++[v])):=rfl
  rw[hb,Xj] at h
  obtain⟨_,h2⟩:=OF h hb0 (λx q e=>by injection e with e _;subst e;rfl)
  obtain⟨h3,_,h4⟩:=To h2
  have h3:Z3 s (Z5 s i)=44:=h3
  rw[Yl] at h4
  have Ke:ND (c::r):=λx q e=>by injection e with e _;subst e;exact hcd
  obtain⟨j,b2,h5,h6,h7⟩:=ho acc x l rfl (Zj _) (Z5 s i+1) a _ hx h4 (hl.nd Ke)
  obtain⟨j2,h8,h9⟩:=nT hc hc2 hcd MT hhd l (acc++[x]) m j b2 b' r (λpre y post he Tn=>ho pre y post (by rw[<-he];simp) (by rw[Zm] at Tn;omega)) (by rw[Zl] at hm;omega) h7 hl h6
  refine⟨j2,?_,h9⟩
  rw[e,if_neg (by rw[h3];exact λh=>hc2 h.symm),if_neg (by rw[h3];simp),h5]
  simp only
  rw[h8];simp
theorem bG{α:Type}{s:List UInt8}{c:UInt8}{one:List α->Nat->RR α}{f:α->List UInt8->Prop}(hc:blk c=false)(hc2:c.toNat≠44)(hcd:dg c=false)(hc3:c.toNat=93∨c.toNat=125)(MT: ∀acc i,one acc (Z5 s i)=one acc i)(hhd: ∀x a,f x a->HD a)(l:List α)(i:Nat)(d r:List UInt8)
  (ho: ∀pre x post,l=pre++x::post->One s (one pre) f x)(hd:RI f l d)(h:s.drop i=d++c::r): ∃j,RF s c.toNat one i=.ok l j∧s.drop j=r:=by
 unfold RF
 cases l with
 |nil=>
  have hd:Bl d:=hd
  obtain⟨_,h2⟩:=OF h hd (λx q e=>by injection e with e _;subst e;exact hc)
  obtain⟨h3,_,h4⟩:=To h2
  exact⟨_,by rw[if_pos h3],h4⟩
 |cons x l=>
  obtain⟨a,b,rfl,hx,hl⟩:=hd
  rw[Yl] at h
  obtain⟨b0,y,q,ea,hb0,hy,hy1,hy2,hy3⟩:=hhd x a hx
  have h':=h
  rw[ea,Yl] at h'
  obtain⟨_,h2⟩:=OF h' hb0 (λx q e=>by injection e with e _;subst e;exact hy)
  obtain⟨h3,_,_⟩:=To (r:=q++(b++c::r)) h2
  have Ke:ND (c::r):=λx q e=>by injection e with e _;subst e;exact hcd
  obtain⟨j,b2,h5,h6,h7⟩:=ho [] x l rfl i a _ hx h (hl.nd Ke)
  have hlen:l.length<s.length+1:=by
   have:=hl.len
   have:=congrArg List.length h6
   rw[Z7,Zm,Zm] at this
   omega
  obtain⟨j2,h8,h9⟩:=nT hc hc2 hcd MT hhd l [x] (s.length+1) j b2 b r (λpre y post he Tn=>ho pre y post he) hlen h7 hl h6
  refine⟨j2,?_,h9⟩
  rw[if_neg (by rw[h3];rcases hc3 with e|e<;>rw[e]<;>assumption),MT,h5]
  simp only
  exact h8
theorem C6(s:List UInt8): ∀(h:Nat) (v:JV) (lv:Nat),h<=lv->WF h v->One s (rv s lv) (Ren h) v
 |0,v,lv,_,hw=>hw.elim
 |h+1,.mk k b n z l m,0,hl,_=>absurd hl (Nat.not_succ_le_zero _)
 |h+1,.mk k b n z l m,lv+1,hl,hw=>by
  intro i t r ⟨b1,c,b2,et,Q3,QY,hc⟩ hs hr
  obtain⟨⟨n1,n2⟩,hz,wb,wn,ws,wl,wm,Ke,hk,hwl,hwm⟩:=hw
  rw[et,Yl,Yl] at hs
  have Zob:ND (b2++r):=hr.bl QY
  have er:rv s (lv+1) i=(let j:=Z5 s i
   let c:=Z3 s j
   if c=110 then Mq (λ_=>.mk 1 false 0 [] [] []) (Qe s ER j)
   else if c=116 then Mq (λ_=>.mk 2 true 0 [] [] []) (Qe s BU j)
   else if c=102 then Mq (λ_=>.mk 2 false 0 [] [] []) (Qe s Iq j)
   else if c=34 then Mq (λt=>.mk 4 false 0 t [] []) (rq s j)
   else if c=91 then Mq (λl=>.mk 5 false 0 [] l []) (RF s 93 (λ_=>rv s lv) (j+1))
   else if c=123 then Mq (λm=>.mk 6 false 0 [] [] m) (RF s 125 (M4 s (rv s lv)) (j+1))
   else match Te s j with
    |.ok z q=>.ok (.mk 3 false z [] [] []) q
    |.bad p _=>.bad 5 p):=rfl
  rw[er]
  simp only
  have head: ∀(x:UInt8) (q:List UInt8),c=x::q->blk x=false->Z3 s (Z5 s i)=x.toNat∧s.drop (Z5 s i)=c++(b2++r):=by
   intro x q e hx
   rw[e] at hs
   obtain⟨_,h2⟩:=OF hs Q3 (λy q e=>by injection e with e _;subst e;exact hx)
   exact⟨(To (r:=q++(b2++r)) h2).1,by rw[h2,e]⟩
  rcases hc with⟨rfl,hc⟩|⟨rfl,hc⟩|⟨rfl,hc⟩|⟨rfl,hc⟩|⟨rfl,d,hc,hd⟩|⟨rfl,d,hc,hd⟩
  ·have eb:=wb (by decide);have en:=wn (by decide);have ez:=ws (by decide);have el:=wl (by decide);have em:=wm (by decide)
   subst eb en ez el em
   obtain⟨h1,h2⟩:=head 110 _ hc rfl
   rw[if_pos (by rw[h1];rfl)]
   rw[hc] at h2
   refine⟨_,b2,by rw[HG s _ _ _ h2];rfl,Sx h2,QY⟩
  ·have en:=wn (by decide);have ez:=ws (by decide);have el:=wl (by decide);have em:=wm (by decide)
   subst en ez el em
   cases b with
   |true=>
    rw[if_pos rfl] at hc
    obtain⟨h1,h2⟩:=head 116 _ hc rfl
    rw[if_neg (by rw[h1];decide),if_pos (by rw[h1];rfl)]
    rw[hc] at h2
    refine⟨_,b2,by rw[HG s _ _ _ h2];rfl,Sx h2,QY⟩
   |false=>
    rw[if_neg (by simp)] at hc
    obtain⟨h1,h2⟩:=head 102 _ hc rfl
    rw[if_neg (by rw[h1];decide),if_neg (by rw[h1];decide),if_pos (by rw[h1];rfl)]
    rw[hc] at h2
    refine⟨_,b2,by rw[HG s _ _ _ h2];rfl,Sx h2,QY⟩
  ·have eb:=wb (by decide);have ez:=ws (by decide);have el:=wl (by decide);have em:=wm (by decide)
   subst eb ez el em
   obtain⟨x,q,hx,hx2⟩:=rm n
   have hx3:45<=x.toNat∧x.toNat<=57:=by
    rcases hx2 with h|h
    ·omega
    ·have:=fo h;omega
   obtain⟨h1,h2⟩:=head x q (hc.trans hx) (gD (by omega))
   rw[if_neg (by omega),if_neg (by omega),if_neg (by omega),if_neg (by omega),if_neg (by omega),if_neg (by omega)]
   rw[hc] at h2
   rw[ZcC n1 n2 h2 Zob]
   exact⟨_,b2,rfl,Sx h2,QY⟩
  ·have eb:=wb (by decide);have en:=wn (by decide);have el:=wl (by decide);have em:=wm (by decide)
   subst eb en el em
   obtain⟨h1,h2⟩:=head 34 _ hc rfl
   rw[if_neg (by rw[h1];decide),if_neg (by rw[h1];decide),if_neg (by rw[h1];decide),if_pos (by rw[h1];rfl)]
   rw[hc] at h2
   have:=bY (s:=s) (i:=Z5 s i) (b:=[]) (t:=z) (r:=b2++r) (λ_ h=>by cases h) hz h2
   rw[this]
   exact⟨_,b2,rfl,Sx h2,QY⟩
  ·have eb:=wb (by decide);have en:=wn (by decide);have ez:=ws (by decide);have em:=wm (by decide)
   subst eb en ez em
   obtain⟨h1,h2⟩:=head 91 _ hc rfl
   rw[if_neg (by rw[h1];decide),if_neg (by rw[h1];decide),if_neg (by rw[h1];decide),if_neg (by rw[h1];decide),if_pos (by rw[h1];rfl)]
   rw[hc] at h2
   obtain⟨_,_,h3⟩:=To (r:=(d++[93])++(b2++r)) h2
   have h3:s.drop (Z5 s i+1)=d++(93:UInt8)::(b2++r):=by rw[h3];simp
   obtain⟨j,h4,h5⟩:=bG (c:=93) (one:=λ_=>rv s lv) (f:=Ren h) rfl (by decide) rfl (.inl rfl) (λ_ i=>Zdl s lv i) (λx a h=>h.hd) l _ d _ (λpre x post e=>C6 s h x lv (by omega) (hwl x (by rw[e];simp))) hd h3
   have h4:RF s 93 (λ_=>rv s lv) (Z5 s i+1)=.ok l j:=h4
   rw[h4]
   exact⟨j,b2,rfl,h5,QY⟩
  ·have eb:=wb (by decide);have en:=wn (by decide);have ez:=ws (by decide);have el:=wl (by decide)
   subst eb en ez el
   obtain⟨h1,h2⟩:=head 123 _ hc rfl
   rw[if_neg (by rw[h1];decide),if_neg (by rw[h1];decide),if_neg (by rw[h1];decide),if_neg (by rw[h1];decide),if_neg (by rw[h1];decide),if_pos (by rw[h1];rfl)]
   rw[hc] at h2
   obtain⟨_,_,h3⟩:=To (r:=(d++[125])++(b2++r)) h2
   have h3:s.drop (Z5 s i+1)=d++(125:UInt8)::(b2++r):=by rw[h3];simp
   obtain⟨j,h4,h5⟩:=bG (c:=125) (one:=M4 s (rv s lv)) (f:=RE (Ren h)) rfl (by decide) rfl (.inr rfl) (λacc i=>jQ s _ acc i) (λx a h=>h.hd) m _ d _ (λpre x post e=>by
    intro i2 a2 r2 ⟨c1,c2,a3,ea,hc1,hc2,ha3⟩ LD o7
    have hxm:x∈m:=by rw[e];simp
    rw[ea] at LD
    simp only[Yl,Xj] at LD
    have hq:=bY hc1 (hk x hxm) LD
    have hs3:=Sx (Sx LD)
    obtain⟨_,hs4⟩:=OF hs3 hc2 (λy q e=>by injection e with e _;subst e;rfl)
    obtain⟨h58,_,hs5⟩:=To hs4
    obtain⟨j,b4,h6,h7,h8⟩:=C6 s h x.2 lv (by omega) (hwm x hxm) _ a3 r2 ha3 hs5 o7
    refine⟨j,b4,?_,h7,h8⟩
    unfold M4
    rw[Zdh,hq]
    simp only
    rw[if_neg,if_neg (by rw[h58];simp),h6]
    ·rw[e,Xo,Y8] at Ke
     have:=(SU.1 Ke).2.2
     intro Nk
     exact this _ Nk _ (by simp) rfl) hd h3
   have h4:RF s 125 (M4 s (rv s lv)) (Z5 s i+1)=.ok m j:=h4
   rw[h4]
   exact⟨j,b2,rfl,h5,QY⟩
def tB(c:UInt8):Bool:=c.toNat==91||c.toNat==93||c.toNat==123||c.toNat==125||c.toNat==44||c.toNat==58
def wM:List UInt8->Nat:=λp=>(p.reverse.takeWhile λc=>c.toNat==92).length
def x6(p:List UInt8):Bool:=wM p % 2==1
def Uh(P Q:Nat->List UInt8):List UInt8->Bool->List UInt8->List UInt8
 |_,_,[]=>[]
 |pre,q,c::r=>(if !q&&tB c then P pre.length++[c]++Q pre.length else [c])++Uh P Q (pre++[c]) (if c.toNat=92∧q=true then q else if c.toNat=34∧ ¬(q=true∧x6 pre=true) then !q else q) r
def srt:Nat->JV->JV
 |0,v=>v
 |h+1,.mk k b n s l m=>.mk k b n s (l.map (srt h)) ((Xi TG m).map λe=>(e.1,srt h e.2))
section
variable {P Q:Nat->List UInt8}
theorem Po(pre:List UInt8)(q:Bool)(c:UInt8)(r:List UInt8):Uh P Q pre q (c::r)=(if !q&&tB c then P pre.length++[c]++Q pre.length else [c])++Uh P Q (pre++[c]) (if c.toNat=92∧q=true then q else if c.toNat=34∧ ¬(q=true∧x6 pre=true) then !q else q) r:=rfl
theorem aj{pre r:List UInt8}{c:UInt8}(h:tB c=false)(h2:c.toNat≠34):Uh P Q pre false (c::r)=c::Uh P Q (pre++[c]) false r:=by
 rw[Po,h,if_neg (by simp),if_neg (by simp),if_neg (λh=>h2 h.1)];rfl
theorem Bh: ∀(w pre r:List UInt8),(∀c∈w,tB c=false∧c.toNat≠34)->Uh P Q pre false (w++r)=w++Uh P Q (pre++w) false r
 |[],pre,r,_=>by rw[Xu];rfl
 |c::w,pre,r,h=>by
  have:=h c (by simp)
  rw[Xj,aj this.1 this.2,Bh w _ r λx hx=>h x (by simp[hx]),Yl];rfl
theorem OO{pre r:List UInt8}{c:UInt8}(h:tB c=true):Uh P Q pre false (c::r)=P pre.length++(c::(Q pre.length++Uh P Q (pre++[c]) false r)):=by
 have h34:c.toNat≠34:=λe=>by unfold tB at h;rw[e] at h;revert h;decide
 rw[Po,h,if_pos (by simp),if_neg (by simp),if_neg (λh=>h34 h.1)];simp
theorem y6{p:List UInt8}{c:UInt8}(h:c.toNat≠92):wM (p++[c])=0:=by
 unfold wM
 rw[List.reverse_append]
 show(List.takeWhile _ (c::p.reverse)).length=0
 rw[Wm (by simpa using h)];rfl
theorem gE{p:List UInt8}{c:UInt8}(h:c.toNat=92):wM (p++[c])=wM p+1:=by
 unfold wM
 rw[List.reverse_append]
 show(List.takeWhile _ (c::p.reverse)).length=_
 rw[Wn (by simpa using h)];rfl
theorem DC{pre r:List UInt8}{c:UInt8}(h2:c.toNat≠34):Uh P Q pre true (c::r)=c::Uh P Q (pre++[c]) true r:=by
 rw[Po,if_neg (by simp)]
 by_cases h:c.toNat=92
 ·rw[if_pos ⟨h,rfl⟩];rfl
 ·rw[if_neg (λx=>h x.1),if_neg (λx=>h2 x.1)];rfl
theorem Bg: ∀(w pre r:List UInt8),(∀c∈w,c.toNat≠34)->Uh P Q pre true (w++r)=w++Uh P Q (pre++w) true r
 |[],pre,r,_=>by rw[Xu];rfl
 |c::w,pre,r,h=>by
  rw[Xj,DC (h c (by simp)),Bg w _ r λx hx=>h x (by simp[hx]),Yl];rfl
theorem oW: ∀n,n<16->(N7 n).toNat≠34∧(N7 n).toNat≠92:=by decide+kernel
theorem Zdr{p:List UInt8}{w:List UInt8}{c:UInt8}(h:c.toNat≠92):wM (p++(w++[c]))=0:=by rw[<-Yl];exact y6 h
theorem Zdo{pre r:List UInt8}(c:UInt8)(he:wM pre % 2=0):Uh P Q pre true (qB c++r)=qB c++Uh P Q (pre++qB c) true r∧wM (pre++qB c) % 2=0:=by
 unfold qB
 by_cases hq:c.toNat=34∨c.toNat=92
 ·rw[if_pos hq]
  have b1:wM (pre++[92])=wM pre+1:=gE rfl
  have e1:pre++[92,c]=pre++[92]++[c]:=by simp
  rw[e1]
  rcases hq with h|h
  ·refine⟨?_,by rw[y6 (by omega)]⟩
   show Uh P Q pre true (92::c::r)=_
   rw[DC (by decide),Po,if_neg (by simp),if_neg (by omega),if_neg]
   ·rfl
   ·intro⟨_,hn⟩
    apply hn
    refine⟨rfl,?_⟩
    unfold x6
    rw[b1];simp;omega
  ·refine⟨?_,by rw[gE h,b1];omega⟩
   show Uh P Q pre true (92::c::r)=_
   rw[DC (by decide),DC (by omega)];rfl
 rw[if_neg hq]
 by_cases hc:c.toNat<32
 ·rw[if_pos hc]
  have h1:=oW (c.toNat/16) (by omega)
  have h2:=oW (c.toNat % 16) (by omega)
  refine⟨Bg _ _ _ λx hx=>?_,by show wM (pre++([92,117,48,48,N7 (c.toNat/16)]++[N7 (c.toNat % 16)])) % 2=0;rw[Zdr h2.2]⟩
  simp only[Ya,P2,or_false] at hx
  rcases hx with rfl|rfl|rfl|rfl|rfl|rfl
  ·decide
  ·decide
  ·decide
  ·decide
  ·exact h1.1
  ·exact h2.1
 ·rw[if_neg hc]
  refine⟨Bg [c] _ _ λx hx=>?_,by rw[y6 (by omega)]⟩
  rw[Y1.1 hx];omega
theorem yk: ∀(s pre r:List UInt8),wM pre % 2=0->Uh P Q pre true (s.flatMap qB++r)=s.flatMap qB++Uh P Q (pre++s.flatMap qB) true r∧wM (pre++s.flatMap qB) % 2=0
 |[],pre,r,h=>⟨by show Uh P Q pre true r=_;rw[show([]:List UInt8).flatMap qB=[] from rfl,Xu];rfl,by show wM (pre++[]) % 2=0;rw[Xu];exact h⟩
 |c::s,pre,r,h=>by
  rw[X8,Yl]
  obtain⟨h1,h2⟩:=Zdo (P:=P) (Q:=Q) (r:=s.flatMap qB++r) c h
  obtain⟨h3,h4⟩:=yk s (pre++qB c) r h2
  rw[h1,h3,Yl,Yl]
  exact⟨rfl,by rw[<-Yl];exact h4⟩
theorem tw(s pre r:List UInt8):Uh P Q pre false (quo s++r)=quo s++Uh P Q (pre++quo s) false r:=by
 have e:quo s++r=34::(s.flatMap qB++34::r):=by unfold quo;simp
 have e2:pre++quo s=pre++[34]++s.flatMap qB++[34]:=by unfold quo;simp
 rw[e,e2,Po,if_neg (by simp[tB]),if_neg (by simp),if_pos ⟨rfl,by simp⟩]
 obtain⟨h1,h2⟩:=yk (P:=P) (Q:=Q) s (pre++[34]) (34::r) (by rw[y6 (by decide)])
 show [34]++Uh P Q (pre++[34]) true _=_
 rw[h1,Po,if_neg (by simp),if_neg (by decide),if_pos]
 ·unfold quo;simp
 ·refine⟨rfl,λhn=>?_⟩
  have:=hn.2
  unfold x6 at this
  rw[h2] at this;cases this
theorem Ren.post{h:Nat}{v:JV}{t b:List UInt8}(hr:Ren h v t)(hb:Bl b):Ren h v (t++b):=by
 cases h with
 |zero=>exact hr.elim
 |succ h=>
  obtain⟨k,b',n,s,l,m⟩:=v
  obtain⟨b1,c,b2,e,h1,h2,h3⟩:=hr
  exact⟨b1,c,b2++b,by rw[e];simp,h1,λx hx=>by rcases Zs.1 hx with h|h;exact h2 x h;exact hb x h,h3⟩
theorem Ren.pre{h:Nat}{v:JV}{t b:List UInt8}(hr:Ren h v t)(hb:Bl b):Ren h v (b++t):=by
 cases h with
 |zero=>exact hr.elim
 |succ h=>
  obtain⟨k,b',n,s,l,m⟩:=v
  obtain⟨b1,c,b2,e,h1,h2,h3⟩:=hr
  exact⟨b++b1,c,b2,by rw[e];simp,λx hx=>by rcases Zs.1 hx with h|h;exact hb x h;exact h1 x h,h2,h3⟩
def Scn(P Q:Nat->List UInt8)(R:List UInt8->Prop)(t:List UInt8):Prop:= ∀pre r,∃t',Uh P Q pre false (t++r)=t'++Uh P Q (pre++t) false r∧R t'
theorem Scn.plain{w:List UInt8}(h: ∀c∈w,tB c=false∧c.toNat≠34):Scn P Q (λt=>t=w) w:=λpre r=>⟨w,Bh w pre r h,rfl⟩
structure AA(R:List UInt8->Prop):Prop where
 pre: ∀b t,Bl b->R t->R (b++t)
 post: ∀b t,Bl b->R t->R (t++b)
theorem Ren.softB(h:Nat)(v:JV):AA (Ren h v):=⟨λ_ _ hb hr=>hr.pre hb,λ_ _ hb hr=>hr.post hb⟩
theorem Bl.app{a b:List UInt8}(ha:Bl a)(hb:Bl b):Bl (a++b):=λx hx=>by rcases Zs.1 hx with h|h;exact ha x h;exact hb x h
theorem RE.softB{f:JV->List UInt8->Prop}(e:List UInt8×JV)(hf:AA (f e.2)):AA (RE f e):=by
 constructor
 ·rintro b t hb ⟨b1,b2,a,rfl,h1,h2,h3⟩
  exact⟨b++b1,b2,a,by simp,hb.app h1,h2,h3⟩
 ·rintro b t hb ⟨b1,b2,a,rfl,h1,h2,h3⟩
  exact⟨b1,b2,a++b,by simp,h1,h2,hf.post b a hb h3⟩
section
variable {α:Type} {f:α->List UInt8->Prop} {g:α->List UInt8}
theorem mg(hP: ∀i,Bl (P i))(hQ: ∀i,Bl (Q i)): ∀(l:List α),(∀x∈l,Scn P Q (f x) (g x))->(∀x∈l,AA (f x))-> ∀pre r,∃b0 t',Uh P Q pre false ((l.flatMap λx=>44::g x)++r)=b0++(t'++Uh P Q (pre++l.flatMap λx=>44::g x) false r)∧Bl b0∧RJ f l t'
 |[],_,_,pre,r=>⟨[],[],by rw[show List.flatMap (λx=>44::g x) []=[] from rfl,Xu];rfl,λ_ h=>(by cases h),rfl⟩
 |x::l,h,hs,pre,r=>by
  rw[X8,Yl,Xj,OO rfl]
  obtain⟨a,ha,hf⟩:=h x (by simp) (pre++[44]) ((l.flatMap λx=>44::g x)++r)
  rw[ha]
  obtain⟨b0,t',ht,hb0,hj⟩:=mg hP hQ l (λy hy=>h y (by simp[hy])) (λy hy=>hs y (by simp[hy])) (pre++[44]++g x) r
  rw[ht]
  refine⟨P pre.length,44::((Q pre.length++a++b0)++t'),?_,hP _,_,_,rfl,(hs x (by simp)).post _ _ hb0 ((hs x (by simp)).pre _ _ (hQ _) hf),hj⟩
  simp
theorem md(hP: ∀i,Bl (P i))(hQ: ∀i,Bl (Q i))(c1 c2:UInt8)(s1:tB c1=true)(s2:tB c2=true)(l:List α)(h: ∀x∈l,Scn P Q (f x) (g x))(hs: ∀x∈l,AA (f x))(pre r:List UInt8):
  ∃b1 d b2,Uh P Q pre false ([c1]++Vq (l.map g)++[c2]++r)=b1++((c1::(d++[c2]))++b2)++Uh P Q (pre++([c1]++Vq (l.map g)++[c2])) false r∧Bl b1∧Bl b2∧RI f l d:=by
 cases l with
 |nil=>
  show ∃b1 d b2,Uh P Q pre false (c1::c2::r)=_∧_
  rw[OO s1,OO s2]
  refine⟨P pre.length,Q pre.length++P (pre++[c1]).length,Q (pre++[c1]).length,?_,hP _,hQ _,(hQ _).app (hP _)⟩
  simp[Vq]
 |cons x l=>
  have e:Vq ((x::l).map g)=g x++l.flatMap λx=>44::g x:=by
   show g x++(l.map g).flatMap _=_
   rw[List.flatMap_map]
  rw[e]
  have e2:[c1]++(g x++l.flatMap λx=>44::g x)++[c2]++r=c1::(g x++((l.flatMap λx=>44::g x)++c2::r)):=by simp
  rw[e2,OO s1]
  obtain⟨a,ha,hf⟩:=h x (by simp) (pre++[c1]) ((l.flatMap λx=>44::g x)++c2::r)
  rw[ha]
  obtain⟨b0,t',ht,hb0,hj⟩:=mg hP hQ l (λy hy=>h y (by simp[hy])) (λy hy=>hs y (by simp[hy])) (pre++[c1]++g x) (c2::r)
  rw[ht,OO s2]
  have last: ∀(l:List α) (t' b:List UInt8),(∀x∈l,AA (f x))->l≠[]->RJ f l t'->Bl b->RJ f l (t'++b):=by
   intro l
   induction l with
   |nil=>intro _ _ _ h;exact absurd rfl h
   |cons y l ih=>
    intro t' b hs _ ⟨a,b',e,hy,hl⟩ hb
    cases l with
    |nil=>
     have hl:b'=[]:=hl
     refine⟨a++b,[],by rw[e,hl];simp,(hs y (by simp)).post _ _ hb hy,rfl⟩
    |cons z l=>exact⟨a,b'++b,by rw[e];simp,hy,ih b' b (λw hw=>hs w (by simp[hw])) (by simp) hl hb⟩
  cases l with
  |nil=>
   have hj:t'=[]:=hj
   subst hj
   refine⟨P pre.length,(Q pre.length++a++b0)++P (pre++[c1]++g x).length++[],Q (pre++[c1]++g x).length,?_,hP _,hQ _,(Q pre.length++a++b0)++P (pre++[c1]++g x).length,[],by simp,(hs x (by simp)).post _ _ (hP _) ((hs x (by simp)).post _ _ hb0 ((hs x (by simp)).pre _ _ (hQ _) hf)),rfl⟩
   simp
  |cons y l=>
   refine⟨P pre.length,(Q pre.length++a++b0)++(t'++P (pre++[c1]++g x++(y::l).flatMap λx=>44::g x).length),Q (pre++[c1]++g x++(y::l).flatMap λx=>44::g x).length,?_,hP _,hQ _,_,_,rfl,(hs x (by simp)).post _ _ hb0 ((hs x (by simp)).pre _ _ (hQ _) hf),last _ _ _ (λw hw=>hs w (by simp[hw])) (by simp) hj (hP _)⟩
   simp
end
theorem lc(n:Int): ∀c∈P7 n,tB c=false∧c.toNat≠34:=by
 have hd: ∀m,∀c∈dec m,tB c=false∧c.toNat≠34:=λm c hc=>by
  have:=AS hc
  refine⟨?_,by omega⟩
  unfold tB
  simp only[XI,beq_eq_false_iff_ne]
  omega
 unfold P7
 split
 ·intro c hc
  rcases Ya.1 hc with rfl|h
  ·exact⟨by decide,by decide⟩
  ·exact hd _ c h
 ·exact hd _
theorem Ir:(∀c∈ER,tB c=false∧c.toNat≠34)∧(∀c∈BU,tB c=false∧c.toNat≠34)∧ ∀c∈Iq,tB c=false∧c.toNat≠34:=by decide
theorem Fr(hP: ∀i,Bl (P i))(hQ: ∀i,Bl (Q i)): ∀(h:Nat) (v:JV),JV.wrong h v=false->JV.deep h v=false->Scn P Q (Ren h (srt h v)) (JV.text h v)
 |0,v,_,hd=>by cases hd
 |h+1,.mk k b n s l m,hw,hd=>by
  intro pre r
  have hw:(decide (k<1)||decide (6<k)||!JV.apart (.mk k b n s l m)||!vu s||JV.badM (JV.wrong h) [] m||l.any (JV.wrong h))=false:=hw
  have hd:(l.any (JV.deep h)||m.any λe=>JV.deep h e.2)=false:=hd
  simp only[XI] at hw hd
  obtain⟨⟨⟨⟨⟨w1,w2⟩,w3⟩,w4⟩,w5⟩,w6⟩:=hw
  have et:JV.text (h+1) (.mk k b n s l m)=(if k=1 then [110,117,108,108] else if k=2 then(if b=true then [116,114,117,101] else [102,97,108,115,101]) else if k=3 then P7 n else if k=4 then quo s
   else if k=5 then [91]++Vq (l.map (JV.text h))++[93] else [123]++Vq ((Xi TG m).map λe=>quo e.1++[58]++JV.text h e.2)++[125]):=rfl
  rw[et]
  have nobl:Bl []:=λ_ h=>by cases h
  have mk: ∀(c:List UInt8),(∃t',Uh P Q pre false (c++r)=t'++Uh P Q (pre++c) false r∧t'=c)->((k=1∧c=ER)∨(k=2∧c=if b=true then BU else Iq)∨(k=3∧c=P7 n)∨(k=4∧c=quo s)∨(k=5∧ ∃d,c=91::(d++[93])∧RI (Ren h) (l.map (srt h)) d)∨(k=6∧ ∃d,c=123::(d++[125])∧RI (RE (Ren h)) ((Xi TG m).map λe=>(e.1,srt h e.2)) d))-> ∃t',Uh P Q pre false (c++r)=t'++Uh P Q (pre++c) false r∧Ren (h+1) (srt (h+1) (.mk k b n s l m)) t':=by
   rintro c ⟨t',e,rfl⟩ hc
   exact⟨_,e,[],_,[],by simp,nobl,nobl,hc⟩
  by_cases k1:k=1
  ·rw[if_pos k1]
   exact mk ER (Scn.plain Ir.1 pre r) (.inl ⟨k1,rfl⟩)
  rw[if_neg k1]
  by_cases k2:k=2
  ·rw[if_pos k2]
   refine mk _ ?_ (.inr (.inl ⟨k2,rfl⟩))
   cases b with
   |true=>exact Scn.plain Ir.2.1 pre r
   |false=>exact Scn.plain Ir.2.2 pre r
  rw[if_neg k2]
  by_cases k3:k=3
  ·rw[if_pos k3]
   exact mk _ (Scn.plain (lc n) pre r) (.inr (.inr (.inl ⟨k3,rfl⟩)))
  rw[if_neg k3]
  by_cases k4:k=4
  ·rw[if_pos k4]
   exact mk _ ⟨_,tw s pre r,rfl⟩ (.inr (.inr (.inr (.inl ⟨k4,rfl⟩))))
  rw[if_neg k4]
  have hl: ∀x∈l,JV.wrong h x=false∧JV.deep h x=false:=λx hx=>by
   have a:=X2.1 w6 x hx
   have b:=X2.1 hd.1 x hx
   exact⟨by simpa using a,by simpa using b⟩
  have hm: ∀(m:List (List UInt8×JV)) (seen:List (List UInt8)),JV.badM (JV.wrong h) seen m=false-> ∀e∈m,JV.wrong h e.2=false:=by
   intro m
   induction m with
   |nil=>intro _ _ e he;cases he
   |cons x m ih=>
    intro seen hb e he
    have hb:(decide (x.1∈seen)||!vu x.1||JV.wrong h x.2||JV.badM (JV.wrong h) (seen++[x.1]) m)=false:=hb
    simp only[XI] at hb
    rcases Ya.1 he with rfl|he
    ·exact hb.1.2
    ·exact ih _ hb.2 e he
  by_cases k5:k=5
  ·rw[if_pos k5]
   obtain⟨b1,d,b2,e,h1,h2,hd⟩:=md (f:=λx=>Ren h (srt h x)) (g:=JV.text h) hP hQ 91 93 rfl rfl l (λx hx=>Fr hP hQ h x (hl x hx).1 (hl x hx).2) (λx _=>Ren.softB _ _) pre r
   refine⟨_,e,b1,_,b2,rfl,h1,h2,.inr (.inr (.inr (.inr (.inl ⟨k5,d,rfl,?_⟩))))⟩
   revert hd
   clear e
   have rj: ∀(l:List JV) (t:List UInt8),RJ (λx=>Ren h (srt h x)) l t->RJ (Ren h) (l.map (srt h)) t:=by
    intro l
    induction l with
    |nil=>intro t h;exact h
    |cons x l ih=>intro t ⟨a,b,e,h1,h2⟩;exact⟨a,b,e,h1,ih b h2⟩
   cases l with
   |nil=>exact λh=>h
   |cons x l=>exact λ⟨a,b,e,h1,h2⟩=>⟨a,b,e,h1,rj l b h2⟩
  ·rw[if_neg k5]
   have k6:k=6:=by
    have a:=of_decide_eq_false w1
    have b:=of_decide_eq_false w2
    omega
   have hsc: ∀e∈Xi TG m,Scn P Q (RE (Ren h) (e.1,srt h e.2)) (quo e.1++[58]++JV.text h e.2):=λe he pre r=>by
    have hem:=T4 TG e he
    have dp:JV.deep h e.2=false:=by simpa using X2.1 hd.2 e hem
    rw[Yl,Yl,tw,Yl]
    have:([58]:List UInt8)++(JV.text h e.2++r)=58::(JV.text h e.2++r):=rfl
    rw[this,OO rfl]
    obtain⟨a,ha,hf⟩:=Fr hP hQ h e.2 (hm m [] w5 e hem) dp (pre++quo e.1++[58]) r
    rw[ha]
    refine⟨quo e.1++(P (pre++quo e.1).length++(58::(Q (pre++quo e.1).length++a))),by simp,[],_,_,by simp;rfl,nobl,hP _,hf.pre (hQ _)⟩
   obtain⟨b1,d,b2,e,h1,h2,hd⟩:=md (f:=λe=>RE (Ren h) (e.1,srt h e.2)) (g:=λe:List UInt8×JV=>quo e.1++[58]++JV.text h e.2) hP hQ 123 125 rfl rfl (Xi TG m) hsc (λx _=>RE.softB _ (Ren.softB _ _)) pre r
   refine⟨_,e,b1,_,b2,rfl,h1,h2,.inr (.inr (.inr (.inr (.inr ⟨k6,d,rfl,?_⟩))))⟩
   revert hd
   clear e hsc
   have rj: ∀(l:List (List UInt8×JV)) (t:List UInt8),RJ (λe=>RE (Ren h) (e.1,srt h e.2)) l t->RJ (RE (Ren h)) (l.map λe=>(e.1,srt h e.2)) t:=by
    intro l
    induction l with
    |nil=>intro t h;exact h
    |cons x l ih=>intro t ⟨a,b,e,h1,h2⟩;exact⟨a,b,e,h1,ih b h2⟩
   generalize Xi TG m=M
   cases M with
   |nil=>exact λh=>h
   |cons x l=>exact λ⟨a,b,e,h1,h2⟩=>⟨a,b,e,h1,rj l b h2⟩
end
section
variable {α:Type} [Inhabited α] (lt:α->α->Bool)
theorem sd: ∀(L:List α) (j:Nat),j+1<L.length->(swp L j).Perm L
 |[],j,h=>by simp at h
 |[a],j,h=>by simp at h
 |a::b::L,0,_=>.swap ..
 |a::b::L,j+1,h=>(sd (b::L) j (by simpa using h)).cons a
theorem zA: ∀(j:Nat) (L:List α),j<L.length->(NQ lt j L).Perm L
 |0,L,_=>.refl _
 |j+1,L,h=>by
  unfold NQ
  split
  ·exact(zA j _ (by rw[NG];omega)).trans (sd L j h)
  ·exact .refl _
theorem zC: ∀(k i:Nat) (L:List α),i+k<=L.length->(Jq lt k i L).Perm L
 |0,_,L,_=>.refl _
 |k+1,i,L,h=>by
  unfold Jq
  exact(zC k _ _ (by rw[PR];omega)).trans (zA lt i L (by omega))
theorem qb(L:List α):(Xi lt L).Perm L:=by
 unfold Xi
 by_cases h:L.length=0
 ·have:L=[]:=Yj.1 h
  subst this;exact .refl _
 ·exact zC lt _ _ L (by omega)
def SP(n:Nat)(L:List α):Prop:= ∀j,j+1<n->lt (L.getD (j+1) default) (L.getD j default)=false
theorem wF{L:List α}{j:Nat}(h:j+1<L.length)(q:Nat):(swp L j).getD q default=if q=j then L.getD (j+1) default else if q=j+1 then L.getD j default else L.getD q default:=by
 unfold swp
 simp only[Zf]
 by_cases h1:q=j
 ·subst h1
  rw[if_pos rfl,Ul (by rw[Xv];omega)];rfl
 ·rw[if_neg h1,U9 (λe=>h1 e.symm)]
  by_cases h2:q=j+1
  ·subst h2
   rw[if_pos rfl,Ul h];rfl
  ·rw[if_neg h2,U9 (λe=>h2 e.symm)]
theorem nk(ha: ∀a b,lt a b=true->lt b a=false)(i:Nat): ∀(j:Nat) (L:List α),j<=i->i<L.length->
  (∀q,q+1<=i->q+1≠j->lt (L.getD (q+1) default) (L.getD q default)=false)->(0<j->j<i->lt (L.getD (j+1) default) (L.getD (j - 1) default)=false)->SP lt (i+1) (NQ lt j L)
 |0,L,_,_,h,_=>λq hq=>h q (by omega) (by omega)
 |j+1,L,hj,hi,h,h2=>by
  unfold NQ
  by_cases hl:lt (L.getD (j+1) default) (L.getD j default)=true
  ·rw[if_pos hl]
   have hb:j+1<L.length:=by omega
   refine nk ha i j (swp L j) (by omega) (by rw[NG];exact hi) (λq hq hn=>?_) (λh0 _=>?_)
   ·rw[wF hb,wF hb]
    by_cases e1:q=j
    ·subst e1
     rw[if_neg (by omega),if_pos rfl,if_pos rfl]
     exact ha _ _ hl
    by_cases e2:q=j+1
    ·subst e2
     rw[if_neg (by omega),if_neg (by omega),if_neg (by omega),if_pos rfl]
     exact h2 (by omega) (by omega)
    rw[if_neg (by omega),if_neg (by omega),if_neg e1,if_neg e2]
    exact h q hq (by omega)
   ·rw[wF hb,wF hb,if_neg (by omega),if_pos rfl,if_neg (by omega),if_neg (by omega)]
    have:=h (j - 1) (by omega) (by omega)
    rw[show j - 1+1=j by omega] at this
    exact this
  ·rw[if_neg hl]
   intro q hq
   by_cases e:q=j
   ·subst e;simpa using hl
   ·exact h q (by omega) (by omega)
theorem nq(ha: ∀a b,lt a b=true->lt b a=false): ∀(k i:Nat) (L:List α),1<=i->i+k=L.length->SP lt i L->SP lt L.length (Jq lt k i L)
 |0,i,L,_,h,hs=>by unfold Jq;rw[<-h];exact hs
 |k+1,i,L,hi,h,hs=>by
  unfold Jq
  have:=nq ha k (i+1) (NQ lt i L) (by omega) (by rw[PR];omega) (nk lt ha i i L (Zj _) (by omega) (λq hq hn=>hs q (by omega)) (λ_ h=>absurd h (Vw _)))
  rw[PR] at this
  exact this
theorem dv(ha: ∀a b,lt a b=true->lt b a=false)(L:List α):SP lt L.length (Xi lt L):=by
 unfold Xi
 by_cases h:L.length=0
 ·intro j hj;omega
 ·exact nq lt ha _ 1 L (Zj _) (by omega) (λj hj=>by omega)
theorem lY: ∀(j:Nat) (L:List α),SP lt (j+1) L->NQ lt j L=L
 |0,L,_=>rfl
 |j+1,L,h=>by
  unfold NQ
  rw[h j (by omega),if_neg (by simp)]
theorem zD: ∀(k i:Nat) (L:List α),SP lt (i+k) L->Jq lt k i L=L
 |0,_,L,_=>rfl
 |k+1,i,L,h=>by
  unfold Jq
  rw[lY lt i L (λj hj=>h j (by omega))]
  exact zD k (i+1) L (λj hj=>h j (by omega))
theorem qc(L:List α)(h:SP lt L.length L):Xi lt L=L:=by
 unfold Xi
 by_cases h0:L.length=0
 ·have:L=[]:=Yj.1 h0
  subst this;rfl
 ·exact zD lt _ 1 L (by rw[show 1+(L.length - 1)=L.length by omega];exact h)
end
theorem EP: ∀a b:List UInt8,YD a b=true->YD b a=false
 |[],[],h=>by cases h
 |[],_::_,_=>rfl
 |_::_,[],h=>by cases h
 |a::x,b::y,h=>by
  have h:cond (Nat.ble (Nat.succ a.toNat) b.toNat) true (cond (My a b) (YD x y) false)=true:=h
  show cond (Nat.ble (Nat.succ b.toNat) a.toNat) true (cond (My b a) (YD y x) false)=false
  have be: ∀x y,My x y=decide (x=y):=λx y=>by
   show Nat.beq x.toNat y.toNat=_
   by_cases h:x=y
   ·subst h;rw[Ze rfl];exact Yb _
   ·rw[Za h]
    cases hb:Nat.beq x.toNat y.toNat with
    |false=>rfl
    |true=>exact absurd (WO.1 (ZT hb)) h
  rw[be] at h ⊢
  by_cases Y6:a.toNat<b.toNat
  ·have h1:Nat.ble (Nat.succ b.toNat) a.toNat=false:=by
    cases hb:Nat.ble (Nat.succ b.toNat) a.toNat with
    |false=>rfl
    |true=>have:=ZN hb;omega
   have h2:decide (b=a)=false:=Za λe=>by rw[e] at Y6;omega
   rw[h1,h2];rfl
  ·have h1:Nat.ble (Nat.succ a.toNat) b.toNat=false:=by
    cases hb:Nat.ble (Nat.succ a.toNat) b.toNat with
    |false=>rfl
    |true=>have:=ZN hb;omega
   rw[h1] at h
   by_cases e:a=b
   ·subst e
    have h2:Nat.ble (Nat.succ a.toNat) a.toNat=false:=h1
    rw[Ze rfl] at h ⊢
    rw[h2]
    exact EP x y h
   ·rw[Za e] at h;cases h
theorem kK(a b:List UInt8×JV)(h:TG a b=true):TG b a=false:=EP _ _ h
def Rng:Nat->JV->Prop
 |0,_=>True
 |h+1,.mk _ _ n _ l m=>(-9223372036854775808<=n∧n<9223372036854775808)∧(∀x∈l,Rng h x)∧ ∀e∈m,Rng h e.2
theorem Rng.down: ∀{d h:Nat} {v:JV},d<=h->Rng h v->Rng d v
 |0,_,_,_,_=>trivial
 |d+1,0,_,hd,_=>by omega
 |d+1,h+1,.mk _ _ _ _ _ _,hd,⟨a,b,c⟩=>⟨a,λx hx=>(b x hx).down (by omega),λe he=>(c e he).down (by omega)⟩
theorem Rng.of_ok: ∀{h:Nat} {v:JV},JV.ok h v->Rng h v
 |0,_,_=>trivial
 |h+1,.mk _ _ _ _ _ _,⟨a,_,b,c⟩=>⟨a,λx hx=>.of_ok (b x hx),λe he=>.of_ok (c e he)⟩
theorem DP{f:JV->Bool}: ∀{m:List (List UInt8×JV)} {seen:List (List UInt8)},JV.badM f seen m=false->(m.map (·.1)).Nodup∧(∀e∈m,e.1∉seen)∧(∀e∈m,vu e.1=true)∧ ∀e∈m,f e.2=false
 |[],_,_=>⟨List.nodup_nil,by simp,by simp,by simp⟩
 |e::m,seen,h=>by
  have h:(decide (e.1∈seen)||!vu e.1||f e.2||JV.badM f (seen++[e.1]) m)=false:=h
  simp only[XI] at h
  obtain⟨⟨⟨h1,h2⟩,h3⟩,h4⟩:=h
  obtain⟨a,b,c,d⟩:=DP h4
  have h1:=of_decide_eq_false h1
  refine⟨?_,?_,?_,?_⟩
  ·rw[Y8,R7]
   refine⟨λhm=>?_,a⟩
   obtain⟨x,hx,e2⟩:=YV.1 hm
   have:=b x hx
   rw[e2] at this
   exact this (by simp)
  ·intro x hx
   rcases Ya.1 hx with rfl|hx
   ·exact h1
   ·intro hs;exact b x hx (by simp[hs])
  ·intro x hx
   rcases Ya.1 hx with rfl|hx
   ·simpa using h2
   ·exact c x hx
  ·intro x hx
   rcases Ya.1 hx with rfl|hx
   ·exact h3
   ·exact d x hx
theorem oe: ∀(h:Nat) (v:JV),JV.wrong h v=false->JV.deep h v=false->Rng h v->WF h (srt h v)
 |0,_,_,hd,_=>by cases hd
 |h+1,.mk k b n s l m,hw,hd,⟨hn,hl,hm⟩=>by
  have hw:(decide (k<1)||decide (6<k)||!JV.apart (.mk k b n s l m)||!vu s||JV.badM (JV.wrong h) [] m||l.any (JV.wrong h))=false:=hw
  have hd:(l.any (JV.deep h)||m.any λe=>JV.deep h e.2)=false:=hd
  simp only[XI] at hw hd
  obtain⟨⟨⟨⟨⟨w1,w2⟩,w3⟩,w4⟩,w5⟩,w6⟩:=hw
  have w3:((decide (k=2)||!b)&&(decide (k=3)||decide (n=0))&&(decide (k=4)||decide (s=[]))&&(decide (k=5)||decide (l.length=0))&&(decide (k=6)||decide (m.length=0)))=true:=by
   have:JV.apart (.mk k b n s l m)=true:=by simpa using w3
   exact this
  simp only[XE,Vx,decide_eq_true_eq,Bool.not_eq_true'] at w3
  obtain⟨⟨⟨⟨a2,a3⟩,a4⟩,a5⟩,a6⟩:=w3
  obtain⟨b1,_,b3,b4⟩:=DP w5
  have mem:=λe=>T4 TG (L:=m) e
  refine⟨hn,by simpa using w4,λh=>?_,λh=>?_,λh=>?_,λh=>?_,λh=>?_,?_,?_,?_,?_⟩
  ·rcases a2 with h2|h2;exact absurd h2 h;exact h2
  ·rcases a3 with h2|h2;exact absurd h2 h;exact h2
  ·rcases a4 with h2|h2;exact absurd h2 h;exact h2
  ·rcases a5 with h2|h2;exact absurd h2 h;rw[Yj.1 h2];rfl
  ·rcases a6 with h2|h2;exact absurd h2 h;rw[Yj.1 h2];rfl
  ·rw[UP]
   exact(((qb TG m).map (·.1)).nodup_iff).2 b1
  ·intro e he
   obtain⟨x,hx,rfl⟩:=YV.1 he
   exact b3 x (mem x hx)
  ·intro x hx
   obtain⟨y,hy,rfl⟩:=YV.1 hx
   exact oe h y (by simpa using X2.1 w6 y hy) (by simpa using X2.1 hd.1 y hy) (hl y hy)
  ·intro e he
   obtain⟨x,hx,rfl⟩:=YV.1 he
   have hx:=mem x hx
   exact oe h x.2 (b4 x hx) (by simpa using X2.1 hd.2 x hx) (hm x hx)
theorem A8{α β:Type}[Inhabited α][Inhabited β]{f:α->β}{l:List α}{i:Nat}(h:i<l.length):(l.map f).getD i default=f (l.getD i default):=by
 rw[Zf,YR,Zi h,Zf,Zi h];rfl
theorem ke(m:List (List UInt8×JV))(f:JV->JV):Xi TG ((Xi TG m).map λe=>(e.1,f e.2))=(Xi TG m).map λe=>(e.1,f e.2):=by
 refine qc TG _ λj hj=>?_
 rw[Zr] at hj
 have:=dv TG kK m j (by rw[SH] at hj;exact hj)
 rw[A8 (by omega),A8 (by omega)]
 exact this
theorem Bf: ∀(h d:Nat) (v:JV),d<=h->JV.deep d v=false->JV.same h v (srt d v)=true
 |_,0,v,_,hd=>by cases hd
 |0,d+1,_,h,_=>by omega
 |h+1,d+1,.mk k b n s l m,hdh,hd=>by
  have hd:(l.any (JV.deep d)||m.any λe=>JV.deep d e.2)=false:=hd
  simp only[XI] at hd
  show(decide (k=k)&&decide (b=b)&&decide (n=n)&&decide (s=s)&&decide (m.length=((Xi TG m).map λe=>(e.1,srt d e.2)).length)&&JV.eqL (JV.same h) l (l.map (srt d))&&JV.eqM (JV.same h) (Xi TG m) (Xi TG ((Xi TG m).map λe=>(e.1,srt d e.2))))=true
  rw[ke,Zr,SH]
  have e1: ∀l:List JV,(∀x∈l,JV.deep d x=false)->JV.eqL (JV.same h) l (l.map (srt d))=true:=by
   intro l
   induction l with
   |nil=>intro _;rfl
   |cons x l ih=>
    intro hx
    show(JV.same h x (srt d x)&&JV.eqL (JV.same h) l (l.map (srt d)))=true
    rw[Bf h d x (by omega) (hx x (by simp)),ih λy hy=>hx y (by simp[hy])];rfl
  have e2: ∀M:List (List UInt8×JV),(∀e∈M,JV.deep d e.2=false)->JV.eqM (JV.same h) M (M.map λe=>(e.1,srt d e.2))=true:=by
   intro M
   induction M with
   |nil=>intro _;rfl
   |cons x M ih=>
    intro hx
    show(decide (x.1=x.1)&&JV.same h x.2 (srt d x.2)&&JV.eqM (JV.same h) M (M.map λe=>(e.1,srt d e.2)))=true
    rw[Bf h d x.2 (by omega) (hx x (by simp)),ih λy hy=>hx y (by simp[hy]),Ze rfl];rfl
  rw[e1 l λx hx=>by simpa using X2.1 hd.1 x hx,e2 (Xi TG m) λe he=>by simpa using X2.1 hd.2 e (T4 TG e he)]
  simp
theorem p7: ∀(h d:Nat) (v:JV),d<=h->JV.deep d v=false->JV.text h v=JV.text d v
 |_,0,v,_,hd=>by cases hd
 |0,d+1,_,h,_=>by omega
 |h+1,d+1,.mk k b n s l m,hdh,hd=>by
  have hd:(l.any (JV.deep d)||m.any λe=>JV.deep d e.2)=false:=hd
  simp only[XI] at hd
  have e1:l.map (JV.text h)=l.map (JV.text d):=V1 λx hx=>p7 h d x (by omega) (by simpa using X2.1 hd.1 x hx)
  have e2:((Xi TG m).map λe=>quo e.1++[58]++JV.text h e.2)=(Xi TG m).map λe=>quo e.1++[58]++JV.text d e.2:=V1 λe he=>by rw[p7 h d e.2 (by omega) (by simpa using X2.1 hd.2 e (T4 TG e he))]
  show(if k=1 then [110,117,108,108] else if k=2 then(if b=true then [116,114,117,101] else [102,97,108,115,101]) else if k=3 then P7 n else if k=4 then quo s
   else if k=5 then [91]++Vq (l.map (JV.text h))++[93] else [123]++Vq ((Xi TG m).map λe=>quo e.1++[58]++JV.text h e.2)++[125])=_
  rw[e1,e2];rfl
theorem qY: ∀(d h:Nat) (v:JV),JV.ok h v->JV.ok h (srt d v)
 |0,_,_,h=>h
 |d+1,0,_,_=>trivial
 |d+1,h+1,.mk k b n s l m,⟨a,c,hl,hm⟩=>by
  refine⟨a,by rw[Zr,SH];exact c,λx hx=>?_,λe he=>?_⟩
  ·obtain⟨y,hy,rfl⟩:=YV.1 hx
   exact qY d h y (hl y hy)
  ·obtain⟨y,hy,rfl⟩:=YV.1 he
   exact qY d h y.2 (hm y (T4 TG y hy))
theorem vA{v:JV}(h:JV.check v=0):JV.wrong 32 v=false∧JV.deep 32 v=false:=by
 unfold JV.check at h
 cases hw:JV.wrong 32 v with
 |true=>rw[hw] at h;simp at h
 |false=>
  cases hd:JV.deep 32 v with
  |true=>rw[hw,hd] at h;simp at h
  |false=>exact⟨rfl,rfl⟩
theorem vj{P Q:Nat->List UInt8}(hP: ∀i,Bl (P i))(hQ: ∀i,Bl (Q i)){h:Nat}{v:JV}(hc:JV.check v=0)(hh:32<=h)(hr:Rng h v){a b:List UInt8}(ha:Bl a)(hb:Bl b):
  ∃j,rv (a++Uh P Q [] false (JV.text h v)++b) 32 0=.ok (srt 32 v) j∧(a++Uh P Q [] false (JV.text h v)++b).length<=Z5 (a++Uh P Q [] false (JV.text h v)++b) j:=by
 obtain⟨hw,hd⟩:=vA hc
 rw[p7 h 32 v hh hd]
 obtain⟨t',e,Zop⟩:=Fr hP hQ 32 v hw hd [] []
 rw[Xu] at e
 have e0:Uh P Q ([]++JV.text 32 v) false []=[]:=rfl
 rw[e0,Xu] at e
 rw[e]
 obtain⟨j,b2,h1,h2,h3⟩:=C6 (a++t'++b) 32 (srt 32 v) 32 (Zj _) (oe 32 v hw hd (hr.down hh)) 0 (a++t'++b) [] ((Zop.pre ha).post hb) (by simp) (λ_ _ e=>by cases e)
 refine⟨j,h1,?_⟩
 rw[Xu] at h2
 have:=(OF (b:=b2) (r:=[]) (by rw[h2];simp) h3 (λ_ _ e=>by cases e)).2
 rw[List.drop_eq_nil_iff] at this
 exact this
section
variable {Zo:NJ} {fs:T CF} {fuel k n i h b:Nat} {H H0:Zc} {s:List UInt8} {cs:List AV}
theorem bE{e p:Nat}(h:LA s i=.bad e p):e=5:=by
 unfold LA at h
 cases h1:C3 (Z3 s (i+1)) with
 |some d=>rw[h1] at h;cases h
 |none=>
  rw[h1] at h
  simp only at h
  by_cases c1:Z3 s (i+1)≠117
  ·rw[if_pos c1] at h;injection h with h _;exact h.symm
  rw[if_neg c1] at h
  cases h2:Nb s (i+2) with
  |none=>rw[h2] at h;injection h with h _;exact h.symm
  |some c=>
   rw[h2] at h
   simp only at h
   by_cases c2:56320<=c∧c<=57343
   ·rw[if_pos c2] at h;injection h with h _;exact h.symm
   rw[if_neg c2] at h
   by_cases c3:55296<=c∧c<=56319
   ·rw[if_pos c3] at h
    by_cases c4:Z3 s (i+6)=92∧Z3 s (i+7)=117
    ·rw[if_pos c4] at h
     cases h5:Nb s (i+8) with
     |none=>rw[h5] at h;injection h with h _;exact h.symm
     |some w=>
      rw[h5] at h
      simp only at h
      by_cases c5:56320<=w∧w<=57343
      ·rw[if_pos c5] at h;cases h
      ·rw[if_neg c5] at h;injection h with h _;exact h.symm
    ·rw[if_neg c4] at h;injection h with h _;exact h.symm
   ·rw[if_neg c3] at h;cases h
theorem pC: ∀(m i:Nat) (acc:List UInt8) {e p:Nat},wu s m i acc=.bad e p->e=5
 |0,i,acc,e,p,h=>by injection h with h _;exact h.symm
 |m+1,i,acc,e,p,h=>by
  replace h:(if Z3 s i=34 then .ok acc (i+1) else if Z3 s i=92 then(match LA s i with|.bad e p=>.bad e p|.ok t j=>wu s m j (acc++t)) else if Z3 s i<32 then .bad 5 i else if Xc (s.drop i)=0 then .bad 5 i else wu s m (i+Xc (s.drop i)) (acc++(s.drop i).take (Xc (s.drop i))))=RR.bad e p:=h
  by_cases h1:Z3 s i=34
  ·rw[if_pos h1] at h;cases h
  rw[if_neg h1] at h
  by_cases h2:Z3 s i=92
  ·rw[if_pos h2] at h
   cases he:LA s i with
   |bad e' p'=>
    rw[he] at h
    injection h with h _
    rw[<-h]
    exact bE he
   |ok t j=>rw[he] at h;exact pC m j _ h
  rw[if_neg h2] at h
  by_cases h3:Z3 s i<32
  ·rw[if_pos h3] at h;injection h with h _;exact h.symm
  rw[if_neg h3] at h
  by_cases h4:Xc (s.drop i)=0
  ·rw[if_pos h4] at h;injection h with h _;exact h.symm
  rw[if_neg h4] at h
  exact pC m _ _ h
theorem HH: ∀(w:List UInt8) (i:Nat) {e p:Nat},Qe s w i=.bad e p->e=5
 |[],i,e,p,h=>by cases h
 |c::w,i,e,p,h=>by
  replace h:(if Z3 s i=c.toNat then Qe s w (i+1) else .bad 5 i)=RR.bad e p:=h
  by_cases h1:Z3 s i=c.toNat
  ·rw[if_pos h1] at h;exact HH w _ h
  ·rw[if_neg h1] at h;injection h with h _;exact h.symm
theorem nU{α:Type}{c:Nat}{one:List α->Nat->RR α}(ho: ∀acc i e p,one acc i=.bad e p->e<=100): ∀(m i:Nat) (acc:List α) {e p:Nat},RO s c one m i acc=.bad e p->e<=100
 |0,i,acc,e,p,h=>by injection h with h _;omega
 |m+1,i,acc,e,p,h=>by
  replace h:(if Z3 s (Z5 s i)=c then .ok acc (Z5 s i+1) else if Z3 s (Z5 s i)≠44 then .bad 5 (Z5 s i) else match one acc (Z5 s i+1) with|.bad e p=>.bad e p|.ok v k=>RO s c one m k (acc++[v]))=RR.bad e p:=h
  by_cases h1:Z3 s (Z5 s i)=c
  ·rw[if_pos h1] at h;cases h
  rw[if_neg h1] at h
  by_cases h2:Z3 s (Z5 s i)≠44
  ·rw[if_pos h2] at h;injection h with h _;omega
  rw[if_neg h2] at h
  cases he:one acc (Z5 s i+1) with
  |bad e' p'=>rw[he] at h;injection h with h _;rw[<-h];exact ho _ _ _ _ he
  |ok v k=>rw[he] at h;exact nU ho m _ _ h
theorem bH{α:Type}{c:Nat}{one:List α->Nat->RR α}(ho: ∀acc i e p,one acc i=.bad e p->e<=100){e p:Nat}(h:RF s c one i=.bad e p):e<=100:=by
 unfold RF at h
 by_cases h1:Z3 s (Z5 s i)=c
 ·rw[if_pos h1] at h;cases h
 rw[if_neg h1] at h
 cases he:one [] (Z5 s i) with
 |bad e' p'=>rw[he] at h;injection h with h _;rw[<-h];exact ho _ _ _ _ he
 |ok v k=>rw[he] at h;exact nU ho _ _ _ h
theorem Mr{α β:Type}{f:α->β}{x:RR α}{e p:Nat}(h:Mq f x=.bad e p):x=.bad e p:=by
 cases x with
 |bad e' p'=>injection h with h1 h2;rw[h1,h2]
 |ok a k=>cases h
theorem pD(s:List UInt8): ∀(lv i e p:Nat),rv s lv i=.bad e p->e<=100
 |0,i,e,p,h=>by injection h with h _;omega
 |lv+1,i,e,p,h=>by
  unfold rv at h
  simp only at h
  by_cases c1:Z3 s (Z5 s i)=110
  ·rw[if_pos c1] at h;have:=HH _ _ (Mr h);omega
  rw[if_neg c1] at h
  by_cases c2:Z3 s (Z5 s i)=116
  ·rw[if_pos c2] at h;have:=HH _ _ (Mr h);omega
  rw[if_neg c2] at h
  by_cases c3:Z3 s (Z5 s i)=102
  ·rw[if_pos c3] at h;have:=HH _ _ (Mr h);omega
  rw[if_neg c3] at h
  have hrq: ∀i e p,rq s i=.bad e p->e=5:=λi e p h=>by
   unfold rq at h
   by_cases h1:Z3 s (Z5 s i)=34
   ·rw[if_pos h1] at h;exact pC _ _ _ h
   ·rw[if_neg h1] at h;injection h with h _;exact h.symm
  by_cases c4:Z3 s (Z5 s i)=34
  ·rw[if_pos c4] at h
   have:=hrq _ _ _ (Mr h);omega
  rw[if_neg c4] at h
  by_cases c5:Z3 s (Z5 s i)=91
  ·rw[if_pos c5] at h
   exact bH (λ_ i e p h=>pD s lv i e p h) (Mr h)
  rw[if_neg c5] at h
  by_cases c6:Z3 s (Z5 s i)=123
  ·rw[if_pos c6] at h
   refine bH (λacc i e p h=>?_) (Mr h)
   unfold M4 at h
   cases hq:rq s (Z5 s i) with
   |bad e' p'=>rw[hq] at h;injection h with h _;have:=hrq _ _ _ hq;omega
   |ok key kq=>
    rw[hq] at h
    simp only at h
    by_cases h1:key∈acc.map (·.1)
    ·rw[if_pos h1] at h;injection h with h _;omega
    rw[if_neg h1] at h
    by_cases h2:Z3 s (Z5 s kq)≠58
    ·rw[if_pos h2] at h;injection h with h _;omega
    rw[if_neg h2] at h
    cases hv:rv s lv (Z5 s kq+1) with
    |bad e' p'=>rw[hv] at h;injection h with h _;have:=pD s lv _ _ _ hv;omega
    |ok v j=>rw[hv] at h;cases h
  rw[if_neg c6] at h
  cases hn:Te s (Z5 s i) with
  |bad p' q=>rw[hn] at h;injection h with h _;omega
  |ok z q=>rw[hn] at h;cases h
theorem jL(E:Env Zo fs fuel){n:Nat}{v:AV}(g:Sh H)(gu:V8 H)(YL:H.ro<=H.nx)(hv1: ∀G,Zp H G []->pX v G=.val (.str s) G)(xz: ∀G,QK v G=.val (nI .i64 s.length) G)(hl:s.length<999998):
  match rv s 32 0 with
  |.bad e p=> ∃H',ZG (LK Zo fs fuel 6) fs fuel (n+210) 17 [v] H=.ret (.tup [.agg Zhu,nI .i64 p,nI .i64 e]) H'∧Zp H H' []
  |.ok w j=>if Z5 s j<s.length then ∃H',ZG (LK Zo fs fuel 6) fs fuel (n+210) 17 [v] H=.ret (.tup [.agg Zhu,nI .i64 (Z5 s j),nI .i64 5]) H'∧Zp H H' []
   else ∃cs H',ZG (LK Zo fs fuel 6) fs fuel (n+210) 17 [v] H=.ret (.tup [.agg cs,nI .i64 0,nI .i64 0]) H'∧Zp H H' []∧Jz H' (λc=>c<H.nx) 32 w cs:=by
 unfold Zhu
 rw[ZF (ZB E.n17 (.inl (by decide)) _ _) E.f17]
 obtain⟨H1,Yo⟩:=WQ (H.new (rH 27 zV))
 obtain⟨H2,XH⟩:=WQ (H1.new (rH 3 [nI .i64 0]))
 obtain⟨H3,V9⟩:=WQ (H2.new (rH 29 [nI .i64 0]))
 obtain⟨H4,Oy⟩:=WQ (H3.new (rH 120 [.str s,nI .i64 0]))
 have VH:H1.nx=H.nx+1:=by rw[<-Yo];rfl
 have nx2:H2.nx=H.nx+1+1:=by rw[<-XH,WJ,VH]
 have Fe:H3.nx=H.nx+1+1+1:=by rw[<-V9,WJ,nx2]
 have nH:H4.nx=H.nx+1+1+1+1:=by rw[<-Oy,WJ,Fe]
 have pz:H4.ro=H.ro:=by rw[<-Oy,<-V9,<-XH,<-Yo];rfl
 have k3:Zp H H3 []:=by rw[<-V9,<-XH,<-Yo];exact((Zp.new H _ _).then_new _).then_new _
 have k4:Zp H H4 []:=by rw[<-Oy];exact k3.then_new _
 have g4:Sh H4:=g.keep k4 (by simp)
 have a1:H4.t.get H.nx=some (rH 27 zV):=by rw[<-Oy,ZK (by omega),<-V9,ZK (by omega),<-XH,ZK (by omega),<-Yo,ZC rfl]
 have a2:H4.t.get (H.nx+1)=some (rH 3 [nI .i64 0]):=by rw[<-Oy,ZK (by omega),<-V9,ZK (by omega),<-XH,ZC VH]
 have a3:H4.t.get (H.nx+1+1)=some (rH 29 [nI .i64 0]):=by rw[<-Oy,ZK (by omega),<-V9,ZC nx2]
 have a4:H4.t.get (H.nx+1+1+1)=some (rd s 0):=by rw[<-Oy,ZC Fe];rfl
 have eS:=hv1 H3 k3
 have Qc:100<=H.nx:=g.1
 have dl:decide (16777216<s.length)=false:=Za (by omega)
 have gu4:V8 H4:=gu.keep k4 (by simp)
 have vn:=pE E (k:=6) (by decide) (s:=s) hl 32 (by decide) (n+209) (by omega) (H:=H4) (i:=0) g4 gu4 a4 (by omega) (by omega) (by omega) (Z1 _)
 cases hn:rv s 32 0 with
 |bad e p=>
  rw[hn] at vn
  obtain⟨H5,q,ev,gr5,hq,hp,k5⟩:=vn
  have n5:H4.nx<=H5.nx:=k5.nx
  have r5:H5.ro=H.ro:=by rw[k5.ro,pz]
  have k6:Zp H H5 []:=k4.trans k5 (λc hc hl=>by rw[Y1] at hc;omega)
  have b1:H5.t.get H.nx=some (rH 27 zV):=by rw[k5.get _ (by omega) (by rw[Y1];omega),a1]
  have b2:H5.t.get (H.nx+1)=some (rH 3 [nI .i64 0]):=by rw[k5.get _ (by omega) (by rw[Y1];omega),a2]
  have b3:H5.t.get (H.nx+1+1)=some (rH 29 [nI .i64 0]):=by rw[k5.get _ (by omega) (by rw[Y1];omega),a3]
  have he:e<9223372036854775808:=by
   have:=pD s 32 0 e p hn
   omega
  unfold MM at ev
  simp(disch:=first|assumption|omega|(simp -implicitDefEqProofs only[ZY,ZZ]<;>first|assumption|omega)|decide) only[Yo,XH,V9,Oy,VH,nx2,Fe,eS,xz,dl,ev,b1,b2,b3,E.f58,wc,YK,ZJ,Il,Kn,Hc,Yq,Tf,pj,c17,c58,Zu,ZX,Zw,Zz,ZQ,Yk,Nat.reducePow,Nat.reduceDiv,Nat.reduceMod,reduceCtorEq,Yf]
  refine⟨_,rfl,?_⟩
  exact(((k6.then_new _).then_put λh=>absurd h (Vw _)).then_put λh=>by omega).then_put λh=>by omega
 |ok v j=>
  rw[hn] at vn
  obtain⟨a,H5,ev,gr5,hj,k5,cs,rfl,hx⟩:=vn
  have Gr:=hx.len
  have n5:H4.nx<=H5.nx:=k5.nx
  have r5:H5.ro=H.ro:=by rw[k5.ro,pz]
  have k6:Zp H H5 []:=k4.trans k5 (λc hc hl=>by rw[Y1] at hc;omega)
  have b1:H5.t.get H.nx=some (rH 27 zV):=by rw[k5.get _ (by omega) (by rw[Y1];omega),a1]
  have b2:H5.t.get (H.nx+1)=some (rH 3 [nI .i64 0]):=by rw[k5.get _ (by omega) (by rw[Y1];omega),a2]
  have b3:H5.t.get (H.nx+1+1)=some (rH 29 [nI .i64 0]):=by rw[k5.get _ (by omega) (by rw[Y1];omega),a3]
  have Ut:=Xg (n:=6) (l:=zV) (vs:=cs) (b:=H.nx) (H:=H5) (by rfl) Gr (by omega) (by omega) 27 1 false true
  obtain⟨H6,I8⟩:=WQ (H5.put H.nx (rH 27 cs))
  rw[I8] at Ut
  have n6:H6.nx=H5.nx:=by rw[<-I8];rfl
  have r6:H6.ro=H.ro:=by rw[<-I8,NU,r5]
  have k7:Zp H H6 []:=by rw[<-I8];exact k6.then_put λh=>absurd h (Vw _)
  have c1:H6.t.get H.nx=some (rH 27 cs):=by rw[<-I8,ZS]
  have c2:H6.t.get (H.nx+1)=some (rH 3 [nI .i64 0]):=by rw[<-I8,ZD (by omega),b2]
  have c3:H6.t.get (H.nx+1+1)=some (rH 29 [nI .i64 0]):=by rw[<-I8,ZD (by omega),b3]
  have c4:H6.t.get (H.nx+1+1+1)=some (rd s j):=by rw[<-I8,ZD (by omega),gr5]
  have eb:=λ{m}=>Fm E (k:=6) (n:=m) (by decide) c4 (by omega) (by omega) (by omega) (by omega)
  have MT:=R3 s j hj
  dsimp only
  generalize hw:Z5 s j=w at eb MT ⊢
  obtain⟨H7,Is⟩:=WQ (H6.put (H.nx+1+1+1) (rd s w))
  rw[Is] at eb
  have n7:H7.nx=H5.nx:=by rw[<-Is,Of,n6]
  have r7:H7.ro=H.ro:=by rw[<-Is,NU,r6]
  have k8:Zp H H7 []:=by rw[<-Is];exact k7.then_put λh=>by omega
  have e1:H7.t.get H.nx=some (rH 27 cs):=by rw[<-Is,ZD (by omega),c1]
  have e2:H7.t.get (H.nx+1)=some (rH 3 [nI .i64 0]):=by rw[<-Is,ZD (by omega),c2]
  have e3:H7.t.get (H.nx+1+1)=some (rH 29 [nI .i64 0]):=by rw[<-Is,ZD (by omega),c3]
  have e4:H7.t.get (H.nx+1+1+1)=some (rd s w):=by rw[<-Is,ZS]
  have e4':H7.t.get (H.nx+1+1+1)=some (rH 120 [.str s,nI .i64 w]):=e4
  have ef:=λ{m}=>HE E (k:=6) (n:=m) (by decide) e4 (by omega) (by omega)
  have ldx: ∀G:Zc,ldN 6 (some (rH 27 cs)) 0 G=.val (.agg cs) G:=λG=>by rw[WV (by omega)];congr 2;rw[Ye,ZM (by omega)]
  have rvx: ∀kk:AV->CR,rV 6 true (some (rH 27 cs)) 0 kk=kk (.agg cs):=λkk=>Tf (n:=6) (l:=cs) Gr kk
  by_cases Y6:w<s.length
  ·have d1:decide (w<s.length)=true:=Ze Y6
   rw[if_pos Y6]
   have hfl:=Xg (n:=2) (l:=[nI .i64 0,nI .i64 0]) (vs:=[nI .i64 5,nI .i64 w]) (b:=H7.nx) (H:=H7.new (rH 117 [nI .i64 0,nI .i64 0])) (by rfl) (by rfl) (by omega) (by rw[qy];omega) 117 1 false true
   rw[Vb rfl] at hfl
   obtain⟨H8,hH8⟩:=WQ (H7.new (rH 117 [nI .i64 5,nI .i64 w]))
   rw[hH8] at hfl
   have n8:H8.nx=H7.nx+1:=by rw[<-hH8];rfl
   have r8:H8.ro=H7.ro:=by rw[<-hH8];rfl
   have k9:Zp H H8 []:=by rw[<-hH8];exact k8.then_new _
   have f0:H8.t.get H7.nx=some (rH 117 [nI .i64 5,nI .i64 w]):=by rw[<-hH8,ZC rfl]
   have f1:H8.t.get H.nx=some (rH 27 cs):=by rw[<-hH8,ZK (by omega),e1]
   have f2:H8.t.get (H.nx+1)=some (rH 3 [nI .i64 0]):=by rw[<-hH8,ZK (by omega),e2]
   have f3:H8.t.get (H.nx+1+1)=some (rH 29 [nI .i64 0]):=by rw[<-hH8,ZK (by omega),e3]
   have hz:=Xg (n:=6) (l:=cs) (vs:=zV) (b:=H.nx) (H:=H8) Gr (by rfl) (by omega) (by omega) 27 1 false true
   unfold MM at ef
   simp(disch:=first|assumption|omega|(simp -implicitDefEqProofs only[ZY,ZZ]<;>first|assumption|omega)|decide) only[Yo,XH,V9,Oy,VH,nx2,Fe,eS,xz,dl,ev,Ut,eb,d1,ef,b1,e4',hfl,f0,f1,f2,f3,hz,E.f58,wc,YK,ZO,ZJ,XK,Yq,Tf,pj,c17,c58,Zu,ZX,Zw,Zz,ZQ,Yk,Nat.reducePow,Nat.reduceDiv,Nat.reduceMod,reduceCtorEq,Yf]
   refine⟨_,rfl,?_⟩
   exact((k9.then_put λh=>absurd h (Vw _)).then_put λh=>by omega).then_put λh=>by omega
  ·have d1:decide (w<s.length)=false:=Za Y6
   rw[if_neg Y6]
   have LD:=Xg (n:=6) (l:=cs) (vs:=cs) (b:=H.nx) (H:=H7) Gr Gr (by omega) (by omega) 27 1 false true
   simp(disch:=first|assumption|omega|(simp -implicitDefEqProofs only[ZY,ZZ]<;>first|assumption|omega)|decide) only[Yo,XH,V9,Oy,VH,nx2,Fe,eS,xz,dl,ev,Ut,eb,d1,b1,e1,e2,e3,e4',LD,ldx,E.f58,wc,YK,ZO,ZJ,XK,Yq,rvx,pj,c17,c58,Zu,ZX,Zw,Zz,ZQ,Yk,Yf]
   refine⟨cs,_,rfl,((k8.then_put λh=>absurd h (Vw _)).then_put λh=>by omega).then_put λh=>by omega,?_⟩
   refine hx.move (λc hc hS=>?_) (Nat.le_of_eq (by rw[Of,Of,Of,n7])) (λc hc hS=>by show c<H4.nx;have hS:c<H.nx:=hS;omega)
   rw[ZD (by omega),ZD (by omega),ZD (by omega),<-Is,ZD (by omega),<-I8,ZD (by omega)]
theorem vM{l:List UInt8}(h:i<l.length):(l.map UZ).getD i .unk=UZ (l.getD i 0):=by
 rw[Zf,YR,Zf,Zi h];rfl
theorem Zo5{G:Zc}{c:Option Nat}(h:G.t.get b=some (rG 5 1 (s.map UZ) 0 true true false)):pX (.slice b 0 s.length c) G=.val (.str s) G:=by
 have h':G.t.get b=some (.row ⟨5,1,YH (s.map UZ),T.ofList (s.map UZ),.unk,0,true,true,false⟩):=h
 refine BH h' rfl (by show 0+s.length<=YH (s.map UZ);rw[YC,Zr];omega) λi hi=>?_
 rw[Zt,Fo,vM hi]
def xC(n:Nat)(a i:AV)(H:Zc):OR:=SW i λi=>CY a λcs=>ZL (Nat.ble (Nat.succ i) n) (TN (E2 cs i) λv=>.val v H)
theorem uG(x y:Yc)(n:Nat)(tm:TM)(H:Zc):Mf x y n tm H=xC n (x tm) (y tm) H:=rfl
theorem ZdE{t:List UInt8}(h:i<t.length)(G:Zc):ld1 (some (rG 5 1 (t.map UZ) 0 true true false)) i G=.val (nI .u8 (Z3 t i)) G:=by
 rw[ZJ (by rw[Zr];exact h),vM h];rfl
theorem Zko{o len:Nat}{c:Option Nat}(h:i<len)(k:IntKind)(G:Zc):Ha 1 (.slice b o len c) (nI k i) G=.val (.ptr b (o+i)) G:=by
 exact Xw h b o c k G
theorem Zdv{t:List UInt8}(h:i<t.length):t.drop i=t.getD i 0::t.drop (i+1):=by
 rw[Xs h,Zf,Zi h];rfl
theorem aM{t:List UInt8}(h:i<t.length):t.take (i+1)=t.take i++[t.getD i 0]:=OP h 0
theorem Zh5{t:List UInt8}(hn:n<=t.length)(h: ∀j,j<n->Z3 t (t.length - 1 - j)=92)(h2:n<t.length->Z3 t (t.length - 1 - n)≠92):wM t=n:=by
 unfold wM
 have hr: ∀j,j<t.length->t.reverse.getD j 0=t.getD (t.length - 1 - j) 0:=λj hj=>by
  rw[Zf,List.getElem?_reverse hj,Zf]
 have key: ∀(n:Nat) (l:List UInt8),n<=l.length->(∀j,j<n->(l.getD j 0).toNat=92)->(n<l.length->(l.getD n 0).toNat≠92)->(l.takeWhile λc=>c.toNat==92).length=n:=by
  intro n
  induction n with
  |zero=>
   intro l _ _ h2
   cases l with
   |nil=>rfl
   |cons c l=>
    have:=h2 (by simp)
    rw[Wm (by simpa using this)];rfl
  |succ n ih=>
   intro l hl h1 h2
   cases l with
   |nil=>simp at hl
   |cons c l=>
    have h0:=h1 0 (by omega)
    rw[Wn (by simpa using h0),Zl,ih l (by simpa using hl) (λj hj=>h1 (j+1) (by omega)) (λhn=>h2 (by simpa using hn))]
 refine key n t.reverse (by rw[List.length_reverse];exact hn) (λj hj=>?_) (λY6=>?_)
 ·rw[hr j (by omega)];exact h j hj
 ·rw[List.length_reverse] at Y6
  rw[hr n Y6];exact h2 Y6
structure ODI(H0:Zc)(tb i:Nat)(p:List UInt8)(m:Nat)(tm:TM)(H:Zc):Prop where
 k: ∃k,W6 tm=nI .i64 k∧k<=i∧m=i - k∧ ∀j,j<k->Z3 p (i - 1 - j)=92
 t0:Z4 tm=.slice tb 0 i none
 h:H=H0
theorem ZcN{cl:Nat->List AV->Zc->CR}{tb:Nat}{T:List UInt8}(hi:i<=T.length)(hl:T.length<1000000000)(g:H0.t.get tb=some (rG 5 1 (T.map UZ) 0 true true false))(y f d r)(x:X)(m:Nat)(tm:TM)(H:Zc)(hI:ODI H0 tb i T m tm H):
  ∃o Yp H',GA ⟨cl,y,f,d,r⟩ tm H x=.ok o Yp H' x∧((o=.normal∧ ∃q,q<m∧ODI H0 tb i T q Yp H')∨(o≠.normal∧(o=.exit 0∧H'=H0∧ ∃k,W6 Yp=nI .i64 k∧k<=i∧(∀j,j<k->Z3 T (i - 1 - j)=92)∧(k<i->Z3 T (i - 1 - k)≠92)))):=by
 obtain⟨⟨k,t3,hk,rfl,hb⟩,t0,rfl⟩:=hI
 have KQ:=t0;have Di:=t3
 simp only[Pi,J7] at t0 t3
 have el:=λ(G:Zc)=>Vl tb 0 i none G
 by_cases h1:k<i
 ·have d1:decide (k<i)=true:=Ze h1
  have s1:=λ(G:Zc)=>Wy (a:=i) (b:=1) (by omega) (by omega) G
  have s2:=λ(G:Zc)=>Wy (a:=i - 1) (b:=k) (by omega) (by omega) G
  have ix:=λ(G:Zc)=>Zko (b:=tb) (o:=0) (c:=none) (len:=i) (i:=i - 1 - k) (by omega) .i64 G
  have ld:=λ(G:Zc)=>ZdE (t:=T) (i:=i - 1 - k) (by omega) G
  by_cases h2:Z3 T (i - 1 - k)=92
  ·have d2:decide (Z3 T (i - 1 - k)=92)=true:=Ze h2
   simp(disch:=omega) only[t0,t3,el,d1,s1,s2,ix,g,ld,d2,ZO,Z2,YQ,Zt,GA,Zu,ZX,Yf]
   refine⟨_,_,_,rfl,.inl ⟨rfl,i - (k+1),by omega,⟨k+1,rfl,by omega,rfl,λj hj=>?_⟩,KQ,rfl⟩⟩
   by_cases hjk:j=k
   ·rw[hjk];exact h2
   ·exact hb j (by omega)
  ·have d2:decide (Z3 T (i - 1 - k)=92)=false:=Za h2
   simp only[t0,t3,el,d1,s1,s2,ix,g,ld,d2,ZO,Z2,Zt,GA,Zu,ZX,Yf]
   refine⟨_,_,_,rfl,?_⟩
   exact .inr ⟨by simp,rfl,rfl,k,(by simp only[ZX];exact Di),hk,hb,λ_=>h2⟩
 ·have d1:decide (k<i)=false:=Za h1
  simp only[t0,t3,el,d1,ZO,GA,Zu,ZX,Yf]
  refine⟨_,_,_,rfl,?_⟩
  exact .inr ⟨by simp,rfl,rfl,k,(by simp only[ZX];exact Di),hk,hb,λh=>absurd h h1⟩
theorem ZcO(E:Env Zo fs fuel){tb:Nat}{T:List UInt8}(hi:i<=T.length)(hl:T.length<999998)(g:H.t.get tb=some (rG 5 1 (T.map UZ) 0 true true false)):
  ZG (LK Zo fs fuel k) fs fuel (n+1) 16 [.slice tb 0 i none] H=.ret (.bool (x6 (T.take i))) H:=by
 rw[ZF (ZB E.n16 (.inr rfl) _ _) E.f16]
 simp only[c16,Zu,Yf]
 generalize hL:WR (GA _) fuel _ _ _=L
 obtain⟨o,SY,H1,rfl,_,rfl,rfl,kk,t3,hk,h1,h2⟩:=Y9 (P:=λtm=>ODI H tb i T i tm H) (Q:=λo Yp H'=>o=.exit 0∧H'=H∧ ∃k,W6 Yp=nI .i64 k∧k<=i∧(∀j,j<k->Z3 T (i - 1 - j)=92)∧(k<i->Z3 T (i - 1 - k)≠92))
  (λtm R0=>Xk (ODI H tb i T) _ (λm tm H' h'=>ZcN hi (by omega) g _ _ _ _ _ m tm H' h') fuel i tm H (by have:=E.big;omega) R0) hL
  ⟨⟨0,rfl,Z1 _,rfl,λj hj=>absurd hj (Xa _)⟩,rfl,rfl⟩
 simp only[J7] at t3
 have hlen:(T.take i).length=i:=by rw[Z9];omega
 have bt: ∀j,j<i->Z3 (T.take i) j=Z3 T j:=λj hj=>by
  unfold Z3
  rw[Zf,XJ hj,<-Zf]
 have eD:wM (T.take i)=kk:=Zh5 (by omega) (λj hj=>by rw[hlen,bt _ (by omega)];exact h1 j hj) (λY6=>by rw[hlen] at Y6 ⊢;rw[bt _ (by omega)];exact h2 Y6)
 have ho:x6 (T.take i)=decide (kk % 2=1):=by unfold x6;rw[eD];rfl
 rw[ho]
 simp(disch:=omega) only[t3,bN,Z2,Zu,ZX,Zw,Yf]
def pW(k:Nat):List UInt8:=([[],[32],[9,13],[10,32,32]]:List (List UInt8)).getD (k % 4) []
def qW(k:Nat):List UInt8:=([[32],[],[10],[13,9,32]]:List (List UInt8)).getD (k/4 % 4) []
def kW(bl:List Nat)(i:Nat):Nat:=if i<bl.length then bl.getD i 0 else i % 256
theorem Zew(k:Nat):Bl (pW k)∧Bl (qW k):=by
 have h: ∀r,r<4->Bl (([[],[32],[9,13],[10,32,32]]:List (List UInt8)).getD r [])∧Bl (([[32],[],[10],[13,9,32]]:List (List UInt8)).getD r []):=by unfold Bl;decide
 exact⟨(h _ (W1 _ (by decide))).1,(h _ (W1 _ (by decide))).2⟩
theorem ZgW(k:Nat):(pW k).length<=3∧(qW k).length<=3:=by
 have h: ∀r,r<4->(([[],[32],[9,13],[10,32,32]]:List (List UInt8)).getD r []).length<=3∧(([[32],[],[10],[13,9,32]]:List (List UInt8)).getD r []).length<=3:=by decide
 exact⟨(h _ (W1 _ (by decide))).1,(h _ (W1 _ (by decide))).2⟩
theorem ZkS(k:Nat)(G:Zc):xC 4 (.agg [.str [],.str [32],.str [9,13],.str [10,32,32]]) (nI .u8 (k % 4)) G=.val (.str (pW k)) G:=by
 have h:k % 4=0∨k % 4=1∨k % 4=2∨k % 4=3:=by omega
 unfold pW
 rcases h with h|h|h|h<;>rw[h]<;>rfl
theorem ZkW(k:Nat)(G:Zc):xC 4 (.agg [.str [32],.str [],.str [10],.str [13,9,32]]) (nI .u8 (k/4 % 4)) G=.val (.str (qW k)) G:=by
 have h:k/4 % 4=0∨k/4 % 4=1∨k/4 % 4=2∨k/4 % 4=3:=by omega
 unfold qW
 rcases h with h|h|h|h<;>rw[h]<;>rfl
def j9(x:Nat):Bool:=x==91||x==93||x==123||x==125||x==44||x==58
theorem aq: ∀c:Fin 256,(VS c.val [91,93,123,125,44,58] 0= -1∧j9 c.val=false)∨ ∃d:Fin 6,VS c.val [91,93,123,125,44,58] 0=Int.ofNat d.val∧j9 c.val=true:=by decide+kernel
theorem Zha{x:Nat}(hx:x<256)(H:Zc):P6 T3 Vs (.int .i64 (VS x [91,93,123,125,44,58] 0)) (nI .i64 0) H=.val (.bool (j9 x)) H:=by
 rcases aq ⟨x,hx⟩ with⟨h1,h2⟩|⟨d,h1,h2⟩
 ·simp only at h1 h2;rw[h1,h2];rfl
 ·simp only at h1 h2;rw[h1,h2]
  show P6 T3 Vs (nI .i64 d.val) (nI .i64 0) H=_
  rw[Yu,Ze (Z1 _)]
theorem ZoM(i:Nat)(H:Zc):MW .u8 (nI .i64 i) H=.val (nI .u8 (i % 256)) H:=by
 unfold nI
 rw[Mb,YY,OI]
def Lp:D:=(Zh (Zq Vn RT<|Zb (OB SR) RU<|Zq UR Qf<|Z8 Sd true (Z6 Xf) Qg<|Z8 Sd true (Zy 13 [(AI.k (.str [91,93,123,125,44,58])),RY]) Qh<|Z8 Sd true (YP T2 (kI 0) T3 Vs) QT<|Zb (YU Sd QD (kB false)) QU<|Zq QE X4<|Zd) (Zh (Zh (Zq Xx R4<|Zd) (ZR SZ (Zb (W9 [(.str []),(.str []),(.str []),(.str [])] [⟨0,1,(AI.k (.str []))⟩,⟨1,1,(AI.k (.str [32]))⟩,⟨2,1,(AI.k (.str [9,13]))⟩,⟨3,1,(AI.k (.str [10,32,32]))⟩]) Qi<|Zq Xq Q4<|Zb (Jr Qu (AI.k (nI .u8 4))) Pt<|Zb (Mf US Pg 4) Q5<|Zb (Zy 14 [Wk,Q0]) Pu<|Zd) Zd)) (Zh (Zq Xf Pv<|Zb (Zy 15 [Wk,PL]) Pw<|Zd) (Zh (Zh (Zq Xx Oh<|Zd) (ZR PM (Zb (W9 [(.str []),(.str []),(.str []),(.str [])] [⟨0,1,(AI.k (.str [32]))⟩,⟨1,1,(AI.k (.str []))⟩,⟨2,1,(AI.k (.str [10]))⟩,⟨3,1,(AI.k (.str [13,9,32]))⟩]) PY<|Zq Xq Oi<|Zb (If O0 (AI.k (nI .u8 4))) OG<|Zb (Jr O1 (AI.k (nI .u8 4))) No<|Zb (Mf Ph P8 4) NW<|Zb (Zy 14 [Wk,O2]) Ms<|Zd) Zd)) (Yy 2 (Zh (Zq Xf LC<|Zb (Vd Lu (AI.k (nI .u8 92)) VN false) KN<|Zq NN Jt<|Z8 Lv true (Z6 Vn) Ju<|Zb (YU Lv Jn (kB false)) Jv<|Zq Jo LB<|Zd) (ZR L6 Zd (Zh (Zq Xf Fx<|Zb (Vd GP (AI.k (nI .u8 34)) VN false) Fy<|Zq GQ E6<|Z8 Nj true (Z6 Vn) E7<|Z8 Nj true (Z6 EU) E8<|Z8 Ox true (Z6 Wi) E9<|Z8 Ox true (Z6 YW) Da<|Z8 Ox true (Kz 1 EV none (some EW) none) Db<|Z8 Ox true (Zy 16 [Jp]) Fz<|Z8 Nj true (YU Ox Lw (kB false)) FA<|Z8 Nj true (OB GR) FC<|Zb (YU Nj PN (kB false)) FD<|Zq J6 Jw<|Zd) (ZR MO (Zq Vn Gj<|Zb (OB L7) FE<|Zq EX U2<|Zd) Zd)))))))))
def wK:D:=(Zh (Zb (YP Ue Us XY YD) TO<|Zd) (Zh (ZR UB Zd (VK 0)) (Zh (Yy 1 (Zh (Zq Ue TP<|Zb (Wg Va Ue 1) Sr<|Zb (ZE Sb) TQ<|Zq VO XB<|Zq UI XX<|Zd) (Zh (Zq YW T9<|Zb (UD Uf .u8) Se<|Zq Tp XW<|Zd) (Zh (Zh (Zq YW SB<|Zq Xz Rl<|Zb (WY Rv) Ry<|Zb (YP Tq SQ XY YD) RQ<|Zd) (ZR Ra (Zq Xz RS<|Zq YW Rm<|Zb (Wg Sz Sc 1) S0<|Zb (ZE UJ) S1<|Zq T1 XW<|Zd) Zd)) Lp)))) (Zb (YT Ue (kI 1)) FF<|Zq GS Tt<|Zd))))
theorem iQ:oB=wK:=rfl
theorem ig{G:Zc}{tb:Nat}{t:List UInt8}(h:G.t.get tb=some (rG 5 1 (t.map UZ) 0 true true false))(hi:i<t.length):Fw 1 (.slice tb 0 t.length none) none (some (nI .i64 i)) G=.val (.slice tb 0 i none) G:=by
 have h':G.t.get tb=some (.row ⟨5,1,YH (t.map UZ),T.ofList (t.map UZ),.unk,0,true,true,false⟩):=h
 have hsz:YH (t.map UZ)=t.length:=by rw[YC,Zr]
 have hc:Uo ⟨5,1,YH (t.map UZ),T.ofList (t.map UZ),.unk,0,true,true,false⟩ 0 none=t.length:=by
  show YH (t.map UZ) - 0=_
  rw[hsz];rfl
 have Am:Jx ⟨5,1,YH (t.map UZ),T.ofList (t.map UZ),.unk,0,true,true,false⟩ 1 none=true:=rfl
 generalize(⟨5,1,YH (t.map UZ),T.ofList (t.map UZ),.unk,0,true,true,false⟩:Row)=r at h' hc Am
 show Y3 G tb _=_
 unfold Y3
 rw[h']
 show ZL (Jx r 1 none) (ZL (Nat.ble i (Uo r 0 none)) (ZL (Nat.ble 0 i) (ZL (Nat.ble 0 (Uo r 0 none)) (cond (Nat.beq 0 (Uo r 0 none)) _ (OR.val (.slice tb (0+0*1) (i - 0) none) G)))))=_
 rw[Am,hc,Zg (PG hi),Zg (Z1 i),Zg (Z1 t.length),Ym,Za (show ¬0=t.length by omega)]
 rfl
theorem mh(E:Env Zo fs fuel)(hk:2<=k){p5 tb sb:Nat}{a1:AV}{T W l:List UInt8}{P Q:Nat->List UInt8}{kk:Nat}{q:Bool}(ne:H0.nx<=sb)(nf:tb<H0.nx)(hl:T.length<500000)(Y6:i<T.length)(g0:H0.t.get tb=some (rG 5 1 (T.map UZ) 0 true true false))(y f d r)(x:X){L:X6}
  (bd:JQ H sb l)(hW0:l++Uh P Q (T.take i) q (T.drop i)=W)(hP:P i=pW kk)(hQ:Q i=qW kk)(hkk:kk<256)(hll:l.length<=7000000)(k0:Zp H0 H [])(YL:H.ro<=H.nx){Dl:TM}(hL:Lp ⟨ZG (LK Zo fs fuel k) fs fuel (n+3),y,f,d,r⟩ Dl H x=L)
  (t1:Xz Dl=a1)(t5:Wp Dl=.ptr p5 0)(t6:Wi Dl=.slice tb 0 T.length none)(t8:Wk Dl=.ptr sb 0)(t9:Vn Dl=.bool q)(t10:YW Dl=nI .i64 i)(t11:Xf Dl=nI .u8 (Z3 T i))(t12:Xq Dl=nI .u8 kk)(t27:Va Dl=.slice tb 0 T.length none)(t28:Us Dl=nI .i64 T.length)(t29:Ue Dl=nI .i64 i):
  ∃Yp H' q2 l2,L=.ok .normal Yp H' x∧Ue Yp=nI .i64 i∧Vn Yp=.bool q2∧Xz Yp=a1∧Wp Yp=.ptr p5 0∧Wi Yp=.slice tb 0 T.length none∧Wk Yp=.ptr sb 0∧Va Yp=.slice tb 0 T.length none∧Us Yp=nI .i64 T.length∧JQ H' sb l2∧l2++Uh P Q (T.take (i+1)) q2 (T.drop (i+1))=W∧l2.length<=l.length+7∧Below sb H H':=by
 subst hL
 have eF:=N0 T i
 have sg:=λ(G:Zc)=>Zha eF G
 have ei:=λ(G:Zc) (z:Nat)=>Zb6 E (k:=k) (n:=z) hk (s:=[91,93,123,125,44,58]) (x:=Z3 T i) (H:=G) eF
 have hW:=hW0
 rw[Zdv Y6] at hW
 have oT:T.getD i 0=UInt8.ofNat (Z3 T i):=(TC).symm
 have hcn:(T.getD i 0).toNat=Z3 T i:=rfl
 have Zj8:tB (T.getD i 0)=j9 (Z3 T i):=rfl
 have lW:(T.take i).length=i:=by rw[Z9];omega
 rw[Po,hcn,Zj8,lW,<-aM Y6,oT,hP,hQ] at hW
 have hPl:=ZgW kk
 have BK:=t29;have aL:=t9;have Px:=t1;have Dj:=t5;have wS:=t6;have EQ:=t8;have BI:=t27;have BJ:=t28
 simp only[PO,GV,Ct,ZbA,f7,f8,f9] at t1 t6 t8 t9 t10 t11 t12
 have rP:=λ(G:Zc)=>nW (a:=kk) (b:=4) (by omega) G
 have rQ1:=λ(G:Zc)=>Zda (a:=kk) (b:=4) (by omega) hkk G
 have rQ2:=λ(G:Zc)=>nW (a:=kk/4) (b:=4) (by omega) G
 have aP:=λ(G:Zc)=>ZkS kk G
 have aQ:=λ(G:Zc)=>ZkW kk G
 clear hW0 hP hQ oT hcn Zj8
 generalize Z3 T i=cc at*
 generalize pW kk=PP at*
 generalize qW kk=QQ at*
 have wb:=λ{HX:Zc} {lx:List UInt8} (b:JQ HX sb lx) (h1:lx.length<=10000000) (h2:HX.ro<=HX.nx)=>Jj E (k:=k) (n:=n) (sb:=sb) (x:=cc) b eF (by rw[Zl,ZA];omega) h2
 have ws:=λ{HX:Zc} {lx mx:List UInt8} (b:JQ HX sb lx) (h1:lx.length<=10000000) (h3:mx.length<=3) (h2:HX.ro<=HX.nx)=>Qs E (k:=k) (n:=n) (sb:=sb) (m:=mx) b (by omega) h2
 cases q with
 |false=>
  by_cases hs:j9 cc=true
  ·have c92:cc≠92:=λe=>by rw[e] at hs;revert hs;decide
   have c34:cc≠34:=λe=>by rw[e] at hs;revert hs;decide
   have wN:decide (cc=92)=false:=Za c92
   have IJ:decide (cc=34)=false:=Za c34
   rw[hs] at hW sg
   rw[if_pos (by rfl),if_neg (by simp),if_neg (λh=>c34 h.1)] at hW
   obtain⟨H1,e1,b1,w1⟩:=ws (mx:=PP) bd (by omega) (by omega) YL
   have n1:=w1.nx;have r1:=w1.ro
   obtain⟨H2,e2,b2,w2⟩:=wb b1 (by rw[Zm];omega) (by omega)
   have n2:=w2.nx;have r2:=w2.ro
   obtain⟨H3,e3,b3,w3⟩:=ws (mx:=QQ) b2 (by simp only[Zm,Zl,ZA];omega) (by omega) (by omega)
   simp(disch:=first|omega|simp only[ZY,ZZ]<;>omega) only[t6,t8,t9,t10,t11,t12,ei,sg,Z2,uG,wN,IJ,rP,rQ1,rQ2,aP,aQ,e1,e2,e3,Lp,Zu,ZX,Zw,Zz,Yf,WL,RA]
   exact⟨_,_,_,_,rfl,(by simp only[ZX];exact BK),(by simp only[ZX];exact aL),(by simp only[ZX];exact Px),(by simp only[ZX];exact Dj),(by simp only[ZX];exact wS),(by simp only[ZX];exact EQ),(by simp only[ZX];exact BI),(by simp only[ZX];exact BJ),b3,(show _++Uh _ _ _ false _=W by rw[<-hW];simp),(by simp only[Zm,Zl,ZA];omega),(w1.trans w2).trans w3⟩
  ·have hs:j9 cc=false:=by simpa using hs
   rw[hs] at hW sg
   rw[if_neg (by simp),if_neg (by simp)] at hW
   obtain⟨H2,e2,b2,w2⟩:=wb bd (by omega) YL
   have n2:=w2.nx;have r2:=w2.ro
   by_cases c34:cc=34
   ·have IJ:decide (cc=34)=true:=Ze c34
    have wN:decide (cc=92)=false:=Za (by omega)
    rw[if_pos ⟨c34,by simp⟩] at hW
    simp only[t8,t9,t11,ei,sg,Z2,wN,IJ,e2,Lp,Zu,ZX,Zz,Yf,WL,RA]
    exact⟨_,_,_,_,rfl,(by simp only[ZX];exact BK),(by simp only[ZX]),(by simp only[ZX];exact Px),(by simp only[ZX];exact Dj),(by simp only[ZX];exact wS),(by simp only[ZX];exact EQ),(by simp only[ZX];exact BI),(by simp only[ZX];exact BJ),b2,(show _++Uh _ _ _ true _=W by rw[<-hW];simp),(by simp only[Zm,Zl,ZA];omega),w2⟩
   ·have IJ:decide (cc=34)=false:=Za c34
    rw[if_neg (λh=>c34 h.1)] at hW
    by_cases c92:cc=92
    ·have wN:decide (cc=92)=true:=Ze c92
     simp only[t6,t8,t9,t10,t11,ei,sg,Z2,wN,IJ,e2,Lp,Zu,ZX,Zz,Yf,WL,RA]
     exact⟨_,_,_,_,rfl,(by simp only[ZX];exact BK),(by simp only[ZX];exact aL),(by simp only[ZX];exact Px),(by simp only[ZX];exact Dj),(by simp only[ZX];exact wS),(by simp only[ZX];exact EQ),(by simp only[ZX];exact BI),(by simp only[ZX];exact BJ),b2,(show _++Uh _ _ _ false _=W by rw[<-hW];simp),(by simp only[Zm,Zl,ZA];omega),w2⟩
    ·have wN:decide (cc=92)=false:=Za c92
     simp only[t6,t8,t9,t10,t11,ei,sg,Z2,wN,IJ,e2,Lp,Zu,ZX,Zz,Yf,WL,RA]
     exact⟨_,_,_,_,rfl,(by simp only[ZX];exact BK),(by simp only[ZX];exact aL),(by simp only[ZX];exact Px),(by simp only[ZX];exact Dj),(by simp only[ZX];exact wS),(by simp only[ZX];exact EQ),(by simp only[ZX];exact BI),(by simp only[ZX];exact BJ),b2,(show _++Uh _ _ _ false _=W by rw[<-hW];simp),(by simp only[Zm,Zl,ZA];omega),w2⟩
 |true=>
  rw[if_neg (by simp)] at hW
  obtain⟨H2,e2,b2,w2⟩:=wb bd (by omega) YL
  by_cases c92:cc=92
  ·have wN:decide (cc=92)=true:=Ze c92
   rw[if_pos ⟨c92,rfl⟩] at hW
   simp only[t8,t9,t11,Z2,wN,e2,Lp,Zu,ZX,Zz,Yf,WL,RA]
   exact⟨_,_,_,_,rfl,(by simp only[ZX];exact BK),(by simp only[ZX];exact aL),(by simp only[ZX];exact Px),(by simp only[ZX];exact Dj),(by simp only[ZX];exact wS),(by simp only[ZX];exact EQ),(by simp only[ZX];exact BI),(by simp only[ZX];exact BJ),b2,(show _++Uh _ _ _ true _=W by rw[<-hW];simp),(by simp only[Zm,Zl,ZA];omega),w2⟩
  ·have wN:decide (cc=92)=false:=Za c92
   rw[if_neg (λh=>c92 h.1)] at hW
   by_cases c34:cc=34
   ·have IJ:decide (cc=34)=true:=Ze c34
    have K2:=Below.keep k0 w2 ne
    have g2:H2.t.get tb=some (rG 5 1 (T.map UZ) 0 true true false):=by rw[K2.get _ nf (by simp)];exact g0
    have sl2:=ig g2 Y6
    have eo:=ZcO E (k:=k) (n:=n+2) (i:=i) (by omega) (by omega) g2
    by_cases ho:x6 (T.take i)=true
    ·rw[ho] at eo hW
     rw[if_neg (by simp)] at hW
     simp only[t6,t8,t9,t10,t11,Z2,wN,IJ,e2,sl2,eo,Lp,Zu,ZX,Zz,Yf,WL,RA]
     exact⟨_,_,_,_,rfl,(by simp only[ZX];exact BK),(by simp only[ZX];exact aL),(by simp only[ZX];exact Px),(by simp only[ZX];exact Dj),(by simp only[ZX];exact wS),(by simp only[ZX];exact EQ),(by simp only[ZX];exact BI),(by simp only[ZX];exact BJ),b2,(show _++Uh _ _ _ true _=W by rw[<-hW];simp),(by simp only[Zm,Zl,ZA];omega),w2⟩
    ·have ho:x6 (T.take i)=false:=by simpa using ho
     rw[ho] at eo hW
     rw[if_pos ⟨c34,by simp⟩] at hW
     simp only[t6,t8,t9,t10,t11,Z2,wN,IJ,e2,sl2,eo,Lp,Zu,ZX,Zz,Yf,WL,RA]
     exact⟨_,_,_,_,rfl,(by simp only[ZX];exact BK),(by simp only[ZX]),(by simp only[ZX];exact Px),(by simp only[ZX];exact Dj),(by simp only[ZX];exact wS),(by simp only[ZX];exact EQ),(by simp only[ZX];exact BI),(by simp only[ZX];exact BJ),b2,(show _++Uh _ _ _ false _=W by rw[<-hW];simp),(by simp only[Zm,Zl,ZA];omega),w2⟩
   ·have IJ:decide (cc=34)=false:=Za c34
    rw[if_neg (λh=>c34 h.1)] at hW
    simp only[t6,t8,t9,t10,t11,Z2,wN,IJ,e2,Lp,Zu,ZX,Zz,Yf,WL,RA]
    exact⟨_,_,_,_,rfl,(by simp only[ZX];exact BK),(by simp only[ZX];exact aL),(by simp only[ZX];exact Px),(by simp only[ZX];exact Dj),(by simp only[ZX];exact wS),(by simp only[ZX];exact EQ),(by simp only[ZX];exact BI),(by simp only[ZX];exact BJ),b2,(show _++Uh _ _ _ true _=W by rw[<-hW];simp),(by simp only[Zm,Zl,ZA];omega),w2⟩
def pB(bl:List Nat)(i:Nat):List UInt8:=pW (kW bl i)
def qB2(bl:List Nat)(i:Nat):List UInt8:=qW (kW bl i)
structure JBI(H0:Zc)(p5 tb sb:Nat)(a1:AV)(T W:List UInt8)(bl:List Nat)(m:Nat)(tm:TM)(H:Zc):Prop where
 i: ∃i q l,Ue tm=nI .i64 i∧i<=T.length∧m=T.length - i∧Vn tm=.bool q∧JQ H sb l∧l++Uh (pB bl) (qB2 bl) (T.take i) q (T.drop i)=W∧l.length<=7*i
 t1:Xz tm=a1
 t5:Wp tm=.ptr p5 0
 t6:Wi tm=.slice tb 0 T.length none
 t8:Wk tm=.ptr sb 0
 t27:Va tm=.slice tb 0 T.length none
 t28:Us tm=nI .i64 T.length
 k:Zp H0 H []
 ro:H.ro<=H.nx
theorem Zcf(E:Env Zo fs fuel)(hk:2<=k){p5 tb sb:Nat}{a1:AV}{T W:List UInt8}{bl:List Nat}(ne:H0.nx<=sb)(nf:tb<H0.nx)(hl:T.length<500000)(g0:H0.t.get tb=some (rG 5 1 (T.map UZ) 0 true true false))(ha:Sl H0 1 a1 (bl.map λx=>[nI .u8 x]))(rB: ∀x∈bl,x<256)(y f d r)(x:X)(m:Nat)(tm:TM)(H:Zc)(hI:JBI H0 p5 tb sb a1 T W bl m tm H):
  ∃o Yp H',oB ⟨ZG (LK Zo fs fuel k) fs fuel (n+3),y,f,d,r⟩ tm H x=.ok o Yp H' x∧((o=.normal∧ ∃q,q<m∧JBI H0 p5 tb sb a1 T W bl q Yp H')∨(o≠.normal∧(o=.exit 0∧Xz Yp=a1∧Wp Yp=.ptr p5 0∧Wk Yp=.ptr sb 0∧Zp H0 H' []∧H'.ro<=H'.nx∧JQ H' sb W∧W.length<=7*T.length))):=by
 obtain⟨⟨i,q,l,t29,hi,rfl,t9,bd,hW,hll⟩,t1,t5,t6,t8,t27,t28,k0,YL⟩:=hI
 have BK:=t29;have aL:=t9;have Px:=t1;have Dj:=t5;have wS:=t6;have EQ:=t8;have BI:=t27;have BJ:=t28
 simp only[PO,ZdS,ZiZ,eg] at t1 t27 t28 t29
 rw[iQ]
 by_cases Y6:i<T.length
 ·have dlt:decide (i<T.length)=true:=Ze Y6
  have g:H.t.get tb=some (rG 5 1 (T.map UZ) 0 true true false):=by rw[k0.get _ nf (by simp)];exact g0
  have ix:=λ(G:Zc)=>Zko (b:=tb) (o:=0) (c:=none) (len:=T.length) (i:=i) Y6 .i64 G
  have ldc:=λ(G:Zc)=>ZdE (t:=T) (i:=i) Y6 G
  have ha1:=ha.keep0 k0
  have el1: ∀G,QK a1 G=.val (nI .i64 bl.length) G:=λG=>by rw[ha.len G,Zr]
  have i8:=λ(G:Zc)=>ZoM i G
  have kk4:kW bl i<256:=by
   unfold kW
   split
   ·exact rB _ (by rename_i h;rw[Zf,Zi h];exact YJ h)
   ·omega
  by_cases hib:i<bl.length
  ·have dk:decide (i<bl.length)=true:=Ze hib
   obtain⟨bb,ob,rb,ixb,B4,gbb,_,ldb⟩:=ha1.at_ (i:=i) (by rw[Zr];exact hib)
   have hkw:(bl.map λx=>[nI .u8 x]).getD i []=[nI .u8 (kW bl i)]:=by
    unfold kW
    rw[if_pos hib,Zf,YR,Zi hib,Zf,Zi hib];rfl
   have ldb: ∀G:Zc,ld1 (some (.row rb)) ob G=.val (nI .u8 (kW bl i)) G:=λG=>by
    have:=ldb 0 G (by decide)
    rw[hkw,Zv] at this
    exact this
   simp only[t1,t27,t28,t29,dlt,ix,g,ldc,el1,i8,dk,ixb,gbb,ldb,ZO,Zt,wK,Zu,ZX,Yf,WL]
   generalize hL:Lp _ _ _ _=L
   obtain⟨tm3,H3,q2,l2,rfl,b29,b9,b1,b5,b6,b8,b27,b28,bd2,hW2,Nl,w⟩:=mh E hk ne nf hl Y6 g0 _ _ _ _ _ bd hW rfl rfl kk4 (by omega) k0 YL hL Px Dj wS EQ aL rfl rfl rfl BI BJ BK
   have ZmP:=b29;have b9':=b9;have b1':=b1;have b5':=b5;have b6':=b6;have b8':=b8;have ZeQ:=b27;have ZeR:=b28
   simp only[eg] at b29
   simp(disch:=omega) only[b29,YQ,Zu,ZX,Yf,RA]
   have wn:=w.nx
   have wr:=w.ro
   refine⟨_,_,_,rfl,?_⟩
   exact .inl ⟨rfl,T.length - (i+1),by omega,⟨i+1,q2,l2,rfl,by omega,rfl,b9',bd2,hW2,by omega⟩,b1',b5',b6',b8',ZeQ,ZeR,Below.keep k0 w ne,by omega⟩
  ·have dk:decide (i<bl.length)=false:=Za hib
   have hkw:i % 256=kW bl i:=by unfold kW;rw[if_neg hib]
   rw[hkw] at i8
   simp only[t1,t27,t28,t29,dlt,ix,g,ldc,el1,i8,dk,ZO,Zt,wK,Zu,ZX,Yf,WL]
   generalize hL:Lp _ _ _ _=L
   obtain⟨tm3,H3,q2,l2,rfl,b29,b9,b1,b5,b6,b8,b27,b28,bd2,hW2,Nl,w⟩:=mh E hk ne nf hl Y6 g0 _ _ _ _ _ bd hW rfl rfl kk4 (by omega) k0 YL hL Px Dj wS EQ aL rfl rfl rfl BI BJ BK
   have ZmP:=b29;have b9':=b9;have b1':=b1;have b5':=b5;have b6':=b6;have b8':=b8;have ZeQ:=b27;have ZeR:=b28
   simp only[eg] at b29
   simp(disch:=omega) only[b29,YQ,Zu,ZX,Yf,RA]
   have wn:=w.nx
   have wr:=w.ro
   refine⟨_,_,_,rfl,?_⟩
   exact .inl ⟨rfl,T.length - (i+1),by omega,⟨i+1,q2,l2,rfl,by omega,rfl,b9',bd2,hW2,by omega⟩,b1',b5',b6',b8',ZeQ,ZeR,Below.keep k0 w ne,by omega⟩
 ·have dlt:decide (i<T.length)=false:=Za Y6
  rw[Y0 (by omega)] at hW
  have hW:l++[]=W:=hW
  rw[Xu] at hW
  subst hW
  simp only[t28,t29,dlt,ZO,wK,Zu,ZX,Yf,]
  refine⟨_,_,_,rfl,?_⟩
  exact .inr ⟨by simp,rfl,(by simp only[ZX];exact Px),(by simp only[ZX];exact Dj),(by simp only[ZX];exact EQ),k0,YL,bd,by omega⟩
theorem sameV(E:Env Zo fs fuel)(hk:5<=k)(hh:h<=100){v w:JV}{ds:List AV}(YL:H.ro<=H.nx)(hv:VR H h v cs)(hw:VR H h w ds)(ov:JV.ok h v)(ow:JV.ok h w):
  ZG (LK Zo fs fuel k) fs fuel (n+1) 19 [.agg cs,.agg ds] H=.ret (.bool (JV.same h v w)) H:=by
 obtain⟨H',e,g⟩:=ah E h hh 900 (by omega) YL hv hw ov ow
 exact Xd (r:=4) rfl rfl e g rfl hk
theorem Md{α:Type}{l:List α}{x d:α}(h:x∈l): ∃i,i<l.length∧l.getD i d=x:=by
 obtain⟨i,hi,rfl⟩:=OT h
 exact⟨i,hi,by rw[Zf,Zi hi];rfl⟩
theorem cZ: ∀{h h':Nat} {v:JV} {cs:List AV},h<=h'->VR H h v cs->JV.ok h v->JV.ok h' v
 |h+1,h'+1,.mk _ _ _ _ l m,cs,hh,⟨lv,mv,ls,ms,e,a1,a2,a3,a4,a5,sl,sm,e1,e2,hl,hm⟩,⟨o1,o2,o3,o4⟩=>
  ⟨o1,o2,λx hx=>by
   obtain⟨i,hi,rfl⟩:=Md (d:=default) hx
   exact cZ (by omega) (hl i hi) (o3 _ hx),λx hx=>by
   obtain⟨i,hi,rfl⟩:=Md (d:=default) hx
   obtain⟨_,t,_,d⟩:=hm i hi
   exact cZ (by omega) d (o4 _ hx)⟩
 |h+1,0,_,_,hh,_,_=>by omega
theorem aN: ∀{h h':Nat} {v:JV} {cs:List AV},h<=h'->VR H h v cs->JV.tb h' v=JV.tb h v
 |h+1,h'+1,.mk _ _ _ s l m,cs,hh,⟨lv,mv,ls,ms,e,a1,a2,a3,a4,a5,sl,sm,e1,e2,hl,hm⟩=>by
  show 50+6*s.length+(l.map λx=>1+JV.tb h' x).sum+(m.map λe=>6*e.1.length+4+JV.tb h' e.2).sum=50+6*s.length+(l.map λx=>1+JV.tb h x).sum+(m.map λe=>6*e.1.length+4+JV.tb h e.2).sum
  have b1:(l.map λx=>1+JV.tb h' x)=l.map λx=>1+JV.tb h x:=V1 λx hx=>by
   obtain⟨i,hi,rfl⟩:=Md (d:=default) hx
   rw[aN (by omega) (hl i hi)]
  have b2:(m.map λe=>6*e.1.length+4+JV.tb h' e.2)=m.map λe=>6*e.1.length+4+JV.tb h e.2:=V1 λx hx=>by
   obtain⟨i,hi,rfl⟩:=Md (d:=default) hx
   obtain⟨_,t,_,d⟩:=hm i hi
   rw[aN (by omega) d]
  rw[b1,b2]
 |h+1,0,_,_,hh,_=>by omega
theorem BR: ∀{h:Nat} {v:JV} {cs:List AV},VR H h v cs->Iw h v
 |h+1,.mk _ _ _ _ l m,cs,⟨lv,mv,ls,ms,e,a1,a2,a3,a4,a5,sl,sm,e1,e2,hl,hm⟩=>
  ⟨a3,a4,a5,λx hx=>by
   obtain⟨i,hi,rfl⟩:=Md (d:=default) hx
   exact BR (hl i hi),λx hx=>by
   obtain⟨i,hi,rfl⟩:=Md (d:=default) hx
   obtain⟨b,t,_,d⟩:=hm i hi
   exact⟨b,BR d⟩⟩
theorem Iw.srt: ∀(d h:Nat) (v:JV),d<=h->Iw h v->Iw d (srt d v)
 |0,_,_,_,_=>trivial
 |d+1,0,_,h,_=>by omega
 |d+1,h+1,.mk k b n s l m,hd,⟨b1,b2,b3,b4,b5⟩=>by
  refine⟨b1,by rw[Zr];exact b2,by rw[Zr,SH];exact b3,λx hx=>?_,λe he=>?_⟩
  ·obtain⟨y,hy,rfl⟩:=YV.1 hx
   exact Iw.srt d h y (by omega) (b4 y hy)
  ·obtain⟨y,hy,rfl⟩:=YV.1 he
   have:=b5 y (T4 TG y hy)
   exact⟨this.1,Iw.srt d h y.2 (by omega) this.2⟩
theorem aO(h:Nat)(v:JV):JV.text (h+1) v≠[]:=by
 obtain⟨k,b,n,s,l,m⟩:=v
 have et:JV.text (h+1) (.mk k b n s l m)=(if k=1 then [110,117,108,108] else if k=2 then(if b=true then [116,114,117,101] else [102,97,108,115,101]) else if k=3 then P7 n else if k=4 then quo s
  else if k=5 then [91]++Vq (l.map (JV.text h))++[93] else [123]++Vq ((Xi TG m).map λe=>quo e.1++[58]++JV.text h e.2)++[125]):=rfl
 rw[et]
 split
 ·simp
 split
 ·split<;>simp
 split
 ·obtain⟨x,q,e,_⟩:=rm n
  rw[e];simp
 split
 ·have:=(Dz s).2
  intro e
  rw[e] at this;simp at this
 split
 ·simp
 ·simp
theorem ZkR(bl:List Nat)(i:Nat):Bl (pB bl i):=(Zew _).1
theorem ZgY(bl:List Nat)(i:Nat):Bl (qB2 bl i):=(Zew _).2
theorem Zcl(E:Env Zo fs fuel)(M:MNZ Zo){a a1:AV}{l bl:List Nat}(ha:JP H a l)(ha1:Sl H 1 a1 (bl.map λx=>[nI .u8 x]))(rB: ∀x∈bl,x<256)(g:Sh H)(gu:V8 H)(YL:H.ro<=H.nx)(hW: ∀H',Zp H H' []->Zo 12 [] H'=some (.ret (.bool true) H')):
  ∃H',ZG (LK Zo fs fuel 6) fs fuel (n+301) 3 [a,a1] H=.ret (.bool true) H':=by
 rw[ZF (ZB E.n3 (.inr rfl) _ _) E.f3]
 obtain⟨h,v,cs,H1,e1,hh,hv,ov,tv,k1⟩:=dT E (k:=6) (n:=n+240) (by decide) ha YL
 have VH:=k1.nx
 have Nn:=k1.ro
 have hlen:=hv.len
 have hD: ∃D,D=h+33:=⟨_,rfl⟩
 obtain⟨D,hD⟩:=hD
 have ok0:=cZ (h':=D) (by omega) hv ov.1
 have tb0:=aN (h':=D) (by omega) hv
 have hv:=hv.up (h':=D) (by omega)
 have Ut:=Xg (n:=6) (l:=zV) (vs:=cs) (b:=H1.nx) (H:=H1.new (rH 27 zV)) (by rfl) hlen (by omega) (show H1.ro<=H1.nx by omega) 27 1 false true
 obtain⟨H2,XH⟩:=WQ (H1.new (rH 27 cs))
 rw[Vb rfl,XH] at Ut
 have nx2:H2.nx=H1.nx+1:=by rw[<-XH];rfl
 have DB:H2.ro=H1.ro:=by rw[<-XH];rfl
 have k12:Zp H1 H2 []:=by rw[<-XH];exact Zp.new _ _ _
 have k2:=k1.trans k12 (by simp)
 have g52:H2.t.get H1.nx=some (rH 27 cs):=by rw[<-XH,ZC rfl]
 have ldx: ∀G:Zc,ldN 6 (some (rH 27 cs)) 0 G=.val (.agg cs) G:=λG=>by rw[WV (by omega)];congr 2;rw[Ye,ZM (by omega)]
 have xz:=hv.keep k12
 have VY:JV.text D v≠[]:=by rw[hD];exact aO (h+32) v
 have ep:=λ{j}=>Zo0 E M (k:=6) (n:=j) (by decide) (by omega) (g.keep k2 (by simp)) (gu.keep0 k2) (by omega) xz ok0 (by omega) VY
 have lW:=JV.text_len oE D v ok0
 have sm0:=BR hv
 by_cases hc:JV.check v≠0
 ·obtain⟨H3,V9⟩: ∃G,H2.new (rH 27 cs)=G:=⟨_,rfl⟩
  have k3:Zp H H3 []:=by rw[<-V9];exact k2.then_new _
  have ep: ∀{j},ZG (LK Zo fs fuel 6) fs fuel (j+2) 11 [.agg cs] H2=.ret (.tup [.nils,nI .i64 (JV.check v)]) H3:=λ{j}=>by rw[ep,if_neg hc,V9]
  have eW: ∀m,ZG (LK Zo fs fuel 6) fs fuel (m+1) 12 [] H3=.ret (.bool true) H3:=λm=>LL rfl (hW H3 k3)
  have d0:=Ze hc
  generalize JV.check v=chk at*
  simp only[e1,Ut,g52,ldx,ep,d0,eW,Vi,c3,Zu,ZX,Zw,Yf,]
  exact⟨_,rfl⟩
 ·have hc:JV.check v=0:=by omega
  obtain⟨T,hT⟩:=WQ (JV.text D v)
  obtain⟨j,hrv,MT⟩:=vj (ZkR bl) (ZgY bl) (h:=D) hc (by omega) (Rng.of_ok ok0) (a:=[10]) (b:=[32]) (by unfold Bl;decide) (by unfold Bl;decide)
  rw[hT] at ep lW hrv MT VY
  obtain⟨H2b,ZbC⟩:=WQ (H2.new (rH 27 cs))
  obtain⟨H3,V9⟩:=WQ (H2b.new (rG 5 1 (T.map UZ) 0 true true false))
  have nx2b:H2b.nx=H2.nx+1:=by rw[<-ZbC];rfl
  have Fe:H3.nx=H2.nx+1+1:=by rw[<-V9,WJ,nx2b]
  have jZ:H3.ro=H2.ro:=by rw[<-V9,<-ZbC];rfl
  have qe:Zp H2 H3 []:=by rw[<-V9,<-ZbC];exact(Zp.new _ _ _).then_new _
  have k3:=k2.trans qe (by simp)
  have W6:H3.t.get (H2.nx+1)=some (rG 5 1 (T.map UZ) 0 true true false):=by rw[<-V9,ZC nx2b]
  have g53:H3.t.get H1.nx=some (rH 27 cs):=by rw[qe.get _ (by omega) (by simp)];exact g52
  have ep: ∀{j},ZG (LK Zo fs fuel 6) fs fuel (j+2) 11 [.agg cs] H2=.ret (.tup [.slice (H2.nx+1) 0 T.length none,nI .i64 0]) H3:=λ{j}=>by rw[ep,if_pos hc,ZbC,V9]
  have d0:decide (0≠0)=false:=rfl
  have bn:=JQ.new (H:=H3) (by omega)
  obtain⟨H4,Oy⟩:=WQ (H3.new (rH 35 [.nilp,.nils]))
  rw[Oy] at bn
  have k34:Zp H3 H4 []:=by rw[<-Oy];exact Zp.new _ _ _
  have nH:H4.nx=H3.nx+1:=by rw[<-Oy];rfl
  have pz:H4.ro=H3.ro:=by rw[<-Oy];rfl
  have el:=λ(G:Zc)=>Vl (H2.nx+1) 0 T.length none G
  simp only[e1,Ut,g52,ldx,ep,d0,Oy,el,Vi,c3,Zu,ZX,Zw,Yf,]
  generalize hL:WR (oB _) fuel _ _ _=L
  obtain⟨o,SY,H5,rfl,_,rfl,a1',a5,a8,k5,ro5,bd5,hWl⟩:=Y9 (P:=λtm=>JBI H3 H1.nx (H2.nx+1) H3.nx a1 T (Uh (pB bl) (qB2 bl) [] false T) bl T.length tm H4) (Q:=λo Yp H'=>o=.exit 0∧Xz Yp=a1∧Wp Yp=.ptr H1.nx 0∧Wk Yp=.ptr H3.nx 0∧Zp H3 H' []∧H'.ro<=H'.nx∧JQ H' H3.nx (Uh (pB bl) (qB2 bl) [] false T)∧(Uh (pB bl) (qB2 bl) [] false T).length<=7*T.length)
   (λtm R0=>Xk (JBI H3 H1.nx (H2.nx+1) H3.nx a1 T (Uh (pB bl) (qB2 bl) [] false T) bl) _ (λm tm H' h'=>Zcf E (n:=n+297) (by decide) (Zj _) (by omega) (by omega) W6 (ha1.keep0 k3) rB _ _ _ _ _ m tm H' h') fuel T.length tm H4 (by have:=E.big;omega) R0) hL
   ⟨⟨0,false,[],rfl,Z1 _,rfl,rfl,bn,by rw[Um,Ye];rfl,Z1 _⟩,rfl,rfl,rfl,rfl,rfl,rfl,k34,by omega⟩
  simp only[GU,Ct] at a5 a8
  generalize Uh (pB bl) (qB2 bl) [] false T=W at*
  have r5:=k5.ro
  obtain⟨H6,e6,w6⟩:=yX E (k:=6) (n:=n+299) bd5 (by omega)
  have n6:=w6.nx
  have r6:=w6.ro
  have k36:Zp H3 H6 []:=Below.keep k5 w6 (Zj _)
  have q1:=λG=>Qw (a:=[10]) (b:=W) (by rw[Zl,ZA];omega) G
  have q2:=λG=>Qw (a:=[10]++W) (b:=[32]) (by simp only[Zm,Zl,ZA];omega) G
  have hsl:([10]++W++[32]).length<=7*T.length+2:=by simp only[Zm,Zl,ZA];omega
  generalize [10]++W++[32]=S at*
  obtain⟨H7,Is⟩:=WQ (H6.new (rG 5 1 (S.map UZ) 0 true true false))
  have bV: ∀G:Zc,DS 5 (.str S) G=.val (.slice G.nx 0 S.length none) (G.new (rG 5 1 (S.map UZ) 0 true true false)):=λG=>DT ..
  have nx7:H7.nx=H6.nx+1:=by rw[<-Is];rfl
  have ro7:H7.ro=H6.ro:=by rw[<-Is];rfl
  have k67:Zp H6 H7 []:=by rw[<-Is];exact Zp.new _ _ _
  have K7:=(k3.trans k36 (by simp)).trans k67 (by simp)
  have pr:=jL E (n:=n+90) (v:=.slice H6.nx 0 S.length none) (s:=S) (H:=H7) (g.keep K7 (by simp)) (gu.keep0 K7) (by omega) (λG kG=>Zo5 (by rw[kG.get _ (by omega) (by simp),<-Is,ZC rfl])) (λG=>Vl ..) (by omega)
  rw[hrv] at pr
  simp only at pr
  rw[if_neg (by omega)] at pr
  obtain⟨ds,H8,e8,k8,hx⟩:=pr
  have n8:=k8.nx
  have r8:=k8.ro
  have wP:=hx.len
  have K38:=(k36.trans k67 (by simp)).trans k8 (by simp)
  have rS:=Xg (n:=6) (l:=zV) (vs:=ds) (b:=H8.nx) (H:=H8.new (rH 27 zV)) (by rfl) wP (by omega) (show H8.ro<=H8.nx by omega) 27 1 false true
  obtain⟨H9,RZ⟩:=WQ (H8.new (rH 27 ds))
  rw[Vb rfl,RZ] at rS
  have k89:Zp H8 H9 []:=by rw[<-RZ];exact Zp.new _ _ _
  have nx9:H9.nx=H8.nx+1:=by rw[<-RZ];rfl
  have ro9:H9.ro=H8.ro:=by rw[<-RZ];rfl
  have K39:=K38.trans k89 (by simp)
  have g59:H9.t.get H1.nx=some (rH 27 cs):=by rw[K39.get _ (by omega) (by simp)];exact g53
  have g99:H9.t.get H8.nx=some (rH 27 ds):=by rw[<-RZ,ZC rfl]
  have ldy: ∀G:Zc,ldN 6 (some (rH 27 ds)) 0 G=.val (.agg ds) G:=λG=>by rw[WV (by omega)];congr 2;rw[Ye,ZM (by omega)]
  have hv9:=xz.keep (qe.trans K39 (by simp))
  have hw9:=((hx.vr (sm0.srt 32 D v (by omega))).keep k89).up (h':=D) (by omega)
  have es:=λ{j}=>sameV E (k:=6) (n:=j) (by decide) (h:=D) (by omega) (by omega) hv9 hw9 ok0 (qY 32 D v ok0)
  rw[Bf D 32 v (by omega) (vA hc).2] at es
  have eW: ∀m,ZG (LK Zo fs fuel 6) fs fuel (m+1) 12 [] H9=.ret (.bool true) H9:=λm=>LL rfl (hW H9 (k3.trans K39 (by simp)))
  have d1:decide (0=0)=true:=rfl
  simp only[a5,a8,e6,q1,q2,bV,Is,e8,rS,g59,g99,ldx,ldy,es,eW,Z2,Zu,ZX,Zw,Zz,Yf,RA,NK]
  exact⟨_,rfl⟩
end
end
end Go.AI
