/- Blocks as the document lays them are the program's: plain; no conditions but those that each names. -/
import Derived.Test.YtdogcjobgcckbaaGreatDoorPF
set_option maxRecDepth 1000000
set_option maxHeartbeats 0
set_option linter.unusedVariables false
set_option linter.unusedSimpArgs false
namespace Go.AI
open Go
noncomputable section
theorem Zap{l m:List UInt8}(h:l.length=m.length)(e: ∀i,i<l.length->l.getD i 0=m.getD i 0):l=m:=by
 refine List.ext_getElem h λi h1 h2=>?_
 have:=e i h1
 rw[Zf,Zf,Zl h1,Zl h2] at this
 exact this
theorem L5(l m:List UInt8)(i:Nat):(l++m).getD i 0=if i<l.length then l.getD i 0 else m.getD (i - l.length) 0:=by
 rw[Zf,List.getElem?_append]
 split
 ·rw[Zf]
 ·rw[Zf]
theorem qp(x:UInt8)(n i:Nat):(List.replicate n x).getD i 0=if i<n then x else 0:=by
 rw[Zf,XO]
 split<;>rfl
theorem GZ{l:List UInt8}{n i:Nat}(h:i<n):(l.take n).getD i 0=l.getD i 0:=by
 rw[Zf,Zf,Xe h]
theorem iJ(l:List UInt8)(n i:Nat):(l.drop n).getD i 0=l.getD (n+i) 0:=by
 rw[Zf,Zf,Xa]
theorem O7{l w:List UInt8}{a i:Nat}(h:a+w.length<=l.length):(Xp l a w).getD i 0=if a<=i∧i<a+w.length then w.getD (i - a) 0 else l.getD i 0:=by
 have ht:(l.take a).length=a:=by rw[ZC];omega
 unfold Xp
 rw[L5,ht]
 by_cases h1:i<a
 ·rw[if_pos h1,if_neg (by omega),GZ h1]
 ·rw[if_neg h1,L5]
  by_cases h2:i<a+w.length
  ·rw[if_pos (by omega),if_pos ⟨by omega,h2⟩]
  ·rw[if_neg (by omega),if_neg (by omega),iJ]
   congr 1;omega
def W7:Nat->Nat->List UInt8
 |0,_=>[]
 |k+1,n=>W7 k (n/8)++[OE (n % 8)]
theorem V0: ∀k n,(W7 k n).length=k
 |0,_=>rfl
 |k+1,n=>by unfold W7;rw[Zj,V0 k];rfl
theorem zE: ∀k,W7 k 0=List.replicate k 48
 |0=>rfl
 |k+1=>by
  show W7 k (0/8)++[OE (0 % 8)]=_
  rw[QY,zE k,List.replicate_succ'];rfl
theorem oA: ∀k n,(TT n).length<=k->W7 k n=List.replicate (k - (TT n).length) 48++TT n
 |0,n,h=>by have:=dJ n;omega
 |k+1,n,h=>by
  show W7 k (n/8)++[OE (n % 8)]=_
  by_cases hn:n<8
  ·rw[Dk hn,show n/8=0 by omega,zE,show n % 8=n by omega]
   show _=List.replicate (k+1 - 1) 48++[OE n]
   rw[Wk]
  ·have e:=Dj (n:=n) (by omega)
   have hl:(TT n).length=(TT (n/8)).length+1:=by rw[e,Zj];rfl
   rw[oA k (n/8) (by omega),e,Xj,Zj]
   show _=List.replicate (k+1 - ((TT (n/8)).length+1)) 48++_
   rw[Nat.add_sub_add_right]
theorem oB{u n:Nat}(h:(TT u).length<=n - 1):Py u n=W7 (n - 1) u++[0]:=by
 unfold Py
 rw[if_neg (by omega),oA _ _ h]
theorem Lw{u n:Nat}(h1:2<=n)(h:u<8^(n - 1)):Py u n=W7 (n - 1) u++[0]:=oB (Gr _ _ (by omega) h)
def RL(l:List UInt8):List UInt8:=Xp (Xp (Xp l 148 (List.replicate 8 32)) 148 (W7 6 (My (Xp l 148 (List.replicate 8 32))))) 154 [0]
theorem Uv{l w:List UInt8}{a n:Nat}(h:w.length=n):Ti l a n w=Xp l a w:=by unfold Ti;rw[if_pos h]
theorem uG{l:List UInt8}(hl:l.length=512):J6 l=RL l:=by
 have hb:Ti l 148 8 (List.replicate 8 32)=Xp l 148 (List.replicate 8 32):=Uv (by rw[ZH])
 have h1:(TT (Nj l)).length<=6:=Gr 6 _ (by decide) (Ub (wA hl) (by decide))
 unfold J6 RL
 rw[oB (n:=7) h1]
 have hd:=V0 6 (Nj l)
 have hw:(W7 (7 - 1) (Nj l)++[0]++[32]).length=8:=by rw[Zj,Zj,hd];rfl
 rw[Uv hw]
 have hs:My (Xp l 148 (List.replicate 8 32))=Nj l:=by unfold Nj;rw[hb]
 rw[hs]
 have l1:(Xp l 148 (List.replicate 8 32)).length=512:=by rw[Rh (by rw[ZH];omega),hl]
 have l2:(Xp (Xp l 148 (List.replicate 8 32)) 148 (W7 6 (Nj l))).length=512:=by rw[Rh (by rw[hd];omega),l1]
 have l3:(Xp (Xp (Xp l 148 (List.replicate 8 32)) 148 (W7 6 (Nj l))) 154 [0]).length=512:=by rw[Rh (by show 154+1<=_;omega),l2]
 have l4:(Xp l 148 (W7 (7 - 1) (Nj l)++[0]++[32])).length=512:=by rw[Rh (by omega),hl]
 refine Zap (by rw[l3,l4]) λi hi=>?_
 rw[O7 (by omega),O7 (by show 154+1<=_;omega),O7 (by omega),O7 (by rw[ZH];omega),hw,hd,ZH]
 show(if 148<=i∧i<148+8 then _ else _)=if 154<=i∧i<154+1 then _ else _
 rw[L5,L5,Zj,hd,qp]
 show(if 148<=i∧i<148+8 then(if i - 148<6+1 then if i - 148<6 then _ else _ else _) else _)=_
 by_cases c1:148<=i∧i<156
 ·rw[if_pos (by omega)]
  by_cases c2:i<154
  ·rw[if_pos (by omega),if_pos (by omega),if_neg (by omega),if_pos (by omega)]
  ·by_cases c3:i=154
   ·subst c3;rfl
   ·obtain rfl:i=155:=by omega
    rfl
 ·rw[if_neg (by omega),if_neg (by omega),if_neg (by omega),if_neg (by omega)]
def NZ(s:List UInt8):Prop:= ∀c∈s,c.toNat≠0
instance (s:List UInt8):Decidable (NZ s):=by unfold NZ;exact inferInstance
theorem NZ.nil:NZ []:=λc hc=>by cases hc
theorem NZ.app{a b:List UInt8}(h:NZ a)(g:NZ b):NZ (a++b):=λc hc=>by
 rcases Zr.1 hc with hc|hc
 ·exact h c hc
 ·exact g c hc
theorem NZ.left{a b:List UInt8}(h:NZ (a++b)):NZ a:=λc hc=>h c (Zr.2 (.inl hc))
theorem NZ.right{a b:List UInt8}(h:NZ (a++b)):NZ b:=λc hc=>h c (Zr.2 (.inr hc))
theorem NZ.take{a:List UInt8}(h:NZ a)(n:Nat):NZ (a.take n):=λc hc=>h c (X5 hc)
theorem NZ.drop{a:List UInt8}(h:NZ a)(n:Nat):NZ (a.drop n):=λc hc=>h c (VC hc)
theorem NZ.fst{s:List UInt8}(h:NZ s):V6 0 s=0:=T5.2 h
theorem BB: ∀s:List UInt8,(∀x∈YU s,NZ x)->NZ s
 |[],_=>λc hc=>by cases hc
 |c::s,h=>by
  unfold YU at h
  by_cases hc:c.toNat=47
  ·rw[if_pos hc] at h
   have ih:=BB s λx hx=>h x (.tail _ hx)
   intro d hd
   rcases ZO.1 hd with rfl|hd
   ·omega
   ·exact ih d hd
  ·rw[if_neg hc] at h
   cases hs:YU s with
   |nil=>exact absurd hs (SH s)
   |cons a t=>
    rw[hs] at h
    have h0:NZ (c::a):=h _ (.head _)
    have ih:=BB s λx hx=>by
     rw[hs] at hx
     rcases ZO.1 hx with rfl|hx
     ·exact λd hd=>h0 d (.tail _ hd)
     ·exact h x (.tail _ hx)
    intro d hd
    rcases ZO.1 hd with rfl|hd
    ·exact h0 d (.head _)
    ·exact ih d hd
theorem Zby{s:List UInt8}(h:YG s=true):NZ s:=by
 unfold YG at h
 simp only[Yw,T0] at h
 have ha:Ts [47,0] s=false:=h.1.2
 intro c hc h0
 unfold Ts at ha
 rw[List.any_eq_false] at ha
 have:=ha c hc
 have e:c=0:=UN.1 h0
 simp[e] at this
theorem Zb2{p:List UInt8}(h:Tg p=true):NZ p:=by
 unfold Tg at h
 simp only[Yw] at h
 have hn:=Yo.1 h.2
 by_cases h0:p=[]
 ·subst h0;exact λc hc=>by cases hc
 ·have e:Z4 p=YU p:=by unfold Z4;rw[if_neg h0]
  rw[e] at hn
  exact BB p λx hx=>Zby (hn x hx)
theorem iq{p:List UInt8}(h:(We p).1≠0):NZ p:=by
 have hp:VP p++Xk p=p:=by unfold VP Xk;exact VK ..
 unfold We at h
 by_cases h1:p=wg
 ·subst h1;decide
 ·rw[if_neg h1] at h
  by_cases h2:Ob p=true
  ·rw[if_pos h2] at h;exact absurd rfl h
  ·have h2:Ob p=false:=by simpa using h2
   unfold Ob at h2
   simp only[Bool.or_eq_false_iff,Bool.not_eq_false'] at h2
   have ht:=Zb2 h2.1.1.1
   have hl:=p9 (Xk p)
   have hL:TE (Xk p)=1∨TE (Xk p)=2∨TE (Xk p)=3:=by omega
   unfold UK at ht
   rcases hL with e|e|e
   ·rw[if_pos e,hp] at ht;exact ht
   ·rw[if_neg (by omega),if_pos e] at ht
    have hw:(Xk p).take 4=B5:=by
     unfold TE at e
     by_cases a:Xk p=xJ
     ·rw[if_pos a] at e;omega
     ·rw[if_neg a] at e
      by_cases b:Pm B5 (Xk p)=true
      ·unfold Pm at b
       simp only[Yw,decide_eq_true_eq] at b
       exact b.2
      ·rw[if_neg b] at e;omega
    rw[<-hp,<-VK 4 (Xk p),hw]
    exact ht.left.app (NZ.app (by decide) ht.right)
   ·rw[if_neg (by omega),if_neg (by omega)] at ht
    have hb:Xk p=xJ:=by
     unfold TE at e
     by_cases a:Xk p=xJ
     ·exact a
     ·rw[if_neg a] at e
      by_cases b:Pm B5 (Xk p)=true
      ·rw[if_pos b] at e;omega
      ·rw[if_neg b] at e;omega
    have hd:NZ (VP p):=by
     unfold Gm at ht
     split at ht
     ·rename_i q
      rw[<-VK ((VP p).length - 1) (VP p),q.2]
      exact ht.app (by decide)
     ·exact ht
    rw[<-hp,hb]
    exact hd.app (by decide)
theorem Zbl{p:List UInt8}{kd:Int}(h:NZ p):NZ (W0 kd p):=by
 unfold W0
 split
 ·exact h.app (by decide)
 ·exact h
theorem Zb1{s:List UInt8}(h:NZ s):NZ (VR s).1∧NZ (VR s).2.1:=by
 unfold VR
 split
 ·exact⟨NZ.nil,h⟩
 ·split
  ·exact⟨NZ.nil,show NZ [112,97,120] by decide⟩
  ·split
   ·exact⟨NZ.nil,show NZ [112,97,120] by decide⟩
   ·exact⟨h.take _,h.drop _⟩
theorem zJ{s:List UInt8}:(VR s).1.length<=155∧(VR s).2.1.length<=100:=by
 unfold VR
 split
 ·rename_i h;exact⟨ZZ _,h⟩
 ·split
  ·exact⟨ZZ _,by show 3<=100;decide⟩
  ·split
   ·exact⟨ZZ _,by show 3<=100;decide⟩
   ·rename_i h1 h2 h3
    have hc:=IC 47 (s.take (min (s.length - 1) 156))
    rw[ZC] at hc
    refine⟨?_,?_⟩
    ·show(s.take _).length<=_;rw[ZC];omega
    ·show(s.drop _).length<=_;rw[Ym];omega
theorem M8{s:List UInt8}{n:Nat}(h:NZ s)(hl:s.length<=n):Qg s n=s++List.replicate (n - s.length) 0:=by
 unfold Qg
 rw[h.fst,if_neg (by omega),if_neg (by omega)]
def QQ(f:Nat->UInt8)(a:Nat)(w:List UInt8):Nat->UInt8:=λi=>if a<=i∧i<a+w.length then w.getD (i - a) 0 else f i
theorem X7{f:Nat->UInt8}{a:Nat}{w:List UInt8}{i:Nat}(h:a<=i∧i<a+w.length):QQ f a w i=w.getD (i - a) 0:=by unfold QQ;rw[if_pos h]
theorem Wn{f:Nat->UInt8}{a:Nat}{w:List UInt8}{i:Nat}(h: ¬(a<=i∧i<a+w.length)):QQ f a w i=f i:=by unfold QQ;rw[if_neg h]
set_option maxHeartbeats 4000000 in
theorem ZiN{pr nm l0 M U G T N U2 G2 T2 zU zG zT:List UInt8}{t:UInt8}(hpr:pr.length<=155)(hnm:nm.length<=100)(hl0:l0.length<=100)(hM:M.length=7)(hU:U.length=7)(hG:G.length=7)(hT:T.length=11)(hN:N.length=11)(hzU:zU.length=7)(hzG:zG.length=7)(hzT:zT.length=11)
  (cU:U2=[]∧U=zU∨U2=U)(cG:G2=[]∧G=zG∨G2=G)(cT:T2=[]∧T=zT∨T2=T)(i:Nat)(hi:i<512):
  QQ (QQ (QQ (QQ (QQ (QQ (QQ (QQ (QQ (QQ (QQ (λ_=>0) 257 ([117,115,116,97,114]++[0])) 263 [48,48]) 156 [t]) 345 (pr++List.replicate (155 - pr.length) 0)) 0 (nm++List.replicate (100 - nm.length) 0)) 157 (l0++List.replicate (100 - l0.length) 0)) 108 (U++[0])) 116 (G++[0])) 136 (T++[0])) 100 (M++[0])) 124 (N++[0]) i
  =QQ (QQ (QQ (QQ (QQ (QQ (QQ (QQ (QQ (QQ (QQ (QQ (QQ (QQ (λ_=>0) 257 [117,115,116,97,114]) 263 [48,48]) 156 [t]) 345 pr) 0 nm) 157 l0) 100 M) 108 zU) 116 zG) 124 N) 136 zT) 108 U2) 116 G2) 136 T2 i:=by
 have a1: ∀(s:List UInt8) (n:Nat),s.length<=n->(s++List.replicate (n - s.length) 0).length=n:=λs n h=>by rw[Zj,ZH];omega
 have a2: ∀(s:List UInt8),(s++[0]).length=s.length+1:=λs=>by rw[Zj];rfl
 have l1:=a1 pr 155 hpr;have l2:=a1 nm 100 hnm;have l3:=a1 l0 100 hl0
 have l4:=a2 U;have l5:=a2 G;have l6:=a2 T;have l7:=a2 M;have l8:=a2 N
 have l9:([117,115,116,97,114]++[0]:List UInt8).length=6:=rfl
 have l10:([117,115,116,97,114]:List UInt8).length=5:=rfl
 have l11:([48,48]:List UInt8).length=2:=rfl
 have l12:([t]:List UInt8).length=1:=rfl
 have hU2:U2.length=0∨U2.length=7:=by rcases cU with⟨h,_⟩|h<;>rw[h];exact .inl rfl;exact .inr hU
 have hG2:G2.length=0∨G2.length=7:=by rcases cG with⟨h,_⟩|h<;>rw[h];exact .inl rfl;exact .inr hG
 have hT2:T2.length=0∨T2.length=11:=by rcases cT with⟨h,_⟩|h<;>rw[h];exact .inl rfl;exact .inr hT
 have rz: ∀(s:List UInt8) (n j:Nat),s.length<=j->(s++List.replicate n 0).getD j 0=0:=λs n j h=>by
  rw[L5,if_neg (by omega),qp];split<;>rfl
 have rs: ∀(s m:List UInt8) (j:Nat),j<s.length->(s++m).getD j 0=s.getD j 0:=λs m j h=>by rw[L5,if_pos h]
 have ro: ∀(s:List UInt8) (j:Nat),j=s.length->(s++[0]).getD j 0=0:=λs j h=>by rw[L5,if_neg (by omega),h,Rq];rfl
 by_cases c1:i<100
 ·simp(disch:=omega) only[Wn]
  rw[X7 (by omega)]
  by_cases d:i - 0<nm.length
  ·simp(disch:=omega) only[X7,Wn];exact rs _ _ _ (by omega)
  ·simp(disch:=omega) only[X7,Wn];exact rz _ _ _ (by omega)
 by_cases c2:i<107
 ·simp(disch:=omega) only[Wn]
  rw[X7 (by omega),X7 (by omega)];exact rs _ _ _ (by omega)
 by_cases c3:i=107
 ·subst c3
  simp(disch:=omega) only[Wn]
  rw[X7 (by omega)];exact ro _ _ (by omega)
 by_cases c4:i<115
 ·rcases cU with⟨h1,h2⟩|h1
  ·have hl:U2.length=0:=by rw[h1];rfl
   simp(disch:=omega) only[Wn]
   rw[X7 (by omega),X7 (by omega),<-h2];exact rs _ _ _ (by omega)
  ·have hl:U2.length=7:=by rw[h1];omega
   simp(disch:=omega) only[Wn]
   rw[X7 (by omega),X7 (by omega),h1];exact rs _ _ _ (by omega)
 by_cases c5:i=115
 ·subst c5
  simp(disch:=omega) only[Wn]
  rw[X7 (by omega)];exact ro _ _ (by omega)
 by_cases c6:i<123
 ·rcases cG with⟨h1,h2⟩|h1
  ·have hl:G2.length=0:=by rw[h1];rfl
   simp(disch:=omega) only[Wn]
   rw[X7 (by omega),X7 (by omega),<-h2];exact rs _ _ _ (by omega)
  ·have hl:G2.length=7:=by rw[h1];omega
   simp(disch:=omega) only[Wn]
   rw[X7 (by omega),X7 (by omega),h1];exact rs _ _ _ (by omega)
 by_cases c7:i=123
 ·subst c7
  simp(disch:=omega) only[Wn]
  rw[X7 (by omega)];exact ro _ _ (by omega)
 by_cases c8:i<135
 ·simp(disch:=omega) only[Wn]
  rw[X7 (by omega),X7 (by omega)];exact rs _ _ _ (by omega)
 by_cases c9:i=135
 ·subst c9
  simp(disch:=omega) only[Wn]
  rw[X7 (by omega)];exact ro _ _ (by omega)
 by_cases c10:i<147
 ·rcases cT with⟨h1,h2⟩|h1
  ·have hl:T2.length=0:=by rw[h1];rfl
   simp(disch:=omega) only[Wn]
   rw[X7 (by omega),X7 (by omega),<-h2];exact rs _ _ _ (by omega)
  ·have hl:T2.length=11:=by rw[h1];omega
   simp(disch:=omega) only[Wn]
   rw[X7 (by omega),X7 (by omega),h1];exact rs _ _ _ (by omega)
 by_cases c11:i=147
 ·subst c11
  simp(disch:=omega) only[Wn]
  rw[X7 (by omega)];exact ro _ _ (by omega)
 by_cases c12:i<156
 ·simp(disch:=omega) only[Wn]
 by_cases c13:i<157
 ·simp(disch:=omega) only[Wn]
  rw[X7 (by omega),X7 (by omega)]
 by_cases c14:i<257
 ·simp(disch:=omega) only[Wn]
  rw[X7 (by omega)]
  by_cases d:i - 157<l0.length
  ·simp(disch:=omega) only[X7,Wn];exact rs _ _ _ (by omega)
  ·simp(disch:=omega) only[X7,Wn];exact rz _ _ _ (by omega)
 by_cases c15:i<262
 ·simp(disch:=omega) only[Wn]
  rw[X7 (by omega),X7 (by omega)];exact rs _ _ _ (by omega)
 by_cases c16:i=262
 ·subst c16
  simp(disch:=omega) only[Wn]
  rw[X7 (by omega)];exact ro _ _ rfl
 by_cases c17:i<263
 ·omega
 by_cases c18:i<265
 ·simp(disch:=omega) only[Wn]
  rw[X7 (by omega),X7 (by omega)]
 by_cases c19:i<345
 ·simp(disch:=omega) only[Wn]
 by_cases c20:i<500
 ·simp(disch:=omega) only[Wn]
  rw[X7 (by omega)]
  by_cases d:i - 345<pr.length
  ·simp(disch:=omega) only[X7,Wn];exact rs _ _ _ (by omega)
  ·simp(disch:=omega) only[X7,Wn];exact rz _ _ _ (by omega)
 simp(disch:=omega) only[Wn]
def jD(l:List UInt8)(f:Nat->UInt8):Prop:=l.length=512∧ ∀i,l.getD i 0=f i
theorem jD.set{l w:List UInt8}{f:Nat->UInt8}{a:Nat}(h:jD l f)(ha:a+w.length<=512):jD (Xp l a w) (QQ f a w):=
 ⟨by rw[Rh (by rw[h.1];exact ha),h.1],λi=>by
  rw[O7 (by rw[h.1];exact ha),h.2 i];rfl⟩
theorem jD.zero:jD QM λ_=>0:=⟨P2,λi=>by
 unfold QM
 rw[qp]
 split<;>rfl⟩
theorem jD.eq{l m:List UInt8}{f g:Nat->UInt8}(h:jD l f)(k:jD m g)(e: ∀i,i<512->f i=g i):l=m:=
 Zap (by rw[h.1,k.1]) λi hi=>by rw[h.2,k.2];exact e i (by rw[<-h.1];exact hi)
theorem MZ(l:List UInt8)(a:Nat):Xp l a []=l:=by
 unfold Xp
 rw[ZY]
 exact VK ..
def wY(z:Int)(most:Nat):Nat:=if z<((0:Nat):Int)∨(most:Int)<z then 0 else z.toNat
def QO(k:Nat)(z:Int)(most:Nat):List UInt8:=if z<((0:Nat):Int)∨(most:Int)<z then [] else W7 k z.toNat
theorem xA{x:Ab}{L:List UInt8}(h2:2<=x.wid)(hm:x.most<8^(x.wid - 1)):EX x L=Xp L x.at_ (W7 (x.wid - 1) (wY x.z x.most)++[0]):=by
 have hl: ∀u,(W7 (x.wid - 1) u++[0]).length=x.wid:=λu=>by rw[Zj,V0];show x.wid - 1+1=_;omega
 unfold EX wY
 split
 ·rw[Lw h2 (Ub (ZZ _) hm),Uv (hl 0)]
 ·rw[Lw h2 (by omega),Uv (hl _)]
def Zgj(t:Nat)(pr nm lk:List UInt8)(mo ui gi:Nat)(ti:Int)(n:Nat):List UInt8:=
 Xp (Xp (Xp (Xp (Xp (Xp (Xp (Xp (Xp (Xp (Xp (Xp (Xp (Xp QM 257 [117,115,116,97,114]) 263 [48,48]) 156 [UInt8.ofNat t]) 345 pr) 0 nm) 157 (if 100<lk.length then [] else lk)) 100 (W7 7 mo)) 108 (W7 7 0)) 116 (W7 7 0)) 124 (W7 11 n)) 136 (W7 11 0)) 108 (QO 7 ui 2097151)) 116 (QO 7 gi 2097151)) 136 (QO 11 ti 8589934591)
theorem yS(k:Nat)(z:Int)(most:Nat):(QO k z most).length<=k:=by
 unfold QO
 split
 ·exact ZZ _
 ·rw[V0];exact Zp _
set_option maxHeartbeats 1000000 in
theorem jP{t:Nat}{pr nm lk:List UInt8}{mo ui gi:Nat}{ti:Int}{da:List UInt8}(hp:NZ pr)(hpl:pr.length<=155)(hn:NZ nm)(hnl:nm.length<=100)(hk:NZ lk)(hmo:mo<2097152)(hda:da.length<8589934592):
  lE ui gi mo ti da lk pr nm (Nh t)=RL (Zgj t pr nm lk mo ui gi ti da.length):=by
 obtain⟨l0,hl0⟩:=Sa ((if 100<lk.length then [] else lk))
 have z0:NZ l0:=by rw[<-hl0];split;exact NZ.nil;exact hk
 have n0:l0.length<=100:=by rw[<-hl0];split;exact ZZ _;omega
 have lz: ∀(s:List UInt8) (n:Nat),s.length<=n->(s++List.replicate (n - s.length) 0).length=n:=λs n h=>by rw[Zj,ZH];omega
 have lo: ∀(k u:Nat),(W7 k u++[0]).length=k+1:=λk u=>by rw[Zj,V0];rfl
 unfold lE o9 xC Zgj
 rw[hl0,Wf,Wf,Wf,List.foldl_nil]
 rw[M8 hp hpl,M8 hn hnl,M8 z0 n0,Uv (lz pr 155 hpl),Uv (lz nm 100 hnl),Uv (lz l0 100 n0)]
 rw[xA (show 2<=12 by decide) (show 8589934591<8^11 by decide),xA (show 2<=8 by decide) (show 2097151<8^7 by decide),xA (show 2<=8 by decide) (show 2097151<8^7 by decide)]
 simp only[Nat.reduceSub]
 rw[Lw (n:=8) (by decide) (by show mo<8^7;exact hmo),Lw (n:=12) (by decide) (by show da.length<8^11;exact hda),Uv (lo 7 mo),Uv (lo 11 da.length)]
 have hb:Nh t=Xp (Xp (Xp QM 257 ([117,115,116,97,114]++[0])) 263 [48,48]) 156 [UInt8.ofNat t]:=by
  unfold Nh
  rw[Uv (show [UInt8.ofNat t].length=1 from rfl),Uv (show [(48:UInt8),48].length=2 from rfl)]
  rw[M8 (s:=[117,115,116,97,114]) (by decide) (by decide)]
  rw[Uv (by decide)];rfl
 rw[hb]
 have B1:=((((((((((jD.zero.set (a:=257) (w:=[117,115,116,97,114]++[0]) (by decide)).set (a:=263) (w:=[48,48]) (by decide)).set (a:=156) (w:=[UInt8.ofNat t]) (by show 156+1<=512;decide)).set (a:=345) (w:=pr++List.replicate (155 - pr.length) 0) (by rw[lz pr 155 hpl];decide)).set (a:=0) (w:=nm++List.replicate (100 - nm.length) 0) (by rw[lz nm 100 hnl];decide)).set (a:=157) (w:=l0++List.replicate (100 - l0.length) 0) (by rw[lz l0 100 n0];decide)).set (a:=108) (w:=W7 7 (wY ui 2097151)++[0]) (by rw[lo];decide)).set (a:=116) (w:=W7 7 (wY gi 2097151)++[0]) (by rw[lo];decide)).set (a:=136) (w:=W7 11 (wY ti 8589934591)++[0]) (by rw[lo];decide)).set (a:=100) (w:=W7 7 mo++[0]) (by rw[lo];decide)).set (a:=124) (w:=W7 11 da.length++[0]) (by rw[lo];decide)
 have B2:=(((((((((((((jD.zero.set (a:=257) (w:=[117,115,116,97,114]) (by decide)).set (a:=263) (w:=[48,48]) (by decide)).set (a:=156) (w:=[UInt8.ofNat t]) (by show 156+1<=512;decide)).set (a:=345) (w:=pr) (by omega)).set (a:=0) (w:=nm) (by omega)).set (a:=157) (w:=l0) (by omega)).set (a:=100) (w:=W7 7 mo) (by rw[V0];decide)).set (a:=108) (w:=W7 7 0) (by rw[V0];decide)).set (a:=116) (w:=W7 7 0) (by rw[V0];decide)).set (a:=124) (w:=W7 11 da.length) (by rw[V0];decide)).set (a:=136) (w:=W7 11 0) (by rw[V0];decide)).set (a:=108) (w:=QO 7 ui 2097151) (by have:=yS 7 ui 2097151;omega)).set (a:=116) (w:=QO 7 gi 2097151) (by have:=yS 7 gi 2097151;omega)).set (a:=136) (w:=QO 11 ti 8589934591) (by have:=yS 11 ti 8589934591;omega)
 refine(uG B1.1).trans ?_
 congr 1
 refine B1.eq B2 λi hi=>?_
 have fd: ∀(k:Nat) (z:Int) (most:Nat),QO k z most=[]∧W7 k (wY z most)=W7 k 0∨QO k z most=W7 k (wY z most):=λk z most=>by
  unfold QO wY
  by_cases h:z<((0:Nat):Int)∨(most:Int)<z
  ·rw[if_pos h,if_pos h];exact .inl ⟨rfl,rfl⟩
  ·rw[if_neg h,if_neg h];exact .inr rfl
 exact ZiN hpl hnl n0 (V0 ..) (V0 ..) (V0 ..) (V0 ..) (V0 ..) (V0 ..) (V0 ..) (V0 ..) (fd 7 ui 2097151) (fd 7 gi 2097151) (fd 11 ti 8589934591) i hi
def SS(s:List UInt8):Nat->List UInt8×List UInt8×Bool
 |0=>([],[112,97,120],false)
 |i+1=>if (s.getD (i+1) 0).toNat=47∧i+1<=155∧s.length - (i+1) - 1<=100 then(s.take (i+1),s.drop (i+2),true) else SS s i
theorem Zaf{t:List UInt8}(h:VF 47 t=1):(t.getD 0 0).toNat=47:=by
 cases t with
 |nil=>cases h
 |cons c t=>
  unfold VF at h
  by_cases h0:VF 47 t=0
  ·rw[if_pos h0] at h
   by_cases h1:c.toNat=47
   ·exact h1
   ·rw[if_neg h1] at h;cases h
  ·rw[if_neg h0] at h;omega
theorem Bm{s:List UInt8}: ∀n,SS s (155+n)=SS s 155
 |0=>rfl
 |n+1=>by
  show(if (s.getD (155+n+1) 0).toNat=47∧155+n+1<=155∧s.length - (155+n+1) - 1<=100 then _ else SS s (155+n))=_
  rw[if_neg (by omega),Bm n]
def zI(s:List UInt8)(c:Nat):List UInt8×List UInt8×Bool:=if c<=1 then([],[112,97,120],false) else if 100<s.length - (c - 1) - 1 then([],[112,97,120],false) else(s.take (c - 1),s.drop c,true)
theorem ul{s:List UInt8}: ∀K,K<=155->K<s.length->SS s K=zI s (VF 47 (s.take (K+1)))
 |0,_,h=>by
  have hc:=IC 47 (s.take (0+1))
  rw[ZC] at hc
  unfold zI
  rw[if_pos (by omega)];rfl
 |K+1,h1,h2=>by
  have ih:=ul (s:=s) K (by omega) (by omega)
  have hc:=IC 47 (s.take (K+1))
  rw[ZC] at hc
  have hm:min (K+1) s.length=K+1:=by omega
  by_cases hs:(s.getD (K+1) 0).toNat=47
  ·rw[pp h2 hs]
   by_cases hl:s.length - (K+1) - 1<=100
   ·show(if (s.getD (K+1) 0).toNat=47∧K+1<=155∧s.length - (K+1) - 1<=100 then(s.take (K+1),s.drop (K+2),true) else SS s K)=_
    rw[if_pos ⟨hs,h1,hl⟩]
    unfold zI
    rw[if_neg (show ¬K+1+1<=1 by omega),if_neg (show ¬100<s.length - (K+1+1 - 1) - 1 by omega)];rfl
   ·show(if (s.getD (K+1) 0).toNat=47∧K+1<=155∧s.length - (K+1) - 1<=100 then _ else SS s K)=_
    rw[if_neg (λh=>hl h.2.2),ih]
    unfold zI
    rw[if_neg (show ¬K+1+1<=1 by omega),if_pos (show 100<s.length - (K+1+1 - 1) - 1 by omega)]
    by_cases hq:VF 47 (s.take (K+1))<=1
    ·rw[if_pos hq]
    ·rw[if_neg hq,if_pos (show 100<s.length - (VF 47 (s.take (K+1)) - 1) - 1 by omega)]
  ·rw[wQ h2 hs,<-ih]
   show(if (s.getD (K+1) 0).toNat=47∧K+1<=155∧s.length - (K+1) - 1<=100 then _ else SS s K)=_
   rw[if_neg (λh=>hs h.1)]
theorem ct{s:List UInt8}(h:100<s.length)(h0:(s.getD 0 0).toNat≠47):SS s (s.length - 2)=VR s:=by
 have e:SS s (s.length - 2)=SS s (min (s.length - 2) 155):=by
  by_cases hm:s.length - 2<=155
  ·rw[Wl hm]
  ·rw[Tv (by omega),show s.length - 2=155+(s.length - 2 - 155) by omega,Bm]
 rw[e,ul _ (by omega) (by omega),show min (s.length - 2) 155+1=min (s.length - 1) 156 by omega]
 have hc1:VF 47 (s.take (min (s.length - 1) 156))≠1:=λhc=>by
  have:=Zaf hc
  rw[GZ (by omega)] at this
  exact h0 this
 by_cases hz:VF 47 (s.take (min (s.length - 1) 156))=0
 ·have r:VR s=([],[112,97,120],false):=by
   unfold VR
   rw[if_neg (show ¬s.length<=100 by omega),if_pos hz]
  rw[r,hz]
  unfold zI
  rw[if_pos (show 0<=1 by decide)]
 ·unfold zI
  rw[if_neg (show ¬VF 47 (s.take (min (s.length - 1) 156))<=1 by omega)]
  unfold VR
  rw[if_neg (show ¬s.length<=100 by omega),if_neg hz]
theorem Bo{rest:Nat}(hr:rest<=1000000): ∀j x,x<=rest+VI x->rest+20<=x+j->x<=1000100->(∀n,x<=n->n<Gy rest j x->n≠rest+VI n)∧Gy rest j x=rest+VI (Gy rest j x)
 |0,x,h,hj,hx=>by
  have:=TX (n:=x) (k:=8) (by decide) (by show x<100000000;omega)
  omega
 |j+1,x,h,hj,hx=>by
  have h8:=TX (n:=x) (k:=8) (by decide) (by show x<100000000;omega)
  by_cases he:x=rest+VI x
  ·have e:Gy rest (j+1) x=x:=Bp he _
   rw[e]
   exact⟨λn h1 h2=>by omega,he⟩
  ·have e:Gy rest (j+1) x=Gy rest j (rest+VI x):=by
    show(if x=rest+VI x then _ else _)=_
    rw[if_neg he]
   rw[e]
   have hy:=FM h
   obtain⟨a,b⟩:=Bo hr j (rest+VI x) (by omega) (by omega) (by omega)
   refine⟨λn h1 h2=>?_,b⟩
   by_cases hn:n<rest+VI x
   ·have:=FM h1
    intro h3
    by_cases hx:n=x
    ·subst hx;exact he h3
    ·omega
   ·exact a n (by omega) h2
theorem zN{rest:Nat}(hr:rest<=1000000):(∀n,n<O5 rest->n≠rest+VI n)∧O5 rest=rest+VI (O5 rest):=by
 have hp:=Pc (rest+1)
 obtain⟨a,b⟩:=Bo hr 20 (rest+1) (by omega) (by omega) (by omega)
 refine⟨λn h=>?_,b⟩
 by_cases hn:n<=rest
 ·have:=Pc n;omega
 ·exact a n (by omega) h
end
end Go.AI
