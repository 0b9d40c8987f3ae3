/- A Member's block and records, read back: plain. -/
import Derived.Test.YtfkkljjgkopkfaaGreatDoorPM
import Derived.Test.YtfkkljjgkopkfaaGreatDoorPF
import Derived.Test.YtfkkljjgkopkfaaGreatDoorPR
import Derived.Test.YtfkkljjgkopkfaaGreatDoorPT
import Derived.Test.YtfkkljjgkopkfaaGreatDoorPK
import Derived.Test.YtfkkljjgkopkfaaGreatDoorPW
set_option maxRecDepth 1000000
set_option maxHeartbeats 0
set_option linter.all false
namespace Go.AI
open Go
noncomputable section
section
open Go Go.Proofs
def PY(a b:List NP)(key:Zd):lastR (a++b) key=if (lastR b key).2=true then lastR b key else lastR a key:=by
 unfold lastR;rw[List.reverse_append,List.find?_append];cases h:b.reverse.find? (λz=>z.1==key)<;>simp
def fT(k v key:Zd):lastR [(k,v)] key=if k=key then(v,true) else([],false):=by
 unfold lastR
 by_cases h:k=key
 ·subst h;simp
 ·have:(k==key)=false:=by simpa using h
  simp[List.find?,this,h]
def rR{l:List NP}{key:Zd}(h: ∀x∈l,x.1≠key):lastR l key=([],false):=by
 unfold lastR;rw[List.find?_eq_none.2];intro x hx
 simpa using h x (List.mem_reverse.1 hx)
def cS(l:List NP):List NP:=l.map λa=>(xaS++a.1,a.2)
def hJ{l:List NP}{key:Zd}(hk:key.length<13):lastR (cS l) key=([],false):=rR λx hx e=>by
 obtain⟨a,_,rfl⟩:=YC.1 hx;have:=congrArg List.length e;rw[Zh] at this;have h13:xaS.length=13:=rfl;omega
def AT(p s:Zd):Qq p (p++s)=true:=by
 unfold Qq;rw[Z4];exact⟨Zi (by rw[Zh];omega),Zi (W3 ..)⟩
def bH(p s:Zd):Ih p (p++s)=s:=by
 unfold Ih;rw[if_pos (AT p s),UY]
theorem Gr: ∀{l:List NP},(∀x∈l,x.1≠[])->V2 (cS l)=l
 |[],_=>rfl
 |x::l,h=>by
  have ih:=Gr (l:=l) λy hy=>h y (ZC _ hy);have hx:=h x (Zw ..);unfold V2 cS at ih ⊢;have e:NJ (xaS++x.1,x.2)=some x:=by
   unfold NJ;rw[AT,bH,Zc hx];rfl
  rw[ZD,List.filterMap_cons,e];show x::_=_;rw[ih]
def tI(a b:List NP):V2 (a++b)=V2 a++V2 b:=S2 ..
def zN{l:List NP}(h: ∀x∈l,x.1.length<13):V2 l=[]:=by
 unfold V2;rw[List.filterMap_eq_nil_iff];intro x hx;have hl:=h x hx;unfold NJ;have:Qq xaS x.1=false:=by
  unfold Qq;rw[Zc (by show ¬13<=_;omega),Q2]
 rw[this];rfl
end
section
open Go Go.Proofs
def zZ(x:If):List NP:=if x.z<((0:Nat):Int)∨(x.most:Int)<x.z then [(x.key,QC x.z)] else []
def ur(x:If)(Rs:List NP):RT x Rs=Rs++zZ x:=by
 unfold RT zZ
 split
 ·rfl
 ·rw[ZM]
def L5(m:Mem):If:=⟨[117,105,100],108,8,m.uid,2097151⟩
def LB(m:Mem):If:=⟨[103,105,100],116,8,m.gid,2097151⟩
def Gl(m:Mem):If:=⟨[109,116,105,109,101],136,12,m.time,8589934591⟩
def wg(m:Mem):List NP:=if (Wx (Wp m.kind m.path)).2.2=true then [] else [([112,97,116,104],Wp m.kind m.path)]
def rW(m:Mem):List NP:=if 100<m.link.length then [([108,105,110,107,112,97,116,104],m.link)] else []
def qk(m:Mem):X2 m=(wg m++(rW m++(zZ (L5 m)++(zZ (LB m)++zZ (Gl m)))))++cS m.attrs:=by
 unfold X2 rj ZaU iN;show(RT (Gl m) (RT (LB m) (RT (L5 m) _)))++cS m.attrs=_;rw[ur,ur,ur]
 congr 1
 unfold wg rW
 split<;>split<;>simp
def Ac(c:Prop)[Decidable c](k v key:Zd):lastR (if c then [(k,v)] else []) key=if c∧k=key then(v,true) else([],false):=by
 by_cases h:c
 ·rw[if_pos h,fT]
  by_cases hk:k=key
  ·rw[if_pos hk,if_pos ⟨h,hk⟩]
  ·rw[if_neg hk,if_neg (λe=>hk e.2)]
 ·rw[if_neg h,if_neg (λe=>h e.1)];rfl
def PZ(x:If)(key:Zd):lastR (zZ x) key=if (x.z<((0:Nat):Int)∨(x.most:Int)<x.z)∧x.key=key then(QC x.z,true) else([],false):=Ac _ _ _ _
def QN(m:Mem)(key:Zd):lastR (wg m) key=if (Wx (Wp m.kind m.path)).2.2≠true∧([112,97,116,104]:Zd)=key then(Wp m.kind m.path,true) else([],false):=by
 unfold wg;rw[<-Ac]
 congr 1
 by_cases h:(Wx (Wp m.kind m.path)).2.2=true
 ·rw[if_pos h,if_neg (λe=>e h)]
 ·rw[if_neg h,if_pos h]
def QM(m:Mem)(key:Zd):lastR (rW m) key=if 100<m.link.length∧([108,105,110,107,112,97,116,104]:Zd)=key then(m.link,true) else([],false):=Ac _ _ _ _
def P0(m:Mem){key:Zd}(hk:key.length<13):lastR (X2 m) key=lastR (wg m++(rW m++(zZ (L5 m)++(zZ (LB m)++zZ (Gl m))))) key:=by
 rw[qk,PY,hJ hk];rfl
def pg(m:Mem):lastR (X2 m) [117,105,100]=if 2097151<m.uid then(QC m.uid,true) else([],false):=by
 rw[P0 m (by decide)];simp only[PY,QN,QM,PZ];simp[L5,LB,Gl];have h0: ¬((m.uid:Int)<0):=by omega
 by_cases h:2097151<m.uid
 ·have:(2097151:Int)<m.uid:=by omega
  simp[h,this]
 ·have: ¬(2097151:Int)<m.uid:=by omega
  simp[h,this,h0]
def pe(m:Mem):lastR (X2 m) [103,105,100]=if 2097151<m.gid then(QC m.gid,true) else([],false):=by
 rw[P0 m (by decide)];simp only[PY,QN,QM,PZ];simp[L5,LB,Gl];have h0: ¬((m.gid:Int)<0):=by omega
 by_cases h:2097151<m.gid
 ·have:(2097151:Int)<m.gid:=by omega
  simp[h,this]
 ·have: ¬(2097151:Int)<m.gid:=by omega
  simp[h,this,h0]
def wq(m:Mem):lastR (X2 m) [109,116,105,109,101]=if m.time<0∨8589934591<m.time then(QC m.time,true) else([],false):=by
 rw[P0 m (by decide)];simp only[PY,QN,QM,PZ];simp[L5,LB,Gl]
 by_cases h:m.time<0∨8589934591<m.time<;>simp[h]
def wp(m:Mem):lastR (X2 m) [112,97,116,104]=if (Wx (Wp m.kind m.path)).2.2=true then([],false) else(Wp m.kind m.path,true):=by
 rw[P0 m (by decide)];simp only[PY,QN,QM,PZ];simp[L5,LB,Gl]
 by_cases h:(Wx (Wp m.kind m.path)).2.2=true<;>simp[h]
def wo(m:Mem):lastR (X2 m) [108,105,110,107,112,97,116,104]=if 100<m.link.length then(m.link,true) else([],false):=by
 rw[P0 m (by decide)];simp only[PY,QN,QM,PZ];simp[L5,LB,Gl]
 by_cases h:100<m.link.length
 ·simp[h]
 ·simp[h]
  omega
def dF(m:Mem):lastR (X2 m) [115,105,122,101]=([],false):=by
 rw[P0 m (by decide)];simp only[PY,QN,QM,PZ];simp[L5,LB,Gl]
def mY(m:Mem)(h: ∀x∈m.attrs,x.1≠[]):V2 (X2 m)=m.attrs:=by
 rw[qk,tI,Gr h,zN,ZQ];intro x hx;unfold wg rW zZ at hx;simp only[Zt] at hx;rcases hx with hx|hx|hx|hx|hx<;>(split at hx<;>first|(cases hx;done)|(have e:=congrArg Prod.fst (Zn.1 hx);rw[e];exact Zr rfl))
end
section
open Go Go.Proofs
def Zch{s:Zd}(h:NZ s)(k:Nat):Gi (s++List.replicate k 0)=s:=by
 unfold Gi cutX;cases k with
 |zero=>rw[show s++List.replicate 0 (0:UInt8)=s from ZM _,h.fst,if_pos rfl]
 |succ k=>
  have e:W2 0 (s++0::List.replicate k 0)=s.length+1:=vR (c:=(0:UInt8)) rfl h;rw[XY,e,if_neg (by omega)];show List.take (s.length+1 - 1) _=s;rw[X8,W3]
def dX{s:Zd}{n:Nat}(h:NZ s)(hl:s.length<=n):Gi (UK s n)=s:=by
 rw[oj h hl];exact Zch h _
theorem yC: ∀{s:Zd} {d:Nat},TE 47 s=d+1->s.take (d+1)=s.take d++[47]
 |[],d,h=>by simp[TE] at h
 |c::s,d,h=>by
  rw[TE] at h
  by_cases h0:TE 47 s=0
  ·rw[if_pos h0] at h
   by_cases hc:c.toNat=47
   ·rw[if_pos hc] at h
    obtain rfl:d=0:=by omega
    rw[show c=47 from Wj.1 hc];rfl
   ·rw[if_neg hc] at h;omega
  ·rw[if_neg h0] at h
   obtain⟨e,he⟩: ∃e,TE 47 s=e+1:=⟨TE 47 s - 1,by omega⟩;obtain rfl:d=e+1:=by omega
   have:=yC he;show c::s.take (e+1)=c::(s.take e++[47]);rw[this]
def mO{s:Zd}(h0:(s.getD 0 0).toNat≠47)(h:(Wx s).2.2=true):(if (Wx s).1=[] then(Wx s).2.1 else(Wx s).1++47::(Wx s).2.1)=s:=by
 unfold Wx at h ⊢
 by_cases h1:s.length<=100
 ·rw[if_pos h1];rfl
 ·rw[if_neg h1] at h ⊢
  by_cases h2:TE 47 (s.take (min (s.length - 1) 156))=0
  ·rw[if_pos h2] at h;cases h
  ·rw[if_neg h2] at h ⊢
   split at h
   ·cases h
   ·rename_i h3
    rw[if_neg h3];obtain⟨d,hd⟩: ∃d,TE 47 (s.take (min (s.length - 1) 156))=d+1:=⟨_,(Nat.succ_pred_eq_of_pos (Nat.pos_of_ne_zero h2)).symm⟩;rw[hd];show(if s.take (d+1 - 1)=[] then s.drop (d+1) else s.take (d+1 - 1)++47::s.drop (d+1))=s;rw[X8];have hle:=Ed 47 (s.take (min (s.length - 1) 156));rw[hd,Zy] at hle;have hc:=yC hd;rw[Sk,Sk,Xy (by omega),Xy (by omega)] at hc;have hs:s.take d++47::s.drop (d+1)=s:=by
     conv=>rhs;rw[<-XN (d+1) s,hc]
     rw[Yq];rfl
    have hd0:d≠0:=by
     rintro rfl;refine h0 ?_;have e1:s=47::s.drop 1:=hs.symm;rw[e1];rfl
    rw[if_neg,hs];intro e;have:=congrArg List.length e;rw[Zy,XU] at this;omega
end
def Jq{l w:Zd}{a i:Nat}(h:a+w.length<=l.length):(yd l a w)[i]? =if a<=i∧i<a+w.length then w[i - a]? else l[i]? :=by
 have ht:(l.take a).length=a:=by rw[Zy];omega
 unfold yd;rw[S3,ht]
 by_cases h1:i<a
 ·rw[if_pos h1,if_neg (by omega),Yu h1]
 ·rw[if_neg h1,S3]
  by_cases h2:i<a+w.length
  ·rw[if_pos (by omega),if_pos ⟨by omega,h2⟩]
  ·rw[if_neg (by omega),if_neg (by omega),Y8]
   congr 1;omega
def CO{l:Zd}{a m i:Nat}:((l.drop a).take m)[i]? =if i<m then l[a+i]? else none:=by
 by_cases h:i<m
 ·rw[if_pos h,Yu h,Y8]
 ·rw[if_neg h,Z8 (by rw[Zy];omega)]
def MZ{l w:Zd}{a n:Nat}(hw:w.length=n)(h:a+n<=l.length):((Un l a n w).drop a).take n=w:=by
 rw[uN hw];refine Y7 λi=>?_;rw[CO,Jq (by omega)]
 by_cases hi:i<n
 ·rw[if_pos hi,if_pos ⟨by omega,by omega⟩,WA]
 ·rw[if_neg hi,Z8 (by omega)]
def Wc{l w:Zd}{b n a m:Nat}(h:b+n<=l.length)(hd:a+m<=b∨b+n<=a):((Un l b n w).drop a).take m=(l.drop a).take m:=by
 unfold Un
 split
 ·rename_i hw
  refine Y7 λi=>?_;rw[CO,CO,Jq (by omega)]
  by_cases hi:i<m
  ·rw[if_pos hi,if_pos hi,if_neg (by omega)]
  ·rw[if_neg hi,if_neg hi]
 ·rfl
def Zct{l w:Zd}{a m j:Nat}(h:(l.drop a).take m=w)(hj:j<m):l.getD (a+j) 0=w.getD j 0:=by
 rw[<-h,Ze,Ze,CO,if_pos hj]
def pE{Y:Zd}(hY:Y.length=512):((PB Y).drop 148).take 8=Qn 6 (Rn Y)++0::[32]∧Rn Y<262144:=by
 have h:=tO hY;have ho:UR (Rn Y) 7=Qn 6 (Rn Y)++[0]:=CD (by decide) (by show _<262144;omega);refine⟨?_,by omega⟩;unfold PB;rw[MZ (by rw[ho,Zh,Zh,Rv];rfl) (by omega),ho,Yq];rfl
def ZhJ(d:Nat)(h:d<8):(Mm d).toNat≠0:=by
 unfold Mm;rw[SD];omega
def j8(n:Nat)(t:Zd):((Qn 6 n++t).getD 0 0).toNat≠0:=by
 rw[NH,Rv,if_pos (by decide),Fr 6 n 0 (by decide)];exact ZhJ _ (Wh _ (by decide))
def yo{Y:Zd}(hY:Y.length=512):Rn (PB Y)=Rn Y:=by
 unfold PB;generalize UR (Rn Y) 7++[32]=W;unfold Rn;have e8:(List.replicate 8 (32:UInt8)).length=8:=ZB ..
 congr 1
 rw[uN e8,uN e8];refine Y7 λi=>?_;have hl:=A6 (l:=Y) (w:=W) (a:=148) (n:=8) (by omega);rw[Jq (by rw[e8,hl,hY];decide),Jq (by rw[e8,hY];decide)]
 by_cases hi:148<=i∧i<148+(List.replicate 8 (32:UInt8)).length
 ·rw[if_pos hi,if_pos hi]
 ·rw[if_neg hi,if_neg hi]
  unfold Un
  split
  ·rename_i hw
   rw[Jq (by omega),if_neg (by rw[hw];rw[e8] at hi;exact hi)]
  ·rfl
def ZbB{r:Nat}(hr:r<8589934592):XBk (Ch r) r:=by
 have Zoc:=Rm 120;have q1:=YJ (w:=UK [112,97,120] 100) (a:=0) (n:=100) Zoc (by decide);have q2:=YJ (w:=UR 0 8) (a:=100) (n:=8) q1 (by decide);have q3:=YJ (w:=UR 0 8) (a:=108) (n:=8) q2 (by decide);have q4:=YJ (w:=UR 0 8) (a:=116) (n:=8) q3 (by decide);have q5:=YJ (w:=UR 0 12) (a:=136) (n:=12) q4 (by decide);have q6:=YJ (w:=UR r 12) (a:=124) (n:=12) q5 (by decide);obtain⟨h1,h3⟩:=pE q6;have win: ∀a m,(a+m<=100∧100<=a)∨156<=a->((Ch r).drop a).take m=((NK 120).drop a).take m:=λa m h=>by
  unfold Ch PB;rw[Wc (by omega) (by omega),Wc (by omega) (by omega),Wc (by omega) (by omega),Wc (by omega) (by omega),Wc (by omega) (by omega),Wc (by omega) (by omega),Wc (by omega) (by omega)]
 refine⟨FA r,⟨148,by decide,?_⟩,⟨_,_,h1,h3,?_⟩,?_,[],?_⟩
 ·rw[show(148:Nat)=148+0 from rfl]
  show((PB _).getD (148+0) 0).toNat≠0;rw[Zct h1 (by decide)];exact j8 _ _
 ·have hm:((Ch r).drop 257).take 6=uW:=by rw[win 257 6 (.inr (by decide))];decide
  unfold gI;rw[if_pos (.inl hm),if_pos];show _=Rn (PB _);rw[yo q6]
 ·rw[win 156 1 (.inr (by decide))];decide
 ·have ho:UR r 12=Qn 11 r++[0]:=CD (by decide) (by show r<8^11;omega)
  unfold Ch PB;rw[Wc (by omega) (by omega),MZ (by rw[ho,Zh,Rv];rfl) (by omega),ho]
section
open Go Go.Proofs
def Nn(x:If):Nat:=if x.z<((0:Nat):Int)∨(x.most:Int)<x.z then 0 else x.z.toNat
def uq(x:If)(L:Zd):Ce x L=Un L x.at_ x.wid (UR (Nn x) x.wid):=by
 unfold Ce Nn
 by_cases h:x.z<((0:Nat):Int)∨(x.most:Int)<x.z
 ·rw[if_pos h,if_pos h]
 ·rw[if_neg h,if_neg h]
def l0F(m:Mem):Zd:=if 100<m.link.length then [] else m.link
def hBa(m:Mem):Zd:=Un (Un (Un (NK (E1 m.kind)) 345 155 (UK (Wx (Wp m.kind m.path)).1 155)) 0 100 (UK (Wx (Wp m.kind m.path)).2.1 100)) 157 100 (UK (l0F m) 100)
def hBb(m:Mem):Zd:=Un (Un (Un (hBa m) 108 8 (UR (Nn (L5 m)) 8)) 116 8 (UR (Nn (LB m)) 8)) 136 12 (UR (Nn (Gl m)) 12)
def hBc(m:Mem):Zd:=Un (Un (hBb m) 100 8 (UR m.mode 8)) 124 12 (UR m.data.length 12)
def An(m:Mem):Ug m=PB (hBc m):=by
 unfold Ug ri ZaT iM uu;rw[Vz,Vz,Vz,List.foldl_nil,uq,uq,uq];rfl
def Fb(m:Mem):(hBa m).length=512:=YJ (YJ (YJ (Rm _) (by decide)) (by decide)) (by decide)
def Ct(m:Mem):(hBb m).length=512:=YJ (YJ (YJ (Fb m) (by decide)) (by decide)) (by decide)
def vV(m:Mem):(hBc m).length=512:=YJ (YJ (Ct m) (by decide)) (by decide)
def Zcu(m:Mem){a k:Nat}(h:a+k<=148∨156<=a):((Ug m).drop a).take k=((hBc m).drop a).take k:=by
 have:=vV m;rw[An];unfold PB;exact Wc (by omega) (by omega)
def iU(m:Mem){a k:Nat}(h:a+k<=100∨(108<=a∧a+k<=124)∨(136<=a∧a+k<=148)∨156<=a):((Ug m).drop a).take k=((hBb m).drop a).take k:=by
 have:=Ct m;have h2:=YJ (w:=UR m.mode 8) (a:=100) (n:=8) this (by decide);rw[Zcu m (by omega)];unfold hBc;rw[Wc (by omega) (by omega),Wc (by omega) (by omega)]
def iT(m:Mem){a k:Nat}(h:a+k<=100∨156<=a):((Ug m).drop a).take k=((hBa m).drop a).take k:=by
 have:=Fb m;have h2:=YJ (w:=UR (Nn (L5 m)) 8) (a:=108) (n:=8) this (by decide);have h3:=YJ (w:=UR (Nn (LB m)) 8) (a:=116) (n:=8) h2 (by decide);rw[iU m (by omega)];unfold hBb;rw[Wc (by omega) (by omega),Wc (by omega) (by omega),Wc (by omega) (by omega)]
def ZgM(m:Mem){a k:Nat}(h:(156<=a∧a+k<=157)∨(257<=a∧a+k<=345)):((Ug m).drop a).take k=((NK (E1 m.kind)).drop a).take k:=by
 have h1:=Rm (E1 m.kind);have h2:=YJ (w:=UK (Wx (Wp m.kind m.path)).1 155) (a:=345) (n:=155) h1 (by decide);have h3:=YJ (w:=UK (Wx (Wp m.kind m.path)).2.1 100) (a:=0) (n:=100) h2 (by decide);rw[iT m (by omega)];unfold hBa;rw[Wc (by omega) (by omega),Wc (by omega) (by omega),Wc (by omega) (by omega)]
def ci{s:Zd}{n:Nat}(h:NZ s)(hl:s.length<=n):(UK s n).length=n:=by
 rw[oj h hl,Zh,ZB];omega
def eQ{u n:Nat}(h1:2<=n)(h:u<8^(n - 1)):(UR u n).length=n:=by
 rw[CD h1 h,Zh,Rv];show n - 1+1=n;omega
def sH{l:Zd}{a n u:Nat}(h1:2<=n)(h:u<8^(n - 1))(hl:a+n<=l.length):((Un l a n (UR u n)).drop a).take n=Qn (n - 1) u++0::[]:=by
 rw[MZ (eQ h1 h) hl,CD h1 h]
def nB{l s:Zd}{a n:Nat}(hs:NZ s)(h:s.length<=n)(hl:a+n<=l.length):Gi (((Un l a n (UK s n)).drop a).take n)=s:=by
 rw[MZ (ci hs h) hl,dX hs h]
def Zen(m:Mem)(hp:NZ m.path):Gi (((Ug m).drop 0).take 100)=(Wx (Wp m.kind m.path)).2.1:=by
 have h1:=Rm (E1 m.kind);have h2:=YJ (w:=UK (Wx (Wp m.kind m.path)).1 155) (a:=345) (n:=155) h1 (by decide);have h3:=YJ (w:=UK (Wx (Wp m.kind m.path)).2.1 100) (a:=0) (n:=100) h2 (by decide);rw[iT m (by omega)];unfold hBa;rw[Wc (by omega) (by omega)];exact nB (ii (jL hp)).2 wa.2 (by omega)
def eG(m:Mem)(hp:NZ m.path):Gi (((Ug m).drop 345).take 155)=(Wx (Wp m.kind m.path)).1:=by
 have h1:=Rm (E1 m.kind);have h2:=YJ (w:=UK (Wx (Wp m.kind m.path)).1 155) (a:=345) (n:=155) h1 (by decide);have h3:=YJ (w:=UK (Wx (Wp m.kind m.path)).2.1 100) (a:=0) (n:=100) h2 (by decide);rw[iT m (by omega)];unfold hBa;rw[Wc (by omega) (by omega),Wc (by omega) (by omega)];exact nB (ii (jL hp)).1 wa.1 (by omega)
def Zem(m:Mem)(hp:NZ m.link)(hl:m.link.length<=100):Gi (((Ug m).drop 157).take 100)=m.link:=by
 have h1:=Rm (E1 m.kind);have h2:=YJ (w:=UK (Wx (Wp m.kind m.path)).1 155) (a:=345) (n:=155) h1 (by decide);have h3:=YJ (w:=UK (Wx (Wp m.kind m.path)).2.1 100) (a:=0) (n:=100) h2 (by decide);rw[iT m (by omega)];unfold hBa;have e:l0F m=m.link:=by unfold l0F;rw[if_neg (by omega)]
 rw[e];exact nB hp hl (by omega)
def jQ(m:Mem)(h:m.mode<=4095):((Ug m).drop 100).take 8=Qn 7 m.mode++0::[]:=by
 have h1:=Ct m;have h2:=YJ (w:=UR m.mode 8) (a:=100) (n:=8) h1 (by decide);rw[Zcu m (by omega)];unfold hBc;rw[Wc (by omega) (by omega)];exact sH (by decide) (by show _<2097152;omega) (by omega)
def Zeo(m:Mem)(h:m.data.length<=90000):((Ug m).drop 124).take 12=Qn 11 m.data.length++0::[]:=by
 have h1:=Ct m;have h2:=YJ (w:=UR m.mode 8) (a:=100) (n:=8) h1 (by decide);rw[Zcu m (by omega)];unfold hBc;exact sH (by decide) (by show _<8589934592;omega) (by omega)
def uv(x:If):Nn x<=x.most:=by
 unfold Nn
 split<;>omega
def ZiJ(m:Mem):((Ug m).drop 108).take 8=Qn 7 (Nn (L5 m))++0::[]:=by
 have h1:=Fb m;have h2:=YJ (w:=UR (Nn (L5 m)) 8) (a:=108) (n:=8) h1 (by decide);have h3:=YJ (w:=UR (Nn (LB m)) 8) (a:=116) (n:=8) h2 (by decide);rw[iU m (by omega)];unfold hBb;rw[Wc (by omega) (by omega),Wc (by omega) (by omega)];exact sH (by decide) (by have:=uv (L5 m);show _<2097152;have e:(L5 m).most=2097151:=rfl;omega) (by omega)
def ZiI(m:Mem):((Ug m).drop 116).take 8=Qn 7 (Nn (LB m))++0::[]:=by
 have h1:=Fb m;have h2:=YJ (w:=UR (Nn (L5 m)) 8) (a:=108) (n:=8) h1 (by decide);have h3:=YJ (w:=UR (Nn (LB m)) 8) (a:=116) (n:=8) h2 (by decide);rw[iU m (by omega)];unfold hBb;rw[Wc (by omega) (by omega)];exact sH (by decide) (by have:=uv (LB m);show _<2097152;have e:(LB m).most=2097151:=rfl;omega) (by omega)
def Zep(m:Mem):((Ug m).drop 136).take 12=Qn 11 (Nn (Gl m))++0::[]:=by
 have h1:=Fb m;have h2:=YJ (w:=UR (Nn (L5 m)) 8) (a:=108) (n:=8) h1 (by decide);have h3:=YJ (w:=UR (Nn (LB m)) 8) (a:=116) (n:=8) h2 (by decide);rw[iU m (by omega)];unfold hBb;exact sH (by decide) (by have:=uv (Gl m);show _<8589934592;have e:(Gl m).most=8589934591:=rfl;omega) (by omega)
def Zeq(m:Mem):((Ug m).drop 156).take 1=[UInt8.ofNat (E1 m.kind)]:=by
 have h1:=YJ (w:=UK [117,115,116,97,114] 6) (a:=257) (n:=6) QT (by decide);have h2:=YJ (w:=[48,48]) (a:=263) (n:=2) h1 (by decide);rw[ZgM m (by omega)];unfold NK;exact MZ rfl (by omega)
def ZaS(m:Mem):((Ug m).drop 257).take 6=uW:=by
 have h0:=QT;have h1:=YJ (w:=UK [117,115,116,97,114] 6) (a:=257) (n:=6) QT (by decide);have h2:=YJ (w:=[48,48]) (a:=263) (n:=2) h1 (by decide);rw[ZgM m (by omega)];unfold NK;rw[Wc (by omega) (by omega),Wc (by omega) (by omega)];rw[MZ (by decide) (by omega)];decide
def ZiH(m:Mem):(∃j,j<512∧((Ug m).getD j 0).toNat≠0)∧ ∃N rest,((Ug m).drop 148).take 8=Qn 6 N++0::rest∧N<262144∧gI (Ug m) N=0:=by
 obtain⟨h1,h3⟩:=pE (vV m);rw[<-An] at h1;refine⟨⟨148,by decide,?_⟩,_,_,h1,h3,?_⟩
 ·rw[show(148:Nat)=148+0 from rfl,Zct h1 (by decide)]
  exact j8 _ _
 ·unfold gI
  rw[if_pos (.inl (ZaS m)),if_pos];rw[An,yo (vV m)]
end
theorem wO: ∀(a b:Zd),Yv (a++47::b)=Yv a++Yv b
 |[],b=>rfl
 |c::s,b=>by
  have ih:=wO s b;have e1: ∀(c:UInt8) (s:Zd),Yv (c::s)=if c.toNat=47 then []::Yv s else(match Yv s with|[]=>[[c]]|h::t=>(c::h)::t):=λ_ _=>rfl;show Yv (c::(s++47::b))=Yv (c::s)++Yv b;rw[e1,ih,e1 c s];generalize Yv b=B
  by_cases h:c.toNat=47
  ·rw[if_pos h,if_pos h];rfl
  ·rw[if_neg h,if_neg h]
   cases hs:Yv s with
   |nil=>exact absurd hs (RA s)
   |cons x t=>rfl
theorem su: ∀{s:Zd},∀c∈s.drop (TE 47 s),c.toNat≠47
 |[],c,h=>by cases h
 |a::s,c,h=>by
  have ih:=su (s:=s);rw[TE] at h
  by_cases h0:TE 47 s=0
  ·rw[if_pos h0] at h
   rw[h0] at ih
   by_cases ha:a.toNat=47
   ·rw[if_pos ha] at h
    exact ih c h
   ·rw[if_neg ha] at h
    rcases ZY.1 h with rfl|h
    ·exact ha
    ·exact ih c h
  ·rw[if_neg h0] at h
   exact ih c h
theorem kR: ∀{s:Zd} {d:Nat},TE 47 s=d+1->s.take (d+1)=s.take d++[47]
 |[],d,h=>by simp[TE] at h
 |c::s,d,h=>by
  rw[TE] at h
  by_cases h0:TE 47 s=0
  ·rw[if_pos h0] at h
   by_cases hc:c.toNat=47
   ·rw[if_pos hc] at h
    obtain rfl:d=0:=by omega
    rw[show c=47 from Wj.1 hc];rfl
   ·rw[if_neg hc] at h;omega
  ·rw[if_neg h0] at h
   obtain⟨e,he⟩: ∃e,TE 47 s=e+1:=⟨TE 47 s - 1,by omega⟩;obtain rfl:d=e+1:=by omega
   have:=kR he;show c::s.take (e+1)=c::(s.take e++[47]);rw[this]
def iY(x:Zd):Prop:=x≠[]∧x≠[46]∧x≠[46,46]∧x.length<=255
def jW{x:Zd}(h:XS x=true):iY x:=by
 unfold XS at h;simp only[Z4,UM,decide_eq_true_eq,decide_eq_false_iff_not] at h;obtain⟨⟨⟨⟨⟨h1,h2⟩,h3⟩,h4⟩,_⟩,_⟩:=h;exact⟨h1,h3,h4,by omega⟩
def ZaR{p:Zd}(h:LP p=true)(h0:p≠[]):p.length<=4080∧(Yv p).length<255∧ ∀x∈Yv p,XS x=true:=by
 unfold LP at h;have e:SH p=Yv p:=by unfold SH;rw[if_neg h0]
 rw[e] at h;simp only[Z4,decide_eq_true_eq] at h;exact⟨h.1.1,h.1.2,Ya.1 h.2⟩
def Zmv{b:Zd}(h:b.take 4=uX)(h2:XS (b.drop 4)=true):iY b:=by
 have hb:b=uX++b.drop 4:=by rw[<-h,XN]
 have hm:=jW h2;unfold XS at h2;simp only[Z4,UM,decide_eq_true_eq,decide_eq_false_iff_not] at h2;have hl:=h2.1.1.1.1.2;have hw:uX.length=4:=rfl;have e:=congrArg List.length hb;rw[Zh] at e;have p1:=Ws.2 hm.1;refine⟨λh=>?_,λh=>?_,λh=>?_,by omega⟩
 ·exact absurd (congrArg List.length h) (by show b.length≠0;omega)
 ·exact absurd (congrArg List.length h) (by show b.length≠1;omega)
 ·exact absurd (congrArg List.length h) (by show b.length≠2;omega)
def Da{p:Zd}(h:(Wm p).1≠0):PF p:=by
 have hz:=si h
 suffices g:(∀x∈Yv p,iY x)∧(Yv p).length<=255∧p.length<=4096 from⟨hz.fst,g.1,g.2.1,g.2.2⟩
 have hp:Tn p++XO p=p:=by unfold Tn XO;exact XN ..
 have hbn: ∀c∈XO p,c.toNat≠47:=by unfold XO;exact su
 have hd:Tn p=[]∨ ∃d,Tn p=d++[47]:=by
  unfold Tn;cases hc:TE 47 p with
  |zero=>exact .inl rfl
  |succ d=>exact .inr ⟨p.take d,kR hc⟩
 have sb: ∀{b:Zd},(∀c∈b,c.toNat≠47)->Yv b=[b]:=λh=>LX (Qj.2 h);have sp: ∀{b:Zd},(∀c∈b,c.toNat≠47)-> ∃S,(∀c:Zd,(∀x∈c,x.toNat≠47)->Yv (Tn p++c)=S++[c])∧ ∀d,Tn p=d++[47]->S=Yv d:=λ_=>by
  rcases hd with h0|⟨d,h0⟩
  ·refine⟨[],λc hc=>?_,λd e=>?_⟩
   ·rw[h0];exact sb hc
   ·rw[h0] at e
    have:=congrArg List.length e;simp at this
  ·refine⟨Yv d,λc hc=>?_,λd' e=>?_⟩
   ·rw[h0,Yq]
    show Yv (d++47::c)=_;rw[wO,sb hc]
   ·rw[h0] at e
    rw[(List.append_inj' e rfl).1]
 obtain⟨S,hS,hS2⟩:=sp hbn;have hsp:=hS _ hbn;rw[hp] at hsp;unfold Wm at h
 by_cases h1:p=lM
 ·subst h1
  have e:Yv lM=[lM]:=by decide
  rw[e];exact⟨λx hx=>by rw[Zn.1 hx];unfold iY;decide,by decide,by decide⟩
 rw[if_neg h1] at h
 by_cases h2:Ln p=true
 ·rw[if_pos h2] at h;exact absurd rfl h
 have h2:Ln p=false:=by simpa using h2
 unfold Ln at h2;simp only[Qy,Bool.and_eq_false_iff,Bool.not_eq_false',decide_eq_false_iff_not,decide_eq_true_eq] at h2;obtain⟨⟨⟨ht,hne⟩,hw⟩,hdd⟩:=h2;have hl:=ua (XO p);have hL:Sy (XO p)=1∨Sy (XO p)=2∨Sy (XO p)=3:=by omega
 unfold S8 at ht hne;rcases hL with e|e|e
 ·rw[if_pos e,hp] at ht hne
  have h0:p≠[]:=by
   rcases hne with h|h
   ·exact absurd e (by omega)
   ·exact h
  obtain⟨a1,a2,a3⟩:=ZaR ht h0;exact⟨λx hx=>jW (a3 x hx),by omega,by omega⟩
 ·rw[if_neg (by omega),if_pos e] at ht hne
  have h0:Tn p++(XO p).drop 4≠[]:=by
   rcases hne with h|h
   ·exact absurd e (by omega)
   ·exact h
  have hw4:(XO p).take 4=uX:=by
   unfold Sy at e
   by_cases a:XO p=z4
   ·rw[if_pos a] at e;omega
   ·rw[if_neg a] at e
    by_cases b:Qq uX (XO p)=true
    ·unfold Qq at b
     simp only[Z4,decide_eq_true_eq] at b;exact b.2
    ·rw[if_neg b] at e;omega
  have hm:XS ((XO p).drop 4)=true:=by
   rcases hw with h|h
   ·exact absurd e h
   ·exact h
  obtain⟨a1,a2,a3⟩:=ZaR ht h0;rw[hS _ (λx hx=>hbn x (Ua hx))] at a2 a3;rw[hsp];rw[Zh] at a1 a2;have el:=congrArg List.length hp;rw[Zh] at el;rw[Ye] at a1;refine⟨λx hx=>?_,by rw[Zh];exact QH a2,by omega⟩;rcases Zt.1 hx with hx|hx
  ·exact jW (a3 x (Zt.2 (.inl hx)))
  ·rw[Zn.1 hx];exact Zmv hw4 hm
 ·rw[if_neg (by omega),if_neg (by omega)] at ht
  have hb:XO p=z4:=by
   unfold Sy at e
   by_cases a:XO p=z4
   ·exact a
   ·rw[if_neg a] at e
    by_cases b:Qq uX (XO p)=true
    ·rw[if_pos b] at e;omega
    ·rw[if_neg b] at e;omega
  have ho:iY z4:=by unfold iY;decide
  have el:=congrArg List.length hp;rw[Zh,hb] at el;have ol:z4.length=12:=rfl;rw[hsp,hb];rcases hd with h0|⟨d,h0⟩
  ·have e0:=hS (XO p) hbn
   rw[h0,ZQ,sb hbn] at e0;have e1:S=[]:=by
    have:=congrArg List.length e0;rw[Zh] at this;exact YF.1 (by simpa using this)
   rw[h0] at el;rw[e1];exact⟨λx hx=>by rw[Zn.1 hx];exact ho,by decide,by rw[<-el];decide⟩
  ·have en:Cd (Tn p)=d:=by
    unfold Cd;rw[h0,Zh];show(if 1<=d.length+1∧(d++[47]).drop (d.length+1 - 1)=[47] then(d++[47]).take (d.length+1 - 1) else d++[47])=d;rw[X8,UY,W3,if_pos ⟨by omega,rfl⟩]
   rw[en] at ht;have hd0:d≠[]:=λh=>hdd (by rw[h0,h];rfl);obtain⟨a1,a2,a3⟩:=ZaR ht hd0;rw[hS2 d h0];rw[h0,Zh] at el;have l1:([47]:Zd).length=1:=rfl;refine⟨λx hx=>?_,by rw[Zh];exact a2,by omega⟩;rcases Zt.1 hx with hx|hx
   ·exact jW (a3 x hx)
   ·rw[Zn.1 hx];exact ho
section
open Go Go.Proofs
def gw(x y:UInt8):KI x y=decide (x=y):=by
 show Nat.beq x.toNat y.toNat=_
 by_cases h:x=y
 ·subst h;rw[Zi rfl];exact YD _
 ·rw[Zc h]
  cases hb:Nat.beq x.toNat y.toNat with
  |false=>rfl
  |true=>exact absurd (Wj.1 (Yf hb)) h
def Mg(a b:UInt8)(x y:Zd):Yt (a::x) (b::y)=true↔a.toNat<b.toNat∨(a=b∧Yt x y=true):=by
 show cond (Nat.ble (Nat.succ a.toNat) b.toNat) true (cond (KI a b) (Yt x y) false)=true↔_;rw[gw]
 by_cases h:a.toNat<b.toNat
 ·rw[Zj h];simp[h]
 ·have h1:Nat.ble (Nat.succ a.toNat) b.toNat=false:=by
   cases hb:Nat.ble (Nat.succ a.toNat) b.toNat with
   |false=>rfl
   |true=>exact absurd (ZS hb) h
  rw[h1]
  by_cases e:a=b
  ·subst e;simp
  ·rw[Zc e];simp[h,e]
theorem EX: ∀a:Zd,Yt a a≠true
 |[],h=>by cases h
 |a::x,h=>by
  rcases(Mg ..).1 h with h|⟨_,h⟩
  ·omega
  ·exact EX x h
theorem JC: ∀a b d:Zd,Yt a b=true->Yt b d=true->Yt a d=true
 |[],[],_,h,_=>by cases h
 |_::_,[],_,h,_=>by cases h
 |_,_::_,[],_,h=>by cases h
 |[],_::_,_::_,_,_=>rfl
 |a::x,b::y,d::z,h1,h2=>by
  refine(Mg ..).2 ?_;rcases(Mg ..).1 h1 with p1|⟨p1,p2⟩<;>rcases(Mg ..).1 h2 with q1|⟨q1,q2⟩
  ·exact .inl (by omega)
  ·exact .inl (by rw[<-q1];exact p1)
  ·exact .inl (by rw[p1];exact q1)
  ·exact .inr ⟨p1.trans q1,JC x y z p2 q2⟩
def ZiQ{l:List NP}{i:Nat}(h:mE l (i+1)=true):Yt (l.getD i ([],[])).1 (l.getD (i+1) ([],[])).1=true:=by
 unfold mE at h;simp only[Z4] at h;have:=h.2;rw[Zc (by omega),Bool.false_or,X8] at this;unfold Wd at this
 rwa [Bool.not_not] at this
theorem cT{l:List NP}(h: ∀j,j<l.length->mE l j=true){i:Nat}: ∀j,i<j->j<l.length->Yt (l.getD i ([],[])).1 (l.getD j ([],[])).1=true
 |0,h1,_=>by omega
 |j+1,h1,h2=>by
  have hs:=ZiQ (h (j+1) h2)
  by_cases e:i=j
  ·subst e;exact hs
  ·exact JC _ _ _ (cT h j (by omega) (by omega)) hs
theorem qj: ∀{a b:Zd},b<a->Yt b a=true
 |[],b,h=>absurd h (List.not_lt_nil b)
 |x::a,[],h=>rfl
 |x::a,y::b,h=>by
  refine(Mg ..).2 ?_;rcases List.cons_lt_cons_iff.1 h with h|⟨h1,h2⟩
  ·exact .inl (VK.1 h)
  ·exact .inr ⟨h1,qj h2⟩
def Zci{a b:Zd}(h:Yt a b=true):decide (a<=b)=true:=by
 rw[decide_eq_true_eq];intro hc;exact EX _ (JC _ _ _ h (qj hc))
def hU{l:List NP}(hm:Ow l=true):l.length<=16∧(∀x∈l,x.1≠[])∧(∀x∈l,x.1.length<=242)∧(l.map (·.1)).Nodup∧QR (l.map (·.1))=l.map (·.1):=by
 unfold Ow at hm;rw[Z4,decide_eq_true_eq,Ya] at hm;obtain⟨h,h16⟩:=hm;have h: ∀j,j<l.length->mE l j=true:=λj hj=>h j (XM.2 hj);have hat: ∀x∈l,∃i,i<l.length∧l.getD i ([],[])=x:=λx hx=>by
  obtain⟨i,hi,rfl⟩:=Tl.1 hx;exact⟨i,hi,by rw[Ze,Zm hi];rfl⟩
 have hg: ∀{i:Nat} (hi:i<l.length),l.getD i ([],[])=l[i]:=λhi=>by rw[Ze,Zm hi];rfl
 have pw:(l.map (·.1)).Pairwise λa b=>Yt a b=true:=by
  rw[T1,List.pairwise_iff_getElem];intro i j hi hj hij;have:=cT h j hij hj
  rwa [hg hi,hg hj] at this
 refine⟨h16,λx hx=>?_,λx hx=>?_,?_,?_⟩
 ·obtain⟨i,hi,rfl⟩:=hat x hx
  have:=h i hi;unfold mE at this;simp only[Z4,UM,decide_eq_false_iff_not] at this;exact this.1.1.1
 ·obtain⟨i,hi,rfl⟩:=hat x hx
  have:=h i hi;unfold mE at this;simp only[Z4,decide_eq_true_eq] at this;exact this.1.1.2
 ·exact pw.imp λh e=>by rw[e] at h;exact EX _ h
 ·exact List.mergeSort_of_pairwise (pw.imp λh=>Zci h)
end
end
end Go.AI
