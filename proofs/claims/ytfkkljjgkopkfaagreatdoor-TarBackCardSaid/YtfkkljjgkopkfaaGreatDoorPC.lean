/- Bytes, blocks and their fields: walked; proved, conditions as named. -/
import Derived.Test.YtfkkljjgkopkfaaGreatDoorPA
import Derived.Test.YtfkkljjgkopkfaaGreatDoorP7
import Derived.Test.YtfkkljjgkopkfaaGreatDoorP8
import Derived.Test.YtfkkljjgkopkfaaGreatDoorPB
set_option maxRecDepth 1000000
set_option maxHeartbeats 0
set_option linter.all false
namespace Go.AI
open Go
noncomputable section
def Bytes.keep{H H':Heap}{bk o:Nat}{cap:Option Nat}{bl:Zd}{rb:Row}{S:List Nat}(h:Bytes H bk o cap bl rb)(k:Zu H H' S)(hlt:bk<H.nx)(hS:bk∉S):Bytes H' bk o cap bl rb:=
 ⟨(k.get bk hlt hS).trans h.at_,h.sz,h.fits,h.get,h.cap⟩
def BV(H:Heap)(v:AV)(l:Zd):Prop:=
 (l=[]∧(v=.nils∨ ∃b o c,v=.slice b o 0 c))∨(l≠[]∧ ∃b o c r,v=.slice b o l.length c∧Bytes H b o c l r∧b<H.nx)
def BV.len{H:Heap}{v:AV}{l:Zd}(h:BV H v l)(H':Heap):Kq v H'=.val (nI .i64 l.length) H':=by
 rcases h with⟨rfl,rfl|⟨b,o,c,rfl⟩⟩|⟨_,b,o,c,r,rfl,_⟩
 ·exact N0 H'
 ·exact WH ..
 ·exact WH ..
def Bytes.take{H:Heap}{b o n:Nat}{c:Option Nat}{l:Zd}{r:Row}(h:Bytes H b o c l r)(hn:n<=l.length):Bytes H b o (OW c 0) (l.take n) r:=by
 have hl:(l.take n).length=n:=by rw[Zy,Xy hn]
 refine⟨h.at_,h.sz,by have:=h.fits;omega,λi hi=>?_,λk hk=>?_⟩
 ·rw[h.get i (by omega),Ze,Ze,Yu (by omega)]
 ·cases c with
  |none=>cases hk
  |some c=>
   cases hk;have:=h.cap c rfl;show(l.take n).length<=c - 0∧o+(c - 0)<=r.size;omega
def Bytes.drop{H:Heap}{b o n:Nat}{c:Option Nat}{l:Zd}{r:Row}(h:Bytes H b o c l r)(hn:n<=l.length):Bytes H b (o+n) (OW c n) (l.drop n) r:=by
 have hl:(l.drop n).length=l.length - n:=Ye ..;have hf:=h.fits;refine⟨h.at_,h.sz,by omega,λi hi=>?_,λk hk=>?_⟩
 ·rw[XT,h.get (n+i) (by omega),Ze,Ze,Y8]
 ·cases c with
  |none=>cases hk
  |some c=>
   cases hk;have:=h.cap c rfl;show(l.drop n).length<=c - n∧o+n+(c - n)<=r.size;omega
def BV.keep{H H':Heap}{S:List Nat}{v:AV}{l:Zd}(h:BV H v l)(k:Zu H H' S)(hS: ∀b o n c,v=.slice b o n c->b∉S):BV H' v l:=by
 rcases h with h|⟨hne,b,o,c,r,rfl,hb,hlt⟩
 ·exact .inl h
 ·exact .inr ⟨hne,b,o,c,r,rfl,hb.keep k hlt (hS _ _ _ _ rfl),ZK hlt k.nx⟩
def BV.src{H:Heap}{v:AV}{l:Zd}(h:BV H v l):Src H v (l.map Vk):=by
 rcases h with⟨rfl,rfl|⟨b,o,c,rfl⟩⟩|⟨_,b,o,c,r,rfl,hb,_⟩
 ·exact Src.nils H
 ·exact Src.none H b o c
 ·have:=Src.row (c:=c) (l:=l.map Vk) hb.at_ (by rw[Zx];exact hb.fits) (λi hi=>by
   rw[Zx] at hi
   rw[hb.get i hi,Ze,Ze,Z3,Zm hi];rfl)
  rw[Zx] at this;exact this
def Cells.bytes{H:Heap}{b:Nat}{r:Row}{l:Zd}(hr:H.t.get b=some (.row r))(hs:r.sz=1)(hc:Cells r (l.map Vk)):Bytes H b 0 none l r:=by
 have hz:=hc.size;rw[Zx] at hz;refine⟨hr,hs,by omega,λi hi=>?_,λc hc=>by cases hc⟩;rw[Zl,hc.get i (by rw[Zx];exact hi),Ze,Z3,Ze,Zm hi];rfl
def Zfo{x y:UInt8}(h:Vk x=Vk y):x=y:=by
 unfold Vk at h;injection h with _ h;injection h with h;exact Wj.1 h
def Bytes.uniq{H:Heap}{b o:Nat}{c:Option Nat}{l l':Zd}{r r':Row}(h:Bytes H b o c l r)(h':Bytes H b o c l' r')(e:l.length=l'.length):l=l':=by
 have hr:r=r':=by
  have:=h.at_.symm.trans h'.at_;injection this with this;injection this
 subst hr;refine List.ext_getElem e λi h1 h2=>?_;have a:=h.get i h1;have b:=h'.get i h2;rw[a] at b;have:=Zfo b
 rwa [Ze,Ze,Zm h1,Zm h2] at this
def BV.uniq{H:Heap}{v:AV}{l l':Zd}(h:BV H v l)(h':BV H v l'):l=l':=by
 have e:l.length=l'.length:=by
  have a:=h.len H;rw[h'.len H] at a;injection a with a _;injection a with _ a;injection a with a;exact a.symm
 rcases h with⟨rfl,_⟩|⟨hne,b,o,c,r,rfl,hb,_⟩
 ·exact(YF.1 e.symm).symm
 ·rcases h' with⟨rfl,_⟩|⟨hne',b',o',c',r',e',hb',_⟩
  ·exact YF.1 e
  ·injection e' with e1 e2 e3 e4
   subst e1;subst e2;subst e4;exact hb.uniq hb' e
def BV.far{H:Heap}{v:AV}{l:Zd}(h:BV H v l)(hne:l≠[]): ∀b o n c,v=.slice b o n c->b<H.nx:=by
 rcases h with⟨rfl,_⟩|⟨_,b,o,c,r,rfl,_,hlt⟩
 ·exact absurd rfl hne
 ·intro b o n c e;cases e;exact hlt
def Sz.src{H:Heap}{sz:Nat}{v:AV}{ls:List (List AV)}(h:Sz H sz v ls)(hsz:1<=sz)(k:Nat->List AV->OR):(ub v λn=>Ww H sz v n λnew=>k n new)=k ls.length ls.flatten:=by
 rcases h with⟨rfl,rfl⟩|⟨he,⟨rfl,rfl⟩|⟨b,o,c,rfl,hb,h2⟩⟩
 ·rfl
 ·rfl
 ·show(Ww H sz (.slice b o ls.length c) ls.length λnew=>k ls.length new)=_
  unfold Ww;rw[Yl]
  by_cases h0:ls.length=0
  ·have:ls=[]:=YF.1 h0
   subst this;rfl
  ·rw[Zc h0]
   have hne:ls≠[]:=λe=>h0 (by rw[e];rfl);obtain⟨r,h3,h4,h5⟩:=h2 hne;have hf:=AI.flat_len he;show Yx H b (λr=>ZJ (Nat.ble (o+ls.length*sz) r.size) (k ls.length (Vw r o (ls.length*sz))))=_;unfold Yx;rw[h3];show ZJ (Nat.ble (o+ls.length*sz) r.size) (k ls.length (Vw r o (ls.length*sz)))=_;rw[Zj h4];have:Vw r o (ls.length*sz)=ls.flatten:=by
    refine Y7 λj=>?_
    by_cases hj:j<ls.length*sz
    ·rw[Sp r _ o j hj,h5 j hj,Ze,Zm (by omega)];rfl
    ·rw[Z8 (by rw[UV];omega),Z8 (by omega)]
   rw[this];rfl
def Hf{H:Heap}{e sz bytes:Nat}{a v:AV}{ls:List (List AV)}(h:Sz H sz v ls)(hsz:1<=sz)(hb:1<=bytes):TH e sz bytes a v H=Oh a e sz bytes H ls.length ls.flatten:=by
 show ZJ (Nat.ble 1 sz) (ZJ (Nat.ble 1 bytes) _)=_;rw[Zj hsz,Zj hb];exact h.src hsz λn new=>Oh a e sz bytes H n new
def kO{H:Heap}{e sz bytes:Nat}{v:AV}{ls:List (List AV)}(h:Sz H sz v ls)(hsz:1<=sz)(hb:1<=bytes)(hl:ls.length*bytes<=140737488355328):
  (TH e sz bytes (.slice H.nx 0 0 none) v (H.new (rG e sz [] 0 false true true))=.val (.slice H.nx 0 0 none) (H.new (rG e sz [] 0 false true true))∧ls=[])∨
  (TH e sz bytes (.slice H.nx 0 0 none) v (H.new (rG e sz [] 0 false true true))=.val (.slice (H.nx+1) 0 ls.length none) ((H.new (rG e sz [] 0 false true true)).new (rG e sz ls.flatten 0 false true false))∧ls≠[]):=by
 have hk:Zu H (H.new (rG e sz [] 0 false true true)) []:=Zu.new _ _ _;rw[Hf (h.keep0 hk) hsz hb];have gn:(H.new (rG e sz [] 0 false true true)).t.get H.nx=some (rG e sz [] 0 false true true):=ZR rfl _
 by_cases h0:ls.length=0
 ·have:ls=[]:=YF.1 h0
  subst this;refine .inl ⟨?_,rfl⟩;show Yx _ H.nx _=_;unfold Yx;rw[gn];show ZJ (Nat.beq sz sz) (cond (Nat.ble (0+0) (Wa ⟨e,sz,YN ([]:List AV),T.ofList [],.unk,0,false,true,true⟩ 0 none)) (KG _ _ _ _ _ _ _ _ _ _) _)=_;rw[YD,Zl,Zj (ZN _)];rfl
 ·refine .inr ⟨?_,λe=>h0 (by rw[e];rfl)⟩
  show Yx _ H.nx _=_;unfold Yx;rw[gn];have hcap:Wa ⟨e,sz,YN ([]:List AV),T.ofList [],.unk,0,false,true,true⟩ 0 none=0:=by
   show cond (Nat.beq sz 1) (0 - 0) ((0 - 0)/sz)=0;cases Nat.beq sz 1
   ·exact Q4 _
   ·rfl
  show ZJ (Nat.beq sz sz) (cond (Nat.ble (0+ls.length) (Wa ⟨e,sz,YN ([]:List AV),T.ofList [],.unk,0,false,true,true⟩ 0 none)) _ (NG _ e H.nx 0 0 ls.length sz bytes none ⟨e,sz,YN ([]:List AV),T.ofList [],.unk,0,false,true,true⟩ ls.flatten))=_;rw[YD,hcap,show Nat.ble (0+ls.length) 0=false by
   cases hq:Nat.ble (0+ls.length) 0 with
   |false=>rfl
   |true=>have:=ZS hq;omega]
  show ZJ (Nat.ble ((0+ls.length)*bytes) 140737488355328) (ZJ (Nat.ble (0+0*sz) 0) (ZJ (Nat.beq (0 % sz) 0) (OR.val (.slice (H.nx+1) 0 (0+ls.length) none) (Heap.newRow (H.new (rG e sz [] 0 false true true)) e sz (Vw _ 0 (0*sz)++ls.flatten) false))))=_;rw[Zl,Zj hl,Vl,Nat.zero_mod];rfl
def Ziz(k:IntKind)(a b:Int)(H:Heap):T2 XF Yt (.int k a) (.int k b) H=.val (.bool (decide (a<b))) H:=by
 show ZJ (PV k k) (S9 (rq a b) H)=_;rw[XG,TY,MN];rfl
def ZhX(k:IntKind)(a b:Int)(H:Heap):T2 U9 W1 (.int k a) (.int k b) H=.val (.bool (decide (b<a))) H:=by
 show ZJ (PV k k) (S9 (rq b a) H)=_;rw[XG,TY,MN];rfl
def Ziy(k:IntKind)(a:Int)(b:Nat)(H:Heap):T2 XF Yt (.int k a) (nI k b) H=.val (.bool (decide (a<(b:Int)))) H:=Ziz k a b H
def ZhW(k:IntKind)(a:Int)(b:Nat)(H:Heap):T2 U9 W1 (.int k a) (nI k b) H=.val (.bool (decide ((b:Int)<a))) H:=ZhX k a b H
def CM(s:Zd)(k:Nat)(G:Heap):ET (.str s) none (some (nI .i64 (min s.length k))) G=.val (.str (s.take k)) G:=by
 rw[Tj (Nat.min_le_left _ _)];congr 2;rw[Nat.min_comm,<-Sk,Vb]
def Wb{H:Heap}{w:AV}{e sz lo:Nat}{ls:List (List AV)}(h:TZ H w e sz ls lo):(∀n,H.nx<=n->WZ n w=true)∧(∀n T,Vo (.val w ⟨n,T,n⟩) w n=true)∧w.cells=[w]∧(∀b∈Xk w,lo<=b∧b<H.nx):=by
 rcases h with⟨_,rfl⟩|⟨_,b0,r0,rfl,rc,hl⟩
 ·exact⟨λ_ _=>rfl,λn T=>Sw n T,rfl,λb hb=>by cases hb⟩
 ·exact⟨λn hn=>Vh (by have:=rc.low;omega) _ _ _,λn T=>V3 ..,rfl,λb hb=>by rw[Zn.1 hb];exact⟨hl,rc.low⟩⟩
def J4(l:List NP)(p:NP):TN (l++[p])=TN l++[[.str p.1,.str p.2]]:=by unfold TN;rw[Xg];rfl
def Sz.lt{H:Heap}{sz:Nat}{v:AV}{ls:List (List AV)}(h:Sz H sz v ls): ∀b∈Xk v,b<H.nx:=by
 rcases h with⟨_,rfl⟩|⟨_,⟨_,rfl⟩|⟨b,o,c,rfl,hb,_⟩⟩
 ·intro b hb;cases hb
 ·intro b hb;cases hb
 ·intro b' hb';rw[Zn.1 hb'];exact hb
def Sz.move{H H':Heap}{sz:Nat}{v:AV}{ls:List (List AV)}{S:List Nat}(h:Sz H sz v ls)(k:Zu H H' S)(hS: ∀b∈Xk v,b∉S):Sz H' sz v ls:=
 h.keep k λb o n c e=>hS b (by rw[e];exact Zn.2 rfl)
def gQ(l:Zd)(k:Nat):(ML l).take k=ML (l.take k):=by unfold ML;rw[List.map_take]
def oi{α:Type}(l:List α)(k:Nat):l.take (min l.length k)=l.take k:=by
 rw[Nat.min_comm,<-Sk,Vb]
def GB(H:Heap)(v:AV)(l:Zd)(lo:Nat):Prop:=(v=.nils∧l=[])∨ ∃b sm,v=.slice b 0 l.length none∧lo<=b∧b<H.nx∧H.ro<=b∧H.t.get b=some (rG 5 1 (l.map Vk) 0 sm true false)
def GB.nil(H:Heap)(lo:Nat):GB H .nils [] lo:=.inl ⟨rfl,rfl⟩
def GB.keep{H H':Heap}{v:AV}{l:Zd}{lo:Nat}{S:List Nat}(h:GB H v l lo)(k:Zu H H' S)(hS: ∀b∈Xk v,b∉S):GB H' v l lo:=by
 rcases h with h|⟨b,sm,rfl,h1,h2,h3,h4⟩
 ·exact .inl h
 ·exact .inr ⟨b,sm,rfl,h1,ZK h2 k.nx,by rw[k.ro];exact h3,by rw[k.get b h2 (hS b (Zw ..))];exact h4⟩
def GB.blk{H:Heap}{v:AV}{l:Zd}{lo:Nat}(h:GB H v l lo): ∀b∈Xk v,lo<=b∧b<H.nx:=by
 rcases h with⟨rfl,_⟩|⟨b,sm,rfl,h1,h2,_⟩
 ·intro b hb;cases hb
 ·intro c hc
  obtain rfl:c=b:=by simpa [Xk] using hc
  exact⟨h1,h2⟩
def GB.len{H:Heap}{v:AV}{l:Zd}{lo:Nat}(h:GB H v l lo)(G:Heap):Kq v G=.val (nI .i64 l.length) G:=by
 rcases h with⟨rfl,rfl⟩|⟨b,sm,rfl,_⟩
 ·rfl
 ·exact WH ..
def GB.low{H:Heap}{v:AV}{l:Zd}{lo:Nat}(h:GB H v l lo){n:Nat}(hn:H.nx<=n):WZ n v=true:=by
 rcases h with⟨rfl,rfl⟩|⟨b,sm,rfl,_,h2,_⟩
 ·rfl
 ·exact Vh (by omega) ..
def GB.same{H:Heap}{v:AV}{l:Zd}{lo:Nat}(h:GB H v l lo)(n:Nat)(t:T Obj):Vo (.val v ⟨n,t,n⟩) v n=true:=by
 rcases h with⟨rfl,rfl⟩|⟨b,sm,rfl,_⟩
 ·exact Sw ..
 ·exact V3 ..
def GB.cells{H:Heap}{v:AV}{l:Zd}{lo:Nat}(h:GB H v l lo):v.cells=[v]:=by
 rcases h with⟨rfl,rfl⟩|⟨b,sm,rfl,_⟩<;>rfl
def uj{l:Zd}{i:Nat}(hi:i<l.length):(l.map Vk).getD i .unk=Vk (l.getD i 0):=by
 rw[Ze,Z3,Ze,Zm hi];rfl
def E7{H:Heap}{b e a n fz:Nat}{sm own ex:Bool}{c:Option Nat}{l:Zd}(g:H.t.get b=some (rG e 1 (l.map Vk) fz sm own ex))(hb:b<H.nx)(h0:0<n)(ha:a+n<=l.length)(hc: ∀k,c=some k->n<=k∧a+k<=l.length):BV H (.slice b a n c) ((l.drop a).take n):=by
 have hl:((l.drop a).take n).length=n:=by rw[Zy,Ye];omega
 have hs:YN (l.map Vk)=l.length:=by rw[Yw,Zx]
 refine .inr ⟨λh=>by rw[h] at hl;have:0=n:=hl;omega,b,a,c,_,by rw[hl],⟨g,rfl,?_,λi hi=>?_,λk hk=>?_⟩,hb⟩
 ·rw[hl];show a+n<=YN (l.map Vk);rw[hs];exact ha
 ·rw[hl] at hi
  rw[EL,uj (by omega),Ze,Ze,Yu hi,Y8]
 ·rw[hl]
  show n<=k∧a+k<=YN (l.map Vk);rw[hs];exact hc k hk
def GB.bv{H:Heap}{v:AV}{l:Zd}{lo:Nat}(h:GB H v l lo):BV H v l:=by
 rcases h with⟨rfl,rfl⟩|⟨b,sm,rfl,_,h2,_,h4⟩
 ·exact .inl ⟨rfl,.inl rfl⟩
 ·by_cases h0:l=[]
  ·exact .inl ⟨h0,.inr ⟨_,_,_,by subst h0;rfl⟩⟩
  ·have:=E7 (a:=0) (n:=l.length) (c:=none) h4 h2 (by rcases l with _|_;exact absurd rfl h0;exact RL _) (by omega) (λk hk=>by cases hk)
   rwa [YL,Vb] at this
def Ei{H:Heap}{v:AV}{l:Zd}{lo:Nat}(h:GB H v l lo)(hlo:lo<=H.nx)(hro:H.ro<=H.nx)(m:Zd)(hl:l.length+m.length<=140737488355328):
  ∃v' H',Oh v 5 1 1 H m.length (m.map Vk)=.val v' H'∧GB H' v' (l++m) lo∧Zu H H' (Xk v)∧(∀b∈Xk v',b∈Xk v∨H.nx<=b):=by
 rcases h with⟨rfl,rfl⟩|⟨b,sm,rfl,h1,h2,h3,h4⟩
 ·by_cases h0:m=[]
  ·subst h0
   exact⟨.nils,H,rfl,.inl ⟨rfl,rfl⟩,Zu.refl _ _,λb hb=>by cases hb⟩
  ·have hp:0<m.length:=by rcases m with _|_;exact absurd rfl h0;exact RL _
   refine⟨.slice H.nx 0 m.length none,H.newRow 5 1 (m.map Vk) false,?_,.inr ⟨H.nx,false,rfl,hlo,ZU _,hro,?_⟩,by rw[NA];exact Zu.new _ _ _,λb hb=>.inr ?_⟩
   ·have:=tE (e:=5) (H:=H) (l:=m.map Vk) (by rw[Zx];exact hp) (by rw[Zx];simpa using hl)
    rwa [Zx] at this
   ·rw[NA];exact ZR rfl _
   ·obtain rfl:b=H.nx:=by simpa [Xk] using hb
    exact Zs _
 ·have hs:YN (l.map Vk)=l.length:=by rw[Yw,Zx]
  have hrow: ∀k:Row->OR,Yx H b k=k ⟨5,1,YN (l.map Vk),T.ofList (l.map Vk),.unk,0,sm,true,false⟩:=λk=>by
   unfold Yx;rw[h4];rfl
  have hcap:Wa ⟨5,1,YN (l.map Vk),T.ofList (l.map Vk),.unk,0,sm,true,false⟩ 0 none=l.length:=by
   show cond (Nat.beq 1 1) (YN (l.map Vk) - 0) (Nat.div (YN (l.map Vk) - 0) 1)=_;rw[hs];rfl
  by_cases h0:m=[]
  ·subst h0
   refine⟨.slice b 0 l.length none,H,?_,.inr ⟨b,sm,by rw[ZM],h1,h2,h3,by rw[ZM];exact h4⟩,Zu.refl _ _,λc hc=>.inl hc⟩;show Yx H b (λr=>ZJ (Oa r 1 none) (cond (Nat.ble (Nat.add l.length 0) (Wa r 0 none)) (KG H (.slice b 0 l.length none) b 0 l.length 0 1 none r []) (NG H 5 b 0 l.length 0 1 1 none r [])))=_;rw[hrow,hcap];show ZJ true (cond (Nat.ble (l.length+0) l.length) (OR.val (.slice b 0 l.length none) H) _)=_;rw[Zo,Zj (Zs _)];rfl
  ·have hp:0<m.length:=by rcases m with _|_;exact absurd rfl h0;exact RL _
   have S5:H.may ⟨5,1,YN (l.map Vk),T.ofList (l.map Vk),.unk,0,sm,true,false⟩ b=true:=by unfold Heap.may;rw[Zj h3];rfl
   refine⟨.slice H.nx 0 (l.length+m.length) none,⟨Nat.succ H.nx,(H.t.del b).set H.nx (rG 5 1 ((l++m).map Vk) 0 sm true false),H.ro⟩,?_,.inr ⟨H.nx,sm,by rw[Zh],hlo,ZU _,hro,by rw[T.get_set,if_pos rfl]⟩,⟨Ve _,rfl,λc hc hn=>?_⟩,λc hc=>.inr ?_⟩
   ·show Yx H b (λr=>ZJ (Oa r 1 none) (cond (Nat.ble (Nat.add l.length m.length) (Wa r 0 none)) (KG H (.slice b 0 l.length none) b 0 l.length m.length 1 none r (m.map Vk)) (NG H 5 b 0 l.length m.length 1 1 none r (m.map Vk))))=_
    rw[hrow,hcap];have h5:Nat.ble (Nat.add l.length m.length) l.length=false:=by
     cases h:Nat.ble (Nat.add l.length m.length) l.length with
     |false=>rfl
     |true=>have:=ZS h;have:l.length+m.length<=l.length:=this;omega
    rw[h5];show ZJ (Nat.ble ((l.length+m.length)*1) 140737488355328) (ZJ (Nat.ble (0+l.length*1) (YN (l.map Vk))) (ZJ (Nat.beq 5 5) (ZJ (H.may _ b) (ZJ (Nat.ble 0 (l.length*1)) (ZJ (Nat.beq (l.length*1) (YN (l.map Vk))) (ZJ (Nat.beq 0 0) _))))))=_;rw[S5,Y6,Y6,Zl,Zj hl,hs,Zj (Zs _),Zj (ZN _),show Nat.beq l.length l.length=true from YD _];show OR.val (.slice H.nx 0 (l.length+m.length) none) ⟨Nat.succ H.nx,(H.t.del b).set H.nx (.row ⟨5,1,(l.length+m.length)*1,XV (T.ofList (l.map Vk)) (l.length*1) (m.map Vk),.unk,0,sm,true,false⟩),H.ro⟩=_;have hst:=D6 (l.map Vk) (m.map Vk);rw[Zx] at hst;rw[Y6,Y6,hst,Xg];unfold rG;rw[Yw,Zh,Zx,Zx]
   ·have hcb:c≠b:=λh=>hn (by rw[h];exact Zw ..)
    show((H.t.del b).set H.nx _).get c=_;rw[T.get_set,if_neg (by omega),T.get_del,if_neg (λh=>hcb h.symm)]
   ·obtain rfl:c=H.nx:=by simpa [Xk] using hc
    exact Zs _
def Zfb{H:Heap}(m:Zd):Src H (.str m) (m.map Vk):=by
 intro k;show(cond (Nat.beq (YN m) 0) (k (YN m) []) (ZJ (Nat.beq 1 1) (k (YN m) (Hz (Lj (YN m) m)))))=_;rw[Yw,Zx,OP,Vb,Fj];cases m with
 |nil=>rfl
 |cons a m=>rfl
def nK{H:Heap}{v:AV}{l:Zd}{lo:Nat}(h:GB H v l lo)(hlo:lo<=H.nx)(hro:H.ro<=H.nx)(m:Zd)(hl:l.length+m.length<=140737488355328):
  ∃v' H',TH 5 1 1 v (.str m) H=.val v' H'∧GB H' v' (l++m) lo∧Zu H H' (Xk v)∧(∀b∈Xk v',b∈Xk v∨H.nx<=b):=by
 obtain⟨v',H',e,r⟩:=Ei h hlo hro m hl;refine⟨v',H',?_,r⟩;rw[Oi (by decide) (Zfb m),Zx];exact e
def Iy{H:Heap}{v w:AV}{l m:Zd}{lo:Nat}(h:GB H v l lo)(hw:BV H w m)(hlo:lo<=H.nx)(hro:H.ro<=H.nx)(hl:l.length+m.length<=140737488355328):
  ∃v' H',TH 5 1 1 v w H=.val v' H'∧GB H' v' (l++m) lo∧Zu H H' (Xk v)∧(∀b∈Xk v',b∈Xk v∨H.nx<=b):=by
 obtain⟨v',H',e,r⟩:=Ei h hlo hro m hl;refine⟨v',H',?_,r⟩;rw[Oi (by decide) hw.src,Zx];exact e
def ZgX(e sz bytes:Nat)(zs:List AV)(x y:AV)(H:Heap):OR:=ZJ (Nat.ble 1 sz)<|ZJ (Nat.ble 1 bytes)<|SA y λn=>ZJ (Nat.ble (Nat.mul n bytes) 140737488355328)<|Oh x e sz bytes H n (List.replicate n zs).flatten
def Oz(x y:WI)(e sz bytes:Nat)(zs:List AV)(tm:TM)(H:Heap):Oy x y e sz bytes zs tm H=ZgX e sz bytes zs (x tm) (y tm) H:=rfl
theorem uK: ∀n:Nat,(List.replicate n [nI .u8 0]).flatten=(List.replicate n (0:UInt8)).map Vk
 |0=>rfl
 |n+1=>by rw[XY,XY,XC,uK n];rfl
def Cs{H:Heap}{v:AV}{l:Zd}{lo:Nat}(h:GB H v l lo)(hlo:lo<=H.nx)(hro:H.ro<=H.nx)(n:Nat)(hl:l.length+n<=140737488355328):
  ∃v' H',ZgX 5 1 1 [nI .u8 0] v (nI .i64 n) H=.val v' H'∧GB H' v' (l++List.replicate n 0) lo∧Zu H H' (Xk v)∧(∀b∈Xk v',b∈Xk v∨H.nx<=b):=by
 obtain⟨v',H',e,r⟩:=Ei h hlo hro (List.replicate n 0) (by rw[ZB];exact hl);rw[ZB] at e;refine⟨v',H',?_,r⟩;show ZJ (Nat.ble (n*1) 140737488355328) (Oh v 5 1 1 H n (List.replicate n [nI .u8 0]).flatten)=_;rw[Y6,Zj (by omega),uK];exact e
def aN{H:Heap}{s:Zd}(hro:H.ro<=H.nx){lo:Nat}(hlo:lo<=H.nx)(sm:Bool):GB (H.new (rG 5 1 (s.map Vk) 0 sm true false)) (.slice H.nx 0 s.length none) s lo:=
 .inr ⟨H.nx,sm,rfl,hlo,ZU _,hro,ZR rfl _⟩
def yd(l:Zd)(a:Nat)(w:Zd):Zd:=l.take a++(w++l.drop (a+w.length))
def pJ{l w:Zd}{a:Nat}(h:a+w.length<=l.length):(yd l a w).length=l.length:=by
 unfold yd;rw[Zh,Zh,Zy,Ye];omega
def Ok{r:Row}{l new:List AV}{o:Nat}(hc:Cells r l)(ho:o+new.length<=l.length):Cells (r.setCells (XV r.cells o new)) (l.take o++(new++l.drop (o+new.length))):=by
 have hlen:(l.take o++(new++l.drop (o+new.length))).length=l.length:=by
  rw[Zh,Zh,Zy,Ye];omega
 refine⟨by rw[hlen];exact hc.size,λi hi=>?_⟩;rw[hlen] at hi;have h1:=hc.get i hi;rw[Row.get_eq] at h1 ⊢;show((XV r.cells o new).get i).getD r.dflt=_;rw[SM,Ze]
 by_cases hA:i<o
 ·rw[if_neg (by omega),h1,Ze,ZW (by rw[Zy];omega),Yu hA]
 ·rw[Z0 (by rw[Zy];omega),Zy,Xy (by omega)]
  by_cases hB:i<o+new.length
  ·rw[if_pos (by omega),ZW (by omega),Zm (by omega)];rfl
  ·rw[if_neg (by omega),h1,Ze,Z0 (by omega),Y8]
   congr 2;omega
def Mv{H:Heap}{b o c q n dn sn:Nat}{e1 e2:Option Nat}{r s:Row}{l m:List AV}(hr:H.t.get b=some (.row r))(hc:Cells r l)(how:r.own=true)(hro:H.ro<=b)(hfz:r.fz=0)
  (hs:H.t.get c=some (.row s))(hm:Cells s m)(hn:O3 dn sn=n)(h0:0<n)(ho:o+n<=l.length)(hq:q+n<=m.length):
  ∃r',yA 1 (.slice b o dn e1) (.slice c q sn e2) H=.val (nI .i64 n) (H.put b (.row r'))∧Cells r' (l.take o++((m.drop q).take n++l.drop (o+n)))∧r'.own=true∧r'.fz=0∧r'.sz=r.sz:=by
 have hl:((m.drop q).take n).length=n:=by rw[Zy,Ye];omega
 have hcs:=Ok (o:=o) (new:=(m.drop q).take n) hc (by rw[hl];exact ho);rw[hl] at hcs;refine⟨_,?_,hcs,how,hfz,rfl⟩;show Ts (O3 dn sn) (λn=>Ww H 1 (.slice c q _ e2) n λnew=>cond (Nat.beq n 0) (.val (.int .i64 0) H) (Yx H b λr=>ZJ (H.may r b) (ZJ (Nat.ble r.fz o) (ZJ (Nat.ble (o+n*1) r.size) (.val (.int .i64 (.ofNat n)) (H.put b (.row (r.setCells (XV r.cells o new)))))))))=_;have e2:Nat.beq n 0=false:=by rw[Yl];exact Zc (by omega)
 have h1:H.may r b=true:=by unfold Heap.may;rw[how,Zj hro];rfl
 rw[Sm,hn];unfold Ww;rw[e2];simp only[cond_false];unfold Yx;rw[hs,hr];simp only[Y6];show ZJ (Nat.ble (q+n*1) s.size) _=_;rw[Y6,hm.size,Zj hq,show Nat.mul n 1=n from Y6 n,hm.load hq,h1,hfz,Zj (ZN _),hc.size,Zj ho];rfl
def bG{H:Heap}{b a n:Nat}{e1:Option Nat}{l w:Zd}{v:AV}{r:Row}(hr:H.t.get b=some (.row r))(hc:Cells r (l.map Vk))(how:r.own=true)(hfz:r.fz=0)(hro:H.ro<=b)(hw:BV H v w)(hn:w.length=n)(h0:0<n)(ha:a+n<=l.length):
  ∃r',yA 1 (.slice b a n e1) v H=.val (nI .i64 n) (H.put b (.row r'))∧Cells r' ((yd l a w).map Vk)∧r'.own=true∧r'.fz=0∧r'.sz=r.sz:=by
 have hne:w≠[]:=λh=>by rw[h] at hn;have:0=n:=hn;omega
 rcases hw with⟨h,_⟩|⟨_,q,o,c,s,rfl,hB,hlt⟩
 ·exact absurd h hne
 have hcs:=Ok (o:=a) (new:=w.map Vk) hc (by rw[Zx,Zx];omega);have hm:(l.map Vk).take a++(w.map Vk++(l.map Vk).drop (a+(w.map Vk).length))=(yd l a w).map Vk:=by
  unfold yd;rw[Zx,Xg,Xg,List.map_take,List.map_drop]
 rw[hm] at hcs;refine⟨_,?_,hcs,how,hfz,rfl⟩;rw[hn];show Ts (O3 n n) (λn=>Ww H 1 (.slice q o _ c) n λnew=>cond (Nat.beq n 0) (.val (.int .i64 0) H) (Yx H b λr=>ZJ (H.may r b) (ZJ (Nat.ble r.fz a) (ZJ (Nat.ble (a+n*1) r.size) (.val (.int .i64 (.ofNat n)) (H.put b (.row (r.setCells (XV r.cells a new)))))))))=_;have e':O3 n n=n:=by unfold O3;rw[Zj (Zs _)];rfl
 have e2:Nat.beq n 0=false:=by rw[Yl];exact Zc (by omega)
 have h1:H.may r b=true:=by unfold Heap.may;rw[how,Zj hro];rfl
 have hnew:Vw s o n=w.map Vk:=by
  refine Y7 λj=>?_
  by_cases hj:j<n
  ·rw[Sp s _ o j hj,hB.get j (by omega),Z3,Ze,Zm (by omega)];rfl
  ·rw[Z8 (by rw[UV];omega),Z8 (by rw[Zx];omega)]
 rw[Sm,e'];unfold Ww;rw[e2];simp only[cond_false];unfold Yx;rw[hB.at_,hr];simp only[Y6];show ZJ (Nat.ble (o+n*1) s.size) (ZJ (H.may r b) (ZJ (Nat.ble r.fz a) (ZJ (Nat.ble (a+n) r.size) (.val (.int .i64 (.ofNat n)) (H.put b (.row (r.setCells (XV r.cells a (Vw s o (n*1))))))))))=_;rw[Y6,hnew,Zj (by have:=hB.fits;omega),h1,hfz,Zj (ZN _),hc.size,Zx,Zj ha];rfl
structure HR(H:Heap)(b:Nat)(l:Zd):Prop where
 row: ∃r,H.t.get b=some (.row r)∧Cells r (l.map Vk)∧r.own=true∧r.fz=0∧r.sz=1
 len:l.length=512
 lt:b<H.nx
 ro:H.ro<=b
def HR.keep{H H':Heap}{b:Nat}{l:Zd}{S:List Nat}(h:HR H b l)(k:Zu H H' S)(hS:b∉S):HR H' b l:=by
 obtain⟨⟨r,h1,h2⟩,h3,h4,h5⟩:=h;exact⟨⟨r,by rw[k.get b h4 hS];exact h1,h2⟩,h3,ZK h4 k.nx,by rw[k.ro];exact h5⟩
def HR.keep0{H H':Heap}{b:Nat}{l:Zd}(h:HR H b l)(k:Zu H H' []):HR H' b l:=h.keep k (by simp)
def cZ{H:Heap}{b a n:Nat}{c:Option Nat}{r:Row}{l:Zd}(g:H.t.get b=some (.row r))(hc:Cells r (l.map Vk))(hz:r.sz=1)(hb:b<H.nx)(h0:0<n)(ha:a+n<=l.length)(hk: ∀k,c=some k->n<=k∧a+k<=l.length):BV H (.slice b a n c) ((l.drop a).take n):=by
 have hl:((l.drop a).take n).length=n:=by rw[Zy,Ye];omega
 refine .inr ⟨λh=>by rw[h] at hl;have:0=n:=hl;omega,b,a,c,r,by rw[hl],⟨g,hz,by rw[hl,hc.size,Zx];exact ha,λi hi=>?_,λk hh=>?_⟩,hb⟩
 ·rw[hl] at hi
  rw[hc.get _ (by rw[Zx];omega),uj (by omega),Ze,Ze,Yu hi,Y8]
 ·rw[hl,hc.size,Zx];exact hk k hh
def iy(a y z:AV)(H:Heap):OR:=Tt 1 (λ_=>a) none (some λ_=>y) (some λ_=>z) ot H
def mB(x y z:WI)(tm:TM)(H:Heap):Tt 1 x none (some y) (some z) tm H=iy (x tm) (y tm) (z tm) H:=rfl
def lf(e N:Nat):Cells ⟨e,1,N,.leaf,.unk,0,false,true,false⟩ (List.replicate N .unk):=by
 refine⟨by rw[ZB],λi hi=>?_⟩;rw[ZB] at hi;rw[Row.get_eq,Ze,XJ,if_pos hi];show(T.leaf.get i).getD AV.unk=AV.unk;rw[T.get_leaf];rfl
def tQ{H:Heap}{b n:Nat}{c:Option Nat}{r:Row}{l:Zd}(g:H.t.get b=some (.row r))(hc:Cells r (l.map Vk))(hz:r.sz=1)(hb:b<H.nx)(hn:n=l.length)(hk: ∀k,c=some k->n<=k∧k<=l.length):BV H (.slice b 0 n c) l:=by
 subst hn
 by_cases h0:l=[]
 ·subst h0;exact .inl ⟨rfl,.inr ⟨_,_,_,rfl⟩⟩
 ·refine .inr ⟨h0,b,0,c,r,rfl,⟨g,hz,by rw[hc.size,Zx];omega,λi hi=>?_,λk h=>?_⟩,hb⟩
  ·rw[Zl,hc.get i (by rw[Zx];exact hi),uj hi]
  ·rw[hc.size,Zx];have:=hk k h;omega
section
variable {Zq:Lib} {fs:T CF} {Zk k n i h b:Nat} {H H0:Heap} {s:Zd} {cs:List AV}
def iJ{sz:Nat}{v:AV}{ls:List (List AV)}(h:Sz H sz v ls):(∀G,NL kV false v .nils G=.val (.bool false) G)∨(v=.nils∧ls=[]):=by
 rcases h with⟨_,rfl⟩|⟨_,⟨e,rfl⟩|⟨b,o,c,rfl,hb,_⟩⟩
 ·exact .inl λ_=>rfl
 ·exact .inr ⟨rfl,e⟩
 ·exact .inl λ_=>rfl
def kW(G:Heap):NL kV false .nils .nils G=.val (.bool true) G:=rfl
def Nu(l:Zd):(ML l).flatten=l.map Vk:=by
 induction l with
 |nil=>rfl
 |cons a l ih=>
  show [Vk a]++(ML l).flatten=_;rw[ih];rfl
def cY{e:Nat}{l:Zd}(h:l≠[])(ex:Bool):BV (H.new (rG e 1 (l.map Vk) 0 false true ex)) (.slice H.nx 0 l.length none) l:=by
 refine .inr ⟨h,H.nx,0,none,⟨e,1,YN (l.map Vk),T.ofList (l.map Vk),.unk,0,false,true,ex⟩,rfl,⟨ZR rfl _,rfl,?_,λi hi=>?_,λk hk=>by cases hk⟩,ZU _⟩
 ·show 0+l.length<=YN (l.map Vk)
  rw[Yw,Zx];omega
 ·rw[Zl,EL,Ze,Z3,Ze,Zm hi];rfl
def ZgY(E:Env Zq fs Zk){v:AV}{l:Zd}(h:Sz H 1 v (ML l))(hl:l.length<=90000):
  ∃v' H',ZA (LK Zq fs Zk k) fs Zk (n+1) 64 [v] H=.ret v' H'∧BV H' v' l∧Zu H H' []∧ ∀b o m c,v'=.slice b o m c->H.nx<=b∧b<H'.nx:=by
 rw[Z5 E.f64 (.inr rfl)];rcases iJ h with en|⟨rfl,e0⟩
 ·have bs:US 5 1 0 (List.replicate 0 [nI .u8 0]).flatten [] H=.val (.slice H.nx 0 0 none) (H.new (rH 5 [])):=rfl
  have hk:Zu H (H.new (rH 5 [])) []:=Zu.new _ _ _;rcases kO (e:=5) (bytes:=1) h (by decide) (by decide) (by rw[U2];omega) with⟨ea,e0⟩|⟨ea,e0⟩
  ·have hz:l=[]:=by
    cases l with
    |nil=>rfl
    |cons a l=>cases e0
   simp only[en,bs,ea,YO,Ys,ZO,YO,Ys,ZO,c64,ZG,Yj,Zz,Yg];exact⟨_,_,rfl,.inl ⟨hz,.inr ⟨_,_,_,rfl⟩⟩,hk,λb o m c e=>by cases e;exact⟨Zs _,ZU _⟩⟩
  ·rw[Nu,U2] at ea
   have hne:l≠[]:=λe=>e0 (by rw[e];rfl);simp only[en,bs,ea,YO,Ys,ZO,YO,Ys,ZO,c64,ZG,Yj,Zz,Yg];exact⟨_,_,rfl,cY (H:=H.new (rH 5 [])) hne false,hk.then_new _,λb o m c e=>by cases e;exact⟨Ve _,ZU _⟩⟩
 ·have hz:l=[]:=by
   cases l with
   |nil=>rfl
   |cons a l=>cases e0
  simp only[kW,c64,ZG,Yj,Zz,Yg];exact⟨_,_,rfl,.inl ⟨hz,.inl rfl⟩,Zu.refl _ _,λb o m c e=>by cases e⟩
def Zck{v:AV}{l:Zd}(h:Sz H 1 v (ML l)):lI v H=.val (.str l) H:=by
 rcases h with⟨e0,rfl⟩|⟨_,⟨e0,rfl⟩|⟨b,o,c,rfl,hb,h2⟩⟩
 ·have hz:l=[]:=by
   cases l with
   |nil=>rfl
   |cons a l=>cases e0
  subst hz;rfl
 ·have hz:l=[]:=by
   cases l with
   |nil=>rfl
   |cons a l=>cases e0
  subst hz;rfl
 ·rw[U2]
  by_cases h0:l=[]
  ·subst h0;rfl
  ·obtain⟨r,h3,h4,h5⟩:=h2 (λe=>h0 (by
    cases l with
    |nil=>rfl
    |cons a l=>cases e))
   rw[U2,Y6] at h4 h5;refine JD h3 rfl h4 λi hi=>?_;rw[h5 i hi,Nu,Ze,Z3,Ze,Zm hi];rfl
def Bd{v:AV}{l:Zd}(h:BV H v l)(hb: ∀b o n c,v=.slice b o n c->b<H.nx):Sz H 1 v (ML l):=by
 refine .inr ⟨λx hx=>?_,?_⟩
 ·unfold ML at hx
  obtain⟨a,_,rfl⟩:=YC.1 hx;rfl
 ·rcases h with⟨rfl,rfl|⟨b,o,c,rfl⟩⟩|⟨hne,b,o,c,r,rfl,hB,hlt⟩
  ·exact .inl ⟨rfl,rfl⟩
  ·exact .inr ⟨b,o,c,rfl,hb _ _ _ _ rfl,λh=>absurd rfl h⟩
  ·refine .inr ⟨b,o,c,by rw[U2],hlt,λ_=>⟨r,hB.at_,by rw[U2,Y6];exact hB.fits,λi hi=>?_⟩⟩
   rw[U2,Y6] at hi;rw[hB.get i hi,Nu,Ze,Ze,Z3,Zm hi];rfl
structure Rd(H:Heap)(v:AV)(l:Zd):Prop where
 len: ∀G,Kq v G=.val (nI .i64 l.length) G
 at_: ∀i,i<l.length-> ∃b o r,(∀(k:IntKind) (G:Heap),Dv 1 v (nI k i) G=.val (.ptr b o) G)∧b<H.nx∧H.t.get b=some (.row r)∧ ∀G,ld1 (some (.row r)) o G=.val (Vk (l.getD i 0)) G
def Zdk{l:Zd}(h:i<l.length):(ML l).getD i []=[Vk (l.getD i 0)]:=by
 unfold ML;rw[Ze,Z3,Ze,Zm h];rfl
def Rd.of_sz{v:AV}{l:Zd}(h:Sz H 1 v (ML l)):Rd H v l:=by
 have ln:=h.len;rw[U2] at ln;refine⟨ln,λi hi=>?_⟩;obtain⟨b,o,r,eI,hb,gb,_,eE⟩:=h.at_ (i:=i) (by rw[U2];omega);exact⟨b,o,r,eI,hb,gb,λG=>by
  have:=eE 0 G (by decide)
  rw[Zdk hi] at this;exact this⟩
def Rd.of_bv{v:AV}{l:Zd}(h:BV H v l):Rd H v l:=by
 by_cases h0:l=[]
 ·subst h0
  exact⟨h.len,λi hi=>by cases hi⟩
 ·refine Rd.of_sz (Bd h λb o n c e=>?_)
  rcases h with⟨e2,_⟩|⟨_,b',o',c',r',e2,_,hlt⟩
  ·exact absurd e2 h0
  ·rw[e] at e2;cases e2;exact hlt
def fEs:List Ss:=[⟨.str [99,104,107,115,117,109],.agg [nI .i64 148,nI .i64 8],0⟩,⟨.str [100,101,118,109,97,106,111,114],.agg [nI .i64 329,nI .i64 8],0⟩,⟨.str [100,101,118,109,105,110,111,114],.agg [nI .i64 337,nI .i64 8],0⟩,⟨.str [103,105,100],.agg [nI .i64 116,nI .i64 8],0⟩,⟨.str [103,110,97,109,101],.agg [nI .i64 297,nI .i64 32],0⟩,⟨.str [108,105,110,107,110,97,109,101],.agg [nI .i64 157,nI .i64 100],0⟩,⟨.str [109,97,103,105,99],.agg [nI .i64 257,nI .i64 6],0⟩,⟨.str [109,111,100,101],.agg [nI .i64 100,nI .i64 8],0⟩,⟨.str [109,116,105,109,101],.agg [nI .i64 136,nI .i64 12],0⟩,⟨.str [110,97,109,101],.agg [nI .i64 0,nI .i64 100],0⟩,⟨.str [112,114,101,102,105,120],.agg [nI .i64 345,nI .i64 155],0⟩,⟨.str [115,105,122,101],.agg [nI .i64 124,nI .i64 12],0⟩,⟨.str [116,121,112,101],.agg [nI .i64 156,nI .i64 1],0⟩,⟨.str [117,105,100],.agg [nI .i64 108,nI .i64 8],0⟩,⟨.str [117,110,97,109,101],.agg [nI .i64 265,nI .i64 32],0⟩,⟨.str [118,101,114,115,105,111,110],.agg [nI .i64 263,nI .i64 2],0⟩]
structure V8(H:Heap):Prop where
 p:Nc H
 g:Qw H
 f: ∃r,H.t.get 3=some (.row r)∧0<r.size∧r.get 0=.map 15
 fm:H.t.get 15=some (.cmap fEs)
def V8.keep{H H':Heap}{S:List Nat}(g:V8 H)(k:Zu H H' S)(hS: ∀x∈S,100<=x):V8 H':=by
 obtain⟨a,b,⟨r,c1,c2,c3⟩,d⟩:=g;have kk:=λx (hx:x<100)=>k.get x (by have:=a.nx;omega) (λh=>by have:=hS x h;omega);exact⟨a.keep k hS,b.keep k hS,⟨r,by rw[kk _ (by decide)];exact c1,c2,c3⟩,by rw[kk _ (by decide)];exact d⟩
def V8.keep0{H H':Heap}(g:V8 H)(k:Zu H H' []):V8 H':=g.keep k (by simp)
def Zu.more{H H':Heap}{S:List Nat}(k:Zu H H' []):Zu H H' S:=⟨k.nx,k.ro,λc hc _=>k.get c hc (by simp)⟩
structure CQ(nm:Zd)(a l:Nat):Prop where
 lk: ∀G,lkO QJ (.agg [nI .i64 0,nI .i64 0]) true (some (.cmap fEs)) (.str nm) G=.val (.tup [.agg [nI .i64 a,nI .i64 l],.bool true]) G
 pos:1<=l
 le:a+l<=512
def By:CQ [99,104,107,115,117,109] 148 8:=⟨λG=>by kernel_rfl,by decide,by decide⟩
def aw:CQ [103,105,100] 116 8:=⟨λG=>by kernel_rfl,by decide,by decide⟩
def Bz:CQ [108,105,110,107,110,97,109,101] 157 100:=⟨λG=>by kernel_rfl,by decide,by decide⟩
def jf:CQ [109,97,103,105,99] 257 6:=⟨λG=>by kernel_rfl,by decide,by decide⟩
def vM:CQ [109,111,100,101] 100 8:=⟨λG=>by kernel_rfl,by decide,by decide⟩
def vN:CQ [109,116,105,109,101] 136 12:=⟨λG=>by kernel_rfl,by decide,by decide⟩
def nA:CQ [110,97,109,101] 0 100:=⟨λG=>by kernel_rfl,by decide,by decide⟩
def sI:CQ [112,114,101,102,105,120] 345 155:=⟨λG=>by kernel_rfl,by decide,by decide⟩
def BA:CQ [115,105,122,101] 124 12:=⟨λG=>by kernel_rfl,by decide,by decide⟩
def nC:CQ [116,121,112,101] 156 1:=⟨λG=>by kernel_rfl,by decide,by decide⟩
def ax:CQ [117,105,100] 108 8:=⟨λG=>by kernel_rfl,by decide,by decide⟩
def gY:CQ [118,101,114,115,105,111,110] 263 2:=⟨λG=>by kernel_rfl,by decide,by decide⟩
def Zjs{l:Nat}(hlh:l<h)(hh:h<=n)(b o:Nat)(k j:IntKind)(H:Heap):O5 n 1 (.ptr b o) (some (nI k l)) (some (nI j h)) H=.val (.slice b (o+l) (h - l) (some (n - l))) H:=lr (by omega) (by omega) hh b o k j H
def Fz(E:Env Zq fs Zk){nm:Zd}{a l:Nat}(gH:V8 H)(F:CQ nm a l)(hb:b<H.nx):
  ∃H',ZA (LK Zq fs Zk k) fs Zk (n+1) 63 [.ptr b 0,.str nm] H=.ret (.slice b a l (some (512 - a))) H'∧Zu H H' []:=by
 rw[Z5 E.f63 (.inr rfl)];obtain⟨r,g1,g2,g3⟩:=gH.f;have g4:=gH.fm;have hlk:=F.lk;have h1:=F.pos;have h2:=F.le;have h3:=gH.p.nx;have h4:=gH.p.ro;have ld: ∀G,ld1 (some (.row r)) 0 G=.val (.map 15) G:=λG=>by rw[Qt g2,g3]
 have eqp: ∀(o:Nat) G,NL zT false (.ptr b o) .nilp G=.val (.bool false) G:=λ_ _=>rfl;have stS: ∀(G:Heap),G.ro<=H.nx->F3 2 (some (rH 133 [nI .i64 0,nI .i64 0])) H.nx 0 (.agg [nI .i64 a,nI .i64 l]) G=.val Y9 (G.put H.nx (rH 133 [nI .i64 a,nI .i64 l])):=λG hG=>TL (l:=[nI .i64 0,nI .i64 0]) (vs:=[nI .i64 a,nI .i64 l]) rfl rfl (by decide) hG _ _ _ _;have i0: ∀G:Heap,rp 2 1 (.ptr H.nx 0) (nI .i64 0) G=.val (.ptr H.nx 0) G:=λG=>rfl;have i1: ∀G:Heap,rp 2 1 (.ptr H.nx 0) (nI .i64 1) G=.val (.ptr H.nx 1) G:=λG=>rfl;have l0: ∀G,ld1 (some (rH 133 [nI .i64 a,nI .i64 l])) 0 G=.val (nI .i64 a) G:=λG=>rfl;have l1: ∀G,ld1 (some (rH 133 [nI .i64 a,nI .i64 l])) 1 G=.val (nI .i64 l) G:=λG=>rfl;have sa: ∀G:Heap,O5 512 1 (.ptr b 0) (some (nI .i64 a)) (some (nI .i64 (a+l))) G=.val (.slice b a l (some (512 - a))) G:=λG=>by
  rw[Zjs (by omega) h2,Zl,WA]
 simp(disch:=first|assumption|omega|(simp -implicitDefEqProofs only[VV,VW]<;>first|assumption|omega)|decide) only[g1,g4,ld,hlk,eqp,stS,i0,i1,l0,l1,sa,TJ,Y0,decide_true,YM,Xz,YW,ZD,ZO,YM,Xz,YW,c63,ZG,Yj,Zz,Yc,Xc,XZ,Nat.reducePow,Nat.reduceDiv,Nat.reduceMod,Yg]
 refine⟨_,rfl,?_⟩;exact Zu.new _ _ _
def Un(l:Zd)(a n:Nat)(w:Zd):Zd:=if w.length=n then yd l a w else l
def A6{l w:Zd}{a:Nat}(h:a+n<=l.length):(Un l a n w).length=l.length:=by
 unfold Un
 split
 ·rename_i h2;exact pJ (by omega)
 ·rfl
def KH{a:Nat}{l:Zd}(h:HR H b l)(h0:1<=n)(ha:a+n<=512):BV H (.slice b a n (some (512 - a))) ((l.drop a).take n):=by
 obtain⟨⟨r,g,hc,_,_,hz⟩,hl,hb,_⟩:=h;exact cZ g hc hz hb h0 (by omega) λk hk=>by cases hk;omega
def PN(E:Env Zq fs Zk){nm l:Zd}{a m:Nat}(gH:V8 H)(F:CQ nm a m)(g:HR H b l):
  ∃v H',ZA (LK Zq fs Zk k) fs Zk (n+3) 40 [.ptr b 0,.str nm] H=.ret (.tup [v,.bool true]) H'∧BV H' v ((l.drop a).take m)∧Zu H H' []∧ ∀b o m c,v=.slice b o m c->H.nx<=b∧b<H'.nx:=by
 rw[Z5 E.f40 (.inr rfl)];obtain⟨H0,e1,k0⟩:=Fz E (k:=k) (n:=n+1) gH F g.lt;have h1:=F.pos;have h2:=F.le;have bv:=KH (g.keep0 k0) h1 h2;have hb:=g.lt;have hl:=g.len;obtain⟨v,H1,e2,Kc,k1,far⟩:=ZgY E (k:=k) (n:=n+1) (Bd bv λb' o n' c h=>by cases h;exact ZK hb k0.nx) (by rw[Zy];omega);have eqn: ∀G,NL kV true (.slice b a m (some (512 - a))) .nils G=.val (.bool true) G:=λ_=>rfl;simp only[e1,e2,eqn,c40,ZG,Yj,Zz,Yg];exact⟨_,_,rfl,Kc,k0.trans' k1,λb' o m' c h=>⟨Yb k0.nx (far b' o m' c h).1,(far b' o m' c h).2⟩⟩
def J9(E:Env Zq fs Zk){nm l w:Zd}{a m:Nat}{v:AV}(gH:V8 H)(F:CQ nm a m)(g:HR H b l)(hv:BV H v w):
  ∃z H',ZA (LK Zq fs Zk k) fs Zk (n+2) 39 [.ptr b 0,.str nm,v] H=.ret z H'∧Zu H H' [b]∧HR H' b (Un l a m w):=by
 rw[Z5 E.f39 (.inr rfl)];obtain⟨H0,e1,k0⟩:=Fz E (k:=k) (n:=n) gH F g.lt;have h1:=F.pos;have h2:=F.le;have g0:=g.keep0 k0;obtain⟨⟨r,r1,r2,r3,r4,r5⟩,hl,hb,hro⟩:=g0;have hv0:=hv.keep k0 (λ_ _ _ _ _=>by simp);have eqn: ∀G,NL kV false (.slice b a m (some (512 - a))) .nils G=.val (.bool false) G:=λ_=>rfl;have ln:=hv.len
 by_cases hw:w.length=m
 ·have d1:decide (w.length≠m)=false:=Zc (λh=>h hw)
  obtain⟨r',cp,q1,q2,q3,q4⟩:=bG (l:=l) (n:=m) (a:=a) (e1:=some (512 - a)) r1 r2 r3 r4 hro hv0 hw h1 (by omega);rw[show Un l a m w=yd l a w by unfold Un;rw[if_pos hw]];simp only[e1,eqn,ln,d1,cp,NC,UI,c39,ZG,Yj,Zz,Yg];exact⟨_,_,rfl,(k0.more).then_put (λ_=>by simp),⟨⟨r',Yp _ _ _,q1,q2,q3,by rw[q4,r5]⟩,by rw[pJ (by omega)];exact hl,hb,hro⟩⟩
 ·have d1:decide (w.length≠m)=true:=Zi hw
  rw[show Un l a m w=l by unfold Un;rw[if_neg hw]];simp only[e1,eqn,ln,d1,UI,c39,ZG,Yj,Zz,Yg];exact⟨_,_,rfl,k0.more,⟨⟨r,r1,r2,r3,r4,r5⟩,hl,hb,hro⟩⟩
def Zgg(a:AV)(H:Heap):OR:=xQ (λ_=>a) ot H
def AD(x:WI)(tm:TM)(H:Heap):xQ x tm H=Zgg (x tm) H:=rfl
def Ap{o e:Nat}{c:Option Nat}{l:List AV}{ex:Bool}(g:H.t.get b=some (rG e 1 l 0 false true ex))(hro:H.ro<=b):Zgg (.slice b o n c) H=.val (.slice b o n c) (H.put b (rG e 1 l 0 true true ex)):=by
 show Yx H b (λr=>ZJ (cond r.sm false (H.may r b)) (ZJ (Nat.beq r.fz 0) (.val (.slice b o n c) (H.put b (.row ⟨r.elem,r.sz,r.size,r.cells,r.dflt,r.fz,true,r.own,r.exact⟩)))))=_;unfold Yx;rw[g];show ZJ (Nat.ble H.ro b) _=_;rw[Zj hro];rfl
def m7(E:Env Zq fs Zk){sm ex:Bool}(rf:100<=H.nx)(hb:b<H.nx)(hro:H.ro<=H.nx)(g:H.t.get b=some (rG 5 1 [nI .u8 32] 0 sm true ex)):
  ∃q H',ZA (LK Zq fs Zk k) fs Zk (n+2) 68 [.slice b 0 1 none,nI .i64 8] H=.ret (.slice q 0 8 (some 8)) H'∧BV H' (.slice q 0 8 (some 8)) (List.replicate 8 32)∧Zu H H' []∧H.nx<=q∧q<H'.nx:=by
 rw[Z5 E.f68 (.inr rfl)];have em:=λ{j}=>Qh (fs:=fs) (Zk:=Zk) (k:=k) (n:=j) (Ta:=Ta) (Se:=Se) (f:=94) rfl (E.ml H rf);have ez:=λ{j}=>Qh (fs:=fs) (Zk:=Zk) (k:=k) (n:=j) (Ta:=Ta) (Se:=Se) (f:=99) rfl (E.mz 8 H (by decide));obtain⟨H1,hH1⟩:=TO (H.new (.row ⟨5,1,8,.leaf,.unk,0,false,true,false⟩));have NB:H1.nx=H.nx+1:=by rw[<-hH1];rfl
 have FI:H1.ro=H.ro:=by rw[<-hH1];rfl
 have k1:Zu H H1 []:=by rw[<-hH1];exact Zu.new H _ []
 have g1:H1.t.get H.nx=some (.row ⟨5,1,8,.leaf,.unk,0,false,true,false⟩):=by rw[<-hH1];exact ZR rfl _
 have gb1:H1.t.get b=some (rG 5 1 [nI .u8 32] 0 sm true ex):=by rw[k1.get b hb (by simp)];exact g
 obtain⟨r2,c2,C2,o2,f2,s2⟩:=Mv (b:=H.nx) (o:=0) (c:=b) (q:=0) (dn:=8) (sn:=1) (n:=1) (e1:=some 8) (e2:=none) g1 (lf 5 8) rfl (by rw[FI];exact hro) rfl gb1 (Le 5 1 [nI .u8 32] 0 sm true ex) rfl (by decide) (by decide) (by decide);obtain⟨H2,hH2⟩:=TO (H1.put H.nx (.row r2));have g2:H2.t.get H.nx=some (.row r2):=by rw[<-hH2];exact Yp _ _ _
 have nx2:H2.nx=H1.nx:=by rw[<-hH2];rfl
 have m9:H2.ro=H1.ro:=by rw[<-hH2];rfl
 rw[hH2] at c2;obtain⟨r3,c3,C3,o3,f3,s3⟩:=Mv (b:=H.nx) (o:=1) (c:=H.nx) (q:=0) (dn:=7) (sn:=1) (n:=1) (e1:=some 7) (e2:=some 8) g2 C2 o2 (by rw[m9,FI];exact hro) f2 g2 C2 rfl (by decide) (by decide) (by decide);obtain⟨H3,hH3⟩:=TO (H2.put H.nx (.row r3));have g3:H3.t.get H.nx=some (.row r3):=by rw[<-hH3];exact Yp _ _ _
 have nx3:H3.nx=H2.nx:=by rw[<-hH3];rfl
 have ro3:H3.ro=H2.ro:=by rw[<-hH3];rfl
 rw[hH3] at c3;obtain⟨r4,c4,C4,o4,f4,s4⟩:=Mv (b:=H.nx) (o:=2) (c:=H.nx) (q:=0) (dn:=6) (sn:=2) (n:=2) (e1:=some 6) (e2:=some 8) g3 C3 o3 (by rw[ro3,m9,FI];exact hro) f3 g3 C3 rfl (by decide) (by decide) (by decide);obtain⟨H4,MR⟩:=TO (H3.put H.nx (.row r4));have g4:H4.t.get H.nx=some (.row r4):=by rw[<-MR];exact Yp _ _ _
 have nx4:H4.nx=H3.nx:=by rw[<-MR];rfl
 have ro4:H4.ro=H3.ro:=by rw[<-MR];rfl
 rw[MR] at c4;obtain⟨r5,c5,C5,o5,f5,s5⟩:=Mv (b:=H.nx) (o:=4) (c:=H.nx) (q:=0) (dn:=4) (sn:=4) (n:=4) (e1:=some 4) (e2:=some 8) g4 C4 o4 (by rw[ro4,ro3,m9,FI];exact hro) f4 g4 C4 rfl (by decide) (by decide) (by decide);obtain⟨H5,hH5⟩:=TO (H4.put H.nx (.row r5));have g5:H5.t.get H.nx=some (.row r5):=by rw[<-hH5];exact Yp _ _ _
 have nx5:H5.nx=H4.nx:=by rw[<-hH5];rfl
 rw[hH5] at c5;have k5:Zu H H5 []:=by
  rw[<-hH5,<-MR,<-hH3,<-hH2];exact(((k1.then_put (by omega)).then_put (by omega)).then_put (by omega)).then_put (by omega)
 have s30:iy (.slice H.nx 0 8 none) (nI .i64 8) (nI .i64 8) H1=.val (.slice H.nx 0 8 (some 8)) H1:=by
  show Yx H1 H.nx _=_;unfold Yx;rw[g1];rfl
 have sa2:Uo 1 (.slice H.nx 0 8 (some 8)) (some (nI .i64 1)) none ⟨H2.nx,H2.t,H2.nx⟩=.val (.slice H.nx 1 7 (some 7)) ⟨H2.nx,H2.t,H2.nx⟩:=by
  show Yx _ H.nx _=_;unfold Yx;rw[show(Heap.mk H2.nx H2.t H2.nx).t.get H.nx=_ from g2];rfl
 have sb2:Uo 1 (.slice H.nx 0 8 (some 8)) none (some (nI .i64 1)) ⟨H2.nx,H2.t,H2.nx⟩=.val (.slice H.nx 0 1 (some 8)) ⟨H2.nx,H2.t,H2.nx⟩:=by
  show Yx _ H.nx _=_;unfold Yx;rw[show(Heap.mk H2.nx H2.t H2.nx).t.get H.nx=_ from g2];rfl
 have sa3:Uo 1 (.slice H.nx 0 8 (some 8)) (some (nI .i64 2)) none ⟨H3.nx,H3.t,H3.nx⟩=.val (.slice H.nx 2 6 (some 6)) ⟨H3.nx,H3.t,H3.nx⟩:=by
  show Yx _ H.nx _=_;unfold Yx;rw[show(Heap.mk H3.nx H3.t H3.nx).t.get H.nx=_ from g3];rfl
 have sb3:Uo 1 (.slice H.nx 0 8 (some 8)) none (some (nI .i64 2)) ⟨H3.nx,H3.t,H3.nx⟩=.val (.slice H.nx 0 2 (some 8)) ⟨H3.nx,H3.t,H3.nx⟩:=by
  show Yx _ H.nx _=_;unfold Yx;rw[show(Heap.mk H3.nx H3.t H3.nx).t.get H.nx=_ from g3];rfl
 have sa4:Uo 1 (.slice H.nx 0 8 (some 8)) (some (nI .i64 4)) none ⟨H4.nx,H4.t,H4.nx⟩=.val (.slice H.nx 4 4 (some 4)) ⟨H4.nx,H4.t,H4.nx⟩:=by
  show Yx _ H.nx _=_;unfold Yx;rw[show(Heap.mk H4.nx H4.t H4.nx).t.get H.nx=_ from g4];rfl
 have sb4:Uo 1 (.slice H.nx 0 8 (some 8)) none (some (nI .i64 4)) ⟨H4.nx,H4.t,H4.nx⟩=.val (.slice H.nx 0 4 (some 8)) ⟨H4.nx,H4.t,H4.nx⟩:=by
  show Yx _ H.nx _=_;unfold Yx;rw[show(Heap.mk H4.nx H4.t H4.nx).t.get H.nx=_ from g4];rfl
 have hf:=E.big;obtain⟨fu,rfl⟩: ∃fu,Zk=fu+4:=⟨Zk - 4,by omega⟩;have b1: ∀G:Heap,NL WX false (nI .i64 8) (nI .i64 0) G=.val (.bool false) G:=λG=>rfl;have b2: ∀G:Heap,T2 XF Yt (nI .i64 8) (nI .i64 0) G=.val (.bool false) G:=λG=>rfl;have b3: ∀G:Heap,O1 .u64 (nI .i64 1) G=.val (nI .u64 1) G:=λG=>rfl;have b4: ∀G:Heap,O1 .u64 (nI .i64 8) G=.val (nI .u64 8) G:=λG=>rfl;have b5: ∀G:Heap,T2 U9 W1 (nI .u64 0) (nI .u64 0) G=.val (.bool false) G:=λG=>rfl;have b6: ∀G:Heap,T2 U9 W1 (nI .u64 8) (nI .u64 9223372036854775807) G=.val (.bool false) G:=λG=>rfl;have b7: ∀G:Heap,O1 .i64 (nI .u64 8) G=.val (nI .i64 8) G:=λG=>rfl;have b8: ∀G:Heap,NL WX false (nI .i64 1) (nI .i64 0) G=.val (.bool false) G:=λG=>rfl;have b9: ∀G:Heap,T2 U9 W1 (nI .i64 8) (nI .i64 8192) G=.val (.bool false) G:=λG=>rfl;have m1: ∀G:Heap,ZaV false [nI .i64 1,nI .i64 8] G=.val (nI .i64 1) G:=λG=>rfl;have m2: ∀G:Heap,ZaV false [nI .i64 2,nI .i64 8] G=.val (nI .i64 2) G:=λG=>rfl;have m4: ∀G:Heap,ZaV false [nI .i64 4,nI .i64 8] G=.val (nI .i64 4) G:=λG=>rfl;have l1: ∀G:Heap,T2 XF Yt (nI .i64 1) (nI .i64 8) G=.val (.bool true) G:=λG=>rfl;have l2: ∀G:Heap,T2 XF Yt (nI .i64 2) (nI .i64 8) G=.val (.bool true) G:=λG=>rfl;have l4: ∀G:Heap,T2 XF Yt (nI .i64 4) (nI .i64 8) G=.val (.bool true) G:=λG=>rfl;have l8: ∀G:Heap,T2 XF Yt (nI .i64 8) (nI .i64 8) G=.val (.bool false) G:=λG=>rfl;have a1: ∀G:Heap,Sr (nI .i64 1) (nI .i64 1) G=.val (nI .i64 2) G:=λG=>rfl;have a2: ∀G:Heap,Sr (nI .i64 2) (nI .i64 2) G=.val (nI .i64 4) G:=λG=>rfl;have a4: ∀G:Heap,Sr (nI .i64 4) (nI .i64 4) G=.val (nI .i64 8) G:=λG=>rfl;simp(disch:=omega) only[em,ez,hH1,s30,c2,c3,c4,c5,sa2,sb2,sa3,sb3,sa4,sb4,b1,b2,b3,b4,b5,b6,b7,b8,b9,m1,m2,m4,l1,l2,l4,l8,a1,a2,a4,P2,T5,NC,Th,ZD,ZO,YY,XH,mB,Vh,V3,decide_true,c68,bi,ZG,Yj,Zz,Yc,Xc,XZ,Nat.reducePow,Nat.reduceDiv,Nat.reduceMod,Yg,UH,KA];refine⟨H.nx,_,rfl,tQ g5 C5 (by rw[s5,s4,s3,s2]) (by omega) rfl (λk h=>by cases h;decide),k5,Zs _,by omega⟩
def rt(E:Env Zq fs Zk):
  ∃H',ZA (LK Zq fs Zk 1) fs Zk (n+2) 124 [.str s,.str [0]] H=.ret (mI (W2 0 s)) H'∧Zu H H' []:=by
 rw[Z5 E.f124 (.inl (by decide))];have e1:=λ{j}=>jD E (k:=1) (n:=j) (by decide) (s:=s) (x:=0) (H:=H) (by decide);have wl:([0]:Zd).length=1:=rfl;have w0:([0]:Zd).getD 0 0=0:=rfl;have w1:(0:UInt8).toNat=0:=rfl
 by_cases h:([0]:Zd)=s
 ·have d_h:decide (([0]:Zd)=s)=true:=Zi h
  simp only[wl,d_h,YQ,Wi,ZZ,decide_false,tU,ZG,Yj,Zz,reduceCtorEq,Yg];subst h;refine⟨_,rfl,?_⟩;exact Zu.refl _ _
 ·have d_h:decide (([0]:Zd)=s)=false:=Zc h
  simp(disch:=omega) only[wl,w0,w1,e1,d_h,X7,YQ,Wi,ZZ,decide_true,decide_false,tU,ZG,Yj,Zz,reduceCtorEq,Yg];refine⟨_,rfl,?_⟩;exact Zu.refl _ _
def ZdX(E:Env Zq fs Zk)(hk:2<=k):
  ZA (LK Zq fs Zk k) fs Zk (n+1) 124 [.str s,.str [0]] H=.ret (mI (W2 0 s)) H:=by
 obtain⟨H',e,g⟩:=rt E (n:=898) (H:=H);exact Yh (r:=1) rfl rfl e g (O2 _ _) hk
def nQ(E:Env Zq fs Zk):
  ∃H',ZA (LK Zq fs Zk 2) fs Zk (n+2) 93 [.str s,.str [0]] H=.ret (mI (W2 0 s)) H'∧Zu H H' []:=by
 rw[Z5 E.f93 (.inl (by decide))];have e1:=λ{j}=>ZdX E (k:=2) (n:=j) (by decide) (s:=s) (H:=H);simp only[e1,c93,ZG,Yj,Zz,Yg];refine⟨_,rfl,?_⟩;exact Zu.refl _ _
def Zik(E:Env Zq fs Zk)(hk:3<=k):
  ZA (LK Zq fs Zk k) fs Zk (n+1) 93 [.str s,.str [0]] H=.ret (mI (W2 0 s)) H:=by
 obtain⟨H',e,g⟩:=nQ E (n:=898) (H:=H);exact Yh (r:=2) rfl rfl e g (O2 _ _) hk
def Zac(E:Env Zq fs Zk):
  ∃H',ZA (LK Zq fs Zk 3) fs Zk (n+2) 65 [.str s,.str [0]] H=.ret (.bool (decide (0<W2 0 s))) H'∧Zu H H' []:=by
 rw[Z5 E.f65 (.inl (by decide))];have e1:=λ{j}=>Zik E (k:=3) (n:=j) (by decide) (s:=s) (H:=H);simp only[e1,DB,c65,ZG,Yj,Zz,Yg];refine⟨_,rfl,?_⟩;exact Zu.refl _ _
def Zh4(E:Env Zq fs Zk)(hk:4<=k):
  ZA (LK Zq fs Zk k) fs Zk (n+1) 65 [.str s,.str [0]] H=.ret (.bool (decide (0<W2 0 s))) H:=by
 obtain⟨H',e,g⟩:=Zac E (n:=898) (H:=H);exact Yh (r:=3) rfl rfl e g (rfl) hk
def UK(s:Zd)(n:Nat):Zd:=if 0<W2 0 s then [] else if n<s.length then [] else s++List.replicate (n - s.length) 0
def UR(u n:Nat):Zd:=if n - 1<(Sq u).length then [] else List.replicate (n - 1 - (Sq u).length) 48++Sq u++[0]
def ZjA(E:Env Zq fs Zk)(hk:4<=k){m:Nat}(hro:H.ro<=H.nx)(hs:s.length<=90000)(h1:1<=m)(h2:m<=512):
  ∃v z H',ZA (LK Zq fs Zk k) fs Zk (n+2) 41 [.str s,nI .i64 m] H=.ret (.tup [v,z]) H'∧BV H' v (UK s m)∧Zu H H' []∧ ∀b o q c,v=.slice b o q c->b<H'.nx:=by
 rw[Z5 E.f41 (.inr rfl)];have ec:=λ{j}=>Zh4 E (k:=k) (n:=j) hk (s:=s) (H:=H);have d1:decide (m<1)=false:=Zc (by omega);have d2:decide (512<m)=false:=Zc (by omega)
 by_cases hz:0<W2 0 s
 ·have d3:decide (0<W2 0 s)=true:=Zi hz
  rw[show UK s m=[] by unfold UK;rw[if_pos hz]];simp only[ec,d1,d2,d3,ZE,Yn,ZE,Yn,c41,ZG,Yj,Zz,Yg];refine⟨_,_,_,rfl,?_⟩;exact⟨.inl ⟨rfl,.inl rfl⟩,Zu.refl _ _,λb o q c h=>by cases h⟩
 have d3:decide (0<W2 0 s)=false:=Zc hz
 by_cases hl:m<s.length
 ·have d4:decide (m<s.length)=true:=Zi hl
  rw[show UK s m=[] by unfold UK;rw[if_neg hz,if_pos hl]];simp only[ec,d1,d2,d3,d4,ZE,Yn,ZZ,ZE,Yn,c41,ZG,Yj,Zz,Yg];refine⟨_,_,_,rfl,?_⟩;exact⟨.inl ⟨rfl,.inl rfl⟩,Zu.refl _ _,λb o q c h=>by cases h⟩
 have d4:decide (m<s.length)=false:=Zc hl;have gb:=aN (H:=H) (s:=s) hro (Zs _) true;obtain⟨H1,hH1⟩:=TO (H.new (rG 5 1 (s.map Vk) 0 true true false));have k1:Zu H H1 []:=by rw[<-hH1];exact Zu.new _ _ _
 have NB:H1.nx=H.nx+1:=by rw[<-hH1];rfl
 have FI:H1.ro=H.ro:=by rw[<-hH1];rfl
 rw[hH1] at gb;obtain⟨v,H2,e2,tc,k2,_⟩:=Cs gb (by omega) (by omega) (m - s.length) (by omega);have sb: ∀G,Mh (nI .i64 m) (nI .i64 s.length) G=.val (nI .i64 (m - s.length)) G:=λG=>Wz (by omega) (by omega) G;rw[show UK s m=s++List.replicate (m - s.length) 0 by unfold UK;rw[if_neg hz,if_neg hl]];simp only[ec,d1,d2,d3,d4,hH1,e2,sb,ZE,Yn,ZZ,ZE,Yn,Oz,Lq,J1,c41,ZG,Yj,Zz,Yg];refine⟨_,_,_,rfl,tc.bv,k1.trans k2 (λc hc hlt=>?_),λb o q c h=>?_⟩
 ·have:=(gb.blk c hc).1;omega
 ·subst h;exact(tc.blk b (by simp[Xk])).2
def j9(E:Env Zq fs Zk)(hk:4<=k){u m:Nat}(g:Qw H)(hro:H.ro<=H.nx)(hu:u<9223372036854775808)(h1:2<=m)(h2:m<=20):
  ∃v H',ZA (LK Zq fs Zk k) fs Zk (n+2) 42 [nI .i64 u,nI .i64 m] H=.ret (.tup [v,nI .i64 (if m - 1<(Sq u).length then 3 else 0)]) H'∧BV H' v (UR u m)∧Zu H H' []∧(∀b o q c,v=.slice b o q c->b<H'.nx)∧(¬m - 1<(Sq u).length->GB H' v (UR u m) H.nx):=by
 rw[Z5 E.f42 (.inr rfl)];have ef:=λ{j}=>Zmc E (k:=k) (n:=j) (by omega) (u:=u) (H:=H) g hro hu;have e0: ∀{j},ZA (LK Zq fs Zk k) fs Zk (j+1) 66 [nI .i64 m] H=.ret (.bool true) H:=λ{j}=>by
  rw[Z5 E.f66 (.inr rfl)];have d1:decide (2<=m)=true:=Zi h1;have d2:decide (m<=20)=true:=Zi h2;simp only[d1,d2,Yr,Y4,Y4,Yr,c66,ZG,Yj,Zz,Yg]
 have d3:decide (u<0)=false:=Zc (UZ _);have sb: ∀G,Mh (nI .i64 m) (nI .i64 1) G=.val (nI .i64 (m - 1)) G:=λG=>Wz (by omega) (by omega) G
 by_cases hl:m - 1<(Sq u).length
 ·have d4:decide (m - 1<(Sq u).length)=true:=Zi hl
  rw[show UR u m=[] by unfold UR;rw[if_pos hl],if_pos hl];simp only[ef,e0,d3,d4,sb,ZE,Yn,ZZ,ZE,Yn,c42,ZG,Yj,Zz,Yc,Yg];refine⟨_,_,rfl,?_⟩;exact⟨.inl ⟨rfl,.inl rfl⟩,Zu.refl _ _,λb o q c h=>by(cases h),λh=>absurd hl h⟩
 have d4:decide (m - 1<(Sq u).length)=false:=Zc hl;have sb2: ∀G,Mh (nI .i64 (m - 1)) (nI .i64 (Sq u).length) G=.val (nI .i64 (m - 1 - (Sq u).length)) G:=λG=>Wz (by omega) (by omega) G;have er:=λ{j}=>Qh (fs:=fs) (Zk:=Zk) (k:=k) (n:=j) (Ta:=Ta) (Se:=Se) (f:=67) rfl (E.rz (m - 1 - (Sq u).length) H g.1 (by omega));have a1:=λG=>Q1 (a:=List.replicate (m - 1 - (Sq u).length) 48) (b:=Sq u) (by rw[ZB];omega) G;have a2:=λG=>Q1 (a:=List.replicate (m - 1 - (Sq u).length) 48++Sq u) (b:=[0]) (by rw[Zh,ZB];show _+1<=_;omega) G;have gb:=aN (H:=H) (s:=UR u m) hro (Zs _) true;rw[show UR u m=List.replicate (m - 1 - (Sq u).length) 48++Sq u++[0] by unfold UR;rw[if_neg hl]] at gb ⊢;rw[if_neg hl];simp only[ef,e0,d3,d4,sb,sb2,er,a1,a2,ZE,Yn,ZZ,ZE,Yn,Lq,J1,c42,ZG,Yj,Zz,Yc,Yg];refine⟨_,_,rfl,?_⟩;exact⟨gb.bv,Zu.new _ _ _,λb o q c h=>by cases h;exact ZU _,λ_=>gb⟩
def zz(E:Env Zq fs Zk)(hk:4<=k){nm l:Zd}{a m:Nat}(gH:V8 H)(F:CQ nm a m)(g:HR H b l)(hs:s.length<=90000):
  ∃H',ZA (LK Zq fs Zk k) fs Zk (n+4) 18 [.ptr b 0,.str nm,.str s] H=.ret (.tup []) H'∧Zu H H' [b]∧HR H' b (Un l a m (UK s m)):=by
 rw[Z5 E.f18 (.inr rfl)];have h1:=F.pos;have h2:=F.le;obtain⟨v0,H1,e1,yp,k1,_⟩:=PN E (k:=k) (n:=n) gH F g;have hl:=g.len;have hb:=g.lt;have hro:=g.ro;have ln:=yp.len;rw[show((l.drop a).take m).length=m by rw[Zy,Ye];omega] at ln;have hx1:=k1.nx;obtain⟨v,z,H2,e2,Kc,k2,_⟩:=ZjA E (k:=k) (n:=n+1) hk (H:=H1) (s:=s) (m:=m) (by rw[k1.ro];omega) hs h1 (by omega);have k12:Zu H H2 []:=k1.trans' k2;obtain⟨z2,H3,e3,k3,g3⟩:=J9 E (k:=k) (n:=n+1) (b:=b) (l:=l) (gH.keep0 k12) F (g.keep0 k12) Kc;simp only[e1,ln,e2,e3,XA,XR,Zo,Zo,Zo,c18,ZG,Yj,Zz,Yg];refine⟨_,rfl,?_⟩;exact⟨k12.trans' k3,g3⟩
def JY(E:Env Zq fs Zk)(hk:4<=k){nm l:Zd}{a m:Nat}{u:Nat}(gH:V8 H)(F:CQ nm a m)(g:HR H b l)(hu:u<9223372036854775808)(h3:2<=m)(h4:m<=20):
  ∃H',ZA (LK Zq fs Zk k) fs Zk (n+4) 19 [.ptr b 0,.str nm,nI .i64 u] H=.ret (.tup []) H'∧Zu H H' [b]∧HR H' b (Un l a m (UR u m)):=by
 rw[Z5 E.f19 (.inr rfl)];have h1:=F.pos;have h2:=F.le;obtain⟨v0,H1,e1,yp,k1,_⟩:=PN E (k:=k) (n:=n) gH F g;have hl:=g.len;have hb:=g.lt;have hro:=g.ro;have ln:=yp.len;rw[show((l.drop a).take m).length=m by rw[Zy,Ye];omega] at ln;have hx1:=k1.nx;obtain⟨v,H2,e2,Kc,k2,_⟩:=j9 E (k:=k) (n:=n+1) hk (H:=H1) (u:=u) (m:=m) (gH.keep0 k1).g (by rw[k1.ro];omega) hu h3 h4;have k12:Zu H H2 []:=k1.trans' k2;obtain⟨z2,H3,e3,k3,g3⟩:=J9 E (k:=k) (n:=n+1) (b:=b) (l:=l) (gH.keep0 k12) F (g.keep0 k12) Kc;simp only[e1,ln,e2,e3,XA,XR,Zo,Zo,Zo,c19,ZG,Yj,Zz,Yg];refine⟨_,rfl,?_⟩;exact⟨k12.trans' k3,g3⟩
def dW{l vs:List AV}{r:Row}(hc:Cells r l)(hl:l.length=n)(hv:vs.length=n)(hn:1<=n)(how:r.own=true)(hfz:r.fz=0)(hro:H.ro<=b):
  ∃r',F3 n (some (.row r)) b 0 (.agg vs) H=.val Y9 (H.put b (.row r'))∧Cells r' vs∧r'.own=true∧r'.fz=0∧r'.sz=r.sz:=by
 have hcs:=Ok (o:=0) (new:=vs) hc (by omega);rw[Xd,ZQ,Uz (by omega),ZM] at hcs;refine⟨_,?_,hcs,how,hfz,rfl⟩;show ZJ (Nat.ble 1 n) (ZJ (H.may r b) (ZJ (Nat.ble (0+n) r.size) (ZJ (Nat.ble r.fz 0) (ZJ (Nat.beq (YN vs) n) _))))=_;have h1:H.may r b=true:=by unfold Heap.may;rw[how,Zj hro];rfl
 rw[Zj hn,h1,hc.size,Zj (by omega),hfz,Yw,hv,YD];rfl
def xn{l:List AV}{r:Row}(hc:Cells r l)(hl:l.length=n)(G:Heap):zI n (some (.row r)) 0 G=.val (.agg l) G:=by
 show ZJ (Nat.ble (Nat.add 0 n) r.size) (.val (.agg (Vw r 0 n)) G)=_;rw[hc.size,Zj (by show 0+n<=_;omega),hc.load (by omega),YL,Z1 (by omega)];rfl
def I7:Zd:=List.replicate 512 0
def QT:I7.length=512:=by unfold I7;rw[ZB]
def lh(e:Nat):Cells ⟨e,1,512,.leaf,nI .u8 0,0,false,true,true⟩ (I7.map Vk):=by
 have h:I7.map Vk=List.replicate 512 (nI .u8 0):=by unfold I7;rw[SC];rfl
 refine⟨by rw[Zx,QT],λi hi=>?_⟩;rw[Zx,QT] at hi;rw[h,Row.get_eq,Ze,XJ,if_pos hi];show(T.leaf.get i).getD (nI .u8 0)=nI .u8 0;rw[T.get_leaf];rfl
def Er(n:Nat)(a i:AV)(H:Heap):OR:=SA i λi=>Fu a λcs=>ZJ (Nat.ble (Nat.succ i) n) (Tu (HN cs i) λv=>.val v H)
def DE(x y:WI)(n:Nat)(tm:TM)(H:Heap):Fp x y n tm H=Er n (x tm) (y tm) H:=rfl
def fH{l:Zd}(hl:l.length=n)(hi:i<n)(k:IntKind)(H:Heap):Er n (.agg (l.map Vk)) (nI k i) H=.val (Vk (l.getD i 0)) H:=by
 show ZJ (Nat.ble (Nat.succ i) n) (Tu (HN (l.map Vk) i) λv=>.val v H)=_;rw[Zj hi];have:HN (l.map Vk) i=some (Vk (l.getD i 0)):=by
  rw[JX,Z3,Ze,Zm (by omega)];rfl
 rw[this];rfl
def Ck(l:Zd):Nat:=(l.map (·.toNat)).sum
def iI(l:Zd):Ck l<=255*l.length:=by
 unfold Ck
 induction l with
 |nil=>exact Zs _
 |cons a l ih=>
  rw[ZD,List.sum_cons,ZL];have:a.toNat<256:=a.toNat_lt;omega
def dY{l:Zd}(h:i<l.length):Ck (l.take (i+1))=Ck (l.take i)+(l.getD i 0).toNat:=by
 unfold Ck;rw[WF,Ze,Zm h,Xg,List.sum_append];simp
def Rn(l:Zd):Nat:=Ck (Un l 148 8 (List.replicate 8 32))
def tO{l:Zd}(hl:l.length=512):Rn l<=130560:=by
 have h:=iI (Un l 148 8 (List.replicate 8 32));rw[A6 (by omega),hl] at h;exact h
structure SMI(Hs:Heap)(l:Zd)(m:Nat)(tm:TM)(H:Heap):Prop where
 h:H=Hs
 t16:Xr tm=.agg (l.map Vk)
 i: ∃i,XK tm=nI .i64 i∧i+m=512∧Xo tm=nI .i64 (Ck (l.take i))
def SMQ(Hs:Heap)(l:Zd)(o:Out)(tm:TM)(H:Heap):Prop:=o=.exit 0∧H=Hs∧Xo tm=nI .i64 (Ck l)
def Zfa{l:Zd}(hl:l.length=512){Hs:Heap}(cx:Ctx)(X0:X)(m:Nat)(tm:TM)(H:Heap)(hI:SMI Hs l m tm H):
  ∃o tm' H',Bk cx tm H X0=.ok o tm' H' X0∧((o=.normal∧ ∃k,k<m∧SMI Hs l k tm' H')∨(o≠.normal∧SMQ Hs l o tm' H')):=by
 obtain⟨rfl,t16,i,t17,him,t4⟩:=hI;have yg:=t16;have Gk:=t4;simp only[Pt,jv,aY] at t4 t16 t17;cases m with
 |zero=>
  have d1:decide (i<512)=false:=Zc (by omega);simp only[t17,d1,ZE,ZE,Bk,ZG,Yj,Yg];refine⟨_,_,_,rfl,.inr ⟨by simp,rfl,rfl,?_⟩⟩;rw[show Ck l=Ck (l.take i) by rw[Z1 (by omega)]];simp only[Yg,Yj];exact t4
 |succ m=>
  have d1:decide (i<512)=true:=Zi (by omega);have ia:=λG=>fH (l:=l) (i:=i) hl (by omega) .i64 G;have iv: ∀G,O1 .i64 (Vk (l.getD i 0)) G=.val (nI .i64 (l.getD i 0).toNat) G:=λG=>V1 (by have:=(l.getD i 0).toNat_lt;omega) G;have hsm:=iI (l.take i);rw[Zy] at hsm;have hx:=(l.getD i 0).toNat_lt;have ad: ∀G,Sr (nI .i64 (Ck (l.take i))) (nI .i64 (l.getD i 0).toNat) G=.val (nI .i64 (Ck (l.take i)+(l.getD i 0).toNat)) G:=λG=>Y0 (by omega) G;simp(disch:=omega) only[t4,t16,t17,d1,ia,iv,ad,DE,ZE,Y0,ZE,Bk,ZG,Yj,Yg];refine⟨_,_,_,rfl,?_⟩;exact .inl ⟨rfl,m,by omega,rfl,yg,i+1,rfl,by omega,by rw[dY (by omega)];rfl⟩
def tP(E:Env Zq fs Zk){l:Zd}(gH:V8 H)(g:HR H b l):
  ∃H',ZA (LK Zq fs Zk k) fs Zk (n+4) 43 [.ptr b 0] H=.ret (nI .i64 (Rn l)) H'∧Zu H H' []:=by
 rw[Z5 E.f43 (.inr rfl)];have rf:=gH.p.nx;obtain⟨⟨r,r1,r2,r3,r4,r5⟩,hl,hb,hro⟩:=g;have lm:(l.map Vk).length=512:=by rw[Zx];exact hl
 have eqp: ∀(o:Nat) G,NL zT false (.ptr b o) .nilp G=.val (.bool false) G:=λ_ _=>rfl;have ld:=λG=>xn (n:=512) r2 lm G;obtain⟨H1,hH1⟩:=TO (H.new (.row ⟨52,1,512,.leaf,nI .u8 0,0,false,true,true⟩));have k1:Zu H H1 []:=by rw[<-hH1];exact Zu.new _ _ _
 have NB:H1.nx=H.nx+1:=by rw[<-hH1];rfl
 have FI:H1.ro=H.ro:=by rw[<-hH1];rfl
 have g1:H1.t.get H.nx=some (.row ⟨52,1,512,.leaf,nI .u8 0,0,false,true,true⟩):=by rw[<-hH1];exact ZR rfl _
 obtain⟨q,e2,q1,q2,q3,q4⟩:=dW (n:=512) (b:=H.nx) (H:=H1) (lh 52) (by rw[Zx,QT]) lm (by decide) rfl rfl (by omega);obtain⟨H2,hH2⟩:=TO (H1.put H.nx (.row q));rw[hH2] at e2;have k2:Zu H H2 []:=by rw[<-hH2];exact k1.then_put (by omega)
 have nx2:H2.nx=H.nx+1:=by rw[<-hH2];exact NB
 have m9:H2.ro=H.ro:=by rw[<-hH2];exact FI
 have R2:HR H2 H.nx l:=⟨⟨q,by rw[<-hH2];exact Yp _ _ _,q1,q2,q3,q4⟩,hl,by omega,by omega⟩;obtain⟨H3,hH3⟩:=TO (H2.new (rH 5 [nI .u8 32]));have k23:Zu H2 H3 []:=by rw[<-hH3];exact Zu.new _ _ _
 have nx3:H3.nx=H2.nx+1:=by rw[<-hH3];rfl
 have ro3:H3.ro=H2.ro:=by rw[<-hH3];rfl
 have g3:H3.t.get H2.nx=some (rH 5 [nI .u8 32]):=by rw[<-hH3];exact ZR rfl _
 have mk:=Ap (o:=0) (n:=1) (c:=none) g3 (by omega);obtain⟨H4,MR⟩:=TO (H3.put H2.nx (rG 5 1 [nI .u8 32] 0 true true true));rw[MR] at mk;have k24:Zu H2 H4 []:=by rw[<-MR];exact k23.then_put (by omega)
 have nx4:H4.nx=H3.nx:=by rw[<-MR];rfl
 have ro4:H4.ro=H3.ro:=by rw[<-MR];rfl
 obtain⟨q5,H5,e5,bv5,Dy,f5,f5'⟩:=m7 E (k:=k) (n:=n+1) (H:=H4) (b:=H2.nx) (sm:=true) (ex:=true) (by omega) (by omega) (by omega) (by rw[<-MR];exact Yp _ _ _);have k25:Zu H2 H5 []:=k24.trans' Dy;have k05:Zu H H5 []:=k2.trans' k25;obtain⟨z6,H6,e6,v5,R6⟩:=J9 E (k:=k) (n:=n+1) (b:=H.nx) (l:=l) (gH.keep0 k05) By (R2.keep0 k25) bv5;have k06:Zu H H6 []:=k05.trans v5 (λx hx hlt=>by have:=Zn.1 hx;omega);obtain⟨⟨s,s1,s2,s3,s4,s5⟩,hl6,hb6,hro6⟩:=R6;have lm6:((Un l 148 8 (List.replicate 8 32)).map Vk).length=512:=by rw[Zx];exact hl6
 have ld6:=λG=>xn (n:=512) s2 lm6 G;have bs: ∀G:Heap,US 5 1 1 [nI .u8 0] [(0,1,nI .u8 32)] G=.val (.slice G.nx 0 1 none) (G.new (rH 5 [nI .u8 32])):=λG=>rfl;have hf:=E.big;simp only[eqp,r1,ld,hH1,g1,e2,bs,hH3,mk,e5,e6,s1,ld6,AD,YO,XA,YO,ZD,ZO,c43,ZG,Yj,Yg];generalize hL:Vq (Bk _) Zk _ _ _=L;obtain⟨o,OS,H7,rfl,_,rfl,rfl,t4⟩:=YP (P:=λT=>SMI H6 (Un l 148 8 (List.replicate 8 32)) 512 T H6) (Q:=SMQ H6 (Un l 148 8 (List.replicate 8 32)))
  (λT hi=>Y5 (SMI H6 (Un l 148 8 (List.replicate 8 32))) (SMQ H6 (Un l 148 8 (List.replicate 8 32))) (λm tm H' h=>Zfa hl6 _ _ m tm H' h) Zk 512 T H6 (by omega) hi) hL
  (by exact⟨rfl,rfl,0,rfl,rfl,rfl⟩)
 simp only[Pt] at t4;simp only[t4,ZG,Yj,Zz,Yg];refine⟨_,rfl,?_⟩;exact k06
def PB(l:Zd):Zd:=Un l 148 8 (UR (Rn l) 7++[32])
def pF(E:Env Zq fs Zk)(hk:4<=k){l:Zd}(gH:V8 H)(g:HR H b l):
  ∃H',ZA (LK Zq fs Zk k) fs Zk (n+5) 20 [.ptr b 0] H=.ret (.tup []) H'∧Zu H H' [b]∧HR H' b (PB l):=by
 rw[Z5 E.f20 (.inr rfl)];have hb:=g.lt;have hro:=g.ro;have hl:=g.len;obtain⟨H1,e1,k1⟩:=tP E (k:=k) (n:=n) gH g;have hx1:=k1.nx;have hs:=tO hl;have hlen: ¬7 - 1<(Sq (Rn l)).length:=by
  have:=AK 6 (Rn l) (by decide) (UD hs (by decide));omega
 obtain⟨v,H2,e2,Kc,k12,_,tc⟩:=j9 E (k:=k) (n:=n+2) hk (H:=H1) (u:=Rn l) (m:=7) (gH.keep0 k1).g (by rw[k1.ro];omega) (by omega) (by decide) (by decide);rw[if_neg hlen] at e2;have tc:=tc hlen;have k2:Zu H H2 []:=k1.trans' k12;have hxx:=k12.nx;obtain⟨H3,hH3⟩:=TO (H2.new (rH 5 [nI .u8 32]));have k23:Zu H2 H3 []:=by rw[<-hH3];exact Zu.new _ _ _
 have nx3:H3.nx=H2.nx+1:=by rw[<-hH3];rfl
 have ro3:H3.ro=H.ro:=by rw[<-hH3];exact k2.ro
 have g3:H3.t.get H2.nx=some (rH 5 [nI .u8 32]):=by rw[<-hH3];exact ZR rfl _
 have kw:=E7 (H:=H3) (b:=H2.nx) (a:=0) (n:=1) (c:=none) (l:=[32]) g3 (by omega) (by decide) (by decide) (λk h=>by cases h);have lo7:(UR (Rn l) 7).length<=100:=by
  unfold UR;rw[if_neg hlen,Zh,Zh,ZB];show _+1<=_;omega
 obtain⟨v4,H4,e4,gb4,Fg,bk4⟩:=Iy (tc.keep k23 (λ_ _=>by simp)) kw (by omega) (by omega) (by show _+1<=_;omega);have k14:Zu H1 H4 []:=(k12.trans' k23).trans Fg (λx hx hlt=>by have:=(tc.blk x hx).1;omega);have k4:Zu H H4 []:=k1.trans' k14;obtain⟨z5,H5,e5,Dy,R5⟩:=J9 E (k:=k) (n:=n+2) (b:=b) (l:=l) (gH.keep0 k4) By (g.keep0 k4) gb4.bv;have bs: ∀G:Heap,US 5 1 1 [nI .u8 0] [(0,1,nI .u8 32)] G=.val (.slice G.nx 0 1 none) (G.new (rH 5 [nI .u8 32])):=λG=>rfl;simp only[e1,e2,bs,hH3,e4,e5,YO,Ys,YQ,decide_true,YO,Ys,ZD,ZO,c20,ZG,Yj,Zz,Yg];refine⟨_,rfl,?_⟩;exact⟨k4.trans' Dy,R5⟩
def NK(t:Nat):Zd:=Un (Un (Un I7 257 6 (UK [117,115,116,97,114] 6)) 263 2 [48,48]) 156 1 [UInt8.ofNat t]
def Zfu:Sg=I7.map Vk:=by unfold Sg I7;rw[SC];rfl
def yn(E:Env Zq fs Zk)(hk:4<=k){t:Nat}(ht:t<256)(gH:V8 H):
  ∃H',ZA (LK Zq fs Zk k) fs Zk (n+5) 17 [nI .u8 t] H=.ret (.ptr H.nx 0) H'∧Zu H H' []∧HR H' H.nx (NK t):=by
 rw[Z5 E.f17 (.inr rfl)];have hro:=gH.p.ro;have rf:=gH.p.nx;have bd: ∀G:Heap,TS Sg [] G=.val (.agg Sg) G:=λG=>by unfold Sg;rw[XY,Oj];rfl
 have bx: ∀G:Heap,MW 54 (.agg Sg) G=.val (.ptr G.nx 0) (G.new (rH 54 Sg)):=λG=>W4 (l:=Sg) (by unfold Sg;rw[ZB];decide) 54 G;obtain⟨H1,hH1⟩:=TO (H.new (rH 54 Sg));have k1:Zu H H1 []:=by rw[<-hH1];exact Zu.new _ _ _
 have NB:H1.nx=H.nx+1:=by rw[<-hH1];rfl
 have FI:H1.ro=H.ro:=by rw[<-hH1];rfl
 have R1:HR H1 H.nx I7:=⟨⟨_,by rw[<-hH1];exact ZR rfl _,by rw[Zfu];exact Le _ _ _ _ _ _ _,rfl,rfl,rfl⟩,QT,by omega,by omega⟩;obtain⟨H2,e2,k12,R2⟩:=zz E (k:=k) (n:=n) hk (b:=H.nx) (l:=I7) (s:=[117,115,116,97,114]) (gH.keep0 k1) jf R1 (by decide);have k2:Zu H H2 []:=k1.trans k12 (λx hx hlt=>by have:=Zn.1 hx;omega);have hx2:=k12.nx;have m9:=k2.ro;have bs2: ∀G:Heap,US 5 1 2 (List.replicate 2 [nI .u8 0]).flatten [(0,1,nI .u8 48),(1,1,nI .u8 48)] G=.val (.slice G.nx 0 2 none) (G.new (rH 5 [nI .u8 48,nI .u8 48])):=λG=>rfl;obtain⟨H3,hH3⟩:=TO (H2.new (rH 5 [nI .u8 48,nI .u8 48]));have k23:Zu H2 H3 []:=by rw[<-hH3];exact Zu.new _ _ _
 have nx3:H3.nx=H2.nx+1:=by rw[<-hH3];rfl
 have ro3:H3.ro=H2.ro:=by rw[<-hH3];rfl
 have g3:H3.t.get H2.nx=some (rH 5 [nI .u8 48,nI .u8 48]):=by rw[<-hH3];exact ZR rfl _
 have mk:=Ap (o:=0) (n:=2) (c:=none) g3 (by omega);obtain⟨H4,MR⟩:=TO (H3.put H2.nx (rG 5 1 [nI .u8 48,nI .u8 48] 0 true true true));rw[MR] at mk;have k24:Zu H2 H4 []:=by rw[<-MR];exact k23.then_put (by omega)
 have nx4:H4.nx=H3.nx:=by rw[<-MR];rfl
 have k4:Zu H H4 []:=k2.trans' k24;have oF:=E7 (H:=H4) (b:=H2.nx) (a:=0) (n:=2) (c:=none) (l:=[48,48]) (by rw[<-MR];exact Yp _ _ _) (by omega) (by decide) (by decide) (λk h=>by cases h);obtain⟨z5,H5,e5,Dy,R5⟩:=J9 E (k:=k) (n:=n+2) (b:=H.nx) (gH.keep0 k4) gY (R2.keep0 k24) oF;have k5:Zu H H5 []:=k4.trans Dy (λx hx hlt=>by have:=Zn.1 hx;omega);have bs1: ∀G:Heap,US 5 1 1 [nI .u8 0] [(0,1,nI .u8 t)] G=.val (.slice G.nx 0 1 none) (G.new (rH 5 [nI .u8 t])):=λG=>by rw[E6 _ _ _ rfl];rfl
 obtain⟨H6,hH6⟩:=TO (H5.new (rH 5 [nI .u8 t]));have v5:Zu H5 H6 []:=by rw[<-hH6];exact Zu.new _ _ _
 have nx6:H6.nx=H5.nx+1:=by rw[<-hH6];rfl
 have k6:Zu H H6 []:=k5.trans' v5;have tv:[nI .u8 t]=[UInt8.ofNat t].map Vk:=by
  show [nI .u8 t]=[nI .u8 (UInt8.ofNat t).toNat];rw[SD,Yd (show t<2^8 from ht)]
 have bv6:=E7 (H:=H6) (b:=H5.nx) (a:=0) (n:=1) (c:=none) (l:=[UInt8.ofNat t]) (by rw[<-hH6,<-tv];exact ZR rfl _) (by omega) (by decide) (Zs 1) (λk h=>by cases h);obtain⟨z7,H7,e7,cE,R7⟩:=J9 E (k:=k) (n:=n+2) (b:=H.nx) (gH.keep0 k6) nC (R5.keep0 v5) bv6;simp only[bd,bx,hH1,e2,bs2,hH3,mk,e5,bs1,hH6,e7,AD,YO,Ud,XA,XR,ZO,Zo,Zo,YO,ZD,ZO,Zo,c17,ZG,Yj,Zz,Yg];refine⟨_,rfl,?_⟩;exact⟨k6.trans cE (λx hx hlt=>by have:=Zn.1 hx;omega),R7⟩
end
end
end Go.AI
