/- What pax.Last and slices.Sorted over keys answer, on the machine's own steps: proved for every world that is told. -/
import Derived.Test.YtfkkljjgkopkfaaGreatDoorP7
import Derived.Below
import Derived.Test.YtfkkljjgkopkfaaGreatDoorP5
import Derived.Test.YtfkkljjgkopkfaaGreatDoorZzB
import Derived.Test.YtfkkljjgkopkfaaGreatDoorP8
import Derived.Test.YtfkkljjgkopkfaaGreatDoorZzC
set_option maxRecDepth 1000000
set_option maxHeartbeats 0
set_option linter.all false
namespace Go.AI
open Go
noncomputable section
section
variable {P:Program}
def WW.below{σ:Mp}{H:Heap}{w w':World}(hs:WW P σ H w)(hb:Go.RowKit.Below w.heap.size w w'):WW P σ H w':=by
 refine⟨hs.dom,hs.low,λb o l h1 h2=>?_,hs.inj,hs.glob,hs.ro⟩;obtain⟨c,h3,h4⟩:=hs.alive b o l h1 h2;refine⟨c,?_,h4⟩;rw[hb.block _ (by have:=ZX.1 h3;exact this.1)];exact h3
def Tr.below{σ:Mp}{H:Heap}{w w':World}(hs:WW P σ H w)(hb:Go.RowKit.Below w.heap.size w w'):Tr P σ H w σ H w':=
 ⟨Ext.refl σ,hs.below hb,hb.size,λk hk _=>hb.block k hk,λb l hw hl _=>⟨b,l,hw,hl,rfl⟩,Zs _,rfl,λ_ _=>rfl,hb.tape,hb.os,hb.output,λ_ _ h=>⟨rfl,h⟩⟩
def pL{f:FuncId}{vs:Array Value}{w:World}{σ:Mp}{H:Heap}{v:Value}{u:AV}(hs:WW P σ H w)
  (he:(callFunc f vs).run P w=.ok (.enter f vs) w)(hc:Calls P f vs w λe w'=>e=.returned v∧Go.RowKit.Below w.heap.size w w')(hv:Ym σ u v):
  Ki P σ H w (.ret u H) ((callFunc f vs).run P w):=by
 rw[he];refine Calls.mono hc ?_;rintro e w' ⟨rfl,hb⟩;exact⟨σ,hv,Tr.below hs hb⟩
end
section
open Go Go.Proofs
theorem pb{r:Row}: ∀(n o:Nat) (zs:List (Zd×Zd)),A0 r o n=some zs->zs.length=n∧ ∀j,j<n->r.get (o+j*2)=.str (zs[j]?.getD ([],[])).1∧r.get (o+j*2+1)=.str (zs[j]?.getD ([],[])).2
 |0,o,zs,h=>by cases h;exact⟨rfl,λj hj=>absurd hj (UZ _)⟩
 |n+1,o,zs,h=>by
  unfold A0 at h
  split at h
  ·rename_i a b l h1 h2 h3
   cases h;obtain⟨h4,h5⟩:=pb n (o+2) l h3;refine⟨by simp[h4],λj hj=>?_⟩;cases j with
   |zero=>simpa using ⟨h1,h2⟩
   |succ j=>
    have:=h5 j (by omega);simp only[Ue];rw[show o+(j+1)*2=o+2+j*2 by omega];exact this
  ·cases h
def Ze2{P:Program}{σ:Mp}{H:Heap}{w:World}(hs:WW P σ H w){sv:AV}{v:Value}(hv:Ym σ sv v){zs:List (Zd×Zd)}(h:EO H sv=some zs):
  RecsAt w.heap.size w v zs∧zs.length*32<=140737488351232∧ ∃a len cap,v=.slice a len cap:=by
 unfold EO at h
 split at h
 ·cases h
  simp only[Ym] at hv;subst hv;exact⟨.inl ⟨rfl,rfl⟩,by simp,_,_,_,rfl⟩
 ·rename_i b o n cap
  split at h
  ·rename_i r hb
   cases h1:Nat.ble (o+n*2) r.size with
   |false=>rw[h1] at h;cases h
   |true=>
    rw[h1] at h;cases h2:Nat.ble (n*32) 140737488351232 with
    |false=>rw[h2] at h;cases h
    |true=>
     rw[h2] at h;have h1:=ZS h1;have h2:=ZS h2;obtain⟨h3,h4⟩:=pb n o zs h;simp only[Ym] at hv;obtain⟨l,hl,rfl⟩:=hv;obtain⟨cs,fr,hc,hrr⟩:=hs.row hb hl;have hat: ∀i s,i<r.size->r.get i=.str s->w.cell? ⟨l.blk,l.base+i,none⟩=some (encStr s):=by
      intro i s hi hg;obtain⟨v,hv,hrel⟩:=hrr.cell i hi;rw[hg] at hrel;simp only[Ym] at hrel;rw[Lt hc,hv,hrel]
     refine⟨.inr ⟨l.blk,l.base+o,_,by rw[h3],(ZX.1 hc).1,λj hj=>?_⟩,by omega,_,_,_,rfl⟩;obtain⟨g1,g2⟩:=h4 j (by omega);have a1:=hat _ _ (by omega) g1;have a2:=hat _ _ (by omega) g2;rw[show l.base+o+j*2=l.base+(o+j*2) by omega];exact⟨a1,by rw[show l.base+(o+j*2)+1=l.base+(o+j*2+1) by omega];exact a2⟩
  ·cases h
 ·cases h
def Zaz(args:List AV)(H:Heap)(r:CR)(he:Zay args H=some r)(σ:Mp)(w:World)(vs:List Value)(hs:WW Tryz.prog σ H w)(hv:YR σ args vs):Ki Tryz.prog σ H w r ((callFunc 113 ⟨vs⟩).run Tryz.prog w):=by
 unfold Zay at he
 split at he
 ·rename_i sv key
  split at he
  ·rename_i zs hz
   cases he;obtain⟨v,vs1,hv1,hv2,rfl⟩:=hv.cons_inv;obtain⟨k,vs2,hk,hv3,rfl⟩:=hv2.cons_inv;obtain rfl:=hv3.nil_inv;simp only[Ym] at hk;subst hk;obtain⟨g1,g2,a,len,cap,rfl⟩:=Ze2 hs hv1 hz;have hc:=(callsIn_wide (n:=5)).1 (last_in Fence.wide 5 trivial trivial trivial rfl (by omega) a len cap key zs g2 w g1);refine pL hs (enters_of Tryz.func113 (by kernel_rfl) rfl _ _) hc ?_;simp only[Ym];exact⟨_,Vr (by simp[Ym]) (U4 (by simp[Ym])),rfl⟩
  ·cases he
 ·cases he
end
section
open Go Go.Proofs Go.Maps Go.Sort
variable {P:Program}
def Tr.made{σ:Mp}{H:Heap}{w w':World}(h:WW P σ H w)(hb:Go.RowKit.Below w.heap.size w w')(o:Obj)(c:Go.Obj)(l:Loc)(hl:w.heap.size<=l.blk)(hc:w'.heap[l.blk]? =some c)
  (ho:Tq (σ.put H.nx l) o l c):Tr P σ H w (σ.put H.nx l) (H.new o) w':=by
 have hf:σ H.nx=none:=h.fresh (Zs _);have he:=Mp.put_ext l hf;have hs:=h.below hb;refine⟨he,⟨?_,?_,?_,?_,?_,?_⟩,hb.size,λk hk _=>hb.block k hk,?_,by simp[Heap.nx_new],rfl,?_,hb.tape,hb.os,hb.output,λb hb hn=>⟨by rw[Heap.get_new,if_neg (by omega)],by unfold Mp.put;rw[if_neg (by omega)];exact hn⟩⟩
 ·intro b m hb
  rw[Heap.nx_new];unfold Mp.put at hb
  by_cases e:b=H.nx
  ·omega
  ·rw[if_neg e] at hb;have:=h.dom b m hb;omega
 ·intro b o' hb
  rw[Heap.get_new] at hb;rw[Heap.nx_new]
  by_cases e:H.nx=b
  ·omega
  ·rw[if_neg e] at hb;have:=h.low b o' hb;omega
 ·intro b o' l' hb hl'
  rw[Heap.get_new] at hb
  by_cases e:H.nx=b
  ·rw[if_pos e] at hb;cases hb;subst e
   rw[Mp.put_same] at hl';cases hl';exact⟨c,hc,ho⟩
  ·rw[if_neg e] at hb
   have hl2:σ b=some l':=by unfold Mp.put at hl';rwa [if_neg (λx=>e x.symm)] at hl'
   obtain⟨c',hc',hr⟩:=hs.alive b o' l' hb hl2;exact⟨c',hc',hr.mono he⟩
 ·intro b b' o1 o2 l1 l2 hb hb' hl1 hl2 e
  rw[Heap.get_new] at hb hb'
  by_cases e1:H.nx=b<;>by_cases e2:H.nx=b'
  ·omega
  ·rw[if_neg e2] at hb'
   subst e1;rw[Mp.put_same] at hl1;cases hl1;have nN:σ b'=some l2:=by unfold Mp.put at hl2;rwa [if_neg (λx=>e2 x.symm)] at hl2
   have:=h.blk_lt hb' nN;omega
  ·rw[if_neg e1] at hb
   subst e2;rw[Mp.put_same] at hl2;cases hl2;have nL:σ b=some l1:=by unfold Mp.put at hl1;rwa [if_neg (λx=>e1 x.symm)] at hl1
   have:=h.blk_lt hb nL;omega
  ·rw[if_neg e1] at hb;rw[if_neg e2] at hb'
   have nL:σ b=some l1:=by unfold Mp.put at hl1;rwa [if_neg (λx=>e1 x.symm)] at hl1
   have nN:σ b'=some l2:=by unfold Mp.put at hl2;rwa [if_neg (λx=>e2 x.symm)] at hl2
   exact h.inj b b' o1 o2 l1 l2 hb hb' nL nN e
 ·intro g hg
  obtain⟨l',h1,h2⟩:=h.glob g hg;exact⟨l',he g l' h1,h2⟩
 ·rw[Heap.ro_new,Heap.nx_new];have:=h.ro;omega
 ·intro b l' hw hl' hlt
  obtain⟨hro,o',ho',hown⟩:=hw;rw[Heap.get_new] at ho'
  by_cases e:H.nx=b
  ·subst e
   rw[Mp.put_same] at hl';cases hl';omega
  ·rw[if_neg e] at ho'
   have hl2:σ b=some l':=by unfold Mp.put at hl';rwa [if_neg (λx=>e x.symm)] at hl'
   exact⟨b,l',⟨hro,o',ho',hown⟩,hl2,rfl⟩
 ·intro b hb
  rw[Heap.get_new,if_neg];have:=h.ro;omega
theorem yK{σ:Mp}: ∀{es:List Ss} {en:List MapEntry} {ks:List (Zd)},YE σ es en->Gj es=some ks->en.map (·.key)=ks.map encStr∧en.map (·.born)=es.map (·.born)
 |[],en,ks,h,hk=>by cases hk;simp only[YE] at h;subst h;exact⟨rfl,rfl⟩
 |a::es,en,ks,h,hk=>by
  simp only[YE] at h;obtain⟨e,en',⟨h1,h2,h3⟩,h4,rfl⟩:=h;unfold Gj at hk
  split at hk
  ·rename_i s r hs hr
   cases hk;obtain⟨g1,g2⟩:=yK h4 hr;rw[hs] at h1;simp only[Ym] at h1;exact⟨by rw[ZD,ZD,g1,h1],by rw[ZD,ZD,g2,h3]⟩
  ·cases hk
theorem FH: ∀{es:List Ss},es.Pairwise (λa b=>a.born<b.born)->(es.map (·.born)).Nodup
 |[],_=>by simp
 |a::es,h=>by
  rw[TC] at h;rw[ZD,SO];refine⟨λhm=>?_,FH h.2⟩;obtain⟨x,hx,he⟩:=YC.1 hm;have:=h.1 x hx;omega
def noR:Value->Option (DataW Unit×List MemPlace):=λ_=>some (.nil,[])
def ZaN{σ:Mp}{H:Heap}{w:World}(hs:WW Tryz.prog σ H w){b:Nat}{lb:Loc}(hl:σ b=some lb){ks:List (Zd)}(hk:xz H b=some ks):
  ∃D0:DataW Unit,w.ownsMap Tryz.prog 9 noR lb.blk ks.length D0∧Maps.size D0=ks.length∧(strKeys D0).Perm ks∧ks.length<=1000:=by
 unfold xz at hk
 split at hk
 ·rename_i es cl hb
  split at hk
  ·rename_i ks' hks
   cases h1:Nat.ble ks'.length 1000 with
   |false=>rw[h1] at hk;cases hk
   |true=>
   rw[h1] at hk;cases h2:ks'.all λs=>Nat.ble s.length 100000 with
   |false=>rw[h2] at hk;cases hk
   |true=>
   rw[h2] at hk;cases h3:decide ks'.Nodup with
   |false=>rw[h3] at hk;cases hk
   |true=>
   rw[h3] at hk;have hk:ks'=ks:=Option.some.inj hk;subst hk;have h1:=ZS h1;have h3:=Zr h3;obtain⟨c,hc,hr⟩:=hs.alive b _ lb hb hl;obtain⟨ents,rfl,he,hri⟩:=hr;obtain⟨g1,g2⟩:=yK he hks;have hlen:ents.toList.length=ks'.length:=by have:=congrArg List.length g1;simpa using this
   have hsz:ents.size=ks'.length:=by simpa using hlen
   have hkey: ∀x∈ents.toList,∃s,x.key=encStr s∧s∈ks':=by
    intro x hx;have:x.key∈ents.toList.map (·.key):=VQ hx
    rw[g1] at this;obtain⟨s,hs,e⟩:=YC.1 this;exact⟨s,e.symm,hs⟩
   have hko: ∀s∈ks',keyOf Tryz.prog 9 (encStr s)=some (.string s):=by
    intro s hs;have hl:=ZS (Ya.1 h2 s hs);have hm:(100000:Nat)<=maxLen:=by decide
    unfold keyOf;rw[Tryz.underlying9];show mapKey Tryz.prog 9 (encStr s)=_;unfold mapKey;rw[Tryz.underlying9];exact if_pos (show s.toArray.size<=maxLen by simp;omega)
   have hrd: ∀x∈ents.toList,∀s,x.key=encStr s->s∈ks'->Go.WideElems.rd Tryz.prog 9 noR x=some (.string s,.nil):=by
    intro x _ s e hm;unfold Go.WideElems.rd;rw[e,hko s hm];rfl
   refine⟨_,⟨ents,cl,hc,⟨by rw[hsz];exact Yb h1 (by decide),⟨λx hx=>?_,by rw[g2];exact FH hri.1,by rw[g1];exact(T1.2 (h3.imp λh e=>h (encStr_inj e)))⟩,λx hx=>?_⟩,by rw[hsz];exact Zs _,rfl⟩,?_,?_,h1⟩
   ·have:x.born∈ents.toList.map (·.born):=VQ hx
    rw[g2] at this;obtain⟨a,ha,e⟩:=YC.1 this;have:=hri.2 a ha;omega
   ·obtain⟨s,e,hm⟩:=hkey x hx
    exact⟨_,hrd x hx s e hm⟩
   ·show List.length (List.foldr DataW.insert [] (ents.toList.map (Go.WideElems.rg Tryz.prog 9 noR)))=_
    rw[(Go.WideShapes.sorted_perm _).length_eq,Zx,hlen]
   ·show(List.map (λp=>strOf p.1) (List.foldr DataW.insert [] (ents.toList.map (Go.WideElems.rg Tryz.prog 9 noR)))).Perm ks'
    refine((Go.WideShapes.sorted_perm _).map _).trans ?_;rw[RI];have: ∀(en:List MapEntry) (ks:List (Zd)),en.map (·.key)=ks.map encStr->(∀x∈en,∀s,x.key=encStr s->s∈ks->Go.WideElems.rd Tryz.prog 9 noR x=some (.string s,.nil))->en.map ((λp=>strOf p.1)∘Go.WideElems.rg Tryz.prog 9 noR)=ks:=by
     intro en
     induction en with
     |nil=>intro ks h _;cases ks with
      |nil=>rfl
      |cons=>cases h
     |cons x en ih=>
      intro ks h hh;cases ks with
      |nil=>cases h
      |cons s ks=>
       rw[ZD,ZD] at h;injection h with a1 a2;rw[ZD,ih ks a2 λy hy t e hm=>hh y (ZC _ hy) t e (ZC _ hm)]
       congr 1
       show strOf (Go.WideElems.rg Tryz.prog 9 noR x).1=s;rw[Go.WideElems.rg_of (hh x (Zw ..) s a1 (Zw ..))];rfl
    rw[this _ _ g1 λx hx s e hm=>hrd x hx s e hm]
  ·cases hk
 ·cases hk
def A7{σ:Mp}{H:Heap}{w:World}(hs:WW Tryz.prog σ H w){m:Nat}{lm:Loc}(hlm:σ m=some lm){ks:List (Zd)}(hk:Hx H m=some ks):
  Calls Tryz.prog 118 #[.func (.func 148) #[] #[.pointer (some ⟨lm.blk,lm.base+0,none⟩)]] w λe w'=> ∃(v:Value) (ss:List (Zd)),e=.returned v∧ss.Perm ks∧
   w'.ownsRow w.heap.size 9 1 v ss.length ((QR ks).map encStr)∧(v=.slice none 0 0↔ss=[])∧Go.RowKit.Below w.heap.size w w':=by
 unfold Hx at hk
 split at hk
 ·rename_i r hm
  cases hx:r.exact with
  |false=>rw[hx] at hk;cases hk
  |true=>
  rw[hx] at hk;cases h1:Nat.ble 1 r.size with
  |false=>rw[h1] at hk;cases hk
  |true=>
  rw[h1] at hk;have h1:=ZS h1
  change (match r.get 0 with|.map b=>xz H b|_=>none)=some ks at hk
  split at hk
  ·rename_i b hb
   obtain⟨cs,fr,hc,hrr⟩:=hs.row hm hlm;obtain⟨v,hv,hrel⟩:=hrr.cell 0 (by omega);rw[hb] at hrel;simp only[Ym] at hrel;obtain⟨lb,hlb,rfl⟩:=hrel;obtain⟨_,hb0,_⟩:=hrr.exact hx;obtain⟨D0,ho,hsz,hp,hlen⟩:=ZaN hs hlb hk;have hcell:w.cell? ⟨lm.blk,0,none⟩=some (.map (some lb.blk)):=by
    rw[Lt hc,<-hv,hb0]
   rw[hb0,Zo];refine(sorted_calls lb.blk ks.length D0 noR w lm.blk (ZX.1 hc).1 hcell ho (by rw[hsz];exact Yb hlen (by decide)) (by rw[hsz];omega)).mono ?_;rintro e w' ⟨v,ss,rfl,h3,h4,h5,h6⟩;refine⟨v,ss,rfl,h3.trans hp,?_,h5,h6⟩;have:ss.mergeSort (λx y=>decide (x<=y))=QR ks:=mergeSort_of_perm (h3.trans hp);rw[<-this];exact h4
  ·cases hk
 ·cases hk
def Zb9(args:List AV)(H:Heap)(r:CR)(he:pQ 148 args H=some r)(σ:Mp)(w:World)(vs:List Value)(hs:WW Tryz.prog σ H w)(hv:YR σ args vs):Ki Tryz.prog σ H w r ((callFunc 118 ⟨vs⟩).run Tryz.prog w):=by
 unfold pQ at he
 split at he
 ·rename_i f m
  cases h1:Nat.beq f 148 with
  |false=>rw[h1] at he;cases he
  |true=>
  rw[h1] at he;have h1:=Yf h1;subst h1;obtain⟨v,vs1,hv1,hv2,rfl⟩:=hv.cons_inv;obtain rfl:=hv2.nil_inv;simp only[Ym] at hv1;obtain⟨x,y,hx,hy,rfl⟩:=hv1;obtain rfl:=hx.nil_inv;obtain⟨p,ps,hp1,hp2,rfl⟩:=hy.cons_inv;obtain rfl:=hp2.nil_inv;simp only[Ym] at hp1;obtain⟨lm,hlm,rfl⟩:=hp1;have hen:(callFunc 118 ⟨[.func (.func 148) ⟨[]⟩ ⟨[.pointer (some ⟨lm.blk,lm.base+0,none⟩)]⟩]⟩).run Tryz.prog w=.ok (.enter 118 ⟨[.func (.func 148) ⟨[]⟩ ⟨[.pointer (some ⟨lm.blk,lm.base+0,none⟩)]⟩]⟩) w:=enters_of Tryz.func118 (by kernel_rfl) rfl _ _
  change (match Hx H m with|some []=>some (CR.ret .nils H)|some (a::l)=>some (.ret (.slice H.nx 0 (l.length+1) none) (H.new (FO (QR (a::l)))))|none=>none)=some r at he
  split at he
  ·rename_i hk
   cases he;have hc:=A7 hs hlm hk;refine pL (v:=.slice none 0 0) hs hen (hc.mono ?_) (by simp[Ym]);rintro e w' ⟨v,ss,rfl,h3,h4,h5,h6⟩;have:ss=[]:=h3.eq_nil;rw[h5.2 this];exact⟨rfl,h6⟩
  ·rename_i a l hk
   cases he;rw[hen];have hc:=A7 hs hlm hk;refine Calls.mono hc ?_;rintro e w' ⟨v,ss,rfl,h3,h4,h5,h6⟩;have hlen:ss.length=l.length+1:=by rw[h3.length_eq];rfl
   have hne:ss≠[]:=by intro e;rw[e] at hlen;cases hlen
   have hsl:(QR (a::l)).length=l.length+1:=by unfold QR;rw[List.length_mergeSort];rfl
   obtain⟨hx,h4⟩:=h4;rcases h4 with⟨rfl,hz⟩|⟨gb,cap,cur,rfl,hbase,hgb,r1,r2,r3,r4⟩
   ·exact absurd (h5.1 rfl) hne
   have hT:=Tr.made hs h6 (FO (QR (a::l))) (.cells cur 9 (0,0)) ⟨gb,0,cap,1⟩ hbase hgb ?_
   ·refine⟨σ.put H.nx ⟨gb,0,cap,1⟩,?_,hT⟩
    simp only[Ym];exact⟨_,Mp.put_same _ _ _,by rw[hlen];simp⟩
   ·have hrs:YN ((QR (a::l)).map AV.str)=ss.length:=by rw[Yw,Zx,hsl,hlen]
    have Zlb: ∀i,i<ss.length-> ∃s,cur[0+i]? =some (encStr s)∧((QR (a::l)).map AV.str).getD i .unk=.str s:=by
     intro i hi;have h7:(QR (a::l))[i]? =some ((QR (a::l))[i]'(by omega)):=Zm (by omega);refine⟨_,?_,by rw[Ze,Z3,h7];rfl⟩;have h8:(cur.toList.take (ss.length*1))[i]? =some (encStr ((QR (a::l))[i]'(by omega))):=by rw[r4,Z3,h7];rfl
     rw[Yu (by omega)] at h8;rw[Zl]
     simpa using h8
    refine⟨cur,(0,0),rfl,rfl,Zs 1,?_,?_,(λh=>by cases h),λi hi=>?_,λi v hi hv=>?_,λ_ i _ _ h=>by have:=h.2;omega,λ_ _=>.inl rfl⟩
    ·show YN _<=cap*1
     rw[hrs];omega
    ·show 0+cap*1<=cur.size
     omega
    ·have hi:i<ss.length:=by rw[<-hrs];exact hi
     obtain⟨s,g1,g2⟩:=Zlb i hi;refine⟨_,g1,?_⟩;rw[EL,g2];simp only[Ym]
    ·have hi:i<ss.length:=by rw[<-hrs];exact hi
     obtain⟨s,g1,g2⟩:=Zlb i hi;have hv:cur[0+i]? =some v:=hv;rw[g1] at hv;cases hv;rfl
  ·cases he
 ·cases he
end
end
end Go.AI
