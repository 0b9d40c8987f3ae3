/- What is looked up in TarSums: the document's example, evaluated by itself; and the law comes out true: proved; no conditions but those that are named. -/
import Derived.Test.YtbmdhpdcgbgcnaaGreatDoorSN
import Derived.Test.YtbmdhpdcgbgcnaaGreatDoorPZ
import Derived.Test.YtbmdhpdcgbgcnaaGreatDoorP6
set_option maxRecDepth 1000000
set_option maxHeartbeats 0
set_option linter.unusedVariables false
set_option linter.unusedSimpArgs false
namespace Go.AI
open Go Go.Proofs Go.Proofs.YtbmdhpdcgbgcnaaGreatDoor
noncomputable section
def DV:List vl:=(List.range 21).map (λx=>⟨65,[.str [48],nI .i64 x],.str (List.replicate x 48)⟩)++[⟨92,[nI .u64 1,nI .u64 8],.tup [nI .u64 0,nI .u64 8]⟩]
def pE:Nat->List AV->Heap->Option CR:=P5 100 (λ_=>.leaf) Zx DV
theorem dI:Ou Tryz.prog pE:=by
 refine Gp (Zm (by kernel_rfl)) (λe b o h=>by cases(T.get_leaf b).symm.trans h) zu DV λx hx=>?_
 unfold DV at hx
 rcases ZD.1 hx with hx|hx
 ·obtain⟨n,hn,rfl⟩:=Xq.1 hx
  exact⟨_,yI,rfl,rfl,λ_=>Y2.1 pw n hn⟩
 ·rw[Zv.1 hx]
  exact⟨_,yI,rfl,rfl,λ_=>pv⟩
theorem Ej{H:Heap}(h:100<=H.nx):Bears 100 T.leaf H:=⟨h,λb o hb=>by cases(T.get_leaf b).symm.trans hb⟩
theorem kR(x:Nat)(H:Heap)(h:100<=H.nx)(hx:x<=20):pE 65 [.str [48],nI .i64 x] H=some (.ret (.str (List.replicate x 48)) H):=
 OO (t:=λ_=>.leaf) (e:=λ_=>0) (Ej h) (x:=⟨65,[.str [48],nI .i64 x],.str (List.replicate x 48)⟩) (ZD.2 (.inl (Xq.2 ⟨x,Tc.2 (by omega),rfl⟩))) (λy hy hf ha=>by
  unfold DV at hy
  rcases ZD.1 hy with hy|hy
  ·obtain⟨n,_,rfl⟩:=Xq.1 hy
   have ha:[AV.str [48],nI .i64 n]=[.str [48],nI .i64 x]:=ha
   injection ha with _ ha
   injection ha with ha _
   injection ha with _ ha
   injection ha with ha
   rw[ha]
  ·rw[Zv.1 hy] at hf
   exact absurd hf (by show ¬92=65;decide))
theorem kP(H:Heap)(h:100<=H.nx):pE 92 [nI .u64 1,nI .u64 8] H=some (.ret (.tup [nI .u64 0,nI .u64 8]) H):=
 OO (t:=λ_=>.leaf) (e:=λ_=>0) (Ej h) (x:=⟨92,[nI .u64 1,nI .u64 8],.tup [nI .u64 0,nI .u64 8]⟩) (ZD.2 (.inr (Zv.2 rfl))) (λy hy hf ha=>by
  unfold DV at hy
  rcases ZD.1 hy with hy|hy
  ·obtain⟨n,_,rfl⟩:=Xq.1 hy
   exact absurd hf (by show ¬65=92;decide)
  ·rw[Zv.1 hy])
theorem kQ{f:Nat}(h1:Nat.beq 65 f=false)(h2:Nat.beq 92 f=false)(l:List AV)(H:Heap):pE f l H=Zx f l H:=by
 have go: ∀L:List vl,(∀x∈L,Nat.beq x.f f=false)->P5 100 (λ_=>.leaf) Zx L f l H=Zx f l H:=λL=>by
  induction L with
  |nil=>intro _;rfl
  |cons x L ih=>
   intro hx
   unfold P5
   rw[hx x (.head _),cond_false]
   exact ih λy hy=>hx y (.tail _ hy)
 refine go DV λx hx=>?_
 unfold DV at hx
 rcases ZD.1 hx with hx|hx
 ·obtain⟨n,_,rfl⟩:=Xq.1 hx;exact h1
 ·rw[Zv.1 hx];exact h2
def tI:List vl:=[⟨6,[],.bool true⟩]
def dK:Nat->List AV->Heap->Option CR:=P5 100 (λe=>(H0 e).t) pE tI
theorem zV(e:Nat->Nat)(b:Nat)(o:Obj)(h:(H0 e).t.get b=some o):b<100∧kV 100 o∧(MG o∨ ∃es,o=.cmap es):=
 yx (n:=100) (by kernel_rfl) (by kernel_rfl) h
theorem dL:Ou Tryz.prog dK:=by
 refine Gp (Zm (by kernel_rfl)) zV dI tI λx hx=>?_
 unfold tI at hx
 rw[Zv.1 hx]
 exact⟨_,kF,rfl,rfl,kG⟩
abbrev xv:Nat->List AV->Heap->Option CR:=dK
theorem dJ:Ou Tryz.prog xv:=dL
theorem Zb3:Sa Tryz.prog (Z7 (LK xv fs 18446744073709551616 13) fs 18446744073709551616 1000):=
 JE ru (zw (λ_ h=>JE ru h EP 18446744073709551616 900) dJ 13) EP 18446744073709551616 1000
theorem J5{f:Nat}(h1:Nat.beq 65 f=false)(h2:Nat.beq 92 f=false)(h3:Nat.beq 6 f=false)(l:List AV)(H:Heap):xv f l H=Zx f l H:=by
 rw[<-kQ h1 h2 l H]
 unfold xv dK tI P5
 show cond (Nat.beq 6 f) _ _=_
 rw[h3,cond_false];rfl
theorem kS{f:Nat}(h3:Nat.beq 6 f=false)(l:List AV)(H:Heap):xv f l H=pE f l H:=by
 unfold xv dK tI P5
 show cond (Nat.beq 6 f) _ _=_
 rw[h3,cond_false];rfl
theorem env:Env xv fs 18446744073709551616:=by
 constructor
 case big=>decide
 case ix=>
  exact λs x H h=>by
    rw[J5 rfl rfl rfl]
    show(cond (Nat.ble x 255) (some (CR.ret (.int .i64 (QC x s 0)) H)) none)=_
    rw[Zj (by omega)];rfl
 case cn=>
  exact λs x H h=>by
    rw[J5 rfl rfl rfl]
    show(cond (Nat.ble x 255) (some (CR.ret (nI .i64 (XT x s 0)) H)) none)=_
    rw[Zj (by omega)];rfl
 case rz=>
  exact λx H h hx=>(kS rfl _ _).trans (kR x H h hx)
 case mz=>
  exact λx H h=>by
    rw[J5 rfl rfl rfl]
    show(cond (Nat.ble x 281474976710656) (some (CR.ret (.slice H.nx 0 x none) (H.new (.row ⟨5,1,x,.leaf,.unk,0,false,true,false⟩)))) none)=_
    rw[Zj h];rfl
 case ml=>
  exact λH h=>(kS rfl _ _).trans (kP H h)
 all_goals first|exact λl H=>J5 rfl rfl rfl l H|kernel_rfl
theorem Zjg:MB Rows.laid_portolan_tar_types=tEs:=by kernel_rfl
theorem ZhG:MB Rows.laid_portolan_field_fields=fEs:=by kernel_rfl
theorem ZiZ:SW Rows.laid_internal_strconv_uint64pow10=rQ.map bK:=by kernel_rfl
theorem lF{e:Nat->Nat}{H:Heap}(hb:Bears 100 (H0 e).t H)(hro:H.ro<=H.nx):TL H:=by
 have h1:(H0 e).t.get 2=some (.row ⟨e 2,1,Xa [AV.map 14],T.ofList [AV.map 14],.unk,0,false,false,true⟩):=by kernel_rfl
 have h2:(H0 e).t.get 14=some (.cmap cEs):=by kernel_rfl
 have h3:(H0 e).t.get 0=some (.row ⟨e 0,1,Xa [AV.map 12],T.ofList [AV.map 12],.unk,0,false,false,true⟩):=by kernel_rfl
 have h4:(H0 e).t.get 12=some (.cmap tEs):=by rw[<-Zjg];kernel_rfl
 have h5:(H0 e).t.get 3=some (.row ⟨e 3,1,Xa [AV.map 15],T.ofList [AV.map 15],.unk,0,false,false,true⟩):=by kernel_rfl
 have h6:(H0 e).t.get 15=some (.cmap fEs):=by rw[<-ZhG];kernel_rfl
 have h7:(H0 e).t.get 5=some (.row ⟨e 5,1,Xa (SW Rows.laid_internal_strconv_uint64pow10),T.ofList (SW Rows.laid_internal_strconv_uint64pow10),.unk,0,false,false,true⟩):=by kernel_rfl
 have h8:(H0 e).t.get 7=some (.row ⟨e 7,1,Xa (SW Rows.laid_math_bits_deBruijn64tab),T.ofList (SW Rows.laid_math_bits_deBruijn64tab),.unk,0,false,false,true⟩):=by kernel_rfl
 exact⟨⟨hb.1,hro,⟨_,hb.2 _ _ h1,YP 0,rfl⟩,hb.2 _ _ h2,⟨_,hb.2 _ _ h3,YP 0,rfl⟩,hb.2 _ _ h4⟩,⟨hb.1,⟨_,hb.2 _ _ h7,by rw[<-ZiZ];exact Cells.new ..⟩,_,hb.2 _ _ h8,Zm (by kernel_rfl),by kernel_rfl⟩,⟨_,hb.2 _ _ h5,YP 0,rfl⟩,hb.2 _ _ h6⟩
theorem ZiA:MB Rows.laid_portolan_tar_kinds=kEs:=by kernel_rfl
theorem lG{e:Nat->Nat}{H:Heap}(hb:Bears 100 (H0 e).t H)(hro:H.ro<=H.nx):MW H:=by
 have h1:(H0 e).t.get 1=some (.row ⟨e 1,1,Xa [AV.map 13],T.ofList [AV.map 13],.unk,0,false,false,true⟩):=by kernel_rfl
 have h2:(H0 e).t.get 13=some (.cmap kEs):=by rw[<-ZiA];kernel_rfl
 exact⟨lF hb hro,⟨_,hb.2 _ _ h1,YP 0,rfl⟩,hb.2 _ _ h2⟩
abbrev Zdr(H:Heap)(s:Sh)(v:AV):Prop:=Told H s v
theorem kL{e:Nat->Nat}{H:Heap}(hb:Bears 100 (H0 e).t H)(hro:H.ro<=H.nx){cs:List AV}(hl:cs.length=9)(ht: ∀(j:Nat) s,xF[j]? =some s->Told H s (cs.getD j .unk)){a b:Nat}(ha:a<65536)(h2:b<256):
  ∃H',Z7 (LK xv fs 18446744073709551616 13) fs 18446744073709551616 1000 3 [.agg cs,nI .u16 a,nI .u8 b] H=.ret (.bool true) H':=by
 have hb': ∀H',ZaJ H H'->Bears 100 (H0 e).t H':=λH' k=>⟨YR hb.1 k.1,λc o h=>(k.2.2 c (zV e c o h).1).trans (hb.2 c o h)⟩
 obtain⟨m,hM,hok⟩:=gj hl ht
 refine dE (n:=990) env (lG hb hro) hM hok h2 (λG k=>?_) ha
 exact OO (hb' G k) (x:=⟨6,[],.bool true⟩) (by unfold tI;simp) (by unfold tI;simp)
theorem ZcN:Mn Tryz.prog 10 28=some xF:=by kernel_rfl
end
end Go.AI
