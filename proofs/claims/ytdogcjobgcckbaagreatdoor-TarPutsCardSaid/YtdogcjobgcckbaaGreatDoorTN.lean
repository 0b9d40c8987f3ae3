/- What is looked up in TarPuts: the document's example, evaluated by itself; and the law comes out true: proved; no conditions but those that are named. -/
import Derived.Test.YtdogcjobgcckbaaGreatDoorSN
import Derived.Test.YtdogcjobgcckbaaGreatDoorPQ
import Derived.Test.YtdogcjobgcckbaaGreatDoorP6
set_option maxRecDepth 1000000
set_option maxHeartbeats 0
set_option linter.unusedVariables false
set_option linter.unusedSimpArgs false
namespace Go.AI
open Go Go.Proofs Go.Proofs.YtdogcjobgcckbaaGreatDoor
noncomputable section
def BT:List tJ:=(List.range 21).map (λx=>⟨79,[.str [48],nI .i64 x],.str (List.replicate x 48)⟩)++[⟨95,[nI .u64 1,nI .u64 8],.tup [nI .u64 0,nI .u64 8]⟩]
def lc:Nat->List AV->Heap->Option CR:=OQ 100 (λ_=>.leaf) Zn BT
theorem Zbc:Nf Tryz.prog lc:=by
 refine F7 (Zm (by kernel_rfl)) (λe b o h=>by cases(T.get_leaf b).symm.trans h) xi BT λx hx=>?_
 unfold BT at hx
 rcases Zr.1 hx with hx|hx
 ·obtain⟨n,hn,rfl⟩:=YQ.1 hx
  exact⟨_,wI,rfl,rfl,λ_=>Yo.1 mV n hn⟩
 ·rw[Zq.1 hx]
  exact⟨_,wI,rfl,rfl,λ_=>mU⟩
theorem DG{H:Heap}(h:100<=H.nx):Bears 100 T.leaf H:=⟨h,λb o hb=>by cases(T.get_leaf b).symm.trans hb⟩
theorem eH(x:Nat)(H:Heap)(h:100<=H.nx)(hx:x<=20):lc 79 [.str [48],nI .i64 x] H=some (.ret (.str (List.replicate x 48)) H):=
 NM (t:=λ_=>.leaf) (e:=λ_=>0) (DG h) (x:=⟨79,[.str [48],nI .i64 x],.str (List.replicate x 48)⟩) (Zr.2 (.inl (YQ.2 ⟨x,T1.2 (by omega),rfl⟩))) (λy hy hf ha=>by
  unfold BT at hy
  rcases Zr.1 hy with hy|hy
  ·obtain⟨n,_,rfl⟩:=YQ.1 hy
   have ha:[AV.str [48],nI .i64 n]=[.str [48],nI .i64 x]:=ha
   injection ha with _ ha
   injection ha with ha _
   injection ha with _ ha
   injection ha with ha
   rw[ha]
  ·rw[Zq.1 hy] at hf
   exact absurd hf (by show ¬95=79;decide))
theorem eD(H:Heap)(h:100<=H.nx):lc 95 [nI .u64 1,nI .u64 8] H=some (.ret (.tup [nI .u64 0,nI .u64 8]) H):=
 NM (t:=λ_=>.leaf) (e:=λ_=>0) (DG h) (x:=⟨95,[nI .u64 1,nI .u64 8],.tup [nI .u64 0,nI .u64 8]⟩) (Zr.2 (.inr (Zq.2 rfl))) (λy hy hf ha=>by
  unfold BT at hy
  rcases Zr.1 hy with hy|hy
  ·obtain⟨n,_,rfl⟩:=YQ.1 hy
   exact absurd hf (by show ¬79=95;decide)
  ·rw[Zq.1 hy])
theorem eG{f:Nat}(h1:Nat.beq 79 f=false)(h2:Nat.beq 95 f=false)(l:List AV)(H:Heap):lc f l H=Zn f l H:=by
 have go: ∀L:List tJ,(∀x∈L,Nat.beq x.f f=false)->OQ 100 (λ_=>.leaf) Zn L f l H=Zn f l H:=λL=>by
  induction L with
  |nil=>intro _;rfl
  |cons x L ih=>
   intro hx
   unfold OQ
   rw[hx x (.head _),cond_false]
   exact ih λy hy=>hx y (.tail _ hy)
 refine go BT λx hx=>?_
 unfold BT at hx
 rcases Zr.1 hx with hx|hx
 ·obtain⟨n,_,rfl⟩:=YQ.1 hx;exact h1
 ·rw[Zq.1 hx];exact h2
def qJ:List tJ:=[⟨15,[],.bool true⟩]
def Zbe:Nat->List AV->Heap->Option CR:=OQ 100 (λe=>(H0 e).t) lc qJ
theorem xK(e:Nat->Nat)(b:Nat)(o:Obj)(h:(H0 e).t.get b=some o):b<100∧eO 100 o∧(LR o∨ ∃es,o=.cmap es):=
 ww (n:=100) (by kernel_rfl) (by kernel_rfl) h
theorem Zbf:Nf Tryz.prog Zbe:=by
 refine F7 (Zm (by kernel_rfl)) xK Zbc qJ λx hx=>?_
 unfold qJ at hx
 rw[Zq.1 hx]
 exact⟨_,fW,rfl,rfl,fX⟩
abbrev vN:Nat->List AV->Heap->Option CR:=Zbe
theorem Zbd:Nf Tryz.prog vN:=Zbf
theorem ZfC:Si Tryz.prog (ZE (LK vN fs 18446744073709551616 13) fs 18446744073709551616 1000):=
 Hx oi (xj (λ_ h=>Hx oi h Co 18446744073709551616 900) Zbd 13) Co 18446744073709551616 1000
theorem Gg{f:Nat}(h1:Nat.beq 79 f=false)(h2:Nat.beq 95 f=false)(h3:Nat.beq 15 f=false)(l:List AV)(H:Heap):vN f l H=Zn f l H:=by
 rw[<-eG h1 h2 l H]
 unfold vN Zbe qJ OQ
 show cond (Nat.beq 15 f) _ _=_
 rw[h3,cond_false];rfl
theorem eJ{f:Nat}(h3:Nat.beq 15 f=false)(l:List AV)(H:Heap):vN f l H=lc f l H:=by
 unfold vN Zbe qJ OQ
 show cond (Nat.beq 15 f) _ _=_
 rw[h3,cond_false];rfl
theorem env:Env vN fs 18446744073709551616:=by
 constructor
 case big=>decide
 case ix=>
  exact λs x H h=>by
    rw[Gg rfl rfl rfl]
    show(cond (Nat.ble x 255) (some (CR.ret (.int .i64 (Q8 x s 0)) H)) none)=_
    rw[Zk (by omega)];rfl
 case cn=>
  exact λs x H h=>by
    rw[Gg rfl rfl rfl]
    show(cond (Nat.ble x 255) (some (CR.ret (nI .i64 (Xy x s 0)) H)) none)=_
    rw[Zk (by omega)];rfl
 case rz=>
  exact λx H h hx=>(eJ rfl _ _).trans (eH x H h hx)
 case mz=>
  exact λx H h=>by
    rw[Gg rfl rfl rfl]
    show(cond (Nat.ble x 281474976710656) (some (CR.ret (.slice H.nx 0 x none) (H.new (.row ⟨5,1,x,.leaf,.unk,0,false,true,false⟩)))) none)=_
    rw[Zk h];rfl
 case ml=>
  exact λH h=>(eJ rfl _ _).trans (eD H h)
 all_goals first|exact λl H=>Gg rfl rfl rfl l H|kernel_rfl
theorem ZnG:EE Rows.laid_portolan_tar_types=tEs:=by kernel_rfl
theorem Zmd:EE Rows.laid_portolan_field_fields=fEs:=by kernel_rfl
theorem Zns:S5 Rows.laid_internal_strconv_uint64pow10=oE.map ZcI:=by kernel_rfl
theorem gC{e:Nat->Nat}{H:Heap}(hb:Bears 100 (H0 e).t H)(hro:H.ro<=H.nx):Sd H:=by
 have h1:(H0 e).t.get 1=some (.row ⟨e 1,1,YK [AV.map 10],T.ofList [AV.map 10],.unk,0,false,false,true⟩):=by kernel_rfl
 have h2:(H0 e).t.get 10=some (.cmap cEs):=by kernel_rfl
 have h3:(H0 e).t.get 0=some (.row ⟨e 0,1,YK [AV.map 9],T.ofList [AV.map 9],.unk,0,false,false,true⟩):=by kernel_rfl
 have h4:(H0 e).t.get 9=some (.cmap tEs):=by rw[<-ZnG];kernel_rfl
 have h5:(H0 e).t.get 2=some (.row ⟨e 2,1,YK [AV.map 11],T.ofList [AV.map 11],.unk,0,false,false,true⟩):=by kernel_rfl
 have h6:(H0 e).t.get 11=some (.cmap fEs):=by rw[<-Zmd];kernel_rfl
 have h7:(H0 e).t.get 4=some (.row ⟨e 4,1,YK (S5 Rows.laid_internal_strconv_uint64pow10),T.ofList (S5 Rows.laid_internal_strconv_uint64pow10),.unk,0,false,false,true⟩):=by kernel_rfl
 have h8:(H0 e).t.get 6=some (.row ⟨e 6,1,YK (S5 Rows.laid_math_bits_deBruijn64tab),T.ofList (S5 Rows.laid_math_bits_deBruijn64tab),.unk,0,false,false,true⟩):=by kernel_rfl
 exact⟨⟨hb.1,hro,⟨_,hb.2 _ _ h1,YM 0,rfl⟩,hb.2 _ _ h2,⟨_,hb.2 _ _ h3,YM 0,rfl⟩,hb.2 _ _ h4⟩,⟨hb.1,⟨_,hb.2 _ _ h7,by rw[<-Zns];exact Cells.new ..⟩,_,hb.2 _ _ h8,Zm (by kernel_rfl),by kernel_rfl⟩,⟨_,hb.2 _ _ h5,YM 0,rfl⟩,hb.2 _ _ h6⟩
abbrev ZgW(H:Heap)(s:Sh)(v:AV):Prop:=Told H s v
theorem ek{e:Nat->Nat}{H:Heap}(hb:Bears 100 (H0 e).t H)(hro:H.ro<=H.nx){v:AV}(ht:Told H (.sl vX) v){z:Int}:
  ∃H',ZE (LK vN fs 18446744073709551616 13) fs 18446744073709551616 1000 3 [v,.int .i64 z] H=.ret (.bool true) H':=by
 have hb': ∀H',Zeh H H'->Bears 100 (H0 e).t H':=λH' k=>⟨Z5 hb.1 k.1,λc o h=>(k.2.2 c (xK e c o h).1).trans (hb.2 c o h)⟩
 obtain⟨L,hE,hok,hlen⟩:=jn ht
 refine Za6 (n:=990) env (gC hb hro) hE hok λG k=>?_
 exact NM (hb' G k) (x:=⟨15,[],.bool true⟩) (by unfold qJ;simp) (by unfold qJ;simp)
theorem Zgp:LF Tryz.prog 10 22=some [.sl vX]:=by kernel_rfl
end
end Go.AI
