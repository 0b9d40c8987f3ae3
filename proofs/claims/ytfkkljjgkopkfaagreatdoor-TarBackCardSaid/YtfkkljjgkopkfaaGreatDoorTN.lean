/- What is looked up in TarBack: the document's example, evaluated by itself; and the law comes out true: proved; no conditions but those that are named. -/
import Derived.Test.YtfkkljjgkopkfaaGreatDoorSN
import Derived.Test.YtfkkljjgkopkfaaGreatDoorPO
import Derived.Test.YtfkkljjgkopkfaaGreatDoorPY
import Derived.Test.YtfkkljjgkopkfaaGreatDoorP6
set_option maxRecDepth 1000000
set_option maxHeartbeats 0
set_option linter.all false
namespace Go.AI
open Go Go.Proofs Go.Proofs.YtfkkljjgkopkfaaGreatDoor
noncomputable section
def zw:List iZ:=(List.range 21).map (λx=>⟨67,[.str [48],nI .i64 x],.str (List.replicate x 48)⟩)++[⟨94,[nI .u64 1,nI .u64 8],.tup [nI .u64 0,nI .u64 8]⟩]
def fZ:Nat->List AV->Heap->Option CR:=L1 100 (λ_=>.leaf) Zq zw
def Zee:Kb Tryz.prog fZ:=by
 refine ve (Zr (by kernel_rfl)) (λe b o h=>by cases(T.get_leaf b).symm.trans h) jH zw λx hx=>?_;unfold zw at hx;rcases Zt.1 hx with hx|hx
 ·obtain⟨n,hn,rfl⟩:=YC.1 hx
  exact⟨_,tX,rfl,rfl,λ_=>Ya.1 fR n hn⟩
 ·rw[Zn.1 hx]
  exact⟨_,tX,rfl,rfl,λ_=>fQ⟩
def C7{H:Heap}(h:100<=H.nx):Bears 100 T.leaf H:=⟨h,λb o hb=>by cases(T.get_leaf b).symm.trans hb⟩
def ZaH(x:Nat)(H:Heap)(h:100<=H.nx)(hx:x<=20):fZ 67 [.str [48],nI .i64 x] H=some (.ret (.str (List.replicate x 48)) H):=
 L3 (t:=λ_=>.leaf) (e:=λ_=>0) (C7 h) (x:=⟨67,[.str [48],nI .i64 x],.str (List.replicate x 48)⟩) (Zt.2 (.inl (YC.2 ⟨x,XM.2 (by omega),rfl⟩))) (λy hy hf ha=>by
  unfold zw at hy
  rcases Zt.1 hy with hy|hy
  ·obtain⟨n,_,rfl⟩:=YC.1 hy
   have ha:[AV.str [48],nI .i64 n]=[.str [48],nI .i64 x]:=ha
   injection ha with _ ha
   injection ha with ha _
   injection ha with _ ha
   injection ha with ha
   rw[ha]
  ·rw[Zn.1 hy] at hf
   exact absurd hf (by show ¬94=67;decide))
def ZaF(H:Heap)(h:100<=H.nx):fZ 94 [nI .u64 1,nI .u64 8] H=some (.ret (.tup [nI .u64 0,nI .u64 8]) H):=
 L3 (t:=λ_=>.leaf) (e:=λ_=>0) (C7 h) (x:=⟨94,[nI .u64 1,nI .u64 8],.tup [nI .u64 0,nI .u64 8]⟩) (Zt.2 (.inr (Zn.2 rfl))) (λy hy hf ha=>by
  unfold zw at hy
  rcases Zt.1 hy with hy|hy
  ·obtain⟨n,_,rfl⟩:=YC.1 hy
   exact absurd hf (by show ¬67=94;decide)
  ·rw[Zn.1 hy])
def ZaG{f:Nat}(h1:Nat.beq 67 f=false)(h2:Nat.beq 94 f=false)(l:List AV)(H:Heap):fZ f l H=Zq f l H:=by
 have go: ∀L:List iZ,(∀x∈L,Nat.beq x.f f=false)->L1 100 (λ_=>.leaf) Zq L f l H=Zq f l H:=λL=>by
  induction L with
  |nil=>intro _;rfl
  |cons x L ih=>
   intro hx;unfold L1;rw[hx x (.head _),cond_false];exact ih λy hy=>hx y (.tail _ hy)
 refine go zw λx hx=>?_;unfold zw at hx;rcases Zt.1 hx with hx|hx
 ·obtain⟨n,_,rfl⟩:=YC.1 hx;exact h1
 ·rw[Zn.1 hx];exact h2
def Zby(e:Nat->Nat)(b:Nat)(o:Obj)(h:(H0 e).t.get b=some o):b<100∧ZaK 100 o∧(Ig o∨ ∃es,o=.cmap es):=
 tL (n:=100) (by kernel_rfl) (by kernel_rfl) h
def rU(f:Nat)(vs:List AV)(H:Heap):Option CR:=cond (Nat.beq 113 f) (Zay vs H) (cond (Nat.beq 118 f) (pQ 148 vs H) (fZ f vs H))
def n8{f:Nat}(h1:Nat.beq 113 f=false)(h2:Nat.beq 118 f=false)(vs:List AV)(H:Heap):rU f vs H=fZ f vs H:=by
 unfold rU;rw[h1,h2];rfl
def Zef:Kb Tryz.prog rU:=by
 intro f args H r he σ w vs hs hv;unfold rU at he;cases h1:Nat.beq 113 f with
 |true=>
  rw[h1,cond_true] at he;obtain rfl:=Yf h1;exact Zaz args H r he σ w vs hs hv
 |false=>
  rw[h1,cond_false] at he;cases h2:Nat.beq 118 f with
  |true=>
   rw[h2,cond_true] at he;obtain rfl:=Yf h2;exact Zb9 args H r he σ w vs hs hv
  |false=>
   rw[h2,cond_false] at he;exact Zee f args H r he σ w vs hs hv
def Zip:PD Tryz.prog (ZA (LK rU fs 18446744073709551616 13) fs 18446744073709551616 1000):=
 Bo mixed (uc (λ_ h=>Bo mixed h vQ 18446744073709551616 900) Zef 13) vQ 18446744073709551616 1000
def K8{f:Nat}(h1:Nat.beq 67 f=false)(h2:Nat.beq 94 f=false)(h4:Nat.beq 113 f=false)(h5:Nat.beq 118 f=false)(l:List AV)(H:Heap):rU f l H=Zq f l H:=by
 rw[n8 h4 h5,ZaG h1 h2]
def env:Env rU fs 18446744073709551616:=by
 constructor
 case big=>decide
 case ix=>
  exact λs x H h=>by
    rw[K8 rfl rfl rfl rfl];show(cond (Nat.ble x 255) (some (CR.ret (.int .i64 (Pb x s 0)) H)) none)=_;rw[Zj (by omega)];rfl
 case cn=>
  exact λs x H h=>by
    rw[K8 rfl rfl rfl rfl];show(cond (Nat.ble x 255) (some (CR.ret (nI .i64 (Xv x s 0)) H)) none)=_;rw[Zj (by omega)];rfl
 case rz=>
  exact λx H h hx=>(n8 rfl rfl _ _).trans (ZaH x H h hx)
 case mz=>
  exact λx H h=>by
    rw[K8 rfl rfl rfl rfl];show(cond (Nat.ble x 281474976710656) (some (CR.ret (.slice H.nx 0 x none) (H.new (.row ⟨5,1,x,.leaf,.unk,0,false,true,false⟩)))) none)=_;rw[Zj h];rfl
 case ml=>
  exact λH h=>(n8 rfl rfl _ _).trans (ZaF H h)
 case la=>
  exact λH sv key zs h=>by
    show(match EO H sv with|some zs=>some (CR.ret (AV.tup [AV.str (lastR zs key).fst,AV.bool (lastR zs key).snd]) H)|none=>none)=_;rw[h]
 case nesc=>
  exact λx H=>by rw[K8 rfl rfl rfl rfl];rfl
 case so=>
  exact λH m=>rfl
 all_goals exact⟨by kernel_rfl,λl H=>K8 rfl rfl rfl rfl l H⟩
def ZqG:Kf Rows.laid_portolan_tar_types=tEs:=by kernel_rfl
def ZoZ:Kf Rows.laid_portolan_field_fields=fEs:=by kernel_rfl
def Zqi:Pz Rows.laid_internal_strconv_uint64pow10=il.map Zfn:=by kernel_rfl
def aP{e:Nat->Nat}{H:Heap}(hb:Bears 100 (H0 e).t H)(hro:H.ro<=H.nx):V8 H:=by
 have h1:(H0 e).t.get 1=some (.row ⟨e 1,1,YN [AV.map 13],T.ofList [AV.map 13],.unk,0,false,false,true⟩):=by kernel_rfl
 have h2:(H0 e).t.get 13=some (.cmap cEs):=by kernel_rfl
 have h3:(H0 e).t.get 0=some (.row ⟨e 0,1,YN [AV.map 12],T.ofList [AV.map 12],.unk,0,false,false,true⟩):=by kernel_rfl
 have h4:(H0 e).t.get 12=some (.cmap tEs):=by rw[<-ZqG];kernel_rfl
 have h5:(H0 e).t.get 3=some (.row ⟨e 3,1,YN [AV.map 15],T.ofList [AV.map 15],.unk,0,false,false,true⟩):=by kernel_rfl
 have h6:(H0 e).t.get 15=some (.cmap fEs):=by rw[<-ZoZ];kernel_rfl
 have h7:(H0 e).t.get 5=some (.row ⟨e 5,1,YN (Pz Rows.laid_internal_strconv_uint64pow10),T.ofList (Pz Rows.laid_internal_strconv_uint64pow10),.unk,0,false,false,true⟩):=by kernel_rfl
 have h8:(H0 e).t.get 7=some (.row ⟨e 7,1,YN (Pz Rows.laid_math_bits_deBruijn64tab),T.ofList (Pz Rows.laid_math_bits_deBruijn64tab),.unk,0,false,false,true⟩):=by kernel_rfl
 exact⟨⟨hb.1,hro,⟨_,hb.2 _ _ h1,ZU 0,rfl⟩,hb.2 _ _ h2,⟨_,hb.2 _ _ h3,ZU 0,rfl⟩,hb.2 _ _ h4⟩,⟨hb.1,⟨_,hb.2 _ _ h7,by rw[<-Zqi];exact Cells.new ..⟩,_,hb.2 _ _ h8,Zr (by kernel_rfl),by kernel_rfl⟩,⟨_,hb.2 _ _ h5,ZU 0,rfl⟩,hb.2 _ _ h6⟩
def ZpO:Kf Rows.laid_portolan_tar_kinds=kEs:=by kernel_rfl
def aQ{e:Nat->Nat}{H:Heap}(hb:Bears 100 (H0 e).t H)(hro:H.ro<=H.nx):Ms H:=by
 have h1:(H0 e).t.get 2=some (.row ⟨e 2,1,YN [AV.map 14],T.ofList [AV.map 14],.unk,0,false,false,true⟩):=by kernel_rfl
 have h2:(H0 e).t.get 14=some (.cmap kEs):=by rw[<-ZpO];kernel_rfl
 exact⟨aP hb hro,⟨_,hb.2 _ _ h1,ZU 0,rfl⟩,hb.2 _ _ h2⟩
abbrev Zfx(H:Heap)(s:Sh)(v:AV):Prop:=Told H s v
def ZaB{e:Nat->Nat}{H:Heap}(hb:Bears 100 (H0 e).t H)(hro:H.ro<=H.nx){v w:AV}(ht:Told H (.sl qn) v)(hw:Told H (.sl [.int .u8]) w){a:Nat}(ha:a<65536):
  ∃H',ZA (LK rU fs 18446744073709551616 13) fs 18446744073709551616 1000 3 [v,w,nI .u16 a] H=.ret (.bool true) H':=by
 obtain⟨L,hE,hok,hlen⟩:=cj ht;obtain⟨bl,hB⟩:=Zfi hw;exact Zd9 (n:=989) env (aQ hb hro) hE hok hB ha
def Zjo:MG Tryz.prog 10 23=some [.sl [.int .u8]]:=by kernel_rfl
def Zjn:MG Tryz.prog 10 22=some [.sl qn]:=by kernel_rfl
end
end Go.AI
