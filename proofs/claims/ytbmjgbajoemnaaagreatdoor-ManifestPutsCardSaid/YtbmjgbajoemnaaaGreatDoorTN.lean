/- What is looked up in ManifestPuts: the chapter's rows, evaluated by themselves; and the law comes out true: proved; no conditions but those that are named. -/
import Derived.Test.YtbmjgbajoemnaaaGreatDoorSN
import Derived.Test.YtbmjgbajoemnaaaGreatDoorPW
import Derived.Test.YtbmjgbajoemnaaaGreatDoorP6
set_option maxRecDepth 1000000
set_option maxHeartbeats 0
set_option linter.unusedVariables false
set_option linter.unusedSimpArgs false
namespace Go.AI
open Go Go.Proofs Go.Proofs.YtbmjgbajoemnaaaGreatDoor
noncomputable section
def lD:List kg:=[⟨17,[],.bool true⟩]
def Zb9:Nat->List AV->Heap->Option CR:=K3 100 (λe=>(H0 e).t) Zp lD
theorem xo(e:Nat->Nat)(b:Nat)(o:Obj)(h:(H0 e).t.get b=some o):b<100∧ir 100 o∧(LN o∨ ∃es,o=.cmap es):=
 wb (n:=100) (by kernel_rfl) (by kernel_rfl) h
theorem cQ:NU Tryz.prog Zb9:=by
 refine zU (Zo (by kernel_rfl)) xo q9 lD λx hx=>?_
 unfold lD at hx
 rw[YP.1 hx]
 exact⟨_,j7,rfl,rfl,j8⟩
abbrev ny:Nat->List AV->Heap->Option CR:=Zb9
theorem Zb6:SD Tryz.prog (ZJ (LK ny fs 1000000 6) fs 1000000 1000):=
 D3 iA (y5 (λ_ h=>D3 iA h yJ 1000000 900) cQ 6) yJ 1000000 1000
theorem CY{f:Nat}(h3:Nat.beq 17 f=false)(l:List AV)(H:Heap):ny f l H=Zp f l H:=by
 unfold ny Zb9 lD K3
 show cond (Nat.beq 17 f) _ _=_
 rw[h3,cond_false];rfl
theorem env:Env ny fs 1000000:=by
 constructor
 case big=>
  exact Zl _
 case nesc=>
  exact λ_ _=>CY rfl _ _
 all_goals first|exact λl H=>CY rfl l H|kernel_rfl
theorem mnz:pY ny:=λn H h=>by
 rw[CY rfl]
 show(cond (Nat.ble n 281474976710656) (some (CR.ret (.slice H.nx 0 n none) (H.new (.row ⟨5,1,n,.leaf,.unk,0,false,true,false⟩)))) none)=_
 rw[Zm h];rfl
theorem ZjH:TL Rows.laid_internal_strconv_uint64pow10=pz.map aG:=by kernel_rfl
theorem Zbz:TL Rows.laid_unicode_utf8_first=js.map (nI .u8):=by kernel_rfl
theorem ZaV:TL Rows.laid_unicode_utf8_acceptRanges=T1.map (nI .u8):=by kernel_rfl
theorem qF{e:Nat->Nat}{H:Heap}(hb:Bears 100 (H0 e).t H):PC H∧Vy H:=by
 have h0:(H0 e).t.get 0=some (.row ⟨e 0,1,YF (TL Rows.laid_unicode_utf8_first),T.ofList (TL Rows.laid_unicode_utf8_first),.unk,0,false,false,true⟩):=by kernel_rfl
 have h1:(H0 e).t.get 1=some (.row ⟨e 1,1,YF (TL Rows.laid_unicode_utf8_acceptRanges),T.ofList (TL Rows.laid_unicode_utf8_acceptRanges),.unk,0,false,false,true⟩):=by kernel_rfl
 have h2:(H0 e).t.get 2=some (.row ⟨e 2,1,YF (TL Rows.laid_internal_strconv_uint64pow10),T.ofList (TL Rows.laid_internal_strconv_uint64pow10),.unk,0,false,false,true⟩):=by kernel_rfl
 exact⟨⟨hb.1,_,hb.2 _ _ h2,by rw[<-ZjH];exact Cells.new ..⟩,hb.1,⟨_,hb.2 _ _ h0,by rw[<-Zbz];exact Cells.new ..⟩,_,hb.2 _ _ h1,by rw[<-ZaV];exact Cells.new ..⟩
abbrev Zdo(H:Heap)(s:Sh)(v:AV):Prop:=Told H s v
theorem ia{e:Nat->Nat}{H:Heap}(hb:Bears 100 (H0 e).t H)(hro:H.ro<=H.nx){cs:List AV}(hl:cs.length=39)(ht: ∀(j:Nat) s,Ex[j]? =some s->Told H s (cs.getD j .unk)):
  ∃H',ZJ (LK ny fs 1000000 6) fs 1000000 1000 3 [.agg cs] H=.ret (.bool true) H':=by
 have hb': ∀H',ZaS H H'->Bears 100 (H0 e).t H':=λH' k=>⟨Zn hb.1 k.1,λc o h=>(k.2.2 c (xo e c o h).1).trans (hb.2 c o h)⟩
 obtain⟨c1,dv,A,B,gv,x,L,D,xs,rfl,h1,h2,h3,h4,h5⟩:=fM hl ht
 refine cK (n:=977) env mnz (by decide) (qF hb).1 (qF hb).2 hb.1 hro h1 h2 h3 h4 h5 λG k=>?_
 exact I9 (hb' G k) (x:=⟨17,[],.bool true⟩) (by unfold lD;simp) (by unfold lD;simp)
theorem ZcL:Lg Tryz.prog 10 30=some Ex:=by kernel_rfl
end
end Go.AI
