/- What is looked up; the law comes out true: proved, as each says. -/
import Derived.Test.YtmnmknjlgpjcbaaGreatDoorSZ
import Derived.Test.YtmnmknjlgpjcbaaGreatDoorPH
import Derived.Test.YtmnmknjlgpjcbaaGreatDoorPE
import Derived.Test.YtmnmknjlgpjcbaaGreatDoorP6
set_option maxRecDepth 1000000
set_option maxHeartbeats 0
set_option linter.unusedVariables false
set_option linter.unusedSimpArgs false
namespace Go.AI
open Go Go.Proofs Go.Proofs.YtmnmknjlgpjcbaaGreatDoor
noncomputable section
def aJ:List hY:=[⟨12,[],.bool true⟩]
def dJ:Nat->List AV->Zc->Option CR:=Im 100 (λe=>(H0 e).t) Zo aJ
theorem wg(e:Nat->Nat)(b:Nat)(o:Obj)(h:(H0 e).t.get b=some o):b<100∧dO 100 o∧(LF o∨ ∃es,o=.cmap es):=
 vg (n:=100) (by kernel_rfl) (by kernel_rfl) h
theorem Zco:NZ Tryz.prog dJ:=by
 refine yD (Zn (by kernel_rfl)) wg nw aJ λx hx=>?_
 unfold aJ at hx
 simp only[Ya,P2,or_false] at hx
 subst hx
 exact⟨_,dD,rfl,rfl,kh⟩
theorem Zgw:SL Tryz.prog (ZG (LK dJ fs 1000000 6) fs 1000000 1000):=
 DX dV (xK (λ_ h=>DX dV h xn 1000000 900) Zco 6) xn 1000000 1000
theorem env:Env dJ fs 1000000:=by
 constructor
 case big=>exact Zj _
 case nesc=>exact λ_ _=>rfl
 case ix=>
  exact λs x H h=>by
    show(cond (Nat.ble x 255) (some (CR.ret (.int .i64 (VS x s 0)) H)) none)=_
    rw[Zg (by omega)];rfl
 all_goals first|exact λ_ _=>rfl|kernel_rfl
theorem mnz:MNZ dJ:=λn H hn=>by
 show(cond (Nat.ble n 281474976710656) (some (CR.ret (.slice H.nx 0 n none) (H.new (bW 5 n)))) none)=_
 rw[Zg hn];rfl
theorem ZgV:T5 Rows.laid_internal_strconv_uint64pow10=nO.map Zdw:=by kernel_rfl
theorem ZfL:T5 Rows.laid_unicode_utf8_first=fQ.map (nI .u8):=by kernel_rfl
theorem ZeL:T5 Rows.laid_unicode_utf8_acceptRanges=QZ.map (nI .u8):=by kernel_rfl
section
variable {e:Nat->Nat} {H:Zc}
theorem Zbz(hb:Bears 100 (H0 e).t H):Sh H:=by
 have h:(H0 e).t.get 4=some (.row ⟨e 4,1,YH (T5 Rows.laid_internal_strconv_uint64pow10),T.ofList (T5 Rows.laid_internal_strconv_uint64pow10),.unk,0,false,false,true⟩):=by kernel_rfl
 have h2:(H0 e).t.get 7=some (.row ⟨e 7,1,1,T.ofList [.iface 323 (.ptr 11 0)],.unk,0,false,false,true⟩):=by kernel_rfl
 exact⟨hb.1,⟨_,hb.2 _ _ h,by rw[<-ZgV];exact V7.new ..⟩,_,323,11,hb.2 _ _ h2,(show 0<1 by decide),rfl,by decide⟩
theorem fW(hb:Bears 100 (H0 e).t H):V8 H:=by
 have h:(H0 e).t.get 1=some (.row ⟨e 1,1,YH (T5 Rows.laid_unicode_utf8_first),T.ofList (T5 Rows.laid_unicode_utf8_first),.unk,0,false,false,true⟩):=by kernel_rfl
 have h2:(H0 e).t.get 2=some (.row ⟨e 2,1,YH (T5 Rows.laid_unicode_utf8_acceptRanges),T.ofList (T5 Rows.laid_unicode_utf8_acceptRanges),.unk,0,false,false,true⟩):=by kernel_rfl
 exact⟨hb.1,⟨_,hb.2 _ _ h,by rw[<-ZfL];exact V7.new ..⟩,_,hb.2 _ _ h2,by rw[<-ZeL];exact V7.new ..⟩
theorem dF(hb:Bears 100 (H0 e).t H)(YL:H.ro<=H.nx){a a1:AV}{l bl:List Nat}(ha:JP H a l)(ha1:Zax H a1 bl):
  ∃H',ZG (LK dJ fs 1000000 6) fs 1000000 1000 3 [a,a1] H=.ret (.bool true) H':=by
 refine Zcl (n:=699) env mnz ha ha1.sl ha1.1 (Zbz hb) (fW hb) YL (λH' k=>?_)
 have B3:Bears 100 (H0 e).t H':=hb.keep (λb o h=>(wg e b o h).1) k.nx λc hc=>k.get c hc (by simp)
 exact In B3 (x:=⟨12,[],.bool true⟩) (by unfold aJ;simp) (by unfold aJ;simp)
end
end
end Go.AI
