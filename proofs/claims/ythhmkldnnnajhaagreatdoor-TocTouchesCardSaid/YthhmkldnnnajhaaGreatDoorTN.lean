/- What is looked up in TocTouches: the document's example, evaluated by itself; and the law comes out true: proved; no conditions but those that are named. -/
import Derived.Test.YthhmkldnnnajhaaGreatDoorSN
import Derived.Test.YthhmkldnnnajhaaGreatDoorPD
import Derived.Test.YthhmkldnnnajhaaGreatDoorP6
set_option maxRecDepth 1000000
set_option maxHeartbeats 0
set_option linter.unusedVariables false
set_option linter.unusedSimpArgs false
namespace Go.AI
open Go Go.Proofs Go.Proofs.YthhmkldnnnajhaaGreatDoor
noncomputable section
def qX:List tu:=[⟨18,[],.bool true⟩]
def o7:Nat->List AV->Heap->Option CR:=JO 100 (λe=>(H0 e).t) Z7 qX
theorem CZ(e:Nat->Nat)(b:Nat)(o:Obj)(h:(H0 e).t.get b=some o):b<100∧rx 100 o∧(Lw o∨ ∃es,o=.cmap es):=
 Bl (n:=100) (by kernel_rfl) (by kernel_rfl) h
theorem na:MD Tryz.prog o7:=by
 refine DS (ZB (by kernel_rfl)) CZ xq qX λx hx=>?_
 unfold qX at hx
 rw[YM.1 hx]
 exact⟨_,ri,rfl,rfl,rj⟩
theorem jc:RF Tryz.prog (Xd (LK o7 fs 18446744073709551616 15) fs 18446744073709551616 1000):=
 GX rH (CD (λ_ h=>GX rH h Cn 18446744073709551616 900) na 15) Cn 18446744073709551616 1000
theorem env:Env o7 fs 18446744073709551616 where
 big:=by decide
 f4:=by kernel_rfl
 n4:=λ_ _=>rfl
 f16:=by kernel_rfl
 n16:=λ_ _=>rfl
 f17:=by kernel_rfl
 n17:=λ_ _=>rfl
 f19:=by kernel_rfl
 n19:=λ_ _=>rfl
 f20:=by kernel_rfl
 n20:=λ_ _=>rfl
 f21:=by kernel_rfl
 n21:=λ_ _=>rfl
 f22:=by kernel_rfl
 n22:=λ_ _=>rfl
 f33:=by kernel_rfl
 n33:=λ_ _=>rfl
 f57:=by kernel_rfl
 n57:=λ_ _=>rfl
 f63:=by kernel_rfl
 n63:=λ_ _=>rfl
 f64:=by kernel_rfl
 n64:=λ_ _=>rfl
 f65:=by kernel_rfl
 n65:=λ_ _=>rfl
 f66:=by kernel_rfl
 n66:=λ_ _=>rfl
 f87:=by kernel_rfl
 n87:=λ_ _=>rfl
 f88:=by kernel_rfl
 n88:=λ_ _=>rfl
 f89:=by kernel_rfl
 n89:=λ_ _=>rfl
 f152:=by kernel_rfl
 n152:=λ_ _=>rfl
 f153:=by kernel_rfl
 n153:=λ_ _=>rfl
 f154:=by kernel_rfl
 n154:=λ_ _=>rfl
 f155:=by kernel_rfl
 n155:=λ_ _=>rfl
 f156:=by kernel_rfl
 n156:=λ_ _=>rfl
 f157:=by kernel_rfl
 n157:=λ_ _=>rfl
 f158:=by kernel_rfl
 n158:=λ_ _=>rfl
 f186:=by kernel_rfl
 n186:=λ_ _=>rfl
 f209:=by kernel_rfl
 n209:=λ_ _=>rfl
 f210:=by kernel_rfl
 n210:=λ_ _=>rfl
 f211:=by kernel_rfl
 n211:=λ_ _=>rfl
 f212:=by kernel_rfl
 n212:=λ_ _=>rfl
 f213:=by kernel_rfl
 n213:=λ_ _=>rfl
 f214:=by kernel_rfl
 n214:=λ_ _=>rfl
 f215:=by kernel_rfl
 n215:=λ_ _=>rfl
 f244:=by kernel_rfl
 n244:=λ_ _=>rfl
 f248:=by kernel_rfl
 n248:=λ_ _=>rfl
 f264:=by kernel_rfl
 n264:=λ_ _=>rfl
 f265:=by kernel_rfl
 n265:=λ_ _=>rfl
 f266:=by kernel_rfl
 n266:=λ_ _=>rfl
 f267:=by kernel_rfl
 n267:=λ_ _=>rfl
 f268:=by kernel_rfl
 n268:=λ_ _=>rfl
 f269:=by kernel_rfl
 n269:=λ_ _=>rfl
 f270:=by kernel_rfl
 n270:=λ_ _=>rfl
 f271:=by kernel_rfl
 n271:=λ_ _=>rfl
 f310:=by kernel_rfl
 n310:=λ_ _=>rfl
 f328:=by kernel_rfl
 n328:=λ_ _=>rfl
 f329:=by kernel_rfl
 n329:=λ_ _=>rfl
 f361:=by kernel_rfl
 n361:=λ_ _=>rfl
 f427:=by kernel_rfl
 n427:=λ_ _=>rfl
 f428:=by kernel_rfl
 n428:=λ_ _=>rfl
 f429:=by kernel_rfl
 n429:=λ_ _=>rfl
 ix:=λs x H h=>by
  show(cond (Nat.ble x 255) (some (CR.ret (.int .i64 (PO x s 0)) H)) none)=_
  rw[Z1 (by omega)];rfl
 cn:=λs x H h=>by
  show(cond (Nat.ble x 255) (some (CR.ret (nI .i64 (Wu x s 0)) H)) none)=_
  rw[Z1 (by omega)];rfl
theorem ZeE:xx Rows.laid_portolan_tar_types=iE:=by kernel_rfl
theorem sD{e:Nat->Nat}{H:Heap}(hb:Bears 100 (H0 e).t H)(hro:H.ro<=H.nx):Ob H:=by
 have h1:(H0 e).t.get 2=some (.row ⟨e 2,1,XX [AV.map 16],T.ofList [AV.map 16],.unk,0,false,false,true⟩):=by kernel_rfl
 have h2:(H0 e).t.get 16=some (.cmap dB):=by kernel_rfl
 have h3:(H0 e).t.get 0=some (.row ⟨e 0,1,XX [AV.map 15],T.ofList [AV.map 15],.unk,0,false,false,true⟩):=by kernel_rfl
 have h4:(H0 e).t.get 15=some (.cmap iE):=by rw[<-ZeE];kernel_rfl
 exact⟨hb.1,hro,⟨_,hb.2 _ _ h1,Xl 0,rfl⟩,hb.2 _ _ h2,⟨_,hb.2 _ _ h3,Xl 0,rfl⟩,hb.2 _ _ h4⟩
theorem rm{e:Nat->Nat}{H:Heap}(hb:Bears 100 (H0 e).t H)(hro:H.ro<=H.nx){v:AV}(ht:Told H (.sl Bw) v){at_ many:Int}(h1:L7 at_)(h2:L7 many):
  ∃H',Xd (LK o7 fs 18446744073709551616 15) fs 18446744073709551616 1000 4 [.agg [v],.int .i64 at_,.int .i64 many] H=.ret (.bool true) H':=by
 have hb': ∀H',Yw H H' []->Bears 100 (H0 e).t H':=λH' k=>hb.keep (λb o h=>(CZ e b o h).1) k.nx λc hc=>k.get c hc (by simp)
 obtain⟨L,hN,hok,hl⟩:=uP ht
 have hl:L.length<=9223372036854775807:=hl
 have ha: ∀x∈L,x.mem.attrs.length<=9223372036854775807:=λx hx=>(hok x hx).mem.attrs
 refine oV (n:=995) env (sD hb hro) hN (by omega) (λx hx=>by have:=ha x hx;omega) (by omega) (λx hx=>by have:=ha x hx;omega) hok h1 h2 λG k=>?_
 exact JP (hb' G k) (x:=⟨18,[],.bool true⟩) (by unfold qX;simp) (by unfold qX;simp)
theorem qR:Lh Tryz.prog 10 47=some [.sl Bw]:=by kernel_rfl
end
end Go.AI
