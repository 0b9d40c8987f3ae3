/- What is looked up in ManifestNotes: the chapter's rows, evaluated by themselves, and the program's sum of bytes; and the law comes out true: proved; no conditions but those that are named. -/
import Derived.Test.YtoihnnkidhmfeaaGreatDoorSN
import Derived.Test.YtoihnnkidhmfeaaGreatDoorPD
import Derived.Test.YtoihnnkidhmfeaaGreatDoorP6
set_option maxRecDepth 1000000
set_option maxHeartbeats 0
set_option linter.unusedVariables false
set_option linter.unusedSimpArgs false
namespace Go.AI
open Go Go.Proofs Go.Proofs.YtoihnnkidhmfeaaGreatDoor
noncomputable section
def j6:List mv:=[⟨8,[],.bool true⟩]
def Zbq:Nat->List AV->Heap->Option CR:=Hw 100 (λe=>(H0 e).t) ZM j6
theorem xE(e:Nat->Nat)(b:Nat)(o:Obj)(h:(H0 e).t.get b=some o):b<100∧kI 100 o∧(KZ o∨ ∃es,o=.cmap es):=
 wk (n:=100) (by kernel_rfl) (by kernel_rfl) h
theorem fD:Np Tryz.prog Zbq:=by
 refine yt (Zp (by kernel_rfl)) xE xj j6 λx hx=>?_
 unfold j6 at hx
 rw[YJ.1 hx]
 exact⟨_,kx,rfl,rfl,ky⟩
def kF:Nat->List AV->Heap->Option CR:=Bx 13 10 WL Lo Zbq
theorem fC:Np Tryz.prog kF:=
 nE (lib:=ZM) (fs:=fs) (fuel:=100000) (n:=992) (λ_ _=>rfl) (λ_ _=>rfl) (λ_ _=>rfl) (λ_ _=>rfl) (by kernel_rfl) (by kernel_rfl) (by kernel_rfl) (by kernel_rfl) (by decide)
  (λ_ _=>rfl) (by kernel_rfl) (λ_ _=>rfl) (by kernel_rfl) (λ_ _=>rfl) (by kernel_rfl) (λ_ _=>rfl) (by kernel_rfl) (λ_ _=>rfl) (by kernel_rfl) (λ_ _=>rfl) (by kernel_rfl) (λ_ _=>rfl) (by kernel_rfl) mI rfl rfl (by decide) (by decide) fD
theorem Zbj:SS Tryz.prog (Yo (LK kF fs 1000000 3) fs 1000000 1000):=
 HP qK (xk (λ_ h=>HP qK h DU 1000000 900) fC 3) DU 1000000 1000
theorem env:Env kF fs 1000000 where
 big:=Zq _
 f3:=by kernel_rfl
 n3:=λ_ _=>rfl
 f4:=by kernel_rfl
 n4:=λ_ _=>rfl
 f5:=by kernel_rfl
 n5:=λ_ _=>rfl
 f6:=by kernel_rfl
 n6:=λ_ _=>rfl
 f7:=by kernel_rfl
 n7:=λ_ _=>rfl
 f9:=by kernel_rfl
 n9:=λ_ _=>rfl
 f10:=by kernel_rfl
 n10:=λ_ _=>rfl
 f11:=by kernel_rfl
 n11:=λ_ _=>rfl
 f12:=by kernel_rfl
 n12:=λ_ _=>rfl
 f14:=by kernel_rfl
 n14:=λ_ _=>rfl
 f15:=by kernel_rfl
 n15:=λ_ _=>rfl
 f16:=by kernel_rfl
 n16:=λ_ _=>rfl
 f17:=by kernel_rfl
 n17:=λ_ _=>rfl
 f18:=by kernel_rfl
 n18:=λ_ _=>rfl
 f21:=by kernel_rfl
 n21:=λ_ _=>rfl
 f22:=by kernel_rfl
 n22:=λ_ _=>rfl
 f23:=by kernel_rfl
 n23:=λ_ _=>rfl
 f25:=by kernel_rfl
 n25:=λ_ _=>rfl
 f26:=by kernel_rfl
 n26:=λ_ _=>rfl
 f27:=by kernel_rfl
 n27:=λ_ _=>rfl
 f28:=by kernel_rfl
 n28:=λ_ _=>rfl
 f34:=by kernel_rfl
 n34:=λ_ _=>rfl
 f38:=by kernel_rfl
 n38:=λ_ _=>rfl
 f39:=by kernel_rfl
 n39:=λ_ _=>rfl
 f40:=by kernel_rfl
 n40:=λ_ _=>rfl
 f41:=by kernel_rfl
 n41:=λ_ _=>rfl
 f53:=by kernel_rfl
 n53:=λ_ _=>rfl
 f57:=by kernel_rfl
 n57:=λ_ _=>rfl
 f58:=by kernel_rfl
 n58:=λ_ _=>rfl
 f66:=by kernel_rfl
 n66:=λ_ _=>rfl
 f67:=by kernel_rfl
 n67:=λ_ _=>rfl
 f70:=by kernel_rfl
 n70:=λ_ _=>rfl
 f83:=by kernel_rfl
 n83:=λ_ _=>rfl
 nesc:=λ_ _=>rfl
theorem Zec:UW Rows.laid_portolan_sha_constants=WL.map ZH:=by kernel_rfl
theorem ZcC:UW Rows.laid_portolan_sha_beginning=Lo.map ZH:=by kernel_rfl
theorem ZaP:UW Rows.laid_unicode_utf8_first=lH.map (nI .u8):=by kernel_rfl
theorem Zah:UW Rows.laid_unicode_utf8_acceptRanges=Rb.map (nI .u8):=by kernel_rfl
section
variable {e:Nat->Nat} {H:Heap}
theorem ZeB(hb:Bears 100 (H0 e).t H):(∃r,H.t.get 3=some (.row r)∧Cells r (WL.map ZH))∧ ∃r,H.t.get 0=some (.row r)∧Cells r (Lo.map ZH):=by
 have h:(H0 e).t.get 3=some (.row ⟨e 3,1,YF (UW Rows.laid_portolan_sha_constants),T.ofList (UW Rows.laid_portolan_sha_constants),.unk,0,false,false,true⟩):=by kernel_rfl
 have h2:(H0 e).t.get 0=some (.row ⟨e 0,1,YF (UW Rows.laid_portolan_sha_beginning),T.ofList (UW Rows.laid_portolan_sha_beginning),.unk,0,false,false,true⟩):=by kernel_rfl
 exact⟨⟨_,hb.2 _ _ h,by rw[<-Zec];exact Cells.new ..⟩,_,hb.2 _ _ h2,by rw[<-ZcC];exact Cells.new ..⟩
theorem lJ(hb:Bears 100 (H0 e).t H):Pj H:=by
 have h:(H0 e).t.get 1=some (.row ⟨e 1,1,YF (UW Rows.laid_unicode_utf8_first),T.ofList (UW Rows.laid_unicode_utf8_first),.unk,0,false,false,true⟩):=by kernel_rfl
 have h2:(H0 e).t.get 2=some (.row ⟨e 2,1,YF (UW Rows.laid_unicode_utf8_acceptRanges),T.ofList (UW Rows.laid_unicode_utf8_acceptRanges),.unk,0,false,false,true⟩):=by kernel_rfl
 exact⟨hb.1,⟨_,hb.2 _ _ h,by rw[<-ZaP];exact Cells.new ..⟩,_,hb.2 _ _ h2,by rw[<-Zah];exact Cells.new ..⟩
theorem pM{a:AV}{l:List UInt8}(hbv:BV H a l)(hsl:(a=.nils∧l=[])∨ ∃b o c r,a=.slice b o l.length (some c)∧H.t.get b=some (.row r)∧l.length<=c∧b<H.nx):
  ∃v,Mb 1 a none (some (nI .i64 (min l.length 500))) H=.val v H∧BV H v (l.take 500)∧(∀m,H.nx<=m->Va m v=true)∧(∀m T,To (.val v ⟨m,T,m⟩) v m=true)∧ ∀b o n c,v=.slice b o n c->b<H.nx:=by
 rcases hsl with⟨rfl,rfl⟩|⟨b,o,c,r,rfl,g,hc,hb⟩
 ·exact⟨.nils,rfl,.inl ⟨rfl,.inl rfl⟩,λ_ _=>rfl,λm T=>OQ m T,λ_ _ _ _ h=>by cases h⟩
 ·have hm:min l.length 500<=l.length:=Nat.min_le_left _ _
  have hln:(l.take 500).length=min l.length 500:=by rw[Ys,Pm]
  refine⟨.slice b o (min l.length 500) (some c),?_,?_,λm hm=>UR (by omega) _ _ _,λm T=>Rk ..,λ_ _ _ _ h=>by cases h;exact hb⟩
  ·show X6 H b _=_
   unfold X6
   rw[g]
   show ZR (Nat.ble (min l.length 500) c) (ZR (Nat.ble 0 (min l.length 500)) (ZR (Nat.ble 0 c) (cond (Nat.beq 0 c) (OR.val (.slice b o (min l.length 500 - 0) (some 0)) H) (OR.val (.slice b (o+0*1) (min l.length 500 - 0) (some (c - 0))) H))))=_
   rw[Zj (by omega),Zj (Yv _),Zj (Yv _)]
   by_cases h0:c=0
   ·subst h0;rfl
   ·have:Nat.beq 0 c=false:=by rw[Yx];exact Zd (by omega)
    rw[this,UZ,Z7];rfl
  ·by_cases h0:min l.length 500=0
   ·refine .inl ⟨We.1 (by rw[hln];exact h0),.inr ⟨b,o,some c,by rw[h0]⟩⟩
   ·rcases hbv with⟨rfl,_⟩|⟨hne,b',o',c',r',e',hB,_⟩
    ·simp at h0
    ·injection e' with q1 q2 q3 q4
     subst q1;subst q2;subst q4
     refine .inr ⟨λe=>h0 (by rw[<-hln,e];rfl),b,o,some c,r',by rw[hln],?_,hb⟩
     have:=hB.take hm
     have e5:l.take (min l.length 500)=l.take 500:=by rw[Pm,<-List.take_take,WT]
     rw[e5] at this;exact this
theorem kC(hb:Bears 100 (H0 e).t H)(hro:H.ro<=H.nx){md nm l:List UInt8}{L:List NP}{a nv:AV}(hbv:BV H a l)(hsl:(a=.nils∧l=[])∨ ∃b o c r,a=.slice b o l.length (some c)∧H.t.get b=some (.row r)∧l.length<=c∧b<H.nx)(hN:iB H nv L)(h1:nv.cells=[nv])(hf: ∀b o n c,nv=.slice b o n c->b<H.nx):
  ∃H',Yo (LK kF fs 1000000 3) fs 1000000 1000 3 [.str md,a,nv,.str nm] H=.ret (.bool true) H':=by
 have hb': ∀H',ZE H H' []->Bears 100 (H0 e).t H':=λH' k=>hb.keep (λb o h=>(xE e b o h).1) k.nx λc hc=>k.get c hc (by simp)
 obtain⟨v,s0,bv,lo,sm,far⟩:=pM hbv hsl
 have hl:(l.take 500).length<=500:=by rw[Ys];omega
 refine fy (n:=988) env hro hbv.len s0 bv.len hl bv lo sm hN h1 hf (λG k=>lJ (hb' G k)) (λG k=>?_) (λG k=>?_)
 ·have hbG:=hb' G k
  obtain⟨rk,rb⟩:=ZeB hbG
  rw[gg]
  exact nD ⟨bv.keep k λ_ _ _ _ _=>by simp,by omega,rk,rb,by have:=hbG.1;omega,by rw[k.ro];exact YN hro k.nx⟩ λb o n c h=>ZI (far b o n c h) k.nx
 ·have:kF 8 [] G=Zbq 8 [] G:=rfl
  rw[this]
  exact Hz (hb' G k) (x:=⟨8,[],.bool true⟩) (by unfold j6;simp) (by unfold j6;simp)
end
end
end Go.AI
