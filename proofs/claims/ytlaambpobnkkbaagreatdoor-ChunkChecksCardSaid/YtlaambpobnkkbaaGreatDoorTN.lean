/- What is looked up in ChunkChecks: the document's example, evaluated by itself; and the law comes out true: proved; no conditions but those that are named. -/
import Derived.Test.YtlaambpobnkkbaaGreatDoorSN
import Derived.Test.YtlaambpobnkkbaaGreatDoorPH
import Derived.Test.YtlaambpobnkkbaaGreatDoorPE
import Derived.Test.YtlaambpobnkkbaaGreatDoorP6
set_option maxRecDepth 1000000
set_option maxHeartbeats 0
set_option linter.unusedVariables false
set_option linter.unusedSimpArgs false
namespace Go.AI
open Go Go.Proofs Go.Proofs.YtlaambpobnkkbaaGreatDoor
noncomputable section
def bF:List jc:=[⟨10,[],.bool true⟩]
def Zfs:Nat->List AV->Heap->Option CR:=I1 100 (λe=>(H0 e).t) Zr bF
theorem xN(e:Nat->Nat)(b:Nat)(o:Obj)(h:(H0 e).t.get b=some o):b<100∧fE 100 o∧(Kv o∨ ∃es,o=.cmap es):=
 wv (n:=100) (by kernel_rfl) (by kernel_rfl) h
theorem Zba:Nu Tryz.prog Zfs:=by
 refine yu (Zm (by kernel_rfl)) xN xo bF λx hx=>?_
 unfold bF at hx
 rw[ZD.1 hx]
 exact⟨_,fo,rfl,rfl,fp⟩
def fA:Nat->List AV->Heap->Option CR:=BD 15 20 Wg MY Zfs
theorem Za9:Nu Tryz.prog fA:=
 lZ (lib:=Zr) (fs:=fs) (fuel:=100000) (n:=992) (λ_ _=>rfl) (λ_ _=>rfl) (λ_ _=>rfl) (λ_ _=>rfl) (by kernel_rfl) (by kernel_rfl) (by kernel_rfl) (by kernel_rfl) (by decide)
  (λ_ _=>rfl) (by kernel_rfl) (λ_ _=>rfl) (by kernel_rfl) (λ_ _=>rfl) (by kernel_rfl) (λ_ _=>rfl) (by kernel_rfl) (λ_ _=>rfl) (by kernel_rfl) (λ_ _=>rfl) (by kernel_rfl) (λ_ _=>rfl) (by kernel_rfl) jt rfl rfl (by decide) (by decide) Zba
theorem Zfl:SE Tryz.prog (ZU (LK fA fs 18446744073709551616 15) fs 18446744073709551616 1000):=
 Hn pT (xp (λ_ h=>Hn pT h Cu 18446744073709551616 900) Za9 15) Cu 18446744073709551616 1000
theorem env:Env fA fs 18446744073709551616 where
 big:=by decide
 f3:=by kernel_rfl
 n3:=λ_ _=>rfl
 f4:=by kernel_rfl
 n4:=λ_ _=>rfl
 f5:=by kernel_rfl
 n5:=λ_ _=>rfl
 f6:=by kernel_rfl
 n6:=λ_ _=>rfl
 f7:=by kernel_rfl
 n7:=λ_ _=>rfl
 f8:=by kernel_rfl
 n8:=λ_ _=>rfl
 f9:=by kernel_rfl
 n9:=λ_ _=>rfl
 f11:=by kernel_rfl
 n11:=λ_ _=>rfl
 f12:=by kernel_rfl
 n12:=λ_ _=>rfl
 f13:=by kernel_rfl
 n13:=λ_ _=>rfl
 f14:=by kernel_rfl
 n14:=λ_ _=>rfl
 f16:=by kernel_rfl
 n16:=λ_ _=>rfl
 f17:=by kernel_rfl
 n17:=λ_ _=>rfl
 f18:=by kernel_rfl
 n18:=λ_ _=>rfl
 f21:=by kernel_rfl
 n21:=λ_ _=>rfl
 f22:=by kernel_rfl
 n22:=λ_ _=>rfl
 f23:=by kernel_rfl
 n23:=λ_ _=>rfl
 f25:=by kernel_rfl
 n25:=λ_ _=>rfl
 f26:=by kernel_rfl
 n26:=λ_ _=>rfl
 f27:=by kernel_rfl
 n27:=λ_ _=>rfl
 f28:=by kernel_rfl
 n28:=λ_ _=>rfl
 f31:=by kernel_rfl
 n31:=λ_ _=>rfl
 f32:=by kernel_rfl
 n32:=λ_ _=>rfl
 f36:=by kernel_rfl
 n36:=λ_ _=>rfl
 f37:=by kernel_rfl
 n37:=λ_ _=>rfl
 f38:=by kernel_rfl
 n38:=λ_ _=>rfl
 f39:=by kernel_rfl
 n39:=λ_ _=>rfl
 f40:=by kernel_rfl
 n40:=λ_ _=>rfl
 f41:=by kernel_rfl
 n41:=λ_ _=>rfl
 f42:=by kernel_rfl
 n42:=λ_ _=>rfl
 f47:=by kernel_rfl
 n47:=λ_ _=>rfl
 f48:=by kernel_rfl
 n48:=λ_ _=>rfl
 f49:=by kernel_rfl
 n49:=λ_ _=>rfl
 f50:=by kernel_rfl
 n50:=λ_ _=>rfl
 f51:=by kernel_rfl
 n51:=λ_ _=>rfl
 f52:=by kernel_rfl
 n52:=λ_ _=>rfl
 f53:=by kernel_rfl
 n53:=λ_ _=>rfl
 f57:=by kernel_rfl
 n57:=λ_ _=>rfl
 f65:=by kernel_rfl
 n65:=λ_ _=>rfl
 f66:=by kernel_rfl
 n66:=λ_ _=>rfl
 f67:=by kernel_rfl
 n67:=λ_ _=>rfl
 f68:=by kernel_rfl
 n68:=λ_ _=>rfl
 f69:=by kernel_rfl
 n69:=λ_ _=>rfl
 f70:=by kernel_rfl
 n70:=λ_ _=>rfl
 f71:=by kernel_rfl
 n71:=λ_ _=>rfl
 f72:=by kernel_rfl
 n72:=λ_ _=>rfl
 f90:=by kernel_rfl
 n90:=λ_ _=>rfl
 f91:=by kernel_rfl
 n91:=λ_ _=>rfl
 f92:=by kernel_rfl
 n92:=λ_ _=>rfl
 f93:=by kernel_rfl
 n93:=λ_ _=>rfl
 f94:=by kernel_rfl
 n94:=λ_ _=>rfl
 f95:=by kernel_rfl
 n95:=λ_ _=>rfl
 f96:=by kernel_rfl
 n96:=λ_ _=>rfl
 f107:=by kernel_rfl
 n107:=λ_ _=>rfl
 f108:=by kernel_rfl
 n108:=λ_ _=>rfl
 f109:=by kernel_rfl
 n109:=λ_ _=>rfl
 f110:=by kernel_rfl
 n110:=λ_ _=>rfl
 f111:=by kernel_rfl
 n111:=λ_ _=>rfl
 f116:=by kernel_rfl
 n116:=λ_ _=>rfl
 f124:=by kernel_rfl
 n124:=λ_ _=>rfl
 f125:=by kernel_rfl
 n125:=λ_ _=>rfl
 f132:=by kernel_rfl
 n132:=λ_ _=>rfl
 f172:=by kernel_rfl
 n172:=λ_ _=>rfl
 f173:=by kernel_rfl
 n173:=λ_ _=>rfl
 f174:=by kernel_rfl
 n174:=λ_ _=>rfl
 ix:=λs x H h=>by
  show(cond (Nat.ble x 255) (some (CR.ret (.int .i64 (PY x s 0)) H)) none)=_
  rw[Zl (by omega)];rfl
 cn:=λs x H h=>by
  show(cond (Nat.ble x 255) (some (CR.ret (nI .i64 (Xs x s 0)) H)) none)=_
  rw[Zl (by omega)];rfl
theorem Znz:C4 Rows.laid_portolan_tar_types=tEs:=by kernel_rfl
theorem ij{e:Nat->Nat}{H:Heap}(hb:Bears 100 (H0 e).t H)(hro:H.ro<=H.nx):PM H:=by
 have h1:(H0 e).t.get 0=some (.row ⟨e 0,1,YL [AV.map 11],T.ofList [AV.map 11],.unk,0,false,false,true⟩):=by kernel_rfl
 have h2:(H0 e).t.get 11=some (.cmap cEs):=by kernel_rfl
 have h3:(H0 e).t.get 1=some (.row ⟨e 1,1,YL [AV.map 12],T.ofList [AV.map 12],.unk,0,false,false,true⟩):=by kernel_rfl
 have h4:(H0 e).t.get 12=some (.cmap tEs):=by rw[<-Znz];kernel_rfl
 exact⟨hb.1,hro,⟨_,hb.2 _ _ h1,Yo 0,rfl⟩,hb.2 _ _ h2,⟨_,hb.2 _ _ h3,Yo 0,rfl⟩,hb.2 _ _ h4⟩
theorem Zi1:T0 Rows.laid_portolan_sha_constants=Wg.map ZN:=by kernel_rfl
theorem Zg9:T0 Rows.laid_portolan_sha_beginning=MY.map ZN:=by kernel_rfl
theorem Zjv{e:Nat->Nat}{H:Heap}(hb:Bears 100 (H0 e).t H):(∃r,H.t.get 3=some (.row r)∧Cells r (Wg.map ZN))∧ ∃r,H.t.get 2=some (.row r)∧Cells r (MY.map ZN):=by
 have h:(H0 e).t.get 3=some (.row ⟨e 3,1,YL (T0 Rows.laid_portolan_sha_constants),T.ofList (T0 Rows.laid_portolan_sha_constants),.unk,0,false,false,true⟩):=by kernel_rfl
 have h2:(H0 e).t.get 2=some (.row ⟨e 2,1,YL (T0 Rows.laid_portolan_sha_beginning),T.ofList (T0 Rows.laid_portolan_sha_beginning),.unk,0,false,false,true⟩):=by kernel_rfl
 exact⟨⟨_,hb.2 _ _ h,by rw[<-Zi1];exact Cells.new ..⟩,_,hb.2 _ _ h2,by rw[<-Zg9];exact Cells.new ..⟩
abbrev Zci(H:Heap)(s:Sh)(v:AV):Prop:=Told H s v
theorem fw{e:Nat->Nat}{H:Heap}(hb:Bears 100 (H0 e).t H)(hro:H.ro<=H.nx){cs:List AV}(h12:cs.length=12)(ht: ∀(j:Nat) s,Cn[j]? =some s->Told H s (cs.getD j .unk)){bv:AV}(hbt:Told H (.sl [.int .u8]) bv)(kk:Int):
  ∃H',ZU (LK fA fs 18446744073709551616 15) fs 18446744073709551616 1000 3 [.agg cs,.int .i64 kk,bv] H=.ret (.bool true) H':=by
 have hb': ∀H',Zw H H' []->Bears 100 (H0 e).t H':=λH' k=>hb.keep (λb o h=>(xN e b o h).1) k.nx λc hc=>k.get c hc (by simp)
 obtain⟨x,hE,hok⟩:=bK h12 ht
 obtain⟨l,hB⟩:=Zb8 hbt
 have ha:x.mem.attrs.length<=9223372036854775807:=hok.mem.attrs
 refine Za5 (n:=994) env (ij hb hro) hE hok (by omega) (by omega) hB (λG v' l' k bvl hl far=>?_) λG k=>?_
 ·have hbG:=hb' G k
  obtain⟨rk,rb⟩:=Zjv hbG
  rw[Zab]
  exact lY ⟨bvl,by omega,rk,rb,by have:=hbG.1;omega,by rw[k.ro];exact ZX hro k.nx⟩ far
 ·have:fA 10 [] G=Zfs 10 [] G:=rfl
  rw[this]
  exact I2 (hb' G k) (x:=⟨10,[],.bool true⟩) (by unfold bF;simp) (by unfold bF;simp)
theorem Zf7:Mv Tryz.prog 10 31=some Cn:=by kernel_rfl
theorem Zf8:Mv Tryz.prog 10 24=some [.sl [.int .u8]]:=by kernel_rfl
end
end Go.AI
