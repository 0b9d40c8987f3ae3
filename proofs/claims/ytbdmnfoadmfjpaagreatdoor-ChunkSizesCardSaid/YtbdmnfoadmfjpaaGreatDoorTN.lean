/- What is looked up in ChunkSizes: the document's example, evaluated by itself; and the law comes out true: proved; no conditions but those that are named. -/
import Derived.Test.YtbdmnfoadmfjpaaGreatDoorSN
import Derived.Test.YtbdmnfoadmfjpaaGreatDoorPI
import Derived.Test.YtbdmnfoadmfjpaaGreatDoorPE
import Derived.Test.YtbdmnfoadmfjpaaGreatDoorP6
set_option maxRecDepth 1000000
set_option maxHeartbeats 0
set_option linter.unusedVariables false
set_option linter.unusedSimpArgs false
namespace Go.AI
open Go Go.Proofs Go.Proofs.YtbdmnfoadmfjpaaGreatDoor
noncomputable section
def AZ:List qn:=(List.range 21).map (λx=>⟨67,[.str [48],nI .i64 x],.str (List.replicate x 48)⟩)++[⟨83,[nI .u64 1,nI .u64 8],.tup [nI .u64 0,nI .u64 8]⟩]
def j6:Nat->List AV->Heap->Option CR:=Ny 100 (λ_=>.leaf) Zo AZ
theorem ZdE:OT Tryz.prog j6:=by
 refine EU (Zp (by kernel_rfl)) (λe b o h=>by cases(T.get_leaf b).symm.trans h) vf AZ λx hx=>?_
 unfold AZ at hx
 rcases ZA.1 hx with hx|hx
 ·obtain⟨n,hn,rfl⟩:=Xu.1 hx
  exact⟨_,Bt,rfl,rfl,λ_=>Y6.1 jT n hn⟩
 ·rw[ZG.1 hx]
  exact⟨_,Bt,rfl,rfl,λ_=>jS⟩
theorem Bb{H:Heap}(h:100<=H.nx):Bears 100 T.leaf H:=⟨h,λb o hb=>by cases(T.get_leaf b).symm.trans hb⟩
theorem af(x:Nat)(H:Heap)(h:100<=H.nx)(hx:x<=20):j6 67 [.str [48],nI .i64 x] H=some (.ret (.str (List.replicate x 48)) H):=
 Mx (t:=λ_=>.leaf) (e:=λ_=>0) (Bb h) (x:=⟨67,[.str [48],nI .i64 x],.str (List.replicate x 48)⟩) (ZA.2 (.inl (Xu.2 ⟨x,VD.2 (by omega),rfl⟩))) (λy hy hf ha=>by
  unfold AZ at hy
  rcases ZA.1 hy with hy|hy
  ·obtain⟨n,_,rfl⟩:=Xu.1 hy
   have ha:[AV.str [48],nI .i64 n]=[.str [48],nI .i64 x]:=ha
   injection ha with _ ha
   injection ha with ha _
   injection ha with _ ha
   injection ha with ha
   rw[ha]
  ·rw[ZG.1 hy] at hf
   exact absurd hf (by show ¬83=67;decide))
theorem ac(H:Heap)(h:100<=H.nx):j6 83 [nI .u64 1,nI .u64 8] H=some (.ret (.tup [nI .u64 0,nI .u64 8]) H):=
 Mx (t:=λ_=>.leaf) (e:=λ_=>0) (Bb h) (x:=⟨83,[nI .u64 1,nI .u64 8],.tup [nI .u64 0,nI .u64 8]⟩) (ZA.2 (.inr (ZG.2 rfl))) (λy hy hf ha=>by
  unfold AZ at hy
  rcases ZA.1 hy with hy|hy
  ·obtain⟨n,_,rfl⟩:=Xu.1 hy
   exact absurd hf (by show ¬67=83;decide)
  ·rw[ZG.1 hy])
theorem ae{f:Nat}(h1:Nat.beq 67 f=false)(h2:Nat.beq 83 f=false)(l:List AV)(H:Heap):j6 f l H=Zo f l H:=by
 have go: ∀L:List qn,(∀x∈L,Nat.beq x.f f=false)->Ny 100 (λ_=>.leaf) Zo L f l H=Zo f l H:=λL=>by
  induction L with
  |nil=>intro _;rfl
  |cons x L ih=>
   intro hx
   unfold Ny
   rw[hx x (.head _),cond_false]
   exact ih λy hy=>hx y (.tail _ hy)
 refine go AZ λx hx=>?_
 unfold AZ at hx
 rcases ZA.1 hx with hx|hx
 ·obtain⟨n,_,rfl⟩:=Xu.1 hx;exact h1
 ·rw[ZG.1 hx];exact h2
def oF:List qn:=[⟨7,[],.bool true⟩]
def ai:Nat->List AV->Heap->Option CR:=Ny 100 (λe=>(H0 e).t) j6 oF
theorem vH(e:Nat->Nat)(b:Nat)(o:Obj)(h:(H0 e).t.get b=some o):b<100∧an 100 o∧(K0 o∨ ∃es,o=.cmap es):=
 uj (n:=100) (by kernel_rfl) (by kernel_rfl) h
theorem ZdG:OT Tryz.prog ai:=by
 refine EU (Zp (by kernel_rfl)) vH ZdE oF λx hx=>?_
 unfold oF at hx
 rw[ZG.1 hx]
 exact⟨_,bT,rfl,rfl,bU⟩
def avU(v:AV):UInt32:=match v with|.int _ (.ofNat n)=>UInt32.ofNat n|_=>0
def jl:List UInt32:=(Ur Rows.laid_portolan_sha_constants).map avU
def jk:List UInt32:=(Ur Rows.laid_portolan_sha_beginning).map avU
theorem Zky:Ur Rows.laid_portolan_sha_constants=jl.map Y2:=by kernel_rfl
theorem ZiS:Ur Rows.laid_portolan_sha_beginning=jk.map Y2:=by kernel_rfl
theorem Zhc:jl.length=64:=by kernel_rfl
theorem Zf4:jk.length=8:=by kernel_rfl
def vh:Nat->List AV->Heap->Option CR:=Gd 28 20 jl jk ai
theorem ZdF:OT Tryz.prog vh:=
 gG (lib:=Zo) (fs:=fs) (fuel:=100000) (n:=992) (λ_ _=>rfl) (λ_ _=>rfl) (λ_ _=>rfl) (λ_ _=>rfl) (by kernel_rfl) (by kernel_rfl) (by kernel_rfl) (by kernel_rfl) (by decide)
  (λ_ _=>rfl) (by kernel_rfl) (λ_ _=>rfl) (by kernel_rfl) (λ_ _=>rfl) (by kernel_rfl) (λ_ _=>rfl) (by kernel_rfl) (λ_ _=>rfl) (by kernel_rfl) (λ_ _=>rfl) (by kernel_rfl) (λ_ _=>rfl) (by kernel_rfl) Bt Zhc Zf4 (by decide) (by decide) ZdG
theorem Zhd:SC Tryz.prog (Z8 (LK vh fs 18446744073709551616 15) fs 18446744073709551616 1000):=
 Gw mY (vg (λ_ h=>Gw mY h BM 18446744073709551616 900) ZdF 15) BM 18446744073709551616 1000
theorem Yn{f:Nat}(h0:Nat.beq f 28=false)(h1:Nat.beq 67 f=false)(h2:Nat.beq 83 f=false)(h3:Nat.beq 7 f=false)(l:List AV)(H:Heap):vh f l H=Zo f l H:=by
 rw[<-ae h1 h2 l H]
 unfold vh Gd
 rw[h0,cond_false]
 unfold ai oF Ny
 show cond (Nat.beq 7 f) _ _=_
 rw[h3,cond_false];rfl
theorem ah{f:Nat}(h0:Nat.beq f 28=false)(h3:Nat.beq 7 f=false)(l:List AV)(H:Heap):vh f l H=j6 f l H:=by
 unfold vh Gd
 rw[h0,cond_false]
 unfold ai oF Ny
 show cond (Nat.beq 7 f) _ _=_
 rw[h3,cond_false];rfl
theorem env:Env vh fs 18446744073709551616 where
 big:=by decide
 f3:=by kernel_rfl
 n3:=λl H=>Yn rfl rfl rfl rfl l H
 f4:=by kernel_rfl
 n4:=λl H=>Yn rfl rfl rfl rfl l H
 f5:=by kernel_rfl
 n5:=λl H=>Yn rfl rfl rfl rfl l H
 f6:=by kernel_rfl
 n6:=λl H=>Yn rfl rfl rfl rfl l H
 f8:=by kernel_rfl
 n8:=λl H=>Yn rfl rfl rfl rfl l H
 f9:=by kernel_rfl
 n9:=λl H=>Yn rfl rfl rfl rfl l H
 f10:=by kernel_rfl
 n10:=λl H=>Yn rfl rfl rfl rfl l H
 f11:=by kernel_rfl
 n11:=λl H=>Yn rfl rfl rfl rfl l H
 f12:=by kernel_rfl
 n12:=λl H=>Yn rfl rfl rfl rfl l H
 f14:=by kernel_rfl
 n14:=λl H=>Yn rfl rfl rfl rfl l H
 f15:=by kernel_rfl
 n15:=λl H=>Yn rfl rfl rfl rfl l H
 f16:=by kernel_rfl
 n16:=λl H=>Yn rfl rfl rfl rfl l H
 f17:=by kernel_rfl
 n17:=λl H=>Yn rfl rfl rfl rfl l H
 f18:=by kernel_rfl
 n18:=λl H=>Yn rfl rfl rfl rfl l H
 f19:=by kernel_rfl
 n19:=λl H=>Yn rfl rfl rfl rfl l H
 f20:=by kernel_rfl
 n20:=λl H=>Yn rfl rfl rfl rfl l H
 f21:=by kernel_rfl
 n21:=λl H=>Yn rfl rfl rfl rfl l H
 f22:=by kernel_rfl
 n22:=λl H=>Yn rfl rfl rfl rfl l H
 f23:=by kernel_rfl
 n23:=λl H=>Yn rfl rfl rfl rfl l H
 f24:=by kernel_rfl
 n24:=λl H=>Yn rfl rfl rfl rfl l H
 f25:=by kernel_rfl
 n25:=λl H=>Yn rfl rfl rfl rfl l H
 f26:=by kernel_rfl
 n26:=λl H=>Yn rfl rfl rfl rfl l H
 f27:=by kernel_rfl
 n27:=λl H=>Yn rfl rfl rfl rfl l H
 f29:=by kernel_rfl
 n29:=λl H=>Yn rfl rfl rfl rfl l H
 f30:=by kernel_rfl
 n30:=λl H=>Yn rfl rfl rfl rfl l H
 f31:=by kernel_rfl
 n31:=λl H=>Yn rfl rfl rfl rfl l H
 f32:=by kernel_rfl
 n32:=λl H=>Yn rfl rfl rfl rfl l H
 f33:=by kernel_rfl
 n33:=λl H=>Yn rfl rfl rfl rfl l H
 f34:=by kernel_rfl
 n34:=λl H=>Yn rfl rfl rfl rfl l H
 f35:=by kernel_rfl
 n35:=λl H=>Yn rfl rfl rfl rfl l H
 f36:=by kernel_rfl
 n36:=λl H=>Yn rfl rfl rfl rfl l H
 f37:=by kernel_rfl
 n37:=λl H=>Yn rfl rfl rfl rfl l H
 f38:=by kernel_rfl
 n38:=λl H=>Yn rfl rfl rfl rfl l H
 f39:=by kernel_rfl
 n39:=λl H=>Yn rfl rfl rfl rfl l H
 f40:=by kernel_rfl
 n40:=λl H=>Yn rfl rfl rfl rfl l H
 f41:=by kernel_rfl
 n41:=λl H=>Yn rfl rfl rfl rfl l H
 f42:=by kernel_rfl
 n42:=λl H=>Yn rfl rfl rfl rfl l H
 f43:=by kernel_rfl
 n43:=λl H=>Yn rfl rfl rfl rfl l H
 f44:=by kernel_rfl
 n44:=λl H=>Yn rfl rfl rfl rfl l H
 f45:=by kernel_rfl
 n45:=λl H=>Yn rfl rfl rfl rfl l H
 f46:=by kernel_rfl
 n46:=λl H=>Yn rfl rfl rfl rfl l H
 f47:=by kernel_rfl
 n47:=λl H=>Yn rfl rfl rfl rfl l H
 f48:=by kernel_rfl
 n48:=λl H=>Yn rfl rfl rfl rfl l H
 f49:=by kernel_rfl
 n49:=λl H=>Yn rfl rfl rfl rfl l H
 f50:=by kernel_rfl
 n50:=λl H=>Yn rfl rfl rfl rfl l H
 f52:=by kernel_rfl
 n52:=λl H=>Yn rfl rfl rfl rfl l H
 f53:=by kernel_rfl
 n53:=λl H=>Yn rfl rfl rfl rfl l H
 f54:=by kernel_rfl
 n54:=λl H=>Yn rfl rfl rfl rfl l H
 f55:=by kernel_rfl
 n55:=λl H=>Yn rfl rfl rfl rfl l H
 f56:=by kernel_rfl
 n56:=λl H=>Yn rfl rfl rfl rfl l H
 f57:=by kernel_rfl
 n57:=λl H=>Yn rfl rfl rfl rfl l H
 f58:=by kernel_rfl
 n58:=λl H=>Yn rfl rfl rfl rfl l H
 f59:=by kernel_rfl
 n59:=λl H=>Yn rfl rfl rfl rfl l H
 f60:=by kernel_rfl
 n60:=λl H=>Yn rfl rfl rfl rfl l H
 f61:=by kernel_rfl
 n61:=λl H=>Yn rfl rfl rfl rfl l H
 f62:=by kernel_rfl
 n62:=λl H=>Yn rfl rfl rfl rfl l H
 f63:=by kernel_rfl
 n63:=λl H=>Yn rfl rfl rfl rfl l H
 f64:=by kernel_rfl
 n64:=λl H=>Yn rfl rfl rfl rfl l H
 f65:=by kernel_rfl
 n65:=λl H=>Yn rfl rfl rfl rfl l H
 f66:=by kernel_rfl
 n66:=λl H=>Yn rfl rfl rfl rfl l H
 f68:=by kernel_rfl
 n68:=λl H=>Yn rfl rfl rfl rfl l H
 f72:=by kernel_rfl
 n72:=λl H=>Yn rfl rfl rfl rfl l H
 f73:=by kernel_rfl
 n73:=λl H=>Yn rfl rfl rfl rfl l H
 f74:=by kernel_rfl
 n74:=λl H=>Yn rfl rfl rfl rfl l H
 f75:=by kernel_rfl
 n75:=λl H=>Yn rfl rfl rfl rfl l H
 f76:=by kernel_rfl
 n76:=λl H=>Yn rfl rfl rfl rfl l H
 f77:=by kernel_rfl
 n77:=λl H=>Yn rfl rfl rfl rfl l H
 f78:=by kernel_rfl
 n78:=λl H=>Yn rfl rfl rfl rfl l H
 f79:=by kernel_rfl
 n79:=λl H=>Yn rfl rfl rfl rfl l H
 f80:=by kernel_rfl
 n80:=λl H=>Yn rfl rfl rfl rfl l H
 f81:=by kernel_rfl
 n81:=λl H=>Yn rfl rfl rfl rfl l H
 f82:=by kernel_rfl
 n82:=λl H=>Yn rfl rfl rfl rfl l H
 f92:=by kernel_rfl
 n92:=λl H=>Yn rfl rfl rfl rfl l H
 f93:=by kernel_rfl
 n93:=λl H=>Yn rfl rfl rfl rfl l H
 f94:=by kernel_rfl
 n94:=λl H=>Yn rfl rfl rfl rfl l H
 f95:=by kernel_rfl
 n95:=λl H=>Yn rfl rfl rfl rfl l H
 f96:=by kernel_rfl
 n96:=λl H=>Yn rfl rfl rfl rfl l H
 f98:=by kernel_rfl
 n98:=λl H=>Yn rfl rfl rfl rfl l H
 f99:=by kernel_rfl
 n99:=λl H=>Yn rfl rfl rfl rfl l H
 f100:=by kernel_rfl
 n100:=λl H=>Yn rfl rfl rfl rfl l H
 f101:=by kernel_rfl
 n101:=λl H=>Yn rfl rfl rfl rfl l H
 f102:=by kernel_rfl
 n102:=λl H=>Yn rfl rfl rfl rfl l H
 f110:=by kernel_rfl
 n110:=λl H=>Yn rfl rfl rfl rfl l H
 f111:=by kernel_rfl
 n111:=λl H=>Yn rfl rfl rfl rfl l H
 f114:=by kernel_rfl
 n114:=λl H=>Yn rfl rfl rfl rfl l H
 f115:=by kernel_rfl
 n115:=λl H=>Yn rfl rfl rfl rfl l H
 f116:=by kernel_rfl
 n116:=λl H=>Yn rfl rfl rfl rfl l H
 f117:=by kernel_rfl
 n117:=λl H=>Yn rfl rfl rfl rfl l H
 f118:=by kernel_rfl
 n118:=λl H=>Yn rfl rfl rfl rfl l H
 f126:=by kernel_rfl
 n126:=λl H=>Yn rfl rfl rfl rfl l H
 f147:=by kernel_rfl
 n147:=λl H=>Yn rfl rfl rfl rfl l H
 f148:=by kernel_rfl
 n148:=λl H=>Yn rfl rfl rfl rfl l H
 f149:=by kernel_rfl
 n149:=λl H=>Yn rfl rfl rfl rfl l H
 ix:=λs x H h=>by
  rw[Yn rfl rfl rfl rfl]
  show(cond (Nat.ble x 255) (some (CR.ret (.int .i64 (PQ x s 0)) H)) none)=_
  rw[Zg (by omega)];rfl
 cn:=λs x H h=>by
  rw[Yn rfl rfl rfl rfl]
  show(cond (Nat.ble x 255) (some (CR.ret (nI .i64 (XS x s 0)) H)) none)=_
  rw[Zg (by omega)];rfl
 rz:=λx H h hx=>(ah rfl rfl _ _).trans (af x H h hx)
 mz:=λx H h=>by
  rw[Yn rfl rfl rfl rfl]
  show(cond (Nat.ble x 281474976710656) (some (CR.ret (.slice H.nx 0 x none) (H.new (.row ⟨5,1,x,.leaf,.unk,0,false,true,false⟩)))) none)=_
  rw[Zg h];rfl
 ml:=λH h=>(ah rfl rfl _ _).trans (ac H h)
theorem Zpk:DC Rows.laid_portolan_tar_types=tEs:=by kernel_rfl
theorem ZnS:DC Rows.laid_portolan_field_fields=fEs:=by kernel_rfl
theorem Zo9:Ur Rows.laid_internal_strconv_uint64pow10=lE.map ZeP:=by kernel_rfl
theorem dK{e:Nat->Nat}{H:Heap}(hb:Bears 100 (H0 e).t H)(hro:H.ro<=H.nx):Su H:=by
 have h1:(H0 e).t.get 0=some (.row ⟨e 0,1,Xc [AV.map 11],T.ofList [AV.map 11],.unk,0,false,false,true⟩):=by kernel_rfl
 have h2:(H0 e).t.get 11=some (.cmap cEs):=by kernel_rfl
 have h3:(H0 e).t.get 1=some (.row ⟨e 1,1,Xc [AV.map 12],T.ofList [AV.map 12],.unk,0,false,false,true⟩):=by kernel_rfl
 have h4:(H0 e).t.get 12=some (.cmap tEs):=by rw[<-Zpk];kernel_rfl
 have h5:(H0 e).t.get 2=some (.row ⟨e 2,1,Xc [AV.map 13],T.ofList [AV.map 13],.unk,0,false,false,true⟩):=by kernel_rfl
 have h6:(H0 e).t.get 13=some (.cmap fEs):=by rw[<-ZnS];kernel_rfl
 have h7:(H0 e).t.get 6=some (.row ⟨e 6,1,Xc (Ur Rows.laid_internal_strconv_uint64pow10),T.ofList (Ur Rows.laid_internal_strconv_uint64pow10),.unk,0,false,false,true⟩):=by kernel_rfl
 have h8:(H0 e).t.get 8=some (.row ⟨e 8,1,Xc (Ur Rows.laid_math_bits_deBruijn64tab),T.ofList (Ur Rows.laid_math_bits_deBruijn64tab),.unk,0,false,false,true⟩):=by kernel_rfl
 exact⟨⟨hb.1,hro,⟨_,hb.2 _ _ h1,YK 0,rfl⟩,hb.2 _ _ h2,⟨_,hb.2 _ _ h3,YK 0,rfl⟩,hb.2 _ _ h4⟩,⟨hb.1,⟨_,hb.2 _ _ h7,by rw[<-Zo9];exact Cells.new ..⟩,_,hb.2 _ _ h8,Zp (by kernel_rfl),by kernel_rfl⟩,⟨_,hb.2 _ _ h5,YK 0,rfl⟩,hb.2 _ _ h6⟩
theorem Zk9{e:Nat->Nat}{H:Heap}(hb:Bears 100 (H0 e).t H):(∃r,H.t.get 5=some (.row r)∧Cells r (jl.map Y2))∧ ∃r,H.t.get 3=some (.row r)∧Cells r (jk.map Y2):=by
 have h:(H0 e).t.get 5=some (.row ⟨e 5,1,Xc (Ur Rows.laid_portolan_sha_constants),T.ofList (Ur Rows.laid_portolan_sha_constants),.unk,0,false,false,true⟩):=by kernel_rfl
 have h2:(H0 e).t.get 3=some (.row ⟨e 3,1,Xc (Ur Rows.laid_portolan_sha_beginning),T.ofList (Ur Rows.laid_portolan_sha_beginning),.unk,0,false,false,true⟩):=by kernel_rfl
 exact⟨⟨_,hb.2 _ _ h,by rw[<-Zky];exact Cells.new ..⟩,_,hb.2 _ _ h2,by rw[<-ZiS];exact Cells.new ..⟩
theorem ZaH(K B:List UInt32)(l:List UInt8):(LX K B l).length=32:=by
 unfold LX A0
 exact OX ..
abbrev ZiO(H:Heap)(s:Sh)(v:AV):Prop:=Told H s v
theorem bX{e:Nat->Nat}{H:Heap}(hb:Bears 100 (H0 e).t H)(hro:H.ro<=H.nx){v:AV}(ht:Told H (.sl tL) v){a b:Nat}(ha:a<256)(hb2:b<256):
  ∃H',Z8 (LK vh fs 18446744073709551616 15) fs 18446744073709551616 1000 3 [v,nI .u8 a,nI .u8 b] H=.ret (.bool true) H':=by
 have hb': ∀H',Kept H H'->Bears 100 (H0 e).t H':=λH' k=>⟨Yl hb.1 k.1,λc o h=>(k.2.2 c (vH e c o h).1).trans (hb.2 c o h)⟩
 obtain⟨L,hE,hok,hlen⟩:=fa ht
 have hml:maxLen=9223372036854775807:=rfl
 refine ZdA (n:=988) (sf:=LX jl jk) env (ZaH jl jk) (dK hb hro) hE hok (λi hi=>?_) (by omega) (by omega) ha hb2 (λG v' l' k bvl hl far=>?_) λG k=>?_
 ·have:=(hok i hi).attrs
  exact⟨by omega,by omega⟩
 ·obtain⟨rk,rb⟩:=Zk9 (hb' G k)
  have GY:=(hb' G k).1
  exact gF ⟨bvl,by omega,rk,rb,by omega,by rw[k.2.1];exact Yl hro k.1⟩ far
 ·have:vh 7 [] G=ai 7 [] G:=rfl
  rw[this]
  exact Mx (hb' G k) (x:=⟨7,[],.bool true⟩) (by unfold oF;simp) (by unfold oF;simp)
theorem Zh0:KF Tryz.prog 10 22=some [.sl tL]:=by kernel_rfl
end
end Go.AI
