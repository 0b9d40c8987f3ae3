/- What is looked up in JsonOrder: a closed call that was evaluated by itself; and the law comes out true: proved; no conditions but those that are named. -/
import Derived.Test.YtobbpmaeiiblaaaGreatDoorSG
import Derived.Test.YtobbpmaeiiblaaaGreatDoorPF
import Derived.Test.YtobbpmaeiiblaaaGreatDoorP6
set_option maxRecDepth 1000000
set_option maxHeartbeats 0
set_option linter.unusedVariables false
set_option linter.unusedSimpArgs false
namespace Go.AI
open Go Go.Proofs Go.Proofs.YtobbpmaeiiblaaaGreatDoor
noncomputable section
def Zy3:List ZwS:=[⟨35,[], .bool true⟩]
def Zy4:Nat→List AV→Heap→Option CR:=ZfZ 100 (fun e=>(H0 e).t) Zk Zy3
theorem ZoB(e:Nat→Nat)(b:Nat)(o:Obj)(h:(H0 e).t.get b=some o):b<100∧ZwR 100 o∧(Soft o∨ ∃es,o= .cmap es):=
 ZpB (n:=100) (by kernel_rfl) (by kernel_rfl) h
theorem ZA4:Zct Tryz.prog Zy4:=by
 refine ZmG (Zm (by kernel_rfl)) ZoB Zse Zy3 fun x hx=>?_
 unfold Zy3 at hx
 simp only[List.mem_cons,List.not_mem_nil,or_false] at hx
 subst hx
 exact⟨_,Zvr,rfl,rfl,Ztd⟩
theorem ZDb:Uw Tryz.prog (ZQ (LK Zy4 fs 100000 7) fs 100000 1000):=
 ZkX Zvp (Zoa (fun _ h=>ZkX Zvp h Zni 100000 900) ZA4 7) Zni 100000 1000
theorem env:Env Zy4 fs 100000 where
 big:=Zl _
 f7:=by kernel_rfl
 n7:=fun _ _=>rfl
 f28:=by kernel_rfl
 n28:=fun _ _=>rfl
 f29:=by kernel_rfl
 n29:=fun _ _=>rfl
 f32:=by kernel_rfl
 n32:=fun _ _=>rfl
 f33:=by kernel_rfl
 n33:=fun _ _=>rfl
 f36:=by kernel_rfl
 n36:=fun _ _=>rfl
 f37:=by kernel_rfl
 n37:=fun _ _=>rfl
 f38:=by kernel_rfl
 n38:=fun _ _=>rfl
 f40:=by kernel_rfl
 n40:=fun _ _=>rfl
 f41:=by kernel_rfl
 n41:=fun _ _=>rfl
 f42:=by kernel_rfl
 n42:=fun _ _=>rfl
 f43:=by kernel_rfl
 n43:=fun _ _=>rfl
 f44:=by kernel_rfl
 n44:=fun _ _=>rfl
 f45:=by kernel_rfl
 n45:=fun _ _=>rfl
 f66:=by kernel_rfl
 n66:=fun _ _=>rfl
 f67:=by kernel_rfl
 n67:=fun _ _=>rfl
 f68:=by kernel_rfl
 n68:=fun _ _=>rfl
 f70:=by kernel_rfl
 n70:=fun _ _=>rfl
 f71:=by kernel_rfl
 n71:=fun _ _=>rfl
 f75:=by kernel_rfl
 n75:=fun _ _=>rfl
 f76:=by kernel_rfl
 n76:=fun _ _=>rfl
 f77:=by kernel_rfl
 n77:=fun _ _=>rfl
 f78:=by kernel_rfl
 n78:=fun _ _=>rfl
 f79:=by kernel_rfl
 n79:=fun _ _=>rfl
 f80:=by kernel_rfl
 n80:=fun _ _=>rfl
 f81:=by kernel_rfl
 n81:=fun _ _=>rfl
 f82:=by kernel_rfl
 n82:=fun _ _=>rfl
 f83:=by kernel_rfl
 n83:=fun _ _=>rfl
 f84:=by kernel_rfl
 n84:=fun _ _=>rfl
 f85:=by kernel_rfl
 n85:=fun _ _=>rfl
 f86:=by kernel_rfl
 n86:=fun _ _=>rfl
 f87:=by kernel_rfl
 n87:=fun _ _=>rfl
 f88:=by kernel_rfl
 n88:=fun _ _=>rfl
 f89:=by kernel_rfl
 n89:=fun _ _=>rfl
 f90:=by kernel_rfl
 n90:=fun _ _=>rfl
 f92:=by kernel_rfl
 n92:=fun _ _=>rfl
 f107:=by kernel_rfl
 n107:=fun _ _=>rfl
 f111:=by kernel_rfl
 n111:=fun _ _=>rfl
 f112:=by kernel_rfl
 n112:=fun _ _=>rfl
 f113:=by kernel_rfl
 n113:=fun _ _=>rfl
 f114:=by kernel_rfl
 n114:=fun _ _=>rfl
 f115:=by kernel_rfl
 n115:=fun _ _=>rfl
 f116:=by kernel_rfl
 n116:=fun _ _=>rfl
 f117:=by kernel_rfl
 n117:=fun _ _=>rfl
 f120:=by kernel_rfl
 n120:=fun _ _=>rfl
 f121:=by kernel_rfl
 n121:=fun _ _=>rfl
 f122:=by kernel_rfl
 n122:=fun _ _=>rfl
 f123:=by kernel_rfl
 n123:=fun _ _=>rfl
 f124:=by kernel_rfl
 n124:=fun _ _=>rfl
 f125:=by kernel_rfl
 n125:=fun _ _=>rfl
 f129:=by kernel_rfl
 n129:=fun _ _=>rfl
 f134:=by kernel_rfl
 n134:=fun _ _=>rfl
 f135:=by kernel_rfl
 n135:=fun _ _=>rfl
 f136:=by kernel_rfl
 n136:=fun _ _=>rfl
 f137:=by kernel_rfl
 n137:=fun _ _=>rfl
 f138:=by kernel_rfl
 n138:=fun _ _=>rfl
 f139:=by kernel_rfl
 n139:=fun _ _=>rfl
 f143:=by kernel_rfl
 n143:=fun _ _=>rfl
 f151:=by kernel_rfl
 n151:=fun _ _=>rfl
 f155:=by kernel_rfl
 n155:=fun _ _=>rfl
 f156:=by kernel_rfl
 n156:=fun _ _=>rfl
 f157:=by kernel_rfl
 n157:=fun _ _=>rfl
 f158:=by kernel_rfl
 n158:=fun _ _=>rfl
 f160:=by kernel_rfl
 n160:=fun _ _=>rfl
 f167:=by kernel_rfl
 n167:=fun _ _=>rfl
 f168:=by kernel_rfl
 n168:=fun _ _=>rfl
 f169:=by kernel_rfl
 n169:=fun _ _=>rfl
 f171:=by kernel_rfl
 n171:=fun _ _=>rfl
 f172:=by kernel_rfl
 n172:=fun _ _=>rfl
 f173:=by kernel_rfl
 n173:=fun _ _=>rfl
 f184:=by kernel_rfl
 n184:=fun _ _=>rfl
 f185:=by kernel_rfl
 n185:=fun _ _=>rfl
 f186:=by kernel_rfl
 n186:=fun _ _=>rfl
 f189:=by kernel_rfl
 n189:=fun _ _=>rfl
 f190:=by kernel_rfl
 n190:=fun _ _=>rfl
 f205:=by kernel_rfl
 n205:=fun _ _=>rfl
 f207:=by kernel_rfl
 n207:=fun _ _=>rfl
 f217:=by kernel_rfl
 n217:=fun _ _=>rfl
 f219:=by kernel_rfl
 n219:=fun _ _=>rfl
 ix:=fun s x H h=>by
  show(cond (Nat.ble x 255) (some (CR.ret (.int .i64 (ZbV x s 0)) H)) none)=_
  rw[Zj (by omega)];rfl
 nesc:=fun _ _=>rfl
theorem mnz:MNZ Zy4:=fun n H hn=>by
 show(cond (Nat.ble n 281474976710656) (some (CR.ret (.slice H.nx 0 n none) (H.new (Zyp 5 n)))) none)=_
 rw[Zj hn];rfl
theorem ZDc:V5 Rows.laid_internal_strconv_uint64pow10=ZsP.map ZzT:=by kernel_rfl
theorem ZDd:V5 Rows.laid_unicode_utf8_first=Zyf.map (nI .u8):=by kernel_rfl
theorem ZDe:V5 Rows.laid_unicode_utf8_acceptRanges=Zf7.map (nI .u8):=by kernel_rfl
section
variable {e:Nat→Nat} {H:Heap}
theorem ZA5(hb:Bears 100 (H0 e).t H):Glob H:=by
 have h:(H0 e).t.get 3=some (.row ⟨e 3,1,Yi (V5 Rows.laid_internal_strconv_uint64pow10),T.ofList (V5 Rows.laid_internal_strconv_uint64pow10), .unk,0,false,false,true⟩):=by kernel_rfl
 have h2:(H0 e).t.get 9=some (.row ⟨e 9,1,1,T.ofList [.iface 272 (.ptr 11 0)], .unk,0,false,false,true⟩):=by kernel_rfl
 exact⟨hb.1,⟨_,hb.2 _ _ h,by rw[←ZDc];exact Cells.new ..⟩,_,272,11,hb.2 _ _ h2,(show 0<1 by decide),rfl,by decide⟩
theorem Zy5(hb:Bears 100 (H0 e).t H):GlobU H:=by
 have h:(H0 e).t.get 0=some (.row ⟨e 0,1,Yi (V5 Rows.laid_unicode_utf8_first),T.ofList (V5 Rows.laid_unicode_utf8_first), .unk,0,false,false,true⟩):=by kernel_rfl
 have h2:(H0 e).t.get 1=some (.row ⟨e 1,1,Yi (V5 Rows.laid_unicode_utf8_acceptRanges),T.ofList (V5 Rows.laid_unicode_utf8_acceptRanges), .unk,0,false,false,true⟩):=by kernel_rfl
 exact⟨hb.1,⟨_,hb.2 _ _ h,by rw[←ZDd];exact Cells.new ..⟩,_,hb.2 _ _ h2,by rw[←ZDe];exact Cells.new ..⟩
theorem Zy6(hb:Bears 100 (H0 e).t H)(hro:H.ro≤H.nx){a:AV}{l:List Nat}(ha:ArgN H a l)(key:List UInt8):
  ∃H',ZQ (LK Zy4 fs 100000 7) fs 100000 1000 7 [a, .str key] H= .ret (.bool true) H':=by
 refine ZA2 (n:=939) env mnz ha (ZA5 hb) (Zy5 hb) hro (fun H' k=>?_)
 have hb':Bears 100 (H0 e).t H':=hb.keep (fun b o h=>(ZoB e b o h).1) k.nx fun c hc=>k.get c hc (by simp)
 exact Zf0 hb' (x:=⟨35,[], .bool true⟩) (by unfold Zy3;simp) (by unfold Zy3;simp)
end
end
end Go.AI
