/- What is looked up in JsonPuts: a closed call that was evaluated by itself; and the law comes out true: proved; no conditions but those that are named. -/
import Derived.Test.YtobbpmaeiiblaaaGreatDoorSG
import Derived.Test.YtobbpmaeiiblaaaGreatDoorPF
import Derived.Test.YtobbpmaeiiblaaaGreatDoorP6
set_option maxRecDepth 1000000
set_option maxHeartbeats 0
set_option linter.unusedVariables false
set_option linter.unusedSimpArgs false
namespace Go.AI
open Go Go.Proofs Go.Proofs.YtobbpmaeiiblaaaGreatDoor
noncomputable section
def ZDj:List Zow:=Zfy.map fun s=>⟨126,[.str s], .bool (vu s)⟩
def ZDk:List Zow:=Zfy.map fun s=>⟨119,[.str s], .str (quo s)⟩
def ZvV:List Zow:=⟨35,[], .bool true⟩::(ZDj++ZDk)
theorem ZoV{y:Zow}(h:y∈ZvV):y=⟨35,[], .bool true⟩∨(∃s∈Zfy,y=⟨126,[.str s], .bool (vu s)⟩)∨ ∃s∈Zfy,y=⟨119,[.str s], .str (quo s)⟩:=by
 rcases List.mem_cons.1 h with h|h
 ·exact .inl h
 rcases List.mem_append.1 h with h|h
 ·obtain⟨s,hs,rfl⟩:=List.mem_map.1 h
  exact .inr (.inl ⟨s,hs,rfl⟩)
 ·obtain⟨s,hs,rfl⟩:=List.mem_map.1 h
  exact .inr (.inr ⟨s,hs,rfl⟩)
theorem Zy1{x y:Zow}(hx:x∈ZvV)(hy:y∈ZvV)(hf:y.f=x.f)(ha:y.args=x.args):y.v=x.v:=by
 rcases ZoV hx with rfl|⟨s,_,rfl⟩|⟨s,_,rfl⟩<;>rcases ZoV hy with rfl|⟨u,_,rfl⟩|⟨u,_,rfl⟩
 ·rfl
 ·simp at hf
 ·simp at hf
 ·simp at hf
 ·simp only[List.cons.injEq,AV.str.injEq,and_true] at ha
  rw[ha]
 ·simp at hf
 ·simp at hf
 ·simp at hf
 ·simp only[List.cons.injEq,AV.str.injEq,and_true] at ha
  rw[ha]
def ZvW:Nat→List AV→Heap→Option CR:=ZgU 100 (fun e=>(H0 e).t) Zm ZvV
theorem ZoW(e:Nat→Nat)(b:Nat)(o:Obj)(h:(H0 e).t.get b=some o):b<100∧ZwR 100 o∧(Soft o∨ ∃es,o= .cmap es):=
 Zp6 (n:=100) (by kernel_rfl) (by kernel_rfl) h
theorem ZBk:Zc7 Tryz.prog ZvW:=by
 refine Znf (Zo (by kernel_rfl)) ZoW ZsM ZvV fun x hx=>?_
 rcases ZoV hx with rfl|⟨s,hs,rfl⟩|⟨s,hs,rfl⟩
 ·exact⟨_,Zku,rfl,rfl,ZtJ⟩
 ·exact⟨_,Zku,rfl,rfl,fun e=>List.all_eq_true.1 (ZtK e) s hs⟩
 ·exact⟨_,Zku,rfl,rfl,fun e=>List.all_eq_true.1 (ZtL e) s hs⟩
theorem ZDl:Qd Tryz.prog (ZR (LK ZvW fs 100000 7) fs 100000 1000):=
 Zli ZvX (ZoF (fun _ h=>Zli ZvX h ZnP 100000 900) ZBk 7) ZnP 100000 1000
theorem env:Env ZvW fs 100000 where
 big:=Zk _
 f5:=by kernel_rfl
 n5:=fun _ _=>rfl
 f28:=by kernel_rfl
 n28:=fun _ _=>rfl
 f29:=by kernel_rfl
 n29:=fun _ _=>rfl
 f30:=by kernel_rfl
 n30:=fun _ _=>rfl
 f31:=by kernel_rfl
 n31:=fun _ _=>rfl
 f32:=by kernel_rfl
 n32:=fun _ _=>rfl
 f33:=by kernel_rfl
 n33:=fun _ _=>rfl
 f34:=by kernel_rfl
 n34:=fun _ _=>rfl
 f36:=by kernel_rfl
 n36:=fun _ _=>rfl
 f37:=by kernel_rfl
 n37:=fun _ _=>rfl
 f38:=by kernel_rfl
 n38:=fun _ _=>rfl
 f40:=by kernel_rfl
 n40:=fun _ _=>rfl
 f41:=by kernel_rfl
 n41:=fun _ _=>rfl
 f43:=by kernel_rfl
 n43:=fun _ _=>rfl
 f45:=by kernel_rfl
 n45:=fun _ _=>rfl
 f66:=by kernel_rfl
 n66:=fun _ _=>rfl
 f67:=by kernel_rfl
 n67:=fun _ _=>rfl
 f68:=by kernel_rfl
 n68:=fun _ _=>rfl
 f69:=by kernel_rfl
 n69:=fun _ _=>rfl
 f70:=by kernel_rfl
 n70:=fun _ _=>rfl
 f71:=by kernel_rfl
 n71:=fun _ _=>rfl
 f72:=by kernel_rfl
 n72:=fun _ _=>rfl
 f73:=by kernel_rfl
 n73:=fun _ _=>rfl
 f75:=by kernel_rfl
 n75:=fun _ _=>rfl
 f76:=by kernel_rfl
 n76:=fun _ _=>rfl
 f77:=by kernel_rfl
 n77:=fun _ _=>rfl
 f78:=by kernel_rfl
 n78:=fun _ _=>rfl
 f79:=by kernel_rfl
 n79:=fun _ _=>rfl
 f80:=by kernel_rfl
 n80:=fun _ _=>rfl
 f83:=by kernel_rfl
 n83:=fun _ _=>rfl
 f88:=by kernel_rfl
 n88:=fun _ _=>rfl
 f90:=by kernel_rfl
 n90:=fun _ _=>rfl
 f92:=by kernel_rfl
 n92:=fun _ _=>rfl
 f107:=by kernel_rfl
 n107:=fun _ _=>rfl
 f111:=by kernel_rfl
 n111:=fun _ _=>rfl
 f112:=by kernel_rfl
 n112:=fun _ _=>rfl
 f113:=by kernel_rfl
 n113:=fun _ _=>rfl
 f114:=by kernel_rfl
 n114:=fun _ _=>rfl
 f115:=by kernel_rfl
 n115:=fun _ _=>rfl
 f116:=by kernel_rfl
 n116:=fun _ _=>rfl
 f117:=by kernel_rfl
 n117:=fun _ _=>rfl
 f118:=by kernel_rfl
 n118:=fun _ _=>rfl
 f120:=by kernel_rfl
 n120:=fun _ _=>rfl
 f121:=by kernel_rfl
 n121:=fun _ _=>rfl
 f122:=by kernel_rfl
 n122:=fun _ _=>rfl
 f123:=by kernel_rfl
 n123:=fun _ _=>rfl
 f124:=by kernel_rfl
 n124:=fun _ _=>rfl
 f125:=by kernel_rfl
 n125:=fun _ _=>rfl
 f129:=by kernel_rfl
 n129:=fun _ _=>rfl
 f134:=by kernel_rfl
 n134:=fun _ _=>rfl
 f135:=by kernel_rfl
 n135:=fun _ _=>rfl
 f137:=by kernel_rfl
 n137:=fun _ _=>rfl
 f138:=by kernel_rfl
 n138:=fun _ _=>rfl
 f139:=by kernel_rfl
 n139:=fun _ _=>rfl
 f143:=by kernel_rfl
 n143:=fun _ _=>rfl
 f151:=by kernel_rfl
 n151:=fun _ _=>rfl
 f155:=by kernel_rfl
 n155:=fun _ _=>rfl
 f156:=by kernel_rfl
 n156:=fun _ _=>rfl
 f157:=by kernel_rfl
 n157:=fun _ _=>rfl
 f158:=by kernel_rfl
 n158:=fun _ _=>rfl
 f159:=by kernel_rfl
 n159:=fun _ _=>rfl
 f160:=by kernel_rfl
 n160:=fun _ _=>rfl
 f167:=by kernel_rfl
 n167:=fun _ _=>rfl
 f168:=by kernel_rfl
 n168:=fun _ _=>rfl
 f169:=by kernel_rfl
 n169:=fun _ _=>rfl
 f171:=by kernel_rfl
 n171:=fun _ _=>rfl
 f172:=by kernel_rfl
 n172:=fun _ _=>rfl
 f173:=by kernel_rfl
 n173:=fun _ _=>rfl
 f184:=by kernel_rfl
 n184:=fun _ _=>rfl
 f185:=by kernel_rfl
 n185:=fun _ _=>rfl
 f186:=by kernel_rfl
 n186:=fun _ _=>rfl
 f189:=by kernel_rfl
 n189:=fun _ _=>rfl
 f190:=by kernel_rfl
 n190:=fun _ _=>rfl
 f205:=by kernel_rfl
 n205:=fun _ _=>rfl
 f207:=by kernel_rfl
 n207:=fun _ _=>rfl
 f217:=by kernel_rfl
 n217:=fun _ _=>rfl
 f219:=by kernel_rfl
 n219:=fun _ _=>rfl
 ix:=fun s x H h=>by
  show(cond (Nat.ble x 255) (some (CR.ret (.int .i64 (ZcA x s 0)) H)) none)=_
  rw[Zl (by omega)];rfl
 nesc:=fun _ _=>rfl
theorem mnz:MNZ ZvW:=fun n H hn=>by
 show(cond (Nat.ble n 281474976710656) (some (CR.ret (.slice H.nx 0 n none) (H.new (Zys 5 n)))) none)=_
 rw[Zl hn];rfl
theorem ZDm:UF Rows.laid_internal_strconv_uint64pow10=Ztk.map ZzR:=by kernel_rfl
theorem ZDn:UF Rows.laid_unicode_utf8_first=Zyf.map (nI .u8):=by kernel_rfl
theorem ZDo:UF Rows.laid_unicode_utf8_acceptRanges=Zg1.map (nI .u8):=by kernel_rfl
section
variable {e:Nat→Nat} {H:Heap}
theorem ZBl(hb:Bears 100 (H0 e).t H):Glob H:=by
 have h:(H0 e).t.get 3=some (.row ⟨e 3,1,Yt (UF Rows.laid_internal_strconv_uint64pow10),T.ofList (UF Rows.laid_internal_strconv_uint64pow10), .unk,0,false,false,true⟩):=by kernel_rfl
 have h2:(H0 e).t.get 9=some (.row ⟨e 9,1,1,T.ofList [.iface 272 (.ptr 11 0)], .unk,0,false,false,true⟩):=by kernel_rfl
 exact⟨hb.1,⟨_,hb.2 _ _ h,by rw[←ZDm];exact Cells.new ..⟩,_,272,11,hb.2 _ _ h2,(show 0<1 by decide),rfl,by decide⟩
theorem Zy2(hb:Bears 100 (H0 e).t H):GlobU H:=by
 have h:(H0 e).t.get 0=some (.row ⟨e 0,1,Yt (UF Rows.laid_unicode_utf8_first),T.ofList (UF Rows.laid_unicode_utf8_first), .unk,0,false,false,true⟩):=by kernel_rfl
 have h2:(H0 e).t.get 1=some (.row ⟨e 1,1,Yt (UF Rows.laid_unicode_utf8_acceptRanges),T.ofList (UF Rows.laid_unicode_utf8_acceptRanges), .unk,0,false,false,true⟩):=by kernel_rfl
 exact⟨hb.1,⟨_,hb.2 _ _ h,by rw[←ZDn];exact Cells.new ..⟩,_,hb.2 _ _ h2,by rw[←ZDo];exact Cells.new ..⟩
theorem Zy3(hb:Bears 100 (H0 e).t H)(hro:H.ro≤H.nx){a:AV}{l:List Nat}(ha:ArgN H a l){n:Nat}(hn:n<256):
  ∃H',ZR (LK ZvW fs 100000 7) fs 100000 1000 5 [a,nI .u8 n] H= .ret (.bool true) H':=by
 have hb': ∀H',Keep H H' []→Bears 100 (H0 e).t H':=fun H' k=>hb.keep (fun b o h=>(ZoW e b o h).1) k.nx fun c hc=>k.get c hc (by simp)
 have hit: ∀x∈ZvV,∀H',Keep H H' []→ZvW x.f x.args H'=some (.ret x.v H'):=fun x hx H' k=>ZgV (hb' H' k) hx fun y hy h1 h2=>Zy1 hx hy h1 h2
 refine ZBi (n:=699) env mnz hn ha (ZBl hb) (Zy2 hb) hro (fun s hs H' k=>?_) (fun s hs H' k=>?_) (fun H' k=>?_)
 ·exact hit ⟨126,[.str s], .bool (vu s)⟩ (ZB _ (List.mem_append.2 (.inl (List.mem_map.2 ⟨s,hs,rfl⟩)))) H' k
 ·exact hit ⟨119,[.str s], .str (quo s)⟩ (ZB _ (List.mem_append.2 (.inr (List.mem_map.2 ⟨s,hs,rfl⟩)))) H' k
 ·exact hit ⟨35,[], .bool true⟩ (Zy ..) H' k
end
end
end Go.AI
