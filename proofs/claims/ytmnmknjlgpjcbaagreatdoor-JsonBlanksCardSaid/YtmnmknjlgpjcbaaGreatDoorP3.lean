/- Every operation of the interpreter's does what the model's does: proved for told worlds. -/
import Derived.Test.YtmnmknjlgpjcbaaGreatDoorP2
import Derived.Laws.BytesString
import Derived.Laws.Append
import Derived.Laws.StructEq
set_option maxRecDepth 1000000
set_option maxHeartbeats 0
set_option linter.unusedVariables false
set_option linter.unusedSimpArgs false
namespace Go.AI
open Go
noncomputable section
section
variable {P:Program} {σ:Mp} {H:Zc} {w:World} {tm:TM} {ρ:Operand->Value}
theorem He: ∀s:List UInt8,Kr s=s.map λb=>AV.int .u8 (.ofNat b.toNat)
 |[]=>rfl
 |b::s=>by simp[Kr,He s]
theorem CM(σ:Mp): ∀s:List UInt8,YM σ (Kr s) (s.map λb=>Value.int .u8 b.toNat)
 |[]=>UM
 |b::s=>WC (by simp[Ys]) (CM σ s)
theorem uu(s:List UInt8): ∀v∈s.map (λb=>Value.int .u8 b.toNat),v.oneCell'=true:=by
 intro v hv
 obtain⟨b,_,rfl⟩:=YV.1 hv
 rfl
def vq(n:Int):UInt8:=UInt8.ofNat n.toNat
theorem MN{r:Result Next}{f:List UInt8->OR}: ∀(as:List AV) (vs:List Value),YM σ as vs->(∀ns:List Int,vs=ns.map (Value.int .u8)->Y2 P σ H w r (f (ns.map vq)))->Y2 P σ H w r (Rz f as)
 |[],vs,h,g=>g [] (by rw[h.nil_inv];rfl)
 |a::as,vs,h,g=>by
  obtain⟨v,vs',h1,h2,rfl⟩:=h.cons_inv
  unfold Rz
  split
  ·rename_i n
   have h1:=XN h1
   subst h1
   exact MN as vs' h2 λns hs=>g (.ofNat n::ns) (by rw[hs];rfl)
  ·trivial
theorem GK: ∀(ns:List Int) (s:ByteArray),ns.foldl (λr n=>r.push (UInt8.ofNat n.toNat)) s=⟨(s.data.toList++ns.map vq).toArray⟩
 |[],s=>by
  apply ByteArray.ext
  apply Array.ext'
  simp
 |n::ns,s=>by
  rw[List.foldl_cons,GK ns]
  simp[vq]
theorem Tr.drew(hs:Wh P σ H w):Tr P σ H w σ H w.drew:=
 ⟨Oq.refl σ,⟨hs.dom,hs.low,hs.alive,hs.inj,hs.glob,hs.ro⟩,Zj _,λ_ _ _=>rfl,λb l hw hl _=>⟨b,l,hw,hl,rfl⟩,Zj _,rfl,λ_ _=>rfl,rfl,rfl,rfl,λ_ _ h=>⟨rfl,h⟩⟩
theorem Wh.drew(hs:Wh P σ H w):Wh P σ H w.drew:=(Tr.drew hs).sim
theorem rp(w:World)(c:Array Value)(e n:Nat):(w.alloc (.cells c e)).freeze ⟨w.heap.size,n,none⟩ 1=w.alloc (.cells c e (n,n+1)):=by
 unfold World.freeze
 rw[if_neg (by decide)]
 have:(w.alloc (.cells c e)).heap.modify w.heap.size (λ
   |.cells c elem (lo,hi)=>.cells c elem (if lo==hi then(n,n+1) else(min lo n,max hi (n+1)))
   |o=>o)=(w.alloc (.cells c e (n,n+1))).heap:=by
  apply Array.ext_getElem?
  intro i
  rw[Wb]
  by_cases h:w.heap.size=i
  ·subst h;rw[if_pos rfl,SF,SF];rfl
  ·rw[if_neg h]
   by_cases h2:i<w.heap.size
   ·rw[SG h2,SG h2]
   ·rw[Array.getElem?_eq_none (by simp;omega),Array.getElem?_eq_none (by simp;omega)]
 exact(congrArg (λhp=>({heap:=hp,tape:=w.tape,drawn:=w.drawn,os:=w.os,output:=w.output}:World)) this).trans rfl
theorem ln{w:World}{g n:Nat}{cs:Array Value}{t:TypeId}{fr:Nat×Nat}(h:w.heap[g]? =some (.cells cs t fr))(hf:fr.1=fr.2):
  AB w (w.freeze ⟨g,n,none⟩ 1) g (.cells cs t (n,n+1)):=by
 obtain⟨a,b⟩:=fr
 simp only at hf
 subst hf
 refine⟨by simp[World.freeze],?_,λk hk=>?_,rfl,rfl,rfl⟩
 ·simp only[World.freeze,Nat.one_ne_zero,if_false,Wb]
  rw[h];simp
 ·simp only[World.freeze,Nat.one_ne_zero,if_false,Wb]
  rw[if_neg (λe=>hk e.symm)]
theorem Zg9{f:TypeId->Bool}{e count off n d:Nat}(h1:1<=P.cellsOf e)(h2:off % P.cellsOf e=0)(h3:off/P.cellsOf e+n<=count)(hf:f e=true):rowAt P f (d+1) e count off n=true:=by
 unfold rowAt
 have q4: ¬(P.cellsOf e=0):=by omega
 simp only[if_neg q4,h2,beq_self_eq_true,hf,Bool.and_true,Ze h3,UO]
theorem j8(d u:Nat):sameLayout P (d+1) u u=true:=by unfold sameLayout;simp
theorem nB{e count off n:Nat}(h1:1<=P.cellsOf e)(h2:off % P.cellsOf e=0)(h3:off/P.cellsOf e+n<=count):liesAt P P.depth e count off e n=true:=by
 have hd: ∃d,P.depth=d+1:=⟨2*(P.types.size+Made.depth)+1,rfl⟩
 obtain⟨d,hd⟩:=hd
 rw[hd]
 unfold liesAt
 rw[hd,Zg9 (f:=λx=>sameLayout P (d+1) x e) h1 h2 h3 (j8 d e)]
 rfl
theorem JX(need old e:Nat)(w:World): ∃k,(choose (.appendCap need old e)).run P w=.ok (need+k) w.drew:=by
 refine⟨w.tape w.drawn (.appendCap need old e) % (2^63 - need),?_⟩
 simp[Question.forced,Question.cut]
theorem HZ{w:World}{g:Nat}{cs:Array Value}{t:TypeId}{fr:Nat×Nat}(h:w.heap[g]? =some (.cells cs t fr)):w.shape? g=some (t,cs.size):=by
 unfold World.shape?;rw[h]
theorem qS(hs:Wh P σ H w)(hρ:Rp P σ tm ρ){o:Oper}{s d:TypeId}{x:Operand}(ho:o.op=.convert s d x):Xm P σ H w tm ρ o:=by
 unfold Xm;rw[ho]
 refine Xb λds iZ=>Xb λdd ng=>?_
 have h1:=hρ x
 have hr: ∀{v:Value} {w':World},(convert s d (ρ x)).run P w=.ok v w'->(execOp ρ o).run P w=.ok (.value v) w':=λh=>by
  simp only[execOp,ho];exact WT h
 show Y2 P σ H w _ (ZdH P s d (YN P x) ds dd tm H)
 cases ds<;>cases dd<;>try exact trivial
 case int.int k1 k=>
  refine RX λj n hx=>?_
  rw[hx] at h1
  have h1:=XN h1
  refine Ru hs (hr ?_)
  rw[h1]
  simp[convert,run_underlying iZ,run_underlying ng,Conv.intToInt]
 case int.string k1=>
  refine RX λj n hx=>?_
  rw[hx] at h1
  have h1:=XN h1
  refine Yh hs (x:=.string (Utf8.encode n)) (hr ?_) (by simp[Ys])
  rw[h1]
  simp[convert,run_underlying iZ,run_underlying ng,Conv.intToString]
 case string.string=>
  refine PJ λt hx=>?_
  rw[hx] at h1
  have h0:=h1
  have h1:=VU h1
  refine Yh hs (x:=ρ x) (hr ?_) h0
  rw[h1]
  simp[convert,run_underlying iZ,run_underlying ng]
 case string.slice e=>
  refine Xb λde hue=>Cd λhde=>PJ λt hx=>?_
  subst hde
  rw[hx] at h1
  have h1:=VU h1
  obtain⟨k,hk⟩:=JX (P:=P) t.length 0 e w
  have YX:(execOp ρ o).run P w=.ok (.value (.slice (some ⟨w.heap.size,0,none⟩) t.length (t.length+k))) (w.drew.alloc (.cells ⟨t.map (λb=>Value.int .u8 b.toNat)++List.replicate k (.int .u8 0)⟩ e (t.length+k,t.length+k+1))):=by
   refine hr ?_
   rw[h1]
   simp only[convert,Sem.run_bind,run_underlying iZ,run_underlying ng,run_underlying hue,Result.andThen_ok,Conv.stringToBytes,NE,hk]
   have hc:((t.toArray.map λb=>Value.int .u8 b.toNat)++Array.replicate (t.length+k - t.length) (Value.int .u8 0))=⟨t.map (λb=>Value.int .u8 b.toNat)++List.replicate k (.int .u8 0)⟩:=by
    apply Array.ext'
    simp
   simp only[hc,newRow,Sem.run_bind,run_newObj,Result.andThen_ok,World.alloc_eq,Sem.run_pure,markStringish,run_shape]
   have v9:(w.drew.alloc (.cells ⟨t.map (λb=>Value.int .u8 b.toNat)++List.replicate k (.int .u8 0)⟩ e)).shape? w.drew.heap.size=some (e,t.length+k):=by
    unfold World.shape?
    rw[SF]
    simp
   simp only[v9,run_freeze,Result.andThen_ok]
   rw[rp]
   rfl
  refine Vp ((Tr.drew hs).trans (Tr.alloc hs.drew (.row ⟨e,1,YH t,T.ofList (Kr t),.unk,0,true,true,false⟩) _ ⟨w.heap.size,0,t.length+k,1⟩ rfl ⟨_,_,rfl,?_⟩)) YX ?_
  ·have hl:(Kr t).length=t.length:=by rw[He];simp
   have:=Ij (σ:=σ.put H.nx ⟨w.heap.size,0,t.length+k,1⟩) (e:=e) (sz:=1) (tot:=t.length+k) (sm:=true) (exact:=false) (blk:=w.heap.size) (fr:=(t.length+k,t.length+k+1)) (rest:=List.replicate k (.int .u8 0)) (CM _ t)
    (λv hv=>by
     rcases Zs.1 hv with hv|hv
     ·exact uu t v hv
     ·rw[List.eq_of_mem_replicate hv];rfl) (Zj _) (by rw[hl];omega) (by simp) (λh=>by cases h) (by simp)
   have e1:YH (Kr t)=YH t:=by rw[YC,YC,hl]
   rw[e1] at this
   exact this
  ·rw[YC];exact Sq (l:=⟨w.heap.size,0,t.length+k,1⟩) rfl
 case slice.string e=>
  refine Xb λde hue=>Cd λhde=>?_
  subst hde
  refine Sn (λhx=>?_) λb off len cap hx=>Ux (λhn=>?_) λhn=>TD λr Kg=>Yn λTn=>?_
  ·rw[hx] at h1
   have h1:ρ x=.slice none 0 0:=by simpa only[Ys] using h1
   refine Yh hs (x:=.string .empty) (hr ?_) (by simp only[Ys];rfl)
   rw[h1,run_convert_bytes_string w s d e none 0 0 iZ hue ng]
   simp[Conv.bytesToString]
  ·rw[hx] at h1
   obtain⟨l,hl,e1⟩:=V6 h1
   rw[Ym] at hn
   have hn:len=0:=Zn hn
   refine Yh hs (x:=.string .empty) (hr ?_) (by simp only[Ys];rfl)
   rw[e1,run_convert_bytes_string w s d e _ _ _ iZ hue ng,run_bytesToString w _ _ _ [] (by rw[hn];rfl)]
   rfl
  ·rw[hx] at h1
   obtain⟨l,hl,e1⟩:=V6 h1
   obtain⟨cs,fr,hc,RM⟩:=hs.row Kg hl
   rw[Y5] at Tn
   have Tn:off+len<=r.size:=Zn Tn
   obtain⟨vs,h2,h3,h4,h5⟩:=Pm RM len off Tn
   refine MN _ vs h2 λns hns=>?_
   have Zd9:=Rk (P:=P) hc vs (o:=l.base+off) h4
   rw[h3,hns] at Zd9
   refine Yh hs (hr (v:=.string ⟨(ns.map vq).toArray⟩) ?_) (by simp[Ys])
   rw[e1,run_convert_bytes_string w s d e _ _ _ iZ hue ng,run_bytesToString w _ _ _ ns Zd9,GK]
   simp
 case pointer.unsafePointer u=>
  refine XD λi hi=>Wq (λh3=>?_) λ_=>T0
  rw[Y5] at h3
  have h3:1<=i.size:=Zn h3
  show Y2 P σ H w _ (zX (YN P x) tm H)
  unfold zX
  split
  ·rename_i hx
   rw[hx] at h1
   have h1:ρ x=.pointer none:=by simpa only[Ys] using h1
   refine Yh hs (x:=.pointer none) (hr ?_) (by simp[Ys])
   rw[h1]
   simp[convert,run_underlying iZ,run_underlying ng,Conv.unsafePointer]
  ·rename_i b off hx
   refine TD λr Kg=>Yn λTn=>?_
   rw[hx] at h1
   obtain⟨l,hl,e1⟩:=Ug h1
   obtain⟨cs,fr,hc,RM⟩:=hs.row Kg hl
   rw[Y5] at Tn
   have Tn:off+1<=r.size:=Zn Tn
   have q1:=RM.fits
   have q2:=RM.room
   refine Yh hs (hr ?_) (Mo hl)
   rw[e1]
   have v9:=HZ hc
   simp only[convert,Sem.run_bind,run_underlying iZ,run_underlying ng,Result.andThen_ok,Conv.unsafePointer,Conv.seenAt,viewAt,run_shape,v9,Option.isSome_some,if_true,Sem.run_pure,cellsIn,Wo hi]
   have q3: ¬(l.base+off≥cs.size):=by omega
   have q4: ¬(i.size=0):=by omega
   simp[q3,q4]
  ·trivial
 case unsafePointer.pointer u=>
  refine XD λi hi=>Wq (λh3=>?_) λ_=>T0
  rw[Y5] at h3
  have h3:1<=i.size:=Zn h3
  show Y2 P σ H w _ (zU (YN P x) u i.size tm H)
  unfold zU
  split
  ·rename_i hx
   rw[hx] at h1
   have h1:ρ x=.pointer none:=by simpa only[Ys] using h1
   refine Yh hs (x:=.pointer none) (hr ?_) (by simp[Ys])
   rw[h1]
   simp[convert,run_underlying iZ,run_underlying ng,Conv.unsafePointer]
  ·rename_i b off hx
   refine TD λr Kg=>Yn λhex=>Yn λzu=>Yn λh0=>Yn λTn=>?_
   rw[hx] at h1
   obtain⟨l,hl,e1⟩:=Ug h1
   obtain⟨cs,fr,hc,RM⟩:=hs.row Kg hl
   rw[Y5] at Tn
   rw[Ym] at zu h0
   have Tn:i.size<=r.size:=Zn Tn
   have zu:r.elem=u:=Zn zu
   have h0:off=0:=Zn h0
   obtain⟨x1,x2,x3⟩:=RM.exact hex
   refine Yh hs (hr ?_) (Mo hl)
   rw[e1]
   have v9:=HZ hc
   have hcell:P.cellsOf u=i.size:=by simp[Program.cellsOf,hi]
   have eN:liesAt P P.depth r.elem (cs.size/P.cellsOf r.elem) (l.base+off) u 1=true:=by
    rw[zu,hcell,x2,h0]
    refine nB (by rw[hcell];omega) (by rw[hcell];rfl) ?_
    rw[hcell,Nat.zero_div,Zt,Nat.le_div_iff_mul_le (by omega)];omega
   simp only[convert,Sem.run_bind,run_underlying iZ,run_underlying ng,Result.andThen_ok,Conv.unsafePointer,Conv.seenAt,viewAt,run_shape,v9,Option.isSome_some,if_true,Sem.run_pure,Wo hi,variablesAt,run_program,eN]
   simp[]
  ·trivial
 case slice.slice e1 e2=>
  refine Wq (λhsd=>Xb λde hue=>Cd λhde=>?_) λ_=>T0
  subst hde
  rw[Ym] at hsd
  have hsd:s=d:=Zn hsd
  refine Sn (λ_=>trivial) λb off len cap hx=>TD λr Kg=>Yn λRb=>Yn λLy=>?_
  have h0:=h1
  rw[hx] at h1
  obtain⟨l,hl,e3⟩:=V6 h1
  obtain⟨cs,fr,hc,RM⟩:=hs.row Kg hl
  have zx:r.sm=false∧H.may r b=true:=by
   cases sE:r.sm with
   |true=>rw[sE] at Rb;cases Rb
   |false=>rw[sE] at Rb;exact⟨rfl,Rb⟩
  obtain⟨Dr,Kf⟩:=Wr.of_may zx.2 Kg
  rw[Ym] at Ly
  have Ly:r.fz=0:=Zn Ly
  have GZ:fr.1=fr.2:=by
   rcases RM.frs Kf zx.1 with h|h
   ·exact h
   ·omega
  have YX:(execOp ρ o).run P w=.ok (.value (ρ x)) (w.freeze ⟨l.blk,cs.size,none⟩ 1):=by
   refine hr ?_
   rw[e3]
   have Zov:(s==d)=true:=by simp[hsd]
   have v9:=HZ hc
   simp only[convert,Sem.run_bind,run_underlying iZ,run_underlying ng,run_underlying hue,Result.andThen_ok,Zov,markStringish,run_shape,v9,run_freeze,Sem.run_pure]
  have lO:=ln (n:=cs.size) hc GZ
  refine Vp (Tr.write hs Kg hl Dr lO.size lO.new lO.old ⟨cs,_,rfl,?_⟩ lO.tape lO.os lO.out) YX (by rw[hx];rw[hx] at h0;exact h0)
  have q1:=RM.room
  refine⟨RM.sz,RM.sz1,RM.fits,RM.room,RM.exact,?_,RM.one,?_,λ_ h=>by cases h⟩
  ·intro i hi
   exact RM.cell i hi
  ·intro _ i _ hi
   simp only
   omega
theorem tn{o:Oper}{c:Call}{b:Builtin}(ho:o.op=.call c)(hc:c.callee=.builtin b):
  ∃cs,(execOp ρ o).run P w=(builtin b c.argTypes o.type cs (c.args.map ρ)).run P w:=by
 refine⟨c.args.map λ|.const _=>true|_=>false,?_⟩
 simp only[execOp,ho,resolve,hc,Sem.run_bind,Sem.run_pure,Result.andThen_ok,invoke]
 rfl
theorem UQ{o:Oper}{xs:List Operand}{ts:List TypeId}{b:Builtin}(ho:o.op=.call ⟨.builtin b,⟨xs⟩,⟨ts⟩⟩)
  (h: ∀cs,Y2 P σ H w ((builtin b ⟨ts⟩ o.type cs ⟨xs.map ρ⟩).run P w) (gP P b xs ts tm H)):Xm P σ H w tm ρ o:=by
 unfold Xm
 obtain⟨cs,h2⟩:=tn (P:=P) (w:=w) (ρ:=ρ) ho rfl
 rw[h2,ho]
 have h3:=h cs
 have e:Array.map ρ ⟨xs⟩=⟨xs.map ρ⟩:=by simp
 show Y2 P σ H w ((builtin b ⟨ts⟩ o.type cs (Array.map ρ ⟨xs⟩)).run P w) (gP P b xs ts tm H)
 rw[e];exact h3
theorem FQ{r:Row}{l:Loc}{cs:Array Value}{fr:Nat×Nat}(hr:R9 σ r l cs fr)(hex:r.exact=true){o:Nat}(ho:o % l.sz=0):Uo r o none=l.tot - o/l.sz:=by
 show cond (Nat.beq r.sz 1) (r.size - o) ((r.size - o)/r.sz)=_
 obtain⟨h1,_,_⟩:=hr.exact hex
 have h2:=hr.sz
 have h3:=hr.sz1
 have key:(r.size - o)/l.sz=l.tot - o/l.sz:=by
  have hd:=Nat.div_add_mod o l.sz
  rw[ho,Zv] at hd
  have e:r.size - o=(l.tot - o/l.sz)*l.sz:=by rw[Nat.sub_mul,<-h1,Ty (o/l.sz),hd]
  rw[e,TA _ (by omega)]
 rw[Ym]
 by_cases e:r.sz=1
 ·rw[Ze e]
  have e2:l.sz=1:=by omega
  rw[e2] at key ⊢
  simpa using key
 ·rw[Za e,<-h2];exact key
theorem QS{b:Nat}{es:Array MapEntry}{c:Nat}(h:w.heap[b]? =some (.map es c)):(getObj b).run P w=.ok (.map es c) w:=by simp[getObj,Sem.run,h]
theorem HR{t:TypeId}{x:Value}{d:TypeDesc}{y:Value}{cs:Array Bool}{ty:TypeId}(hu:P.underlying t=some d)(h:(Builtin.len_ #[t] ty #[x]).run P w=.ok y w):
  (builtin .len ⟨[t]⟩ ty cs ⟨[x]⟩).run P w=.ok (.value y) w:=WT h
theorem ZgJ(hs:Wh P σ H w)(hρ:Rp P σ tm ρ){o:Oper}{xs:List Operand}{ts:List TypeId}(ho:o.op=.call ⟨.builtin .len,⟨xs⟩,⟨ts⟩⟩):Xm P σ H w tm ρ o:=by
 refine UQ ho λcs=>?_
 rcases xs with _|⟨x,_|⟨_,_⟩⟩<;>try exact trivial
 rcases ts with _|⟨t,_|⟨_,_⟩⟩<;>try exact trivial
 refine Xb λd hu=>?_
 have g:=hρ x
 cases d<;>try exact trivial
 case string=>
  refine PJ λs hx=>Nu ?_
  rw[hx] at g
  have g:=VU g
  refine Yh hs (x:=.int .i64 s.length) (HR hu ?_) (by rw[YC];simp[Ys])
  rw[g]
  simp[Builtin.len_,run_underlying hu,goInt,NE]
 case slice e=>
  refine Sn (λhx=>?_) λb off n c hx=>Nu ?_
  ·rw[hx] at g
   have g:ρ x=.slice none 0 0:=by simpa only[Ys] using g
   refine Yh hs (x:=.int .i64 0) (HR hu ?_) (by simp[Ys])
   rw[g]
   simp[Builtin.len_,run_underlying hu,goInt]
  ·rw[hx] at g
   obtain⟨l,hl,e1⟩:=V6 g
   refine Yh hs (x:=.int .i64 n) (HR hu ?_) (by simp[Ys])
   rw[e1]
   simp[Builtin.len_,run_underlying hu,goInt]
 case map kt e=>
  refine IV (λhx=>?_) λb hx=>OY λob Gs=>?_
  ·rw[hx] at g
   have g:ρ x=.map none:=by simpa only[Ys] using g
   refine Yh hs (x:=.int .i64 0) (HR hu ?_) (by simp[Ys])
   rw[g]
   simp[Builtin.len_,run_underlying hu,goInt]
  ·rw[hx] at g
   have g: ∃l,σ b=some l∧ρ x=.map (some l.blk):=by simpa only[Ys] using g
   obtain⟨l,hl,e1⟩:=g
   cases ob<;>try exact trivial
   case map es clock=>
    obtain⟨c,hc,Eh⟩:=hs.alive b _ l Gs hl
    obtain⟨ents,rfl,hr,_⟩:=Eh
    have hlen:es.length=ents.size:=by
     have: ∀(es:List RH) (l:List MapEntry),YE σ es l->es.length=l.length:=by
      intro es
      induction es with
      |nil=>intro l h;simp only[YE] at h;subst h;rfl
      |cons a es ih=>intro l h;simp only[YE] at h;obtain⟨e,es',_,h2,rfl⟩:=h;simp[ih _ h2]
     rw[this _ _ hr];simp
    refine Yh hs (x:=.int .i64 ents.size) (HR hu ?_) (by rw[YC,hlen];simp[Ys])
    rw[e1]
    simp[Builtin.len_,run_underlying hu,goInt,QS hc]
theorem ZgF(hs:Wh P σ H w)(hρ:Rp P σ tm ρ){o:Oper}{xs:List Operand}{ts:List TypeId}(ho:o.op=.call ⟨.builtin .cap,⟨xs⟩,⟨ts⟩⟩):Xm P σ H w tm ρ o:=by
 refine UQ ho λcs=>?_
 rcases xs with _|⟨x,_|⟨_,_⟩⟩<;>try exact trivial
 rcases ts with _|⟨t,_|⟨_,_⟩⟩<;>try exact trivial
 refine Xb λd hu=>?_
 have g:=hρ x
 have hr: ∀{y:Value},(Builtin.cap_ #[t] o.type #[ρ x]).run P w=.ok y w->(builtin .cap ⟨[t]⟩ o.type cs ⟨[ρ x]⟩).run P w=.ok (.value y) w:=λh=>WT h
 cases d<;>try exact trivial
 case slice e=>
  refine Sn (λhx=>?_) λb off n c hx=>?_
  ·rw[hx] at g
   have g:ρ x=.slice none 0 0:=by simpa only[Ys] using g
   refine Yh hs (x:=.int .i64 0) (hr ?_) (by simp[Ys])
   rw[g]
   simp[Builtin.cap_,run_underlying hu,goInt]
  ·rw[hx] at g
   obtain⟨l,hl,e1⟩:=V6 g
   cases c with
   |some c=>
    refine Yh hs (x:=.int .i64 c) (hr ?_) (by simp[Ys])
    rw[e1]
    simp[Builtin.cap_,run_underlying hu,goInt]
   |none=>
    refine TD λr Kg=>Yn λhex=>Yn λxy=>?_
    rw[Ym] at xy
    have xy:off % r.sz=0:=Zn xy
    obtain⟨Jm,fr,hc,RM⟩:=hs.row Kg hl
    refine Yh hs (x:=.int .i64 (l.tot - off/l.sz:Nat)) (hr ?_) ?_
    ·rw[e1]
     simp[Builtin.cap_,run_underlying hu,goInt]
    ·simp only[Ys]
     congr 1
     have:=FQ RM hex (o:=off) (by rw[RM.sz];exact xy)
     simp[this]
theorem Zdx(ts:Array TypeId)(t:TypeId)(n c:Nat):Builtin.unsafeSliceData_ ts t #[.slice none n c]=pure (.pointer none):=rfl
theorem aT(ts:Array TypeId)(t:TypeId)(a:Addr)(n c:Nat)(h:c≠0):(Builtin.unsafeSliceData_ ts t #[.slice (some a) n c]).run P w=.ok (.pointer (some a)) w:=by
 show(if c≠0 then pure (Value.pointer (some a)) else _:Sem Value).run P w=_
 rw[if_pos h];rfl
theorem jA(hs:Wh P σ H w)(hρ:Rp P σ tm ρ){o:Oper}{xs:List Operand}{ts:List TypeId}(ho:o.op=.call ⟨.builtin .unsafeSliceData,⟨xs⟩,⟨ts⟩⟩):Xm P σ H w tm ρ o:=by
 refine UQ ho λcs=>?_
 rcases xs with _|⟨x,_|⟨_,_⟩⟩<;>try exact trivial
 have g:=hρ x
 refine Sn (λhx=>?_) λb off n c hx=>?_
 ·rw[hx] at g
  have g:ρ x=.slice none 0 0:=by simpa only[Ys] using g
  refine Yh hs (x:=.pointer none) ?_ (by simp[Ys])
  refine WT ?_
  show(Builtin.unsafeSliceData_ ⟨ts⟩ o.type #[ρ x]).run P w=_
  rw[g]
  exact congrArg (λs=>s.run P w) (Zdx _ _ _ _)
 ·rw[hx] at g
  obtain⟨l,hl,e1⟩:=V6 g
  have fin:c.getD (l.tot - off/l.sz)≠0->Y2 P σ H w ((builtin .unsafeSliceData ⟨ts⟩ o.type cs ⟨[ρ x]⟩).run P w) (.val (.ptr b off) H):=λh=>by
   refine Yh hs ?_ (Mo hl)
   refine WT ?_
   show(Builtin.unsafeSliceData_ ⟨ts⟩ o.type #[ρ x]).run P w=_
   rw[e1]
   exact aT _ _ _ _ _ h
  cases c with
  |some c=>
   refine Yn λh=>fin ?_
   rw[Y5] at h
   have h:1<=c:=Zn h
   simp only[Option.getD_some];omega
  |none=>
   refine TD λr Kg=>Yn λh=>fin ?_
   obtain⟨Jm,fr,hc,RM⟩:=hs.row Kg hl
   rw[Y5] at h
   have h:off+1<=r.size:=Zn h
   have h1:=RM.fits
   have h2:=RM.sz1
   simp only[Option.getD_none]
   have:off/l.sz<l.tot:=by rw[Qa (by omega)];omega
   omega
def oj(v:AV)(m:Nat):Prop:=(v=.nils∧m=0)∨(∃b o c,v=.slice b o m c)∨ ∃s,v=.str s∧m=s.length
theorem zd{r:Result Next}{v:AV}{k:Nat->OR}(h: ∀m,oj v m->Y2 P σ H w r (k m)):Y2 P σ H w r (ul v k):=by
 unfold ul
 split
 ·exact h 0 (.inl ⟨rfl,rfl⟩)
 ·exact h _ (.inr (.inl ⟨_,_,_,rfl⟩))
 ·rw[YC];exact h _ (.inr (.inr ⟨_,rfl,rfl⟩))
 ·trivial
theorem yi{v:AV}{m:Nat}{x:Value}(h:oj v m)(hr:Ys σ v x)(w':World):(Builtin.lenOf x).run P w'=.ok m w':=by
 rcases h with⟨rfl,rfl⟩|⟨b,o,c,rfl⟩|⟨s,rfl,rfl⟩
 ·have:x=.slice none 0 0:=by simpa only[Ys] using hr
  rw[this];rfl
 ·obtain⟨l,_,rfl⟩:=V6 hr;rfl
 ·rw[VU hr];simp[Builtin.lenOf,NE]
structure ZdC(P:Program)(σ:Mp)(w:World)(sz n:Nat)(x:Value)(as:List AV)(vs:List Value):Prop where
 rel:YM σ as vs
 one: ∀u∈vs,u.oneCell'=true
 len:vs.length=n*sz
 run: ∀w':World,w'.heap=w.heap->(Builtin.firstCells sz n x).run P w'=.ok ⟨vs⟩ w'
theorem D9{v:AV}{x:Value}(hx:Ys σ v x){sz m:Nat}(hm:oj v m):ZdC P σ w sz 0 x [] []:=by
 refine⟨UM,by simp,by simp,λw' _=>?_⟩
 rcases hm with⟨rfl,rfl⟩|⟨b,o,c,rfl⟩|⟨s,rfl,rfl⟩
 ·have:x=.slice none 0 0:=by simpa only[Ys] using hx
  rw[this];rfl
 ·obtain⟨l,_,rfl⟩:=V6 hx
  simp only[Builtin.firstCells,TB];rfl
 ·rw[VU hx]
  simp[Builtin.firstCells]
theorem JE{r:Result Next}(hs:Wh P σ H w){v:AV}{x:Value}(hx:Ys σ v x){sz n m:Nat}{k:List AV->OR}(hm:oj v m)(hn:n<=m)
  (h: ∀as vs,ZdC P σ w sz n x as vs->Y2 P σ H w r (k as)):Y2 P σ H w r (Wt H sz v n k):=by
 unfold Wt
 refine Ux (λh0=>?_) λ_=>?_
 ·rw[Ym] at h0
  have h0:n=0:=Zn h0
  subst h0
  exact h [] [] (D9 hx hm)
 ·rcases hm with⟨rfl,rfl⟩|⟨b,o,c,rfl⟩|⟨s,rfl,rfl⟩
  ·trivial
  ·refine TD λrr RM=>Yn λTn=>?_
   rw[Y5] at Tn
   have Tn:o+n*sz<=rr.size:=Zn Tn
   obtain⟨l,hl,rfl⟩:=V6 hx
   obtain⟨cs,fr,hc,Zos⟩:=hs.row RM hl
   obtain⟨vs,h2,h3,h4,h5⟩:=Pm Zos (n*sz) o Tn
   refine h _ vs ⟨h2,h5,h3,λw' hw=>?_⟩
   have rD:w'.heap[l.blk]? =some (.cells cs rr.elem fr):=by rw[hw];exact hc
   have:=Rk (P:=P) rD vs (o:=l.base+o) h4
   rw[h3] at this
   exact this
  ·refine Yn λh1=>?_
   rw[Ym] at h1
   have h1:sz=1:=Zn h1
   subst h1
   rw[PZ]
   refine h _ _ ⟨CM σ _,uu _,by simp;omega,λw' _=>?_⟩
   rw[VU hx]
   simp only[Builtin.firstCells,Sem.run_pure,Result.ok.injEq,and_true]
   apply Array.ext'
   simp[WA]
theorem Zcw(a b:Nat):Me a b=Nat.min a b:=by
 unfold Me
 rw[Y5]
 by_cases h:a<=b
 ·rw[Ze h];exact(VA h).symm
 ·rw[Za h];exact(Sv (PG (Nat.lt_of_not_le h))).symm
theorem ZcS(hs:Wh P σ H w)(hρ:Rp P σ tm ρ){o:Oper}{xs:List Operand}{ts:List TypeId}(ho:o.op=.call ⟨.builtin .copy,⟨xs⟩,⟨ts⟩⟩):Xm P σ H w tm ρ o:=by
 refine UQ ho λcs=>?_
 rcases xs with _|⟨x,_|⟨y,_|⟨_,_⟩⟩⟩<;>try exact trivial
 rcases ts with _|⟨t,_|⟨t2,_|⟨_,_⟩⟩⟩<;>try exact trivial
 refine Xb λd hu=>Nv λe hd=>XD λi hi=>zd λsn hsn=>?_
 subst hd
 have g:=hρ x
 have step: ∀(base:Option Addr) (dn cp:Nat) (vs:List Value),ρ x=.slice base dn cp->(Builtin.firstCells i.size (Nat.min dn sn) (ρ y)).run P w=.ok ⟨vs⟩ w->
   (Builtin.copy_ ⟨[t,t2]⟩ o.type ⟨[ρ x,ρ y]⟩).run P w=(do (match base with|some a=>storeCells a vs|none=>pure ());pure (goInt (Nat.min dn sn)):Sem Value).run P w:=by
  intro base dn cp vs e1 hr
  have hl:=yi (P:=P) hsn (hρ y) w
  rw[show Nat.min dn sn=Nat.min sn dn from Nat.min_comm _ _] at hr ⊢
  simp only[Builtin.copy_,XP,VV,Th,Sem.run_bind,run_underlying hu,Result.andThen_ok,e1,hl,Wo hi,hr]
  cases base with
  |none=>rfl
  |some a=>simp
 refine Sn (λhx=>?_) λb off dn c hx=>Nu ?_
 ·rw[hx] at g
  have g:ρ x=.slice none 0 0:=by simpa only[Ys] using g
  refine Yh hs (x:=.int .i64 0) ?_ (by simp[Ys])
  refine WT ?_
  refine(step none 0 0 [] g ?_).trans ?_
  ·rw[show Nat.min 0 sn=0 from Nat.zero_min sn]
   exact(D9 (w:=w) (hρ y) hsn).run w rfl
  ·rw[show Nat.min 0 sn=0 from Nat.zero_min sn];rfl
 ·rw[Zcw]
  have Zn9:Nat.min dn sn<=sn:=Nat.min_le_right _ _
  rw[hx] at g
  obtain⟨l,hl,e1⟩:=V6 g
  refine JE hs (hρ y) hsn Zn9 λas vs hf=>Ux (λh0=>?_) λh0=>TD λr hr=>Yn λRb=>Yn λLy=>Yn λTn=>?_
  ·rw[Ym] at h0
   have h0:Nat.min dn sn=0:=Zn h0
   have hv:vs=[]:=by have:=hf.len;rw[h0,TB] at this;exact Yj.1 this
   refine Yh hs (x:=.int .i64 0) ?_ (by simp[Ys])
   refine WT ?_
   refine(step _ _ _ vs e1 (hf.run w rfl)).trans ?_
   rw[hv,h0]
   simp[goInt,storeCells]
  ·rw[Y5] at Ly Tn
   have Ly:r.fz<=off:=Zn Ly
   have Tn:off+Nat.min dn sn*i.size<=r.size:=Zn Tn
   obtain⟨w',YX,htr⟩:=Fq hs hr hl Rb hf.rel hf.one (o:=off) (by rw[hf.len];exact Tn) Ly
   refine Vp htr (x:=.int .i64 (Nat.min dn sn:Nat)) ?_ (by simp[Ys])
   refine WT ?_
   refine(step _ _ _ vs e1 (hf.run w rfl)).trans ?_
   simp[YX,goInt]
def app(e:TypeId)(i:TypeInfo)(z:Value)(base:Option Addr)(sLen sCap n:Nat)(news:Sem (Array Value)):Sem Value:=
 if sLen+n<=sCap then do
  let new<-news
  if let some a:=base then storeCells (a.add (sLen*i.size)) new.toList
  pure (.slice base (sLen+n) sCap)
 else do
  let newCap<-choose (.appendCap (sLen+n) sCap e)
  let old<-Builtin.firstCells i.size sLen (.slice base sLen sCap)
  let new<-news
  let a<-newRow e (old++new++Builtin.zeroCells z.cells (newCap - (sLen+n)))
  pure (.slice (some a) (sLen+n) newCap)
def nF(i:TypeInfo)(z:Value)(n:Nat):Sem (Array Value):=if n*i.size=0 then pure #[] else pure (Builtin.zeroCells z.cells n)
theorem Zdk{t u ty e:TypeId}{i:TypeInfo}{z x:Value}{d:TypeDesc}(ht:P.underlying t=some (.slice e))(hu:P.underlying u=some d)(hd: ∀k,d≠.int k)(hi:P.info? e=some i)(hz:i.zero=some z)
  {base:Option Addr}{sLen sCap n:Nat}(hn:(Builtin.lenOf x).run P w=.ok n w)(hb:1<=i.bytes)(Lx:(sLen+n)*i.bytes<=140737488355328∨sLen+n<=sCap):
  (Builtin.append_ ⟨[t,u]⟩ ty ⟨[.slice base sLen sCap,x]⟩).run P w=(app e i z base sLen sCap n (Builtin.firstCells i.size n x)).run P w:=by
 unfold app
 simp only[Builtin.append_,Sem.run_bind,XP,VV,Th,run_underlying ht,run_underlying hu,Result.andThen_ok,Wo hi,Sem.run_pure,YO,if_false,hn,Uk,if_true]
 by_cases h:sLen+n<=sCap
 ·rw[if_pos h,if_pos h]
  simp only[Sem.run_bind]
  congr 1
 ·rw[if_neg h,if_neg h]
  have h5:sLen+n<=140737488355328:=by
   rcases Lx with h1|h1
   ·exact Yt (S5 _ hb) h1
   ·exact absurd h1 h
  have h3:Builtin.nextslicecap (sLen+n) sCap*i.bytes<=281474976710656:=growslice_fits (Nat.lt_of_not_le h) (by rcases Lx with h1|h1;exact h1;exact absurd h1 h)
  have h4: ¬(Builtin.nextslicecap (sLen+n) sCap*i.bytes>2^48):=Nat.not_lt.2 h3
  have h6: ¬(((sLen+n:Nat):Int)>IntKind.i64.max∧(False∨i.bytes=0)):=λq=>by
   rcases q.2 with q|q
   ·exact q
   ·rw[q] at hb;exact absurd hb (by decide)
  have iY: ∀w':World,(typeInfo e).run P w'=.ok i w':=λw'=>by simp[typeInfo,hi]
  have hzv: ∀w':World,(zeroValue e).run P w'=.ok z w':=λw'=>T8 hi hz
  simp only[Sem.run_bind,iY,hzv,run_askRoom,Result.andThen_ok,if_neg h6,if_neg h4,Sem.run_pure]
theorem b7{t u ty e:TypeId}{i:TypeInfo}{z:Value}{k k':IntKind}(ht:P.underlying t=some (.slice e))(hu:P.underlying u=some (.int k))(hi:P.info? e=some i)(hz:i.zero=some z)
  {base:Option Addr}{sLen sCap n:Nat}(hb:1<=i.bytes)(hn:n*i.bytes<=140737488355328)(Lx:(sLen+n)*i.bytes<=140737488355328∨sLen+n<=sCap):
  (Builtin.append_ ⟨[t,u]⟩ ty ⟨[.slice base sLen sCap,.int k' (n:Nat)]⟩).run P w=(app e i z base sLen sCap n (nF i z n)).run P w:=by
 unfold app nF
 have hn1:n<=140737488355328:=Yt (S5 _ hb) hn
 have hw:IntKind.i64.wrap (n:Int)=n:=by
  exact FJ (by omega) (by omega)
 have iY: ∀w':World,(typeInfo e).run P w'=.ok i w':=λw'=>by simp[typeInfo,hi]
 have hzv: ∀w':World,(zeroValue e).run P w'=.ok z w':=λw'=>T8 hi hz
 have q1: ¬((n:Int)<0):=by omega
 have q2: ¬((n:Int)*(i.bytes:Int)>2^48):=by
  have h7:((n*i.bytes:Nat):Int)<=((140737488355328:Nat):Int):=Int.ofNat_le.2 hn
  rw[Int.natCast_mul] at h7
  have h8:(2:Int)^48=281474976710656:=by decide
  rw[h8]
  omega
 simp only[Builtin.append_,Sem.run_bind,XP,VV,Th,run_underlying ht,run_underlying hu,Result.andThen_ok,Wo hi,Sem.run_pure,if_true,asInt,asIntOf,hw,if_neg q1,iY,if_neg q2,W3,Uc,YO,if_false]
 by_cases h:sLen+n<=sCap
 ·rw[if_pos h,if_pos h]
  simp only[Sem.run_bind]
  by_cases h0:n*i.size=0
  ·rw[if_pos h0,if_pos h0]
   cases base<;>rfl
  ·rw[if_neg h0,if_neg h0]
   simp only[Sem.run_bind,hzv,Result.andThen_ok,Sem.run_pure]
   cases base<;>rfl
 ·rw[if_neg h,if_neg h]
  have h5:sLen+n<=140737488355328:=by
   rcases Lx with h1|h1
   ·exact Yt (S5 _ hb) h1
   ·exact absurd h1 h
  have h3:Builtin.nextslicecap (sLen+n) sCap*i.bytes<=281474976710656:=growslice_fits (Nat.lt_of_not_le h) (by rcases Lx with h1|h1;exact h1;exact absurd h1 h)
  have h4: ¬(Builtin.nextslicecap (sLen+n) sCap*i.bytes>2^48):=Nat.not_lt.2 h3
  have h6: ¬(((sLen+n:Nat):Int)>IntKind.i64.max∧(True∨i.bytes=0)):=λq=>by
   have h7:=q.1
   have h8:IntKind.i64.max=9223372036854775807:=by decide
   rw[h8] at h7
   omega
  by_cases h0:n*i.size=0
  ·simp only[Sem.run_bind,iY,hzv,run_askRoom,Result.andThen_ok,if_neg h6,if_neg h4,Sem.run_pure,if_pos h0]
  ·simp only[Sem.run_bind,iY,hzv,run_askRoom,Result.andThen_ok,if_neg h6,if_neg h4,Sem.run_pure,if_neg h0]
theorem Tr.del(hs:Wh P σ H w){b:Nat}{lb:Loc}(hlb:σ b=some lb)(hb:H.ro<=b):Tr P σ H w σ ⟨H.nx,H.t.del b,H.ro⟩ w:=by
 have g: ∀c o,(H.t.del b).get c=some o->H.t.get c=some o:=by
  intro c o h
  rw[T.get_del] at h
  by_cases e:b=c
  ·rw[if_pos e] at h;cases h
  ·rw[if_neg e] at h;exact h
 refine⟨Oq.refl σ,⟨hs.dom,λc o h=>hs.low c o (g c o h),λc o l h hl=>hs.alive c o l (g c o h) hl,λc c' o o' l l' h h'=>hs.inj c c' o o' l l' (g _ _ h) (g _ _ h'),hs.glob,hs.ro⟩,Zj _,λ_ _ _=>rfl,?_,Zj _,rfl,?_,rfl,rfl,rfl,λc _ hn=>⟨by show(H.t.del b).get c=H.t.get c;rw[T.get_del,if_neg (λe=>by subst e;rw[hlb] at hn;cases hn)],hn⟩⟩
 ·intro c l hw hl _
  obtain⟨h1,o,h2,h3⟩:=hw
  exact⟨c,l,⟨h1,o,g c o h2,h3⟩,hl,rfl⟩
 ·intro c hc
  show(H.t.del b).get c=H.t.get c
  rw[T.get_del,if_neg (by omega)]
theorem Tr.move{w':World}(h:Wh P σ H w){b:Nat}{o o':Obj}{l:Loc}{c':Go.Obj}
  (hb:H.t.get b=some o)(hl:σ b=some l)(hw:Wr H b)
  (hsize:w'.heap.size=w.heap.size)(Ia:w'.heap[l.blk]? =some c')(hold: ∀k,k≠l.blk->w'.heap[k]? =w.heap[k]?)
  (ho:Uz (σ.put H.nx l) o' l c')(ht:w'.tape=w.tape)(hos:w'.os=w.os)(N9:w'.output=w.output):
  Tr P σ H w (σ.put H.nx l) ⟨Nat.succ H.nx,(H.t.del b).set H.nx o',H.ro⟩ w':=by
 have YL:=h.ro
 have CB:Oq σ (σ.put H.nx l):=Mp.put_ext l (h.fresh (Zj _))
 have get: ∀c x,((H.t.del b).set H.nx o').get c=some x->(c=H.nx∧x=o')∨(c≠H.nx∧c≠b∧H.t.get c=some x):=by
  intro c x hx
  rw[T.get_set] at hx
  by_cases e:H.nx=c
  ·rw[if_pos e] at hx;cases hx;exact .inl ⟨e.symm,rfl⟩
  ·rw[if_neg e,T.get_del] at hx
   by_cases e2:b=c
   ·rw[if_pos e2] at hx;cases hx
   ·rw[if_neg e2] at hx;exact .inr ⟨λz=>e z.symm,λz=>e2 z.symm,hx⟩
 refine⟨CB,⟨?_,?_,?_,?_,?_,?_⟩,by omega,?_,?_,XZ _,rfl,?_,ht,hos,N9,λc hc hn=>⟨by show((H.t.del b).set H.nx o').get c=H.t.get c;rw[T.get_set,if_neg (by omega),T.get_del,if_neg (λe=>by subst e;rw[hl] at hn;cases hn)],by unfold Mp.put;rw[if_neg (by omega)];exact hn⟩⟩
 ·intro c m hm
  show c<H.nx+1
  unfold Mp.put at hm
  by_cases e:c=H.nx
  ·omega
  ·rw[if_neg e] at hm;have:=h.dom c m hm;omega
 ·intro c x hx
  show c<H.nx+1
  rcases get c x hx with⟨rfl,_⟩|⟨h1,h2,h3⟩
  ·omega
  ·have:=h.low c x h3;omega
 ·intro c x l1 hx NX
  rcases get c x hx with⟨rfl,rfl⟩|⟨h1,h2,h3⟩
  ·rw[Mp.put_same] at NX;cases NX
   exact⟨c',Ia,ho⟩
  ·rw[Mp.put_old h1] at NX
   obtain⟨c1,hc1,hr⟩:=h.alive c x l1 h3 NX
   refine⟨c1,?_,hr.mono CB⟩
   rw[hold l1.blk ?_];exact hc1
   intro e
   exact h2 (h.alone h3 hb NX hl e λs=>hw.hard hb s.2)
 ·intro c1 c2 x1 x2 l1 l2 h1 h2 k1 k2 e
  rcases get c1 x1 h1 with⟨rfl,rfl⟩|⟨p1,p2,p3⟩<;>rcases get c2 x2 h2 with⟨q0,rfl⟩|⟨q1,q2,q3⟩
  ·exact .inl q0.symm
  ·exfalso
   rw[Mp.put_same] at k1;cases k1
   rw[Mp.put_old q1] at k2
   exact q2 (h.alone q3 hb k2 hl e.symm λs=>hw.hard hb s.2)
  ·exfalso
   rw[q0,Mp.put_same] at k2;cases k2
   rw[Mp.put_old p1] at k1
   exact p2 (h.alone p3 hb k1 hl e λs=>hw.hard hb s.2)
  ·rw[Mp.put_old p1] at k1
   rw[Mp.put_old q1] at k2
   exact h.inj c1 c2 x1 x2 l1 l2 p3 q3 k1 k2 e
 ·intro g hg
  obtain⟨lg,h1,h2⟩:=h.glob g hg
  exact⟨lg,CB g lg h1,h2⟩
 ·show H.ro<=H.nx+1;omega
 ·intro k hk hn
  exact hold k λe=>hn b l hw hl e.symm
 ·intro c m hwc hlc G2
  obtain⟨r1,x,r2,r3⟩:=hwc
  rcases get c x r2 with⟨rfl,rfl⟩|⟨p1,p2,p3⟩
  ·rw[Mp.put_same] at hlc;cases hlc
   exact⟨b,l,hw,hl,rfl⟩
  ·rw[Mp.put_old p1] at hlc
   exact⟨c,m,⟨r1,x,p3,r3⟩,hlc,rfl⟩
 ·intro c hc
  show((H.t.del b).set H.nx o').get c=H.t.get c
  rw[T.get_set,if_neg (by omega),T.get_del,if_neg (by have:=hw.1;omega)]
theorem NH{z:Array Value}(UL: ∀v∈z.toList,v.oneCell'=true)(k:Nat):(Builtin.zeroCells z k).size=k*z.size∧ ∀v∈(Builtin.zeroCells z k).toList,v.oneCell'=true:=by
 constructor
 ·simp[Builtin.zeroCells]
 ·intro v hv
  simp only[Builtin.zeroCells,Rq,Array.toList_range,YV,S3] at hv
  obtain⟨i,hi,rfl⟩:=hv
  have hz:0<z.size:=by
   rcases Rr z.size with h|h
   ·rw[h,Nat.mul_zero] at hi;omega
   ·exact h
  rw[getElem!_pos z _ (W1 _ hz)]
  exact UL _ (Array.getElem_mem_toList _)
theorem yU{e:TypeId}{i:TypeInfo}{z:Value}{base:Option Addr}{sLen sCap n:Nat}{news:Sem (Array Value)}{vo vn:List Value}
  (UL: ∀v∈z.cells.toList,v.oneCell'=true)(hg: ¬(sLen+n<=sCap))
  (ho: ∀w':World,w'.heap=w.heap->(Builtin.firstCells i.size sLen (.slice base sLen sCap)).run P w'=.ok ⟨vo⟩ w')(hn: ∀w':World,w'.heap=w.heap->news.run P w'=.ok ⟨vn⟩ w'):
  ∃k rest,(app e i z base sLen sCap n news).run P w=.ok (.slice (some ⟨w.heap.size,0,none⟩) (sLen+n) (sLen+n+k)) (w.drew.alloc (.cells ⟨(vo++vn)++rest⟩ e))∧
   rest.length=k*z.cells.size∧ ∀v∈rest,v.oneCell'=true:=by
 obtain⟨k,hk⟩:=JX (P:=P) (sLen+n) sCap e w
 obtain⟨h1,h2⟩:=NH UL k
 refine⟨k,(Builtin.zeroCells z.cells k).toList,?_,by simpa using h1,h2⟩
 unfold app
 rw[if_neg hg]
 simp only[Sem.run_bind,hk,Result.andThen_ok,ho w.drew rfl,hn w.drew rfl,SN,newRow,run_newObj,Sem.run_pure,World.alloc_eq]
 congr 3
 have e1:(⟨vo⟩:Array Value)++⟨vn⟩++Builtin.zeroCells z.cells k=⟨(vo++vn)++(Builtin.zeroCells z.cells k).toList⟩:=by
  apply Array.ext'
  simp
 rw[e1]
theorem F0{r:Result Next}(hs:Wh P σ H w){e sz need k:Nat}{as:List AV}{vs rest:List Value}(hr:r=.ok (.value (.slice (some ⟨w.heap.size,0,none⟩) need (need+k))) (w.drew.alloc (.cells ⟨vs++rest⟩ e)))
  (U5:YM σ as vs)(UL: ∀v∈vs,v.oneCell'=true)(eU: ∀v∈rest,v.oneCell'=true)(hsz:1<=sz)(hlen:vs.length=need*sz)(hrl:rest.length=k*sz):
  Y2 P σ H w r (.val (.slice H.nx 0 need none) (H.newRow e sz as false)):=by
 have hl:=U5.length
 refine Vp ((Tr.drew hs).trans (Tr.alloc hs.drew _ _ ⟨w.heap.size,0,need+k,sz⟩ rfl ⟨_,(0,0),rfl,?_⟩)) hr (Sq (l:=⟨w.heap.size,0,need+k,sz⟩) rfl)
 refine Ij (U5.mono (Mp.put_ext _ (hs.drew.fresh (Zj _)))) (λv hv=>?_) hsz ?_ ?_ (λh=>by cases h) rfl
 ·rcases Zs.1 hv with hv|hv
  ·exact UL v hv
  ·exact eU v hv
 ·rw[hl,hlen,XQ];omega
 ·rw[Zm,hlen,hrl,XQ];omega
theorem SJ(r:Row): ∀(n o j:Nat),j<n->(loadN r o n)[j]? =some (r.get (o+j))
 |0,o,j,h=>by omega
 |n+1,o,0,_=>rfl
 |n+1,o,j+1,h=>by
  show(loadN r (o+1) n)[j]? =_
  rw[SJ r n (o+1) j (by omega)]
  congr 2;omega
theorem pV(r:Row)(sz size o:Nat)(as:List AV){j:Nat}(hj:j<o+as.length):
  (j<o∧(⟨r.elem,sz,size,XM r.cells o as,r.dflt,r.fz,r.sm,true,false⟩:Row).get j=r.get j)∨
  (∃a,o<=j∧as[j - o]? =some a∧(⟨r.elem,sz,size,XM r.cells o as,r.dflt,r.fz,r.sm,true,false⟩:Row).get j=a):=by
 by_cases h:j<o
 ·refine .inl ⟨h,?_⟩
  rw[Row.get_eq,Row.get_eq]
  show((XM r.cells o as).get j).getD r.dflt=_
  rw[Ss,if_neg (by omega)]
 ·refine .inr ⟨as[j - o]'(by omega),by omega,Zi (by omega),?_⟩
  rw[Row.get_eq]
  show((XM r.cells o as).get j).getD r.dflt=_
  rw[Ss,if_pos (by omega),Zi (by omega)]
  rfl
structure ZhT(P:Program)(σ:Mp)(w:World)(sz n:Nat)(news:Sem (Array Value))(as:List AV)(vs:List Value):Prop where
 rel:YM σ as vs
 one: ∀u∈vs,u.oneCell'=true
 len:vs.length=n*sz
 run: ∀w':World,w'.heap=w.heap->news.run P w'=.ok ⟨vs⟩ w'
theorem lD(hs:Wh P σ H w){va:AV}{x:Value}(g:Ys σ va x){e n:Nat}{i:TypeInfo}{z:Value}{news:Sem (Array Value)}{as:List AV}{vs:List Value}{q:Result Next}
  (hsz:1<=i.size)(JH: ∀v∈z.cells.toList,v.oneCell'=true)(MU:z.cells.size=i.size)(hf:ZhT P σ w i.size n news as vs)
  (run: ∀{base:Option Addr} {sLen sCap:Nat} {v:Value} {w':World},x=.slice base sLen sCap->((sLen+n)*i.bytes<=140737488355328∨sLen+n<=sCap)->(app e i z base sLen sCap n news).run P w=.ok v w'->q=.ok (.value v) w'):
  Y2 P σ H w q (Q8 va e i.size i.bytes H n as):=by
 refine Sn (λhx=>?_) λb off len cap hx=>?_
 ·rw[hx] at g
  have g:x=.slice none 0 0:=by simpa only[Ys] using g
  refine Ux (λh0=>?_) λh0=>Yn λLx=>?_
  ·rw[Ym] at h0
   have h0:n=0:=Zn h0
   subst h0
   refine Yh hs (x:=.slice none 0 0) (run g (.inr (Zj _)) ?_) (by simp[Ys])
   simp[app,hf.run w rfl]
  ·rw[Ym] at h0
   rw[Y5] at Lx
   have h0:n≠0:=of_decide_eq_false h0
   have Lx:n*i.bytes<=140737488355328:=Zn Lx
   obtain⟨k,rest,k1,k2,k3⟩:=yU (P:=P) (w:=w) (e:=e) (i:=i) (z:=z) (base:=none) (sLen:=0) (sCap:=0) (n:=n) (vo:=[]) (vn:=vs) JH (by omega) (λw' _=>by rfl) hf.run
   rw[Zt] at k1
   exact F0 hs (run g (.inl (by rw[Zt];exact Lx)) k1) hf.rel hf.one k3 hsz hf.len (by rw[k2,MU])
 ·rw[hx] at g
  have g0:=g
  obtain⟨l,hl,e1⟩:=V6 g
  refine TD λr hr=>Yn λZkd=>?_
  obtain⟨Jm,fr,hc,RM⟩:=hs.row hr hl
  have GX:=DY RM off cap
  refine Ux (λNk=>?_) λN9=>?_
  ·rw[Y5] at Nk
   have Nk:len+n<=Uo r off cap:=Zn Nk
   have rJ:len+n<=cap.getD (l.tot - off/l.sz):=Yt Nk GX
   refine Ux (λh0=>?_) λh0=>Yn λRb=>Yn λTn=>Yn λLy=>?_
   ·rw[Ym] at h0
    have h0:n=0:=Zn h0
    subst h0
    have hv:vs=[]:=by have:=hf.len;rw[TB] at this;exact Yj.1 this
    refine Yh hs (x:=x) (run e1 (.inr rJ) ?_) (by rw[hx];exact g0)
    simp only[app,if_pos rJ,Sem.run_bind,hf.run w rfl,Result.andThen_ok,hv]
    rw[e1]
    simp[storeCells]
   ·rw[Y5] at Tn Ly
    have Tn:off+(len+n)*i.size<=r.size:=Zn Tn
    have Ly:r.fz<=off+len*i.size:=Zn Ly
    obtain⟨w',YX,htr⟩:=Fq hs hr hl Rb hf.rel hf.one (o:=off+len*i.size) (by rw[hf.len];rw[XQ] at Tn;omega) Ly
    refine Vp htr (run e1 (.inr rJ) ?_) (Ri hl)
    simp only[app,if_pos rJ,Sem.run_bind,hf.run w rfl,Result.andThen_ok,RV]
    rw[XC,YX]
    rfl
  ·rw[Y5] at N9
   have N9: ¬(len+n<=Uo r off cap):=of_decide_eq_false N9
   refine Yn λLx=>Yn λTn=>?_
   rw[Y5] at Lx Tn
   have Lx:(len+n)*i.bytes<=140737488355328:=Zn Lx
   have Tn:off+len*i.size<=r.size:=Zn Tn
   obtain⟨vo,o2,o3,o4,o5⟩:=Pm RM (len*i.size) off Tn
   have hfo: ∀c,∀w':World,w'.heap=w.heap->(Builtin.firstCells i.size len (.slice (some ⟨l.blk,l.base+off,none⟩) len c)).run P w'=.ok ⟨vo⟩ w':=by
    intro c w' hw
    have rD:w'.heap[l.blk]? =some (.cells Jm r.elem fr):=by rw[hw];exact hc
    have:=Rk (P:=P) rD vo (o:=l.base+off) o4
    rw[o3] at this
    exact this
   have grown: ¬(len+n<=cap.getD (l.tot - off/l.sz))->Y2 P σ H w q (.val (.slice H.nx 0 (len+n) none) (H.newRow e i.size (loadN r off (len*i.size)++as) false)):=by
    intro hg
    obtain⟨k,rest,k1,k2,k3⟩:=yU (P:=P) (w:=w) (e:=e) (i:=i) (z:=z) JH hg (hfo _) hf.run
    refine F0 hs (run e1 (.inl Lx) k1) (o2.append hf.rel) (λv hv=>?_) k3 hsz (by rw[Zm,o3,hf.len,XQ]) (by rw[k2,MU])
    rcases Zs.1 hv with hv|hv
    ·exact o5 v hv
    ·exact hf.one v hv
   cases cap with
   |some c=>exact grown N9
   |none=>
    have Zke:r.sz=i.size:=by
     have:Nat.beq r.sz i.size=true:=Zkd
     rw[Ym] at this
     exact Zn this
    refine Ux (λhex=>Yn λxy=>?_) λhex=>?_
    ·rw[Ym] at xy
     have xy:off % i.size=0:=Zn xy
     refine grown ?_
     rw[FQ RM hex (by rw[RM.sz,Zke];exact xy)] at N9
     exact N9
    ·refine Yn λzu=>Yn λRb=>Yn λLy=>Yn λhsize=>Yn λh0=>?_
     rw[Ym] at zu hsize h0
     rw[Y5] at Ly
     have zu:r.elem=e:=Zn zu
     have h0:off=0:=Zn h0
     have Ly:r.fz<=len*i.size:=Zn Ly
     subst h0
     obtain⟨Dr,Kf⟩:=Wr.of_may Rb hr
     have ZbK:l.sz=i.size:=by rw[RM.sz,Zke]
     have hal:as.length=n*i.size:=by rw[hf.rel.length];exact hf.len
     have hvl:=hf.len
     have hsum:(len+n)*i.size=len*i.size+n*i.size:=XQ _ _ _
     have hcell:=λj (hj:j<len*i.size+as.length)=>pV r i.size ((len+n)*i.size) (len*i.size) as hj
     by_cases Nk:len+n<=l.tot
     ·have rJ:len+n<=(none:Option Nat).getD (l.tot - 0/l.sz):=by rw[Nat.zero_div];exact Nk
      have Zoa:(len+n)*i.size<=l.tot*i.size:=Vg _ Nk
      have q1:=RM.room
      rw[ZbK] at q1
      obtain⟨w',YX,hw⟩:=Og (P:=P) (o:=l.base+len*i.size) vs 0 w Jm hc (by omega) hf.one (λj hj=>by
       have:=RM.frz Kf (len*i.size+j) (by omega) (by rw[ZbK];omega)
       rwa [show l.base+len*i.size+0+j=l.base+(len*i.size+j) by omega])
      refine Vp (Tr.move hs hr hl Dr hw.size hw.new hw.old ⟨_,fr,rfl,?_⟩ hw.tape hw.os hw.out) (run e1 (.inr rJ) ?_) (by simp only[Ys];exact⟨l,Mp.put_same _ _ _,rfl⟩)
      ·have ext:=Mp.put_ext l (hs.fresh (Zj H.nx))
       refine⟨ZbK,by omega,by rw[ZbK];exact Zoa,by rw[PE];exact RM.room,(λh=>by cases h),?_,?_,λ_=>RM.frz Kf,λ_=>RM.frs Kf⟩
       ·intro j hj
        have hj:j<(len+n)*i.size:=hj
        show ∃v,_∧Ys _ ((⟨r.elem,i.size,(len+n)*i.size,XM r.cells (len*i.size) as,r.dflt,r.fz,r.sm,true,false⟩:Row).get j) v
        rw[QW _ _ _ _ (by omega)]
        rcases hcell j (by omega) with⟨h1,h2⟩|⟨a,h1,h2,h3⟩
        ·rw[h2,if_neg (by omega)]
         obtain⟨v,hv,U5⟩:=RM.cell j (by omega)
         exact⟨v,hv,U5.mono ext⟩
        ·obtain⟨v,hv,U5⟩:=hf.rel.get h2
         rw[h3,if_pos (by omega)]
         refine⟨v,?_,U5.mono ext⟩
         rw[show l.base+j - (l.base+len*i.size+0)=j - len*i.size by omega];exact hv
       ·intro j v hj hv
        have hj:j<(len+n)*i.size:=hj
        rw[QW _ _ _ _ (by omega)] at hv
        split at hv
        ·exact hf.one v (V2 hv)
        ·exact RM.one j v (by omega) hv
      ·simp only[app,if_pos rJ,Sem.run_bind,hf.run w rfl,Result.andThen_ok,RV]
       rw[Zv,YX]
       rfl
     ·have hg: ¬(len+n<=(none:Option Nat).getD (l.tot - 0/l.sz)):=by rw[Nat.zero_div];exact Nk
      obtain⟨k,rest,k1,k2,k3⟩:=yU (P:=P) (w:=w) (e:=e) (i:=i) (z:=z) JH hg (hfo _) hf.run
      have td:=Tr.del (P:=P) (b:=b) hs.drew hl Dr.1
      refine Vp (((Tr.drew hs).trans td).trans (Tr.alloc td.sim (.row ⟨r.elem,i.size,(len+n)*i.size,XM r.cells (len*i.size) as,r.dflt,r.fz,r.sm,true,false⟩) _ ⟨w.heap.size,0,len+n+k,i.size⟩ rfl ⟨_,(0,0),by rw[zu],?_⟩)) (run e1 (.inl Lx) k1) (Sq (l:=⟨w.heap.size,0,len+n+k,i.size⟩) rfl)
      have ext:=Mp.put_ext ⟨w.heap.size,0,len+n+k,i.size⟩ (hs.fresh (Zj H.nx))
      rw[MU] at k2
      have Zeh:(len+n+k)*i.size=(len+n)*i.size+k*i.size:=XQ _ _ _
      refine⟨rfl,hsz,by rw[Zeh];exact Nat.le_add_right _ _,?_,(λh=>by cases h),?_,?_,?_,λ_ _=>.inl rfl⟩
      ·simp only[List.size_toArray,Zm,o3,hvl,k2]
       rw[Zeh];omega
      ·intro j hj
       have hj:j<(len+n)*i.size:=hj
       simp only[Zt,XP]
       rcases hcell j (by omega) with⟨h1,h2⟩|⟨a,h1,h2,h3⟩
       ·rw[h2]
        obtain⟨v,hv,U5⟩:=o2.get (SJ r (len*i.size) 0 j h1)
        rw[Zt] at U5
        refine⟨v,?_,U5.mono ext⟩
        rw[Yr (by rw[Zm];omega),Yr (by omega)]
        exact hv
       ·obtain⟨v,hv,U5⟩:=hf.rel.get h2
        rw[h3]
        refine⟨v,?_,U5.mono ext⟩
        rw[Yr (by rw[Zm];omega),YI (by omega),o3]
        exact hv
      ·intro j v _ hv
       simp only[Zt,XP] at hv
       have:=V2 hv
       rcases Zs.1 this with h|h
       ·rcases Zs.1 h with h|h
        ·exact o5 v h
        ·exact hf.one v h
       ·exact k3 v h
      ·intro _ j _ _
       simp only;omega
theorem js(hs:Wh P σ H w)(hρ:Rp P σ tm ρ){o:Oper}{xs:List Operand}{ts:List TypeId}(ho:o.op=.call ⟨.builtin .append,⟨xs⟩,⟨ts⟩⟩):Xm P σ H w tm ρ o:=by
 refine UQ ho λcs=>?_
 rcases xs with _|⟨x,_|⟨y,_|⟨_,_⟩⟩⟩<;>try exact trivial
 rcases ts with _|⟨t,_|⟨t2,_|⟨_,_⟩⟩⟩<;>try exact trivial
 refine Xb λd hu=>Nv λe hd=>XD λi hi=>Ud λz hz=>Wq (λhzl=>Xb λd2 hu2=>?_) λ_=>T0
 subst hd
 have Zjo: ∀{n:Nat} {news:Sem (Array Value)} {as:List AV} {vs:List Value} (_:1<=i.size) (hf:ZhT P σ w i.size n news as vs)
   (h: ∀{base:Option Addr} {sLen sCap:Nat},ρ x=.slice base sLen sCap->((sLen+n)*i.bytes<=140737488355328∨sLen+n<=sCap)->(Builtin.append_ ⟨[t,t2]⟩ o.type ⟨[.slice base sLen sCap,ρ y]⟩).run P w=(app e i z base sLen sCap n news).run P w),
   Y2 P σ H w ((builtin .append ⟨[t,t2]⟩ o.type cs ⟨[ρ x,ρ y]⟩).run P w) (Q8 (YN P x tm) e i.size i.bytes H n as):=by
  intro n news as vs hsz hf h
  rw[Ym,YC] at hzl
  have hzl:(Wx z).cells.length=i.size:=Zn hzl
  obtain⟨hzr,JH⟩:=S9 (σ:=σ) z (by omega)
  have MU:z.cells.size=i.size:=by rw[<-hzl,hzr.length];simp
  refine lD hs (hρ x) hsz JH MU hf λ{base sLen sCap v w'} e1 e2 e3=>WT ?_
  rw[e1]
  exact(h e1 e2).trans e3
 have iX:(∃k,d2=.int k)∨ ∀k,d2≠.int k:=by
  cases d2<;>first
   |exact .inl ⟨_,rfl⟩
   |exact .inr (λk h=>by cases h)
 rcases iX with⟨k,rfl⟩|iX
 ·refine Yn λhsz=>Yn λhb=>Sy λk' n hy=>Yn λhn=>?_
  rw[Y5] at hsz hb hn
  have hsz:1<=i.size:=Zn hsz
  have hb:1<=i.bytes:=Zn hb
  have hn:n*i.bytes<=140737488355328:=Zn hn
  have hy2:ρ y=.int k' (n:Nat):=by
   have:=hρ y
   rw[hy] at this
   have this:ρ y=.int k' (Int.ofNat n):=by simpa only[Ys] using this
   rw[this];rfl
  rw[Ym,YC] at hzl
  have Zkm:(Wx z).cells.length=i.size:=Zn hzl
  obtain⟨hzr,JH⟩:=S9 (σ:=σ) z (by omega)
  have MU:z.cells.size=i.size:=by rw[<-Zkm,hzr.length];simp
  refine Zjo (vs:=(Builtin.zeroCells z.cells n).toList) (news:=nF i z n) hsz ⟨?_,(NH JH n).2,by simpa [MU] using (NH JH n).1,λw' _=>?_⟩ λ{base sLen sCap} e1 e2=>?_
  ·have:=(FM (σ:=σ) hzr (λv hv=>JH v hv) (by omega) n).1
   rw[Zkm,<-MU] at this
   exact this
  ·unfold nF
   split
   ·next h0=>
    have:Builtin.zeroCells z.cells n= #[]:=by
     apply Array.ext'
     have:=(NH JH n).1
     rw[MU,h0] at this
     exact Yj.1 (by simpa using this)
    simp[this]
   ·simp
  ·rw[hy2]
   exact b7 hu hu2 hi hz hb hn e2
 have hno:mE (uD (YN P x) (YN P y) e i.size i.bytes (Wx z).cells) (TT (YN P x) (YN P y) e i.size i.bytes) d2=TT (YN P x) (YN P y) e i.size i.bytes:=by
  cases d2<;>first|rfl|exact absurd rfl (iX _)
 rw[hno]
 refine Yn λhsz=>Yn λhb=>zd λn hn=>JE hs (hρ y) hn (Zj _) λas vs hf=>?_
 rw[Y5] at hsz hb
 have hsz:1<=i.size:=Zn hsz
 have hb:1<=i.bytes:=Zn hb
 have hlenOf:=yi (P:=P) hn (hρ y) w
 exact Zjo hsz ⟨hf.rel,hf.one,hf.len,hf.run⟩ λe1 e2=>Zdk hu hu2 iX hi hz hlenOf hb e2
def mm(mx:Bool):Value->Value->Sem Value:=if mx then Builtin.max2 else Builtin.min2
theorem ze{r:Result Next}(hs:Wh P σ H w){mx:Bool}{k:IntKind}: ∀(as:List AV) (vs:List Value) (a:Int),YM σ as vs->
  (∀v,(vs.foldlM (mm mx) (.int k a):Sem Value).run P w=.ok v w->r=.ok (.value v) w)->Y2 P σ H w r (min2 mx k a H as)
 |[],vs,a,h,g=>by
  rw[h.nil_inv] at g
  exact Yh hs (x:=.int k a) (g _ rfl) (by simp[Ys])
 |x::as,vs,a,h,g=>by
  obtain⟨v,vs',h1,h2,rfl⟩:=h.cons_inv
  unfold min2
  split
  ·rename_i j b
   refine Yn λhk=>?_
   have h1:=XN h1
   subst h1
   refine ze hs as vs' _ h2 λv hv=>g v ?_
   rw[List.foldlM_cons]
   cases mx with
   |true=>
    simp only[mm,if_true,Builtin.max2,Sem.run_bind,Sem.run_pure,Result.andThen_ok]
    rw[<-hv]
    congr 2
    by_cases hh:a<b
    ·simp[hh,Kj]
    ·simp[hh,Kj]
   |false=>
    simp only[mm,YO,if_false,Builtin.min2,Sem.run_bind,Sem.run_pure,Result.andThen_ok]
    rw[<-hv]
    congr 2
    by_cases hh:b<a
    ·simp[hh,Kj]
    ·simp[hh,Kj]
  ·trivial
theorem zZ(hs:Wh P σ H w)(hρ:Rp P σ tm ρ){o:Oper}{mx:Bool}{xs:List Operand}{ts:List TypeId}(ho:o.op=.call ⟨.builtin (if mx then .max else .min),⟨xs⟩,⟨ts⟩⟩):Xm P σ H w tm ρ o:=by
 refine UQ ho λcs=>?_
 have key: ∀r,(∀v,(match xs.map ρ with|[]=>.halt (.stuck "")|x::rest=>rest.foldlM (mm mx) x:Sem Value).run P w=.ok v w->r=.ok (.value v) w)->Y2 P σ H w r (M0 mx (xs.map (YN P)) tm H):=by
  intro r RM
  unfold M0
  have hr:=KG hρ xs
  split
  ·rename_i k a l he
   rw[he] at hr
   obtain⟨v,vs,h1,h2,h3⟩:=hr.cons_inv
   have h1:=XN h1
   subst h1
   exact ze hs l vs a h2 λv hv=>RM v (by rw[h3];exact hv)
  ·trivial
 cases mx with
 |true=>
  refine key _ λv hv=>WT (s:=Builtin.max_ ⟨ts⟩ o.type ⟨xs.map ρ⟩) ?_
  simp only[Builtin.max_]
  cases hl:xs.map ρ with
  |nil=>rw[hl] at hv;cases hv
  |cons x l=>rw[hl] at hv;exact hv
 |false=>
  refine key _ λv hv=>WT (s:=Builtin.min_ ⟨ts⟩ o.type ⟨xs.map ρ⟩) ?_
  simp only[Builtin.min_]
  cases hl:xs.map ρ with
  |nil=>rw[hl] at hv;cases hv
  |cons x l=>rw[hl] at hv;exact hv
theorem JL{g:Nat}{cs:Array Value}{t:TypeId}{fr:Nat×Nat}(h:w.heap[g]? =some (.cells cs t fr)): ∀(ns:List Int) (o:Nat) (acc:ByteArray),
  (∀(j:Nat) (v:Value),(ns.map (Value.int .u8))[j]? =some v->cs[o+j]? =some v)->(loadBytes ⟨g,o,none⟩ acc ns.length).run P w=.ok (ns.foldl (λr n=>r.push (UInt8.ofNat n.toNat)) acc) w
 |[],o,acc,_=>rfl
 |n::ns,o,acc,hv=>by
  have h0:=hv 0 (.int .u8 n) rfl
  simp only[Zl,loadBytes,Sem.run_bind,run_load,IG h,Zv] at h0 ⊢
  rw[h0]
  simp only[Result.andThen_ok,RV]
  exact JL h ns (o+1) _ λj v hj=>by
   have:=hv (j+1) v (by simpa using hj)
   rw[<-this];congr 1;omega
theorem xm{w:World}{g o n:Nat}{cs:Array Value}{t:TypeId}{fr:Nat×Nat}(h:w.heap[g]? =some (.cells cs t fr))(hn:n≠0):
  AB w (w.freeze ⟨g,o,none⟩ n) g (.cells cs t (if fr.1=fr.2 then(o,o+n) else(min fr.1 o,max fr.2 (o+n)))):=by
 obtain⟨a,b⟩:=fr
 refine⟨by simp[World.freeze,hn],?_,λk hk=>?_,by simp[World.freeze,hn],by simp[World.freeze,hn],by simp[World.freeze,hn]⟩
 ·simp only[World.freeze,hn,if_false,Wb]
  rw[h];simp
 ·simp only[World.freeze,hn,if_false,Wb]
  rw[if_neg (λe=>hk e.symm)]
theorem yh(k:IntKind)(n:Int):(asInt (.int k n)).run P w=.ok n w:=rfl
theorem iG(pt ty:TypeId)(rest:List TypeId)(k:IntKind)(p:Option Addr):(Builtin.unsafeString_ ⟨pt::rest⟩ ty #[.pointer p,.int k 0]).run P w=.ok (.string .empty) w:=by
 show((asInt (.int k 0))>>=_:Sem Value).run P w=_
 rw[Sem.run_bind,yh]
 cases p<;>rfl
theorem iF{pt ty e:TypeId}(rest:List TypeId){k:IntKind}{n:Nat}{a:Addr}{s:ByteArray}(hu:P.underlying pt=some (.pointer e))(h0:n≠0)(hn:n<=140737488355328)
  (hv:(variablesAt a e n).run P w=.ok true w)(hl:(loadBytes a .empty n).run P w=.ok s w):
  (Builtin.unsafeString_ ⟨pt::rest⟩ ty #[.pointer (some a),.int k (n:Int)]).run P w=.ok (.string s) (w.freeze a n):=by
 show((asInt (.int k (n:Int)))>>=_:Sem Value).run P w=_
 have p1: ¬((n:Int)<0):=by omega
 have p2: ¬((n:Int)>IntKind.i64.max):=by
  have:IntKind.i64.max=9223372036854775807:=by decide
  omega
 have p3: ¬((n:Int)=0):=by omega
 rw[Sem.run_bind,yh]
 simp only[Result.andThen_ok,XP,VV,p1,if_false,p2,p3,Sem.run_bind,elemOf,run_underlying hu,Sem.run_pure,W3,hv,if_true,hl,run_freeze]
theorem ZcZ(hs:Wh P σ H w)(hρ:Rp P σ tm ρ){o:Oper}{xs:List Operand}{ts:List TypeId}(ho:o.op=.call ⟨.builtin .unsafeString,⟨xs⟩,⟨ts⟩⟩):Xm P σ H w tm ρ o:=by
 refine UQ ho λcs=>?_
 rcases xs with _|⟨x,_|⟨y,_|⟨_,_⟩⟩⟩<;>try exact trivial
 rcases ts with _|⟨t,_|⟨t2,_|⟨_,_⟩⟩⟩<;>try exact trivial
 refine Xb λd hu=>lG λe hd=>XD λi hi=>Wq (λhsz=>?_) λ_=>T0
 subst hd
 rw[Ym] at hsz
 have hsz:i.size=1:=Zn hsz
 refine Sy λk n hn=>?_
 have g1:=hρ x
 have g2:=hρ y
 rw[hn] at g2
 have g2:=XN g2
 refine Ux (λh0=>?_) λh0=>Yn λZbL=>QC λb off hx=>TD λr hr=>Yn λzu=>Yn λRb=>Yn λTn=>?_
 ·rw[Ym] at h0
  have h0:n=0:=Zn h0
  subst h0
  have fin: ∀p,ρ x=.pointer p->Y2 P σ H w ((builtin .unsafeString ⟨[t,t2]⟩ o.type cs ⟨[ρ x,ρ y]⟩).run P w) (.val (.str []) H):=by
   intro p e1
   refine Yh hs (x:=.string .empty) ?_ (by simp only[Ys];rfl)
   refine WT (s:=Builtin.unsafeString_ ⟨[t,t2]⟩ o.type #[ρ x,ρ y]) ?_
   rw[e1,g2]
   exact iG _ _ _ _ _
  split
  ·rename_i hx
   rw[hx] at g1
   exact fin none (by simpa only[Ys] using g1)
  ·rename_i b off hx
   rw[hx] at g1
   obtain⟨l,_,e1⟩:=Ug g1
   exact fin _ e1
  ·trivial
 ·rw[hx] at g1
  obtain⟨l,hl,e1⟩:=Ug g1
  obtain⟨Jm,fr,hc,RM⟩:=hs.row hr hl
  have zx:r.sm=false∧H.may r b=true:=by
   cases sE:r.sm with
   |true=>rw[sE] at Rb;cases Rb
   |false=>rw[sE] at Rb;exact⟨rfl,Rb⟩
  obtain⟨Dr,Kf⟩:=Wr.of_may zx.2 hr
  rw[Ym] at h0 zu
  rw[Y5] at ZbL Tn
  have h0:n≠0:=of_decide_eq_false h0
  have zu:r.elem=e:=Zn zu
  have ZbL:n<=140737488355328:=Zn ZbL
  have Tn:off+n<=r.size:=Zn Tn
  have q1:=RM.fits
  have q2:=RM.room
  obtain⟨vs,h2,h3,h4,h5⟩:=Pm RM n off Tn
  refine MN _ vs h2 λns hns=>?_
  subst hns
  have Dp:ns.length=n:=by simpa using h3
  have hcell:P.cellsOf e=1:=by simp[Program.cellsOf,hi,hsz]
  have hw:=xm (o:=l.base+off) (n:=n) hc h0
  refine Vp (Tr.write hs hr hl Dr hw.size hw.new hw.old ⟨_,_,rfl,?_⟩ hw.tape hw.os hw.out) (x:=.string ⟨(ns.map vq).toArray⟩) ?_ (by simp[Ys])
  ·have Ly:(cond (Nat.ble r.fz (Nat.add off n)) (Nat.add off n) r.fz)=max r.fz (off+n):=by
    rw[Y5]
    show cond _ (off+n) r.fz=_
    by_cases hh:r.fz<=off+n
    ·rw[show decide (r.fz<=Nat.add off n)=true from Ze hh];simp only[cond_true];omega
    ·rw[show decide (r.fz<=Nat.add off n)=false from Za hh];simp only[cond_false];omega
   rw[Ly]
   refine⟨RM.sz,RM.sz1,RM.fits,RM.room,RM.exact,RM.cell,RM.one,?_,?_⟩
   ·intro _ j hj hj2
    have hj:max r.fz (off+n)<=j:=hj
    have:=RM.frs Kf zx.1
    split
    ·simp only;omega
    ·simp only;omega
   ·intro _ _
    have:=RM.frs Kf zx.1
    right
    split
    ·simp only;omega
    ·simp only;omega
  ·refine WT (s:=Builtin.unsafeString_ ⟨[t,t2]⟩ o.type #[ρ x,ρ y]) ?_
   rw[e1,g2]
   have v9:=HZ hc
   have eN:liesAt P P.depth r.elem (Jm.size/P.cellsOf r.elem) (l.base+off) e n=true:=by
    rw[zu]
    refine nB (by omega) (by rw[hcell];omega) ?_
    rw[hcell,Nat.div_one,Nat.div_one];omega
   have hld:=JL (P:=P) hc ns (l.base+off) .empty h4
   rw[Dp,GK] at hld
   exact iF _ hu h0 ZbL (by simp only[variablesAt,Sem.run_bind,run_program,Result.andThen_ok,run_shape,v9,eN,Sem.run_pure]) (by simpa using hld)
def Iu(P:Program)(σ:Mp)(D:Nat)(t:Nat)(f:AV->AV->Option Bool):Prop:=
 ∀(a b:AV) (x y:Value) (r:Bool) (w:World),Ys σ a x->Ys σ b y->f a b=some r->(Op.equalIn D t x y).run P w=.ok r w
theorem fy{t D:Nat}(hu:P.underlying t=some .bool):Iu P σ (D+1) t oG:=by
 intro a b x y r w ha hb h
 unfold oG at h
 split at h
 ·cases h
  rw[TI ha,TI hb,run_equalIn_bool w D t _ _ hu]
  rename_i p q
  cases p<;>cases q<;>rfl
 ·cases h
theorem ZfD{t D:Nat}{k':IntKind}(hu:P.underlying t=some (.int k')):Iu P σ (D+1) t VN:=by
 intro a b x y r w ha hb h
 unfold VN at h
 split at h
 ·rename_i j p k q
  cases hk:Qd j k with
  |false=>rw[hk] at h;cases h
  |true=>
   rw[hk] at h
   have:=R1 hk;subst this
   cases h
   rw[XN ha,XN hb,run_equalIn_int w D t _ _ _ _ hu,Oa]
 ·cases h
theorem ZfE{t D:Nat}(hu:P.underlying t=some .string):Iu P σ (D+1) t Lt:=by
 intro a b x y r w ha hb h
 unfold Lt at h
 split at h
 ·cases h
  rw[VU ha,VU hb,run_equalIn_string w D t _ _ hu,SD,Ji,Ji]
 ·cases h
theorem Mm{v:Value}(h:Ys σ .nilp v):v=.pointer none:=by simpa [Ys] using h
theorem Mn{v:Value}(h:Ys σ .nils v):v=.slice none 0 0:=by simpa [Ys] using h
theorem PW{v:Value}(h:Ys σ .nilm v):v=.map none:=by simpa [Ys] using h
theorem Ml{v:Value}(h:Ys σ .nilf v):v=.nilFunc:=by simpa [Ys] using h
theorem QR{v:Value}(h:Ys σ .nili v):v=.nilIface:=by simpa [Ys] using h
theorem Je{b:Nat}{v:Value}(h:Ys σ (.map b) v): ∃l,σ b=some l∧v=.map (some l.blk):=by simpa only[Ys] using h
theorem Mj{f:Nat}{a b:List AV}{v:Value}(h:Ys σ (.func f a b) v): ∃x y,YM σ a x∧YM σ b y∧v=.func (.func f) ⟨x⟩ ⟨y⟩:=by simpa only[Ys] using h
theorem Tw{t:Nat}{a:AV}{v:Value}(h:Ys σ (.iface t a) v): ∃x,Ys σ a x∧v=.iface t x:=by simpa only[Ys] using h
theorem Jd{cs:List AV}{v:Value}(h:Ys σ (.agg cs) v): ∃vs,YM σ cs vs∧(∀x∈vs,x.oneCell'=true)∧v=.agg ⟨vs⟩:=by simpa only[Ys] using h
theorem fE{t D e:Nat}{i:TypeInfo}(hu:P.underlying t=some (.pointer e))(hi:P.info? e=some i)(h0:i.size≠0):Iu P σ (D+1) t iV:=by
 intro a b x y r w ha hb h
 unfold iV at h
 split at h
 ·cases h;rw[Mm ha,Mm hb];simp[Op.equalIn,run_underlying hu]
 ·cases h;obtain⟨l,_,e1⟩:=Ug hb;rw[Mm ha,e1];simp[Op.equalIn,run_underlying hu]
 ·cases h;obtain⟨l,_,e1⟩:=Ug ha;rw[Mm hb,e1];simp[Op.equalIn,run_underlying hu]
 ·rename_i b o c p
  rw[Ym,Ym] at h
  by_cases hbc:b=c
  ·subst hbc
   rw[Ze rfl] at h
   cases h
   obtain⟨l,hl,e1⟩:=Ug ha
   obtain⟨l2,Nl,e2⟩:=Ug hb
   rw[hl] at Nl;cases Nl
   rw[e1,e2]
   simp only[Op.equalIn,Sem.run_bind,run_underlying hu,Result.andThen_ok,Wo hi,sameAddr]
   rw[if_pos h0]
   simp only[beq_self_eq_true,if_true,Sem.run_pure,Result.ok.injEq,and_true]
   by_cases sD:o=p
   ·subst sD;simp
   ·rw[Za sD]
    rw[beq_eq_false_iff_ne]
    intro he
    have:=congrArg Addr.off he
    simp only at this
    omega
  ·rw[Za hbc] at h;cases h
 ·cases h
theorem fB{t D e:Nat}(hu:P.underlying t=some (.slice e)):Iu P σ (D+1) t eqL:=by
 intro a b x y r w ha hb h
 unfold eqL at h
 split at h
 ·cases h;rw[Mn ha,Mn hb];simp[Op.equalIn,run_underlying hu]
 ·cases h;obtain⟨l,_,e1⟩:=V6 hb;rw[Mn ha,e1];simp[Op.equalIn,run_underlying hu]
 ·cases h;obtain⟨l,_,e1⟩:=V6 ha;rw[Mn hb,e1];simp[Op.equalIn,run_underlying hu]
 ·cases h
theorem fC{t D k e:Nat}(hu:P.underlying t=some (.map k e)):Iu P σ (D+1) t eqM:=by
 intro a b x y r w ha hb h
 unfold eqM at h
 split at h
 ·cases h;rw[PW ha,PW hb];simp[Op.equalIn,run_underlying hu]
 ·cases h;obtain⟨l,_,e1⟩:=Je hb;rw[PW ha,e1];simp[Op.equalIn,run_underlying hu]
 ·cases h;obtain⟨l,_,e1⟩:=Je ha;rw[PW hb,e1];simp[Op.equalIn,run_underlying hu]
 ·cases h
theorem fD{t D:Nat}{p q:Array TypeId}{v:Bool}(hu:P.underlying t=some (.func p q v)):Iu P σ (D+1) t eqN:=by
 intro a b x y r w ha hb h
 unfold eqN at h
 split at h
 ·cases h;rw[Ml ha,Ml hb];simp[Op.equalIn,run_underlying hu]
 ·cases h;obtain⟨_,_,_,_,e1⟩:=Mj hb;rw[Ml ha,e1];simp[Op.equalIn,run_underlying hu]
 ·cases h;obtain⟨_,_,_,_,e1⟩:=Mj ha;rw[Ml hb,e1];simp[Op.equalIn,run_underlying hu]
 ·cases h
theorem fA{t D:Nat}{ms:Array (String×TypeId)}{lit:Bool}{g:Nat->AV->AV->Option Bool}(hu:P.underlying t=some (.interface ms))(hg: ∀t,Iu P σ D t (g t)):Iu P σ (D+1) t (B1 lit (wO P g)):=by
 intro a b x y r w ha hb h
 unfold B1 at h
 split at h
 ·cases lit
  ·cases h
  ·cases h;rw[QR ha,QR hb];simp[Op.equalIn,run_underlying hu]
 ·cases h;obtain⟨_,_,e1⟩:=Tw hb;rw[QR ha,e1];simp[Op.equalIn,run_underlying hu]
 ·cases h;obtain⟨_,_,e1⟩:=Tw ha;rw[QR hb,e1];simp[Op.equalIn,run_underlying hu]
 ·rename_i t1 v1 t2 v2
  obtain⟨x1,h1,e1⟩:=Tw ha
  obtain⟨y1,h2,e2⟩:=Tw hb
  rw[e1,e2]
  rw[Ym] at h
  by_cases ht:t1=t2
  ·subst ht
   rw[Ze rfl] at h
   have h:wO P g t1 v1 v2=some r:=h
   unfold wO at h
   split at h
   ·rename_i i hi
    cases hc:i.comparable with
    |false=>rw[hc] at h;cases h
    |true=>
     rw[hc] at h
     have iY:(typeInfo t1).run P w=.ok i w:=by simp[typeInfo,hi]
     simp only[Op.equalIn,Sem.run_bind,run_underlying hu,Result.andThen_ok,ne_eq,not_true_eq_false,if_false,iY,hc,Uc,YO]
     exact hg t1 v1 v2 x1 y1 r w h1 h2 h
   ·cases h
  ·rw[Za ht] at h
   cases h
   simp[Op.equalIn,run_underlying hu,ht]
 ·cases h
theorem ZaF{t:Nat}{ag:Bool}(h:ZeM P t=some ag): ∃d,P.underlying t=some d∧NR P t=ag:=by
 unfold ZeM at h
 unfold NR
 split at h<;>rename_i e<;>cases h
 ·rw[e];exact⟨_,rfl,rfl⟩
 ·rw[e];exact⟨_,rfl,rfl⟩
 ·rename_i d h1 h2
  rw[e]
  refine⟨d,rfl,?_⟩
  cases d<;>first|rfl|exact absurd rfl (h1 _)|exact absurd rfl (h2 _ _)
theorem Hv{t:Nat}{cs:List AV}{vs:List Value}{off:Nat}{k:AV->Option Bool}{r:Bool}(hr:YM σ cs vs)(UL: ∀x∈vs,x.oneCell'=true)(h:z5 P t cs off k=some r):
  ∃a x,Ys σ a x∧k a=some r∧ ∀w:World,(part t ⟨vs⟩ off).run P w=.ok x w:=by
 unfold z5 at h
 split at h
 ·rename_i i ag hi Cx
  obtain⟨d,hu,hia⟩:=ZaF Cx
  cases ag with
  |true=>
   have h:k (.agg (Oo i.size (PH off cs)))=some r:=h
   rw[Mt,N3] at h
   refine⟨_,.agg ⟨(vs.drop off).take i.size⟩,?_,h,λw=>?_⟩
   ·simp only[Ys]
    exact⟨_,(hr.drop _).take _,λy hy=>UL y (Sk (Tb hy)),rfl⟩
   ·simp only[part,Sem.run_bind,Pn (w:=w) hu,hia,Result.andThen_ok,if_true,Wo hi,Sem.run_pure]
    congr 2
    apply Array.ext'
    simp[WA]
  |false=>
   have h:(match E2 cs off with|some v=>k v|none=>none)=some r:=h
   rw[Hj] at h
   split at h
   ·rename_i v hv
    obtain⟨x,hx,U5⟩:=hr.get hv
    refine⟨v,x,U5,h,λw=>?_⟩
    simp only[part,Sem.run_bind,Pn (w:=w) hu,hia,Result.andThen_ok,YO,if_false]
    simp[hx]
   ·cases h
 ·cases h
theorem FW{e c D:Nat}{f:AV->AV->Option Bool}(hf:Iu P σ D e f){l m:List AV}{xs ys:List Value}(hl:YM σ l xs)(hm:YM σ m ys)(Pj: ∀x∈xs,x.oneCell'=true)(lR: ∀x∈ys,x.oneCell'=true):
  ∀(is:List Nat) (r:Bool) (w:World),IP P f e c l m is=some r->(Op.eqItems D e c ⟨xs⟩ ⟨ys⟩ is).run P w=.ok r w
 |[],r,w,h=>by cases h;rfl
 |i::is,r,w,h=>by
  unfold IP at h
  obtain⟨a,x,h1,h2,h3⟩:=Hv hl Pj h
  obtain⟨b,y,g1,g2,g3⟩:=Hv hm lR h2
  unfold ZaI at g2
  split at g2
  ·rename_i t ht
   have he:=hf a b x y t w h1 g1 ht
   simp only[Op.eqItems,Sem.run_bind,h3 w,g3 w,he,Result.andThen_ok]
   cases t with
   |true=>simpa using FW hf hl hm Pj lR is r w g2
   |false=>cases g2;simp
  ·cases g2
theorem MK{D:Nat}{g:Nat->AV->AV->Option Bool}(hf: ∀t,Iu P σ D t (g t)){l m:List AV}{xs ys:List Value}(hl:YM σ l xs)(hm:YM σ m ys)(Pj: ∀x∈xs,x.oneCell'=true)(lR: ∀x∈ys,x.oneCell'=true):
  ∀(fs:List Field) (r:Bool) (w:World),OJ P g l m fs=some r->(Op.eqFields D ⟨xs⟩ ⟨ys⟩ fs).run P w=.ok r w
 |[],r,w,h=>by cases h;rfl
 |f::fs,r,w,h=>by
  unfold OJ at h
  unfold Op.eqFields
  cases hn:f.name== "_" with
  |true=>
   rw[hn] at h
   rw[if_neg (by simpa using hn)]
   exact MK hf hl hm Pj lR fs r w h
  |false=>
   rw[hn] at h
   simp only[cond_false] at h
   rw[if_pos (by simpa using hn)]
   obtain⟨a,x,h1,h2,h3⟩:=Hv hl Pj h
   obtain⟨b,y,g1,g2,g3⟩:=Hv hm lR h2
   unfold ZaI at g2
   split at g2
   ·rename_i t ht
    have he:=hf f.type a b x y t w h1 g1 ht
    simp only[Sem.run_bind,h3 w,g3 w,he,Result.andThen_ok]
    cases t with
    |true=>simpa using MK hf hl hm Pj lR fs r w g2
    |false=>cases g2;simp
   ·cases g2
theorem Zfz{t D:Nat}{lit:Bool}{g:Nat->AV->AV->Option Bool}{d:TypeDesc}(hu:P.underlying t=some d)(hg: ∀t,Iu P σ D t (g t)):Iu P σ (D+1) t (λa b=>eqD P lit g t a b d):=by
 intro a b x y r w ha hb h
 cases d<;>simp only[eqD] at h<;>first
  |cases h;done
  |exact fy hu a b x y r w ha hb h
  |exact ZfD hu a b x y r w ha hb h
  |exact ZfE hu a b x y r w ha hb h
  |exact fB hu a b x y r w ha hb h
  |exact fC hu a b x y r w ha hb h
  |exact fD hu a b x y r w ha hb h
  |exact fA hu hg a b x y r w ha hb h
  |skip
 case pointer e=>
  split at h
  ·rename_i i hi
   rw[Ym] at h
   by_cases h0:i.size=0
   ·rw[Ze h0] at h;cases h
   ·rw[Za h0] at h
    exact fE hu hi h0 a b x y r w ha hb h
  ·cases h
 case array n e=>
  unfold sH at h
  split at h
  ·split at h
   ·rename_i i hi
    obtain⟨xs,h1,h2,e1⟩:=Jd ha
    obtain⟨ys,g1,g2,e2⟩:=Jd hb
    have:=FW (hg e) h1 g1 h2 g2 (List.range n) r w h
    rw[e1,e2,run_equalIn_array w D ⟨xs⟩ ⟨ys⟩ hu hi]
    rw[show P.cellsOf e=i.size by simp[Program.cellsOf,hi]]
    exact this
   ·cases h
  ·cases h
 case struct fs=>
  cases Ut:P.stoodInHeld t with
  |true=>rw[Ut] at h;cases h
  |false=>
   rw[Ut] at h
   have h:sH a b (λl m=>OJ P g l m fs.toList)=some r:=h
   unfold sH at h
   split at h
   ·obtain⟨xs,h1,h2,e1⟩:=Jd ha
    obtain⟨ys,g1,g2,e2⟩:=Jd hb
    have:=MK hg h1 g1 h2 g2 fs.toList r w h
    have oX:P.fieldsOf t=fs:=by simp[Program.fieldsOf,hu]
    rw[e1,e2,run_equalIn_struct w D t ⟨xs⟩ ⟨ys⟩ (by rw[oX];exact hu) Ut,oX]
    exact this
   ·cases h
theorem ra: ∀(d D t:Nat),d<=D->Iu P σ D t (Ac P d t)
 |0,D,t,_=>by intro a b x y r w ha hb h;cases h
 |d+1,D,t,hD=>by
  obtain⟨D',rfl⟩: ∃D',D=D'+1:=⟨D - 1,by omega⟩
  intro a b x y r w ha hb h
  unfold Ac at h
  split at h
  ·rename_i u hu
   exact Zfz (lit:=true) hu (λt=>ra d D' t (by omega)) a b x y r w ha hb h
  ·cases h
def Jy(P:Program)(σ:Mp)(t:Nat)(X Y:Operand)(f:AV->AV->Option Bool):Prop:=
 ∀(a b:AV) (x y:Value) (r:Bool) (w:World),Ys σ a x->Ys σ b y->f a b=some r->
  (∀op,(eqGuard op t X Y x y).run P w=.ok () w)∧(binOp .eql t x y).run P w=.ok (.bool r) w∧(binOp .neq t x y).run P w=.ok (.bool (!r)) w
def qz(v:Value):Bool:=match v with|.int .. |.float .. |.complex .. |.string _=>false|_=>true
theorem ZaU{t:TypeId}{x y:Value}(h:qz x=true):binOp .eql t x y=(do pure (.bool (<-Op.equal t x y))):=by
 cases x<;>first|(cases h;done)|(unfold binOp;rfl)
theorem ZaV{t:TypeId}{x y:Value}(h:qz x=true):binOp .neq t x y=(do pure (.bool (!(<-Op.equal t x y)))):=by
 cases x<;>first|(cases h;done)|(unfold binOp;rfl)
theorem Ni{t:TypeId}{X Y:Operand}{x y:Value}{r:Bool}(h:qz x=true)(hg: ∀op,(eqGuard op t X Y x y).run P w=.ok () w)(he:(Op.equalIn 10000 t x y).run P w=.ok r w):
  (∀op,(eqGuard op t X Y x y).run P w=.ok () w)∧(binOp .eql t x y).run P w=.ok (.bool r) w∧(binOp .neq t x y).run P w=.ok (.bool (!r)) w:=by
 have he:(Op.equal t x y).run P w=.ok r w:=he
 refine⟨hg,?_,?_⟩
 ·rw[ZaU h];simp[he]
 ·rw[ZaV h];simp[he]
theorem Up{t:TypeId}{X Y:Operand}{x y:Value}(h1: ∀v,x≠.agg v)(h2:x≠.nilIface∨y≠.nilIface)(op:BinOp):(eqGuard op t X Y x y).run P w=.ok () w:=by
 cases op<;>simp only[eqGuard]<;>first
  |rfl
  |(cases x<;>first
    |rfl
    |exact absurd rfl (h1 _)
    |(cases y<;>first
      |rfl
      |(rcases h2 with h2|h2<;>exact absurd rfl h2)))
theorem Zpk{t:TypeId}{X Y:Operand}(hu:P.underlying t=some .bool):Jy P σ t X Y oG:=by
 intro a b x y r w ha hb h
 have he:=fy (D:=9999) hu a b x y r w ha hb h
 unfold oG at h
 split at h
 ·have ha:=TI ha;subst ha
  exact Ni rfl (Up (λ_ h=>by cases h) (.inl λh=>by cases h)) he
 ·cases h
theorem Zpq{t e:TypeId}{X Y:Operand}{i:TypeInfo}(hu:P.underlying t=some (.pointer e))(hi:P.info? e=some i)(h0:i.size≠0):Jy P σ t X Y iV:=by
 intro a b x y r w ha hb h
 have he:=fE (D:=9999) hu hi h0 a b x y r w ha hb h
 have: ∃p,x=.pointer p:=by
  unfold iV at h
  split at h
  ·exact⟨_,Mm ha⟩
  ·exact⟨_,Mm ha⟩
  ·obtain⟨_,_,e1⟩:=Ug ha;exact⟨_,e1⟩
  ·obtain⟨_,_,e1⟩:=Ug ha;exact⟨_,e1⟩
  ·cases h
 obtain⟨p,rfl⟩:=this
 exact Ni rfl (Up (λ_ h=>by cases h) (.inl λh=>by cases h)) he
theorem Zpn{t e:TypeId}{X Y:Operand}(hu:P.underlying t=some (.slice e)):Jy P σ t X Y eqL:=by
 intro a b x y r w ha hb h
 have he:=fB (D:=9999) hu a b x y r w ha hb h
 have: ∃p n c,x=.slice p n c:=by
  unfold eqL at h
  split at h
  ·exact⟨_,_,_,Mn ha⟩
  ·exact⟨_,_,_,Mn ha⟩
  ·obtain⟨_,_,e1⟩:=V6 ha;exact⟨_,_,_,e1⟩
  ·cases h
 obtain⟨p,n,c,rfl⟩:=this
 exact Ni rfl (Up (λ_ h=>by cases h) (.inl λh=>by cases h)) he
theorem Zpo{t k e:TypeId}{X Y:Operand}(hu:P.underlying t=some (.map k e)):Jy P σ t X Y eqM:=by
 intro a b x y r w ha hb h
 have he:=fC (D:=9999) hu a b x y r w ha hb h
 have: ∃p,x=.map p:=by
  unfold eqM at h
  split at h
  ·exact⟨_,PW ha⟩
  ·exact⟨_,PW ha⟩
  ·obtain⟨_,_,e1⟩:=Je ha;exact⟨_,e1⟩
  ·cases h
 obtain⟨p,rfl⟩:=this
 exact Ni rfl (Up (λ_ h=>by cases h) (.inl λh=>by cases h)) he
theorem Zpp{t:TypeId}{p q:Array TypeId}{v:Bool}{X Y:Operand}(hu:P.underlying t=some (.func p q v)):Jy P σ t X Y eqN:=by
 intro a b x y r w ha hb h
 have he:=fD (D:=9999) hu a b x y r w ha hb h
 have:x=.nilFunc∨ ∃f m n,x=.func f m n:=by
  unfold eqN at h
  split at h
  ·exact .inl (Ml ha)
  ·exact .inl (Ml ha)
  ·obtain⟨_,_,_,_,e1⟩:=Mj ha;exact .inr ⟨_,_,_,e1⟩
  ·cases h
 rcases this with rfl|⟨f,m,n,rfl⟩
 ·exact Ni rfl (Up (λ_ h=>by cases h) (.inl λh=>by cases h)) he
 ·exact Ni rfl (Up (λ_ h=>by cases h) (.inl λh=>by cases h)) he
theorem lL{t:TypeId}{X Y:Operand}(h:(Lk X||Lk Y)=true)(op:BinOp):(eqGuard op t X Y .nilIface .nilIface).run P w=.ok () w:=by
 have hc:((X matches .const _)||(Y matches .const _))=true:=by
  cases X<;>cases Y<;>first|rfl|cases h
 cases op<;>simp only[eqGuard]<;>first
  |rfl
  |(cases X<;>cases Y<;>first|rfl|cases h)
theorem Zpl{t:TypeId}{ms:Array (String×TypeId)}{X Y:Operand}(hu:P.underlying t=some (.interface ms)):Jy P σ t X Y (B1 (Lk X||Lk Y) (wO P (Ac P 9))):=by
 intro a b x y r w ha hb h
 have he:=fA (D:=9999) hu (λt=>ra 9 9999 t (by omega)) a b x y r w ha hb h
 unfold B1 at h
 split at h
 ·cases hl:(Lk X||Lk Y) with
  |false=>rw[hl] at h;cases h
  |true=>
   have ha:=QR ha;subst ha
   have hb:=QR hb;subst hb
   exact Ni rfl (lL hl) he
 ·have ha:=QR ha;subst ha
  obtain⟨_,_,rfl⟩:=Tw hb
  exact Ni rfl (Up (λ_ h=>by cases h) (.inr λh=>by cases h)) he
 ·obtain⟨_,_,rfl⟩:=Tw ha
  exact Ni rfl (Up (λ_ h=>by cases h) (.inl λh=>by cases h)) he
 ·obtain⟨_,_,rfl⟩:=Tw ha
  exact Ni rfl (Up (λ_ h=>by cases h) (.inl λh=>by cases h)) he
 ·cases h
theorem ZlA{t:TypeId}{X Y:Operand}(Cx:(∃n e,P.underlying t=some (.array n e))∨ ∃fs,P.underlying t=some (.struct fs))(hg:P.eqGuardType P.depth t=false):Jy P σ t X Y (Ac P 10 t):=by
 intro a b x y r w ha hb h
 have he:=ra 10 10000 t (by omega) a b x y r w ha hb h
 have Cv:(∃l,a=.agg l)∧ ∃m,b=.agg m:=by
  unfold Ac at h
  have agg: ∀{k:List AV->List AV->Option Bool},sH a b k=some r->(∃l,a=.agg l)∧ ∃m,b=.agg m:=by
   intro k h
   unfold sH at h
   split at h
   ·exact⟨⟨_,rfl⟩,⟨_,rfl⟩⟩
   ·cases h
  rcases Cx with⟨n,e,hu⟩|⟨fs,hu⟩
  ·rw[hu] at h
   exact agg h
  ·rw[hu] at h
   simp only[eqD] at h
   cases Ut:P.stoodInHeld t with
   |true=>rw[Ut] at h;cases h
   |false=>rw[Ut] at h;exact agg h
 obtain⟨⟨l,rfl⟩,⟨m,rfl⟩⟩:=Cv
 obtain⟨xs,_,_,rfl⟩:=Jd ha
 obtain⟨ys,_,_,rfl⟩:=Jd hb
 exact Ni rfl (λop=>run_eqGuard_agg w op t X Y _ _ hg) he
theorem Zpm{t:TypeId}{X Y:Operand}:Jy P σ t X Y VN:=by
 intro a b x y r w ha hb h
 unfold VN at h
 split at h
 ·rename_i j p k q
  cases hk:Qd j k with
  |false=>rw[hk] at h;cases h
  |true=>
   rw[hk] at h
   have:=R1 hk;subst this
   have h:some (G5 p q)=some r:=h
   cases h
   have ha:=XN ha;subst ha
   have hb:=XN hb;subst hb
   rw[Oa]
   exact⟨Up (λ_ h=>by cases h) (.inl λh=>by cases h),by simp[binOp,Op.intCmp],by simp[binOp,Op.intCmp,bne]⟩
 ·cases h
theorem Zpr{t:TypeId}{X Y:Operand}:Jy P σ t X Y Lt:=by
 intro a b x y r w ha hb h
 unfold Lt at h
 split at h
 ·rename_i p q
  cases h
  have ha:=VU ha;subst ha
  have hb:=VU hb;subst hb
  refine⟨Up (λ_ h=>by cases h) (.inl λh=>by cases h),?_,?_⟩
  ·simp[binOp,Op.stringOp,SD]
  ·simp[binOp,Op.stringOp,SD]
 ·cases h
theorem NS(hs:Wh P σ H w)(hρ:Rp P σ tm ρ){o:Oper}{neg:Bool}{t u:TypeId}{x y:Operand}{f:AV->AV->Option Bool}(ho:o.op=.binOp (if neg then .neq else .eql) t x y u)(hf:Jy P σ t x y f):
  Y2 P σ H w ((execOp ρ o).run P w) (Vd (YN P x) (YN P y) f neg tm H):=by
 refine Ql λr hr=>?_
 obtain⟨h1,h2,h3⟩:=hf _ _ _ _ r w (hρ x) (hρ y) hr
 refine J3 hs ?_
 simp only[execOp,ho]
 refine WT ?_
 rw[Sem.run_bind,h1]
 cases neg
 ·exact h2
 ·simp only[Result.andThen_ok]
  refine h3.trans ?_
  cases r<;>rfl
theorem cS(hs:Wh P σ H w)(hρ:Rp P σ tm ρ){o:Oper}{neg:Bool}{t u:TypeId}{x y:Operand}(ho:o.op=.binOp (if neg then .neq else .eql) t x y u):
  Y2 P σ H w ((execOp ρ o).run P w) (VD P t (eqK P t (Lk x||Lk y) neg (YN P x) (YN P y)) tm H):=by
 refine Xb λd hu=>?_
 cases d<;>try exact trivial
 case bool=>exact NS hs hρ ho (Zpk hu)
 case int k=>exact NS hs hρ ho Zpm
 case string=>exact NS hs hρ ho Zpr
 case pointer e=>
  show Y2 P σ H w _ ((match P.info? e with|some i=>cond (Nat.beq i.size 0) VC (Vd (YN P x) (YN P y) iV neg)|none=>VC) tm H)
  cases hi:P.info? e with
  |none=>exact trivial
  |some i=>
   refine Wq (λ_=>T0) λh0=>?_
   rw[Ym] at h0
   exact NS hs hρ ho (Zpq hu hi (of_decide_eq_false h0))
 case slice e=>exact NS hs hρ ho (Zpn hu)
 case map k e=>exact NS hs hρ ho (Zpo hu)
 case func p q v=>exact NS hs hρ ho (Zpp hu)
 case interface ms=>exact NS hs hρ ho (Zpl hu)
 case array n e=>exact Wq (λ_=>T0) λh0=>NS hs hρ ho (ZlA (.inl ⟨n,e,hu⟩) h0)
 case struct fs=>exact Wq (λ_=>T0) λh0=>NS hs hρ ho (ZlA (.inr ⟨fs,hu⟩) h0)
theorem ZgG(hs:Wh P σ H w)(hρ:Rp P σ tm ρ){o:Oper}{t u:TypeId}{x y:Operand}(ho:o.op=.binOp .eql t x y u):Xm P σ H w tm ρ o:=by
 unfold Xm
 have:=cS (neg:=false) hs hρ ho
 rw[ho]
 exact this
theorem ZgN(hs:Wh P σ H w)(hρ:Rp P σ tm ρ){o:Oper}{t u:TypeId}{x y:Operand}(ho:o.op=.binOp .neq t x y u):Xm P σ H w tm ρ o:=by
 unfold Xm
 have:=cS (neg:=true) hs hρ ho
 rw[ho]
 exact this
theorem YE.length: ∀{es:List RH} {l:List MapEntry},YE σ es l->es.length=l.length
 |[],l,h=>by simp only[YE] at h;subst h;rfl
 |a::es,l,h=>by simp only[YE] at h;obtain⟨e,es',_,h2,rfl⟩:=h;simp[h2.length]
theorem LU:YE σ [] []:=by simp[YE]
theorem Ow{a:RH}{as:List RH}{e:MapEntry}{es:List MapEntry}(h:NI σ a e)(h':YE σ as es):YE σ (a::as) (e::es):=by
 simp only[YE];exact⟨e,es,h,h',rfl⟩
theorem YE.cons_inv{a:RH}{as:List RH}{l:List MapEntry}(h:YE σ (a::as) l): ∃e es,NI σ a e∧YE σ as es∧l=e::es:=by simpa [YE] using h
structure FN(P:Program)(σ:Mp)(kt:TypeId)(kd:TypeDesc)(eq:AV->AV->Option Bool):Prop where
 und:P.underlying kt=some kd
 check: ∀(b:Bool) (x:Value) (w:World),(Instr.checkKey b 10000 kt x).run P w=.ok () w
 now: ∀(a b:AV) (x y:Value) (r:Bool),Ys σ a x->Ys σ b y->eq a b=some r->Instr.sameNow kd x y=some r
 bits: ∀(a b:AV) (x y:Value),Ys σ a x->Ys σ b y->eq a b=some true->Instr.sameBits 10000 y x=true
 apart: ∀(k a b:AV) (t:Bool),Gw a b=true->eq k a=some t-> ∃u,eq k b=some u∧(t=true->u=false)
theorem LR{kt:TypeId}{kd:TypeDesc}(hu:P.underlying kt=some kd)(hk:(match kd with|.string|.int _|.bool=>true|_=>false)=true)(b:Bool)(x:Value)(w:World):(Instr.checkKey b 10000 kt x).run P w=.ok () w:=by
 cases kd<;>first|(cases hk;done)|skip
 all_goals
  unfold Instr.checkKey
  simp[run_underlying hu]
theorem ZoQ{kt:TypeId}(hu:P.underlying kt=some .string):FN P σ kt .string Lt:=by
 refine⟨hu,λb x w=>LR hu rfl b x w,?_,?_,?_⟩
 ·intro a b x y r ha hb h
  unfold Lt at h
  split at h
  ·cases h
   rw[VU ha,VU hb,SD]
   show some (ByteArray.mk _==ByteArray.mk _)=_
   rw[beq_toListBytes,Ji,Ji]
  ·cases h
 ·intro a b x y ha hb h
  unfold Lt at h
  split at h
  ·rename_i p q
   rw[SD] at h
   have h:p=q:=by simpa using h
   subst h
   rw[VU ha,VU hb]
   show(ByteArray.mk _==ByteArray.mk _)=true
   rw[beq_toListBytes]
   simp
  ·cases h
 ·intro k a b t Cv h
  unfold Gw at Cv
  split at Cv
  ·rename_i p q
   cases k<;>try (cases h;done)
   rename_i s
   refine⟨Lo s q,rfl,λht=>?_⟩
   subst ht
   have h:some (Lo s p)=some true:=h
   rw[SD] at h Cv ⊢
   have h:s=p:=by simpa using h
   subst h
   simpa using Cv
  ·cases k<;>cases h
  ·cases Cv
theorem ZoP{kt:TypeId}{k:IntKind}(hu:P.underlying kt=some (.int k)):FN P σ kt (.int k) VN:=by
 refine⟨hu,λb x w=>LR hu rfl b x w,?_,?_,?_⟩
 ·intro a b x y r ha hb h
  unfold VN at h
  split at h
  ·rename_i j p k q
   cases hk:Qd j k with
   |false=>rw[hk] at h;cases h
   |true=>
    rw[hk] at h
    have:=R1 hk;subst this
    cases h
    rw[XN ha,XN hb,Oa]
    simp[Instr.sameNow]
  ·cases h
 ·intro a b x y ha hb h
  unfold VN at h
  split at h
  ·rename_i j p k q
   cases hk:Qd j k with
   |false=>rw[hk] at h;cases h
   |true=>
    rw[hk] at h
    have:=R1 hk;subst this
    have h:some (G5 p q)=some true:=h
    rw[Oa] at h
    have h:p=q:=by simpa using h
    subst h
    rw[XN ha,XN hb]
    simp[Instr.sameBits]
  ·cases h
 ·intro k a b t Cv h
  unfold Gw at Cv
  split at Cv
  ·cases k<;>cases h
  ·rename_i j1 p j2 q
   cases k<;>try (cases h;done)
   rename_i j3 s
   obtain⟨h1,h2⟩:=Bool.and_eq_true_iff.1 Cv
   have:=R1 h1;subst this
   unfold VN at h ⊢
   cases hk:Qd j3 j1 with
   |false=>simp[hk] at h
   |true=>
    simp only[hk,cond_true,Option.some.injEq] at h ⊢
    refine⟨_,rfl,λht=>?_⟩
    subst ht
    rw[Oa] at h h2 ⊢
    have h:s=p:=by simpa using h
    subst h
    simpa using h2
  ·cases Cv
theorem ZoO{kt:TypeId}(hu:P.underlying kt=some .bool):FN P σ kt .bool oG:=by
 refine⟨hu,λb x w=>LR hu rfl b x w,?_,?_,?_⟩
 ·intro a b x y r ha hb h
  unfold oG at h
  split at h
  ·rename_i p q
   cases h
   rw[TI ha,TI hb]
   cases p<;>cases q<;>rfl
  ·cases h
 ·intro a b x y ha hb h
  unfold oG at h
  split at h
  ·rename_i p q
   rw[TI ha,TI hb]
   cases p<;>cases q<;>first|rfl|cases h
  ·cases h
 ·intro k a b t Cv h
  unfold Gw at Cv
  split at Cv
  ·cases k<;>cases h
  ·cases k<;>cases h
  ·cases Cv
theorem zb{r:Result Next}{kt:TypeId}{f:(AV->AV->Option Bool)->W2}(h: ∀kd eq,FN P σ kt kd eq->Y2 P σ H w r (f eq tm H)):Y2 P σ H w r (VD P kt (dB f) tm H):=by
 refine Xb λd hu=>?_
 cases d<;>try exact trivial
 case string=>exact h _ _ (ZoQ hu)
 case int k=>exact h _ _ (ZoP hu)
 case bool=>exact h _ _ (ZoO hu)
theorem GO{r:Result Next}{kt:TypeId}{kd:TypeDesc}{eq:AV->AV->Option Bool}(hk:FN P σ kt kd eq){k:AV}{kv:Value}(hkr:Ys σ k kv){no:OR}{yes:AV->OR}: ∀(es:List RH) (l:List MapEntry) (i:Nat),YE σ es l->
  (Instr.findNow kd kv l i=some none->Y2 P σ H w r no)->(∀j a v,Ys σ a v->Instr.findNow kd kv l i=some (some (j,v))->Y2 P σ H w r (yes a))->Y2 P σ H w r (VT eq k no yes es)
 |[],l,i,h,h1,h2=>by
  simp only[YE] at h;subst h
  exact h1 rfl
 |e::es,l,i,h,h1,h2=>by
  obtain⟨m,ms,g1,g2,rfl⟩:=h.cons_inv
  unfold VT
  cases he:eq k e.key with
  |none=>exact trivial
  |some t=>
   have hn:=hk.now _ _ _ _ t hkr g1.1 he
   cases t with
   |true=>exact h2 i e.val m.val g1.2.1 (by simp only[Instr.findNow,hn])
   |false=>
    refine GO hk hkr es ms (i+1) g2 (λq=>h1 ?_) (λj a v ha q=>h2 j a v ha ?_)
    ·simp only[Instr.findNow,hn];exact q
    ·simp only[Instr.findNow,hn];exact q
theorem JI{eq:AV->AV->Option Bool}{k:AV}{no:OR}{yes:AV->OR}: ∀{es fs:List RH},es.map Nf=fs.map Nf->VT eq k no yes es=VT eq k no yes fs
 |[],[],_=>rfl
 |[],_::_,h=>by cases h
 |_::_,[],h=>by cases h
 |e::es,f::fs,h=>by
  simp only[Y8,List.cons.injEq] at h
  obtain⟨h1,h2⟩:=h
  simp only[Nf,Prod.mk.injEq] at h1
  unfold VT
  rw[h1.1,h1.2,JI h2]
noncomputable def AY(eq:AV->AV->Option Bool)(k:AV)(no:OR)(yes:AV->OR)(l:List (AV×AV)):OR:=VT eq k no yes (l.map λp=>⟨p.1,p.2,0⟩)
theorem AZ{eq:AV->AV->Option Bool}{k:AV}{no:OR}{yes:AV->OR}(es:List RH):AY eq k no yes (es.map Nf)=VT eq k no yes es:=by
 unfold AY
 refine JI ?_
 rw[UP,UP]
 rfl
theorem Pd{eq:AV->AV->Option Bool}{k:AV}{no:OR}{yes:AV->OR}(p:AV×AV)(l:List (AV×AV)){t:Bool}(h:eq k p.1=some t):AY eq k no yes (p::l)=cond t (yes p.2) (AY eq k no yes l):=by
 show VT eq k no yes (⟨p.1,p.2,0⟩::l.map λp=>⟨p.1,p.2,0⟩)=_
 unfold VT
 rw[show eq k (⟨p.1,p.2,0⟩:RH).key=some t from h]
 rfl
theorem ri{eq:AV->AV->Option Bool}{k:AV}{no:OR}{yes:AV->OR}{l m:List (AV×AV)}(hp:l.Perm m)(ha: ∀p∈l,∃t,eq k p.1=some t)(hu:l.Pairwise λp q=>eq k p.1=some true->eq k q.1=some true->False):
  AY eq k no yes l=AY eq k no yes m:=by
 induction hp with
 |nil=>rfl
 |cons p _ ih=>
  obtain⟨t,ht⟩:=ha p (Zx ..)
  rw[Pd _ _ ht,Pd _ _ ht,ih (λq hq=>ha q (ZI _ hq)) (List.pairwise_cons.1 hu).2]
 |swap p q l=>
  obtain⟨t,ht⟩:=ha q (Zx ..)
  obtain⟨u,dj⟩:=ha p (ZI _ (Zx ..))
  rw[Pd _ _ ht,Pd _ _ dj,Pd _ _ dj,Pd _ _ ht]
  cases t<;>cases u<;>try rfl
  exact((List.pairwise_cons.1 hu).1 p (Zx ..) ht dj).elim
 |trans h1 _ ih1 ih2=>
  rw[ih1 ha hu]
  exact ih2 (λq hq=>ha q (h1.mem_iff.2 hq)) ((h1.pairwise_iff (λh a b=>h b a)).1 hu)
theorem xQ{kt:TypeId}{kd:TypeDesc}{eq:AV->AV->Option Bool}(hk:FN P σ kt kd eq){k:AV}{no:OR}{yes:AV->OR}{es fs:List RH}(hp:(fs.map Nf).Perm (es.map Nf))(ha:es.Pairwise sJ):
  VT eq k no yes es=.fail∨VT eq k no yes es=VT eq k no yes fs:=by
 cases es with
 |nil=>
  rw[List.map_nil] at hp
  have:=List.Perm.eq_nil hp
  cases fs with
  |nil=>exact .inr rfl
  |cons f fs=>cases this
 |cons e es=>
  cases he:eq k e.key with
  |none=>
   left
   unfold VT
   rw[he]
  |some t=>
   right
   have MR: ∀f∈e::es,∃u,eq k f.key=some u:=by
    intro f hf
    rcases Ya.1 hf with rfl|hf
    ·exact⟨t,he⟩
    ·obtain⟨u,hu,_⟩:=hk.apart k e.key f.key t ((List.pairwise_cons.1 ha).1 f hf).1 he
     exact⟨u,hu⟩
   rw[<-AZ (e::es),<-AZ fs]
   refine(ri hp.symm (λp hp=>?_) ?_)
   ·obtain⟨f,hf,rfl⟩:=YV.1 hp
    exact MR f hf
   ·rw[List.pairwise_map]
    refine ha.imp λ{a b} Cv h1 h2=>?_
    obtain⟨u,h3,h4⟩:=hk.apart k a.key b.key true Cv.1 h1
    have h2:eq k b.key=some true:=h2
    rw[h3,h4 rfl] at h2
    cases h2
theorem Rj{kt:TypeId}{kd:TypeDesc}(hu:P.underlying kt=some kd){kv:Value}{l:List MapEntry}{r:Option (Nat×Value)}(h:Instr.findNow kd kv l 0=some r):(Instr.findKey kt kv l).run P w=.ok r w:=by
 simp only[Instr.findKey,Sem.run_bind,run_underlying hu,Result.andThen_ok,h,Sem.run_pure]
theorem jx(hs:Wh P σ H w)(hρ:Rp P σ tm ρ){o:Oper}{t:TypeId}{m k:Operand}{ok:Bool}(ho:o.op=.lookup t m k ok):Xm P σ H w tm ρ o:=by
 unfold Xm;rw[ho]
 refine Xb λd hu=>?_
 cases d<;>try exact trivial
 case map kt e=>
  refine zb λkd eq hk=>XD λi hi=>Ud λz hz=>?_
  have g:=hρ m
  have CC: ∀{a:AV} {v:Value} {b:Bool},Ys σ a v->(execOp ρ o).run P w=.ok (.value (if ok then .tuple #[v,.bool b] else v)) w->Y2 P σ H w ((execOp ρ o).run P w) (JD ok H a b):=by
   intro a v b ha hr
   unfold JD
   cases ok with
   |true=>
    refine Yh hs hr ?_
    simp only[Ys]
    exact⟨[v,.bool b],WC ha (T7 (by simp[Ys])),rfl⟩
   |false=>exact Yh hs hr ha
  have v5: ∀{v:Value},(Instr.lookup t (ρ m) (ρ k) ok).run P w=.ok v w->(execOp ρ o).run P w=.ok (.value v) w:=λh=>by
   simp only[execOp,ho];exact WT h
  refine IV (λhx=>?_) λb hx=>OY λob Gs=>?_
  ·rw[hx] at g
   refine CC (Pb σ z) (v5 ?_)
   rw[PW g]
   have hf:=Rj (w:=w) (kv:=ρ k) (l:=(#[]:Array MapEntry).toList) hk.und (r:=none) rfl
   simp only[Instr.lookup,Sem.run_bind,run_underlying hu,Result.andThen_ok,Sem.run_pure,hk.check,hf,T8 hi hz]
  ·rw[hx] at g
   obtain⟨l,hl,e1⟩:=Je g
   cases ob<;>try exact trivial
   case map es clock=>
    obtain⟨c,hc,Eh⟩:=hs.alive b _ l Gs hl
    obtain⟨ents,rfl,hr,_⟩:=Eh
    refine GO hk (hρ k) es ents.toList 0 hr (λq=>?_) λj a v ha q=>?_
    ·refine CC (Pb σ z) (v5 ?_)
     rw[e1]
     have hf:=Rj (w:=w) hk.und q
     simp only[Instr.lookup,Sem.run_bind,run_underlying hu,Result.andThen_ok,QS hc,Sem.run_pure,hk.check,hf,T8 hi hz]
    ·refine CC ha (v5 ?_)
     rw[e1]
     have hf:=Rj (w:=w) hk.und q
     simp only[Instr.lookup,Sem.run_bind,run_underlying hu,Result.andThen_ok,QS hc,Sem.run_pure,hk.check,hf]
   case cmap es=>
    obtain⟨c,hc,Eh⟩:=hs.alive b _ l Gs hl
    obtain⟨ents,clock,fs,rfl,hr,hp,ha⟩:=Eh
    show Y2 P σ H w _ (VT _ _ _ _ es)
    rcases xQ hk hp ha with hx2|hx2
    ·rw[hx2];exact trivial
    rw[hx2]
    refine GO hk (hρ k) fs ents.toList 0 hr (λq=>?_) λj a v ha q=>?_
    ·refine CC (Pb σ z) (v5 ?_)
     rw[e1]
     have hf:=Rj (w:=w) hk.und q
     simp only[Instr.lookup,Sem.run_bind,run_underlying hu,Result.andThen_ok,QS hc,Sem.run_pure,hk.check,hf,T8 hi hz]
    ·refine CC ha (v5 ?_)
     rw[e1]
     have hf:=Rj (w:=w) hk.und q
     simp only[Instr.lookup,Sem.run_bind,run_underlying hu,Result.andThen_ok,QS hc,Sem.run_pure,hk.check,hf]
theorem qU(hs:Wh P σ H w){o:Oper}{t:TypeId}{r:Option Operand}(ho:o.op=.makeMap t r):Xm P σ H w tm ρ o:=by
 unfold Xm;rw[ho]
 cases r with
 |some r=>exact trivial
 |none=>
  refine Vp (Tr.alloc hs (.map [] 0) (.map #[] 0) ⟨w.heap.size,0,0,1⟩ rfl ⟨#[],rfl,LU,by simp[Gu]⟩) (x:=.map (some w.heap.size)) ?_ ?_
  ·simp only[execOp,ho]
   refine WT ?_
   simp[Instr.makeMap]
  ·simp only[Ys];exact⟨_,Mp.put_same _ _ _,rfl⟩
theorem vQ{r:Result Next}{kt:TypeId}{kd:TypeDesc}{eq:AV->AV->Option Bool}(hk:FN P σ kt kd eq){k v:AV}{kv vv:Value}(hkr:Ys σ k kv)(hvr:Ys σ v vv){clock:Nat}: ∀(es:List RH) (l:List MapEntry) (i:Nat) (done:List RH->Nat->OR),YE σ es l->
  (Instr.findNow kd kv l i=some none->(∀e∈es,True)->Y2 P σ H w r (done (es++[⟨k,v,clock⟩]) (clock+1)))->
  (∀j a m u,es[j]? =some a->l[j]? =some m->NI σ a m->Instr.sameBits 10000 m.key kv=true->Instr.findNow kd kv l i=some (some (i+j,u))->Y2 P σ H w r (done (es.set j ⟨k,v,a.born⟩) clock))->
  Y2 P σ H w r (O4 eq k v clock done es)
 |[],l,i,done,h,h1,h2=>by
  simp only[YE] at h;subst h
  exact h1 rfl (by simp)
 |e::es,l,i,done,h,h1,h2=>by
  obtain⟨m,ms,g1,g2,rfl⟩:=h.cons_inv
  unfold O4
  cases he:eq k e.key with
  |none=>exact trivial
  |some t=>
   have hn:=hk.now _ _ _ _ t hkr g1.1 he
   cases t with
   |true=>
    have hb:=hk.bits _ _ _ _ hkr g1.1 he
    exact h2 0 e m m.val rfl rfl g1 hb (by simp only[Instr.findNow,hn,Zv])
   |false=>
    refine vQ hk hkr hvr es ms (i+1) (λl' c=>done (e::l') c) g2 (λq _=>h1 ?_ (by simp)) (λj a m' u q1 q2 q3 q4 q5=>h2 (j+1) a m' u (by simpa using q1) (by simpa using q2) q3 q4 ?_)
    ·simp only[Instr.findNow,hn];exact q
    ·simp only[Instr.findNow,hn];rw[q5,show i+1+j=i+(j+1) by omega]
theorem YE.append: ∀{es es2:List RH} {l l2:List MapEntry},YE σ es l->YE σ es2 l2->YE σ (es++es2) (l++l2)
 |[],es2,l,l2,h,h'=>by simp only[YE] at h;subst h;exact h'
 |a::es,es2,l,l2,h,h'=>by
  obtain⟨m,ms,g1,g2,rfl⟩:=h.cons_inv
  exact Ow g1 (g2.append h')
theorem YE.set{a:RH}{m:MapEntry}(hm:NI σ a m): ∀{es:List RH} {l:List MapEntry} (j:Nat),YE σ es l->YE σ (es.set j a) (l.set j m)
 |[],l,j,h=>by simp only[YE] at h;subst h;simpa using LU
 |e::es,l,0,h=>by
  obtain⟨m',ms,g1,g2,rfl⟩:=h.cons_inv
  exact Ow hm g2
 |e::es,l,j+1,h=>by
  obtain⟨m',ms,g1,g2,rfl⟩:=h.cons_inv
  exact Ow g1 (g2.set hm j)
theorem py{es:List RH}{c j:Nat}{a:RH}{k v:AV}(h:Gu es c)(ha:es[j]? =some a):Gu (es.set j ⟨k,v,a.born⟩) c:=by
 have key:(es.set j ⟨k,v,a.born⟩).map (·.born)=es.map (·.born):=by
  apply Wl
  intro i
  simp only[YR,List.getElem?_set]
  by_cases eM:j=i
  ·subst eM
   have Y6:j<es.length:=by
    rcases Un j es.length with h|h
    ·exact h
    ·rw[YF h] at ha;cases ha
   rw[if_pos rfl,if_pos Y6,ha]
   rfl
  ·simp[eM]
 obtain⟨h1,h2⟩:=h
 constructor
 ·have:((es.set j ⟨k,v,a.born⟩).map (·.born)).Pairwise (· < ·):=by rw[key];exact List.pairwise_map.2 h1
  exact List.pairwise_map.1 this
 ·intro e he
  have:e.born∈(es.set j ⟨k,v,a.born⟩).map (·.born):=Tx he
  rw[key] at this
  obtain⟨e',he',h3⟩:=YV.1 this
  rw[<-h3];exact h2 e' he'
theorem th{es:List RH}{c:Nat}{k v:AV}(h:Gu es c):Gu (es++[⟨k,v,c⟩]) (c+1):=by
 obtain⟨h1,h2⟩:=h
 constructor
 ·rw[List.pairwise_append]
  refine⟨h1,by simp,λa ha b hb=>?_⟩
  rw[Y1] at hb;subst hb
  exact h2 a ha
 ·intro e he
  rcases Zs.1 he with he|he
  ·have:=h2 e he;omega
  ·rw[Y1] at he;subst he;exact YZ c
theorem HV{g:Nat}{es:Array MapEntry}{c:Nat}(ob:Go.Obj)(h:w.heap[g]? =some (.map es c)): ∃w',(setObj g ob).run P w=.ok () w'∧AB w w' g ob:=by
 refine⟨{w with heap:=w.heap.setIfInBounds g ob},by simp[setObj,Sem.run,h],⟨by simp,?_,λk hk=>?_,rfl,rfl,rfl⟩⟩
 ·have:g<w.heap.size:=(ZW.1 h).1
  simp[this]
 ·simp only[Xh]
  rw[if_neg (λe=>hk e.symm)]
theorem vP(hs:Wh P σ H w)(hρ:Rp P σ tm ρ){o:Oper}{t kt e:TypeId}{m k x:Operand}{kd:TypeDesc}{eq:AV->AV->Option Bool}(hu:P.underlying t=some (.map kt e))(hk:FN P σ kt kd eq)
  (hex: ∀w',(Instr.mapUpdate t (ρ m) (ρ k) (ρ x)).run P w=.ok () w'->(execOp ρ o).run P w=.ok .skip w'):
  Y2 P σ H w ((execOp ρ o).run P w) (MY eq (YN P m) (YN P k) (YN P x) tm H):=by
 have g:=hρ m
 refine IV (λ_=>trivial) λb hx=>OY λob Gs=>?_
 rw[hx] at g
 obtain⟨l,hl,e1⟩:=Je g
 cases ob<;>try exact trivial
 case map es clock=>
  refine Yn λYL=>?_
  have Dr:Wr H b:=⟨ZN YL,_,Gs,(λr h=>by cases h),λh=>by cases h⟩
  obtain⟨c,hc,Eh⟩:=hs.alive b _ l Gs hl
  obtain⟨ents,rfl,hr,ZbU⟩:=Eh
  refine vQ hk (hρ k) (hρ x) es ents.toList 0 _ hr (λq _=>?_) λj a mm u q1 q2 q3 q4 q5=>?_
  ·obtain⟨w',YX,hw⟩:=HV (P:=P) (.map (ents.push {key:=ρ k,val:=ρ x,born:=clock}) (clock+1)) hc
   refine⟨σ,w',undef,.inr ⟨hex w' ?_,rfl⟩,by simp[YS,undef,Ys,YM],Tr.write hs Gs hl Dr hw.size hw.new hw.old ⟨_,rfl,?_,th ZbU⟩ hw.tape hw.os hw.out⟩
   ·rw[e1]
    have hf:=Rj (w:=w) hk.und q
    simp only[Instr.mapUpdate,Sem.run_bind,run_underlying hu,Result.andThen_ok,QS hc,hk.check,hf,YX]
   ·rw[Array.toList_push]
    exact hr.append (Ow ⟨hρ k,hρ x,rfl⟩ LU)
  ·obtain⟨w',YX,hw⟩:=HV (P:=P) (.map (ents.modify j λe=>{e with key:=ρ k,val:=ρ x}) clock) hc
   refine⟨σ,w',undef,.inr ⟨hex w' ?_,rfl⟩,by simp[YS,undef,Ys,YM],Tr.write hs Gs hl Dr hw.size hw.new hw.old ⟨_,rfl,?_,py ZbU q1⟩ hw.tape hw.os hw.out⟩
   ·rw[e1]
    have hf:=Rj (w:=w) hk.und q5
    rw[Zt] at hf
    have hej:ents[j]? =some mm:=by rw[<-Yd];exact q2
    simp only[Instr.mapUpdate,Sem.run_bind,run_underlying hu,Result.andThen_ok,QS hc,hk.check,hf,hej,Wj,Option.getD_some,Instr.keyThatStays,q4,if_true,Sem.run_pure,YX]
   ·have e2:(ents.modify j λe=>{e with key:=ρ k,val:=ρ x}).toList=ents.toList.set j {mm with key:=ρ k,val:=ρ x}:=by
     apply Wl
     intro i
     rw[Yd,Wb,List.getElem?_set]
     by_cases eM:j=i
     ·subst eM
      have Y6:j<ents.toList.length:=by
       rcases Un j ents.toList.length with h|h
       ·exact h
       ·rw[YF h] at q2;cases q2
      have hej:ents[j]? =some mm:=by rw[<-Yd];exact q2
      rw[if_pos rfl,if_pos rfl,if_pos Y6,hej];rfl
     ·rw[if_neg eM,if_neg eM,Yd]
    rw[e2]
    exact YE.set (a:=⟨YN P k tm,YN P x tm,a.born⟩) (m:={mm with key:=ρ k,val:=ρ x}) ⟨hρ k,hρ x,q3.2.2⟩ j hr
theorem Hs(hs:Wh P σ H w)(hρ:Rp P σ tm ρ){o:Oper}{t:TypeId}{m k x:Operand}(ho:o.op=.mapUpdate t m k x∨o.op=.insert t m k x):Xm P σ H w tm ρ o:=by
 have hex: ∀w',(Instr.mapUpdate t (ρ m) (ρ k) (ρ x)).run P w=.ok () w'->(execOp ρ o).run P w=.ok .skip w':=by
  intro w' h
  rcases ho with ho|ho<;>simp[execOp,ho,h]
 have key:Y2 P σ H w ((execOp ρ o).run P w) (VD P t (λd=>match d with|.map kt _=>VD P kt<|dB λeq=>MY eq (YN P m) (YN P k) (YN P x)|_=>VC) tm H):=by
  refine Xb λd hu=>?_
  cases d<;>try exact trivial
  case map kt e=>exact zb λkd eq hk=>vP hs hρ hu hk hex
 unfold Xm
 rcases ho with ho|ho
 ·rw[ho];exact key
 ·rw[ho];exact key
theorem cW(hs:Wh P σ H w)(hρ:Rp P σ tm ρ){o:Oper}{t:TypeId}{x:Operand}(ho:o.op=.range t x):Xm P σ H w tm ρ o:=by
 unfold Xm;rw[ho]
 refine Xb λd hu=>?_
 have g:=hρ x
 have hex: ∀{v:Value} {w':World},(Instr.range t (ρ x)).run P w=.ok v w'->(execOp ρ o).run P w=.ok (.value v) w':=λh=>by
  simp only[execOp,ho];exact WT h
 cases d<;>try exact trivial
 case string=>
  refine PJ λs hx=>?_
  rw[hx] at g
  refine Vp (Tr.alloc hs (.siter s 0) (.stringIter ⟨s.toArray⟩ 0) ⟨w.heap.size,0,0,1⟩ rfl ⟨rfl,rfl⟩) (hex ?_) (Jf rfl)
  rw[VU g]
  simp[Instr.range,run_underlying hu]
 case map kt e=>
  refine IV (λhx=>?_) λb hx=>OY λob Gs=>?_
  ·rw[hx] at g
   refine Vp (Tr.alloc hs (.miter none 0 none) (.mapIter none 0 #[] 0) ⟨w.heap.size,0,0,1⟩ rfl ⟨#[],0,rfl,(λ_ h=>by cases h),rfl,rfl,rfl⟩) (hex ?_) (Jf rfl)
   rw[PW g]
   simp[Instr.range,run_underlying hu]
  ·rw[hx] at g
   obtain⟨l,hl,e1⟩:=Je g
   cases ob<;>try exact trivial
   case map es clock=>
    obtain⟨c,hc,Eh⟩:=hs.alive b _ l Gs hl
    obtain⟨ents,rfl,hr,_⟩:=Eh
    have Y6:=hs.dom b l hl
    have Al:(σ.put H.nx ⟨w.heap.size,0,0,1⟩) b=some l:=by rw[Mp.put_old (by omega)];exact hl
    refine Vp (Tr.alloc hs (.miter (some b) clock none) (.mapIter (some l.blk) clock #[] clock) ⟨w.heap.size,0,0,1⟩ rfl ⟨#[],clock,?_,?_,rfl,rfl,rfl⟩) (hex ?_) (Jf rfl)
    ·simp[Al]
    ·intro b' B3;cases B3;rw[Al];rfl
    ·rw[e1]
     simp[Instr.range,run_underlying hu,QS hc]
theorem tq{b:Nat}{s:ByteArray}{c:Nat}(h:w.heap[b]? =some (.stringIter s c)):(getObj b).run P w=.ok (.stringIter s c) w:=by simp[getObj,Sem.run,h]
theorem Bc{b:Nat}{m:Option Nat}{a:Nat}{s:Array Nat}{c:Nat}(h:w.heap[b]? =some (.mapIter m a s c)):(getObj b).run P w=.ok (.mapIter m a s c) w:=by simp[getObj,Sem.run,h]
theorem Av{g:Nat}{s:ByteArray}{c:Nat}(ob:Go.Obj)(h:w.heap[g]? =some (.stringIter s c)): ∃w',(setObj g ob).run P w=.ok () w'∧AB w w' g ob:=by
 refine⟨{w with heap:=w.heap.setIfInBounds g ob},by simp[setObj,Sem.run,h],⟨by simp,?_,λk hk=>?_,rfl,rfl,rfl⟩⟩
 ·have:g<w.heap.size:=(ZW.1 h).1
  simp[this]
 ·simp only[Xh]
  rw[if_neg (λe=>hk e.symm)]
theorem ZcX(hs:Wh P σ H w)(hρ:Rp P σ tm ρ){o:Oper}{x:Operand}{b:Bool}(ho:o.op=.next x b):Xm P σ H w tm ρ o:=by
 unfold Xm;rw[ho]
 refine Wq (λhb=>?_) λ_=>T0
 subst hb
 have g:=hρ x
 refine QC λb off hx=>Yn λh0=>Yn λYL=>OY λob Gs=>?_
 rw[hx] at g
 obtain⟨l,hl,e1⟩:=Ug g
 rw[Ym] at h0
 have h0:off=0:=Zn h0
 subst h0
 cases ob<;>try exact trivial
 case siter s pos=>
  have Dr:Wr H b:=⟨ZN YL,_,Gs,(λr h=>by cases h),λh=>by cases h⟩
  obtain⟨c,hc,Eh⟩:=hs.alive b _ l Gs hl
  obtain⟨rfl,Cz⟩:=Eh
  rw[Cz] at e1
  have hex: ∀{v:Value} {w':World},(Instr.next (ρ x) true o.type).run P w=.ok v w'->(execOp ρ o).run P w=.ok (.value v) w':=λh=>by
   simp only[execOp,ho];exact WT h
  have hsz:(ByteArray.mk s.toArray).size=s.length:=NE s
  refine Ux (λY6=>?_) λY6=>?_
  ·rw[Y5,YC] at Y6
   have Y6:pos<s.length:=Zn Y6
   cases ZfW:Utf8.decode ⟨s.toArray⟩ pos with
   |mk ch wd=>
   obtain⟨w',YX,hw⟩:=Av (P:=P) (.stringIter ⟨s.toArray⟩ (pos+wd)) hc
   refine Vp (Tr.write hs Gs hl Dr hw.size hw.new hw.old ⟨rfl,Cz⟩ hw.tape hw.os hw.out) (x:=.tuple #[.bool true,goInt pos,.int .i32 ch]) (hex ?_) ?_
   ·rw[e1]
    simp only[Instr.next,Zt,Sem.run_bind,tq hc,Result.andThen_ok,hsz,if_pos Y6,ZfW,YX,Sem.run_pure]
   ·simp only[Ys]
    exact⟨[.bool true,goInt pos,.int .i32 ch],WC (by simp[Ys]) (WC (by simp[Ys,goInt]) (T7 (by simp[Ys]))),rfl⟩
  ·rw[Y5,YC] at Y6
   have Y6: ¬(pos<s.length):=of_decide_eq_false Y6
   refine Yh hs (x:=.tuple #[.bool false]) (hex ?_) ?_
   ·rw[e1]
    simp only[Instr.next,Zt,Sem.run_bind,tq hc,Result.andThen_ok,hsz,if_neg Y6,Sem.run_pure]
   ·simp only[Ys]
    exact⟨[.bool false],T7 (by simp[Ys]),rfl⟩
theorem za{r:Result Next}{n:Nat}{k:RH->OR}: ∀(es:List RH) (l:List MapEntry),YE σ es l->(∀a m,NI σ a m->l.find? (·.born==n)=some m->Y2 P σ H w r (k a))->Y2 P σ H w r (xj n k es)
 |[],l,h,g=>trivial
 |a::es,l,h,g=>by
  obtain⟨m,ms,h1,h2,rfl⟩:=h.cons_inv
  refine Ux (λhe=>g a m h1 ?_) λhe=>za es ms h2 λa' m' h3 h4=>g a' m' h3 ?_
  ·rw[Ym] at he
   have he:a.born=n:=Zn he
   rw[List.find?_cons_of_pos (by simp[<-h1.2.2,he])]
  ·rw[Ym] at he
   have he: ¬a.born=n:=of_decide_eq_false he
   rw[List.find?_cons_of_neg (by simp[<-h1.2.2,he])]
   exact h4
theorem cR(hs:Wh P σ H w)(hρ:Rp P σ tm ρ){o:Oper}{x:Operand}(ho:o.op=.entry x):Xm P σ H w tm ρ o:=by
 unfold Xm;rw[ho]
 have g:=hρ x
 refine QC λb off hx=>Yn λh0=>OY λob Gs=>?_
 rw[hx] at g
 obtain⟨l,hl,e1⟩:=Ug g
 rw[Ym] at h0
 have h0:off=0:=Zn h0
 subst h0
 show Y2 P σ H w _ (yW ob _)
 unfold yW
 split
 ·rename_i m since n st
  obtain⟨c,hc,Eh⟩:=hs.alive b _ l Gs hl
  obtain⟨seen,st',rfl,hm,Cz,zr,rfl⟩:=Eh
  rw[Cz] at e1
  refine OY λom hom=>?_
  cases om<;>try exact trivial
  case map es clock=>
   refine Yn λhcl=>?_
   rw[Ym] at hcl
   have hcl:clock=st':=Zn hcl
   subst hcl
   obtain⟨lm,zw⟩:=Vo.1 (hm m rfl)
   obtain⟨cm,hcm,Zoh⟩:=hs.alive m _ lm hom zw
   obtain⟨ents,rfl,hr,_⟩:=Zoh
   refine za es ents.toList hr λa me hae hf=>?_
   refine Yh hs (x:=.tuple #[me.key,me.val]) ?_ ?_
   ·simp only[execOp,ho]
    refine WT ?_
    rw[e1]
    have hf':ents.find? (λx=>x.born==n)=some me:=by rw[<-Array.find?_toList];exact hf
    simp only[Option.bind_some,zw,Wj] at hc
    simp only[Instr.entry,Zt,Sem.run_bind,Bc hc,Result.andThen_ok,zr,QS hcm,bne_self_eq_false,YO,if_false,hf',Sem.run_pure]
   ·simp only[Ys]
    exact⟨[me.key,me.val],WC hae.1 (T7 hae.2.1),rfl⟩
 ·trivial
theorem qR(hs:Wh P σ H w)(hρ:Rp P σ tm ρ){o:Oper}{x:Operand}{xt t:TypeId}{ok:Bool}(ho:o.op=.typeAssert x xt t ok):Xm P σ H w tm ρ o:=by
 unfold Xm;rw[ho]
 refine XD λi hi=>Ud λz hz=>Xb λd hu=>?_
 have g:=hρ x
 have hex: ∀{v:Value} {w':World},(Instr.typeAssert (ρ x) xt t ok).run P w=.ok v w'->(execOp ρ o).run P w=.ok (.value v) w':=λh=>by
  simp only[execOp,ho];exact WT h
 have nh:=T8 (w:=w) hi hz
 have no:(∀(h:ok=true),(Instr.typeAssert (ρ x) xt t ok).run P w=.ok (.tuple #[z,.bool false]) w)->Y2 P σ H w ((execOp ρ o).run P w) (S7 (Wx z) ok H none):=by
  intro h
  cases ok with
  |false=>exact trivial
  |true=>
   refine Yh hs (hex (h rfl)) ?_
   simp only[Ys]
   exact⟨[z,.bool false],WC (Pb σ z) (T7 (by simp[Ys])),rfl⟩
 have yes: ∀{a:AV} {v:Value},Ys σ a v->(Instr.typeAssert (ρ x) xt t ok).run P w=.ok (if ok then .tuple #[v,.bool true] else v) w->Y2 P σ H w ((execOp ρ o).run P w) (S7 (Wx z) ok H (some a)):=by
  intro a v ha h
  cases ok with
  |false=>exact Yh hs (hex h) ha
  |true=>
   refine Yh hs (hex h) ?_
   simp only[Ys]
   exact⟨[v,.bool true],WC ha (T7 (by simp[Ys])),rfl⟩
 by_cases hd: ∃ms,d=.interface ms
 ·obtain⟨ms,rfl⟩:=hd
  show Y2 P σ H w _ (uE (YN P x) P (Zcx P t) (Wx z) ok tm H)
  have hms:Zcx P t=ms:=by unfold Zcx;rw[hu]
  rw[hms]
  refine OX (λhx=>?_) λu v hx=>Ql λiu hiu=>?_
  ·rw[hx] at g
   have g:=QR g
   refine no λh=>?_
   rw[g]
   simp[Instr.typeAssert,run_underlying hu,h,nh]
  ·rw[hx] at g
   obtain⟨y,hy,e1⟩:=Tw g
   have iY:(typeInfo u).run P w=.ok iu w:=by simp[typeInfo,hiu]
   cases xw:Instr.missingMethod ms iu.methods with
   |none=>
    refine yes (v:=ρ x) (by rw[<-hx];exact hρ x) ?_
    rw[e1]
    simp[Instr.typeAssert,run_underlying hu,iY,xw]
   |some m=>
    refine no λh=>?_
    rw[e1]
    simp[Instr.typeAssert,run_underlying hu,iY,xw,h,nh]
 ·have hd: ∀ms,d≠.interface ms:=λms h=>hd ⟨ms,h⟩
  have key:Y2 P σ H w ((execOp ρ o).run P w) (QM (YN P x) t (Wx z) ok tm H):=by
   refine OX (λhx=>?_) λu v hx=>?_
   ·rw[hx] at g
    have g:=QR g
    refine no λh=>?_
    rw[g]
    cases d<;>first
     |exact absurd rfl (hd _)
     |simp[Instr.typeAssert,run_underlying hu,h,nh]
   ·rw[hx] at g
    obtain⟨y,hy,e1⟩:=Tw g
    rw[Ym]
    by_cases hut:u=t
    ·rw[Ze hut]
     refine yes hy ?_
     rw[e1]
     cases d<;>first
      |exact absurd rfl (hd _)
      |simp[Instr.typeAssert,run_underlying hu,hut]
    ·rw[Za hut]
     refine no λh=>?_
     rw[e1]
     cases d<;>first
      |exact absurd rfl (hd _)
      |simp[Instr.typeAssert,run_underlying hu,hut,h,nh]
  cases d<;>first
   |exact absurd rfl (hd _)
   |exact key
theorem yd(hρ:Rp P σ tm ρ)(l:Array Operand):YM σ (evs tm (args P l)) (l.map ρ).toList:=by
 have:=KG hρ l.toList
 unfold args
 simpa using this
theorem J2{r:Result Next}{f:Nat}{as:List AV}{vs:List Value}(hr:YM σ as vs)(h:r=(callFunc f ⟨vs⟩).run P w):Y2 P σ H w r (.oth (.call f as H)):=⟨rfl,vs,hr,h⟩
theorem xo{r:Result Next}{name:String}{u:Nat}{k:Nat->OR}
  (h: ∀g,(∀(n:Nat) (v:Value),(method (n+1) u v name).run P w=.ok (g,v) w)->Y2 P σ H w r (k g)):Y2 P σ H w r (Hh P name u k):=by
 refine Ql λi hi=>Ql λm hm=>Yn λhp=>?_
 have iY:(typeInfo u).run P w=.ok i w:=by simp[typeInfo,hi]
 have hpl:m.path.toList=[]:=by
  have:m.path= #[]:=by simpa using hp
  rw[this]
 cases hf:m.func with
 |none=>exact trivial
 |some q=>
  obtain⟨g,ptr⟩:=q
  show Y2 P σ H w r (match P.underlying u with
   |some (.pointer _)=>ZL ptr (k g)
   |some _=>cond ptr .fail (k g)
   |none=>.fail)
  cases hu:P.underlying u with
  |none=>exact trivial
  |some d=>
   have base: ∀(n:Nat) (v:Value),(method (n+1) u v name).run P w=(do pure (g,<-receiverAt u (.val v) ptr (if m.path.isEmpty then some ((name.splitOn ".").getLastD name) else none)):Sem (FuncId×Value)).run P w:=by
    intro n v
    simp only[method,Sem.run_bind,iY,Result.andThen_ok,hm,hpl,follow,Sem.run_pure,hf]
   cases d<;>first
    |(refine Yn λZom=>h g λn v=>?_
      subst Zom
      rw[base]
      simp[receiverAt,run_underlying hu,Place.get]
      done)
    |(cases ptr with
      |true=>exact trivial
      |false=>
       refine h g λn v=>?_
       rw[base]
       simp[receiverAt,run_underlying hu,Place.get])
theorem Bb{name:String}{u g:Nat}{v:Value}{args:Array Value}(h: ∀(n:Nat) (v:Value),(method (n+1) u v name).run P w=.ok (g,v) w):(callMethod (.iface u v) name args).run P w=(callFunc g (#[v]++args)).run P w:=by
 have:(P.types.size+Made.depth)=(P.types.size+Made.depth - 1)+1:=by
  have:0<Made.depth:=by decide
  omega
 simp only[callMethod,Sem.run_bind,run_program,Result.andThen_ok]
 rw[this,h]
 rfl
theorem F1{r:Result Next}{n:String}{u:Nat}{a:AV}{x:Value}{as:List AV}{vs:List Value}(ha:Ys σ a x)(hr:YM σ as vs)(h:r=(callMethod (.iface u x) n ⟨vs⟩).run P w):
  Y2 P σ H w r (Hh P n u λg=>.oth (.call g (a::as) H)):=by
 refine xo λg hm=>J2 (vs:=x::vs) (WC ha hr) ?_
 rw[h,Bb hm]
 congr 2
 apply Array.ext'
 simp
theorem El(name:String)(cap:Array Value)(r:Value)(as:Array Value):invoke (.fn (.method name) cap) (#[r]++as)=callMethod r name ⟨as.toList⟩:=by
 have h1:(#[r]++as)[0]? =some r:=by rw[Array.getElem?_append_left (by simp)];rfl
 have h2:(#[r]++as).extract 1 (#[r]++as).size=⟨as.toList⟩:=by
  apply Array.ext'
  simp[WA]
 simp only[invoke,h1,h2]
theorem ZcR(hs:Wh P σ H w)(hρ:Rp P σ tm ρ){o:Oper}{c:Call}(ho:o.op=.call c)(hb: ∀b,c.callee≠.builtin b):Xm P σ H w tm ρ o:=by
 unfold Xm;rw[ho]
 have Cy:=yd hρ c.args
 have hex:(execOp ρ o).run P w=(do let d<-resolve ρ c o.type;invoke d.target d.args:Sem Next).run P w:=by simp only[execOp,ho]
 rw[hex]
 show Y2 P σ H w _ (gQ P c tm H)
 unfold gQ
 cases hc:c.callee with
 |builtin b=>exact absurd hc (hb b)
 |invoke rv name=>
  have g:=hρ rv
  refine OX (λ_=>trivial) λu a hx=>?_
  rw[hx] at g
  obtain⟨x,hx',e1⟩:=Tw g
  refine F1 hx' Cy ?_
  simp only[resolve,hc,Sem.run_bind,Sem.run_pure,Result.andThen_ok,El,e1]
 |value f=>
  have gen:Y2 P σ H w ((do let d<-resolve ρ c o.type;invoke d.target d.args:Sem Next).run P w) (R2 (YN P f) P (args P c.args) tm H):=by
   have g:=hρ f
   unfold R2
   split
   ·rename_i fn a b hx
    rw[hx] at g
    obtain⟨x,y,h1,h2,e1⟩:=Mj g
    refine J2 (h1.append (Cy.append h2)) ?_
    simp only[resolve,hc,e1,Deferred.ofValue,Sem.run_bind,Sem.run_pure,Result.andThen_ok,invoke]
    congr 2
    apply Array.ext'
    simp
   ·rename_i n rv hx
    rw[hx] at g
    simp only[Ys] at g
    obtain⟨x,h1,e1⟩:=g
    refine OX (λ_=>trivial) λu a hrv=>?_
    rw[hrv] at h1
    obtain⟨y,hy,e2⟩:=Tw h1
    refine F1 hy Cy ?_
    simp only[resolve,hc,e1,Deferred.ofValue,Sem.run_bind,Sem.run_pure,Result.andThen_ok,e2]
    exact congrArg (λs=>s.run P w) (El n #[] (.iface u y) (Array.map ρ c.args))
   ·rename_i b hx
    rw[hx] at g
    simp only[Ys] at g
    obtain⟨l,hl,e1⟩:=g
    refine⟨rfl,l,_,hl,Cy,?_⟩
    simp only[resolve,hc,e1,Deferred.ofValue,Sem.run_bind,Sem.run_pure,Result.andThen_ok,invoke]
    congr 2
    apply Array.ext'
    simp
   ·trivial
  cases f with
  |func fn=>
   have g:=hρ (.func fn)
   have g:Ys σ (.func fn [] []) (ρ (.func fn)):=g
   obtain⟨x,y,h1,h2,e1⟩:=Mj g
   have h1:=h1.nil_inv
   have h2:=h2.nil_inv
   subst h1;subst h2
   refine J2 Cy ?_
   simp only[resolve,hc,e1,Deferred.ofValue,Sem.run_bind,Sem.run_pure,Result.andThen_ok,invoke]
   congr 2
   apply Array.ext'
   simp
  |tmp t=>exact gen
  |const v=>exact gen
  |global v=>exact gen
theorem Cc{r:Result Next}{a:AV}{x:Value}(ha:Ys σ a x)(h: ∀v,(Instr.panic x).run P w=.halt v w->r=.halt v w):Y2 P σ H w r (QN a .fail λ_ _=>.oth (.pan a H)):=by
 refine OX (λ_=>trivial) λu b hx=>?_
 rw[hx] at ha
 obtain⟨y,hy,e1⟩:=Tw ha
 refine⟨rfl,x,by rw[hx];exact ha,h _ ?_⟩
 rw[e1]
 rfl
theorem cV(hs:Wh P σ H w)(hρ:Rp P σ tm ρ){o:Oper}{x:Operand}(ho:o.op=.panic x):Xm P σ H w tm ρ o:=by
 unfold Xm;rw[ho]
 refine Cc (hρ x) λv h=>?_
 simp only[execOp,ho]
 simp[h]
theorem jz(hs:Wh P σ H w)(hρ:Rp P σ tm ρ){o:Oper}{xs:List Operand}{ts:List TypeId}(ho:o.op=.call ⟨.builtin .panic,⟨xs⟩,⟨ts⟩⟩):Xm P σ H w tm ρ o:=by
 refine UQ ho λcs=>?_
 rcases xs with _|⟨x,_|⟨_,_⟩⟩<;>try exact trivial
 refine Cc (hρ x) λv h=>?_
 show((do pure (Next.value (<-Instr.panic (ρ x)))):Sem Next).run P w=_
 simp[h]
theorem qX(hs:Wh P σ H w)(hρ:Rp P σ tm ρ){o:Oper}{xs:List Operand}{ts:List TypeId}(ho:o.op=.call ⟨.builtin .recover,⟨xs⟩,⟨ts⟩⟩):Xm P σ H w tm ρ o:=by
 refine UQ ho λcs=>?_
 rfl
theorem cQ(hs:Wh P σ H w)(hρ:Rp P σ tm ρ){o:Oper}{c:Call}(ho:o.op=.defer c):Xm P σ H w tm ρ o:=by
 unfold Xm;rw[ho]
 show Y2 P σ H w _ ((match c.callee with|.value f=>Ff (YN P f) (args P c.args)|_=>VC) tm H)
 cases hc:c.callee with
 |builtin b=>exact trivial
 |invoke rv name=>exact trivial
 |value f=>
  intro g a b hx
  have g1:=hρ f
  rw[hx] at g1
  obtain⟨x,y,h1,h2,e1⟩:=Mj g1
  refine⟨x,_,y,h1,yd hρ c.args,h2,?_⟩
  simp only[execOp,ho,resolve,hc,e1,Deferred.ofValue,Sem.run_bind,Sem.run_pure,Result.andThen_ok]
  congr 3
  apply Array.ext'
  simp
theorem N1(hs:Wh P σ H w)(hρ:Rp P σ tm ρ)(o:Oper):Xm P σ H w tm ρ o:=by
 cases ho:o.op with
 |move x=>exact ZcW hs hρ ho
 |assign x=>exact jt hs hρ ho
 |pick c a b=>exact ZcY hs hρ ho
 |alloc t=>exact cO hs ho
 |box t x=>exact ZgE hs hρ ho
 |build t ps=>exact cP hs hρ ho
 |buildSlice t n ps=>exact ju hs hρ ho
 |load t a=>exact ZcU hs hρ ho
 |store t a x=>exact cY hs hρ ho
 |nilCheck x=>exact ZgO hs hρ ho
 |binOp op t x y u=>cases op with
  |add=>exact ZgD hs hρ ho
  |sub=>exact ZgT hs hρ ho
  |mul=>exact ZgM hs hρ ho
  |quo=>exact ZgP hs hρ ho
  |rem=>exact ZgQ hs hρ ho
  |and=>unfold Xm;have h:=Dy (f:=Sf) hs hρ ho (.inl ⟨rfl,rfl⟩);rw[ho];exact h
  |or=>unfold Xm;have h:=Dy (f:=Re) hs hρ ho (.inr (.inl ⟨rfl,rfl⟩));rw[ho];exact h
  |xor=>unfold Xm;have h:=Dy (f:=Zaf) hs hρ ho (.inr (.inr (.inl ⟨rfl,rfl⟩)));rw[ho];exact h
  |andNot=>unfold Xm;have h:=Dy (f:=Mv) hs hρ ho (.inr (.inr (.inr ⟨rfl,rfl⟩)));rw[ho];exact h
  |shl=>exact ZgR hs hρ ho
  |shr=>exact ZgS hs hρ ho
  |eql=>exact ZgG hs hρ ho
  |neq=>exact ZgN hs hρ ho
  |lss=>exact ZgL hs hρ ho
  |gtr=>exact ZgI hs hρ ho
  |leq=>exact ZgK hs hρ ho
  |geq=>exact ZgH hs hρ ho
 |unOp op t x=>exact ZkO hs hρ ho
 |convert s d x=>exact qS hs hρ ho
 |makeInterface t x=>
  unfold Xm;rw[ho]
  refine Xb λd hu=>?_
  have h:=λhd=>ZcV hs hρ ho hu hd
  cases d<;>first
   |exact trivial
   |exact h rfl
 |makeFunc fn a b=>exact jy hs hρ ho
 |makeMap t r=>exact qU hs ho
 |mapUpdate t m k x=>exact Hs hs hρ (.inl ho)
 |insert t m k x=>exact Hs hs hρ (.inr ho)
 |lookup t m k ok=>exact jx hs hρ ho
 |makeSlice t l c=>exact qV hs hρ ho
 |slice t x lo hi mx=>exact cX hs hρ ho
 |fieldAddr t x f=>exact x9 hs hρ ho
 |field t x f=>exact cT hs hρ ho
 |indexAddr t x i=>exact wa hs hρ ho
 |index t x i=>exact cU hs hρ ho
 |typeAssert x xt t ok=>exact qR hs hρ ho
 |extract x i=>exact qT hs hρ ho
 |call c=>
  by_cases hb: ∃b,c.callee=.builtin b
  ·obtain⟨b,hb⟩:=hb
   obtain⟨callee,⟨xs⟩,⟨ts⟩⟩:=c
   subst hb
   cases b with
   |append=>exact js hs hρ ho
   |copy=>exact ZcS hs hρ ho
   |len=>exact ZgJ hs hρ ho
   |cap=>exact ZgF hs hρ ho
   |min=>exact zZ (mx:=false) hs hρ ho
   |max=>exact zZ (mx:=true) hs hρ ho
   |unsafeString=>exact ZcZ hs hρ ho
   |unsafeSliceData=>exact jA hs hρ ho
   |panic=>exact jz hs hρ ho
   |recover=>exact qX hs hρ ho
   |_=>unfold Xm;rw[ho];exact trivial
  ·exact ZcR hs hρ ho λb h=>hb ⟨b,h⟩
 |defer c=>exact cQ hs hρ ho
 |panic x=>exact cV hs hρ ho
 |range t x=>exact cW hs hρ ho
 |next x b=>exact ZcX hs hρ ho
 |entry x=>exact cR hs hρ ho
 |_=>unfold Xm;rw[ho];exact trivial
end
end
end Go.AI
