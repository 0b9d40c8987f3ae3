/- Every operation of the interpreter's does what the model's does: proved for every world that is told. -/
import Derived.Test.YtdogcjobgcckbaaGreatDoorP2
import Derived.Laws.BytesString
import Derived.Laws.Append
import Derived.Laws.StructEq
set_option maxRecDepth 1000000
set_option maxHeartbeats 0
set_option linter.unusedVariables false
set_option linter.unusedSimpArgs false
namespace Go.AI
open Go
noncomputable section
section
variable {P:Program} {σ:Mp} {H:Heap} {w:World} {tm:TM} {ρ:Operand->Value}
theorem De: ∀s:List UInt8,FH s=s.map λb=>AV.int .u8 (.ofNat b.toNat)
 |[]=>rfl
 |b::s=>by simp[FH,De s]
theorem CV(σ:Mp): ∀s:List UInt8,YR σ (FH s) (s.map λb=>Value.int .u8 b.toNat)
 |[]=>V2
 |b::s=>Ww (by simp[Yn]) (CV σ s)
theorem vT(s:List UInt8): ∀v∈s.map (λb=>Value.int .u8 b.toNat),v.oneCell'=true:=by
 intro v hv
 obtain⟨b,_,rfl⟩:=YQ.1 hv
 rfl
def wC(n:Int):UInt8:=UInt8.ofNat n.toNat
theorem Lh{r:Result Next}{f:List UInt8->OR}: ∀(as:List AV) (vs:List Value),YR σ as vs->(∀ns:List Int,vs=ns.map (Value.int .u8)->Y5 P σ H w r (f (ns.map wC)))->Y5 P σ H w r (P6 f as)
 |[],vs,h,g=>g [] (by rw[h.nil_inv];rfl)
 |a::as,vs,h,g=>by
  obtain⟨v,vs',h1,h2,rfl⟩:=h.cons_inv
  unfold P6
  split
  ·rename_i n
   have h1:=X2 h1
   subst h1
   exact Lh as vs' h2 λns hs=>g (.ofNat n::ns) (by rw[hs];rfl)
  ·trivial
theorem Fs: ∀(ns:List Int) (s:ByteArray),ns.foldl (λr n=>r.push (UInt8.ofNat n.toNat)) s=⟨(s.data.toList++ns.map wC).toArray⟩
 |[],s=>by
  apply ByteArray.ext
  apply Array.ext'
  simp
 |n::ns,s=>by
  rw[Wf,Fs ns]
  simp[wC]
theorem Tr.drew(hs:WE P σ H w):Tr P σ H w σ H w.drew:=
 ⟨Ext.refl σ,⟨hs.dom,hs.low,hs.alive,hs.inj,hs.glob,hs.ro⟩,Zp _,λ_ _ _=>rfl,λb l hw hl _=>⟨b,l,hw,hl,rfl⟩,Zp _,rfl,λ_ _=>rfl,rfl,rfl,rfl,λ_ _ h=>⟨rfl,h⟩⟩
theorem WE.drew(hs:WE P σ H w):WE P σ H w.drew:=(Tr.drew hs).sim
theorem sR(w:World)(c:Array Value)(e n:Nat):(w.alloc (.cells c e)).freeze ⟨w.heap.size,n,none⟩ 1=w.alloc (.cells c e (n,n+1)):=by
 unfold World.freeze
 rw[if_neg (by decide)]
 have:(w.alloc (.cells c e)).heap.modify w.heap.size (λ
   |.cells c elem (lo,hi)=>.cells c elem (if lo==hi then(n,n+1) else(min lo n,max hi (n+1)))
   |o=>o)=(w.alloc (.cells c e (n,n+1))).heap:=by
  apply Array.ext_getElem?
  intro i
  rw[WB]
  by_cases h:w.heap.size=i
  ·subst h;rw[if_pos rfl,SM,SM];rfl
  ·rw[if_neg h]
   by_cases h2:i<w.heap.size
   ·rw[SN h2,SN h2]
   ·rw[Array.getElem?_eq_none (by simp;omega),Array.getElem?_eq_none (by simp;omega)]
 exact(congrArg (λhp=>({heap:=hp,tape:=w.tape,drawn:=w.drawn,os:=w.os,output:=w.output}:World)) this).trans rfl
theorem mf{w:World}{g n:Nat}{cs:Array Value}{t:TypeId}{fr:Nat×Nat}(h:w.heap[g]? =some (.cells cs t fr))(hf:fr.1=fr.2):
  Ay w (w.freeze ⟨g,n,none⟩ 1) g (.cells cs t (n,n+1)):=by
 obtain⟨a,b⟩:=fr
 simp only at hf
 subst hf
 refine⟨by simp[World.freeze],?_,λk hk=>?_,rfl,rfl,rfl⟩
 ·simp only[World.freeze,Nat.one_ne_zero,if_false,WB]
  rw[h];simp
 ·simp only[World.freeze,Nat.one_ne_zero,if_false,WB]
  rw[if_neg (λe=>hk e.symm)]
theorem Zgm{f:TypeId->Bool}{e count off n d:Nat}(h1:1<=P.cellsOf e)(h2:off % P.cellsOf e=0)(h3:off/P.cellsOf e+n<=count)(hf:f e=true):rowAt P f (d+1) e count off n=true:=by
 unfold rowAt
 have q4: ¬(P.cellsOf e=0):=by omega
 simp only[if_neg q4,h2,beq_self_eq_true,X9,hf,RU,Ze h3,QV]
theorem kU(d u:Nat):sameLayout P (d+1) u u=true:=by unfold sameLayout;simp
theorem og{e count off n:Nat}(h1:1<=P.cellsOf e)(h2:off % P.cellsOf e=0)(h3:off/P.cellsOf e+n<=count):liesAt P P.depth e count off e n=true:=by
 have hd: ∃d,P.depth=d+1:=⟨2*(P.types.size+Made.depth)+1,rfl⟩
 obtain⟨d,hd⟩:=hd
 rw[hd]
 unfold liesAt
 rw[hd,Zgm (f:=λx=>sameLayout P (d+1) x e) h1 h2 h3 (kU d e)]
 rfl
theorem IA(need old e:Nat)(w:World): ∃k,(choose (.appendCap need old e)).run P w=.ok (need+k) w.drew:=by
 refine⟨w.tape w.drawn (.appendCap need old e) % (2^63 - need),?_⟩
 simp[Question.forced,Question.cut]
theorem GL{w:World}{g:Nat}{cs:Array Value}{t:TypeId}{fr:Nat×Nat}(h:w.heap[g]? =some (.cells cs t fr)):w.shape? g=some (t,cs.size):=by
 unfold World.shape?;rw[h]
theorem r9(hs:WE P σ H w)(hρ:Rn P σ tm ρ){o:Oper}{s d:TypeId}{x:Operand}(ho:o.op=.convert s d x):XC P σ H w tm ρ o:=by
 unfold XC;rw[ho]
 refine Xq λds mJ=>Xq λdd hud=>?_
 have h1:=hρ x
 have hr: ∀{v:Value} {w':World},(convert s d (ρ x)).run P w=.ok v w'->(execOp ρ o).run P w=.ok (.value v) w':=λh=>by
  simp only[execOp,ho];exact Vc h
 show Y5 P σ H w _ (ZcW P s d (YV P x) ds dd tm H)
 cases ds<;>cases dd<;>try exact trivial
 case int.int k1 k=>
  refine RW λj n hx=>?_
  rw[hx] at h1
  have h1:=X2 h1
  refine Rt hs (hr ?_)
  rw[h1]
  simp[convert,run_underlying mJ,run_underlying hud,Conv.intToInt]
 case int.string k1=>
  refine RW λj n hx=>?_
  rw[hx] at h1
  have h1:=X2 h1
  refine Yc hs (x:=.string (Utf8.encode n)) (hr ?_) (by simp[Yn])
  rw[h1]
  simp[convert,run_underlying mJ,run_underlying hud,Conv.intToString]
 case string.string=>
  refine Oe λt hx=>?_
  rw[hx] at h1
  have h0:=h1
  have h1:=V3 h1
  refine Yc hs (x:=ρ x) (hr ?_) h0
  rw[h1]
  simp[convert,run_underlying mJ,run_underlying hud]
 case string.slice e=>
  refine Xq λde hue=>Cr λhde=>Oe λt hx=>?_
  subst hde
  rw[hx] at h1
  have h1:=V3 h1
  obtain⟨k,hk⟩:=IA (P:=P) t.length 0 e w
  have hrun:(execOp ρ o).run P w=.ok (.value (.slice (some ⟨w.heap.size,0,none⟩) t.length (t.length+k))) (w.drew.alloc (.cells ⟨t.map (λb=>Value.int .u8 b.toNat)++List.replicate k (.int .u8 0)⟩ e (t.length+k,t.length+k+1))):=by
   refine hr ?_
   rw[h1]
   simp only[convert,Sem.run_bind,run_underlying mJ,run_underlying hud,run_underlying hue,Result.andThen_ok,Conv.stringToBytes,Mh,hk]
   have hc:((t.toArray.map λb=>Value.int .u8 b.toNat)++Array.replicate (t.length+k - t.length) (Value.int .u8 0))=⟨t.map (λb=>Value.int .u8 b.toNat)++List.replicate k (.int .u8 0)⟩:=by
    apply Array.ext'
    simp
   simp only[hc,newRow,Sem.run_bind,run_newObj,Result.andThen_ok,World.alloc_eq,Sem.run_pure,markStringish,run_shape]
   have hsh:(w.drew.alloc (.cells ⟨t.map (λb=>Value.int .u8 b.toNat)++List.replicate k (.int .u8 0)⟩ e)).shape? w.drew.heap.size=some (e,t.length+k):=by
    unfold World.shape?
    rw[SM]
    simp
   simp only[hsh,run_freeze,Result.andThen_ok]
   rw[sR]
   rfl
  refine VN ((Tr.drew hs).trans (Tr.alloc hs.drew (.row ⟨e,1,YK t,T.ofList (FH t),.unk,0,true,true,false⟩) _ ⟨w.heap.size,0,t.length+k,1⟩ rfl ⟨_,_,rfl,?_⟩)) hrun ?_
  ·have hl:(FH t).length=t.length:=by rw[De];simp
   have:=I5 (σ:=σ.put H.nx ⟨w.heap.size,0,t.length+k,1⟩) (e:=e) (sz:=1) (tot:=t.length+k) (sm:=true) (exact:=false) (blk:=w.heap.size) (fr:=(t.length+k,t.length+k+1)) (rest:=List.replicate k (.int .u8 0)) (CV _ t)
    (λv hv=>by
     rcases Zr.1 hv with hv|hv
     ·exact vT t v hv
     ·rw[List.eq_of_mem_replicate hv];rfl) (Zp _) (by rw[hl];omega) (by simp) (λh=>by cases h) (by simp)
   have e1:YK (FH t)=YK t:=by rw[YF,YF,hl]
   rw[e1] at this
   exact this
  ·rw[YF];exact SA (l:=⟨w.heap.size,0,t.length+k,1⟩) rfl
 case slice.string e=>
  refine Xq λde hue=>Cr λhde=>?_
  subst hde
  refine HM (λhx=>?_) (Sq (λhx=>?_) λb off len cap hx=>Uo (λhn=>?_) λhn=>TC λr hr'=>Yj λhle=>?_)
  ·rw[hx] at h1
   obtain⟨a,h1⟩: ∃a,ρ x=.slice (some a) 0 0:=by simpa only[Yn] using h1
   refine Yc hs (x:=.string .empty) (hr ?_) (by simp only[Yn];rfl)
   rw[h1,run_convert_bytes_string w s d e _ _ _ mJ hue hud,run_bytesToString w _ _ _ [] (by rfl)]
   rfl
  ·rw[hx] at h1
   have h1:ρ x=.slice none 0 0:=by simpa only[Yn] using h1
   refine Yc hs (x:=.string .empty) (hr ?_) (by simp only[Yn];rfl)
   rw[h1,run_convert_bytes_string w s d e none 0 0 mJ hue hud]
   simp[Conv.bytesToString]
  ·rw[hx] at h1
   obtain⟨l,hl,e1⟩:=Uq h1
   rw[Yy] at hn
   have hn:len=0:=Zm hn
   refine Yc hs (x:=.string .empty) (hr ?_) (by simp only[Yn];rfl)
   rw[e1,run_convert_bytes_string w s d e _ _ _ mJ hue hud,run_bytesToString w _ _ _ [] (by rw[hn];rfl)]
   rfl
  ·rw[hx] at h1
   obtain⟨l,hl,e1⟩:=Uq h1
   obtain⟨cs,fr,hc,hrr⟩:=hs.row hr' hl
   rw[Xh] at hle
   have hle:off+len<=r.size:=Zm hle
   obtain⟨vs,h2,h3,h4,h5⟩:=PT hrr len off hle
   refine Lh _ vs h2 λns hns=>?_
   have hload:=Rg (P:=P) hc vs (o:=l.base+off) h4
   rw[h3,hns] at hload
   refine Yc hs (hr (v:=.string ⟨(ns.map wC).toArray⟩) ?_) (by simp[Yn])
   rw[e1,run_convert_bytes_string w s d e _ _ _ mJ hue hud,run_bytesToString w _ _ _ ns hload,Fs]
   simp
 case pointer.unsafePointer u=>
  refine XT λi hi=>WT (λh3=>?_) λ_=>T6
  rw[Xh] at h3
  have h3:1<=i.size:=Zm h3
  show Y5 P σ H w _ (zD (YV P x) tm H)
  unfold zD
  split
  ·rename_i hx
   rw[hx] at h1
   have h1:ρ x=.pointer none:=by simpa only[Yn] using h1
   refine Yc hs (x:=.pointer none) (hr ?_) (by simp[Yn])
   rw[h1]
   simp[convert,run_underlying mJ,run_underlying hud,Conv.unsafePointer]
  ·rename_i b off hx
   refine TC λr hr'=>Yj λhle=>?_
   rw[hx] at h1
   obtain⟨l,hl,e1⟩:=Uu h1
   obtain⟨cs,fr,hc,hrr⟩:=hs.row hr' hl
   rw[Xh] at hle
   have hle:off+1<=r.size:=Zm hle
   have q1:=hrr.fits
   have q2:=hrr.room
   refine Yc hs (hr ?_) (MW hl)
   rw[e1]
   have hsh:=GL hc
   simp only[convert,Sem.run_bind,run_underlying mJ,run_underlying hud,Result.andThen_ok,Conv.unsafePointer,Conv.seenAt,viewAt,run_shape,hsh,Option.isSome_some,if_true,Sem.run_pure,cellsIn,WD hi]
   have q3: ¬(l.base+off≥cs.size):=by omega
   have q4: ¬(i.size=0):=by omega
   simp[q3,q4]
  ·trivial
 case unsafePointer.pointer u=>
  refine XT λi hi=>WT (λh3=>?_) λ_=>T6
  rw[Xh] at h3
  have h3:1<=i.size:=Zm h3
  show Y5 P σ H w _ (zC (YV P x) u i.size tm H)
  unfold zC
  split
  ·rename_i hx
   rw[hx] at h1
   have h1:ρ x=.pointer none:=by simpa only[Yn] using h1
   refine Yc hs (x:=.pointer none) (hr ?_) (by simp[Yn])
   rw[h1]
   simp[convert,run_underlying mJ,run_underlying hud,Conv.unsafePointer]
  ·rename_i b off hx
   refine TC λr hr'=>Yj λhex=>Yj λhel=>Yj λh0=>Yj λhle=>?_
   rw[hx] at h1
   obtain⟨l,hl,e1⟩:=Uu h1
   obtain⟨cs,fr,hc,hrr⟩:=hs.row hr' hl
   rw[Xh] at hle
   rw[Yy] at hel h0
   have hle:i.size<=r.size:=Zm hle
   have hel:r.elem=u:=Zm hel
   have h0:off=0:=Zm h0
   obtain⟨x1,x2,x3⟩:=hrr.exact hex
   refine Yc hs (hr ?_) (MW hl)
   rw[e1]
   have hsh:=GL hc
   have q4: ¬(i.size=0):=by omega
   have hcell:P.cellsOf u=i.size:=by simp[Program.cellsOf,hi]
   have hlies:liesAt P P.depth r.elem (cs.size/P.cellsOf r.elem) (l.base+off) u 1=true:=by
    rw[hel,hcell,x2,h0]
    refine og (by rw[hcell];omega) (by rw[hcell];rfl) ?_
    rw[hcell,QY,Zd,Nat.le_div_iff_mul_le (by omega)];omega
   simp only[convert,Sem.run_bind,run_underlying mJ,run_underlying hud,Result.andThen_ok,Conv.unsafePointer,Conv.seenAt,viewAt,run_shape,hsh,Option.isSome_some,if_true,Sem.run_pure,WD hi,variablesAt,run_program,hlies]
   simp[hlies]
  ·trivial
 case slice.slice e1 e2=>
  refine WT (λhsd=>Xq λde hue=>Cr λhde=>?_) λ_=>T6
  subst hde
  rw[Yy] at hsd
  have hsd:s=d:=Zm hsd
  refine Sq (λ_=>trivial) λb off len cap hx=>TC λr hr'=>Yj λOI=>Yj λhfz=>?_
  have h0:=h1
  rw[hx] at h1
  obtain⟨l,hl,e3⟩:=Uq h1
  obtain⟨cs,fr,hc,hrr⟩:=hs.row hr' hl
  have zq:r.sm=false∧H.may r b=true:=by
   cases hsm:r.sm with
   |true=>rw[hsm] at OI;cases OI
   |false=>rw[hsm] at OI;exact⟨rfl,OI⟩
  obtain⟨hwr,hown⟩:=Wr.of_may zq.2 hr'
  rw[Yy] at hfz
  have hfz:r.fz=0:=Zm hfz
  have hfr:fr.1=fr.2:=by
   rcases hrr.frs hown zq.1 with h|h
   ·exact h
   ·omega
  have hrun:(execOp ρ o).run P w=.ok (.value (ρ x)) (w.freeze ⟨l.blk,cs.size,none⟩ 1):=by
   refine hr ?_
   rw[e3]
   have ZmQ:(s==d)=true:=by simp[hsd]
   have hsh:=GL hc
   simp only[convert,Sem.run_bind,run_underlying mJ,run_underlying hud,run_underlying hue,Result.andThen_ok,ZmQ,markStringish,run_shape,hsh,run_freeze,Sem.run_pure]
  have hfz':=mf (n:=cs.size) hc hfr
  refine VN (Tr.write hs hr' hl hwr hfz'.size hfz'.new hfz'.old ⟨cs,_,rfl,?_⟩ hfz'.tape hfz'.os hfz'.out) hrun (by rw[hx];rw[hx] at h0;exact h0)
  have q1:=hrr.room
  refine⟨hrr.sz,hrr.sz1,hrr.fits,hrr.room,hrr.exact,?_,hrr.one,?_,λ_ h=>by cases h⟩
  ·intro i hi
   exact hrr.cell i hi
  ·intro _ i _ hi
   simp only
   omega
theorem uC{o:Oper}{c:Call}{b:Builtin}(ho:o.op=.call c)(hc:c.callee=.builtin b):
  ∃cs,(execOp ρ o).run P w=(builtin b c.argTypes o.type cs (c.args.map ρ)).run P w:=by
 refine⟨c.args.map λ|.const _=>true|_=>false,?_⟩
 simp only[execOp,ho,resolve,hc,Sem.run_bind,Sem.run_pure,Result.andThen_ok,invoke]
 rfl
theorem UV{o:Oper}{xs:List Operand}{ts:List TypeId}{b:Builtin}(ho:o.op=.call ⟨.builtin b,⟨xs⟩,⟨ts⟩⟩)
  (h: ∀cs,Y5 P σ H w ((builtin b ⟨ts⟩ o.type cs ⟨xs.map ρ⟩).run P w) (j7 P b xs ts tm H)):XC P σ H w tm ρ o:=by
 unfold XC
 obtain⟨cs,h2⟩:=uC (P:=P) (w:=w) (ρ:=ρ) ho rfl
 rw[h2,ho]
 have h3:=h cs
 have e:Array.map ρ ⟨xs⟩=⟨xs.map ρ⟩:=by simp
 show Y5 P σ H w ((builtin b ⟨ts⟩ o.type cs (Array.map ρ ⟨xs⟩)).run P w) (j7 P b xs ts tm H)
 rw[e];exact h3
theorem Ef{r:Row}{l:Loc}{cs:Array Value}{fr:Nat×Nat}(hr:Ql σ r l cs fr)(hex:r.exact=true){o:Nat}(ho:o % l.sz=0):Te r o none=l.tot - o/l.sz:=by
 show cond (Nat.beq r.sz 1) (r.size - o) ((r.size - o)/r.sz)=_
 obtain⟨h1,_,_⟩:=hr.exact hex
 have h2:=hr.sz
 have h3:=hr.sz1
 have key:(r.size - o)/l.sz=l.tot - o/l.sz:=by
  have hd:=SX o l.sz
  rw[ho,Zg] at hd
  have e:r.size - o=(l.tot - o/l.sz)*l.sz:=by rw[Nat.sub_mul,<-h1,VW (o/l.sz),hd]
  rw[e,Nat.mul_div_cancel _ (by omega)]
 rw[Yy]
 by_cases e:r.sz=1
 ·rw[Ze e]
  have e2:l.sz=1:=by omega
  rw[e2] at key ⊢
  simpa using key
 ·rw[Zb e,<-h2];exact key
theorem Pp{b:Nat}{es:Array MapEntry}{c:Nat}(h:w.heap[b]? =some (.map es c)):(getObj b).run P w=.ok (.map es c) w:=by simp[getObj,Sem.run,h]
theorem Jj{t:TypeId}{x:Value}{d:TypeDesc}{y:Value}{cs:Array Bool}{ty:TypeId}(hu:P.underlying t=some d)(h:(Builtin.len_ #[t] ty #[x]).run P w=.ok y w):
  (builtin .len ⟨[t]⟩ ty cs ⟨[x]⟩).run P w=.ok (.value y) w:=Vc h
theorem Zf3(hs:WE P σ H w)(hρ:Rn P σ tm ρ){o:Oper}{xs:List Operand}{ts:List TypeId}(ho:o.op=.call ⟨.builtin .len,⟨xs⟩,⟨ts⟩⟩):XC P σ H w tm ρ o:=by
 refine UV ho λcs=>?_
 rcases xs with _|⟨x,_|⟨_,_⟩⟩<;>try exact trivial
 rcases ts with _|⟨t,_|⟨_,_⟩⟩<;>try exact trivial
 refine Xq λd hu=>?_
 have g:=hρ x
 cases d<;>try exact trivial
 case string=>
  refine Oe λs hx=>N7 ?_
  rw[hx] at g
  have g:=V3 g
  refine Yc hs (x:=.int .i64 s.length) (Jj hu ?_) (by rw[YF];simp[Yn])
  rw[g]
  simp[Builtin.len_,run_underlying hu,goInt,Mh]
 case slice e=>
  refine HM (λhx=>?_) (Sq (λhx=>?_) λb off n c hx=>N7 ?_)
  ·rw[hx] at g
   obtain⟨l,e1⟩: ∃l,ρ x=.slice (some l) 0 0:=by simpa only[Yn] using g
   refine Yc hs (x:=.int .i64 0) (Jj hu ?_) (by simp[Yn])
   rw[e1]
   simp[Builtin.len_,run_underlying hu,goInt]
  ·rw[hx] at g
   have g:ρ x=.slice none 0 0:=by simpa only[Yn] using g
   refine Yc hs (x:=.int .i64 0) (Jj hu ?_) (by simp[Yn])
   rw[g]
   simp[Builtin.len_,run_underlying hu,goInt]
  ·rw[hx] at g
   obtain⟨l,hl,e1⟩:=Uq g
   refine Yc hs (x:=.int .i64 n) (Jj hu ?_) (by simp[Yn])
   rw[e1]
   simp[Builtin.len_,run_underlying hu,goInt]
 case map kt e=>
  refine HL (λhx=>?_) λb hx=>No λob G7=>?_
  ·rw[hx] at g
   have g:ρ x=.map none:=by simpa only[Yn] using g
   refine Yc hs (x:=.int .i64 0) (Jj hu ?_) (by simp[Yn])
   rw[g]
   simp[Builtin.len_,run_underlying hu,goInt]
  ·rw[hx] at g
   have g: ∃l,σ b=some l∧ρ x=.map (some l.blk):=by simpa only[Yn] using g
   obtain⟨l,hl,e1⟩:=g
   cases ob<;>try exact trivial
   case map es clock=>
    obtain⟨c,hc,ho'⟩:=hs.alive b _ l G7 hl
    obtain⟨ents,rfl,hr,_⟩:=ho'
    have hlen:es.length=ents.size:=by
     have: ∀(es:List SR) (l:List MapEntry),Yz σ es l->es.length=l.length:=by
      intro es
      induction es with
      |nil=>intro l h;simp only[Yz] at h;subst h;rfl
      |cons a es ih=>intro l h;simp only[Yz] at h;obtain⟨e,es',_,h2,rfl⟩:=h;simp[ih _ h2]
     rw[this _ _ hr];simp
    refine Yc hs (x:=.int .i64 ents.size) (Jj hu ?_) (by rw[YF,hlen];simp[Yn])
    rw[e1]
    simp[Builtin.len_,run_underlying hu,goInt,Pp hc]
theorem ZfZ(hs:WE P σ H w)(hρ:Rn P σ tm ρ){o:Oper}{xs:List Operand}{ts:List TypeId}(ho:o.op=.call ⟨.builtin .cap,⟨xs⟩,⟨ts⟩⟩):XC P σ H w tm ρ o:=by
 refine UV ho λcs=>?_
 rcases xs with _|⟨x,_|⟨_,_⟩⟩<;>try exact trivial
 rcases ts with _|⟨t,_|⟨_,_⟩⟩<;>try exact trivial
 refine Xq λd hu=>?_
 have g:=hρ x
 have hr: ∀{y:Value},(Builtin.cap_ #[t] o.type #[ρ x]).run P w=.ok y w->(builtin .cap ⟨[t]⟩ o.type cs ⟨[ρ x]⟩).run P w=.ok (.value y) w:=λh=>Vc h
 cases d<;>try exact trivial
 case slice e=>
  refine Sq (λhx=>?_) λb off n c hx=>?_
  ·rw[hx] at g
   have g:ρ x=.slice none 0 0:=by simpa only[Yn] using g
   refine Yc hs (x:=.int .i64 0) (hr ?_) (by simp[Yn])
   rw[g]
   simp[Builtin.cap_,run_underlying hu,goInt]
  ·rw[hx] at g
   obtain⟨l,hl,e1⟩:=Uq g
   cases c with
   |some c=>
    refine Yc hs (x:=.int .i64 c) (hr ?_) (by simp[Yn])
    rw[e1]
    simp[Builtin.cap_,run_underlying hu,goInt]
   |none=>
    refine TC λr hr'=>Yj λhex=>Yj λhmod=>?_
    rw[Yy] at hmod
    have hmod:off % r.sz=0:=Zm hmod
    obtain⟨cs',fr,hc,hrr⟩:=hs.row hr' hl
    refine Yc hs (x:=.int .i64 (l.tot - off/l.sz:Nat)) (hr ?_) ?_
    ·rw[e1]
     simp[Builtin.cap_,run_underlying hu,goInt]
    ·simp only[Yn]
     congr 1
     have:=Ef hrr hex (o:=off) (by rw[hrr.sz];exact hmod)
     simp[this]
theorem ZcK(ts:Array TypeId)(t:TypeId)(n c:Nat):Builtin.unsafeSliceData_ ts t #[.slice none n c]=pure (.pointer none):=rfl
theorem ae(ts:Array TypeId)(t:TypeId)(a:Addr)(n c:Nat)(h:c≠0):(Builtin.unsafeSliceData_ ts t #[.slice (some a) n c]).run P w=.ok (.pointer (some a)) w:=by
 show(if c≠0 then pure (Value.pointer (some a)) else _:Sem Value).run P w=_
 rw[if_pos h];rfl
theorem kr(hs:WE P σ H w)(hρ:Rn P σ tm ρ){o:Oper}{xs:List Operand}{ts:List TypeId}(ho:o.op=.call ⟨.builtin .unsafeSliceData,⟨xs⟩,⟨ts⟩⟩):XC P σ H w tm ρ o:=by
 refine UV ho λcs=>?_
 rcases xs with _|⟨x,_|⟨_,_⟩⟩<;>try exact trivial
 have g:=hρ x
 refine Sq (λhx=>?_) λb off n c hx=>?_
 ·rw[hx] at g
  have g:ρ x=.slice none 0 0:=by simpa only[Yn] using g
  refine Yc hs (x:=.pointer none) ?_ (by simp[Yn])
  refine Vc ?_
  show(Builtin.unsafeSliceData_ ⟨ts⟩ o.type #[ρ x]).run P w=_
  rw[g]
  exact congrArg (λs=>s.run P w) (ZcK _ _ _ _)
 ·rw[hx] at g
  obtain⟨l,hl,e1⟩:=Uq g
  have fin:c.getD (l.tot - off/l.sz)≠0->Y5 P σ H w ((builtin .unsafeSliceData ⟨ts⟩ o.type cs ⟨[ρ x]⟩).run P w) (.val (.ptr b off) H):=λh=>by
   refine Yc hs ?_ (MW hl)
   refine Vc ?_
   show(Builtin.unsafeSliceData_ ⟨ts⟩ o.type #[ρ x]).run P w=_
   rw[e1]
   exact ae _ _ _ _ _ h
  cases c with
  |some c=>
   refine Yj λh=>fin ?_
   rw[Xh] at h
   have h:1<=c:=Zm h
   simp only[Option.getD_some];omega
  |none=>
   refine TC λr hr'=>Yj λh=>fin ?_
   obtain⟨cs',fr,hc,hrr⟩:=hs.row hr' hl
   rw[Xh] at h
   have h:off+1<=r.size:=Zm h
   have h1:=hrr.fits
   have h2:=hrr.sz1
   simp only[Option.getD_none]
   have:off/l.sz<l.tot:=by rw[Qo (by omega)];omega
   omega
def qS(v:AV)(m:Nat):Prop:=((v=.nils∨v=.slice0)∧m=0)∨(∃b o c,v=.slice b o m c)∨ ∃s,v=.str s∧m=s.length
theorem zb{r:Result Next}{v:AV}{k:Nat->OR}(h: ∀m,qS v m->Y5 P σ H w r (k m)):Y5 P σ H w r (xh v k):=by
 unfold xh
 split
 ·exact h 0 (.inl ⟨.inl rfl,rfl⟩)
 ·exact h 0 (.inl ⟨.inr rfl,rfl⟩)
 ·exact h _ (.inr (.inl ⟨_,_,_,rfl⟩))
 ·rw[YF];exact h _ (.inr (.inr ⟨_,rfl,rfl⟩))
 ·trivial
theorem zX{v:AV}{m:Nat}{x:Value}(h:qS v m)(hr:Yn σ v x)(w':World):(Builtin.lenOf x).run P w'=.ok m w':=by
 rcases h with⟨rfl|rfl,rfl⟩|⟨b,o,c,rfl⟩|⟨s,rfl,rfl⟩
 ·have:x=.slice none 0 0:=by simpa only[Yn] using hr
  rw[this];rfl
 ·obtain⟨a,this⟩: ∃a,x=.slice (some a) 0 0:=by simpa only[Yn] using hr
  rw[this];rfl
 ·obtain⟨l,_,rfl⟩:=Uq hr;rfl
 ·rw[V3 hr];simp[Builtin.lenOf,Mh]
structure ZcP(P:Program)(σ:Mp)(w:World)(sz n:Nat)(x:Value)(as:List AV)(vs:List Value):Prop where
 rel:YR σ as vs
 one: ∀u∈vs,u.oneCell'=true
 len:vs.length=n*sz
 run: ∀w':World,w'.heap=w.heap->(Builtin.firstCells sz n x).run P w'=.ok ⟨vs⟩ w'
theorem Ci{v:AV}{x:Value}(hx:Yn σ v x){sz m:Nat}(hm:qS v m):ZcP P σ w sz 0 x [] []:=by
 refine⟨V2,by simp,by simp,λw' _=>?_⟩
 rcases hm with⟨rfl|rfl,rfl⟩|⟨b,o,c,rfl⟩|⟨s,rfl,rfl⟩
 ·have:x=.slice none 0 0:=by simpa only[Yn] using hx
  rw[this];rfl
 ·obtain⟨a,this⟩: ∃a,x=.slice (some a) 0 0:=by simpa only[Yn] using hx
  rw[this];simp only[Builtin.firstCells,Vh];rfl
 ·obtain⟨l,_,rfl⟩:=Uq hx
  simp only[Builtin.firstCells,Vh];rfl
 ·rw[V3 hx]
  simp[Builtin.firstCells]
theorem JQ{r:Result Next}(hs:WE P σ H w){v:AV}{x:Value}(hx:Yn σ v x){sz n m:Nat}{k:List AV->OR}(hm:qS v m)(hn:n<=m)
  (h: ∀as vs,ZcP P σ w sz n x as vs->Y5 P σ H w r (k as)):Y5 P σ H w r (Vm H sz v n k):=by
 unfold Vm
 refine Uo (λh0=>?_) λ_=>?_
 ·rw[Yy] at h0
  have h0:n=0:=Zm h0
  subst h0
  exact h [] [] (Ci hx hm)
 ·rcases hm with⟨rfl|rfl,rfl⟩|⟨b,o,c,rfl⟩|⟨s,rfl,rfl⟩
  ·trivial
  ·trivial
  ·refine TC λrr hrr=>Yj λhle=>?_
   rw[Xh] at hle
   have hle:o+n*sz<=rr.size:=Zm hle
   obtain⟨l,hl,rfl⟩:=Uq hx
   obtain⟨cs,fr,hc,hrow⟩:=hs.row hrr hl
   obtain⟨vs,h2,h3,h4,h5⟩:=PT hrow (n*sz) o hle
   refine h _ vs ⟨h2,h5,h3,λw' hw=>?_⟩
   have hc':w'.heap[l.blk]? =some (.cells cs rr.elem fr):=by rw[hw];exact hc
   have:=Rg (P:=P) hc' vs (o:=l.base+o) h4
   rw[h3] at this
   exact this
  ·refine Yj λh1=>?_
   rw[Yy] at h1
   have h1:sz=1:=Zm h1
   subst h1
   rw[NN]
   refine h _ _ ⟨CV σ _,vT _,by simp;omega,λw' _=>?_⟩
   rw[V3 hx]
   simp only[Builtin.firstCells,Sem.run_pure,Result.ok.injEq,and_true]
   apply Array.ext'
   simp[W4]
theorem Zbv(a b:Nat):Lq a b=Nat.min a b:=by
 unfold Lq
 rw[Xh]
 by_cases h:a<=b
 ·rw[Ze h];exact(Wl h).symm
 ·rw[Zb h];exact(Tv (N1 (Nat.lt_of_not_le h))).symm
theorem ZbN(hs:WE P σ H w)(hρ:Rn P σ tm ρ){o:Oper}{xs:List Operand}{ts:List TypeId}(ho:o.op=.call ⟨.builtin .copy,⟨xs⟩,⟨ts⟩⟩):XC P σ H w tm ρ o:=by
 refine UV ho λcs=>?_
 rcases xs with _|⟨x,_|⟨y,_|⟨_,_⟩⟩⟩<;>try exact trivial
 rcases ts with _|⟨t,_|⟨t2,_|⟨_,_⟩⟩⟩<;>try exact trivial
 refine Xq λd hu=>N9 λe hd=>XT λi hi=>zb λsn hsn=>?_
 subst hd
 have g:=hρ x
 have step: ∀(base:Option Addr) (dn cp:Nat) (vs:List Value),ρ x=.slice base dn cp->(Builtin.firstCells i.size (Nat.min dn sn) (ρ y)).run P w=.ok ⟨vs⟩ w->
   (Builtin.copy_ ⟨[t,t2]⟩ o.type ⟨[ρ x,ρ y]⟩).run P w=(do (match base with|some a=>storeCells a vs|none=>pure ());pure (goInt (Nat.min dn sn)):Sem Value).run P w:=by
  intro base dn cp vs e1 hr
  have hl:=zX (P:=P) hsn (hρ y) w
  rw[show Nat.min dn sn=Nat.min sn dn from Nat.min_comm _ _] at hr ⊢
  simp only[Builtin.copy_,Wj,Ui,Tl,Sem.run_bind,run_underlying hu,Result.andThen_ok,e1,hl,WD hi,hr]
  cases base with
  |none=>rfl
  |some a=>simp
 refine Sq (λhx=>?_) λb off dn c hx=>N7 ?_
 ·rw[hx] at g
  have g:ρ x=.slice none 0 0:=by simpa only[Yn] using g
  refine Yc hs (x:=.int .i64 0) ?_ (by simp[Yn])
  refine Vc ?_
  refine(step none 0 0 [] g ?_).trans ?_
  ·rw[show Nat.min 0 sn=0 from Nat.zero_min sn]
   exact(Ci (w:=w) (hρ y) hsn).run w rfl
  ·rw[show Nat.min 0 sn=0 from Nat.zero_min sn];rfl
 ·rw[Zbv]
  have hmin:Nat.min dn sn<=sn:=Nat.min_le_right _ _
  rw[hx] at g
  obtain⟨l,hl,e1⟩:=Uq g
  refine JQ hs (hρ y) hsn hmin λas vs hf=>Uo (λh0=>?_) λh0=>TC λr hr=>Yj λOI=>Yj λhfz=>Yj λhle=>?_
  ·rw[Yy] at h0
   have h0:Nat.min dn sn=0:=Zm h0
   have hv:vs=[]:=by have:=hf.len;rw[h0,Vh] at this;exact YO.1 this
   refine Yc hs (x:=.int .i64 0) ?_ (by simp[Yn])
   refine Vc ?_
   refine(step _ _ _ vs e1 (hf.run w rfl)).trans ?_
   rw[hv,h0]
   simp[goInt,storeCells]
  ·rw[Xh] at hfz hle
   have hfz:r.fz<=off:=Zm hfz
   have hle:off+Nat.min dn sn*i.size<=r.size:=Zm hle
   obtain⟨w',hrun,htr⟩:=F1 hs hr hl OI hf.rel hf.one (o:=off) (by rw[hf.len];exact hle) hfz
   refine VN htr (x:=.int .i64 (Nat.min dn sn:Nat)) ?_ (by simp[Yn])
   refine Vc ?_
   refine(step _ _ _ vs e1 (hf.run w rfl)).trans ?_
   simp[hrun,goInt]
def app(e:TypeId)(i:TypeInfo)(z:Value)(base:Option Addr)(sLen sCap n:Nat)(news:Sem (Array Value)):Sem Value:=
 if sLen+n<=sCap then do
  let new<-news
  if let some a:=base then storeCells (a.add (sLen*i.size)) new.toList
  pure (.slice base (sLen+n) sCap)
 else do
  let newCap<-choose (.appendCap (sLen+n) sCap e)
  let old<-Builtin.firstCells i.size sLen (.slice base sLen sCap)
  let new<-news
  let a<-newRow e (old++new++Builtin.zeroCells z.cells (newCap - (sLen+n)))
  pure (.slice (some a) (sLen+n) newCap)
def oq(i:TypeInfo)(z:Value)(n:Nat):Sem (Array Value):=if n*i.size=0 then pure #[] else pure (Builtin.zeroCells z.cells n)
theorem Zco{t u ty e:TypeId}{i:TypeInfo}{z x:Value}{d:TypeDesc}(ht:P.underlying t=some (.slice e))(hu:P.underlying u=some d)(hd: ∀k,d≠.int k)(hi:P.info? e=some i)(hz:i.zero=some z)
  {base:Option Addr}{sLen sCap n:Nat}(hn:(Builtin.lenOf x).run P w=.ok n w)(hb:1<=i.bytes)(hfit:(sLen+n)*i.bytes<=140737488355328∨sLen+n<=sCap):
  (Builtin.append_ ⟨[t,u]⟩ ty ⟨[.slice base sLen sCap,x]⟩).run P w=(app e i z base sLen sCap n (Builtin.firstCells i.size n x)).run P w:=by
 unfold app
 simp only[Builtin.append_,Sem.run_bind,Wj,Ui,Tl,run_underlying ht,run_underlying hu,Result.andThen_ok,WD hi,Sem.run_pure,XA,if_false,hn,Y2,if_true]
 by_cases h:sLen+n<=sCap
 ·rw[if_pos h,if_pos h]
  simp only[Sem.run_bind]
  congr 1
 ·rw[if_neg h,if_neg h]
  have h5:sLen+n<=140737488355328:=by
   rcases hfit with h1|h1
   ·exact Z5 (SY _ hb) h1
   ·exact absurd h1 h
  have h3:Builtin.nextslicecap (sLen+n) sCap*i.bytes<=281474976710656:=growslice_fits (Nat.lt_of_not_le h) (by rcases hfit with h1|h1;exact h1;exact absurd h1 h)
  have h4: ¬(Builtin.nextslicecap (sLen+n) sCap*i.bytes>2^48):=Nat.not_lt.2 h3
  have h6: ¬(((sLen+n:Nat):Int)>IntKind.i64.max∧(False∨i.bytes=0)):=λq=>by
   rcases q.2 with q|q
   ·exact q
   ·rw[q] at hb;exact absurd hb (by decide)
  have hti: ∀w':World,(typeInfo e).run P w'=.ok i w':=λw'=>by simp[typeInfo,hi]
  have hzv: ∀w':World,(zeroValue e).run P w'=.ok z w':=λw'=>T9 hi hz
  simp only[Sem.run_bind,hti,hzv,run_askRoom,Result.andThen_ok,if_neg h6,if_neg h4,Sem.run_pure]
theorem cP{t u ty e:TypeId}{i:TypeInfo}{z:Value}{k k':IntKind}(ht:P.underlying t=some (.slice e))(hu:P.underlying u=some (.int k))(hi:P.info? e=some i)(hz:i.zero=some z)
  {base:Option Addr}{sLen sCap n:Nat}(hb:1<=i.bytes)(hn:n*i.bytes<=140737488355328)(hfit:(sLen+n)*i.bytes<=140737488355328∨sLen+n<=sCap):
  (Builtin.append_ ⟨[t,u]⟩ ty ⟨[.slice base sLen sCap,.int k' (n:Nat)]⟩).run P w=(app e i z base sLen sCap n (oq i z n)).run P w:=by
 unfold app oq
 have hn1:n<=140737488355328:=Z5 (SY _ hb) hn
 have hw:IntKind.i64.wrap (n:Int)=n:=by
  exact F9 (by omega) (by omega)
 have hti: ∀w':World,(typeInfo e).run P w'=.ok i w':=λw'=>by simp[typeInfo,hi]
 have hzv: ∀w':World,(zeroValue e).run P w'=.ok z w':=λw'=>T9 hi hz
 have q1: ¬((n:Int)<0):=by omega
 have q2: ¬((n:Int)*(i.bytes:Int)>2^48):=by
  have h7:((n*i.bytes:Nat):Int)<=((140737488355328:Nat):Int):=Int.ofNat_le.2 hn
  rw[Int.natCast_mul] at h7
  have h8:(2:Int)^48=281474976710656:=by decide
  rw[h8]
  omega
 simp only[Builtin.append_,Sem.run_bind,Wj,Ui,Tl,run_underlying ht,run_underlying hu,Result.andThen_ok,WD hi,Sem.run_pure,if_true,asInt,asIntOf,hw,if_neg q1,hti,if_neg q2,XX,Yq,XA,if_false]
 by_cases h:sLen+n<=sCap
 ·rw[if_pos h,if_pos h]
  simp only[Sem.run_bind]
  by_cases h0:n*i.size=0
  ·rw[if_pos h0,if_pos h0]
   cases base<;>rfl
  ·rw[if_neg h0,if_neg h0]
   simp only[Sem.run_bind,hzv,Result.andThen_ok,Sem.run_pure]
   cases base<;>rfl
 ·rw[if_neg h,if_neg h]
  have h5:sLen+n<=140737488355328:=by
   rcases hfit with h1|h1
   ·exact Z5 (SY _ hb) h1
   ·exact absurd h1 h
  have h3:Builtin.nextslicecap (sLen+n) sCap*i.bytes<=281474976710656:=growslice_fits (Nat.lt_of_not_le h) (by rcases hfit with h1|h1;exact h1;exact absurd h1 h)
  have h4: ¬(Builtin.nextslicecap (sLen+n) sCap*i.bytes>2^48):=Nat.not_lt.2 h3
  have h6: ¬(((sLen+n:Nat):Int)>IntKind.i64.max∧(True∨i.bytes=0)):=λq=>by
   have h7:=q.1
   have h8:IntKind.i64.max=9223372036854775807:=by decide
   rw[h8] at h7
   omega
  by_cases h0:n*i.size=0
  ·simp only[Sem.run_bind,hti,hzv,run_askRoom,Result.andThen_ok,if_neg h6,if_neg h4,Sem.run_pure,if_pos h0]
  ·simp only[Sem.run_bind,hti,hzv,run_askRoom,Result.andThen_ok,if_neg h6,if_neg h4,Sem.run_pure,if_neg h0]
theorem Tr.del(hs:WE P σ H w){b:Nat}{lb:Loc}(hlb:σ b=some lb)(hb:H.ro<=b):Tr P σ H w σ ⟨H.nx,H.t.del b,H.ro⟩ w:=by
 have g: ∀c o,(H.t.del b).get c=some o->H.t.get c=some o:=by
  intro c o h
  rw[T.get_del] at h
  by_cases e:b=c
  ·rw[if_pos e] at h;cases h
  ·rw[if_neg e] at h;exact h
 refine⟨Ext.refl σ,⟨hs.dom,λc o h=>hs.low c o (g c o h),λc o l h hl=>hs.alive c o l (g c o h) hl,λc c' o o' l l' h h'=>hs.inj c c' o o' l l' (g _ _ h) (g _ _ h'),hs.glob,hs.ro⟩,Zp _,λ_ _ _=>rfl,?_,Zp _,rfl,?_,rfl,rfl,rfl,λc _ hn=>⟨by show(H.t.del b).get c=H.t.get c;rw[T.get_del,if_neg (λe=>by subst e;rw[hlb] at hn;cases hn)],hn⟩⟩
 ·intro c l hw hl _
  obtain⟨h1,o,h2,h3⟩:=hw
  exact⟨c,l,⟨h1,o,g c o h2,h3⟩,hl,rfl⟩
 ·intro c hc
  show(H.t.del b).get c=H.t.get c
  have hc:c<H.ro:=hc
  rw[T.get_del,if_neg (by omega)]
theorem Tr.move{w':World}(h:WE P σ H w){b:Nat}{o o':Obj}{l:Loc}{c':Go.Obj}
  (hb:H.t.get b=some o)(hl:σ b=some l)(hw:Wr H b)
  (hsize:w'.heap.size=w.heap.size)(hnew:w'.heap[l.blk]? =some c')(hold: ∀k,k≠l.blk->w'.heap[k]? =w.heap[k]?)
  (ho:UL (σ.put H.nx l) o' l c')(ht:w'.tape=w.tape)(hos:w'.os=w.os)(hout:w'.output=w.output):
  Tr P σ H w (σ.put H.nx l) ⟨Nat.succ H.nx,(H.t.del b).set H.nx o',H.ro⟩ w':=by
 have hlt:b<H.nx:=h.dom b l hl
 have hro:=h.ro
 have CJ:Ext σ (σ.put H.nx l):=Mp.put_ext l (h.fresh (Zp _))
 have get: ∀c x,((H.t.del b).set H.nx o').get c=some x->(c=H.nx∧x=o')∨(c≠H.nx∧c≠b∧H.t.get c=some x):=by
  intro c x hx
  rw[T.get_set] at hx
  by_cases e:H.nx=c
  ·rw[if_pos e] at hx;cases hx;exact .inl ⟨e.symm,rfl⟩
  ·rw[if_neg e,T.get_del] at hx
   by_cases e2:b=c
   ·rw[if_pos e2] at hx;cases hx
   ·rw[if_neg e2] at hx;exact .inr ⟨λz=>e z.symm,λz=>e2 z.symm,hx⟩
 refine⟨CJ,⟨?_,?_,?_,?_,?_,?_⟩,by omega,?_,?_,VL _,rfl,?_,ht,hos,hout,λc hc hn=>⟨by show((H.t.del b).set H.nx o').get c=H.t.get c;rw[T.get_set,if_neg (by omega),T.get_del,if_neg (λe=>by subst e;rw[hl] at hn;cases hn)],by unfold Mp.put;rw[if_neg (by omega)];exact hn⟩⟩
 ·intro c m hm
  show c<H.nx+1
  unfold Mp.put at hm
  by_cases e:c=H.nx
  ·omega
  ·rw[if_neg e] at hm;have:=h.dom c m hm;omega
 ·intro c x hx
  show c<H.nx+1
  rcases get c x hx with⟨rfl,_⟩|⟨h1,h2,h3⟩
  ·omega
  ·have:=h.low c x h3;omega
 ·intro c x l1 hx hl1
  rcases get c x hx with⟨rfl,rfl⟩|⟨h1,h2,h3⟩
  ·rw[Mp.put_same] at hl1;cases hl1
   exact⟨c',hnew,ho⟩
  ·rw[Mp.put_old h1] at hl1
   obtain⟨c1,hc1,hr⟩:=h.alive c x l1 h3 hl1
   refine⟨c1,?_,hr.mono CJ⟩
   rw[hold l1.blk ?_];exact hc1
   intro e
   exact h2 (h.alone h3 hb hl1 hl e λs=>hw.hard hb s.2)
 ·intro c1 c2 x1 x2 l1 l2 h1 h2 k1 k2 e
  rcases get c1 x1 h1 with⟨rfl,rfl⟩|⟨p1,p2,p3⟩<;>rcases get c2 x2 h2 with⟨q0,rfl⟩|⟨q1,q2,q3⟩
  ·exact .inl q0.symm
  ·exfalso
   rw[Mp.put_same] at k1;cases k1
   rw[Mp.put_old q1] at k2
   exact q2 (h.alone q3 hb k2 hl e.symm λs=>hw.hard hb s.2)
  ·exfalso
   rw[q0,Mp.put_same] at k2;cases k2
   rw[Mp.put_old p1] at k1
   exact p2 (h.alone p3 hb k1 hl e λs=>hw.hard hb s.2)
  ·rw[Mp.put_old p1] at k1
   rw[Mp.put_old q1] at k2
   exact h.inj c1 c2 x1 x2 l1 l2 p3 q3 k1 k2 e
 ·intro g hg
  obtain⟨lg,h1,h2⟩:=h.glob g hg
  exact⟨lg,CJ g lg h1,h2⟩
 ·show H.ro<=H.nx+1;omega
 ·intro k hk hn
  exact hold k λe=>hn b l hw hl e.symm
 ·intro c m hwc hlc hlt'
  obtain⟨r1,x,r2,r3⟩:=hwc
  rcases get c x r2 with⟨rfl,rfl⟩|⟨p1,p2,p3⟩
  ·rw[Mp.put_same] at hlc;cases hlc
   exact⟨b,l,hw,hl,rfl⟩
  ·rw[Mp.put_old p1] at hlc
   exact⟨c,m,⟨r1,x,p3,r3⟩,hlc,rfl⟩
 ·intro c hc
  have hc:c<H.ro:=hc
  show((H.t.del b).set H.nx o').get c=H.t.get c
  rw[T.get_set,if_neg (by omega),T.get_del,if_neg (by have:=hw.1;omega)]
theorem Mj{z:Array Value}(hone: ∀v∈z.toList,v.oneCell'=true)(k:Nat):(Builtin.zeroCells z k).size=k*z.size∧ ∀v∈(Builtin.zeroCells z k).toList,v.oneCell'=true:=by
 constructor
 ·simp[Builtin.zeroCells]
 ·intro v hv
  simp only[Builtin.zeroCells,Ro,Array.toList_range,YQ,T1] at hv
  obtain⟨i,hi,rfl⟩:=hv
  have hz:0<z.size:=by
   rcases Nat.eq_zero_or_pos z.size with h|h
   ·rw[h,Nat.mul_zero] at hi;omega
   ·exact h
  rw[getElem!_pos z _ (WF _ hz)]
  exact hone _ (Array.getElem_mem_toList _)
theorem E9{e:TypeId}{i:TypeInfo}{z:Value}{base:Option Addr}{sLen sCap n:Nat}{news:Sem (Array Value)}{vo vn:List Value}
  (hone: ∀v∈z.cells.toList,v.oneCell'=true)(hg: ¬(sLen+n<=sCap))
  (ho: ∀w':World,w'.heap=w.heap->(Builtin.firstCells i.size sLen (.slice base sLen sCap)).run P w'=.ok ⟨vo⟩ w')(hn: ∀w':World,w'.heap=w.heap->news.run P w'=.ok ⟨vn⟩ w'):
  ∃k rest,(app e i z base sLen sCap n news).run P w=.ok (.slice (some ⟨w.heap.size,0,none⟩) (sLen+n) (sLen+n+k)) (w.drew.alloc (.cells ⟨(vo++vn)++rest⟩ e))∧
   rest.length=k*z.cells.size∧ ∀v∈rest,v.oneCell'=true:=by
 obtain⟨k,hk⟩:=IA (P:=P) (sLen+n) sCap e w
 obtain⟨h1,h2⟩:=Mj hone k
 refine⟨k,(Builtin.zeroCells z.cells k).toList,?_,by simpa using h1,h2⟩
 unfold app
 rw[if_neg hg]
 simp only[Sem.run_bind,hk,Result.andThen_ok,ho w.drew rfl,hn w.drew rfl,Uj,newRow,run_newObj,Sem.run_pure,World.alloc_eq]
 congr 3
 have e1:(⟨vo⟩:Array Value)++⟨vn⟩++Builtin.zeroCells z.cells k=⟨(vo++vn)++(Builtin.zeroCells z.cells k).toList⟩:=by
  apply Array.ext'
  simp
 rw[e1]
theorem Kf{r:Result Next}(hs:WE P σ H w){e sz need k:Nat}{as:List AV}{vs rest:List Value}(hr:r=.ok (.value (.slice (some ⟨w.heap.size,0,none⟩) need (need+k))) (w.drew.alloc (.cells ⟨vs++rest⟩ e)))
  (hrel:YR σ as vs)(hone: ∀v∈vs,v.oneCell'=true)(hrest: ∀v∈rest,v.oneCell'=true)(hsz:1<=sz)(hlen:vs.length=need*sz)(hrl:rest.length=k*sz):
  Y5 P σ H w r (.val (.slice H.nx 0 need none) (H.newRow e sz as false)):=by
 have hl:=hrel.length
 refine VN ((Tr.drew hs).trans (Tr.alloc hs.drew _ _ ⟨w.heap.size,0,need+k,sz⟩ rfl ⟨_,(0,0),rfl,?_⟩)) hr (SA (l:=⟨w.heap.size,0,need+k,sz⟩) rfl)
 refine I5 (hrel.mono (Mp.put_ext _ (hs.drew.fresh (Zp _)))) (λv hv=>?_) hsz ?_ ?_ (λh=>by cases h) rfl
 ·rcases Zr.1 hv with hv|hv
  ·exact hone v hv
  ·exact hrest v hv
 ·rw[hl,hlen,WC];omega
 ·rw[Zj,hlen,hrl,WC];omega
theorem SO(r:Row): ∀(n o j:Nat),j<n->(Vf r o n)[j]? =some (r.get (o+j))
 |0,o,j,h=>by omega
 |n+1,o,0,_=>rfl
 |n+1,o,j+1,h=>by
  show(Vf r (o+1) n)[j]? =_
  rw[SO r n (o+1) j (by omega)]
  congr 2;omega
theorem qI(r:Row)(sz size o:Nat)(as:List AV){j:Nat}(hj:j<o+as.length):
  (j<o∧(⟨r.elem,sz,size,WY r.cells o as,r.dflt,r.fz,r.sm,true,false⟩:Row).get j=r.get j)∨
  (∃a,o<=j∧as[j - o]? =some a∧(⟨r.elem,sz,size,WY r.cells o as,r.dflt,r.fz,r.sm,true,false⟩:Row).get j=a):=by
 by_cases h:j<o
 ·refine .inl ⟨h,?_⟩
  rw[Row.get_eq,Row.get_eq]
  show((WY r.cells o as).get j).getD r.dflt=_
  rw[Qy,if_neg (by omega)]
 ·refine .inr ⟨as[j - o]'(by omega),by omega,Zl (by omega),?_⟩
  rw[Row.get_eq]
  show((WY r.cells o as).get j).getD r.dflt=_
  rw[Qy,if_pos (by omega),Zl (by omega)]
  rfl
structure ZgU(P:Program)(σ:Mp)(w:World)(sz n:Nat)(news:Sem (Array Value))(as:List AV)(vs:List Value):Prop where
 rel:YR σ as vs
 one: ∀u∈vs,u.oneCell'=true
 len:vs.length=n*sz
 run: ∀w':World,w'.heap=w.heap->news.run P w'=.ok ⟨vs⟩ w'
theorem mr(hs:WE P σ H w){va:AV}{x:Value}(g:Yn σ va x){e n:Nat}{i:TypeInfo}{z:Value}{news:Sem (Array Value)}{as:List AV}{vs:List Value}{q:Result Next}
  (hsz:1<=i.size)(Kq: ∀v∈z.cells.toList,v.oneCell'=true)(Mo:z.cells.size=i.size)(hf:ZgU P σ w i.size n news as vs)
  (run: ∀{base:Option Addr} {sLen sCap:Nat} {v:Value} {w':World},x=.slice base sLen sCap->((sLen+n)*i.bytes<=140737488355328∨sLen+n<=sCap)->(app e i z base sLen sCap n news).run P w=.ok v w'->q=.ok (.value v) w'):
  Y5 P σ H w q (Oz va e i.size i.bytes H n as):=by
 refine HM (λhx=>?_) (Sq (λhx=>?_) λb off len cap hx=>?_)
 ·rw[hx] at g
  obtain⟨a,g⟩: ∃a,x=.slice (some a) 0 0:=by simpa only[Yn] using g
  refine Uo (λh0=>?_) λh0=>Yj λhfit=>?_
  ·rw[Yy] at h0
   have h0:n=0:=Zm h0
   subst h0
   have hv:vs=[]:=by have:=hf.len;rw[Vh] at this;exact YO.1 this
   refine Yc hs (x:=.slice (some a) 0 0) (run g (.inr (Zp _)) ?_) (by simp[Yn])
   simp[app,hf.run w rfl,hv,storeCells]
  ·rw[Yy] at h0
   rw[Xh] at hfit
   have h0:n≠0:=of_decide_eq_false h0
   have hfit:n*i.bytes<=140737488355328:=Zm hfit
   obtain⟨k,rest,k1,k2,k3⟩:=E9 (P:=P) (w:=w) (e:=e) (i:=i) (z:=z) (base:=some a) (sLen:=0) (sCap:=0) (n:=n) (vo:=[]) (vn:=vs) Kq (by omega) (λw' _=>by simp only[Builtin.firstCells,Vh];rfl) hf.run
   rw[Zd] at k1
   exact Kf hs (run g (.inl (by rw[Zd];exact hfit)) k1) hf.rel hf.one k3 hsz hf.len (by rw[k2,Mo])
 ·rw[hx] at g
  have g:x=.slice none 0 0:=by simpa only[Yn] using g
  refine Uo (λh0=>?_) λh0=>Yj λhfit=>?_
  ·rw[Yy] at h0
   have h0:n=0:=Zm h0
   subst h0
   refine Yc hs (x:=.slice none 0 0) (run g (.inr (Zp _)) ?_) (by simp[Yn])
   simp[app,hf.run w rfl]
  ·rw[Yy] at h0
   rw[Xh] at hfit
   have h0:n≠0:=of_decide_eq_false h0
   have hfit:n*i.bytes<=140737488355328:=Zm hfit
   obtain⟨k,rest,k1,k2,k3⟩:=E9 (P:=P) (w:=w) (e:=e) (i:=i) (z:=z) (base:=none) (sLen:=0) (sCap:=0) (n:=n) (vo:=[]) (vn:=vs) Kq (by omega) (λw' _=>by rfl) hf.run
   rw[Zd] at k1
   exact Kf hs (run g (.inl (by rw[Zd];exact hfit)) k1) hf.rel hf.one k3 hsz hf.len (by rw[k2,Mo])
 ·rw[hx] at g
  have g0:=g
  obtain⟨l,hl,e1⟩:=Uq g
  refine TC λr hr=>Yj λZib=>?_
  obtain⟨cs',fr,hc,hrr⟩:=hs.row hr hl
  have hcap:=D4 hrr off cap
  refine Uo (λhin=>?_) λhout=>?_
  ·rw[Xh] at hin
   have hin:len+n<=Te r off cap:=Zm hin
   have hin':len+n<=cap.getD (l.tot - off/l.sz):=Z5 hin hcap
   refine Uo (λh0=>?_) λh0=>Yj λOI=>Yj λhle=>Yj λhfz=>?_
   ·rw[Yy] at h0
    have h0:n=0:=Zm h0
    subst h0
    have hv:vs=[]:=by have:=hf.len;rw[Vh] at this;exact YO.1 this
    refine Yc hs (x:=x) (run e1 (.inr hin') ?_) (by rw[hx];exact g0)
    simp only[app,if_pos hin',Sem.run_bind,hf.run w rfl,Result.andThen_ok,hv]
    rw[e1]
    simp[storeCells]
   ·rw[Xh] at hle hfz
    have hle:off+(len+n)*i.size<=r.size:=Zm hle
    have hfz:r.fz<=off+len*i.size:=Zm hfz
    obtain⟨w',hrun,htr⟩:=F1 hs hr hl OI hf.rel hf.one (o:=off+len*i.size) (by rw[hf.len];rw[WC] at hle;omega) hfz
    refine VN htr (run e1 (.inr hin') ?_) (Rc hl)
    simp only[app,if_pos hin',Sem.run_bind,hf.run w rfl,Result.andThen_ok,RT]
    rw[XR,hrun]
    rfl
  ·rw[Xh] at hout
   have hout: ¬(len+n<=Te r off cap):=of_decide_eq_false hout
   refine Yj λhfit=>Yj λhle=>?_
   rw[Xh] at hfit hle
   have hfit:(len+n)*i.bytes<=140737488355328:=Zm hfit
   have hle:off+len*i.size<=r.size:=Zm hle
   obtain⟨vo,o2,o3,o4,o5⟩:=PT hrr (len*i.size) off hle
   have hfo: ∀c,∀w':World,w'.heap=w.heap->(Builtin.firstCells i.size len (.slice (some ⟨l.blk,l.base+off,none⟩) len c)).run P w'=.ok ⟨vo⟩ w':=by
    intro c w' hw
    have hc':w'.heap[l.blk]? =some (.cells cs' r.elem fr):=by rw[hw];exact hc
    have:=Rg (P:=P) hc' vo (o:=l.base+off) o4
    rw[o3] at this
    exact this
   have grown: ¬(len+n<=cap.getD (l.tot - off/l.sz))->Y5 P σ H w q (.val (.slice H.nx 0 (len+n) none) (H.newRow e i.size (Vf r off (len*i.size)++as) false)):=by
    intro hg
    obtain⟨k,rest,k1,k2,k3⟩:=E9 (P:=P) (w:=w) (e:=e) (i:=i) (z:=z) Kq hg (hfo _) hf.run
    refine Kf hs (run e1 (.inl hfit) k1) (o2.append hf.rel) (λv hv=>?_) k3 hsz (by rw[Zj,o3,hf.len,WC]) (by rw[k2,Mo])
    rcases Zr.1 hv with hv|hv
    ·exact o5 v hv
    ·exact hf.one v hv
   cases cap with
   |some c=>exact grown hout
   |none=>
    have Zic:r.sz=i.size:=by
     have:Nat.beq r.sz i.size=true:=Zib
     rw[Yy] at this
     exact Zm this
    refine Uo (λhex=>Yj λhmod=>?_) λhex=>?_
    ·rw[Yy] at hmod
     have hmod:off % i.size=0:=Zm hmod
     refine grown ?_
     rw[Ef hrr hex (by rw[hrr.sz,Zic];exact hmod)] at hout
     exact hout
    ·refine Yj λhel=>Yj λOI=>Yj λhfz=>Yj λhsize=>Yj λh0=>?_
     rw[Yy] at hel hsize h0
     rw[Xh] at hfz
     have hel:r.elem=e:=Zm hel
     have hsize:len*i.size=r.size:=Zm hsize
     have h0:off=0:=Zm h0
     have hfz:r.fz<=len*i.size:=Zm hfz
     subst h0
     obtain⟨hwr,hown⟩:=Wr.of_may OI hr
     have ZaH:l.sz=i.size:=by rw[hrr.sz,Zic]
     have hal:as.length=n*i.size:=by rw[hf.rel.length];exact hf.len
     have hvl:=hf.len
     have hsum:(len+n)*i.size=len*i.size+n*i.size:=WC _ _ _
     have hcell:=λj (hj:j<len*i.size+as.length)=>qI r i.size ((len+n)*i.size) (len*i.size) as hj
     by_cases hin:len+n<=l.tot
     ·have hin':len+n<=(none:Option Nat).getD (l.tot - 0/l.sz):=by rw[QY];exact hin
      have hmul:(len+n)*i.size<=l.tot*i.size:=VD _ hin
      have q1:=hrr.room
      rw[ZaH] at q1
      obtain⟨w',hrun,hw⟩:=ON (P:=P) (o:=l.base+len*i.size) vs 0 w cs' hc (by omega) hf.one (λj hj=>by
       have:=hrr.frz hown (len*i.size+j) (by omega) (by rw[ZaH];omega)
       rwa [show l.base+len*i.size+0+j=l.base+(len*i.size+j) by omega])
      refine VN (Tr.move hs hr hl hwr hw.size hw.new hw.old ⟨_,fr,rfl,?_⟩ hw.tape hw.os hw.out) (run e1 (.inr hin') ?_) (by simp only[Yn];exact⟨l,Mp.put_same _ _ _,rfl⟩)
      ·have ext:=Mp.put_ext l (hs.fresh (Zp H.nx))
       refine⟨ZaH,by omega,by rw[ZaH];exact hmul,by rw[P7];exact hrr.room,(λh=>by cases h),?_,?_,λ_=>hrr.frz hown,λ_=>hrr.frs hown⟩
       ·intro j hj
        have hj:j<(len+n)*i.size:=hj
        show ∃v,_∧Yn _ ((⟨r.elem,i.size,(len+n)*i.size,WY r.cells (len*i.size) as,r.dflt,r.fz,r.sm,true,false⟩:Row).get j) v
        rw[Ps _ _ _ _ (by omega)]
        rcases hcell j (by omega) with⟨h1,h2⟩|⟨a,h1,h2,h3⟩
        ·rw[h2,if_neg (by omega)]
         obtain⟨v,hv,hrel⟩:=hrr.cell j (by omega)
         exact⟨v,hv,hrel.mono ext⟩
        ·obtain⟨v,hv,hrel⟩:=hf.rel.get h2
         rw[h3,if_pos (by omega)]
         refine⟨v,?_,hrel.mono ext⟩
         rw[show l.base+j - (l.base+len*i.size+0)=j - len*i.size by omega];exact hv
       ·intro j v hj hv
        have hj:j<(len+n)*i.size:=hj
        rw[Ps _ _ _ _ (by omega)] at hv
        split at hv
        ·exact hf.one v (VB hv)
        ·exact hrr.one j v (by omega) hv
      ·simp only[app,if_pos hin',Sem.run_bind,hf.run w rfl,Result.andThen_ok,RT]
       rw[Zg,hrun]
       rfl
     ·have hg: ¬(len+n<=(none:Option Nat).getD (l.tot - 0/l.sz)):=by rw[QY];exact hin
      obtain⟨k,rest,k1,k2,k3⟩:=E9 (P:=P) (w:=w) (e:=e) (i:=i) (z:=z) Kq hg (hfo _) hf.run
      have td:=Tr.del (P:=P) (b:=b) hs.drew hl hwr.1
      refine VN (((Tr.drew hs).trans td).trans (Tr.alloc td.sim (.row ⟨r.elem,i.size,(len+n)*i.size,WY r.cells (len*i.size) as,r.dflt,r.fz,r.sm,true,false⟩) _ ⟨w.heap.size,0,len+n+k,i.size⟩ rfl ⟨_,(0,0),by rw[hel],?_⟩)) (run e1 (.inl hfit) k1) (SA (l:=⟨w.heap.size,0,len+n+k,i.size⟩) rfl)
      have ext:=Mp.put_ext ⟨w.heap.size,0,len+n+k,i.size⟩ (hs.fresh (Zp H.nx))
      rw[Mo] at k2
      have ZdD:(len+n+k)*i.size=(len+n)*i.size+k*i.size:=WC _ _ _
      refine⟨rfl,hsz,by rw[ZdD];exact Nat.le_add_right _ _,?_,(λh=>by cases h),?_,?_,?_,λ_ _=>.inl rfl⟩
      ·simp only[List.size_toArray,Zj,o3,hvl,k2]
       rw[ZdD];omega
      ·intro j hj
       have hj:j<(len+n)*i.size:=hj
       simp only[Zd,Wj]
       rcases hcell j (by omega) with⟨h1,h2⟩|⟨a,h1,h2,h3⟩
       ·rw[h2]
        obtain⟨v,hv,hrel⟩:=o2.get (SO r (len*i.size) 0 j h1)
        rw[Zd] at hrel
        refine⟨v,?_,hrel.mono ext⟩
        rw[Yh (by rw[Zj];omega),Yh (by omega)]
        exact hv
       ·obtain⟨v,hv,hrel⟩:=hf.rel.get h2
        rw[h3]
        refine⟨v,?_,hrel.mono ext⟩
        rw[Yh (by rw[Zj];omega),Yi (by omega),o3]
        exact hv
      ·intro j v _ hv
       simp only[Zd,Wj] at hv
       have:=VB hv
       rcases Zr.1 this with h|h
       ·rcases Zr.1 h with h|h
        ·exact o5 v h
        ·exact hf.one v h
       ·exact k3 v h
      ·intro _ j _ _
       simp only;omega
theorem kj(hs:WE P σ H w)(hρ:Rn P σ tm ρ){o:Oper}{xs:List Operand}{ts:List TypeId}(ho:o.op=.call ⟨.builtin .append,⟨xs⟩,⟨ts⟩⟩):XC P σ H w tm ρ o:=by
 refine UV ho λcs=>?_
 rcases xs with _|⟨x,_|⟨y,_|⟨_,_⟩⟩⟩<;>try exact trivial
 rcases ts with _|⟨t,_|⟨t2,_|⟨_,_⟩⟩⟩<;>try exact trivial
 refine Xq λd hu=>N9 λe hd=>XT λi hi=>Ut λz hz=>WT (λhzl=>Xq λd2 hu2=>?_) λ_=>T6
 subst hd
 have happ: ∀{n:Nat} {news:Sem (Array Value)} {as:List AV} {vs:List Value} (_:1<=i.size) (hf:ZgU P σ w i.size n news as vs)
   (h: ∀{base:Option Addr} {sLen sCap:Nat},ρ x=.slice base sLen sCap->((sLen+n)*i.bytes<=140737488355328∨sLen+n<=sCap)->(Builtin.append_ ⟨[t,t2]⟩ o.type ⟨[.slice base sLen sCap,ρ y]⟩).run P w=(app e i z base sLen sCap n news).run P w),
   Y5 P σ H w ((builtin .append ⟨[t,t2]⟩ o.type cs ⟨[ρ x,ρ y]⟩).run P w) (Oz (YV P x tm) e i.size i.bytes H n as):=by
  intro n news as vs hsz hf h
  rw[Yy,YF] at hzl
  have hzl:(W1 z).cells.length=i.size:=Zm hzl
  obtain⟨hzr,Kq⟩:=S0 (σ:=σ) z (by omega)
  have Mo:z.cells.size=i.size:=by rw[<-hzl,hzr.length];simp
  refine mr hs (hρ x) hsz Kq Mo hf λ{base sLen sCap v w'} e1 e2 e3=>Vc ?_
  rw[e1]
  exact(h e1 e2).trans e3
 have hd2:(∃k,d2=.int k)∨ ∀k,d2≠.int k:=by
  cases d2<;>first
   |exact .inl ⟨_,rfl⟩
   |exact .inr (λk h=>by cases h)
 rcases hd2 with⟨k,rfl⟩|hd2
 ·refine Yj λhsz=>Yj λhb=>SF λk' n hy=>Yj λhn=>?_
  rw[Xh] at hsz hb hn
  have hsz:1<=i.size:=Zm hsz
  have hb:1<=i.bytes:=Zm hb
  have hn:n*i.bytes<=140737488355328:=Zm hn
  have hy2:ρ y=.int k' (n:Nat):=by
   have:=hρ y
   rw[hy] at this
   have this:ρ y=.int k' (Int.ofNat n):=by simpa only[Yn] using this
   rw[this];rfl
  rw[Yy,YF] at hzl
  have Zie:(W1 z).cells.length=i.size:=Zm hzl
  obtain⟨hzr,Kq⟩:=S0 (σ:=σ) z (by omega)
  have Mo:z.cells.size=i.size:=by rw[<-Zie,hzr.length];simp
  refine happ (vs:=(Builtin.zeroCells z.cells n).toList) (news:=oq i z n) hsz ⟨?_,(Mj Kq n).2,by simpa [Mo] using (Mj Kq n).1,λw' _=>?_⟩ λ{base sLen sCap} e1 e2=>?_
  ·have:=(Eb (σ:=σ) hzr (λv hv=>Kq v hv) (by omega) n).1
   rw[Zie,<-Mo] at this
   exact this
  ·unfold oq
   split
   ·next h0=>
    have:Builtin.zeroCells z.cells n= #[]:=by
     apply Array.ext'
     have:=(Mj Kq n).1
     rw[Mo,h0] at this
     exact YO.1 (by simpa using this)
    simp[this]
   ·simp
  ·rw[hy2]
   exact cP hu hu2 hi hz hb hn e2
 have hno:oZ (Ny (YV P x) (YV P y) e i.size i.bytes (W1 z).cells) (X1 (YV P x) (YV P y) e i.size i.bytes) d2=X1 (YV P x) (YV P y) e i.size i.bytes:=by
  cases d2<;>first|rfl|exact absurd rfl (hd2 _)
 rw[hno]
 refine Yj λhsz=>Yj λhb=>zb λn hn=>JQ hs (hρ y) hn (Zp _) λas vs hf=>?_
 rw[Xh] at hsz hb
 have hsz:1<=i.size:=Zm hsz
 have hb:1<=i.bytes:=Zm hb
 have hlenOf:=zX (P:=P) hn (hρ y) w
 exact happ hsz ⟨hf.rel,hf.one,hf.len,hf.run⟩ λe1 e2=>Zco hu hu2 hd2 hi hz hlenOf hb e2
def mm(mx:Bool):Value->Value->Sem Value:=if mx then Builtin.max2 else Builtin.min2
theorem zd{r:Result Next}(hs:WE P σ H w){mx:Bool}{k:IntKind}: ∀(as:List AV) (vs:List Value) (a:Int),YR σ as vs->
  (∀v,(vs.foldlM (mm mx) (.int k a):Sem Value).run P w=.ok v w->r=.ok (.value v) w)->Y5 P σ H w r (min2 mx k a H as)
 |[],vs,a,h,g=>by
  rw[h.nil_inv] at g
  exact Yc hs (x:=.int k a) (g _ rfl) (by simp[Yn])
 |x::as,vs,a,h,g=>by
  obtain⟨v,vs',h1,h2,rfl⟩:=h.cons_inv
  unfold min2
  split
  ·rename_i j b
   refine Yj λhk=>?_
   have:=S3 hk;subst this
   have h1:=X2 h1
   subst h1
   refine zd hs as vs' _ h2 λv hv=>g v ?_
   rw[List.foldlM_cons]
   cases mx with
   |true=>
    simp only[mm,if_true,Builtin.max2,Sem.run_bind,Sem.run_pure,Result.andThen_ok]
    rw[<-hv]
    congr 2
    by_cases hh:a<b
    ·simp[hh,Mq]
    ·simp[hh,Mq]
   |false=>
    simp only[mm,XA,if_false,Builtin.min2,Sem.run_bind,Sem.run_pure,Result.andThen_ok]
    rw[<-hv]
    congr 2
    by_cases hh:b<a
    ·simp[hh,Mq]
    ·simp[hh,Mq]
  ·trivial
theorem zF(hs:WE P σ H w)(hρ:Rn P σ tm ρ){o:Oper}{mx:Bool}{xs:List Operand}{ts:List TypeId}(ho:o.op=.call ⟨.builtin (if mx then .max else .min),⟨xs⟩,⟨ts⟩⟩):XC P σ H w tm ρ o:=by
 refine UV ho λcs=>?_
 have key: ∀r,(∀v,(match xs.map ρ with|[]=>.halt (.stuck "")|x::rest=>rest.foldlM (mm mx) x:Sem Value).run P w=.ok v w->r=.ok (.value v) w)->Y5 P σ H w r (Su mx (xs.map (YV P)) tm H):=by
  intro r hrr
  unfold Su
  have hr:=KF hρ xs
  split
  ·rename_i k a l he
   rw[he] at hr
   obtain⟨v,vs,h1,h2,h3⟩:=hr.cons_inv
   have h1:=X2 h1
   subst h1
   exact zd hs l vs a h2 λv hv=>hrr v (by rw[h3];exact hv)
  ·trivial
 cases mx with
 |true=>
  refine key _ λv hv=>Vc (s:=Builtin.max_ ⟨ts⟩ o.type ⟨xs.map ρ⟩) ?_
  simp only[Builtin.max_]
  cases hl:xs.map ρ with
  |nil=>rw[hl] at hv;cases hv
  |cons x l=>rw[hl] at hv;exact hv
 |false=>
  refine key _ λv hv=>Vc (s:=Builtin.min_ ⟨ts⟩ o.type ⟨xs.map ρ⟩) ?_
  simp only[Builtin.min_]
  cases hl:xs.map ρ with
  |nil=>rw[hl] at hv;cases hv
  |cons x l=>rw[hl] at hv;exact hv
theorem J5{g:Nat}{cs:Array Value}{t:TypeId}{fr:Nat×Nat}(h:w.heap[g]? =some (.cells cs t fr)): ∀(ns:List Int) (o:Nat) (acc:ByteArray),
  (∀(j:Nat) (v:Value),(ns.map (Value.int .u8))[j]? =some v->cs[o+j]? =some v)->(loadBytes ⟨g,o,none⟩ acc ns.length).run P w=.ok (ns.foldl (λr n=>r.push (UInt8.ofNat n.toNat)) acc) w
 |[],o,acc,_=>rfl
 |n::ns,o,acc,hv=>by
  have h0:=hv 0 (.int .u8 n) rfl
  simp only[ZS,loadBytes,Sem.run_bind,run_load,Hz h,Zg] at h0 ⊢
  rw[h0]
  simp only[Result.andThen_ok,RT]
  exact J5 h ns (o+1) _ λj v hj=>by
   have:=hv (j+1) v (by simpa using hj)
   rw[<-this];congr 1;omega
theorem yU{w:World}{g o n:Nat}{cs:Array Value}{t:TypeId}{fr:Nat×Nat}(h:w.heap[g]? =some (.cells cs t fr))(hn:n≠0):
  Ay w (w.freeze ⟨g,o,none⟩ n) g (.cells cs t (if fr.1=fr.2 then(o,o+n) else(min fr.1 o,max fr.2 (o+n)))):=by
 obtain⟨a,b⟩:=fr
 refine⟨by simp[World.freeze,hn],?_,λk hk=>?_,by simp[World.freeze,hn],by simp[World.freeze,hn],by simp[World.freeze,hn]⟩
 ·simp only[World.freeze,hn,if_false,WB]
  rw[h];simp
 ·simp only[World.freeze,hn,if_false,WB]
  rw[if_neg (λe=>hk e.symm)]
theorem zW(k:IntKind)(n:Int):(asInt (.int k n)).run P w=.ok n w:=rfl
theorem jx(pt ty:TypeId)(rest:List TypeId)(k:IntKind)(p:Option Addr):(Builtin.unsafeString_ ⟨pt::rest⟩ ty #[.pointer p,.int k 0]).run P w=.ok (.string .empty) w:=by
 show((asInt (.int k 0))>>=_:Sem Value).run P w=_
 rw[Sem.run_bind,zW]
 cases p<;>rfl
theorem jw{pt ty e:TypeId}(rest:List TypeId){k:IntKind}{n:Nat}{a:Addr}{s:ByteArray}(hu:P.underlying pt=some (.pointer e))(h0:n≠0)(hn:n<=140737488355328)
  (hv:(variablesAt a e n).run P w=.ok true w)(hl:(loadBytes a .empty n).run P w=.ok s w):
  (Builtin.unsafeString_ ⟨pt::rest⟩ ty #[.pointer (some a),.int k (n:Int)]).run P w=.ok (.string s) (w.freeze a n):=by
 show((asInt (.int k (n:Int)))>>=_:Sem Value).run P w=_
 have p1: ¬((n:Int)<0):=by omega
 have p2: ¬((n:Int)>IntKind.i64.max):=by
  have:IntKind.i64.max=9223372036854775807:=by decide
  omega
 have p3: ¬((n:Int)=0):=by omega
 rw[Sem.run_bind,zW]
 simp only[Result.andThen_ok,Wj,Ui,p1,if_false,p2,p3,Sem.run_bind,elemOf,run_underlying hu,Sem.run_pure,XX,hv,if_true,hl,run_freeze]
theorem ZbT(hs:WE P σ H w)(hρ:Rn P σ tm ρ){o:Oper}{xs:List Operand}{ts:List TypeId}(ho:o.op=.call ⟨.builtin .unsafeString,⟨xs⟩,⟨ts⟩⟩):XC P σ H w tm ρ o:=by
 refine UV ho λcs=>?_
 rcases xs with _|⟨x,_|⟨y,_|⟨_,_⟩⟩⟩<;>try exact trivial
 rcases ts with _|⟨t,_|⟨t2,_|⟨_,_⟩⟩⟩<;>try exact trivial
 refine Xq λd hu=>mw λe hd=>XT λi hi=>WT (λhsz=>?_) λ_=>T6
 subst hd
 rw[Yy] at hsz
 have hsz:i.size=1:=Zm hsz
 refine SF λk n hn=>?_
 have g1:=hρ x
 have g2:=hρ y
 rw[hn] at g2
 have g2:=X2 g2
 refine Uo (λh0=>?_) λh0=>Yj λhmax=>Q4 λb off hx=>TC λr hr=>Yj λhel=>Yj λOI=>Yj λhle=>?_
 ·rw[Yy] at h0
  have h0:n=0:=Zm h0
  subst h0
  have fin: ∀p,ρ x=.pointer p->Y5 P σ H w ((builtin .unsafeString ⟨[t,t2]⟩ o.type cs ⟨[ρ x,ρ y]⟩).run P w) (.val (.str []) H):=by
   intro p e1
   refine Yc hs (x:=.string .empty) ?_ (by simp only[Yn];rfl)
   refine Vc (s:=Builtin.unsafeString_ ⟨[t,t2]⟩ o.type #[ρ x,ρ y]) ?_
   rw[e1,g2]
   exact jx _ _ _ _ _
  split
  ·rename_i hx
   rw[hx] at g1
   exact fin none (by simpa only[Yn] using g1)
  ·rename_i b off hx
   rw[hx] at g1
   obtain⟨l,_,e1⟩:=Uu g1
   exact fin _ e1
  ·trivial
 ·rw[hx] at g1
  obtain⟨l,hl,e1⟩:=Uu g1
  obtain⟨cs',fr,hc,hrr⟩:=hs.row hr hl
  have zq:r.sm=false∧H.may r b=true:=by
   cases hsm:r.sm with
   |true=>rw[hsm] at OI;cases OI
   |false=>rw[hsm] at OI;exact⟨rfl,OI⟩
  obtain⟨hwr,hown⟩:=Wr.of_may zq.2 hr
  rw[Yy] at h0 hel
  rw[Xh] at hmax hle
  have h0:n≠0:=of_decide_eq_false h0
  have hel:r.elem=e:=Zm hel
  have hmax:n<=140737488355328:=Zm hmax
  have hle:off+n<=r.size:=Zm hle
  have q1:=hrr.fits
  have q2:=hrr.room
  obtain⟨vs,h2,h3,h4,h5⟩:=PT hrr n off hle
  refine Lh _ vs h2 λns hns=>?_
  subst hns
  have hnl:ns.length=n:=by simpa using h3
  have hcell:P.cellsOf e=1:=by simp[Program.cellsOf,hi,hsz]
  have hw:=yU (o:=l.base+off) (n:=n) hc h0
  refine VN (Tr.write hs hr hl hwr hw.size hw.new hw.old ⟨_,_,rfl,?_⟩ hw.tape hw.os hw.out) (x:=.string ⟨(ns.map wC).toArray⟩) ?_ (by simp[Yn])
  ·have hfz:(cond (Nat.ble r.fz (Nat.add off n)) (Nat.add off n) r.fz)=max r.fz (off+n):=by
    rw[Xh]
    show cond _ (off+n) r.fz=_
    by_cases hh:r.fz<=off+n
    ·rw[show decide (r.fz<=Nat.add off n)=true from Ze hh];simp only[cond_true];omega
    ·rw[show decide (r.fz<=Nat.add off n)=false from Zb hh];simp only[cond_false];omega
   rw[hfz]
   refine⟨hrr.sz,hrr.sz1,hrr.fits,hrr.room,hrr.exact,hrr.cell,hrr.one,?_,?_⟩
   ·intro _ j hj hj2
    have hj:max r.fz (off+n)<=j:=hj
    have:=hrr.frs hown zq.1
    split
    ·simp only;omega
    ·simp only;omega
   ·intro _ _
    have:=hrr.frs hown zq.1
    right
    split
    ·simp only;omega
    ·simp only;omega
  ·refine Vc (s:=Builtin.unsafeString_ ⟨[t,t2]⟩ o.type #[ρ x,ρ y]) ?_
   rw[e1,g2]
   have hsh:=GL hc
   have hlies:liesAt P P.depth r.elem (cs'.size/P.cellsOf r.elem) (l.base+off) e n=true:=by
    rw[hel]
    refine og (by omega) (by rw[hcell];omega) ?_
    rw[hcell,Nat.div_one,Nat.div_one];omega
   have hld:=J5 (P:=P) hc ns (l.base+off) .empty h4
   rw[hnl,Fs] at hld
   exact jw _ hu h0 hmax (by simp only[variablesAt,Sem.run_bind,run_program,Result.andThen_ok,run_shape,hsh,hlies,Sem.run_pure]) (by simpa using hld)
def Hk(P:Program)(σ:Mp)(D:Nat)(t:Nat)(f:AV->AV->Option Bool):Prop:=
 ∀(a b:AV) (x y:Value) (r:Bool) (w:World),Yn σ a x->Yn σ b y->f a b=some r->(Op.equalIn D t x y).run P w=.ok r w
theorem iP{t D:Nat}(hu:P.underlying t=some .bool):Hk P σ (D+1) t sK:=by
 intro a b x y r w ha hb h
 unfold sK at h
 split at h
 ·cases h
  rw[TJ ha,TJ hb,run_equalIn_bool w D t _ _ hu]
  rename_i p q
  cases p<;>cases q<;>rfl
 ·cases h
theorem ZeY{t D:Nat}{k':IntKind}(hu:P.underlying t=some (.int k')):Hk P σ (D+1) t Vp:=by
 intro a b x y r w ha hb h
 unfold Vp at h
 split at h
 ·rename_i j p k q
  cases hk:P3 j k with
  |false=>rw[hk] at h;cases h
  |true=>
   rw[hk] at h
   have:=S3 hk;subst this
   cases h
   rw[X2 ha,X2 hb,run_equalIn_int w D t _ _ _ _ hu,Qr]
 ·cases h
theorem ZeZ{t D:Nat}(hu:P.underlying t=some .string):Hk P σ (D+1) t PM:=by
 intro a b x y r w ha hb h
 unfold PM at h
 split at h
 ·cases h
  rw[V3 ha,V3 hb,run_equalIn_string w D t _ _ hu,SL,Jp,Jp]
 ·cases h
theorem MV{v:Value}(h:Yn σ .nilp v):v=.pointer none:=by simpa [Yn] using h
theorem Po{v:Value}(h:Yn σ .nils v):v=.slice none 0 0:=by simpa [Yn] using h
theorem Ot{v:Value}(h:Yn σ .nilm v):v=.map none:=by simpa [Yn] using h
theorem MU{v:Value}(h:Yn σ .nilf v):v=.nilFunc:=by simpa [Yn] using h
theorem Pn{v:Value}(h:Yn σ .nili v):v=.nilIface:=by simpa [Yn] using h
theorem Jh{b:Nat}{v:Value}(h:Yn σ (.map b) v): ∃l,σ b=some l∧v=.map (some l.blk):=by simpa only[Yn] using h
theorem ND{f:Nat}{a b:List AV}{v:Value}(h:Yn σ (.func f a b) v): ∃x y,YR σ a x∧YR σ b y∧v=.func (.func f) ⟨x⟩ ⟨y⟩:=by simpa only[Yn] using h
theorem Tx{t:Nat}{a:AV}{v:Value}(h:Yn σ (.iface t a) v): ∃x,Yn σ a x∧v=.iface t x:=by simpa only[Yn] using h
theorem LB{cs:List AV}{v:Value}(h:Yn σ (.agg cs) v): ∃vs,YR σ cs vs∧(∀x∈vs,x.oneCell'=true)∧v=.agg ⟨vs⟩:=by simpa only[Yn] using h
theorem iU{t D e:Nat}{i:TypeInfo}(hu:P.underlying t=some (.pointer e))(hi:P.info? e=some i)(h0:i.size≠0):Hk P σ (D+1) t nV:=by
 intro a b x y r w ha hb h
 unfold nV at h
 split at h
 ·cases h;rw[MV ha,MV hb];simp[Op.equalIn,run_underlying hu]
 ·cases h;obtain⟨l,_,e1⟩:=Uu hb;rw[MV ha,e1];simp[Op.equalIn,run_underlying hu]
 ·cases h;obtain⟨l,_,e1⟩:=Uu ha;rw[MV hb,e1];simp[Op.equalIn,run_underlying hu]
 ·rename_i b o c p
  rw[Yy,Yy] at h
  by_cases hbc:b=c
  ·subst hbc
   rw[Ze rfl] at h
   cases h
   obtain⟨l,hl,e1⟩:=Uu ha
   obtain⟨l2,hl2,e2⟩:=Uu hb
   rw[hl] at hl2;cases hl2
   rw[e1,e2]
   simp only[Op.equalIn,Sem.run_bind,run_underlying hu,Result.andThen_ok,WD hi,sameAddr]
   rw[if_pos h0]
   simp only[beq_self_eq_true,if_true,Sem.run_pure,Result.ok.injEq,and_true]
   by_cases hop:o=p
   ·subst hop;simp
   ·rw[Zb hop]
    rw[beq_eq_false_iff_ne]
    intro he
    have:=congrArg Addr.off he
    simp only at this
    omega
  ·rw[Zb hbc] at h;cases h
 ·cases h
theorem iR{t D e:Nat}(hu:P.underlying t=some (.slice e)):Hk P σ (D+1) t nU:=by
 intro a b x y r w ha hb h
 unfold nU at h
 split at h
 ·cases h;rw[Po ha,Po hb];simp[Op.equalIn,run_underlying hu]
 ·cases h;obtain⟨l,_,e1⟩:=Uq hb;rw[Po ha,e1];simp[Op.equalIn,run_underlying hu]
 ·cases h;obtain⟨l,_,e1⟩:=Uq ha;rw[Po hb,e1];simp[Op.equalIn,run_underlying hu]
 ·cases h;obtain⟨l,e1⟩:=(by simpa only[Yn] using hb: ∃a,y=.slice (some a) 0 0);rw[Po ha,e1];simp[Op.equalIn,run_underlying hu]
 ·cases h;obtain⟨l,e1⟩:=(by simpa only[Yn] using ha: ∃a,x=.slice (some a) 0 0);rw[Po hb,e1];simp[Op.equalIn,run_underlying hu]
 ·cases h
theorem iS{t D k e:Nat}(hu:P.underlying t=some (.map k e)):Hk P σ (D+1) t eqM:=by
 intro a b x y r w ha hb h
 unfold eqM at h
 split at h
 ·cases h;rw[Ot ha,Ot hb];simp[Op.equalIn,run_underlying hu]
 ·cases h;obtain⟨l,_,e1⟩:=Jh hb;rw[Ot ha,e1];simp[Op.equalIn,run_underlying hu]
 ·cases h;obtain⟨l,_,e1⟩:=Jh ha;rw[Ot hb,e1];simp[Op.equalIn,run_underlying hu]
 ·cases h
theorem iT{t D:Nat}{p q:Array TypeId}{v:Bool}(hu:P.underlying t=some (.func p q v)):Hk P σ (D+1) t eqN:=by
 intro a b x y r w ha hb h
 unfold eqN at h
 split at h
 ·cases h;rw[MU ha,MU hb];simp[Op.equalIn,run_underlying hu]
 ·cases h;obtain⟨_,_,_,_,e1⟩:=ND hb;rw[MU ha,e1];simp[Op.equalIn,run_underlying hu]
 ·cases h;obtain⟨_,_,_,_,e1⟩:=ND ha;rw[MU hb,e1];simp[Op.equalIn,run_underlying hu]
 ·cases h
theorem iQ{t D:Nat}{ms:Array (String×TypeId)}{lit:Bool}{g:Nat->AV->AV->Option Bool}(hu:P.underlying t=some (.interface ms))(hg: ∀t,Hk P σ D t (g t)):Hk P σ (D+1) t (jA lit (eqC P g)):=by
 intro a b x y r w ha hb h
 unfold jA at h
 split at h
 ·cases lit
  ·cases h
  ·cases h;rw[Pn ha,Pn hb];simp[Op.equalIn,run_underlying hu]
 ·cases h;obtain⟨_,_,e1⟩:=Tx hb;rw[Pn ha,e1];simp[Op.equalIn,run_underlying hu]
 ·cases h;obtain⟨_,_,e1⟩:=Tx ha;rw[Pn hb,e1];simp[Op.equalIn,run_underlying hu]
 ·rename_i t1 v1 t2 v2
  obtain⟨x1,h1,e1⟩:=Tx ha
  obtain⟨y1,h2,e2⟩:=Tx hb
  rw[e1,e2]
  rw[Yy] at h
  by_cases ht:t1=t2
  ·subst ht
   rw[Ze rfl] at h
   have h:eqC P g t1 v1 v2=some r:=h
   unfold eqC at h
   split at h
   ·rename_i i hi
    cases hc:i.comparable with
    |false=>rw[hc] at h;cases h
    |true=>
     rw[hc] at h
     have hti:(typeInfo t1).run P w=.ok i w:=by simp[typeInfo,hi]
     simp only[Op.equalIn,Sem.run_bind,run_underlying hu,Result.andThen_ok,ne_eq,not_true_eq_false,if_false,hti,hc,Yq,XA]
     exact hg t1 v1 v2 x1 y1 r w h1 h2 h
   ·cases h
  ·rw[Zb ht] at h
   cases h
   simp[Op.equalIn,run_underlying hu,ht]
 ·cases h
theorem aC{t:Nat}{ag:Bool}(h:Zek P t=some ag): ∃d,P.underlying t=some d∧Mr P t=ag:=by
 unfold Zek at h
 unfold Mr
 split at h<;>rename_i e<;>cases h
 ·rw[e];exact⟨_,rfl,rfl⟩
 ·rw[e];exact⟨_,rfl,rfl⟩
 ·rename_i d h1 h2
  rw[e]
  refine⟨d,rfl,?_⟩
  cases d<;>first|rfl|exact absurd rfl (h1 _)|exact absurd rfl (h2 _ _)
theorem Gw{t:Nat}{cs:List AV}{vs:List Value}{off:Nat}{k:AV->Option Bool}{r:Bool}(hr:YR σ cs vs)(hone: ∀x∈vs,x.oneCell'=true)(h:zH P t cs off k=some r):
  ∃a x,Yn σ a x∧k a=some r∧ ∀w:World,(part t ⟨vs⟩ off).run P w=.ok x w:=by
 unfold zH at h
 split at h
 ·rename_i i ag hi hag
  obtain⟨d,hu,hia⟩:=aC hag
  cases ag with
  |true=>
   have h:k (.agg (Ow i.size (PB off cs)))=some r:=h
   rw[M7,MC] at h
   refine⟨_,.agg ⟨(vs.drop off).take i.size⟩,?_,h,λw=>?_⟩
   ·simp only[Yn]
    exact⟨_,(hr.drop _).take _,λy hy=>hone y (VC (X5 hy)),rfl⟩
   ·simp only[part,Sem.run_bind,PW (w:=w) hu,hia,Result.andThen_ok,if_true,WD hi,Sem.run_pure]
    congr 2
    apply Array.ext'
    simp[W4]
  |false=>
   have h:(match Gn cs off with|some v=>k v|none=>none)=some r:=h
   rw[Je] at h
   split at h
   ·rename_i v hv
    obtain⟨x,hx,hrel⟩:=hr.get hv
    refine⟨v,x,hrel,h,λw=>?_⟩
    simp only[part,Sem.run_bind,PW (w:=w) hu,hia,Result.andThen_ok,XA,if_false]
    simp[hx]
   ·cases h
 ·cases h
theorem En{e c D:Nat}{f:AV->AV->Option Bool}(hf:Hk P σ D e f){l m:List AV}{xs ys:List Value}(hl:YR σ l xs)(hm:YR σ m ys)(hlo: ∀x∈xs,x.oneCell'=true)(hmo: ∀x∈ys,x.oneCell'=true):
  ∀(is:List Nat) (r:Bool) (w:World),HG P f e c l m is=some r->(Op.eqItems D e c ⟨xs⟩ ⟨ys⟩ is).run P w=.ok r w
 |[],r,w,h=>by cases h;rfl
 |i::is,r,w,h=>by
  unfold HG at h
  obtain⟨a,x,h1,h2,h3⟩:=Gw hl hlo h
  obtain⟨b,y,g1,g2,g3⟩:=Gw hm hmo h2
  unfold np at g2
  split at g2
  ·rename_i t ht
   have he:=hf a b x y t w h1 g1 ht
   simp only[Op.eqItems,Sem.run_bind,h3 w,g3 w,he,Result.andThen_ok]
   cases t with
   |true=>simpa using En hf hl hm hlo hmo is r w g2
   |false=>cases g2;simp
  ·cases g2
theorem Lf{D:Nat}{g:Nat->AV->AV->Option Bool}(hf: ∀t,Hk P σ D t (g t)){l m:List AV}{xs ys:List Value}(hl:YR σ l xs)(hm:YR σ m ys)(hlo: ∀x∈xs,x.oneCell'=true)(hmo: ∀x∈ys,x.oneCell'=true):
  ∀(fs:List Field) (r:Bool) (w:World),O9 P g l m fs=some r->(Op.eqFields D ⟨xs⟩ ⟨ys⟩ fs).run P w=.ok r w
 |[],r,w,h=>by cases h;rfl
 |f::fs,r,w,h=>by
  unfold O9 at h
  unfold Op.eqFields
  cases hn:f.name== "_" with
  |true=>
   rw[hn] at h
   rw[if_neg (by simpa using hn)]
   exact Lf hf hl hm hlo hmo fs r w h
  |false=>
   rw[hn] at h
   simp only[cond_false] at h
   rw[if_pos (by simpa using hn)]
   obtain⟨a,x,h1,h2,h3⟩:=Gw hl hlo h
   obtain⟨b,y,g1,g2,g3⟩:=Gw hm hmo h2
   unfold np at g2
   split at g2
   ·rename_i t ht
    have he:=hf f.type a b x y t w h1 g1 ht
    simp only[Sem.run_bind,h3 w,g3 w,he,Result.andThen_ok]
    cases t with
    |true=>simpa using Lf hf hl hm hlo hmo fs r w g2
    |false=>cases g2;simp
   ·cases g2
theorem ZeU{t D:Nat}{lit:Bool}{g:Nat->AV->AV->Option Bool}{d:TypeDesc}(hu:P.underlying t=some d)(hg: ∀t,Hk P σ D t (g t)):Hk P σ (D+1) t (λa b=>eqD P lit g t a b d):=by
 intro a b x y r w ha hb h
 cases d<;>simp only[eqD] at h<;>first
  |cases h;done
  |exact iP hu a b x y r w ha hb h
  |exact ZeY hu a b x y r w ha hb h
  |exact ZeZ hu a b x y r w ha hb h
  |exact iR hu a b x y r w ha hb h
  |exact iS hu a b x y r w ha hb h
  |exact iT hu a b x y r w ha hb h
  |exact iQ hu hg a b x y r w ha hb h
  |skip
 case pointer e=>
  split at h
  ·rename_i i hi
   rw[Yy] at h
   by_cases h0:i.size=0
   ·rw[Ze h0] at h;cases h
   ·rw[Zb h0] at h
    exact iU hu hi h0 a b x y r w ha hb h
  ·cases h
 case array n e=>
  unfold tL at h
  split at h
  ·split at h
   ·rename_i i hi
    obtain⟨xs,h1,h2,e1⟩:=LB ha
    obtain⟨ys,g1,g2,e2⟩:=LB hb
    have:=En (hg e) h1 g1 h2 g2 (List.range n) r w h
    rw[e1,e2,run_equalIn_array w D ⟨xs⟩ ⟨ys⟩ hu hi]
    rw[show P.cellsOf e=i.size by simp[Program.cellsOf,hi]]
    exact this
   ·cases h
  ·cases h
 case struct fs=>
  cases hst:P.stoodInHeld t with
  |true=>rw[hst] at h;cases h
  |false=>
   rw[hst] at h
   have h:tL a b (λl m=>O9 P g l m fs.toList)=some r:=h
   unfold tL at h
   split at h
   ·obtain⟨xs,h1,h2,e1⟩:=LB ha
    obtain⟨ys,g1,g2,e2⟩:=LB hb
    have:=Lf hg h1 g1 h2 g2 fs.toList r w h
    have hfs:P.fieldsOf t=fs:=by simp[Program.fieldsOf,hu]
    rw[e1,e2,run_equalIn_struct w D t ⟨xs⟩ ⟨ys⟩ (by rw[hfs];exact hu) hst,hfs]
    exact this
   ·cases h
theorem sL: ∀(d D t:Nat),d<=D->Hk P σ D t (px P d t)
 |0,D,t,_=>by intro a b x y r w ha hb h;cases h
 |d+1,D,t,hD=>by
  obtain⟨D',rfl⟩: ∃D',D=D'+1:=⟨D - 1,by omega⟩
  intro a b x y r w ha hb h
  unfold px at h
  split at h
  ·rename_i u hu
   exact ZeU (lit:=true) hu (λt=>sL d D' t (by omega)) a b x y r w ha hb h
  ·cases h
def JK(P:Program)(σ:Mp)(t:Nat)(X Y:Operand)(f:AV->AV->Option Bool):Prop:=
 ∀(a b:AV) (x y:Value) (r:Bool) (w:World),Yn σ a x->Yn σ b y->f a b=some r->
  (∀op,(eqGuard op t X Y x y).run P w=.ok () w)∧(binOp .eql t x y).run P w=.ok (.bool r) w∧(binOp .neq t x y).run P w=.ok (.bool (!r)) w
def rQ(v:Value):Bool:=match v with|.int .. |.float .. |.complex .. |.string _=>false|_=>true
theorem aP{t:TypeId}{x y:Value}(h:rQ x=true):binOp .eql t x y=(do pure (.bool (<-Op.equal t x y))):=by
 cases x<;>first|(cases h;done)|(unfold binOp;rfl)
theorem aQ{t:TypeId}{x y:Value}(h:rQ x=true):binOp .neq t x y=(do pure (.bool (!(<-Op.equal t x y)))):=by
 cases x<;>first|(cases h;done)|(unfold binOp;rfl)
theorem NO{t:TypeId}{X Y:Operand}{x y:Value}{r:Bool}(h:rQ x=true)(hg: ∀op,(eqGuard op t X Y x y).run P w=.ok () w)(he:(Op.equalIn 10000 t x y).run P w=.ok r w):
  (∀op,(eqGuard op t X Y x y).run P w=.ok () w)∧(binOp .eql t x y).run P w=.ok (.bool r) w∧(binOp .neq t x y).run P w=.ok (.bool (!r)) w:=by
 have he:(Op.equal t x y).run P w=.ok r w:=he
 refine⟨hg,?_,?_⟩
 ·rw[aP h];simp[he]
 ·rw[aQ h];simp[he]
theorem UA{t:TypeId}{X Y:Operand}{x y:Value}(h1: ∀v,x≠.agg v)(h2:x≠.nilIface∨y≠.nilIface)(op:BinOp):(eqGuard op t X Y x y).run P w=.ok () w:=by
 cases op<;>simp only[eqGuard]<;>first
  |rfl
  |(cases x<;>first
    |rfl
    |exact absurd rfl (h1 _)
    |(cases y<;>first
      |rfl
      |(rcases h2 with h2|h2<;>exact absurd rfl h2)))
theorem ZnJ{t:TypeId}{X Y:Operand}(hu:P.underlying t=some .bool):JK P σ t X Y sK:=by
 intro a b x y r w ha hb h
 have he:=iP (D:=9999) hu a b x y r w ha hb h
 unfold sK at h
 split at h
 ·have ha:=TJ ha;subst ha
  exact NO rfl (UA (λ_ h=>by cases h) (.inl λh=>by cases h)) he
 ·cases h
theorem ZnP{t e:TypeId}{X Y:Operand}{i:TypeInfo}(hu:P.underlying t=some (.pointer e))(hi:P.info? e=some i)(h0:i.size≠0):JK P σ t X Y nV:=by
 intro a b x y r w ha hb h
 have he:=iU (D:=9999) hu hi h0 a b x y r w ha hb h
 have: ∃p,x=.pointer p:=by
  unfold nV at h
  split at h
  ·exact⟨_,MV ha⟩
  ·exact⟨_,MV ha⟩
  ·obtain⟨_,_,e1⟩:=Uu ha;exact⟨_,e1⟩
  ·obtain⟨_,_,e1⟩:=Uu ha;exact⟨_,e1⟩
  ·cases h
 obtain⟨p,rfl⟩:=this
 exact NO rfl (UA (λ_ h=>by cases h) (.inl λh=>by cases h)) he
theorem ZnM{t e:TypeId}{X Y:Operand}(hu:P.underlying t=some (.slice e)):JK P σ t X Y nU:=by
 intro a b x y r w ha hb h
 have he:=iR (D:=9999) hu a b x y r w ha hb h
 have: ∃p n c,x=.slice p n c:=by
  unfold nU at h
  split at h
  ·exact⟨_,_,_,Po ha⟩
  ·exact⟨_,_,_,Po ha⟩
  ·obtain⟨_,_,e1⟩:=Uq ha;exact⟨_,_,_,e1⟩
  ·exact⟨_,_,_,Po ha⟩
  ·obtain⟨_,e1⟩:=(by simpa only[Yn] using ha: ∃a,x=.slice (some a) 0 0);exact⟨_,_,_,e1⟩
  ·cases h
 obtain⟨p,n,c,rfl⟩:=this
 exact NO rfl (UA (λ_ h=>by cases h) (.inl λh=>by cases h)) he
theorem ZnN{t k e:TypeId}{X Y:Operand}(hu:P.underlying t=some (.map k e)):JK P σ t X Y eqM:=by
 intro a b x y r w ha hb h
 have he:=iS (D:=9999) hu a b x y r w ha hb h
 have: ∃p,x=.map p:=by
  unfold eqM at h
  split at h
  ·exact⟨_,Ot ha⟩
  ·exact⟨_,Ot ha⟩
  ·obtain⟨_,_,e1⟩:=Jh ha;exact⟨_,e1⟩
  ·cases h
 obtain⟨p,rfl⟩:=this
 exact NO rfl (UA (λ_ h=>by cases h) (.inl λh=>by cases h)) he
theorem ZnO{t:TypeId}{p q:Array TypeId}{v:Bool}{X Y:Operand}(hu:P.underlying t=some (.func p q v)):JK P σ t X Y eqN:=by
 intro a b x y r w ha hb h
 have he:=iT (D:=9999) hu a b x y r w ha hb h
 have:x=.nilFunc∨ ∃f m n,x=.func f m n:=by
  unfold eqN at h
  split at h
  ·exact .inl (MU ha)
  ·exact .inl (MU ha)
  ·obtain⟨_,_,_,_,e1⟩:=ND ha;exact .inr ⟨_,_,_,e1⟩
  ·cases h
 rcases this with rfl|⟨f,m,n,rfl⟩
 ·exact NO rfl (UA (λ_ h=>by cases h) (.inl λh=>by cases h)) he
 ·exact NO rfl (UA (λ_ h=>by cases h) (.inl λh=>by cases h)) he
theorem mE{t:TypeId}{X Y:Operand}(h:(LN X||LN Y)=true)(op:BinOp):(eqGuard op t X Y .nilIface .nilIface).run P w=.ok () w:=by
 have hc:((X matches .const _)||(Y matches .const _))=true:=by
  cases X<;>cases Y<;>first|rfl|cases h
 cases op<;>simp only[eqGuard]<;>first
  |rfl
  |(cases X<;>cases Y<;>first|rfl|cases h)
theorem ZnK{t:TypeId}{ms:Array (String×TypeId)}{X Y:Operand}(hu:P.underlying t=some (.interface ms)):JK P σ t X Y (jA (LN X||LN Y) (eqC P (px P 9))):=by
 intro a b x y r w ha hb h
 have he:=iQ (D:=9999) hu (λt=>sL 9 9999 t (by omega)) a b x y r w ha hb h
 unfold jA at h
 split at h
 ·cases hl:(LN X||LN Y) with
  |false=>rw[hl] at h;cases h
  |true=>
   have ha:=Pn ha;subst ha
   have hb:=Pn hb;subst hb
   exact NO rfl (mE hl) he
 ·have ha:=Pn ha;subst ha
  obtain⟨_,_,rfl⟩:=Tx hb
  exact NO rfl (UA (λ_ h=>by cases h) (.inr λh=>by cases h)) he
 ·obtain⟨_,_,rfl⟩:=Tx ha
  exact NO rfl (UA (λ_ h=>by cases h) (.inl λh=>by cases h)) he
 ·obtain⟨_,_,rfl⟩:=Tx ha
  exact NO rfl (UA (λ_ h=>by cases h) (.inl λh=>by cases h)) he
 ·cases h
theorem Zjr{t:TypeId}{X Y:Operand}(hag:(∃n e,P.underlying t=some (.array n e))∨ ∃fs,P.underlying t=some (.struct fs))(hg:P.eqGuardType P.depth t=false):JK P σ t X Y (px P 10 t):=by
 intro a b x y r w ha hb h
 have he:=sL 10 10000 t (by omega) a b x y r w ha hb h
 have hab:(∃l,a=.agg l)∧ ∃m,b=.agg m:=by
  unfold px at h
  have agg: ∀{k:List AV->List AV->Option Bool},tL a b k=some r->(∃l,a=.agg l)∧ ∃m,b=.agg m:=by
   intro k h
   unfold tL at h
   split at h
   ·exact⟨⟨_,rfl⟩,⟨_,rfl⟩⟩
   ·cases h
  rcases hag with⟨n,e,hu⟩|⟨fs,hu⟩
  ·rw[hu] at h
   exact agg h
  ·rw[hu] at h
   simp only[eqD] at h
   cases hst:P.stoodInHeld t with
   |true=>rw[hst] at h;cases h
   |false=>rw[hst] at h;exact agg h
 obtain⟨⟨l,rfl⟩,⟨m,rfl⟩⟩:=hab
 obtain⟨xs,_,_,rfl⟩:=LB ha
 obtain⟨ys,_,_,rfl⟩:=LB hb
 exact NO rfl (λop=>run_eqGuard_agg w op t X Y _ _ hg) he
theorem ZnL{t:TypeId}{X Y:Operand}:JK P σ t X Y Vp:=by
 intro a b x y r w ha hb h
 unfold Vp at h
 split at h
 ·rename_i j p k q
  cases hk:P3 j k with
  |false=>rw[hk] at h;cases h
  |true=>
   rw[hk] at h
   have:=S3 hk;subst this
   have h:some (Ge p q)=some r:=h
   cases h
   have ha:=X2 ha;subst ha
   have hb:=X2 hb;subst hb
   rw[Qr]
   exact⟨UA (λ_ h=>by cases h) (.inl λh=>by cases h),by simp[binOp,Op.intCmp],by simp[binOp,Op.intCmp,bne]⟩
 ·cases h
theorem ZnQ{t:TypeId}{X Y:Operand}:JK P σ t X Y PM:=by
 intro a b x y r w ha hb h
 unfold PM at h
 split at h
 ·rename_i p q
  cases h
  have ha:=V3 ha;subst ha
  have hb:=V3 hb;subst hb
  refine⟨UA (λ_ h=>by cases h) (.inl λh=>by cases h),?_,?_⟩
  ·simp[binOp,Op.stringOp,SL]
  ·simp[binOp,Op.stringOp,bne,SL]
 ·cases h
theorem Ms(hs:WE P σ H w)(hρ:Rn P σ tm ρ){o:Oper}{neg:Bool}{t u:TypeId}{x y:Operand}{f:AV->AV->Option Bool}(ho:o.op=.binOp (if neg then .neq else .eql) t x y u)(hf:JK P σ t x y f):
  Y5 P σ H w ((execOp ρ o).run P w) (WN (YV P x) (YV P y) f neg tm H):=by
 refine QD λr hr=>?_
 obtain⟨h1,h2,h3⟩:=hf _ _ _ _ r w (hρ x) (hρ y) hr
 refine IG hs ?_
 simp only[execOp,ho]
 refine Vc ?_
 rw[Sem.run_bind,h1]
 cases neg
 ·exact h2
 ·simp only[Result.andThen_ok]
  refine h3.trans ?_
  cases r<;>rfl
theorem dQ(hs:WE P σ H w)(hρ:Rn P σ tm ρ){o:Oper}{neg:Bool}{t u:TypeId}{x y:Operand}(ho:o.op=.binOp (if neg then .neq else .eql) t x y u):
  Y5 P σ H w ((execOp ρ o).run P w) (V1 P t (eqK P t (LN x||LN y) neg (YV P x) (YV P y)) tm H):=by
 refine Xq λd hu=>?_
 cases d<;>try exact trivial
 case bool=>exact Ms hs hρ ho (ZnJ hu)
 case int k=>exact Ms hs hρ ho ZnL
 case string=>exact Ms hs hρ ho ZnQ
 case pointer e=>
  show Y5 P σ H w _ ((match P.info? e with|some i=>cond (Nat.beq i.size 0) VZ (WN (YV P x) (YV P y) nV neg)|none=>VZ) tm H)
  cases hi:P.info? e with
  |none=>exact trivial
  |some i=>
   refine WT (λ_=>T6) λh0=>?_
   rw[Yy] at h0
   exact Ms hs hρ ho (ZnP hu hi (of_decide_eq_false h0))
 case slice e=>exact Ms hs hρ ho (ZnM hu)
 case map k e=>exact Ms hs hρ ho (ZnN hu)
 case func p q v=>exact Ms hs hρ ho (ZnO hu)
 case interface ms=>exact Ms hs hρ ho (ZnK hu)
 case array n e=>exact WT (λ_=>T6) λh0=>Ms hs hρ ho (Zjr (.inl ⟨n,e,hu⟩) h0)
 case struct fs=>exact WT (λ_=>T6) λh0=>Ms hs hρ ho (Zjr (.inr ⟨fs,hu⟩) h0)
theorem Zf0(hs:WE P σ H w)(hρ:Rn P σ tm ρ){o:Oper}{t u:TypeId}{x y:Operand}(ho:o.op=.binOp .eql t x y u):XC P σ H w tm ρ o:=by
 unfold XC
 have:=dQ (neg:=false) hs hρ ho
 rw[ho]
 exact this
theorem Zf7(hs:WE P σ H w)(hρ:Rn P σ tm ρ){o:Oper}{t u:TypeId}{x y:Operand}(ho:o.op=.binOp .neq t x y u):XC P σ H w tm ρ o:=by
 unfold XC
 have:=dQ (neg:=true) hs hρ ho
 rw[ho]
 exact this
theorem Yz.length: ∀{es:List SR} {l:List MapEntry},Yz σ es l->es.length=l.length
 |[],l,h=>by simp only[Yz] at h;subst h;rfl
 |a::es,l,h=>by simp only[Yz] at h;obtain⟨e,es',_,h2,rfl⟩:=h;simp[h2.length]
theorem N5:Yz σ [] []:=by simp[Yz]
theorem OZ{a:SR}{as:List SR}{e:MapEntry}{es:List MapEntry}(h:Mk σ a e)(h':Yz σ as es):Yz σ (a::as) (e::es):=by
 simp only[Yz];exact⟨e,es,h,h',rfl⟩
theorem Yz.cons_inv{a:SR}{as:List SR}{l:List MapEntry}(h:Yz σ (a::as) l): ∃e es,Mk σ a e∧Yz σ as es∧l=e::es:=by simpa [Yz] using h
structure Ec(P:Program)(σ:Mp)(kt:TypeId)(kd:TypeDesc)(eq:AV->AV->Option Bool):Prop where
 und:P.underlying kt=some kd
 check: ∀(b:Bool) (x:Value) (w:World),(Instr.checkKey b 10000 kt x).run P w=.ok () w
 now: ∀(a b:AV) (x y:Value) (r:Bool),Yn σ a x->Yn σ b y->eq a b=some r->Instr.sameNow kd x y=some r
 bits: ∀(a b:AV) (x y:Value),Yn σ a x->Yn σ b y->eq a b=some true->Instr.sameBits 10000 y x=true
 apart: ∀(k a b:AV) (t:Bool),L3 a b=true->eq k a=some t-> ∃u,eq k b=some u∧(t=true->u=false)
theorem L9{kt:TypeId}{kd:TypeDesc}(hu:P.underlying kt=some kd)(hk:(match kd with|.string|.int _|.bool=>true|_=>false)=true)(b:Bool)(x:Value)(w:World):(Instr.checkKey b 10000 kt x).run P w=.ok () w:=by
 cases kd<;>first|(cases hk;done)|skip
 all_goals
  unfold Instr.checkKey
  simp[run_underlying hu]
theorem Zm3{kt:TypeId}(hu:P.underlying kt=some .string):Ec P σ kt .string PM:=by
 refine⟨hu,λb x w=>L9 hu rfl b x w,?_,?_,?_⟩
 ·intro a b x y r ha hb h
  unfold PM at h
  split at h
  ·cases h
   rw[V3 ha,V3 hb,SL]
   show some (ByteArray.mk _==ByteArray.mk _)=_
   rw[beq_toListBytes,Jp,Jp]
  ·cases h
 ·intro a b x y ha hb h
  unfold PM at h
  split at h
  ·rename_i p q
   rw[SL] at h
   have h:p=q:=by simpa using h
   subst h
   rw[V3 ha,V3 hb]
   show(ByteArray.mk _==ByteArray.mk _)=true
   rw[beq_toListBytes]
   simp
  ·cases h
 ·intro k a b t hab h
  unfold L3 at hab
  split at hab
  ·rename_i p q
   cases k<;>try (cases h;done)
   rename_i s
   refine⟨NK s q,rfl,λht=>?_⟩
   subst ht
   have h:some (NK s p)=some true:=h
   rw[SL] at h hab ⊢
   have h:s=p:=by simpa using h
   subst h
   simpa using hab
  ·cases k<;>cases h
  ·cases hab
theorem Zm2{kt:TypeId}{k:IntKind}(hu:P.underlying kt=some (.int k)):Ec P σ kt (.int k) Vp:=by
 refine⟨hu,λb x w=>L9 hu rfl b x w,?_,?_,?_⟩
 ·intro a b x y r ha hb h
  unfold Vp at h
  split at h
  ·rename_i j p k q
   cases hk:P3 j k with
   |false=>rw[hk] at h;cases h
   |true=>
    rw[hk] at h
    have:=S3 hk;subst this
    cases h
    rw[X2 ha,X2 hb,Qr]
    simp[Instr.sameNow]
  ·cases h
 ·intro a b x y ha hb h
  unfold Vp at h
  split at h
  ·rename_i j p k q
   cases hk:P3 j k with
   |false=>rw[hk] at h;cases h
   |true=>
    rw[hk] at h
    have:=S3 hk;subst this
    have h:some (Ge p q)=some true:=h
    rw[Qr] at h
    have h:p=q:=by simpa using h
    subst h
    rw[X2 ha,X2 hb]
    simp[Instr.sameBits]
  ·cases h
 ·intro k a b t hab h
  unfold L3 at hab
  split at hab
  ·cases k<;>cases h
  ·rename_i j1 p j2 q
   cases k<;>try (cases h;done)
   rename_i j3 s
   obtain⟨h1,h2⟩:=Qm.1 hab
   have:=S3 h1;subst this
   unfold Vp at h ⊢
   cases hk:P3 j3 j1 with
   |false=>simp[hk] at h
   |true=>
    simp only[hk,cond_true,Option.some.injEq] at h ⊢
    refine⟨_,rfl,λht=>?_⟩
    subst ht
    rw[Qr] at h h2 ⊢
    have h:s=p:=by simpa using h
    subst h
    simpa using h2
  ·cases hab
theorem Zm1{kt:TypeId}(hu:P.underlying kt=some .bool):Ec P σ kt .bool sK:=by
 refine⟨hu,λb x w=>L9 hu rfl b x w,?_,?_,?_⟩
 ·intro a b x y r ha hb h
  unfold sK at h
  split at h
  ·rename_i p q
   cases h
   rw[TJ ha,TJ hb]
   cases p<;>cases q<;>rfl
  ·cases h
 ·intro a b x y ha hb h
  unfold sK at h
  split at h
  ·rename_i p q
   rw[TJ ha,TJ hb]
   cases p<;>cases q<;>first|rfl|cases h
  ·cases h
 ·intro k a b t hab h
  unfold L3 at hab
  split at hab
  ·cases k<;>cases h
  ·cases k<;>cases h
  ·cases hab
theorem za{r:Result Next}{kt:TypeId}{f:(AV->AV->Option Bool)->Vv}(h: ∀kd eq,Ec P σ kt kd eq->Y5 P σ H w r (f eq tm H)):Y5 P σ H w r (V1 P kt (fU f) tm H):=by
 refine Xq λd hu=>?_
 cases d<;>try exact trivial
 case string=>exact h _ _ (Zm3 hu)
 case int k=>exact h _ _ (Zm2 hu)
 case bool=>exact h _ _ (Zm1 hu)
theorem Fv{r:Result Next}{kt:TypeId}{kd:TypeDesc}{eq:AV->AV->Option Bool}(hk:Ec P σ kt kd eq){k:AV}{kv:Value}(hkr:Yn σ k kv){no:OR}{yes:AV->OR}: ∀(es:List SR) (l:List MapEntry) (i:Nat),Yz σ es l->
  (Instr.findNow kd kv l i=some none->Y5 P σ H w r no)->(∀j a v,Yn σ a v->Instr.findNow kd kv l i=some (some (j,v))->Y5 P σ H w r (yes a))->Y5 P σ H w r (Ug eq k no yes es)
 |[],l,i,h,h1,h2=>by
  simp only[Yz] at h;subst h
  exact h1 rfl
 |e::es,l,i,h,h1,h2=>by
  obtain⟨m,ms,g1,g2,rfl⟩:=h.cons_inv
  unfold Ug
  cases he:eq k e.key with
  |none=>exact trivial
  |some t=>
   have hn:=hk.now _ _ _ _ t hkr g1.1 he
   cases t with
   |true=>exact h2 i e.val m.val g1.2.1 (by simp only[Instr.findNow,hn])
   |false=>
    refine Fv hk hkr es ms (i+1) g2 (λq=>h1 ?_) (λj a v ha q=>h2 j a v ha ?_)
    ·simp only[Instr.findNow,hn];exact q
    ·simp only[Instr.findNow,hn];exact q
theorem J2{eq:AV->AV->Option Bool}{k:AV}{no:OR}{yes:AV->OR}: ∀{es fs:List SR},es.map Sg=fs.map Sg->Ug eq k no yes es=Ug eq k no yes fs
 |[],[],_=>rfl
 |[],_::_,h=>by cases h
 |_::_,[],h=>by cases h
 |e::es,f::fs,h=>by
  simp only[ZD,List.cons.injEq] at h
  obtain⟨h1,h2⟩:=h
  simp only[Sg,Prod.mk.injEq] at h1
  unfold Ug
  rw[h1.1,h1.2,J2 h2]
noncomputable def AZ(eq:AV->AV->Option Bool)(k:AV)(no:OR)(yes:AV->OR)(l:List (AV×AV)):OR:=Ug eq k no yes (l.map λp=>⟨p.1,p.2,0⟩)
theorem A0{eq:AV->AV->Option Bool}{k:AV}{no:OR}{yes:AV->OR}(es:List SR):AZ eq k no yes (es.map Sg)=Ug eq k no yes es:=by
 unfold AZ
 refine J2 ?_
 rw[Sj,Sj]
 rfl
theorem PO{eq:AV->AV->Option Bool}{k:AV}{no:OR}{yes:AV->OR}(p:AV×AV)(l:List (AV×AV)){t:Bool}(h:eq k p.1=some t):AZ eq k no yes (p::l)=cond t (yes p.2) (AZ eq k no yes l):=by
 show Ug eq k no yes (⟨p.1,p.2,0⟩::l.map λp=>⟨p.1,p.2,0⟩)=_
 unfold Ug
 rw[show eq k (⟨p.1,p.2,0⟩:SR).key=some t from h]
 rfl
theorem sP{eq:AV->AV->Option Bool}{k:AV}{no:OR}{yes:AV->OR}{l m:List (AV×AV)}(hp:l.Perm m)(ha: ∀p∈l,∃t,eq k p.1=some t)(hu:l.Pairwise λp q=>eq k p.1=some true->eq k q.1=some true->False):
  AZ eq k no yes l=AZ eq k no yes m:=by
 induction hp with
 |nil=>rfl
 |cons p _ ih=>
  obtain⟨t,ht⟩:=ha p (Zt ..)
  rw[PO _ _ ht,PO _ _ ht,ih (λq hq=>ha q (Zz _ hq)) (Sm.1 hu).2]
 |swap p q l=>
  obtain⟨t,ht⟩:=ha q (Zt ..)
  obtain⟨u,hu'⟩:=ha p (Zz _ (Zt ..))
  rw[PO _ _ ht,PO _ _ hu',PO _ _ hu',PO _ _ ht]
  cases t<;>cases u<;>try rfl
  exact((Sm.1 hu).1 p (Zt ..) ht hu').elim
 |trans h1 _ ih1 ih2=>
  rw[ih1 ha hu]
  exact ih2 (λq hq=>ha q (h1.mem_iff.2 hq)) ((h1.pairwise_iff (λh a b=>h b a)).1 hu)
theorem xm{kt:TypeId}{kd:TypeDesc}{eq:AV->AV->Option Bool}(hk:Ec P σ kt kd eq){k:AV}{no:OR}{yes:AV->OR}{es fs:List SR}(hp:(fs.map Sg).Perm (es.map Sg))(ha:es.Pairwise yA):
  Ug eq k no yes es=.fail∨Ug eq k no yes es=Ug eq k no yes fs:=by
 cases es with
 |nil=>
  rw[ZM] at hp
  have:=List.Perm.eq_nil hp
  cases fs with
  |nil=>exact .inr rfl
  |cons f fs=>cases this
 |cons e es=>
  cases he:eq k e.key with
  |none=>
   left
   unfold Ug
   rw[he]
  |some t=>
   right
   have hall: ∀f∈e::es,∃u,eq k f.key=some u:=by
    intro f hf
    rcases ZO.1 hf with rfl|hf
    ·exact⟨t,he⟩
    ·obtain⟨u,hu,_⟩:=hk.apart k e.key f.key t ((Sm.1 ha).1 f hf).1 he
     exact⟨u,hu⟩
   rw[<-A0 (e::es),<-A0 fs]
   refine(sP hp.symm (λp hp=>?_) ?_)
   ·obtain⟨f,hf,rfl⟩:=YQ.1 hp
    exact hall f hf
   ·rw[List.pairwise_map]
    refine ha.imp λ{a b} hab h1 h2=>?_
    obtain⟨u,h3,h4⟩:=hk.apart k a.key b.key true hab.1 h1
    have h2:eq k b.key=some true:=h2
    rw[h3,h4 rfl] at h2
    cases h2
theorem Rf{kt:TypeId}{kd:TypeDesc}(hu:P.underlying kt=some kd){kv:Value}{l:List MapEntry}{r:Option (Nat×Value)}(h:Instr.findNow kd kv l 0=some r):(Instr.findKey kt kv l).run P w=.ok r w:=by
 simp only[Instr.findKey,Sem.run_bind,run_underlying hu,Result.andThen_ok,h,Sem.run_pure]
theorem kn(hs:WE P σ H w)(hρ:Rn P σ tm ρ){o:Oper}{t:TypeId}{m k:Operand}{ok:Bool}(ho:o.op=.lookup t m k ok):XC P σ H w tm ρ o:=by
 unfold XC;rw[ho]
 refine Xq λd hu=>?_
 cases d<;>try exact trivial
 case map kt e=>
  refine za λkd eq hk=>XT λi hi=>Ut λz hz=>?_
  have g:=hρ m
  have CK: ∀{a:AV} {v:Value} {b:Bool},Yn σ a v->(execOp ρ o).run P w=.ok (.value (if ok then .tuple #[v,.bool b] else v)) w->Y5 P σ H w ((execOp ρ o).run P w) (JP ok H a b):=by
   intro a v b ha hr
   unfold JP
   cases ok with
   |true=>
    refine Yc hs hr ?_
    simp only[Yn]
    exact⟨[v,.bool b],Ww ha (Th (by simp[Yn])),rfl⟩
   |false=>exact Yc hs hr ha
  have vz: ∀{v:Value},(Instr.lookup t (ρ m) (ρ k) ok).run P w=.ok v w->(execOp ρ o).run P w=.ok (.value v) w:=λh=>by
   simp only[execOp,ho];exact Vc h
  refine HL (λhx=>?_) λb hx=>No λob G7=>?_
  ·rw[hx] at g
   refine CK (PL σ z) (vz ?_)
   rw[Ot g]
   have hf:=Rf (w:=w) (kv:=ρ k) (l:=(#[]:Array MapEntry).toList) hk.und (r:=none) rfl
   simp only[Instr.lookup,Sem.run_bind,run_underlying hu,Result.andThen_ok,Sem.run_pure,hk.check,hf,T9 hi hz]
  ·rw[hx] at g
   obtain⟨l,hl,e1⟩:=Jh g
   cases ob<;>try exact trivial
   case map es clock=>
    obtain⟨c,hc,ho'⟩:=hs.alive b _ l G7 hl
    obtain⟨ents,rfl,hr,_⟩:=ho'
    refine Fv hk (hρ k) es ents.toList 0 hr (λq=>?_) λj a v ha q=>?_
    ·refine CK (PL σ z) (vz ?_)
     rw[e1]
     have hf:=Rf (w:=w) hk.und q
     simp only[Instr.lookup,Sem.run_bind,run_underlying hu,Result.andThen_ok,Pp hc,Sem.run_pure,hk.check,hf,T9 hi hz]
    ·refine CK ha (vz ?_)
     rw[e1]
     have hf:=Rf (w:=w) hk.und q
     simp only[Instr.lookup,Sem.run_bind,run_underlying hu,Result.andThen_ok,Pp hc,Sem.run_pure,hk.check,hf]
   case cmap es=>
    obtain⟨c,hc,ho'⟩:=hs.alive b _ l G7 hl
    obtain⟨ents,clock,fs,rfl,hr,hp,ha⟩:=ho'
    show Y5 P σ H w _ (Ug _ _ _ _ es)
    rcases xm hk hp ha with hx2|hx2
    ·rw[hx2];exact trivial
    rw[hx2]
    refine Fv hk (hρ k) fs ents.toList 0 hr (λq=>?_) λj a v ha q=>?_
    ·refine CK (PL σ z) (vz ?_)
     rw[e1]
     have hf:=Rf (w:=w) hk.und q
     simp only[Instr.lookup,Sem.run_bind,run_underlying hu,Result.andThen_ok,Pp hc,Sem.run_pure,hk.check,hf,T9 hi hz]
    ·refine CK ha (vz ?_)
     rw[e1]
     have hf:=Rf (w:=w) hk.und q
     simp only[Instr.lookup,Sem.run_bind,run_underlying hu,Result.andThen_ok,Pp hc,Sem.run_pure,hk.check,hf]
theorem qb(hs:WE P σ H w){o:Oper}{t:TypeId}{r:Option Operand}(ho:o.op=.makeMap t r):XC P σ H w tm ρ o:=by
 unfold XC;rw[ho]
 cases r with
 |some r=>exact trivial
 |none=>
  refine VN (Tr.alloc hs (.map [] 0) (.map #[] 0) ⟨w.heap.size,0,0,1⟩ rfl ⟨#[],rfl,N5,by simp[G8]⟩) (x:=.map (some w.heap.size)) ?_ ?_
  ·simp only[execOp,ho]
   refine Vc ?_
   simp[Instr.makeMap]
  ·simp only[Yn];exact⟨_,Mp.put_same _ _ _,rfl⟩
theorem vf{r:Result Next}{kt:TypeId}{kd:TypeDesc}{eq:AV->AV->Option Bool}(hk:Ec P σ kt kd eq){k v:AV}{kv vv:Value}(hkr:Yn σ k kv)(hvr:Yn σ v vv){clock:Nat}: ∀(es:List SR) (l:List MapEntry) (i:Nat) (done:List SR->Nat->OR),Yz σ es l->
  (Instr.findNow kd kv l i=some none->(∀e∈es,True)->Y5 P σ H w r (done (es++[⟨k,v,clock⟩]) (clock+1)))->
  (∀j a m u,es[j]? =some a->l[j]? =some m->Mk σ a m->Instr.sameBits 10000 m.key kv=true->Instr.findNow kd kv l i=some (some (i+j,u))->Y5 P σ H w r (done (es.set j ⟨k,v,a.born⟩) clock))->
  Y5 P σ H w r (xn eq k v clock done es)
 |[],l,i,done,h,h1,h2=>by
  simp only[Yz] at h;subst h
  exact h1 rfl (by simp)
 |e::es,l,i,done,h,h1,h2=>by
  obtain⟨m,ms,g1,g2,rfl⟩:=h.cons_inv
  unfold xn
  cases he:eq k e.key with
  |none=>exact trivial
  |some t=>
   have hn:=hk.now _ _ _ _ t hkr g1.1 he
   cases t with
   |true=>
    have hb:=hk.bits _ _ _ _ hkr g1.1 he
    exact h2 0 e m m.val rfl rfl g1 hb (by simp only[Instr.findNow,hn,Zg])
   |false=>
    refine vf hk hkr hvr es ms (i+1) (λl' c=>done (e::l') c) g2 (λq _=>h1 ?_ (by simp)) (λj a m' u q1 q2 q3 q4 q5=>h2 (j+1) a m' u (by simpa using q1) (by simpa using q2) q3 q4 ?_)
    ·simp only[Instr.findNow,hn];exact q
    ·simp only[Instr.findNow,hn];rw[q5,show i+1+j=i+(j+1) by omega]
theorem Yz.append: ∀{es es2:List SR} {l l2:List MapEntry},Yz σ es l->Yz σ es2 l2->Yz σ (es++es2) (l++l2)
 |[],es2,l,l2,h,h'=>by simp only[Yz] at h;subst h;exact h'
 |a::es,es2,l,l2,h,h'=>by
  obtain⟨m,ms,g1,g2,rfl⟩:=h.cons_inv
  exact OZ g1 (g2.append h')
theorem Yz.set{a:SR}{m:MapEntry}(hm:Mk σ a m): ∀{es:List SR} {l:List MapEntry} (j:Nat),Yz σ es l->Yz σ (es.set j a) (l.set j m)
 |[],l,j,h=>by simp only[Yz] at h;subst h;simpa using N5
 |e::es,l,0,h=>by
  obtain⟨m',ms,g1,g2,rfl⟩:=h.cons_inv
  exact OZ hm g2
 |e::es,l,j+1,h=>by
  obtain⟨m',ms,g1,g2,rfl⟩:=h.cons_inv
  exact OZ g1 (g2.set hm j)
theorem qu{es:List SR}{c j:Nat}{a:SR}{k v:AV}(h:G8 es c)(ha:es[j]? =some a):G8 (es.set j ⟨k,v,a.born⟩) c:=by
 have key:(es.set j ⟨k,v,a.born⟩).map (·.born)=es.map (·.born):=by
  apply WQ
  intro i
  simp only[YE,Rp]
  by_cases hij:j=i
  ·subst hij
   have hlt:j<es.length:=by
    rcases Nat.lt_or_ge j es.length with h|h
    ·exact h
    ·rw[Y1 h] at ha;cases ha
   rw[if_pos rfl,if_pos hlt,ha]
   rfl
  ·simp[hij]
 obtain⟨h1,h2⟩:=h
 constructor
 ·have:((es.set j ⟨k,v,a.born⟩).map (·.born)).Pairwise (· < ·):=by rw[key];exact List.pairwise_map.2 h1
  exact List.pairwise_map.1 this
 ·intro e he
  have:e.born∈(es.set j ⟨k,v,a.born⟩).map (·.born):=TA he
  rw[key] at this
  obtain⟨e',he',h3⟩:=YQ.1 this
  rw[<-h3];exact h2 e' he'
theorem uA{es:List SR}{c:Nat}{k v:AV}(h:G8 es c):G8 (es++[⟨k,v,c⟩]) (c+1):=by
 obtain⟨h1,h2⟩:=h
 constructor
 ·rw[List.pairwise_append]
  refine⟨h1,by simp,λa ha b hb=>?_⟩
  rw[Zq] at hb;subst hb
  exact h2 a ha
 ·intro e he
  rcases Zr.1 he with he|he
  ·have:=h2 e he;omega
  ·rw[Zq] at he;subst he;exact YM c
theorem GK{g:Nat}{es:Array MapEntry}{c:Nat}(ob:Go.Obj)(h:w.heap[g]? =some (.map es c)): ∃w',(setObj g ob).run P w=.ok () w'∧Ay w w' g ob:=by
 refine⟨{w with heap:=w.heap.setIfInBounds g ob},by simp[setObj,Sem.run,h],⟨by simp,?_,λk hk=>?_,rfl,rfl,rfl⟩⟩
 ·have:g<w.heap.size:=(ZQ.1 h).1
  simp[YX,this]
 ·simp only[YX]
  rw[if_neg (λe=>hk e.symm)]
theorem ve(hs:WE P σ H w)(hρ:Rn P σ tm ρ){o:Oper}{t kt e:TypeId}{m k x:Operand}{kd:TypeDesc}{eq:AV->AV->Option Bool}(hu:P.underlying t=some (.map kt e))(hk:Ec P σ kt kd eq)
  (hex: ∀w',(Instr.mapUpdate t (ρ m) (ρ k) (ρ x)).run P w=.ok () w'->(execOp ρ o).run P w=.ok .skip w'):
  Y5 P σ H w ((execOp ρ o).run P w) (Dg eq (YV P m) (YV P k) (YV P x) tm H):=by
 have g:=hρ m
 refine HL (λ_=>trivial) λb hx=>No λob G7=>?_
 rw[hx] at g
 obtain⟨l,hl,e1⟩:=Jh g
 cases ob<;>try exact trivial
 case map es clock=>
  refine Yj λhro=>?_
  have hwr:Wr H b:=⟨ZR hro,_,G7,(λr h=>by cases h),λh=>by cases h⟩
  obtain⟨c,hc,ho'⟩:=hs.alive b _ l G7 hl
  obtain⟨ents,rfl,hr,hris⟩:=ho'
  refine vf hk (hρ k) (hρ x) es ents.toList 0 _ hr (λq _=>?_) λj a mm u q1 q2 q3 q4 q5=>?_
  ·obtain⟨w',hrun,hw⟩:=GK (P:=P) (.map (ents.push {key:=ρ k,val:=ρ x,born:=clock}) (clock+1)) hc
   refine⟨σ,w',undef,.inr ⟨hex w' ?_,rfl⟩,by simp[Xz,undef,Yn,YR],Tr.write hs G7 hl hwr hw.size hw.new hw.old ⟨_,rfl,?_,uA hris⟩ hw.tape hw.os hw.out⟩
   ·rw[e1]
    have hf:=Rf (w:=w) hk.und q
    simp only[Instr.mapUpdate,Sem.run_bind,run_underlying hu,Result.andThen_ok,Pp hc,hk.check,hf,hrun]
   ·rw[Array.toList_push]
    exact hr.append (OZ ⟨hρ k,hρ x,rfl⟩ N5)
  ·obtain⟨w',hrun,hw⟩:=GK (P:=P) (.map (ents.modify j λe=>{e with key:=ρ k,val:=ρ x}) clock) hc
   refine⟨σ,w',undef,.inr ⟨hex w' ?_,rfl⟩,by simp[Xz,undef,Yn,YR],Tr.write hs G7 hl hwr hw.size hw.new hw.old ⟨_,rfl,?_,qu hris q1⟩ hw.tape hw.os hw.out⟩
   ·rw[e1]
    have hf:=Rf (w:=w) hk.und q5
    rw[Zd] at hf
    have hej:ents[j]? =some mm:=by rw[<-Yf];exact q2
    simp only[Instr.mapUpdate,Sem.run_bind,run_underlying hu,Result.andThen_ok,Pp hc,hk.check,hf,hej,XZ,Option.getD_some,Instr.keyThatStays,q4,if_true,Sem.run_pure,hrun]
   ·have e2:(ents.modify j λe=>{e with key:=ρ k,val:=ρ x}).toList=ents.toList.set j {mm with key:=ρ k,val:=ρ x}:=by
     apply WQ
     intro i
     rw[Yf,WB,Rp]
     by_cases hij:j=i
     ·subst hij
      have hlt:j<ents.toList.length:=by
       rcases Nat.lt_or_ge j ents.toList.length with h|h
       ·exact h
       ·rw[Y1 h] at q2;cases q2
      have hej:ents[j]? =some mm:=by rw[<-Yf];exact q2
      rw[if_pos rfl,if_pos rfl,if_pos hlt,hej];rfl
     ·rw[if_neg hij,if_neg hij,Yf]
    rw[e2]
    exact Yz.set (a:=⟨YV P k tm,YV P x tm,a.born⟩) (m:={mm with key:=ρ k,val:=ρ x}) ⟨hρ k,hρ x,q3.2.2⟩ j hr
theorem Gt(hs:WE P σ H w)(hρ:Rn P σ tm ρ){o:Oper}{t:TypeId}{m k x:Operand}(ho:o.op=.mapUpdate t m k x∨o.op=.insert t m k x):XC P σ H w tm ρ o:=by
 have hex: ∀w',(Instr.mapUpdate t (ρ m) (ρ k) (ρ x)).run P w=.ok () w'->(execOp ρ o).run P w=.ok .skip w':=by
  intro w' h
  rcases ho with ho|ho<;>simp[execOp,ho,h]
 have key:Y5 P σ H w ((execOp ρ o).run P w) (V1 P t (λd=>match d with|.map kt _=>V1 P kt<|fU λeq=>Dg eq (YV P m) (YV P k) (YV P x)|_=>VZ) tm H):=by
  refine Xq λd hu=>?_
  cases d<;>try exact trivial
  case map kt e=>exact za λkd eq hk=>ve hs hρ hu hk hex
 unfold XC
 rcases ho with ho|ho
 ·rw[ho];exact key
 ·rw[ho];exact key
theorem dU(hs:WE P σ H w)(hρ:Rn P σ tm ρ){o:Oper}{t:TypeId}{x:Operand}(ho:o.op=.range t x):XC P σ H w tm ρ o:=by
 unfold XC;rw[ho]
 refine Xq λd hu=>?_
 have g:=hρ x
 have hex: ∀{v:Value} {w':World},(Instr.range t (ρ x)).run P w=.ok v w'->(execOp ρ o).run P w=.ok (.value v) w':=λh=>by
  simp only[execOp,ho];exact Vc h
 cases d<;>try exact trivial
 case string=>
  refine Oe λs hx=>?_
  rw[hx] at g
  refine VN (Tr.alloc hs (.siter s 0) (.stringIter ⟨s.toArray⟩ 0) ⟨w.heap.size,0,0,1⟩ rfl ⟨rfl,rfl⟩) (hex ?_) (Ji rfl)
  rw[V3 g]
  simp[Instr.range,run_underlying hu]
 case map kt e=>
  refine HL (λhx=>?_) λb hx=>No λob G7=>?_
  ·rw[hx] at g
   refine VN (Tr.alloc hs (.miter none 0 none) (.mapIter none 0 #[] 0) ⟨w.heap.size,0,0,1⟩ rfl ⟨#[],0,rfl,(λ_ h=>by cases h),rfl,rfl,rfl⟩) (hex ?_) (Ji rfl)
   rw[Ot g]
   simp[Instr.range,run_underlying hu]
  ·rw[hx] at g
   obtain⟨l,hl,e1⟩:=Jh g
   cases ob<;>try exact trivial
   case map es clock=>
    obtain⟨c,hc,ho'⟩:=hs.alive b _ l G7 hl
    obtain⟨ents,rfl,hr,_⟩:=ho'
    have hlt:=hs.dom b l hl
    have hput:(σ.put H.nx ⟨w.heap.size,0,0,1⟩) b=some l:=by rw[Mp.put_old (by omega)];exact hl
    refine VN (Tr.alloc hs (.miter (some b) clock none) (.mapIter (some l.blk) clock #[] clock) ⟨w.heap.size,0,0,1⟩ rfl ⟨#[],clock,?_,?_,rfl,rfl,rfl⟩) (hex ?_) (Ji rfl)
    ·simp[hput]
    ·intro b' hb';cases hb';rw[hput];rfl
    ·rw[e1]
     simp[Instr.range,run_underlying hu,Pp hc]
theorem uE{b:Nat}{s:ByteArray}{c:Nat}(h:w.heap[b]? =some (.stringIter s c)):(getObj b).run P w=.ok (.stringIter s c) w:=by simp[getObj,Sem.run,h]
theorem Bx{b:Nat}{m:Option Nat}{a:Nat}{s:Array Nat}{c:Nat}(h:w.heap[b]? =some (.mapIter m a s c)):(getObj b).run P w=.ok (.mapIter m a s c) w:=by simp[getObj,Sem.run,h]
theorem Aq{g:Nat}{s:ByteArray}{c:Nat}(ob:Go.Obj)(h:w.heap[g]? =some (.stringIter s c)): ∃w',(setObj g ob).run P w=.ok () w'∧Ay w w' g ob:=by
 refine⟨{w with heap:=w.heap.setIfInBounds g ob},by simp[setObj,Sem.run,h],⟨by simp,?_,λk hk=>?_,rfl,rfl,rfl⟩⟩
 ·have:g<w.heap.size:=(ZQ.1 h).1
  simp[YX,this]
 ·simp only[YX]
  rw[if_neg (λe=>hk e.symm)]
theorem ZbR(hs:WE P σ H w)(hρ:Rn P σ tm ρ){o:Oper}{x:Operand}{b:Bool}(ho:o.op=.next x b):XC P σ H w tm ρ o:=by
 unfold XC;rw[ho]
 refine WT (λhb=>?_) λ_=>T6
 subst hb
 have g:=hρ x
 refine Q4 λb off hx=>Yj λh0=>Yj λhro=>No λob G7=>?_
 rw[hx] at g
 obtain⟨l,hl,e1⟩:=Uu g
 rw[Yy] at h0
 have h0:off=0:=Zm h0
 subst h0
 cases ob<;>try exact trivial
 case siter s pos=>
  have hwr:Wr H b:=⟨ZR hro,_,G7,(λr h=>by cases h),λh=>by cases h⟩
  obtain⟨c,hc,ho'⟩:=hs.alive b _ l G7 hl
  obtain⟨rfl,hbase⟩:=ho'
  rw[hbase] at e1
  have hex: ∀{v:Value} {w':World},(Instr.next (ρ x) true o.type).run P w=.ok v w'->(execOp ρ o).run P w=.ok (.value v) w':=λh=>by
   simp only[execOp,ho];exact Vc h
  have hsz:(ByteArray.mk s.toArray).size=s.length:=Mh s
  refine Uo (λhlt=>?_) λhlt=>?_
  ·rw[Xh,YF] at hlt
   have hlt:pos<s.length:=Zm hlt
   cases hdec:Utf8.decode ⟨s.toArray⟩ pos with
   |mk ch wd=>
   obtain⟨w',hrun,hw⟩:=Aq (P:=P) (.stringIter ⟨s.toArray⟩ (pos+wd)) hc
   refine VN (Tr.write hs G7 hl hwr hw.size hw.new hw.old ⟨rfl,hbase⟩ hw.tape hw.os hw.out) (x:=.tuple #[.bool true,goInt pos,.int .i32 ch]) (hex ?_) ?_
   ·rw[e1]
    simp only[Instr.next,Zd,Sem.run_bind,uE hc,Result.andThen_ok,hsz,if_pos hlt,hdec,hrun,Sem.run_pure]
   ·simp only[Yn]
    exact⟨[.bool true,goInt pos,.int .i32 ch],Ww (by simp[Yn]) (Ww (by simp[Yn,goInt]) (Th (by simp[Yn]))),rfl⟩
  ·rw[Xh,YF] at hlt
   have hlt: ¬(pos<s.length):=of_decide_eq_false hlt
   refine Yc hs (x:=.tuple #[.bool false]) (hex ?_) ?_
   ·rw[e1]
    simp only[Instr.next,Zd,Sem.run_bind,uE hc,Result.andThen_ok,hsz,if_neg hlt,Sem.run_pure]
   ·simp only[Yn]
    exact⟨[.bool false],Th (by simp[Yn]),rfl⟩
theorem A9{r:Result Next}{n:Nat}{k:SR->OR}: ∀(es:List SR) (l:List MapEntry),Yz σ es l->(∀a m,Mk σ a m->l.find? (·.born==n)=some m->Y5 P σ H w r (k a))->Y5 P σ H w r (yR n k es)
 |[],l,h,g=>trivial
 |a::es,l,h,g=>by
  obtain⟨m,ms,h1,h2,rfl⟩:=h.cons_inv
  refine Uo (λhe=>g a m h1 ?_) λhe=>A9 es ms h2 λa' m' h3 h4=>g a' m' h3 ?_
  ·rw[Yy] at he
   have he:a.born=n:=Zm he
   rw[List.find?_cons_of_pos (by simp[<-h1.2.2,he])]
  ·rw[Yy] at he
   have he: ¬a.born=n:=of_decide_eq_false he
   rw[List.find?_cons_of_neg (by simp[<-h1.2.2,he])]
   exact h4
theorem dP(hs:WE P σ H w)(hρ:Rn P σ tm ρ){o:Oper}{x:Operand}(ho:o.op=.entry x):XC P σ H w tm ρ o:=by
 unfold XC;rw[ho]
 have g:=hρ x
 refine Q4 λb off hx=>Yj λh0=>No λob G7=>?_
 rw[hx] at g
 obtain⟨l,hl,e1⟩:=Uu g
 rw[Yy] at h0
 have h0:off=0:=Zm h0
 subst h0
 show Y5 P σ H w _ (yB ob _)
 unfold yB
 split
 ·rename_i m since n st
  obtain⟨c,hc,ho'⟩:=hs.alive b _ l G7 hl
  obtain⟨seen,st',rfl,hm,hbase,hback,rfl⟩:=ho'
  rw[hbase] at e1
  refine No λom hom=>?_
  cases om<;>try exact trivial
  case map es clock=>
   refine Yj λhcl=>?_
   rw[Yy] at hcl
   have hcl:clock=st':=Zm hcl
   subst hcl
   obtain⟨lm,hlm⟩:=VM.1 (hm m rfl)
   obtain⟨cm,hcm,ZmJ⟩:=hs.alive m _ lm hom hlm
   obtain⟨ents,rfl,hr,_⟩:=ZmJ
   refine A9 es ents.toList hr λa me hae hf=>?_
   refine Yc hs (x:=.tuple #[me.key,me.val]) ?_ ?_
   ·simp only[execOp,ho]
    refine Vc ?_
    rw[e1]
    have hf':ents.find? (λx=>x.born==n)=some me:=by rw[<-Array.find?_toList];exact hf
    simp only[Option.bind_some,hlm,XZ] at hc
    simp only[Instr.entry,Zd,Sem.run_bind,Bx hc,Result.andThen_ok,hback,Pp hcm,bne_self_eq_false,XA,if_false,hf',Sem.run_pure]
   ·simp only[Yn]
    exact⟨[me.key,me.val],Ww hae.1 (Th hae.2.1),rfl⟩
 ·trivial
theorem r8(hs:WE P σ H w)(hρ:Rn P σ tm ρ){o:Oper}{x:Operand}{xt t:TypeId}{ok:Bool}(ho:o.op=.typeAssert x xt t ok):XC P σ H w tm ρ o:=by
 unfold XC;rw[ho]
 refine XT λi hi=>Ut λz hz=>Xq λd hu=>?_
 have g:=hρ x
 have hex: ∀{v:Value} {w':World},(Instr.typeAssert (ρ x) xt t ok).run P w=.ok v w'->(execOp ρ o).run P w=.ok (.value v) w':=λh=>by
  simp only[execOp,ho];exact Vc h
 have pS:=T9 (w:=w) hi hz
 have no:(∀(h:ok=true),(Instr.typeAssert (ρ x) xt t ok).run P w=.ok (.tuple #[z,.bool false]) w)->Y5 P σ H w ((execOp ρ o).run P w) (QZ (W1 z) ok H none):=by
  intro h
  cases ok with
  |false=>exact trivial
  |true=>
   refine Yc hs (hex (h rfl)) ?_
   simp only[Yn]
   exact⟨[z,.bool false],Ww (PL σ z) (Th (by simp[Yn])),rfl⟩
 have yes: ∀{a:AV} {v:Value},Yn σ a v->(Instr.typeAssert (ρ x) xt t ok).run P w=.ok (if ok then .tuple #[v,.bool true] else v) w->Y5 P σ H w ((execOp ρ o).run P w) (QZ (W1 z) ok H (some a)):=by
  intro a v ha h
  cases ok with
  |false=>exact Yc hs (hex h) ha
  |true=>
   refine Yc hs (hex h) ?_
   simp only[Yn]
   exact⟨[v,.bool true],Ww ha (Th (by simp[Yn])),rfl⟩
 by_cases hd: ∃ms,d=.interface ms
 ·obtain⟨ms,rfl⟩:=hd
  show Y5 P σ H w _ (v8 (YV P x) P (Zbw P t) (W1 z) ok tm H)
  have hms:Zbw P t=ms:=by unfold Zbw;rw[hu]
  rw[hms]
  refine Nn (λhx=>?_) λu v hx=>QD λiu hiu=>?_
  ·rw[hx] at g
   have g:=Pn g
   refine no λh=>?_
   rw[g]
   simp[Instr.typeAssert,run_underlying hu,h,pS]
  ·rw[hx] at g
   obtain⟨y,hy,e1⟩:=Tx g
   have hti:(typeInfo u).run P w=.ok iu w:=by simp[typeInfo,hiu]
   cases hmm:Instr.missingMethod ms iu.methods with
   |none=>
    refine yes (v:=ρ x) (by rw[<-hx];exact hρ x) ?_
    rw[e1]
    simp[Instr.typeAssert,run_underlying hu,hti,hmm]
   |some m=>
    refine no λh=>?_
    rw[e1]
    simp[Instr.typeAssert,run_underlying hu,hti,hmm,h,pS]
 ·have hd: ∀ms,d≠.interface ms:=λms h=>hd ⟨ms,h⟩
  have key:Y5 P σ H w ((execOp ρ o).run P w) (Df (YV P x) t (W1 z) ok tm H):=by
   refine Nn (λhx=>?_) λu v hx=>?_
   ·rw[hx] at g
    have g:=Pn g
    refine no λh=>?_
    rw[g]
    cases d<;>first
     |exact absurd rfl (hd _)
     |simp[Instr.typeAssert,run_underlying hu,h,pS]
   ·rw[hx] at g
    obtain⟨y,hy,e1⟩:=Tx g
    rw[Yy]
    by_cases hut:u=t
    ·rw[Ze hut]
     refine yes hy ?_
     rw[e1]
     cases d<;>first
      |exact absurd rfl (hd _)
      |simp[Instr.typeAssert,run_underlying hu,hut]
    ·rw[Zb hut]
     refine no λh=>?_
     rw[e1]
     cases d<;>first
      |exact absurd rfl (hd _)
      |simp[Instr.typeAssert,run_underlying hu,hut,h,pS]
  cases d<;>first
   |exact absurd rfl (hd _)
   |exact key
theorem zP(hρ:Rn P σ tm ρ)(l:Array Operand):YR σ (evs tm (args P l)) (l.map ρ).toList:=by
 have:=KF hρ l.toList
 unfold args
 simpa using this
theorem IF{r:Result Next}{f:Nat}{as:List AV}{vs:List Value}(hr:YR σ as vs)(h:r=(callFunc f ⟨vs⟩).run P w):Y5 P σ H w r (.oth (.call f as H)):=⟨rfl,vs,hr,h⟩
theorem yY{r:Result Next}{name:String}{u:Nat}{k:Nat->OR}
  (h: ∀g,(∀(n:Nat) (v:Value),(method (n+1) u v name).run P w=.ok (g,v) w)->Y5 P σ H w r (k g)):Y5 P σ H w r (Gj P name u k):=by
 refine QD λi hi=>QD λm hm=>Yj λhp=>?_
 have hti:(typeInfo u).run P w=.ok i w:=by simp[typeInfo,hi]
 have hpl:m.path.toList=[]:=by
  have:m.path= #[]:=by simpa using hp
  rw[this]
 cases hf:m.func with
 |none=>exact trivial
 |some q=>
  obtain⟨g,ptr⟩:=q
  show Y5 P σ H w r (match P.underlying u with
   |some (.pointer _)=>ZP ptr (k g)
   |some _=>cond ptr .fail (k g)
   |none=>.fail)
  cases hu:P.underlying u with
  |none=>exact trivial
  |some d=>
   have base: ∀(n:Nat) (v:Value),(method (n+1) u v name).run P w=(do pure (g,<-receiverAt u (.val v) ptr (if m.path.isEmpty then some ((name.splitOn ".").getLastD name) else none)):Sem (FuncId×Value)).run P w:=by
    intro n v
    simp only[method,Sem.run_bind,hti,Result.andThen_ok,hm,hpl,follow,Sem.run_pure,hf]
   cases d<;>first
    |(refine Yj λZmM=>h g λn v=>?_
      subst ZmM
      rw[base]
      simp[receiverAt,run_underlying hu,Place.get]
      done)
    |(cases ptr with
      |true=>exact trivial
      |false=>
       refine h g λn v=>?_
       rw[base]
       simp[receiverAt,run_underlying hu,Place.get])
theorem Bw{name:String}{u g:Nat}{v:Value}{args:Array Value}(h: ∀(n:Nat) (v:Value),(method (n+1) u v name).run P w=.ok (g,v) w):(callMethod (.iface u v) name args).run P w=(callFunc g (#[v]++args)).run P w:=by
 have:(P.types.size+Made.depth)=(P.types.size+Made.depth - 1)+1:=by
  have:0<Made.depth:=by decide
  omega
 simp only[callMethod,Sem.run_bind,run_program,Result.andThen_ok]
 rw[this,h]
 rfl
theorem Eu{r:Result Next}{n:String}{u:Nat}{a:AV}{x:Value}{as:List AV}{vs:List Value}(ha:Yn σ a x)(hr:YR σ as vs)(h:r=(callMethod (.iface u x) n ⟨vs⟩).run P w):
  Y5 P σ H w r (Gj P n u λg=>.oth (.call g (a::as) H)):=by
 refine yY λg hm=>IF (vs:=x::vs) (Ww ha hr) ?_
 rw[h,Bw hm]
 congr 2
 apply Array.ext'
 simp
theorem Ez(name:String)(cap:Array Value)(r:Value)(as:Array Value):invoke (.fn (.method name) cap) (#[r]++as)=callMethod r name ⟨as.toList⟩:=by
 have h1:(#[r]++as)[0]? =some r:=by rw[Array.getElem?_append_left (by simp)];rfl
 have h2:(#[r]++as).extract 1 (#[r]++as).size=⟨as.toList⟩:=by
  apply Array.ext'
  simp[W4]
 simp only[invoke,h1,h2]
theorem ZbM(hs:WE P σ H w)(hρ:Rn P σ tm ρ){o:Oper}{c:Call}(ho:o.op=.call c)(hb: ∀b,c.callee≠.builtin b):XC P σ H w tm ρ o:=by
 unfold XC;rw[ho]
 have hargs:=zP hρ c.args
 have hex:(execOp ρ o).run P w=(do let d<-resolve ρ c o.type;invoke d.target d.args:Sem Next).run P w:=by simp only[execOp,ho]
 rw[hex]
 show Y5 P σ H w _ (j8 P c tm H)
 unfold j8
 cases hc:c.callee with
 |builtin b=>exact absurd hc (hb b)
 |invoke rv name=>
  have g:=hρ rv
  refine Nn (λ_=>trivial) λu a hx=>?_
  rw[hx] at g
  obtain⟨x,hx',e1⟩:=Tx g
  refine Eu hx' hargs ?_
  simp only[resolve,hc,Sem.run_bind,Sem.run_pure,Result.andThen_ok,Ez,e1]
 |value f=>
  have gen:Y5 P σ H w ((do let d<-resolve ρ c o.type;invoke d.target d.args:Sem Next).run P w) (MO (YV P f) P (args P c.args) tm H):=by
   have g:=hρ f
   unfold MO
   split
   ·rename_i fn a b hx
    rw[hx] at g
    obtain⟨x,y,h1,h2,e1⟩:=ND g
    refine IF (h1.append (hargs.append h2)) ?_
    simp only[resolve,hc,e1,Deferred.ofValue,Sem.run_bind,Sem.run_pure,Result.andThen_ok,invoke]
    congr 2
    apply Array.ext'
    simp
   ·rename_i n rv hx
    rw[hx] at g
    simp only[Yn] at g
    obtain⟨x,h1,e1⟩:=g
    refine Nn (λ_=>trivial) λu a hrv=>?_
    rw[hrv] at h1
    obtain⟨y,hy,e2⟩:=Tx h1
    refine Eu hy hargs ?_
    simp only[resolve,hc,e1,Deferred.ofValue,Sem.run_bind,Sem.run_pure,Result.andThen_ok,e2]
    exact congrArg (λs=>s.run P w) (Ez n #[] (.iface u y) (Array.map ρ c.args))
   ·rename_i b hx
    rw[hx] at g
    simp only[Yn] at g
    obtain⟨l,hl,e1⟩:=g
    refine⟨rfl,l,_,hl,hargs,?_⟩
    simp only[resolve,hc,e1,Deferred.ofValue,Sem.run_bind,Sem.run_pure,Result.andThen_ok,invoke]
    congr 2
    apply Array.ext'
    simp
   ·trivial
  cases f with
  |func fn=>
   have g:=hρ (.func fn)
   have g:Yn σ (.func fn [] []) (ρ (.func fn)):=g
   obtain⟨x,y,h1,h2,e1⟩:=ND g
   have h1:=h1.nil_inv
   have h2:=h2.nil_inv
   subst h1;subst h2
   refine IF hargs ?_
   simp only[resolve,hc,e1,Deferred.ofValue,Sem.run_bind,Sem.run_pure,Result.andThen_ok,invoke]
   congr 2
   apply Array.ext'
   simp
  |tmp t=>exact gen
  |const v=>exact gen
  |global v=>exact gen
theorem Cq{r:Result Next}{a:AV}{x:Value}(ha:Yn σ a x)(h: ∀v,(Instr.panic x).run P w=.halt v w->r=.halt v w):Y5 P σ H w r (Pj a .fail λ_ _=>.oth (.pan a H)):=by
 refine Nn (λ_=>trivial) λu b hx=>?_
 rw[hx] at ha
 obtain⟨y,hy,e1⟩:=Tx ha
 refine⟨rfl,x,by rw[hx];exact ha,h _ ?_⟩
 rw[e1]
 rfl
theorem dT(hs:WE P σ H w)(hρ:Rn P σ tm ρ){o:Oper}{x:Operand}(ho:o.op=.panic x):XC P σ H w tm ρ o:=by
 unfold XC;rw[ho]
 refine Cq (hρ x) λv h=>?_
 simp only[execOp,ho]
 simp[h]
theorem kq(hs:WE P σ H w)(hρ:Rn P σ tm ρ){o:Oper}{xs:List Operand}{ts:List TypeId}(ho:o.op=.call ⟨.builtin .panic,⟨xs⟩,⟨ts⟩⟩):XC P σ H w tm ρ o:=by
 refine UV ho λcs=>?_
 rcases xs with _|⟨x,_|⟨_,_⟩⟩<;>try exact trivial
 refine Cq (hρ x) λv h=>?_
 show((do pure (Next.value (<-Instr.panic (ρ x)))):Sem Next).run P w=_
 simp[h]
theorem qd(hs:WE P σ H w)(hρ:Rn P σ tm ρ){o:Oper}{xs:List Operand}{ts:List TypeId}(ho:o.op=.call ⟨.builtin .recover,⟨xs⟩,⟨ts⟩⟩):XC P σ H w tm ρ o:=by
 refine UV ho λcs=>?_
 rfl
theorem dO(hs:WE P σ H w)(hρ:Rn P σ tm ρ){o:Oper}{c:Call}(ho:o.op=.defer c):XC P σ H w tm ρ o:=by
 unfold XC;rw[ho]
 show Y5 P σ H w _ ((match c.callee with|.value f=>Ba (YV P f) (args P c.args)|_=>VZ) tm H)
 cases hc:c.callee with
 |builtin b=>exact trivial
 |invoke rv name=>exact trivial
 |value f=>
  intro g a b hx
  have g1:=hρ f
  rw[hx] at g1
  obtain⟨x,y,h1,h2,e1⟩:=ND g1
  refine⟨x,_,y,h1,zP hρ c.args,h2,?_⟩
  simp only[execOp,ho,resolve,hc,e1,Deferred.ofValue,Sem.run_bind,Sem.run_pure,Result.andThen_ok]
  congr 3
  apply Array.ext'
  simp
theorem MB(hs:WE P σ H w)(hρ:Rn P σ tm ρ)(o:Oper):XC P σ H w tm ρ o:=by
 cases ho:o.op with
 |move x=>exact ZbQ hs hρ ho
 |assign x=>exact kl hs hρ ho
 |pick c a b=>exact ZbS hs hρ ho
 |alloc t=>exact dM hs ho
 |box t x=>exact ZfY hs hρ ho
 |build t ps=>exact dN hs hρ ho
 |buildSlice t n ps=>exact km hs hρ ho
 |load t a=>exact ZbO hs hρ ho
 |store t a x=>exact dW hs hρ ho
 |nilCheck x=>exact Zf8 hs hρ ho
 |binOp op t x y u=>cases op with
  |add=>exact ZfX hs hρ ho
  |sub=>exact Zgd hs hρ ho
  |mul=>exact Zf6 hs hρ ho
  |quo=>exact Zf9 hs hρ ho
  |rem=>exact Zga hs hρ ho
  |and=>unfold XC;have h:=Dm (f:=RI) hs hρ ho (.inl ⟨rfl,rfl⟩);rw[ho];exact h
  |or=>unfold XC;have h:=Dm (f:=eN) hs hρ ho (.inr (.inl ⟨rfl,rfl⟩));rw[ho];exact h
  |xor=>unfold XC;have h:=Dm (f:=ah) hs hρ ho (.inr (.inr (.inl ⟨rfl,rfl⟩)));rw[ho];exact h
  |andNot=>unfold XC;have h:=Dm (f:=Ho) hs hρ ho (.inr (.inr (.inr ⟨rfl,rfl⟩)));rw[ho];exact h
  |shl=>exact Zgb hs hρ ho
  |shr=>exact Zgc hs hρ ho
  |eql=>exact Zf0 hs hρ ho
  |neq=>exact Zf7 hs hρ ho
  |lss=>exact Zf5 hs hρ ho
  |gtr=>exact Zf2 hs hρ ho
  |leq=>exact Zf4 hs hρ ho
  |geq=>exact Zf1 hs hρ ho
 |unOp op t x=>exact ZiH hs hρ ho
 |convert s d x=>exact r9 hs hρ ho
 |makeInterface t x=>
  unfold XC;rw[ho]
  refine Xq λd hu=>?_
  have h:=λhd=>ZbP hs hρ ho hu hd
  cases d<;>first
   |exact trivial
   |exact h rfl
 |makeFunc fn a b=>exact ko hs hρ ho
 |makeMap t r=>exact qb hs ho
 |mapUpdate t m k x=>exact Gt hs hρ (.inl ho)
 |insert t m k x=>exact Gt hs hρ (.inr ho)
 |lookup t m k ok=>exact kn hs hρ ho
 |makeSlice t l c=>exact qc hs hρ ho
 |slice t x lo hi mx=>exact dV hs hρ ho
 |fieldAddr t x f=>exact xH hs hρ ho
 |field t x f=>exact dR hs hρ ho
 |indexAddr t x i=>exact xI hs hρ ho
 |index t x i=>exact dS hs hρ ho
 |typeAssert x xt t ok=>exact r8 hs hρ ho
 |extract x i=>exact qa hs hρ ho
 |call c=>
  by_cases hb: ∃b,c.callee=.builtin b
  ·obtain⟨b,hb⟩:=hb
   obtain⟨callee,⟨xs⟩,⟨ts⟩⟩:=c
   subst hb
   cases b with
   |append=>exact kj hs hρ ho
   |copy=>exact ZbN hs hρ ho
   |len=>exact Zf3 hs hρ ho
   |cap=>exact ZfZ hs hρ ho
   |min=>exact zF (mx:=false) hs hρ ho
   |max=>exact zF (mx:=true) hs hρ ho
   |unsafeString=>exact ZbT hs hρ ho
   |unsafeSliceData=>exact kr hs hρ ho
   |panic=>exact kq hs hρ ho
   |recover=>exact qd hs hρ ho
   |_=>unfold XC;rw[ho];exact trivial
  ·exact ZbM hs hρ ho λb h=>hb ⟨b,h⟩
 |defer c=>exact dO hs hρ ho
 |panic x=>exact dT hs hρ ho
 |range t x=>exact dU hs hρ ho
 |next x b=>exact ZbR hs hρ ho
 |entry x=>exact dP hs hρ ho
 |_=>unfold XC;rw[ho];exact trivial
end
end
end Go.AI
