/- Every operation of the interpreter's does what the model's does: proved for every world that is told. -/
import Derived.Test.YtlaambpobnkkbaaGreatDoorP2
import Derived.Laws.BytesString
import Derived.Laws.Append
import Derived.Laws.StructEq
set_option maxRecDepth 1000000
set_option maxHeartbeats 0
set_option linter.unusedVariables false
set_option linter.unusedSimpArgs false
namespace Go.AI
open Go
noncomputable section
section
variable {P:Program} {σ:Mp} {H:Heap} {w:World} {tm:TM} {ρ:Operand->Value}
theorem xr: ∀s:List UInt8,Dd s=s.map λb=>AV.int .u8 (.ofNat b.toNat)
 |[]=>rfl
 |b::s=>by simp[Dd,xr s]
theorem C3(σ:Mp): ∀s:List UInt8,YE σ (Dd s) (s.map λb=>Value.int .u8 b.toNat)
 |[]=>Ud
 |b::s=>Ww (by simp[Yk]) (C3 σ s)
theorem vI(s:List UInt8): ∀v∈s.map (λb=>Value.int .u8 b.toNat),v.oneCell'=true:=by
 intro v hv
 obtain⟨b,_,rfl⟩:=YV.1 hv
 rfl
def wB(n:Int):UInt8:=UInt8.ofNat n.toNat
theorem LM{r:Result Next}{f:List UInt8->OR}: ∀(as:List AV) (vs:List Value),YE σ as vs->(∀ns:List Int,vs=ns.map (Value.int .u8)->YZ P σ H w r (f (ns.map wB)))->YZ P σ H w r (OI f as)
 |[],vs,h,g=>g [] (by rw[h.nil_inv];rfl)
 |a::as,vs,h,g=>by
  obtain⟨v,vs',h1,h2,rfl⟩:=h.cons_inv
  unfold OI
  split
  ·rename_i n
   have h1:=XZ h1
   subst h1
   exact LM as vs' h2 λns hs=>g (.ofNat n::ns) (by rw[hs];rfl)
  ·trivial
theorem Fy: ∀(ns:List Int) (s:ByteArray),ns.foldl (λr n=>r.push (UInt8.ofNat n.toNat)) s=⟨(s.data.toList++ns.map wB).toArray⟩
 |[],s=>by
  apply ByteArray.ext
  apply Array.ext'
  simp
 |n::ns,s=>by
  rw[U6,Fy ns]
  simp[wB]
theorem Tr.drew(hs:WM P σ H w):Tr P σ H w σ H w.drew:=
 ⟨Ext.refl σ,⟨hs.dom,hs.low,hs.alive,hs.inj,hs.glob,hs.ro⟩,Zo _,λ_ _ _=>rfl,λb l hw hl _=>⟨b,l,hw,hl,rfl⟩,Zo _,rfl,λ_ _=>rfl,rfl,rfl,rfl,λ_ _ h=>⟨rfl,h⟩⟩
theorem WM.drew(hs:WM P σ H w):WM P σ H w.drew:=(Tr.drew hs).sim
theorem sE(w:World)(c:Array Value)(e n:Nat):(w.alloc (.cells c e)).freeze ⟨w.heap.size,n,none⟩ 1=w.alloc (.cells c e (n,n+1)):=by
 unfold World.freeze
 rw[if_neg (by decide)]
 have:(w.alloc (.cells c e)).heap.modify w.heap.size (λ
   |.cells c elem (lo,hi)=>.cells c elem (if lo==hi then(n,n+1) else(min lo n,max hi (n+1)))
   |o=>o)=(w.alloc (.cells c e (n,n+1))).heap:=by
  apply Array.ext_getElem?
  intro i
  rw[WH]
  by_cases h:w.heap.size=i
  ·subst h;rw[if_pos rfl,Rr,Rr];rfl
  ·rw[if_neg h]
   by_cases h2:i<w.heap.size
   ·rw[Rs h2,Rs h2]
   ·rw[Array.getElem?_eq_none (by simp;omega),Array.getElem?_eq_none (by simp;omega)]
 exact(congrArg (λhp=>({heap:=hp,tape:=w.tape,drawn:=w.drawn,os:=w.os,output:=w.output}:World)) this).trans rfl
theorem nJ{w:World}{g n:Nat}{cs:Array Value}{t:TypeId}{fr:Nat×Nat}(h:w.heap[g]? =some (.cells cs t fr))(hf:fr.1=fr.2):
  As w (w.freeze ⟨g,n,none⟩ 1) g (.cells cs t (n,n+1)):=by
 obtain⟨a,b⟩:=fr
 simp only at hf
 subst hf
 refine⟨by simp[World.freeze],?_,λk hk=>?_,rfl,rfl,rfl⟩
 ·simp only[World.freeze,Nat.one_ne_zero,if_false,WH]
  rw[h];simp
 ·simp only[World.freeze,Nat.one_ne_zero,if_false,WH]
  rw[if_neg (λe=>hk e.symm)]
theorem Zf5{f:TypeId->Bool}{e count off n d:Nat}(h1:1<=P.cellsOf e)(h2:off % P.cellsOf e=0)(h3:off/P.cellsOf e+n<=count)(hf:f e=true):rowAt P f (d+1) e count off n=true:=by
 unfold rowAt
 have q4: ¬(P.cellsOf e=0):=by omega
 simp only[if_neg q4,h2,beq_self_eq_true,Xf,hf,Sp,Zd h3,PO]
theorem lV(d u:Nat):sameLayout P (d+1) u u=true:=by unfold sameLayout;simp
theorem pQ{e count off n:Nat}(h1:1<=P.cellsOf e)(h2:off % P.cellsOf e=0)(h3:off/P.cellsOf e+n<=count):liesAt P P.depth e count off e n=true:=by
 have hd: ∃d,P.depth=d+1:=⟨2*(P.types.size+Made.depth)+1,rfl⟩
 obtain⟨d,hd⟩:=hd
 rw[hd]
 unfold liesAt
 rw[hd,Zf5 (f:=λx=>sameLayout P (d+1) x e) h1 h2 h3 (lV d e)]
 rfl
theorem Ix(need old e:Nat)(w:World): ∃k,(choose (.appendCap need old e)).run P w=.ok (need+k) w.drew:=by
 refine⟨w.tape w.drawn (.appendCap need old e) % (2^63 - need),?_⟩
 simp[Question.forced,Question.cut]
theorem GI{w:World}{g:Nat}{cs:Array Value}{t:TypeId}{fr:Nat×Nat}(h:w.heap[g]? =some (.cells cs t fr)):w.shape? g=some (t,cs.size):=by
 unfold World.shape?;rw[h]
theorem rE(hs:WM P σ H w)(hρ:Qi P σ tm ρ){o:Oper}{s d:TypeId}{x:Operand}(ho:o.op=.convert s d x):Xv P σ H w tm ρ o:=by
 unfold Xv;rw[ho]
 refine Xn λds mc=>Xn λdd hud=>?_
 have h1:=hρ x
 have hr: ∀{v:Value} {w':World},(convert s d (ρ x)).run P w=.ok v w'->(execOp ρ o).run P w=.ok (.value v) w':=λh=>by
  simp only[execOp,ho];exact Vn h
 show YZ P σ H w _ (Zcm P s d (YM P x) ds dd tm H)
 cases ds<;>cases dd<;>try exact trivial
 case int.int k1 k=>
  refine QU λj n hx=>?_
  rw[hx] at h1
  have h1:=XZ h1
  refine Qn hs (hr ?_)
  rw[h1]
  simp[convert,run_underlying mc,run_underlying hud,Conv.intToInt]
 case int.string k1=>
  refine QU λj n hx=>?_
  rw[hx] at h1
  have h1:=XZ h1
  refine Yb hs (x:=.string (Utf8.encode n)) (hr ?_) (by simp[Yk])
  rw[h1]
  simp[convert,run_underlying mc,run_underlying hud,Conv.intToString]
 case string.string=>
  refine OQ λt hx=>?_
  rw[hx] at h1
  have h0:=h1
  have h1:=Ue h1
  refine Yb hs (x:=ρ x) (hr ?_) h0
  rw[h1]
  simp[convert,run_underlying mc,run_underlying hud]
 case string.slice e=>
  refine Xn λde hue=>Cw λhde=>OQ λt hx=>?_
  subst hde
  rw[hx] at h1
  have h1:=Ue h1
  obtain⟨k,hk⟩:=Ix (P:=P) t.length 0 e w
  have hrun:(execOp ρ o).run P w=.ok (.value (.slice (some ⟨w.heap.size,0,none⟩) t.length (t.length+k))) (w.drew.alloc (.cells ⟨t.map (λb=>Value.int .u8 b.toNat)++List.replicate k (.int .u8 0)⟩ e (t.length+k,t.length+k+1))):=by
   refine hr ?_
   rw[h1]
   simp only[convert,Sem.run_bind,run_underlying mc,run_underlying hud,run_underlying hue,Result.andThen_ok,Conv.stringToBytes,Mw,hk]
   have hc:((t.toArray.map λb=>Value.int .u8 b.toNat)++Array.replicate (t.length+k - t.length) (Value.int .u8 0))=⟨t.map (λb=>Value.int .u8 b.toNat)++List.replicate k (.int .u8 0)⟩:=by
    apply Array.ext'
    simp
   simp only[hc,newRow,Sem.run_bind,run_newObj,Result.andThen_ok,World.alloc_eq,Sem.run_pure,markStringish,run_shape]
   have hsh:(w.drew.alloc (.cells ⟨t.map (λb=>Value.int .u8 b.toNat)++List.replicate k (.int .u8 0)⟩ e)).shape? w.drew.heap.size=some (e,t.length+k):=by
    unfold World.shape?
    rw[Rr]
    simp
   simp only[hsh,run_freeze,Result.andThen_ok]
   rw[sE]
   rfl
  refine VW ((Tr.drew hs).trans (Tr.alloc hs.drew (.row ⟨e,1,YL t,T.ofList (Dd t),.unk,0,true,true,false⟩) _ ⟨w.heap.size,0,t.length+k,1⟩ rfl ⟨_,_,rfl,?_⟩)) hrun ?_
  ·have hl:(Dd t).length=t.length:=by rw[xr];simp
   have:=IX (σ:=σ.put H.nx ⟨w.heap.size,0,t.length+k,1⟩) (e:=e) (sz:=1) (tot:=t.length+k) (sm:=true) (exact:=false) (blk:=w.heap.size) (fr:=(t.length+k,t.length+k+1)) (rest:=List.replicate k (.int .u8 0)) (C3 _ t)
    (λv hv=>by
     rcases Zt.1 hv with hv|hv
     ·exact vI t v hv
     ·rw[List.eq_of_mem_replicate hv];rfl) (Zo _) (by rw[hl];omega) (by simp) (λh=>by cases h) (by simp)
   have e1:YL (Dd t)=YL t:=by rw[Yz,Yz,hl]
   rw[e1] at this
   exact this
  ·rw[Yz];exact Rf (l:=⟨w.heap.size,0,t.length+k,1⟩) rfl
 case slice.string e=>
  refine Xn λde hue=>Cw λhde=>?_
  subst hde
  refine HI (λhx=>?_) (Ra (λhx=>?_) λb off len cap hx=>UD (λhn=>?_) λhn=>Si λr hr'=>Yh λhle=>?_)
  ·rw[hx] at h1
   obtain⟨a,h1⟩: ∃a,ρ x=.slice (some a) 0 0:=by simpa only[Yk] using h1
   refine Yb hs (x:=.string .empty) (hr ?_) (by simp only[Yk];rfl)
   rw[h1,run_convert_bytes_string w s d e _ _ _ mc hue hud,run_bytesToString w _ _ _ [] (by rfl)]
   rfl
  ·rw[hx] at h1
   have h1:ρ x=.slice none 0 0:=by simpa only[Yk] using h1
   refine Yb hs (x:=.string .empty) (hr ?_) (by simp only[Yk];rfl)
   rw[h1,run_convert_bytes_string w s d e none 0 0 mc hue hud]
   simp[Conv.bytesToString]
  ·rw[hx] at h1
   obtain⟨l,hl,e1⟩:=UG h1
   rw[Yp] at hn
   have hn:len=0:=Zm hn
   refine Yb hs (x:=.string .empty) (hr ?_) (by simp only[Yk];rfl)
   rw[e1,run_convert_bytes_string w s d e _ _ _ mc hue hud,run_bytesToString w _ _ _ [] (by rw[hn];rfl)]
   rfl
  ·rw[hx] at h1
   obtain⟨l,hl,e1⟩:=UG h1
   obtain⟨cs,fr,hc,hrr⟩:=hs.row hr' hl
   rw[Xa] at hle
   have hle:off+len<=r.size:=Zm hle
   obtain⟨vs,h2,h3,h4,h5⟩:=Oz hrr len off hle
   refine LM _ vs h2 λns hns=>?_
   have hload:=Qc (P:=P) hc vs (o:=l.base+off) h4
   rw[h3,hns] at hload
   refine Yb hs (hr (v:=.string ⟨(ns.map wB).toArray⟩) ?_) (by simp[Yk])
   rw[e1,run_convert_bytes_string w s d e _ _ _ mc hue hud,run_bytesToString w _ _ _ ns hload,Fy]
   simp
 case pointer.unsafePointer u=>
  refine XV λi hi=>W2 (λh3=>?_) λ_=>SL
  rw[Xa] at h3
  have h3:1<=i.size:=Zm h3
  show YZ P σ H w _ (zF (YM P x) tm H)
  unfold zF
  split
  ·rename_i hx
   rw[hx] at h1
   have h1:ρ x=.pointer none:=by simpa only[Yk] using h1
   refine Yb hs (x:=.pointer none) (hr ?_) (by simp[Yk])
   rw[h1]
   simp[convert,run_underlying mc,run_underlying hud,Conv.unsafePointer]
  ·rename_i b off hx
   refine Si λr hr'=>Yh λhle=>?_
   rw[hx] at h1
   obtain⟨l,hl,e1⟩:=UO h1
   obtain⟨cs,fr,hc,hrr⟩:=hs.row hr' hl
   rw[Xa] at hle
   have hle:off+1<=r.size:=Zm hle
   have q1:=hrr.fits
   have q2:=hrr.room
   refine Yb hs (hr ?_) (Li hl)
   rw[e1]
   have hsh:=GI hc
   simp only[convert,Sem.run_bind,run_underlying mc,run_underlying hud,Result.andThen_ok,Conv.unsafePointer,Conv.seenAt,viewAt,run_shape,hsh,Option.isSome_some,if_true,Sem.run_pure,cellsIn,WL hi]
   have q3: ¬(l.base+off≥cs.size):=by omega
   have q4: ¬(i.size=0):=by omega
   simp[q3,q4]
  ·trivial
 case unsafePointer.pointer u=>
  refine XV λi hi=>W2 (λh3=>?_) λ_=>SL
  rw[Xa] at h3
  have h3:1<=i.size:=Zm h3
  show YZ P σ H w _ (zE (YM P x) u i.size tm H)
  unfold zE
  split
  ·rename_i hx
   rw[hx] at h1
   have h1:ρ x=.pointer none:=by simpa only[Yk] using h1
   refine Yb hs (x:=.pointer none) (hr ?_) (by simp[Yk])
   rw[h1]
   simp[convert,run_underlying mc,run_underlying hud,Conv.unsafePointer]
  ·rename_i b off hx
   refine Si λr hr'=>Yh λhex=>Yh λhel=>Yh λh0=>Yh λhle=>?_
   rw[hx] at h1
   obtain⟨l,hl,e1⟩:=UO h1
   obtain⟨cs,fr,hc,hrr⟩:=hs.row hr' hl
   rw[Xa] at hle
   rw[Yp] at hel h0
   have hle:i.size<=r.size:=Zm hle
   have hel:r.elem=u:=Zm hel
   have h0:off=0:=Zm h0
   obtain⟨x1,x2,x3⟩:=hrr.exact hex
   refine Yb hs (hr ?_) (Li hl)
   rw[e1]
   have hsh:=GI hc
   have q4: ¬(i.size=0):=by omega
   have hcell:P.cellsOf u=i.size:=by simp[Program.cellsOf,hi]
   have hlies:liesAt P P.depth r.elem (cs.size/P.cellsOf r.elem) (l.base+off) u 1=true:=by
    rw[hel,hcell,x2,h0]
    refine pQ (by rw[hcell];omega) (by rw[hcell];rfl) ?_
    rw[hcell,Nat.zero_div,Zf,Nat.le_div_iff_mul_le (by omega)];omega
   simp only[convert,Sem.run_bind,run_underlying mc,run_underlying hud,Result.andThen_ok,Conv.unsafePointer,Conv.seenAt,viewAt,run_shape,hsh,Option.isSome_some,if_true,Sem.run_pure,WL hi,variablesAt,run_program,hlies]
   simp[hlies]
  ·trivial
 case slice.slice e1 e2=>
  refine W2 (λhsd=>Xn λde hue=>Cw λhde=>?_) λ_=>SL
  subst hde
  rw[Yp] at hsd
  have hsd:s=d:=Zm hsd
  refine Ra (λ_=>trivial) λb off len cap hx=>Si λr hr'=>Yh λNX=>Yh λhfz=>?_
  have h0:=h1
  rw[hx] at h1
  obtain⟨l,hl,e3⟩:=UG h1
  obtain⟨cs,fr,hc,hrr⟩:=hs.row hr' hl
  have zr:r.sm=false∧H.may r b=true:=by
   cases hsm:r.sm with
   |true=>rw[hsm] at NX;cases NX
   |false=>rw[hsm] at NX;exact⟨rfl,NX⟩
  obtain⟨hwr,hown⟩:=Wr.of_may zr.2 hr'
  rw[Yp] at hfz
  have hfz:r.fz=0:=Zm hfz
  have hfr:fr.1=fr.2:=by
   rcases hrr.frs hown zr.1 with h|h
   ·exact h
   ·omega
  have hrun:(execOp ρ o).run P w=.ok (.value (ρ x)) (w.freeze ⟨l.blk,cs.size,none⟩ 1):=by
   refine hr ?_
   rw[e3]
   have ZmM:(s==d)=true:=by simp[hsd]
   have hsh:=GI hc
   simp only[convert,Sem.run_bind,run_underlying mc,run_underlying hud,run_underlying hue,Result.andThen_ok,ZmM,markStringish,run_shape,hsh,run_freeze,Sem.run_pure]
  have hfz':=nJ (n:=cs.size) hc hfr
  refine VW (Tr.write hs hr' hl hwr hfz'.size hfz'.new hfz'.old ⟨cs,_,rfl,?_⟩ hfz'.tape hfz'.os hfz'.out) hrun (by rw[hx];rw[hx] at h0;exact h0)
  have q1:=hrr.room
  refine⟨hrr.sz,hrr.sz1,hrr.fits,hrr.room,hrr.exact,?_,hrr.one,?_,λ_ h=>by cases h⟩
  ·intro i hi
   exact hrr.cell i hi
  ·intro _ i _ hi
   simp only
   omega
theorem ut{o:Oper}{c:Call}{b:Builtin}(ho:o.op=.call c)(hc:c.callee=.builtin b):
  ∃cs,(execOp ρ o).run P w=(builtin b c.argTypes o.type cs (c.args.map ρ)).run P w:=by
 refine⟨c.args.map λ|.const _=>true|_=>false,?_⟩
 simp only[execOp,ho,resolve,hc,Sem.run_bind,Sem.run_pure,Result.andThen_ok,invoke]
 rfl
theorem Tj{o:Oper}{xs:List Operand}{ts:List TypeId}{b:Builtin}(ho:o.op=.call ⟨.builtin b,⟨xs⟩,⟨ts⟩⟩)
  (h: ∀cs,YZ P σ H w ((builtin b ⟨ts⟩ o.type cs ⟨xs.map ρ⟩).run P w) (ju P b xs ts tm H)):Xv P σ H w tm ρ o:=by
 unfold Xv
 obtain⟨cs,h2⟩:=ut (P:=P) (w:=w) (ρ:=ρ) ho rfl
 rw[h2,ho]
 have h3:=h cs
 have e:Array.map ρ ⟨xs⟩=⟨xs.map ρ⟩:=by simp
 show YZ P σ H w ((builtin b ⟨ts⟩ o.type cs (Array.map ρ ⟨xs⟩)).run P w) (ju P b xs ts tm H)
 rw[e];exact h3
theorem Ep{r:Row}{l:Loc}{cs:Array Value}{fr:Nat×Nat}(hr:Pc σ r l cs fr)(hex:r.exact=true){o:Nat}(ho:o % l.sz=0):VI r o none=l.tot - o/l.sz:=by
 show cond (Nat.beq r.sz 1) (r.size - o) ((r.size - o)/r.sz)=_
 obtain⟨h1,_,_⟩:=hr.exact hex
 have h2:=hr.sz
 have h3:=hr.sz1
 have key:(r.size - o)/l.sz=l.tot - o/l.sz:=by
  have hd:=RM o l.sz
  rw[ho,Zj] at hd
  have e:r.size - o=(l.tot - o/l.sz)*l.sz:=by rw[Nat.sub_mul,<-h1,UK (o/l.sz),hd]
  rw[e,Nat.mul_div_cancel _ (by omega)]
 rw[Yp]
 by_cases e:r.sz=1
 ·rw[Zd e]
  have e2:l.sz=1:=by omega
  rw[e2] at key ⊢
  simpa using key
 ·rw[Zb e,<-h2];exact key
theorem P5{b:Nat}{es:Array MapEntry}{c:Nat}(h:w.heap[b]? =some (.map es c)):(getObj b).run P w=.ok (.map es c) w:=by simp[getObj,Sem.run,h]
theorem JM{t:TypeId}{x:Value}{d:TypeDesc}{y:Value}{cs:Array Bool}{ty:TypeId}(hu:P.underlying t=some d)(h:(Builtin.len_ #[t] ty #[x]).run P w=.ok y w):
  (builtin .len ⟨[t]⟩ ty cs ⟨[x]⟩).run P w=.ok (.value y) w:=Vn h
theorem ZfP(hs:WM P σ H w)(hρ:Qi P σ tm ρ){o:Oper}{xs:List Operand}{ts:List TypeId}(ho:o.op=.call ⟨.builtin .len,⟨xs⟩,⟨ts⟩⟩):Xv P σ H w tm ρ o:=by
 refine Tj ho λcs=>?_
 rcases xs with _|⟨x,_|⟨_,_⟩⟩<;>try exact trivial
 rcases ts with _|⟨t,_|⟨_,_⟩⟩<;>try exact trivial
 refine Xn λd hu=>?_
 have g:=hρ x
 cases d<;>try exact trivial
 case string=>
  refine OQ λs hx=>Mk ?_
  rw[hx] at g
  have g:=Ue g
  refine Yb hs (x:=.int .i64 s.length) (JM hu ?_) (by rw[Yz];simp[Yk])
  rw[g]
  simp[Builtin.len_,run_underlying hu,goInt,Mw]
 case slice e=>
  refine HI (λhx=>?_) (Ra (λhx=>?_) λb off n c hx=>Mk ?_)
  ·rw[hx] at g
   obtain⟨l,e1⟩: ∃l,ρ x=.slice (some l) 0 0:=by simpa only[Yk] using g
   refine Yb hs (x:=.int .i64 0) (JM hu ?_) (by simp[Yk])
   rw[e1]
   simp[Builtin.len_,run_underlying hu,goInt]
  ·rw[hx] at g
   have g:ρ x=.slice none 0 0:=by simpa only[Yk] using g
   refine Yb hs (x:=.int .i64 0) (JM hu ?_) (by simp[Yk])
   rw[g]
   simp[Builtin.len_,run_underlying hu,goInt]
  ·rw[hx] at g
   obtain⟨l,hl,e1⟩:=UG g
   refine Yb hs (x:=.int .i64 n) (JM hu ?_) (by simp[Yk])
   rw[e1]
   simp[Builtin.len_,run_underlying hu,goInt]
 case map kt e=>
  refine HH (λhx=>?_) λb hx=>NW λob Fb=>?_
  ·rw[hx] at g
   have g:ρ x=.map none:=by simpa only[Yk] using g
   refine Yb hs (x:=.int .i64 0) (JM hu ?_) (by simp[Yk])
   rw[g]
   simp[Builtin.len_,run_underlying hu,goInt]
  ·rw[hx] at g
   have g: ∃l,σ b=some l∧ρ x=.map (some l.blk):=by simpa only[Yk] using g
   obtain⟨l,hl,e1⟩:=g
   cases ob<;>try exact trivial
   case map es clock=>
    obtain⟨c,hc,ho'⟩:=hs.alive b _ l Fb hl
    obtain⟨ents,rfl,hr,_⟩:=ho'
    have hlen:es.length=ents.size:=by
     have: ∀(es:List RF) (l:List MapEntry),Yr σ es l->es.length=l.length:=by
      intro es
      induction es with
      |nil=>intro l h;simp only[Yr] at h;subst h;rfl
      |cons a es ih=>intro l h;simp only[Yr] at h;obtain⟨e,es',_,h2,rfl⟩:=h;simp[ih _ h2]
     rw[this _ _ hr];simp
    refine Yb hs (x:=.int .i64 ents.size) (JM hu ?_) (by rw[Yz,hlen];simp[Yk])
    rw[e1]
    simp[Builtin.len_,run_underlying hu,goInt,P5 hc]
theorem ZfL(hs:WM P σ H w)(hρ:Qi P σ tm ρ){o:Oper}{xs:List Operand}{ts:List TypeId}(ho:o.op=.call ⟨.builtin .cap,⟨xs⟩,⟨ts⟩⟩):Xv P σ H w tm ρ o:=by
 refine Tj ho λcs=>?_
 rcases xs with _|⟨x,_|⟨_,_⟩⟩<;>try exact trivial
 rcases ts with _|⟨t,_|⟨_,_⟩⟩<;>try exact trivial
 refine Xn λd hu=>?_
 have g:=hρ x
 have hr: ∀{y:Value},(Builtin.cap_ #[t] o.type #[ρ x]).run P w=.ok y w->(builtin .cap ⟨[t]⟩ o.type cs ⟨[ρ x]⟩).run P w=.ok (.value y) w:=λh=>Vn h
 cases d<;>try exact trivial
 case slice e=>
  refine Ra (λhx=>?_) λb off n c hx=>?_
  ·rw[hx] at g
   have g:ρ x=.slice none 0 0:=by simpa only[Yk] using g
   refine Yb hs (x:=.int .i64 0) (hr ?_) (by simp[Yk])
   rw[g]
   simp[Builtin.cap_,run_underlying hu,goInt]
  ·rw[hx] at g
   obtain⟨l,hl,e1⟩:=UG g
   cases c with
   |some c=>
    refine Yb hs (x:=.int .i64 c) (hr ?_) (by simp[Yk])
    rw[e1]
    simp[Builtin.cap_,run_underlying hu,goInt]
   |none=>
    refine Si λr hr'=>Yh λhex=>Yh λhmod=>?_
    rw[Yp] at hmod
    have hmod:off % r.sz=0:=Zm hmod
    obtain⟨cs',fr,hc,hrr⟩:=hs.row hr' hl
    refine Yb hs (x:=.int .i64 (l.tot - off/l.sz:Nat)) (hr ?_) ?_
    ·rw[e1]
     simp[Builtin.cap_,run_underlying hu,goInt]
    ·simp only[Yk]
     congr 1
     have:=Ep hrr hex (o:=off) (by rw[hrr.sz];exact hmod)
     simp[this]
theorem Zcb(ts:Array TypeId)(t:TypeId)(n c:Nat):Builtin.unsafeSliceData_ ts t #[.slice none n c]=pure (.pointer none):=rfl
theorem bR(ts:Array TypeId)(t:TypeId)(a:Addr)(n c:Nat)(h:c≠0):(Builtin.unsafeSliceData_ ts t #[.slice (some a) n c]).run P w=.ok (.pointer (some a)) w:=by
 show(if c≠0 then pure (Value.pointer (some a)) else _:Sem Value).run P w=_
 rw[if_pos h];rfl
theorem lu(hs:WM P σ H w)(hρ:Qi P σ tm ρ){o:Oper}{xs:List Operand}{ts:List TypeId}(ho:o.op=.call ⟨.builtin .unsafeSliceData,⟨xs⟩,⟨ts⟩⟩):Xv P σ H w tm ρ o:=by
 refine Tj ho λcs=>?_
 rcases xs with _|⟨x,_|⟨_,_⟩⟩<;>try exact trivial
 have g:=hρ x
 refine Ra (λhx=>?_) λb off n c hx=>?_
 ·rw[hx] at g
  have g:ρ x=.slice none 0 0:=by simpa only[Yk] using g
  refine Yb hs (x:=.pointer none) ?_ (by simp[Yk])
  refine Vn ?_
  show(Builtin.unsafeSliceData_ ⟨ts⟩ o.type #[ρ x]).run P w=_
  rw[g]
  exact congrArg (λs=>s.run P w) (Zcb _ _ _ _)
 ·rw[hx] at g
  obtain⟨l,hl,e1⟩:=UG g
  have fin:c.getD (l.tot - off/l.sz)≠0->YZ P σ H w ((builtin .unsafeSliceData ⟨ts⟩ o.type cs ⟨[ρ x]⟩).run P w) (.val (.ptr b off) H):=λh=>by
   refine Yb hs ?_ (Li hl)
   refine Vn ?_
   show(Builtin.unsafeSliceData_ ⟨ts⟩ o.type #[ρ x]).run P w=_
   rw[e1]
   exact bR _ _ _ _ _ h
  cases c with
  |some c=>
   refine Yh λh=>fin ?_
   rw[Xa] at h
   have h:1<=c:=Zm h
   simp only[Qm];omega
  |none=>
   refine Si λr hr'=>Yh λh=>fin ?_
   obtain⟨cs',fr,hc,hrr⟩:=hs.row hr' hl
   rw[Xa] at h
   have h:off+1<=r.size:=Zm h
   have h1:=hrr.fits
   have h2:=hrr.sz1
   simp only[Option.getD_none]
   have:off/l.sz<l.tot:=by rw[Nat.div_lt_iff_lt_mul (by omega)];omega
   omega
def qE(v:AV)(m:Nat):Prop:=((v=.nils∨v=.slice0)∧m=0)∨(∃b o c,v=.slice b o m c)∨ ∃s,v=.str s∧m=s.length
theorem A4{r:Result Next}{v:AV}{k:Nat->OR}(h: ∀m,qE v m->YZ P σ H w r (k m)):YZ P σ H w r (xm v k):=by
 unfold xm
 split
 ·exact h 0 (.inl ⟨.inl rfl,rfl⟩)
 ·exact h 0 (.inl ⟨.inr rfl,rfl⟩)
 ·exact h _ (.inr (.inl ⟨_,_,_,rfl⟩))
 ·rw[Yz];exact h _ (.inr (.inr ⟨_,rfl,rfl⟩))
 ·trivial
theorem zU{v:AV}{m:Nat}{x:Value}(h:qE v m)(hr:Yk σ v x)(w':World):(Builtin.lenOf x).run P w'=.ok m w':=by
 rcases h with⟨rfl|rfl,rfl⟩|⟨b,o,c,rfl⟩|⟨s,rfl,rfl⟩
 ·have:x=.slice none 0 0:=by simpa only[Yk] using hr
  rw[this];rfl
 ·obtain⟨a,this⟩: ∃a,x=.slice (some a) 0 0:=by simpa only[Yk] using hr
  rw[this];rfl
 ·obtain⟨l,_,rfl⟩:=UG hr;rfl
 ·rw[Ue hr];simp[Builtin.lenOf,Mw]
structure Zcf(P:Program)(σ:Mp)(w:World)(sz n:Nat)(x:Value)(as:List AV)(vs:List Value):Prop where
 rel:YE σ as vs
 one: ∀u∈vs,u.oneCell'=true
 len:vs.length=n*sz
 run: ∀w':World,w'.heap=w.heap->(Builtin.firstCells sz n x).run P w'=.ok ⟨vs⟩ w'
theorem Cs{v:AV}{x:Value}(hx:Yk σ v x){sz m:Nat}(hm:qE v m):Zcf P σ w sz 0 x [] []:=by
 refine⟨Ud,by simp,by simp,λw' _=>?_⟩
 rcases hm with⟨rfl|rfl,rfl⟩|⟨b,o,c,rfl⟩|⟨s,rfl,rfl⟩
 ·have:x=.slice none 0 0:=by simpa only[Yk] using hx
  rw[this];rfl
 ·obtain⟨a,this⟩: ∃a,x=.slice (some a) 0 0:=by simpa only[Yk] using hx
  rw[this];simp only[Builtin.firstCells,W4];rfl
 ·obtain⟨l,_,rfl⟩:=UG hx
  simp only[Builtin.firstCells,W4];rfl
 ·rw[Ue hx]
  simp[Builtin.firstCells]
theorem J6{r:Result Next}(hs:WM P σ H w){v:AV}{x:Value}(hx:Yk σ v x){sz n m:Nat}{k:List AV->OR}(hm:qE v m)(hn:n<=m)
  (h: ∀as vs,Zcf P σ w sz n x as vs->YZ P σ H w r (k as)):YZ P σ H w r (VV H sz v n k):=by
 unfold VV
 refine UD (λh0=>?_) λ_=>?_
 ·rw[Yp] at h0
  have h0:n=0:=Zm h0
  subst h0
  exact h [] [] (Cs hx hm)
 ·rcases hm with⟨rfl|rfl,rfl⟩|⟨b,o,c,rfl⟩|⟨s,rfl,rfl⟩
  ·trivial
  ·trivial
  ·refine Si λrr hrr=>Yh λhle=>?_
   rw[Xa] at hle
   have hle:o+n*sz<=rr.size:=Zm hle
   obtain⟨l,hl,rfl⟩:=UG hx
   obtain⟨cs,fr,hc,hrow⟩:=hs.row hrr hl
   obtain⟨vs,h2,h3,h4,h5⟩:=Oz hrow (n*sz) o hle
   refine h _ vs ⟨h2,h5,h3,λw' hw=>?_⟩
   have hc':w'.heap[l.blk]? =some (.cells cs rr.elem fr):=by rw[hw];exact hc
   have:=Qc (P:=P) hc' vs (o:=l.base+o) h4
   rw[h3] at this
   exact this
  ·refine Yh λh1=>?_
   rw[Yp] at h1
   have h1:sz=1:=Zm h1
   subst h1
   rw[Lr]
   refine h _ _ ⟨C3 σ _,vI _,by simp;omega,λw' _=>?_⟩
   rw[Ue hx]
   simp only[Builtin.firstCells,Sem.run_pure,Result.ok.injEq,and_true]
   apply Array.ext'
   simp[Ve]
theorem Zbh(a b:Nat):K5 a b=Nat.min a b:=by
 unfold K5
 rw[Xa]
 by_cases h:a<=b
 ·rw[Zd h];exact(Wb h).symm
 ·rw[Zb h];exact(U8 (Pt (Nat.lt_of_not_le h))).symm
theorem ZbB(hs:WM P σ H w)(hρ:Qi P σ tm ρ){o:Oper}{xs:List Operand}{ts:List TypeId}(ho:o.op=.call ⟨.builtin .copy,⟨xs⟩,⟨ts⟩⟩):Xv P σ H w tm ρ o:=by
 refine Tj ho λcs=>?_
 rcases xs with _|⟨x,_|⟨y,_|⟨_,_⟩⟩⟩<;>try exact trivial
 rcases ts with _|⟨t,_|⟨t2,_|⟨_,_⟩⟩⟩<;>try exact trivial
 refine Xn λd hu=>Ml λe hd=>XV λi hi=>A4 λsn hsn=>?_
 subst hd
 have g:=hρ x
 have step: ∀(base:Option Addr) (dn cp:Nat) (vs:List Value),ρ x=.slice base dn cp->(Builtin.firstCells i.size (Nat.min dn sn) (ρ y)).run P w=.ok ⟨vs⟩ w->
   (Builtin.copy_ ⟨[t,t2]⟩ o.type ⟨[ρ x,ρ y]⟩).run P w=(do (match base with|some a=>storeCells a vs|none=>pure ());pure (goInt (Nat.min dn sn)):Sem Value).run P w:=by
  intro base dn cp vs e1 hr
  have hl:=zU (P:=P) hsn (hρ y) w
  rw[show Nat.min dn sn=Nat.min sn dn from Nat.min_comm _ _] at hr ⊢
  simp only[Builtin.copy_,Wa,Uu,Ut,Sem.run_bind,run_underlying hu,Result.andThen_ok,e1,hl,WL hi,hr]
  cases base with
  |none=>rfl
  |some a=>simp
 refine Ra (λhx=>?_) λb off dn c hx=>Mk ?_
 ·rw[hx] at g
  have g:ρ x=.slice none 0 0:=by simpa only[Yk] using g
  refine Yb hs (x:=.int .i64 0) ?_ (by simp[Yk])
  refine Vn ?_
  refine(step none 0 0 [] g ?_).trans ?_
  ·rw[show Nat.min 0 sn=0 from Nat.zero_min sn]
   exact(Cs (w:=w) (hρ y) hsn).run w rfl
  ·rw[show Nat.min 0 sn=0 from Nat.zero_min sn];rfl
 ·rw[Zbh]
  have hmin:Nat.min dn sn<=sn:=Nat.min_le_right _ _
  rw[hx] at g
  obtain⟨l,hl,e1⟩:=UG g
  refine J6 hs (hρ y) hsn hmin λas vs hf=>UD (λh0=>?_) λh0=>Si λr hr=>Yh λNX=>Yh λhfz=>Yh λhle=>?_
  ·rw[Yp] at h0
   have h0:Nat.min dn sn=0:=Zm h0
   have hv:vs=[]:=by have:=hf.len;rw[h0,W4] at this;exact YR.1 this
   refine Yb hs (x:=.int .i64 0) ?_ (by simp[Yk])
   refine Vn ?_
   refine(step _ _ _ vs e1 (hf.run w rfl)).trans ?_
   rw[hv,h0]
   simp[goInt,storeCells]
  ·rw[Xa] at hfz hle
   have hfz:r.fz<=off:=Zm hfz
   have hle:off+Nat.min dn sn*i.size<=r.size:=Zm hle
   obtain⟨w',hrun,htr⟩:=FZ hs hr hl NX hf.rel hf.one (o:=off) (by rw[hf.len];exact hle) hfz
   refine VW htr (x:=.int .i64 (Nat.min dn sn:Nat)) ?_ (by simp[Yk])
   refine Vn ?_
   refine(step _ _ _ vs e1 (hf.run w rfl)).trans ?_
   simp[hrun,goInt]
def app(e:TypeId)(i:TypeInfo)(z:Value)(base:Option Addr)(sLen sCap n:Nat)(news:Sem (Array Value)):Sem Value:=
 if sLen+n<=sCap then do
  let new<-news
  if let some a:=base then storeCells (a.add (sLen*i.size)) new.toList
  pure (.slice base (sLen+n) sCap)
 else do
  let newCap<-choose (.appendCap (sLen+n) sCap e)
  let old<-Builtin.firstCells i.size sLen (.slice base sLen sCap)
  let new<-news
  let a<-newRow e (old++new++Builtin.zeroCells z.cells (newCap - (sLen+n)))
  pure (.slice (some a) (sLen+n) newCap)
def pX(i:TypeInfo)(z:Value)(n:Nat):Sem (Array Value):=if n*i.size=0 then pure #[] else pure (Builtin.zeroCells z.cells n)
theorem ZbX{t u ty e:TypeId}{i:TypeInfo}{z x:Value}{d:TypeDesc}(ht:P.underlying t=some (.slice e))(hu:P.underlying u=some d)(hd: ∀k,d≠.int k)(hi:P.info? e=some i)(hz:i.zero=some z)
  {base:Option Addr}{sLen sCap n:Nat}(hn:(Builtin.lenOf x).run P w=.ok n w)(hb:1<=i.bytes)(hfit:(sLen+n)*i.bytes<=140737488355328∨sLen+n<=sCap):
  (Builtin.append_ ⟨[t,u]⟩ ty ⟨[.slice base sLen sCap,x]⟩).run P w=(app e i z base sLen sCap n (Builtin.firstCells i.size n x)).run P w:=by
 unfold app
 simp only[Builtin.append_,Sem.run_bind,Wa,Uu,Ut,run_underlying ht,run_underlying hu,Result.andThen_ok,WL hi,Sem.run_pure,XH,if_false,hn,Y7,if_true]
 by_cases h:sLen+n<=sCap
 ·rw[if_pos h,if_pos h]
  simp only[Sem.run_bind]
  congr 1
 ·rw[if_neg h,if_neg h]
  have h5:sLen+n<=140737488355328:=by
   rcases hfit with h1|h1
   ·exact ZX (RN _ hb) h1
   ·exact absurd h1 h
  have h3:Builtin.nextslicecap (sLen+n) sCap*i.bytes<=281474976710656:=growslice_fits (Nat.lt_of_not_le h) (by rcases hfit with h1|h1;exact h1;exact absurd h1 h)
  have h4: ¬(Builtin.nextslicecap (sLen+n) sCap*i.bytes>2^48):=Nat.not_lt.2 h3
  have h6: ¬(((sLen+n:Nat):Int)>IntKind.i64.max∧(False∨i.bytes=0)):=λq=>by
   rcases q.2 with q|q
   ·exact q
   ·rw[q] at hb;exact absurd hb (by decide)
  have hti: ∀w':World,(typeInfo e).run P w'=.ok i w':=λw'=>by simp[typeInfo,hi]
  have hzv: ∀w':World,(zeroValue e).run P w'=.ok z w':=λw'=>SR hi hz
  simp only[Sem.run_bind,hti,hzv,run_askRoom,Result.andThen_ok,if_neg h6,if_neg h4,Sem.run_pure]
theorem du{t u ty e:TypeId}{i:TypeInfo}{z:Value}{k k':IntKind}(ht:P.underlying t=some (.slice e))(hu:P.underlying u=some (.int k))(hi:P.info? e=some i)(hz:i.zero=some z)
  {base:Option Addr}{sLen sCap n:Nat}(hb:1<=i.bytes)(hn:n*i.bytes<=140737488355328)(hfit:(sLen+n)*i.bytes<=140737488355328∨sLen+n<=sCap):
  (Builtin.append_ ⟨[t,u]⟩ ty ⟨[.slice base sLen sCap,.int k' (n:Nat)]⟩).run P w=(app e i z base sLen sCap n (pX i z n)).run P w:=by
 unfold app pX
 have hn1:n<=140737488355328:=ZX (RN _ hb) hn
 have hw:IntKind.i64.wrap (n:Int)=n:=by
  exact Ek (by omega) (by omega)
 have hti: ∀w':World,(typeInfo e).run P w'=.ok i w':=λw'=>by simp[typeInfo,hi]
 have hzv: ∀w':World,(zeroValue e).run P w'=.ok z w':=λw'=>SR hi hz
 have q1: ¬((n:Int)<0):=by omega
 have q2: ¬((n:Int)*(i.bytes:Int)>2^48):=by
  have h7:((n*i.bytes:Nat):Int)<=((140737488355328:Nat):Int):=Int.ofNat_le.2 hn
  rw[Int.natCast_mul] at h7
  have h8:(2:Int)^48=281474976710656:=by decide
  rw[h8]
  omega
 simp only[Builtin.append_,Sem.run_bind,Wa,Uu,Ut,run_underlying ht,run_underlying hu,Result.andThen_ok,WL hi,Sem.run_pure,if_true,asInt,asIntOf,hw,if_neg q1,hti,if_neg q2,WD,YJ,XH,if_false]
 by_cases h:sLen+n<=sCap
 ·rw[if_pos h,if_pos h]
  simp only[Sem.run_bind]
  by_cases h0:n*i.size=0
  ·rw[if_pos h0,if_pos h0]
   cases base<;>rfl
  ·rw[if_neg h0,if_neg h0]
   simp only[Sem.run_bind,hzv,Result.andThen_ok,Sem.run_pure]
   cases base<;>rfl
 ·rw[if_neg h,if_neg h]
  have h5:sLen+n<=140737488355328:=by
   rcases hfit with h1|h1
   ·exact ZX (RN _ hb) h1
   ·exact absurd h1 h
  have h3:Builtin.nextslicecap (sLen+n) sCap*i.bytes<=281474976710656:=growslice_fits (Nat.lt_of_not_le h) (by rcases hfit with h1|h1;exact h1;exact absurd h1 h)
  have h4: ¬(Builtin.nextslicecap (sLen+n) sCap*i.bytes>2^48):=Nat.not_lt.2 h3
  have h6: ¬(((sLen+n:Nat):Int)>IntKind.i64.max∧(True∨i.bytes=0)):=λq=>by
   have h7:=q.1
   have h8:IntKind.i64.max=9223372036854775807:=by decide
   rw[h8] at h7
   omega
  by_cases h0:n*i.size=0
  ·simp only[Sem.run_bind,hti,hzv,run_askRoom,Result.andThen_ok,if_neg h6,if_neg h4,Sem.run_pure,if_pos h0]
  ·simp only[Sem.run_bind,hti,hzv,run_askRoom,Result.andThen_ok,if_neg h6,if_neg h4,Sem.run_pure,if_neg h0]
theorem Tr.del(hs:WM P σ H w){b:Nat}{lb:Loc}(hlb:σ b=some lb)(hb:H.ro<=b):Tr P σ H w σ ⟨H.nx,H.t.del b,H.ro⟩ w:=by
 have g: ∀c o,(H.t.del b).get c=some o->H.t.get c=some o:=by
  intro c o h
  rw[T.get_del] at h
  by_cases e:b=c
  ·rw[if_pos e] at h;cases h
  ·rw[if_neg e] at h;exact h
 refine⟨Ext.refl σ,⟨hs.dom,λc o h=>hs.low c o (g c o h),λc o l h hl=>hs.alive c o l (g c o h) hl,λc c' o o' l l' h h'=>hs.inj c c' o o' l l' (g _ _ h) (g _ _ h'),hs.glob,hs.ro⟩,Zo _,λ_ _ _=>rfl,?_,Zo _,rfl,?_,rfl,rfl,rfl,λc _ hn=>⟨by show(H.t.del b).get c=H.t.get c;rw[T.get_del,if_neg (λe=>by subst e;rw[hlb] at hn;cases hn)],hn⟩⟩
 ·intro c l hw hl _
  obtain⟨h1,o,h2,h3⟩:=hw
  exact⟨c,l,⟨h1,o,g c o h2,h3⟩,hl,rfl⟩
 ·intro c hc
  show(H.t.del b).get c=H.t.get c
  have hc:c<H.ro:=hc
  rw[T.get_del,if_neg (by omega)]
theorem Tr.move{w':World}(h:WM P σ H w){b:Nat}{o o':Obj}{l:Loc}{c':Go.Obj}
  (hb:H.t.get b=some o)(hl:σ b=some l)(hw:Wr H b)
  (hsize:w'.heap.size=w.heap.size)(hnew:w'.heap[l.blk]? =some c')(hold: ∀k,k≠l.blk->w'.heap[k]? =w.heap[k]?)
  (ho:U5 (σ.put H.nx l) o' l c')(ht:w'.tape=w.tape)(hos:w'.os=w.os)(hout:w'.output=w.output):
  Tr P σ H w (σ.put H.nx l) ⟨Nat.succ H.nx,(H.t.del b).set H.nx o',H.ro⟩ w':=by
 have hlt:b<H.nx:=h.dom b l hl
 have hro:=h.ro
 have CQ:Ext σ (σ.put H.nx l):=Mp.put_ext l (h.fresh (Zo _))
 have get: ∀c x,((H.t.del b).set H.nx o').get c=some x->(c=H.nx∧x=o')∨(c≠H.nx∧c≠b∧H.t.get c=some x):=by
  intro c x hx
  rw[T.get_set] at hx
  by_cases e:H.nx=c
  ·rw[if_pos e] at hx;cases hx;exact .inl ⟨e.symm,rfl⟩
  ·rw[if_neg e,T.get_del] at hx
   by_cases e2:b=c
   ·rw[if_pos e2] at hx;cases hx
   ·rw[if_neg e2] at hx;exact .inr ⟨λz=>e z.symm,λz=>e2 z.symm,hx⟩
 refine⟨CQ,⟨?_,?_,?_,?_,?_,?_⟩,by omega,?_,?_,Vj _,rfl,?_,ht,hos,hout,λc hc hn=>⟨by show((H.t.del b).set H.nx o').get c=H.t.get c;rw[T.get_set,if_neg (by omega),T.get_del,if_neg (λe=>by subst e;rw[hl] at hn;cases hn)],by unfold Mp.put;rw[if_neg (by omega)];exact hn⟩⟩
 ·intro c m hm
  show c<H.nx+1
  unfold Mp.put at hm
  by_cases e:c=H.nx
  ·omega
  ·rw[if_neg e] at hm;have:=h.dom c m hm;omega
 ·intro c x hx
  show c<H.nx+1
  rcases get c x hx with⟨rfl,_⟩|⟨h1,h2,h3⟩
  ·omega
  ·have:=h.low c x h3;omega
 ·intro c x l1 hx hl1
  rcases get c x hx with⟨rfl,rfl⟩|⟨h1,h2,h3⟩
  ·rw[Mp.put_same] at hl1;cases hl1
   exact⟨c',hnew,ho⟩
  ·rw[Mp.put_old h1] at hl1
   obtain⟨c1,hc1,hr⟩:=h.alive c x l1 h3 hl1
   refine⟨c1,?_,hr.mono CQ⟩
   rw[hold l1.blk ?_];exact hc1
   intro e
   exact h2 (h.alone h3 hb hl1 hl e λs=>hw.hard hb s.2)
 ·intro c1 c2 x1 x2 l1 l2 h1 h2 k1 k2 e
  rcases get c1 x1 h1 with⟨rfl,rfl⟩|⟨p1,p2,p3⟩<;>rcases get c2 x2 h2 with⟨q0,rfl⟩|⟨q1,q2,q3⟩
  ·exact .inl q0.symm
  ·exfalso
   rw[Mp.put_same] at k1;cases k1
   rw[Mp.put_old q1] at k2
   exact q2 (h.alone q3 hb k2 hl e.symm λs=>hw.hard hb s.2)
  ·exfalso
   rw[q0,Mp.put_same] at k2;cases k2
   rw[Mp.put_old p1] at k1
   exact p2 (h.alone p3 hb k1 hl e λs=>hw.hard hb s.2)
  ·rw[Mp.put_old p1] at k1
   rw[Mp.put_old q1] at k2
   exact h.inj c1 c2 x1 x2 l1 l2 p3 q3 k1 k2 e
 ·intro g hg
  obtain⟨lg,h1,h2⟩:=h.glob g hg
  exact⟨lg,CQ g lg h1,h2⟩
 ·show H.ro<=H.nx+1;omega
 ·intro k hk hn
  exact hold k λe=>hn b l hw hl e.symm
 ·intro c m hwc hlc hlt'
  obtain⟨r1,x,r2,r3⟩:=hwc
  rcases get c x r2 with⟨rfl,rfl⟩|⟨p1,p2,p3⟩
  ·rw[Mp.put_same] at hlc;cases hlc
   exact⟨b,l,hw,hl,rfl⟩
  ·rw[Mp.put_old p1] at hlc
   exact⟨c,m,⟨r1,x,p3,r3⟩,hlc,rfl⟩
 ·intro c hc
  have hc:c<H.ro:=hc
  show((H.t.del b).set H.nx o').get c=H.t.get c
  rw[T.get_set,if_neg (by omega),T.get_del,if_neg (by have:=hw.1;omega)]
theorem Mz{z:Array Value}(hone: ∀v∈z.toList,v.oneCell'=true)(k:Nat):(Builtin.zeroCells z k).size=k*z.size∧ ∀v∈(Builtin.zeroCells z k).toList,v.oneCell'=true:=by
 constructor
 ·simp[Builtin.zeroCells]
 ·intro v hv
  simp only[Builtin.zeroCells,Qk,Array.toList_range,YV,RL] at hv
  obtain⟨i,hi,rfl⟩:=hv
  have hz:0<z.size:=by
   rcases Nat.eq_zero_or_pos z.size with h|h
   ·rw[h,Nat.mul_zero] at hi;omega
   ·exact h
  rw[getElem!_pos z _ (Vy _ hz)]
  exact hone _ (Array.getElem_mem_toList _)
theorem Dp{e:TypeId}{i:TypeInfo}{z:Value}{base:Option Addr}{sLen sCap n:Nat}{news:Sem (Array Value)}{vo vn:List Value}
  (hone: ∀v∈z.cells.toList,v.oneCell'=true)(hg: ¬(sLen+n<=sCap))
  (ho: ∀w':World,w'.heap=w.heap->(Builtin.firstCells i.size sLen (.slice base sLen sCap)).run P w'=.ok ⟨vo⟩ w')(hn: ∀w':World,w'.heap=w.heap->news.run P w'=.ok ⟨vn⟩ w'):
  ∃k rest,(app e i z base sLen sCap n news).run P w=.ok (.slice (some ⟨w.heap.size,0,none⟩) (sLen+n) (sLen+n+k)) (w.drew.alloc (.cells ⟨(vo++vn)++rest⟩ e))∧
   rest.length=k*z.cells.size∧ ∀v∈rest,v.oneCell'=true:=by
 obtain⟨k,hk⟩:=Ix (P:=P) (sLen+n) sCap e w
 obtain⟨h1,h2⟩:=Mz hone k
 refine⟨k,(Builtin.zeroCells z.cells k).toList,?_,by simpa using h1,h2⟩
 unfold app
 rw[if_neg hg]
 simp only[Sem.run_bind,hk,Result.andThen_ok,ho w.drew rfl,hn w.drew rfl,Uv,newRow,run_newObj,Sem.run_pure,World.alloc_eq]
 congr 3
 have e1:(⟨vo⟩:Array Value)++⟨vn⟩++Builtin.zeroCells z.cells k=⟨(vo++vn)++(Builtin.zeroCells z.cells k).toList⟩:=by
  apply Array.ext'
  simp
 rw[e1]
theorem KS{r:Result Next}(hs:WM P σ H w){e sz need k:Nat}{as:List AV}{vs rest:List Value}(hr:r=.ok (.value (.slice (some ⟨w.heap.size,0,none⟩) need (need+k))) (w.drew.alloc (.cells ⟨vs++rest⟩ e)))
  (hrel:YE σ as vs)(hone: ∀v∈vs,v.oneCell'=true)(hrest: ∀v∈rest,v.oneCell'=true)(hsz:1<=sz)(hlen:vs.length=need*sz)(hrl:rest.length=k*sz):
  YZ P σ H w r (.val (.slice H.nx 0 need none) (H.newRow e sz as false)):=by
 have hl:=hrel.length
 refine VW ((Tr.drew hs).trans (Tr.alloc hs.drew _ _ ⟨w.heap.size,0,need+k,sz⟩ rfl ⟨_,(0,0),rfl,?_⟩)) hr (Rf (l:=⟨w.heap.size,0,need+k,sz⟩) rfl)
 refine IX (hrel.mono (Mp.put_ext _ (hs.drew.fresh (Zo _)))) (λv hv=>?_) hsz ?_ ?_ (λh=>by cases h) rfl
 ·rcases Zt.1 hv with hv|hv
  ·exact hone v hv
  ·exact hrest v hv
 ·rw[hl,hlen,WI];omega
 ·rw[ZE,hlen,hrl,WI];omega
theorem Qp(r:Row): ∀(n o j:Nat),j<n->(VB r o n)[j]? =some (r.get (o+j))
 |0,o,j,h=>by omega
 |n+1,o,0,_=>rfl
 |n+1,o,j+1,h=>by
  show(VB r (o+1) n)[j]? =_
  rw[Qp r n (o+1) j (by omega)]
  congr 2;omega
theorem qm(r:Row)(sz size o:Nat)(as:List AV){j:Nat}(hj:j<o+as.length):
  (j<o∧(⟨r.elem,sz,size,YQ r.cells o as,r.dflt,r.fz,r.sm,true,false⟩:Row).get j=r.get j)∨
  (∃a,o<=j∧as[j - o]? =some a∧(⟨r.elem,sz,size,YQ r.cells o as,r.dflt,r.fz,r.sm,true,false⟩:Row).get j=a):=by
 by_cases h:j<o
 ·refine .inl ⟨h,?_⟩
  rw[Row.get_eq,Row.get_eq]
  show((YQ r.cells o as).get j).getD r.dflt=_
  rw[OG,if_neg (by omega)]
 ·refine .inr ⟨as[j - o]'(by omega),by omega,Zk (by omega),?_⟩
  rw[Row.get_eq]
  show((YQ r.cells o as).get j).getD r.dflt=_
  rw[OG,if_pos (by omega),Zk (by omega)]
  rfl
structure Zg1(P:Program)(σ:Mp)(w:World)(sz n:Nat)(news:Sem (Array Value))(as:List AV)(vs:List Value):Prop where
 rel:YE σ as vs
 one: ∀u∈vs,u.oneCell'=true
 len:vs.length=n*sz
 run: ∀w':World,w'.heap=w.heap->news.run P w'=.ok ⟨vs⟩ w'
theorem nQ(hs:WM P σ H w){va:AV}{x:Value}(g:Yk σ va x){e n:Nat}{i:TypeInfo}{z:Value}{news:Sem (Array Value)}{as:List AV}{vs:List Value}{q:Result Next}
  (hsz:1<=i.size)(K1: ∀v∈z.cells.toList,v.oneCell'=true)(MK:z.cells.size=i.size)(hf:Zg1 P σ w i.size n news as vs)
  (run: ∀{base:Option Addr} {sLen sCap:Nat} {v:Value} {w':World},x=.slice base sLen sCap->((sLen+n)*i.bytes<=140737488355328∨sLen+n<=sCap)->(app e i z base sLen sCap n news).run P w=.ok v w'->q=.ok (.value v) w'):
  YZ P σ H w q (MW va e i.size i.bytes H n as):=by
 refine HI (λhx=>?_) (Ra (λhx=>?_) λb off len cap hx=>?_)
 ·rw[hx] at g
  obtain⟨a,g⟩: ∃a,x=.slice (some a) 0 0:=by simpa only[Yk] using g
  refine UD (λh0=>?_) λh0=>Yh λhfit=>?_
  ·rw[Yp] at h0
   have h0:n=0:=Zm h0
   subst h0
   have hv:vs=[]:=by have:=hf.len;rw[W4] at this;exact YR.1 this
   refine Yb hs (x:=.slice (some a) 0 0) (run g (.inr (Zo _)) ?_) (by simp[Yk])
   simp[app,hf.run w rfl,hv,storeCells]
  ·rw[Yp] at h0
   rw[Xa] at hfit
   have h0:n≠0:=of_decide_eq_false h0
   have hfit:n*i.bytes<=140737488355328:=Zm hfit
   obtain⟨k,rest,k1,k2,k3⟩:=Dp (P:=P) (w:=w) (e:=e) (i:=i) (z:=z) (base:=some a) (sLen:=0) (sCap:=0) (n:=n) (vo:=[]) (vn:=vs) K1 (by omega) (λw' _=>by simp only[Builtin.firstCells,W4];rfl) hf.run
   rw[Zf] at k1
   exact KS hs (run g (.inl (by rw[Zf];exact hfit)) k1) hf.rel hf.one k3 hsz hf.len (by rw[k2,MK])
 ·rw[hx] at g
  have g:x=.slice none 0 0:=by simpa only[Yk] using g
  refine UD (λh0=>?_) λh0=>Yh λhfit=>?_
  ·rw[Yp] at h0
   have h0:n=0:=Zm h0
   subst h0
   refine Yb hs (x:=.slice none 0 0) (run g (.inr (Zo _)) ?_) (by simp[Yk])
   simp[app,hf.run w rfl]
  ·rw[Yp] at h0
   rw[Xa] at hfit
   have h0:n≠0:=of_decide_eq_false h0
   have hfit:n*i.bytes<=140737488355328:=Zm hfit
   obtain⟨k,rest,k1,k2,k3⟩:=Dp (P:=P) (w:=w) (e:=e) (i:=i) (z:=z) (base:=none) (sLen:=0) (sCap:=0) (n:=n) (vo:=[]) (vn:=vs) K1 (by omega) (λw' _=>by rfl) hf.run
   rw[Zf] at k1
   exact KS hs (run g (.inl (by rw[Zf];exact hfit)) k1) hf.rel hf.one k3 hsz hf.len (by rw[k2,MK])
 ·rw[hx] at g
  have g0:=g
  obtain⟨l,hl,e1⟩:=UG g
  refine Si λr hr=>Yh λZiQ=>?_
  obtain⟨cs',fr,hc,hrr⟩:=hs.row hr hl
  have hcap:=Cc hrr off cap
  refine UD (λhin=>?_) λhout=>?_
  ·rw[Xa] at hin
   have hin:len+n<=VI r off cap:=Zm hin
   have hin':len+n<=cap.getD (l.tot - off/l.sz):=ZX hin hcap
   refine UD (λh0=>?_) λh0=>Yh λNX=>Yh λhle=>Yh λhfz=>?_
   ·rw[Yp] at h0
    have h0:n=0:=Zm h0
    subst h0
    have hv:vs=[]:=by have:=hf.len;rw[W4] at this;exact YR.1 this
    refine Yb hs (x:=x) (run e1 (.inr hin') ?_) (by rw[hx];exact g0)
    simp only[app,if_pos hin',Sem.run_bind,hf.run w rfl,Result.andThen_ok,hv]
    rw[e1]
    simp[storeCells]
   ·rw[Xa] at hle hfz
    have hle:off+(len+n)*i.size<=r.size:=Zm hle
    have hfz:r.fz<=off+len*i.size:=Zm hfz
    obtain⟨w',hrun,htr⟩:=FZ hs hr hl NX hf.rel hf.one (o:=off+len*i.size) (by rw[hf.len];rw[WI] at hle;omega) hfz
    refine VW htr (run e1 (.inr hin') ?_) (R9 hl)
    simp only[app,if_pos hin',Sem.run_bind,hf.run w rfl,Result.andThen_ok,QQ]
    rw[UJ,hrun]
    rfl
  ·rw[Xa] at hout
   have hout: ¬(len+n<=VI r off cap):=of_decide_eq_false hout
   refine Yh λhfit=>Yh λhle=>?_
   rw[Xa] at hfit hle
   have hfit:(len+n)*i.bytes<=140737488355328:=Zm hfit
   have hle:off+len*i.size<=r.size:=Zm hle
   obtain⟨vo,o2,o3,o4,o5⟩:=Oz hrr (len*i.size) off hle
   have hfo: ∀c,∀w':World,w'.heap=w.heap->(Builtin.firstCells i.size len (.slice (some ⟨l.blk,l.base+off,none⟩) len c)).run P w'=.ok ⟨vo⟩ w':=by
    intro c w' hw
    have hc':w'.heap[l.blk]? =some (.cells cs' r.elem fr):=by rw[hw];exact hc
    have:=Qc (P:=P) hc' vo (o:=l.base+off) o4
    rw[o3] at this
    exact this
   have grown: ¬(len+n<=cap.getD (l.tot - off/l.sz))->YZ P σ H w q (.val (.slice H.nx 0 (len+n) none) (H.newRow e i.size (VB r off (len*i.size)++as) false)):=by
    intro hg
    obtain⟨k,rest,k1,k2,k3⟩:=Dp (P:=P) (w:=w) (e:=e) (i:=i) (z:=z) K1 hg (hfo _) hf.run
    refine KS hs (run e1 (.inl hfit) k1) (o2.append hf.rel) (λv hv=>?_) k3 hsz (by rw[ZE,o3,hf.len,WI]) (by rw[k2,MK])
    rcases Zt.1 hv with hv|hv
    ·exact o5 v hv
    ·exact hf.one v hv
   cases cap with
   |some c=>exact grown hout
   |none=>
    have ZiR:r.sz=i.size:=by
     have:Nat.beq r.sz i.size=true:=ZiQ
     rw[Yp] at this
     exact Zm this
    refine UD (λhex=>Yh λhmod=>?_) λhex=>?_
    ·rw[Yp] at hmod
     have hmod:off % i.size=0:=Zm hmod
     refine grown ?_
     rw[Ep hrr hex (by rw[hrr.sz,ZiR];exact hmod)] at hout
     exact hout
    ·refine Yh λhel=>Yh λNX=>Yh λhfz=>Yh λhsize=>Yh λh0=>?_
     rw[Yp] at hel hsize h0
     rw[Xa] at hfz
     have hel:r.elem=e:=Zm hel
     have hsize:len*i.size=r.size:=Zm hsize
     have h0:off=0:=Zm h0
     have hfz:r.fz<=len*i.size:=Zm hfz
     subst h0
     obtain⟨hwr,hown⟩:=Wr.of_may NX hr
     have Zat:l.sz=i.size:=by rw[hrr.sz,ZiR]
     have hal:as.length=n*i.size:=by rw[hf.rel.length];exact hf.len
     have hvl:=hf.len
     have hsum:(len+n)*i.size=len*i.size+n*i.size:=WI _ _ _
     have hcell:=λj (hj:j<len*i.size+as.length)=>qm r i.size ((len+n)*i.size) (len*i.size) as hj
     by_cases hin:len+n<=l.tot
     ·have hin':len+n<=(none:Option Nat).getD (l.tot - 0/l.sz):=by rw[Nat.zero_div];exact hin
      have hmul:(len+n)*i.size<=l.tot*i.size:=UC _ hin
      have q1:=hrr.room
      rw[Zat] at q1
      obtain⟨w',hrun,hw⟩:=No (P:=P) (o:=l.base+len*i.size) vs 0 w cs' hc (by omega) hf.one (λj hj=>by
       have:=hrr.frz hown (len*i.size+j) (by omega) (by rw[Zat];omega)
       rwa [show l.base+len*i.size+0+j=l.base+(len*i.size+j) by omega])
      refine VW (Tr.move hs hr hl hwr hw.size hw.new hw.old ⟨_,fr,rfl,?_⟩ hw.tape hw.os hw.out) (run e1 (.inr hin') ?_) (by simp only[Yk];exact⟨l,Mp.put_same _ _ _,rfl⟩)
      ·have ext:=Mp.put_ext l (hs.fresh (Zo H.nx))
       refine⟨Zat,by omega,by rw[Zat];exact hmul,by rw[OJ];exact hrr.room,(λh=>by cases h),?_,?_,λ_=>hrr.frz hown,λ_=>hrr.frs hown⟩
       ·intro j hj
        have hj:j<(len+n)*i.size:=hj
        show ∃v,_∧Yk _ ((⟨r.elem,i.size,(len+n)*i.size,YQ r.cells (len*i.size) as,r.dflt,r.fz,r.sm,true,false⟩:Row).get j) v
        rw[P6 _ _ _ _ (by omega)]
        rcases hcell j (by omega) with⟨h1,h2⟩|⟨a,h1,h2,h3⟩
        ·rw[h2,if_neg (by omega)]
         obtain⟨v,hv,hrel⟩:=hrr.cell j (by omega)
         exact⟨v,hv,hrel.mono ext⟩
        ·obtain⟨v,hv,hrel⟩:=hf.rel.get h2
         rw[h3,if_pos (by omega)]
         refine⟨v,?_,hrel.mono ext⟩
         rw[show l.base+j - (l.base+len*i.size+0)=j - len*i.size by omega];exact hv
       ·intro j v hj hv
        have hj:j<(len+n)*i.size:=hj
        rw[P6 _ _ _ _ (by omega)] at hv
        split at hv
        ·exact hf.one v (VN hv)
        ·exact hrr.one j v (by omega) hv
      ·simp only[app,if_pos hin',Sem.run_bind,hf.run w rfl,Result.andThen_ok,QQ]
       rw[Zj,hrun]
       rfl
     ·have hg: ¬(len+n<=(none:Option Nat).getD (l.tot - 0/l.sz)):=by rw[Nat.zero_div];exact hin
      obtain⟨k,rest,k1,k2,k3⟩:=Dp (P:=P) (w:=w) (e:=e) (i:=i) (z:=z) K1 hg (hfo _) hf.run
      have td:=Tr.del (P:=P) (b:=b) hs.drew hl hwr.1
      refine VW (((Tr.drew hs).trans td).trans (Tr.alloc td.sim (.row ⟨r.elem,i.size,(len+n)*i.size,YQ r.cells (len*i.size) as,r.dflt,r.fz,r.sm,true,false⟩) _ ⟨w.heap.size,0,len+n+k,i.size⟩ rfl ⟨_,(0,0),by rw[hel],?_⟩)) (run e1 (.inl hfit) k1) (Rf (l:=⟨w.heap.size,0,len+n+k,i.size⟩) rfl)
      have ext:=Mp.put_ext ⟨w.heap.size,0,len+n+k,i.size⟩ (hs.fresh (Zo H.nx))
      rw[MK] at k2
      have Zdd:(len+n+k)*i.size=(len+n)*i.size+k*i.size:=WI _ _ _
      refine⟨rfl,hsz,by rw[Zdd];exact Nat.le_add_right _ _,?_,(λh=>by cases h),?_,?_,?_,λ_ _=>.inl rfl⟩
      ·simp only[List.size_toArray,ZE,o3,hvl,k2]
       rw[Zdd];omega
      ·intro j hj
       have hj:j<(len+n)*i.size:=hj
       simp only[Zf,Wa]
       rcases hcell j (by omega) with⟨h1,h2⟩|⟨a,h1,h2,h3⟩
       ·rw[h2]
        obtain⟨v,hv,hrel⟩:=o2.get (Qp r (len*i.size) 0 j h1)
        rw[Zf] at hrel
        refine⟨v,?_,hrel.mono ext⟩
        rw[Z1 (by rw[ZE];omega),Z1 (by omega)]
        exact hv
       ·obtain⟨v,hv,hrel⟩:=hf.rel.get h2
        rw[h3]
        refine⟨v,?_,hrel.mono ext⟩
        rw[Z1 (by rw[ZE];omega),Z5 (by omega),o3]
        exact hv
      ·intro j v _ hv
       simp only[Zf,Wa] at hv
       have:=VN hv
       rcases Zt.1 this with h|h
       ·rcases Zt.1 h with h|h
        ·exact o5 v h
        ·exact hf.one v h
       ·exact k3 v h
      ·intro _ j _ _
       simp only;omega
theorem m8(hs:WM P σ H w)(hρ:Qi P σ tm ρ){o:Oper}{xs:List Operand}{ts:List TypeId}(ho:o.op=.call ⟨.builtin .append,⟨xs⟩,⟨ts⟩⟩):Xv P σ H w tm ρ o:=by
 refine Tj ho λcs=>?_
 rcases xs with _|⟨x,_|⟨y,_|⟨_,_⟩⟩⟩<;>try exact trivial
 rcases ts with _|⟨t,_|⟨t2,_|⟨_,_⟩⟩⟩<;>try exact trivial
 refine Xn λd hu=>Ml λe hd=>XV λi hi=>UL λz hz=>W2 (λhzl=>Xn λd2 hu2=>?_) λ_=>SL
 subst hd
 have happ: ∀{n:Nat} {news:Sem (Array Value)} {as:List AV} {vs:List Value} (_:1<=i.size) (hf:Zg1 P σ w i.size n news as vs)
   (h: ∀{base:Option Addr} {sLen sCap:Nat},ρ x=.slice base sLen sCap->((sLen+n)*i.bytes<=140737488355328∨sLen+n<=sCap)->(Builtin.append_ ⟨[t,t2]⟩ o.type ⟨[.slice base sLen sCap,ρ y]⟩).run P w=(app e i z base sLen sCap n news).run P w),
   YZ P σ H w ((builtin .append ⟨[t,t2]⟩ o.type cs ⟨[ρ x,ρ y]⟩).run P w) (MW (YM P x tm) e i.size i.bytes H n as):=by
  intro n news as vs hsz hf h
  rw[Yp,Yz] at hzl
  have hzl:(W9 z).cells.length=i.size:=Zm hzl
  obtain⟨hzr,K1⟩:=RR (σ:=σ) z (by omega)
  have MK:z.cells.size=i.size:=by rw[<-hzl,hzr.length];simp
  refine nQ hs (hρ x) hsz K1 MK hf λ{base sLen sCap v w'} e1 e2 e3=>Vn ?_
  rw[e1]
  exact(h e1 e2).trans e3
 have hd2:(∃k,d2=.int k)∨ ∀k,d2≠.int k:=by
  cases d2<;>first
   |exact .inl ⟨_,rfl⟩
   |exact .inr (λk h=>by cases h)
 rcases hd2 with⟨k,rfl⟩|hd2
 ·refine Yh λhsz=>Yh λhb=>Rl λk' n hy=>Yh λhn=>?_
  rw[Xa] at hsz hb hn
  have hsz:1<=i.size:=Zm hsz
  have hb:1<=i.bytes:=Zm hb
  have hn:n*i.bytes<=140737488355328:=Zm hn
  have hy2:ρ y=.int k' (n:Nat):=by
   have:=hρ y
   rw[hy] at this
   have this:ρ y=.int k' (Int.ofNat n):=by simpa only[Yk] using this
   rw[this];rfl
  rw[Yp,Yz] at hzl
  have ZiT:(W9 z).cells.length=i.size:=Zm hzl
  obtain⟨hzr,K1⟩:=RR (σ:=σ) z (by omega)
  have MK:z.cells.size=i.size:=by rw[<-ZiT,hzr.length];simp
  refine happ (vs:=(Builtin.zeroCells z.cells n).toList) (news:=pX i z n) hsz ⟨?_,(Mz K1 n).2,by simpa [MK] using (Mz K1 n).1,λw' _=>?_⟩ λ{base sLen sCap} e1 e2=>?_
  ·have:=(Em (σ:=σ) hzr (λv hv=>K1 v hv) (by omega) n).1
   rw[ZiT,<-MK] at this
   exact this
  ·unfold pX
   split
   ·next h0=>
    have:Builtin.zeroCells z.cells n= #[]:=by
     apply Array.ext'
     have:=(Mz K1 n).1
     rw[MK,h0] at this
     exact YR.1 (by simpa using this)
    simp[this]
   ·simp
  ·rw[hy2]
   exact du hu hu2 hi hz hb hn e2
 have hno:oL (Gh (YM P x) (YM P y) e i.size i.bytes (W9 z).cells) (W7 (YM P x) (YM P y) e i.size i.bytes) d2=W7 (YM P x) (YM P y) e i.size i.bytes:=by
  cases d2<;>first|rfl|exact absurd rfl (hd2 _)
 rw[hno]
 refine Yh λhsz=>Yh λhb=>A4 λn hn=>J6 hs (hρ y) hn (Zo _) λas vs hf=>?_
 rw[Xa] at hsz hb
 have hsz:1<=i.size:=Zm hsz
 have hb:1<=i.bytes:=Zm hb
 have hlenOf:=zU (P:=P) hn (hρ y) w
 exact happ hsz ⟨hf.rel,hf.one,hf.len,hf.run⟩ λe1 e2=>ZbX hu hu2 hd2 hi hz hlenOf hb e2
def mm(mx:Bool):Value->Value->Sem Value:=if mx then Builtin.max2 else Builtin.min2
theorem A5{r:Result Next}(hs:WM P σ H w){mx:Bool}{k:IntKind}: ∀(as:List AV) (vs:List Value) (a:Int),YE σ as vs->
  (∀v,(vs.foldlM (mm mx) (.int k a):Sem Value).run P w=.ok v w->r=.ok (.value v) w)->YZ P σ H w r (min2 mx k a H as)
 |[],vs,a,h,g=>by
  rw[h.nil_inv] at g
  exact Yb hs (x:=.int k a) (g _ rfl) (by simp[Yk])
 |x::as,vs,a,h,g=>by
  obtain⟨v,vs',h1,h2,rfl⟩:=h.cons_inv
  unfold min2
  split
  ·rename_i j b
   refine Yh λhk=>?_
   have:=R0 hk;subst this
   have h1:=XZ h1
   subst h1
   refine A5 hs as vs' _ h2 λv hv=>g v ?_
   rw[List.foldlM_cons]
   cases mx with
   |true=>
    simp only[mm,if_true,Builtin.max2,Sem.run_bind,Sem.run_pure,Result.andThen_ok]
    rw[<-hv]
    congr 2
    by_cases hh:a<b
    ·simp[hh,NY]
    ·simp[hh,NY]
   |false=>
    simp only[mm,XH,if_false,Builtin.min2,Sem.run_bind,Sem.run_pure,Result.andThen_ok]
    rw[<-hv]
    congr 2
    by_cases hh:b<a
    ·simp[hh,NY]
    ·simp[hh,NY]
  ·trivial
theorem zI(hs:WM P σ H w)(hρ:Qi P σ tm ρ){o:Oper}{mx:Bool}{xs:List Operand}{ts:List TypeId}(ho:o.op=.call ⟨.builtin (if mx then .max else .min),⟨xs⟩,⟨ts⟩⟩):Xv P σ H w tm ρ o:=by
 refine Tj ho λcs=>?_
 have key: ∀r,(∀v,(match xs.map ρ with|[]=>.halt (.stuck "")|x::rest=>rest.foldlM (mm mx) x:Sem Value).run P w=.ok v w->r=.ok (.value v) w)->YZ P σ H w r (TW mx (xs.map (YM P)) tm H):=by
  intro r hrr
  unfold TW
  have hr:=Jh hρ xs
  split
  ·rename_i k a l he
   rw[he] at hr
   obtain⟨v,vs,h1,h2,h3⟩:=hr.cons_inv
   have h1:=XZ h1
   subst h1
   exact A5 hs l vs a h2 λv hv=>hrr v (by rw[h3];exact hv)
  ·trivial
 cases mx with
 |true=>
  refine key _ λv hv=>Vn (s:=Builtin.max_ ⟨ts⟩ o.type ⟨xs.map ρ⟩) ?_
  simp only[Builtin.max_]
  cases hl:xs.map ρ with
  |nil=>rw[hl] at hv;cases hv
  |cons x l=>rw[hl] at hv;exact hv
 |false=>
  refine key _ λv hv=>Vn (s:=Builtin.min_ ⟨ts⟩ o.type ⟨xs.map ρ⟩) ?_
  simp only[Builtin.min_]
  cases hl:xs.map ρ with
  |nil=>rw[hl] at hv;cases hv
  |cons x l=>rw[hl] at hv;exact hv
theorem If{g:Nat}{cs:Array Value}{t:TypeId}{fr:Nat×Nat}(h:w.heap[g]? =some (.cells cs t fr)): ∀(ns:List Int) (o:Nat) (acc:ByteArray),
  (∀(j:Nat) (v:Value),(ns.map (Value.int .u8))[j]? =some v->cs[o+j]? =some v)->(loadBytes ⟨g,o,none⟩ acc ns.length).run P w=.ok (ns.foldl (λr n=>r.push (UInt8.ofNat n.toNat)) acc) w
 |[],o,acc,_=>rfl
 |n::ns,o,acc,hv=>by
  have h0:=hv 0 (.int .u8 n) rfl
  simp only[Ye,loadBytes,Sem.run_bind,run_load,Ho h,Zj] at h0 ⊢
  rw[h0]
  simp only[Result.andThen_ok,QQ]
  exact If h ns (o+1) _ λj v hj=>by
   have:=hv (j+1) v (by simpa using hj)
   rw[<-this];congr 1;omega
theorem y4{w:World}{g o n:Nat}{cs:Array Value}{t:TypeId}{fr:Nat×Nat}(h:w.heap[g]? =some (.cells cs t fr))(hn:n≠0):
  As w (w.freeze ⟨g,o,none⟩ n) g (.cells cs t (if fr.1=fr.2 then(o,o+n) else(min fr.1 o,max fr.2 (o+n)))):=by
 obtain⟨a,b⟩:=fr
 refine⟨by simp[World.freeze,hn],?_,λk hk=>?_,by simp[World.freeze,hn],by simp[World.freeze,hn],by simp[World.freeze,hn]⟩
 ·simp only[World.freeze,hn,if_false,WH]
  rw[h];simp
 ·simp only[World.freeze,hn,if_false,WH]
  rw[if_neg (λe=>hk e.symm)]
theorem zT(k:IntKind)(n:Int):(asInt (.int k n)).run P w=.ok n w:=rfl
theorem kK(pt ty:TypeId)(rest:List TypeId)(k:IntKind)(p:Option Addr):(Builtin.unsafeString_ ⟨pt::rest⟩ ty #[.pointer p,.int k 0]).run P w=.ok (.string .empty) w:=by
 show((asInt (.int k 0))>>=_:Sem Value).run P w=_
 rw[Sem.run_bind,zT]
 cases p<;>rfl
theorem kJ{pt ty e:TypeId}(rest:List TypeId){k:IntKind}{n:Nat}{a:Addr}{s:ByteArray}(hu:P.underlying pt=some (.pointer e))(h0:n≠0)(hn:n<=140737488355328)
  (hv:(variablesAt a e n).run P w=.ok true w)(hl:(loadBytes a .empty n).run P w=.ok s w):
  (Builtin.unsafeString_ ⟨pt::rest⟩ ty #[.pointer (some a),.int k (n:Int)]).run P w=.ok (.string s) (w.freeze a n):=by
 show((asInt (.int k (n:Int)))>>=_:Sem Value).run P w=_
 have p1: ¬((n:Int)<0):=by omega
 have p2: ¬((n:Int)>IntKind.i64.max):=by
  have:IntKind.i64.max=9223372036854775807:=by decide
  omega
 have p3: ¬((n:Int)=0):=by omega
 rw[Sem.run_bind,zT]
 simp only[Result.andThen_ok,Wa,Uu,p1,if_false,p2,p3,Sem.run_bind,elemOf,run_underlying hu,Sem.run_pure,WD,hv,if_true,hl,run_freeze]
theorem ZbH(hs:WM P σ H w)(hρ:Qi P σ tm ρ){o:Oper}{xs:List Operand}{ts:List TypeId}(ho:o.op=.call ⟨.builtin .unsafeString,⟨xs⟩,⟨ts⟩⟩):Xv P σ H w tm ρ o:=by
 refine Tj ho λcs=>?_
 rcases xs with _|⟨x,_|⟨y,_|⟨_,_⟩⟩⟩<;>try exact trivial
 rcases ts with _|⟨t,_|⟨t2,_|⟨_,_⟩⟩⟩<;>try exact trivial
 refine Xn λd hu=>nS λe hd=>XV λi hi=>W2 (λhsz=>?_) λ_=>SL
 subst hd
 rw[Yp] at hsz
 have hsz:i.size=1:=Zm hsz
 refine Rl λk n hn=>?_
 have g1:=hρ x
 have g2:=hρ y
 rw[hn] at g2
 have g2:=XZ g2
 refine UD (λh0=>?_) λh0=>Yh λhmax=>PW λb off hx=>Si λr hr=>Yh λhel=>Yh λNX=>Yh λhle=>?_
 ·rw[Yp] at h0
  have h0:n=0:=Zm h0
  subst h0
  have fin: ∀p,ρ x=.pointer p->YZ P σ H w ((builtin .unsafeString ⟨[t,t2]⟩ o.type cs ⟨[ρ x,ρ y]⟩).run P w) (.val (.str []) H):=by
   intro p e1
   refine Yb hs (x:=.string .empty) ?_ (by simp only[Yk];rfl)
   refine Vn (s:=Builtin.unsafeString_ ⟨[t,t2]⟩ o.type #[ρ x,ρ y]) ?_
   rw[e1,g2]
   exact kK _ _ _ _ _
  split
  ·rename_i hx
   rw[hx] at g1
   exact fin none (by simpa only[Yk] using g1)
  ·rename_i b off hx
   rw[hx] at g1
   obtain⟨l,_,e1⟩:=UO g1
   exact fin _ e1
  ·trivial
 ·rw[hx] at g1
  obtain⟨l,hl,e1⟩:=UO g1
  obtain⟨cs',fr,hc,hrr⟩:=hs.row hr hl
  have zr:r.sm=false∧H.may r b=true:=by
   cases hsm:r.sm with
   |true=>rw[hsm] at NX;cases NX
   |false=>rw[hsm] at NX;exact⟨rfl,NX⟩
  obtain⟨hwr,hown⟩:=Wr.of_may zr.2 hr
  rw[Yp] at h0 hel
  rw[Xa] at hmax hle
  have h0:n≠0:=of_decide_eq_false h0
  have hel:r.elem=e:=Zm hel
  have hmax:n<=140737488355328:=Zm hmax
  have hle:off+n<=r.size:=Zm hle
  have q1:=hrr.fits
  have q2:=hrr.room
  obtain⟨vs,h2,h3,h4,h5⟩:=Oz hrr n off hle
  refine LM _ vs h2 λns hns=>?_
  subst hns
  have hnl:ns.length=n:=by simpa using h3
  have hcell:P.cellsOf e=1:=by simp[Program.cellsOf,hi,hsz]
  have hw:=y4 (o:=l.base+off) (n:=n) hc h0
  refine VW (Tr.write hs hr hl hwr hw.size hw.new hw.old ⟨_,_,rfl,?_⟩ hw.tape hw.os hw.out) (x:=.string ⟨(ns.map wB).toArray⟩) ?_ (by simp[Yk])
  ·have hfz:(cond (Nat.ble r.fz (Nat.add off n)) (Nat.add off n) r.fz)=max r.fz (off+n):=by
    rw[Xa]
    show cond _ (off+n) r.fz=_
    by_cases hh:r.fz<=off+n
    ·rw[show decide (r.fz<=Nat.add off n)=true from Zd hh];simp only[cond_true];omega
    ·rw[show decide (r.fz<=Nat.add off n)=false from Zb hh];simp only[cond_false];omega
   rw[hfz]
   refine⟨hrr.sz,hrr.sz1,hrr.fits,hrr.room,hrr.exact,hrr.cell,hrr.one,?_,?_⟩
   ·intro _ j hj hj2
    have hj:max r.fz (off+n)<=j:=hj
    have:=hrr.frs hown zr.1
    split
    ·simp only;omega
    ·simp only;omega
   ·intro _ _
    have:=hrr.frs hown zr.1
    right
    split
    ·simp only;omega
    ·simp only;omega
  ·refine Vn (s:=Builtin.unsafeString_ ⟨[t,t2]⟩ o.type #[ρ x,ρ y]) ?_
   rw[e1,g2]
   have hsh:=GI hc
   have hlies:liesAt P P.depth r.elem (cs'.size/P.cellsOf r.elem) (l.base+off) e n=true:=by
    rw[hel]
    refine pQ (by omega) (by rw[hcell];omega) ?_
    rw[hcell,Nat.div_one,Nat.div_one];omega
   have hld:=If (P:=P) hc ns (l.base+off) .empty h4
   rw[hnl,Fy] at hld
   exact kJ _ hu h0 hmax (by simp only[variablesAt,Sem.run_bind,run_program,Result.andThen_ok,run_shape,hsh,hlies,Sem.run_pure]) (by simpa using hld)
def I4(P:Program)(σ:Mp)(D:Nat)(t:Nat)(f:AV->AV->Option Bool):Prop:=
 ∀(a b:AV) (x y:Value) (r:Bool) (w:World),Yk σ a x->Yk σ b y->f a b=some r->(Op.equalIn D t x y).run P w=.ok r w
theorem jT{t D:Nat}(hu:P.underlying t=some .bool):I4 P σ (D+1) t kR:=by
 intro a b x y r w ha hb h
 unfold kR at h
 split at h
 ·cases h
  rw[Sn ha,Sn hb,run_equalIn_bool w D t _ _ hu]
  rename_i p q
  cases p<;>cases q<;>rfl
 ·cases h
theorem Zez{t D:Nat}{k':IntKind}(hu:P.underlying t=some (.int k')):I4 P σ (D+1) t Uk:=by
 intro a b x y r w ha hb h
 unfold Uk at h
 split at h
 ·rename_i j p k q
  cases hk:Nl j k with
  |false=>rw[hk] at h;cases h
  |true=>
   rw[hk] at h
   have:=R0 hk;subst this
   cases h
   rw[XZ ha,XZ hb,run_equalIn_int w D t _ _ _ _ hu,Pj]
 ·cases h
theorem ZeB{t D:Nat}(hu:P.underlying t=some .string):I4 P σ (D+1) t Mj:=by
 intro a b x y r w ha hb h
 unfold Mj at h
 split at h
 ·cases h
  rw[Ue ha,Ue hb,run_equalIn_string w D t _ _ hu,Qh,JP,JP]
 ·cases h
theorem Lh{v:Value}(h:Yk σ .nilp v):v=.pointer none:=by simpa [Yk] using h
theorem P4{v:Value}(h:Yk σ .nils v):v=.slice none 0 0:=by simpa [Yk] using h
theorem O7{v:Value}(h:Yk σ .nilm v):v=.map none:=by simpa [Yk] using h
theorem Lg{v:Value}(h:Yk σ .nilf v):v=.nilFunc:=by simpa [Yk] using h
theorem P3{v:Value}(h:Yk σ .nili v):v=.nilIface:=by simpa [Yk] using h
theorem JK{b:Nat}{v:Value}(h:Yk σ (.map b) v): ∃l,σ b=some l∧v=.map (some l.blk):=by simpa only[Yk] using h
theorem N1{f:Nat}{a b:List AV}{v:Value}(h:Yk σ (.func f a b) v): ∃x y,YE σ a x∧YE σ b y∧v=.func (.func f) ⟨x⟩ ⟨y⟩:=by simpa only[Yk] using h
theorem Sa{t:Nat}{a:AV}{v:Value}(h:Yk σ (.iface t a) v): ∃x,Yk σ a x∧v=.iface t x:=by simpa only[Yk] using h
theorem LZ{cs:List AV}{v:Value}(h:Yk σ (.agg cs) v): ∃vs,YE σ cs vs∧(∀x∈vs,x.oneCell'=true)∧v=.agg ⟨vs⟩:=by simpa only[Yk] using h
theorem jZ{t D e:Nat}{i:TypeInfo}(hu:P.underlying t=some (.pointer e))(hi:P.info? e=some i)(h0:i.size≠0):I4 P σ (D+1) t nA:=by
 intro a b x y r w ha hb h
 unfold nA at h
 split at h
 ·cases h;rw[Lh ha,Lh hb];simp[Op.equalIn,run_underlying hu]
 ·cases h;obtain⟨l,_,e1⟩:=UO hb;rw[Lh ha,e1];simp[Op.equalIn,run_underlying hu]
 ·cases h;obtain⟨l,_,e1⟩:=UO ha;rw[Lh hb,e1];simp[Op.equalIn,run_underlying hu]
 ·rename_i b o c p
  rw[Yp,Yp] at h
  by_cases hbc:b=c
  ·subst hbc
   rw[Zd rfl] at h
   cases h
   obtain⟨l,hl,e1⟩:=UO ha
   obtain⟨l2,hl2,e2⟩:=UO hb
   rw[hl] at hl2;cases hl2
   rw[e1,e2]
   simp only[Op.equalIn,Sem.run_bind,run_underlying hu,Result.andThen_ok,WL hi,sameAddr]
   rw[if_pos h0]
   simp only[beq_self_eq_true,if_true,Sem.run_pure,Result.ok.injEq,and_true]
   by_cases hop:o=p
   ·subst hop;simp
   ·rw[Zb hop]
    rw[beq_eq_false_iff_ne]
    intro he
    have:=congrArg Addr.off he
    simp only at this
    omega
  ·rw[Zb hbc] at h;cases h
 ·cases h
theorem jW{t D e:Nat}(hu:P.underlying t=some (.slice e)):I4 P σ (D+1) t jV:=by
 intro a b x y r w ha hb h
 unfold jV at h
 split at h
 ·cases h;rw[P4 ha,P4 hb];simp[Op.equalIn,run_underlying hu]
 ·cases h;obtain⟨l,_,e1⟩:=UG hb;rw[P4 ha,e1];simp[Op.equalIn,run_underlying hu]
 ·cases h;obtain⟨l,_,e1⟩:=UG ha;rw[P4 hb,e1];simp[Op.equalIn,run_underlying hu]
 ·cases h;obtain⟨l,e1⟩:=(by simpa only[Yk] using hb: ∃a,y=.slice (some a) 0 0);rw[P4 ha,e1];simp[Op.equalIn,run_underlying hu]
 ·cases h;obtain⟨l,e1⟩:=(by simpa only[Yk] using ha: ∃a,x=.slice (some a) 0 0);rw[P4 hb,e1];simp[Op.equalIn,run_underlying hu]
 ·cases h
theorem jX{t D k e:Nat}(hu:P.underlying t=some (.map k e)):I4 P σ (D+1) t eqM:=by
 intro a b x y r w ha hb h
 unfold eqM at h
 split at h
 ·cases h;rw[O7 ha,O7 hb];simp[Op.equalIn,run_underlying hu]
 ·cases h;obtain⟨l,_,e1⟩:=JK hb;rw[O7 ha,e1];simp[Op.equalIn,run_underlying hu]
 ·cases h;obtain⟨l,_,e1⟩:=JK ha;rw[O7 hb,e1];simp[Op.equalIn,run_underlying hu]
 ·cases h
theorem jY{t D:Nat}{p q:Array TypeId}{v:Bool}(hu:P.underlying t=some (.func p q v)):I4 P σ (D+1) t eqN:=by
 intro a b x y r w ha hb h
 unfold eqN at h
 split at h
 ·cases h;rw[Lg ha,Lg hb];simp[Op.equalIn,run_underlying hu]
 ·cases h;obtain⟨_,_,_,_,e1⟩:=N1 hb;rw[Lg ha,e1];simp[Op.equalIn,run_underlying hu]
 ·cases h;obtain⟨_,_,_,_,e1⟩:=N1 ha;rw[Lg hb,e1];simp[Op.equalIn,run_underlying hu]
 ·cases h
theorem jU{t D:Nat}{ms:Array (String×TypeId)}{lit:Bool}{g:Nat->AV->AV->Option Bool}(hu:P.underlying t=some (.interface ms))(hg: ∀t,I4 P σ D t (g t)):I4 P σ (D+1) t (kS lit (eqC P g)):=by
 intro a b x y r w ha hb h
 unfold kS at h
 split at h
 ·cases lit
  ·cases h
  ·cases h;rw[P3 ha,P3 hb];simp[Op.equalIn,run_underlying hu]
 ·cases h;obtain⟨_,_,e1⟩:=Sa hb;rw[P3 ha,e1];simp[Op.equalIn,run_underlying hu]
 ·cases h;obtain⟨_,_,e1⟩:=Sa ha;rw[P3 hb,e1];simp[Op.equalIn,run_underlying hu]
 ·rename_i t1 v1 t2 v2
  obtain⟨x1,h1,e1⟩:=Sa ha
  obtain⟨y1,h2,e2⟩:=Sa hb
  rw[e1,e2]
  rw[Yp] at h
  by_cases ht:t1=t2
  ·subst ht
   rw[Zd rfl] at h
   have h:eqC P g t1 v1 v2=some r:=h
   unfold eqC at h
   split at h
   ·rename_i i hi
    cases hc:i.comparable with
    |false=>rw[hc] at h;cases h
    |true=>
     rw[hc] at h
     have hti:(typeInfo t1).run P w=.ok i w:=by simp[typeInfo,hi]
     simp only[Op.equalIn,Sem.run_bind,run_underlying hu,Result.andThen_ok,ne_eq,not_true_eq_false,if_false,hti,hc,YJ,XH]
     exact hg t1 v1 v2 x1 y1 r w h1 h2 h
   ·cases h
  ·rw[Zb ht] at h
   cases h
   simp[Op.equalIn,run_underlying hu,ht]
 ·cases h
theorem ai{t:Nat}{ag:Bool}(h:oT P t=some ag): ∃d,P.underlying t=some d∧ML P t=ag:=by
 unfold oT at h
 unfold ML
 split at h<;>rename_i e<;>cases h
 ·rw[e];exact⟨_,rfl,rfl⟩
 ·rw[e];exact⟨_,rfl,rfl⟩
 ·rename_i d h1 h2
  rw[e]
  refine⟨d,rfl,?_⟩
  cases d<;>first|rfl|exact absurd rfl (h1 _)|exact absurd rfl (h2 _ _)
theorem Gt{t:Nat}{cs:List AV}{vs:List Value}{off:Nat}{k:AV->Option Bool}{r:Bool}(hr:YE σ cs vs)(hone: ∀x∈vs,x.oneCell'=true)(h:Je P t cs off k=some r):
  ∃a x,Yk σ a x∧k a=some r∧ ∀w:World,(part t ⟨vs⟩ off).run P w=.ok x w:=by
 unfold Je at h
 split at h
 ·rename_i i ag hi hag
  obtain⟨d,hu,hia⟩:=ai hag
  cases ag with
  |true=>
   have h:k (.agg (Nx i.size (ON off cs)))=some r:=h
   rw[Lt,MZ] at h
   refine⟨_,.agg ⟨(vs.drop off).take i.size⟩,?_,h,λw=>?_⟩
   ·simp only[Yk]
    exact⟨_,(hr.drop _).take _,λy hy=>hone y (UA (VO hy)),rfl⟩
   ·simp only[part,Sem.run_bind,OC (w:=w) hu,hia,Result.andThen_ok,if_true,WL hi,Sem.run_pure]
    congr 2
    apply Array.ext'
    simp[Ve]
  |false=>
   have h:(match De cs off with|some v=>k v|none=>none)=some r:=h
   rw[LU] at h
   split at h
   ·rename_i v hv
    obtain⟨x,hx,hrel⟩:=hr.get hv
    refine⟨v,x,hrel,h,λw=>?_⟩
    simp only[part,Sem.run_bind,OC (w:=w) hu,hia,Result.andThen_ok,XH,if_false]
    simp[hx]
   ·cases h
 ·cases h
theorem Ex{e c D:Nat}{f:AV->AV->Option Bool}(hf:I4 P σ D e f){l m:List AV}{xs ys:List Value}(hl:YE σ l xs)(hm:YE σ m ys)(hlo: ∀x∈xs,x.oneCell'=true)(hmo: ∀x∈ys,x.oneCell'=true):
  ∀(is:List Nat) (r:Bool) (w:World),QS P f e c l m is=some r->(Op.eqItems D e c ⟨xs⟩ ⟨ys⟩ is).run P w=.ok r w
 |[],r,w,h=>by cases h;rfl
 |i::is,r,w,h=>by
  unfold QS at h
  obtain⟨a,x,h1,h2,h3⟩:=Gt hl hlo h
  obtain⟨b,y,g1,g2,g3⟩:=Gt hm hmo h2
  unfold tM at g2
  split at g2
  ·rename_i t ht
   have he:=hf a b x y t w h1 g1 ht
   simp only[Op.eqItems,Sem.run_bind,h3 w,g3 w,he,Result.andThen_ok]
   cases t with
   |true=>simpa using Ex hf hl hm hlo hmo is r w g2
   |false=>cases g2;simp
  ·cases g2
theorem LJ{D:Nat}{g:Nat->AV->AV->Option Bool}(hf: ∀t,I4 P σ D t (g t)){l m:List AV}{xs ys:List Value}(hl:YE σ l xs)(hm:YE σ m ys)(hlo: ∀x∈xs,x.oneCell'=true)(hmo: ∀x∈ys,x.oneCell'=true):
  ∀(fs:List Field) (r:Bool) (w:World),NH P g l m fs=some r->(Op.eqFields D ⟨xs⟩ ⟨ys⟩ fs).run P w=.ok r w
 |[],r,w,h=>by cases h;rfl
 |f::fs,r,w,h=>by
  unfold NH at h
  unfold Op.eqFields
  cases hn:f.name== "_" with
  |true=>
   rw[hn] at h
   rw[if_neg (by simpa using hn)]
   exact LJ hf hl hm hlo hmo fs r w h
  |false=>
   rw[hn] at h
   simp only[cond_false] at h
   rw[if_pos (by simpa using hn)]
   obtain⟨a,x,h1,h2,h3⟩:=Gt hl hlo h
   obtain⟨b,y,g1,g2,g3⟩:=Gt hm hmo h2
   unfold tM at g2
   split at g2
   ·rename_i t ht
    have he:=hf f.type a b x y t w h1 g1 ht
    simp only[Sem.run_bind,h3 w,g3 w,he,Result.andThen_ok]
    cases t with
    |true=>simpa using LJ hf hl hm hlo hmo fs r w g2
    |false=>cases g2;simp
   ·cases g2
theorem Zev{t D:Nat}{lit:Bool}{g:Nat->AV->AV->Option Bool}{d:TypeDesc}(hu:P.underlying t=some d)(hg: ∀t,I4 P σ D t (g t)):I4 P σ (D+1) t (λa b=>eqD P lit g t a b d):=by
 intro a b x y r w ha hb h
 cases d<;>simp only[eqD] at h<;>first
  |cases h;done
  |exact jT hu a b x y r w ha hb h
  |exact Zez hu a b x y r w ha hb h
  |exact ZeB hu a b x y r w ha hb h
  |exact jW hu a b x y r w ha hb h
  |exact jX hu a b x y r w ha hb h
  |exact jY hu a b x y r w ha hb h
  |exact jU hu hg a b x y r w ha hb h
  |skip
 case pointer e=>
  split at h
  ·rename_i i hi
   rw[Yp] at h
   by_cases h0:i.size=0
   ·rw[Zd h0] at h;cases h
   ·rw[Zb h0] at h
    exact jZ hu hi h0 a b x y r w ha hb h
  ·cases h
 case array n e=>
  unfold wo at h
  split at h
  ·split at h
   ·rename_i i hi
    obtain⟨xs,h1,h2,e1⟩:=LZ ha
    obtain⟨ys,g1,g2,e2⟩:=LZ hb
    have:=Ex (hg e) h1 g1 h2 g2 (List.range n) r w h
    rw[e1,e2,run_equalIn_array w D ⟨xs⟩ ⟨ys⟩ hu hi]
    rw[show P.cellsOf e=i.size by simp[Program.cellsOf,hi]]
    exact this
   ·cases h
  ·cases h
 case struct fs=>
  cases hst:P.stoodInHeld t with
  |true=>rw[hst] at h;cases h
  |false=>
   rw[hst] at h
   have h:wo a b (λl m=>NH P g l m fs.toList)=some r:=h
   unfold wo at h
   split at h
   ·obtain⟨xs,h1,h2,e1⟩:=LZ ha
    obtain⟨ys,g1,g2,e2⟩:=LZ hb
    have:=LJ hg h1 g1 h2 g2 fs.toList r w h
    have hfs:P.fieldsOf t=fs:=by simp[Program.fieldsOf,hu]
    rw[e1,e2,run_equalIn_struct w D t ⟨xs⟩ ⟨ys⟩ (by rw[hfs];exact hu) hst,hfs]
    exact this
   ·cases h
theorem sy: ∀(d D t:Nat),d<=D->I4 P σ D t (Ag P d t)
 |0,D,t,_=>by intro a b x y r w ha hb h;cases h
 |d+1,D,t,hD=>by
  obtain⟨D',rfl⟩: ∃D',D=D'+1:=⟨D - 1,by omega⟩
  intro a b x y r w ha hb h
  unfold Ag at h
  split at h
  ·rename_i u hu
   exact Zev (lit:=true) hu (λt=>sy d D' t (by omega)) a b x y r w ha hb h
  ·cases h
def J0(P:Program)(σ:Mp)(t:Nat)(X Y:Operand)(f:AV->AV->Option Bool):Prop:=
 ∀(a b:AV) (x y:Value) (r:Bool) (w:World),Yk σ a x->Yk σ b y->f a b=some r->
  (∀op,(eqGuard op t X Y x y).run P w=.ok () w)∧(binOp .eql t x y).run P w=.ok (.bool r) w∧(binOp .neq t x y).run P w=.ok (.bool (!r)) w
def ru(v:Value):Bool:=match v with|.int .. |.float .. |.complex .. |.string _=>false|_=>true
theorem ax{t:TypeId}{x y:Value}(h:ru x=true):binOp .eql t x y=(do pure (.bool (<-Op.equal t x y))):=by
 cases x<;>first|(cases h;done)|(unfold binOp;rfl)
theorem ay{t:TypeId}{x y:Value}(h:ru x=true):binOp .neq t x y=(do pure (.bool (!(<-Op.equal t x y)))):=by
 cases x<;>first|(cases h;done)|(unfold binOp;rfl)
theorem N7{t:TypeId}{X Y:Operand}{x y:Value}{r:Bool}(h:ru x=true)(hg: ∀op,(eqGuard op t X Y x y).run P w=.ok () w)(he:(Op.equalIn 10000 t x y).run P w=.ok r w):
  (∀op,(eqGuard op t X Y x y).run P w=.ok () w)∧(binOp .eql t x y).run P w=.ok (.bool r) w∧(binOp .neq t x y).run P w=.ok (.bool (!r)) w:=by
 have he:(Op.equal t x y).run P w=.ok r w:=he
 refine⟨hg,?_,?_⟩
 ·rw[ax h];simp[he]
 ·rw[ay h];simp[he]
theorem US{t:TypeId}{X Y:Operand}{x y:Value}(h1: ∀v,x≠.agg v)(h2:x≠.nilIface∨y≠.nilIface)(op:BinOp):(eqGuard op t X Y x y).run P w=.ok () w:=by
 cases op<;>simp only[eqGuard]<;>first
  |rfl
  |(cases x<;>first
    |rfl
    |exact absurd rfl (h1 _)
    |(cases y<;>first
      |rfl
      |(rcases h2 with h2|h2<;>exact absurd rfl h2)))
theorem ZnA{t:TypeId}{X Y:Operand}(hu:P.underlying t=some .bool):J0 P σ t X Y kR:=by
 intro a b x y r w ha hb h
 have he:=jT (D:=9999) hu a b x y r w ha hb h
 unfold kR at h
 split at h
 ·have ha:=Sn ha;subst ha
  exact N7 rfl (US (λ_ h=>by cases h) (.inl λh=>by cases h)) he
 ·cases h
theorem ZnG{t e:TypeId}{X Y:Operand}{i:TypeInfo}(hu:P.underlying t=some (.pointer e))(hi:P.info? e=some i)(h0:i.size≠0):J0 P σ t X Y nA:=by
 intro a b x y r w ha hb h
 have he:=jZ (D:=9999) hu hi h0 a b x y r w ha hb h
 have: ∃p,x=.pointer p:=by
  unfold nA at h
  split at h
  ·exact⟨_,Lh ha⟩
  ·exact⟨_,Lh ha⟩
  ·obtain⟨_,_,e1⟩:=UO ha;exact⟨_,e1⟩
  ·obtain⟨_,_,e1⟩:=UO ha;exact⟨_,e1⟩
  ·cases h
 obtain⟨p,rfl⟩:=this
 exact N7 rfl (US (λ_ h=>by cases h) (.inl λh=>by cases h)) he
theorem ZnD{t e:TypeId}{X Y:Operand}(hu:P.underlying t=some (.slice e)):J0 P σ t X Y jV:=by
 intro a b x y r w ha hb h
 have he:=jW (D:=9999) hu a b x y r w ha hb h
 have: ∃p n c,x=.slice p n c:=by
  unfold jV at h
  split at h
  ·exact⟨_,_,_,P4 ha⟩
  ·exact⟨_,_,_,P4 ha⟩
  ·obtain⟨_,_,e1⟩:=UG ha;exact⟨_,_,_,e1⟩
  ·exact⟨_,_,_,P4 ha⟩
  ·obtain⟨_,e1⟩:=(by simpa only[Yk] using ha: ∃a,x=.slice (some a) 0 0);exact⟨_,_,_,e1⟩
  ·cases h
 obtain⟨p,n,c,rfl⟩:=this
 exact N7 rfl (US (λ_ h=>by cases h) (.inl λh=>by cases h)) he
theorem ZnE{t k e:TypeId}{X Y:Operand}(hu:P.underlying t=some (.map k e)):J0 P σ t X Y eqM:=by
 intro a b x y r w ha hb h
 have he:=jX (D:=9999) hu a b x y r w ha hb h
 have: ∃p,x=.map p:=by
  unfold eqM at h
  split at h
  ·exact⟨_,O7 ha⟩
  ·exact⟨_,O7 ha⟩
  ·obtain⟨_,_,e1⟩:=JK ha;exact⟨_,e1⟩
  ·cases h
 obtain⟨p,rfl⟩:=this
 exact N7 rfl (US (λ_ h=>by cases h) (.inl λh=>by cases h)) he
theorem ZnF{t:TypeId}{p q:Array TypeId}{v:Bool}{X Y:Operand}(hu:P.underlying t=some (.func p q v)):J0 P σ t X Y eqN:=by
 intro a b x y r w ha hb h
 have he:=jY (D:=9999) hu a b x y r w ha hb h
 have:x=.nilFunc∨ ∃f m n,x=.func f m n:=by
  unfold eqN at h
  split at h
  ·exact .inl (Lg ha)
  ·exact .inl (Lg ha)
  ·obtain⟨_,_,_,_,e1⟩:=N1 ha;exact .inr ⟨_,_,_,e1⟩
  ·cases h
 rcases this with rfl|⟨f,m,n,rfl⟩
 ·exact N7 rfl (US (λ_ h=>by cases h) (.inl λh=>by cases h)) he
 ·exact N7 rfl (US (λ_ h=>by cases h) (.inl λh=>by cases h)) he
theorem nY{t:TypeId}{X Y:Operand}(h:(Kn X||Kn Y)=true)(op:BinOp):(eqGuard op t X Y .nilIface .nilIface).run P w=.ok () w:=by
 have hc:((X matches .const _)||(Y matches .const _))=true:=by
  cases X<;>cases Y<;>first|rfl|cases h
 cases op<;>simp only[eqGuard]<;>first
  |rfl
  |(cases X<;>cases Y<;>first|rfl|cases h)
theorem ZnB{t:TypeId}{ms:Array (String×TypeId)}{X Y:Operand}(hu:P.underlying t=some (.interface ms)):J0 P σ t X Y (kS (Kn X||Kn Y) (eqC P (Ag P 9))):=by
 intro a b x y r w ha hb h
 have he:=jU (D:=9999) hu (λt=>sy 9 9999 t (by omega)) a b x y r w ha hb h
 unfold kS at h
 split at h
 ·cases hl:(Kn X||Kn Y) with
  |false=>rw[hl] at h;cases h
  |true=>
   have ha:=P3 ha;subst ha
   have hb:=P3 hb;subst hb
   exact N7 rfl (nY hl) he
 ·have ha:=P3 ha;subst ha
  obtain⟨_,_,rfl⟩:=Sa hb
  exact N7 rfl (US (λ_ h=>by cases h) (.inr λh=>by cases h)) he
 ·obtain⟨_,_,rfl⟩:=Sa ha
  exact N7 rfl (US (λ_ h=>by cases h) (.inl λh=>by cases h)) he
 ·obtain⟨_,_,rfl⟩:=Sa ha
  exact N7 rfl (US (λ_ h=>by cases h) (.inl λh=>by cases h)) he
 ·cases h
theorem Zj3{t:TypeId}{X Y:Operand}(hag:(∃n e,P.underlying t=some (.array n e))∨ ∃fs,P.underlying t=some (.struct fs))(hg:P.eqGuardType P.depth t=false):J0 P σ t X Y (Ag P 10 t):=by
 intro a b x y r w ha hb h
 have he:=sy 10 10000 t (by omega) a b x y r w ha hb h
 have hab:(∃l,a=.agg l)∧ ∃m,b=.agg m:=by
  unfold Ag at h
  have agg: ∀{k:List AV->List AV->Option Bool},wo a b k=some r->(∃l,a=.agg l)∧ ∃m,b=.agg m:=by
   intro k h
   unfold wo at h
   split at h
   ·exact⟨⟨_,rfl⟩,⟨_,rfl⟩⟩
   ·cases h
  rcases hag with⟨n,e,hu⟩|⟨fs,hu⟩
  ·rw[hu] at h
   exact agg h
  ·rw[hu] at h
   simp only[eqD] at h
   cases hst:P.stoodInHeld t with
   |true=>rw[hst] at h;cases h
   |false=>rw[hst] at h;exact agg h
 obtain⟨⟨l,rfl⟩,⟨m,rfl⟩⟩:=hab
 obtain⟨xs,_,_,rfl⟩:=LZ ha
 obtain⟨ys,_,_,rfl⟩:=LZ hb
 exact N7 rfl (λop=>run_eqGuard_agg w op t X Y _ _ hg) he
theorem ZnC{t:TypeId}{X Y:Operand}:J0 P σ t X Y Uk:=by
 intro a b x y r w ha hb h
 unfold Uk at h
 split at h
 ·rename_i j p k q
  cases hk:Nl j k with
  |false=>rw[hk] at h;cases h
  |true=>
   rw[hk] at h
   have:=R0 hk;subst this
   have h:some (Fc p q)=some r:=h
   cases h
   have ha:=XZ ha;subst ha
   have hb:=XZ hb;subst hb
   rw[Pj]
   exact⟨US (λ_ h=>by cases h) (.inl λh=>by cases h),by simp[binOp,Op.intCmp],by simp[binOp,Op.intCmp,bne]⟩
 ·cases h
theorem ZnH{t:TypeId}{X Y:Operand}:J0 P σ t X Y Mj:=by
 intro a b x y r w ha hb h
 unfold Mj at h
 split at h
 ·rename_i p q
  cases h
  have ha:=Ue ha;subst ha
  have hb:=Ue hb;subst hb
  refine⟨US (λ_ h=>by cases h) (.inl λh=>by cases h),?_,?_⟩
  ·simp[binOp,Op.stringOp,Qh]
  ·simp[binOp,Op.stringOp,bne,Qh]
 ·cases h
theorem MP(hs:WM P σ H w)(hρ:Qi P σ tm ρ){o:Oper}{neg:Bool}{t u:TypeId}{x y:Operand}{f:AV->AV->Option Bool}(ho:o.op=.binOp (if neg then .neq else .eql) t x y u)(hf:J0 P σ t x y f):
  YZ P σ H w ((execOp ρ o).run P w) (Vu (YM P x) (YM P y) f neg tm H):=by
 refine Pw λr hr=>?_
 obtain⟨h1,h2,h3⟩:=hf _ _ _ _ r w (hρ x) (hρ y) hr
 refine ID hs ?_
 simp only[execOp,ho]
 refine Vn ?_
 rw[Sem.run_bind,h1]
 cases neg
 ·exact h2
 ·simp only[Result.andThen_ok]
  refine h3.trans ?_
  cases r<;>rfl
theorem eh(hs:WM P σ H w)(hρ:Qi P σ tm ρ){o:Oper}{neg:Bool}{t u:TypeId}{x y:Operand}(ho:o.op=.binOp (if neg then .neq else .eql) t x y u):
  YZ P σ H w ((execOp ρ o).run P w) (Uc P t (eqK P t (Kn x||Kn y) neg (YM P x) (YM P y)) tm H):=by
 refine Xn λd hu=>?_
 cases d<;>try exact trivial
 case bool=>exact MP hs hρ ho (ZnA hu)
 case int k=>exact MP hs hρ ho ZnC
 case string=>exact MP hs hρ ho ZnH
 case pointer e=>
  show YZ P σ H w _ ((match P.info? e with|some i=>cond (Nat.beq i.size 0) Ub (Vu (YM P x) (YM P y) nA neg)|none=>Ub) tm H)
  cases hi:P.info? e with
  |none=>exact trivial
  |some i=>
   refine W2 (λ_=>SL) λh0=>?_
   rw[Yp] at h0
   exact MP hs hρ ho (ZnG hu hi (of_decide_eq_false h0))
 case slice e=>exact MP hs hρ ho (ZnD hu)
 case map k e=>exact MP hs hρ ho (ZnE hu)
 case func p q v=>exact MP hs hρ ho (ZnF hu)
 case interface ms=>exact MP hs hρ ho (ZnB hu)
 case array n e=>exact W2 (λ_=>SL) λh0=>MP hs hρ ho (Zj3 (.inl ⟨n,e,hu⟩) h0)
 case struct fs=>exact W2 (λ_=>SL) λh0=>MP hs hρ ho (Zj3 (.inr ⟨fs,hu⟩) h0)
theorem ZfM(hs:WM P σ H w)(hρ:Qi P σ tm ρ){o:Oper}{t u:TypeId}{x y:Operand}(ho:o.op=.binOp .eql t x y u):Xv P σ H w tm ρ o:=by
 unfold Xv
 have:=eh (neg:=false) hs hρ ho
 rw[ho]
 exact this
theorem ZfT(hs:WM P σ H w)(hρ:Qi P σ tm ρ){o:Oper}{t u:TypeId}{x y:Operand}(ho:o.op=.binOp .neq t x y u):Xv P σ H w tm ρ o:=by
 unfold Xv
 have:=eh (neg:=true) hs hρ ho
 rw[ho]
 exact this
theorem Yr.length: ∀{es:List RF} {l:List MapEntry},Yr σ es l->es.length=l.length
 |[],l,h=>by simp only[Yr] at h;subst h;rfl
 |a::es,l,h=>by simp only[Yr] at h;obtain⟨e,es',_,h2,rfl⟩:=h;simp[h2.length]
theorem Mi:Yr σ [] []:=by simp[Yr]
theorem Nz{a:RF}{as:List RF}{e:MapEntry}{es:List MapEntry}(h:MA σ a e)(h':Yr σ as es):Yr σ (a::as) (e::es):=by
 simp only[Yr];exact⟨e,es,h,h',rfl⟩
theorem Yr.cons_inv{a:RF}{as:List RF}{l:List MapEntry}(h:Yr σ (a::as) l): ∃e es,MA σ a e∧Yr σ as es∧l=e::es:=by simpa [Yr] using h
structure En(P:Program)(σ:Mp)(kt:TypeId)(kd:TypeDesc)(eq:AV->AV->Option Bool):Prop where
 und:P.underlying kt=some kd
 check: ∀(b:Bool) (x:Value) (w:World),(Instr.checkKey b 10000 kt x).run P w=.ok () w
 now: ∀(a b:AV) (x y:Value) (r:Bool),Yk σ a x->Yk σ b y->eq a b=some r->Instr.sameNow kd x y=some r
 bits: ∀(a b:AV) (x y:Value),Yk σ a x->Yk σ b y->eq a b=some true->Instr.sameBits 10000 y x=true
 apart: ∀(k a b:AV) (t:Bool),KJ a b=true->eq k a=some t-> ∃u,eq k b=some u∧(t=true->u=false)
theorem KN{kt:TypeId}{kd:TypeDesc}(hu:P.underlying kt=some kd)(hk:(match kd with|.string|.int _|.bool=>true|_=>false)=true)(b:Bool)(x:Value)(w:World):(Instr.checkKey b 10000 kt x).run P w=.ok () w:=by
 cases kd<;>first|(cases hk;done)|skip
 all_goals
  unfold Instr.checkKey
  simp[run_underlying hu]
theorem ZmZ{kt:TypeId}(hu:P.underlying kt=some .string):En P σ kt .string Mj:=by
 refine⟨hu,λb x w=>KN hu rfl b x w,?_,?_,?_⟩
 ·intro a b x y r ha hb h
  unfold Mj at h
  split at h
  ·cases h
   rw[Ue ha,Ue hb,Qh]
   show some (ByteArray.mk _==ByteArray.mk _)=_
   rw[beq_toListBytes,JP,JP]
  ·cases h
 ·intro a b x y ha hb h
  unfold Mj at h
  split at h
  ·rename_i p q
   rw[Qh] at h
   have h:p=q:=by simpa using h
   subst h
   rw[Ue ha,Ue hb]
   show(ByteArray.mk _==ByteArray.mk _)=true
   rw[beq_toListBytes]
   simp
  ·cases h
 ·intro k a b t hab h
  unfold KJ at hab
  split at hab
  ·rename_i p q
   cases k<;>try (cases h;done)
   rename_i s
   refine⟨Jq s q,rfl,λht=>?_⟩
   subst ht
   have h:some (Jq s p)=some true:=h
   rw[Qh] at h hab ⊢
   have h:s=p:=by simpa using h
   subst h
   simpa using hab
  ·cases k<;>cases h
  ·cases hab
theorem ZmY{kt:TypeId}{k:IntKind}(hu:P.underlying kt=some (.int k)):En P σ kt (.int k) Uk:=by
 refine⟨hu,λb x w=>KN hu rfl b x w,?_,?_,?_⟩
 ·intro a b x y r ha hb h
  unfold Uk at h
  split at h
  ·rename_i j p k q
   cases hk:Nl j k with
   |false=>rw[hk] at h;cases h
   |true=>
    rw[hk] at h
    have:=R0 hk;subst this
    cases h
    rw[XZ ha,XZ hb,Pj]
    simp[Instr.sameNow]
  ·cases h
 ·intro a b x y ha hb h
  unfold Uk at h
  split at h
  ·rename_i j p k q
   cases hk:Nl j k with
   |false=>rw[hk] at h;cases h
   |true=>
    rw[hk] at h
    have:=R0 hk;subst this
    have h:some (Fc p q)=some true:=h
    rw[Pj] at h
    have h:p=q:=by simpa using h
    subst h
    rw[XZ ha,XZ hb]
    simp[Instr.sameBits]
  ·cases h
 ·intro k a b t hab h
  unfold KJ at hab
  split at hab
  ·cases k<;>cases h
  ·rename_i j1 p j2 q
   cases k<;>try (cases h;done)
   rename_i j3 s
   obtain⟨h1,h2⟩:=Pd.1 hab
   have:=R0 h1;subst this
   unfold Uk at h ⊢
   cases hk:Nl j3 j1 with
   |false=>simp[hk] at h
   |true=>
    simp only[hk,cond_true,Option.some.injEq] at h ⊢
    refine⟨_,rfl,λht=>?_⟩
    subst ht
    rw[Pj] at h h2 ⊢
    have h:s=p:=by simpa using h
    subst h
    simpa using h2
  ·cases hab
theorem ZmX{kt:TypeId}(hu:P.underlying kt=some .bool):En P σ kt .bool kR:=by
 refine⟨hu,λb x w=>KN hu rfl b x w,?_,?_,?_⟩
 ·intro a b x y r ha hb h
  unfold kR at h
  split at h
  ·rename_i p q
   cases h
   rw[Sn ha,Sn hb]
   cases p<;>cases q<;>rfl
  ·cases h
 ·intro a b x y ha hb h
  unfold kR at h
  split at h
  ·rename_i p q
   rw[Sn ha,Sn hb]
   cases p<;>cases q<;>first|rfl|cases h
  ·cases h
 ·intro k a b t hab h
  unfold KJ at hab
  split at hab
  ·cases k<;>cases h
  ·cases k<;>cases h
  ·cases hab
theorem A3{r:Result Next}{kt:TypeId}{f:(AV->AV->Option Bool)->VG}(h: ∀kd eq,En P σ kt kd eq->YZ P σ H w r (f eq tm H)):YZ P σ H w r (Uc P kt (fj f) tm H):=by
 refine Xn λd hu=>?_
 cases d<;>try exact trivial
 case string=>exact h _ _ (ZmZ hu)
 case int k=>exact h _ _ (ZmY hu)
 case bool=>exact h _ _ (ZmX hu)
theorem FB{r:Result Next}{kt:TypeId}{kd:TypeDesc}{eq:AV->AV->Option Bool}(hk:En P σ kt kd eq){k:AV}{kv:Value}(hkr:Yk σ k kv){no:OR}{yes:AV->OR}: ∀(es:List RF) (l:List MapEntry) (i:Nat),Yr σ es l->
  (Instr.findNow kd kv l i=some none->YZ P σ H w r no)->(∀j a v,Yk σ a v->Instr.findNow kd kv l i=some (some (j,v))->YZ P σ H w r (yes a))->YZ P σ H w r (Ur eq k no yes es)
 |[],l,i,h,h1,h2=>by
  simp only[Yr] at h;subst h
  exact h1 rfl
 |e::es,l,i,h,h1,h2=>by
  obtain⟨m,ms,g1,g2,rfl⟩:=h.cons_inv
  unfold Ur
  cases he:eq k e.key with
  |none=>exact trivial
  |some t=>
   have hn:=hk.now _ _ _ _ t hkr g1.1 he
   cases t with
   |true=>exact h2 i e.val m.val g1.2.1 (by simp only[Instr.findNow,hn])
   |false=>
    refine FB hk hkr es ms (i+1) g2 (λq=>h1 ?_) (λj a v ha q=>h2 j a v ha ?_)
    ·simp only[Instr.findNow,hn];exact q
    ·simp only[Instr.findNow,hn];exact q
theorem Ia{eq:AV->AV->Option Bool}{k:AV}{no:OR}{yes:AV->OR}: ∀{es fs:List RF},es.map S4=fs.map S4->Ur eq k no yes es=Ur eq k no yes fs
 |[],[],_=>rfl
 |[],_::_,h=>by cases h
 |_::_,[],h=>by cases h
 |e::es,f::fs,h=>by
  simp only[Zy,List.cons.injEq] at h
  obtain⟨h1,h2⟩:=h
  simp only[S4,Prod.mk.injEq] at h1
  unfold Ur
  rw[h1.1,h1.2,Ia h2]
noncomputable def AS(eq:AV->AV->Option Bool)(k:AV)(no:OR)(yes:AV->OR)(l:List (AV×AV)):OR:=Ur eq k no yes (l.map λp=>⟨p.1,p.2,0⟩)
theorem AT{eq:AV->AV->Option Bool}{k:AV}{no:OR}{yes:AV->OR}(es:List RF):AS eq k no yes (es.map S4)=Ur eq k no yes es:=by
 unfold AS
 refine Ia ?_
 rw[S6,S6]
 rfl
theorem On{eq:AV->AV->Option Bool}{k:AV}{no:OR}{yes:AV->OR}(p:AV×AV)(l:List (AV×AV)){t:Bool}(h:eq k p.1=some t):AS eq k no yes (p::l)=cond t (yes p.2) (AS eq k no yes l):=by
 show Ur eq k no yes (⟨p.1,p.2,0⟩::l.map λp=>⟨p.1,p.2,0⟩)=_
 unfold Ur
 rw[show eq k (⟨p.1,p.2,0⟩:RF).key=some t from h]
 rfl
theorem sD{eq:AV->AV->Option Bool}{k:AV}{no:OR}{yes:AV->OR}{l m:List (AV×AV)}(hp:l.Perm m)(ha: ∀p∈l,∃t,eq k p.1=some t)(hu:l.Pairwise λp q=>eq k p.1=some true->eq k q.1=some true->False):
  AS eq k no yes l=AS eq k no yes m:=by
 induction hp with
 |nil=>rfl
 |cons p _ ih=>
  obtain⟨t,ht⟩:=ha p (Zs ..)
  rw[On _ _ ht,On _ _ ht,ih (λq hq=>ha q (ZC _ hq)) (S7.1 hu).2]
 |swap p q l=>
  obtain⟨t,ht⟩:=ha q (Zs ..)
  obtain⟨u,hu'⟩:=ha p (ZC _ (Zs ..))
  rw[On _ _ ht,On _ _ hu',On _ _ hu',On _ _ ht]
  cases t<;>cases u<;>try rfl
  exact((S7.1 hu).1 p (Zs ..) ht hu').elim
 |trans h1 _ ih1 ih2=>
  rw[ih1 ha hu]
  exact ih2 (λq hq=>ha q (h1.mem_iff.2 hq)) ((h1.pairwise_iff (λh a b=>h b a)).1 hu)
theorem xu{kt:TypeId}{kd:TypeDesc}{eq:AV->AV->Option Bool}(hk:En P σ kt kd eq){k:AV}{no:OR}{yes:AV->OR}{es fs:List RF}(hp:(fs.map S4).Perm (es.map S4))(ha:es.Pairwise yI):
  Ur eq k no yes es=.fail∨Ur eq k no yes es=Ur eq k no yes fs:=by
 cases es with
 |nil=>
  rw[ZH] at hp
  have:=List.Perm.eq_nil hp
  cases fs with
  |nil=>exact .inr rfl
  |cons f fs=>cases this
 |cons e es=>
  cases he:eq k e.key with
  |none=>
   left
   unfold Ur
   rw[he]
  |some t=>
   right
   have hall: ∀f∈e::es,∃u,eq k f.key=some u:=by
    intro f hf
    rcases ZR.1 hf with rfl|hf
    ·exact⟨t,he⟩
    ·obtain⟨u,hu,_⟩:=hk.apart k e.key f.key t ((S7.1 ha).1 f hf).1 he
     exact⟨u,hu⟩
   rw[<-AT (e::es),<-AT fs]
   refine(sD hp.symm (λp hp=>?_) ?_)
   ·obtain⟨f,hf,rfl⟩:=YV.1 hp
    exact hall f hf
   ·rw[List.pairwise_map]
    refine ha.imp λ{a b} hab h1 h2=>?_
    obtain⟨u,h3,h4⟩:=hk.apart k a.key b.key true hab.1 h1
    have h2:eq k b.key=some true:=h2
    rw[h3,h4 rfl] at h2
    cases h2
theorem Qb{kt:TypeId}{kd:TypeDesc}(hu:P.underlying kt=some kd){kv:Value}{l:List MapEntry}{r:Option (Nat×Value)}(h:Instr.findNow kd kv l 0=some r):(Instr.findKey kt kv l).run P w=.ok r w:=by
 simp only[Instr.findKey,Sem.run_bind,run_underlying hu,Result.andThen_ok,h,Sem.run_pure]
theorem li(hs:WM P σ H w)(hρ:Qi P σ tm ρ){o:Oper}{t:TypeId}{m k:Operand}{ok:Bool}(ho:o.op=.lookup t m k ok):Xv P σ H w tm ρ o:=by
 unfold Xv;rw[ho]
 refine Xn λd hu=>?_
 cases d<;>try exact trivial
 case map kt e=>
  refine A3 λkd eq hk=>XV λi hi=>UL λz hz=>?_
  have g:=hρ m
  have CS: ∀{a:AV} {v:Value} {b:Bool},Yk σ a v->(execOp ρ o).run P w=.ok (.value (if ok then .tuple #[v,.bool b] else v)) w->YZ P σ H w ((execOp ρ o).run P w) (J5 ok H a b):=by
   intro a v b ha hr
   unfold J5
   cases ok with
   |true=>
    refine Yb hs hr ?_
    simp only[Yk]
    exact⟨[v,.bool b],Ww ha (TR (by simp[Yk])),rfl⟩
   |false=>exact Yb hs hr ha
  have vu: ∀{v:Value},(Instr.lookup t (ρ m) (ρ k) ok).run P w=.ok v w->(execOp ρ o).run P w=.ok (.value v) w:=λh=>by
   simp only[execOp,ho];exact Vn h
  refine HH (λhx=>?_) λb hx=>NW λob Fb=>?_
  ·rw[hx] at g
   refine CS (Ol σ z) (vu ?_)
   rw[O7 g]
   have hf:=Qb (w:=w) (kv:=ρ k) (l:=(#[]:Array MapEntry).toList) hk.und (r:=none) rfl
   simp only[Instr.lookup,Sem.run_bind,run_underlying hu,Result.andThen_ok,Sem.run_pure,hk.check,hf,SR hi hz]
  ·rw[hx] at g
   obtain⟨l,hl,e1⟩:=JK g
   cases ob<;>try exact trivial
   case map es clock=>
    obtain⟨c,hc,ho'⟩:=hs.alive b _ l Fb hl
    obtain⟨ents,rfl,hr,_⟩:=ho'
    refine FB hk (hρ k) es ents.toList 0 hr (λq=>?_) λj a v ha q=>?_
    ·refine CS (Ol σ z) (vu ?_)
     rw[e1]
     have hf:=Qb (w:=w) hk.und q
     simp only[Instr.lookup,Sem.run_bind,run_underlying hu,Result.andThen_ok,P5 hc,Sem.run_pure,hk.check,hf,SR hi hz]
    ·refine CS ha (vu ?_)
     rw[e1]
     have hf:=Qb (w:=w) hk.und q
     simp only[Instr.lookup,Sem.run_bind,run_underlying hu,Result.andThen_ok,P5 hc,Sem.run_pure,hk.check,hf]
   case cmap es=>
    obtain⟨c,hc,ho'⟩:=hs.alive b _ l Fb hl
    obtain⟨ents,clock,fs,rfl,hr,hp,ha⟩:=ho'
    show YZ P σ H w _ (Ur _ _ _ _ es)
    rcases xu hk hp ha with hx2|hx2
    ·rw[hx2];exact trivial
    rw[hx2]
    refine FB hk (hρ k) fs ents.toList 0 hr (λq=>?_) λj a v ha q=>?_
    ·refine CS (Ol σ z) (vu ?_)
     rw[e1]
     have hf:=Qb (w:=w) hk.und q
     simp only[Instr.lookup,Sem.run_bind,run_underlying hu,Result.andThen_ok,P5 hc,Sem.run_pure,hk.check,hf,SR hi hz]
    ·refine CS ha (vu ?_)
     rw[e1]
     have hf:=Qb (w:=w) hk.und q
     simp only[Instr.lookup,Sem.run_bind,run_underlying hu,Result.andThen_ok,P5 hc,Sem.run_pure,hk.check,hf]
theorem rH(hs:WM P σ H w){o:Oper}{t:TypeId}{r:Option Operand}(ho:o.op=.makeMap t r):Xv P σ H w tm ρ o:=by
 unfold Xv;rw[ho]
 cases r with
 |some r=>exact trivial
 |none=>
  refine VW (Tr.alloc hs (.map [] 0) (.map #[] 0) ⟨w.heap.size,0,0,1⟩ rfl ⟨#[],rfl,Mi,by simp[Fd]⟩) (x:=.map (some w.heap.size)) ?_ ?_
  ·simp only[execOp,ho]
   refine Vn ?_
   simp[Instr.makeMap]
  ·simp only[Yk];exact⟨_,Mp.put_same _ _ _,rfl⟩
theorem wX{r:Result Next}{kt:TypeId}{kd:TypeDesc}{eq:AV->AV->Option Bool}(hk:En P σ kt kd eq){k v:AV}{kv vv:Value}(hkr:Yk σ k kv)(hvr:Yk σ v vv){clock:Nat}: ∀(es:List RF) (l:List MapEntry) (i:Nat) (done:List RF->Nat->OR),Yr σ es l->
  (Instr.findNow kd kv l i=some none->(∀e∈es,True)->YZ P σ H w r (done (es++[⟨k,v,clock⟩]) (clock+1)))->
  (∀j a m u,es[j]? =some a->l[j]? =some m->MA σ a m->Instr.sameBits 10000 m.key kv=true->Instr.findNow kd kv l i=some (some (i+j,u))->YZ P σ H w r (done (es.set j ⟨k,v,a.born⟩) clock))->
  YZ P σ H w r (xv eq k v clock done es)
 |[],l,i,done,h,h1,h2=>by
  simp only[Yr] at h;subst h
  exact h1 rfl (by simp)
 |e::es,l,i,done,h,h1,h2=>by
  obtain⟨m,ms,g1,g2,rfl⟩:=h.cons_inv
  unfold xv
  cases he:eq k e.key with
  |none=>exact trivial
  |some t=>
   have hn:=hk.now _ _ _ _ t hkr g1.1 he
   cases t with
   |true=>
    have hb:=hk.bits _ _ _ _ hkr g1.1 he
    exact h2 0 e m m.val rfl rfl g1 hb (by simp only[Instr.findNow,hn,Zj])
   |false=>
    refine wX hk hkr hvr es ms (i+1) (λl' c=>done (e::l') c) g2 (λq _=>h1 ?_ (by simp)) (λj a m' u q1 q2 q3 q4 q5=>h2 (j+1) a m' u (by simpa using q1) (by simpa using q2) q3 q4 ?_)
    ·simp only[Instr.findNow,hn];exact q
    ·simp only[Instr.findNow,hn];rw[q5,show i+1+j=i+(j+1) by omega]
theorem Yr.append: ∀{es es2:List RF} {l l2:List MapEntry},Yr σ es l->Yr σ es2 l2->Yr σ (es++es2) (l++l2)
 |[],es2,l,l2,h,h'=>by simp only[Yr] at h;subst h;exact h'
 |a::es,es2,l,l2,h,h'=>by
  obtain⟨m,ms,g1,g2,rfl⟩:=h.cons_inv
  exact Nz g1 (g2.append h')
theorem Yr.set{a:RF}{m:MapEntry}(hm:MA σ a m): ∀{es:List RF} {l:List MapEntry} (j:Nat),Yr σ es l->Yr σ (es.set j a) (l.set j m)
 |[],l,j,h=>by simp only[Yr] at h;subst h;simpa using Mi
 |e::es,l,0,h=>by
  obtain⟨m',ms,g1,g2,rfl⟩:=h.cons_inv
  exact Nz hm g2
 |e::es,l,j+1,h=>by
  obtain⟨m',ms,g1,g2,rfl⟩:=h.cons_inv
  exact Nz g1 (g2.set hm j)
theorem r9{es:List RF}{c j:Nat}{a:RF}{k v:AV}(h:Fd es c)(ha:es[j]? =some a):Fd (es.set j ⟨k,v,a.born⟩) c:=by
 have key:(es.set j ⟨k,v,a.born⟩).map (·.born)=es.map (·.born):=by
  apply WS
  intro i
  simp only[ZZ,Ql]
  by_cases hij:j=i
  ·subst hij
   have hlt:j<es.length:=by
    rcases Nat.lt_or_ge j es.length with h|h
    ·exact h
    ·rw[YP h] at ha;cases ha
   rw[if_pos rfl,if_pos hlt,ha]
   rfl
  ·simp[hij]
 obtain⟨h1,h2⟩:=h
 constructor
 ·have:((es.set j ⟨k,v,a.born⟩).map (·.born)).Pairwise (· < ·):=by rw[key];exact List.pairwise_map.2 h1
  exact List.pairwise_map.1 this
 ·intro e he
  have:e.born∈(es.set j ⟨k,v,a.born⟩).map (·.born):=Sc he
  rw[key] at this
  obtain⟨e',he',h3⟩:=YV.1 this
  rw[<-h3];exact h2 e' he'
theorem uo{es:List RF}{c:Nat}{k v:AV}(h:Fd es c):Fd (es++[⟨k,v,c⟩]) (c+1):=by
 obtain⟨h1,h2⟩:=h
 constructor
 ·rw[List.pairwise_append]
  refine⟨h1,by simp,λa ha b hb=>?_⟩
  rw[ZD] at hb;subst hb
  exact h2 a ha
 ·intro e he
  rcases Zt.1 he with he|he
  ·have:=h2 e he;omega
  ·rw[ZD] at he;subst he;exact Yo c
theorem GH{g:Nat}{es:Array MapEntry}{c:Nat}(ob:Go.Obj)(h:w.heap[g]? =some (.map es c)): ∃w',(setObj g ob).run P w=.ok () w'∧As w w' g ob:=by
 refine⟨{w with heap:=w.heap.setIfInBounds g ob},by simp[setObj,Sem.run,h],⟨by simp,?_,λk hk=>?_,rfl,rfl,rfl⟩⟩
 ·have:g<w.heap.size:=(ZO.1 h).1
  simp[YO,this]
 ·simp only[YO]
  rw[if_neg (λe=>hk e.symm)]
theorem wW(hs:WM P σ H w)(hρ:Qi P σ tm ρ){o:Oper}{t kt e:TypeId}{m k x:Operand}{kd:TypeDesc}{eq:AV->AV->Option Bool}(hu:P.underlying t=some (.map kt e))(hk:En P σ kt kd eq)
  (hex: ∀w',(Instr.mapUpdate t (ρ m) (ρ k) (ρ x)).run P w=.ok () w'->(execOp ρ o).run P w=.ok .skip w'):
  YZ P σ H w ((execOp ρ o).run P w) (Dw eq (YM P m) (YM P k) (YM P x) tm H):=by
 have g:=hρ m
 refine HH (λ_=>trivial) λb hx=>NW λob Fb=>?_
 rw[hx] at g
 obtain⟨l,hl,e1⟩:=JK g
 cases ob<;>try exact trivial
 case map es clock=>
  refine Yh λhro=>?_
  have hwr:Wr H b:=⟨ZT hro,_,Fb,(λr h=>by cases h),λh=>by cases h⟩
  obtain⟨c,hc,ho'⟩:=hs.alive b _ l Fb hl
  obtain⟨ents,rfl,hr,hris⟩:=ho'
  refine wX hk (hρ k) (hρ x) es ents.toList 0 _ hr (λq _=>?_) λj a mm u q1 q2 q3 q4 q5=>?_
  ·obtain⟨w',hrun,hw⟩:=GH (P:=P) (.map (ents.push {key:=ρ k,val:=ρ x,born:=clock}) (clock+1)) hc
   refine⟨σ,w',undef,.inr ⟨hex w' ?_,rfl⟩,by simp[YS,undef,Yk,YE],Tr.write hs Fb hl hwr hw.size hw.new hw.old ⟨_,rfl,?_,uo hris⟩ hw.tape hw.os hw.out⟩
   ·rw[e1]
    have hf:=Qb (w:=w) hk.und q
    simp only[Instr.mapUpdate,Sem.run_bind,run_underlying hu,Result.andThen_ok,P5 hc,hk.check,hf,hrun]
   ·rw[Array.toList_push]
    exact hr.append (Nz ⟨hρ k,hρ x,rfl⟩ Mi)
  ·obtain⟨w',hrun,hw⟩:=GH (P:=P) (.map (ents.modify j λe=>{e with key:=ρ k,val:=ρ x}) clock) hc
   refine⟨σ,w',undef,.inr ⟨hex w' ?_,rfl⟩,by simp[YS,undef,Yk,YE],Tr.write hs Fb hl hwr hw.size hw.new hw.old ⟨_,rfl,?_,r9 hris q1⟩ hw.tape hw.os hw.out⟩
   ·rw[e1]
    have hf:=Qb (w:=w) hk.und q5
    rw[Zf] at hf
    have hej:ents[j]? =some mm:=by rw[<-Yd];exact q2
    simp only[Instr.mapUpdate,Sem.run_bind,run_underlying hu,Result.andThen_ok,P5 hc,hk.check,hf,hej,XA,Qm,Instr.keyThatStays,q4,if_true,Sem.run_pure,hrun]
   ·have e2:(ents.modify j λe=>{e with key:=ρ k,val:=ρ x}).toList=ents.toList.set j {mm with key:=ρ k,val:=ρ x}:=by
     apply WS
     intro i
     rw[Yd,WH,Ql]
     by_cases hij:j=i
     ·subst hij
      have hlt:j<ents.toList.length:=by
       rcases Nat.lt_or_ge j ents.toList.length with h|h
       ·exact h
       ·rw[YP h] at q2;cases q2
      have hej:ents[j]? =some mm:=by rw[<-Yd];exact q2
      rw[if_pos rfl,if_pos rfl,if_pos hlt,hej];rfl
     ·rw[if_neg hij,if_neg hij,Yd]
    rw[e2]
    exact Yr.set (a:=⟨YM P k tm,YM P x tm,a.born⟩) (m:={mm with key:=ρ k,val:=ρ x}) ⟨hρ k,hρ x,q3.2.2⟩ j hr
theorem Gr(hs:WM P σ H w)(hρ:Qi P σ tm ρ){o:Oper}{t:TypeId}{m k x:Operand}(ho:o.op=.mapUpdate t m k x∨o.op=.insert t m k x):Xv P σ H w tm ρ o:=by
 have hex: ∀w',(Instr.mapUpdate t (ρ m) (ρ k) (ρ x)).run P w=.ok () w'->(execOp ρ o).run P w=.ok .skip w':=by
  intro w' h
  rcases ho with ho|ho<;>simp[execOp,ho,h]
 have key:YZ P σ H w ((execOp ρ o).run P w) (Uc P t (λd=>match d with|.map kt _=>Uc P kt<|fj λeq=>Dw eq (YM P m) (YM P k) (YM P x)|_=>Ub) tm H):=by
  refine Xn λd hu=>?_
  cases d<;>try exact trivial
  case map kt e=>exact A3 λkd eq hk=>wW hs hρ hu hk hex
 unfold Xv
 rcases ho with ho|ho
 ·rw[ho];exact key
 ·rw[ho];exact key
theorem eu(hs:WM P σ H w)(hρ:Qi P σ tm ρ){o:Oper}{t:TypeId}{x:Operand}(ho:o.op=.range t x):Xv P σ H w tm ρ o:=by
 unfold Xv;rw[ho]
 refine Xn λd hu=>?_
 have g:=hρ x
 have hex: ∀{v:Value} {w':World},(Instr.range t (ρ x)).run P w=.ok v w'->(execOp ρ o).run P w=.ok (.value v) w':=λh=>by
  simp only[execOp,ho];exact Vn h
 cases d<;>try exact trivial
 case string=>
  refine OQ λs hx=>?_
  rw[hx] at g
  refine VW (Tr.alloc hs (.siter s 0) (.stringIter ⟨s.toArray⟩ 0) ⟨w.heap.size,0,0,1⟩ rfl ⟨rfl,rfl⟩) (hex ?_) (JL rfl)
  rw[Ue g]
  simp[Instr.range,run_underlying hu]
 case map kt e=>
  refine HH (λhx=>?_) λb hx=>NW λob Fb=>?_
  ·rw[hx] at g
   refine VW (Tr.alloc hs (.miter none 0 none) (.mapIter none 0 #[] 0) ⟨w.heap.size,0,0,1⟩ rfl ⟨#[],0,rfl,(λ_ h=>by cases h),rfl,rfl,rfl⟩) (hex ?_) (JL rfl)
   rw[O7 g]
   simp[Instr.range,run_underlying hu]
  ·rw[hx] at g
   obtain⟨l,hl,e1⟩:=JK g
   cases ob<;>try exact trivial
   case map es clock=>
    obtain⟨c,hc,ho'⟩:=hs.alive b _ l Fb hl
    obtain⟨ents,rfl,hr,_⟩:=ho'
    have hlt:=hs.dom b l hl
    have hput:(σ.put H.nx ⟨w.heap.size,0,0,1⟩) b=some l:=by rw[Mp.put_old (by omega)];exact hl
    refine VW (Tr.alloc hs (.miter (some b) clock none) (.mapIter (some l.blk) clock #[] clock) ⟨w.heap.size,0,0,1⟩ rfl ⟨#[],clock,?_,?_,rfl,rfl,rfl⟩) (hex ?_) (JL rfl)
    ·simp[hput]
    ·intro b' hb';cases hb';rw[hput];rfl
    ·rw[e1]
     simp[Instr.range,run_underlying hu,P5 hc]
theorem uv{b:Nat}{s:ByteArray}{c:Nat}(h:w.heap[b]? =some (.stringIter s c)):(getObj b).run P w=.ok (.stringIter s c) w:=by simp[getObj,Sem.run,h]
theorem Bw{b:Nat}{m:Option Nat}{a:Nat}{s:Array Nat}{c:Nat}(h:w.heap[b]? =some (.mapIter m a s c)):(getObj b).run P w=.ok (.mapIter m a s c) w:=by simp[getObj,Sem.run,h]
theorem Ao{g:Nat}{s:ByteArray}{c:Nat}(ob:Go.Obj)(h:w.heap[g]? =some (.stringIter s c)): ∃w',(setObj g ob).run P w=.ok () w'∧As w w' g ob:=by
 refine⟨{w with heap:=w.heap.setIfInBounds g ob},by simp[setObj,Sem.run,h],⟨by simp,?_,λk hk=>?_,rfl,rfl,rfl⟩⟩
 ·have:g<w.heap.size:=(ZO.1 h).1
  simp[YO,this]
 ·simp only[YO]
  rw[if_neg (λe=>hk e.symm)]
theorem ZbF(hs:WM P σ H w)(hρ:Qi P σ tm ρ){o:Oper}{x:Operand}{b:Bool}(ho:o.op=.next x b):Xv P σ H w tm ρ o:=by
 unfold Xv;rw[ho]
 refine W2 (λhb=>?_) λ_=>SL
 subst hb
 have g:=hρ x
 refine PW λb off hx=>Yh λh0=>Yh λhro=>NW λob Fb=>?_
 rw[hx] at g
 obtain⟨l,hl,e1⟩:=UO g
 rw[Yp] at h0
 have h0:off=0:=Zm h0
 subst h0
 cases ob<;>try exact trivial
 case siter s pos=>
  have hwr:Wr H b:=⟨ZT hro,_,Fb,(λr h=>by cases h),λh=>by cases h⟩
  obtain⟨c,hc,ho'⟩:=hs.alive b _ l Fb hl
  obtain⟨rfl,hbase⟩:=ho'
  rw[hbase] at e1
  have hex: ∀{v:Value} {w':World},(Instr.next (ρ x) true o.type).run P w=.ok v w'->(execOp ρ o).run P w=.ok (.value v) w':=λh=>by
   simp only[execOp,ho];exact Vn h
  have hsz:(ByteArray.mk s.toArray).size=s.length:=Mw s
  refine UD (λhlt=>?_) λhlt=>?_
  ·rw[Xa,Yz] at hlt
   have hlt:pos<s.length:=Zm hlt
   cases hdec:Utf8.decode ⟨s.toArray⟩ pos with
   |mk ch wd=>
   obtain⟨w',hrun,hw⟩:=Ao (P:=P) (.stringIter ⟨s.toArray⟩ (pos+wd)) hc
   refine VW (Tr.write hs Fb hl hwr hw.size hw.new hw.old ⟨rfl,hbase⟩ hw.tape hw.os hw.out) (x:=.tuple #[.bool true,goInt pos,.int .i32 ch]) (hex ?_) ?_
   ·rw[e1]
    simp only[Instr.next,Zf,Sem.run_bind,uv hc,Result.andThen_ok,hsz,if_pos hlt,hdec,hrun,Sem.run_pure]
   ·simp only[Yk]
    exact⟨[.bool true,goInt pos,.int .i32 ch],Ww (by simp[Yk]) (Ww (by simp[Yk,goInt]) (TR (by simp[Yk]))),rfl⟩
  ·rw[Xa,Yz] at hlt
   have hlt: ¬(pos<s.length):=of_decide_eq_false hlt
   refine Yb hs (x:=.tuple #[.bool false]) (hex ?_) ?_
   ·rw[e1]
    simp only[Instr.next,Zf,Sem.run_bind,uv hc,Result.andThen_ok,hsz,if_neg hlt,Sem.run_pure]
   ·simp only[Yk]
    exact⟨[.bool false],TR (by simp[Yk]),rfl⟩
theorem A1{r:Result Next}{n:Nat}{k:RF->OR}: ∀(es:List RF) (l:List MapEntry),Yr σ es l->(∀a m,MA σ a m->l.find? (·.born==n)=some m->YZ P σ H w r (k a))->YZ P σ H w r (yX n k es)
 |[],l,h,g=>trivial
 |a::es,l,h,g=>by
  obtain⟨m,ms,h1,h2,rfl⟩:=h.cons_inv
  refine UD (λhe=>g a m h1 ?_) λhe=>A1 es ms h2 λa' m' h3 h4=>g a' m' h3 ?_
  ·rw[Yp] at he
   have he:a.born=n:=Zm he
   rw[List.find?_cons_of_pos (by simp[<-h1.2.2,he])]
  ·rw[Yp] at he
   have he: ¬a.born=n:=of_decide_eq_false he
   rw[List.find?_cons_of_neg (by simp[<-h1.2.2,he])]
   exact h4
theorem ef(hs:WM P σ H w)(hρ:Qi P σ tm ρ){o:Oper}{x:Operand}(ho:o.op=.entry x):Xv P σ H w tm ρ o:=by
 unfold Xv;rw[ho]
 have g:=hρ x
 refine PW λb off hx=>Yh λh0=>NW λob Fb=>?_
 rw[hx] at g
 obtain⟨l,hl,e1⟩:=UO g
 rw[Yp] at h0
 have h0:off=0:=Zm h0
 subst h0
 show YZ P σ H w _ (yJ ob _)
 unfold yJ
 split
 ·rename_i m since n st
  obtain⟨c,hc,ho'⟩:=hs.alive b _ l Fb hl
  obtain⟨seen,st',rfl,hm,hbase,hback,rfl⟩:=ho'
  rw[hbase] at e1
  refine NW λom hom=>?_
  cases om<;>try exact trivial
  case map es clock=>
   refine Yh λhcl=>?_
   rw[Yp] at hcl
   have hcl:clock=st':=Zm hcl
   subst hcl
   obtain⟨lm,hlm⟩:=VT.1 (hm m rfl)
   obtain⟨cm,hcm,ZmF⟩:=hs.alive m _ lm hom hlm
   obtain⟨ents,rfl,hr,_⟩:=ZmF
   refine A1 es ents.toList hr λa me hae hf=>?_
   refine Yb hs (x:=.tuple #[me.key,me.val]) ?_ ?_
   ·simp only[execOp,ho]
    refine Vn ?_
    rw[e1]
    have hf':ents.find? (λx=>x.born==n)=some me:=by rw[<-Array.find?_toList];exact hf
    simp only[Option.bind_some,hlm,XA] at hc
    simp only[Instr.entry,Zf,Sem.run_bind,Bw hc,Result.andThen_ok,hback,P5 hcm,bne_self_eq_false,XH,if_false,hf',Sem.run_pure]
   ·simp only[Yk]
    exact⟨[me.key,me.val],Ww hae.1 (TR hae.2.1),rfl⟩
 ·trivial
theorem rD(hs:WM P σ H w)(hρ:Qi P σ tm ρ){o:Oper}{x:Operand}{xt t:TypeId}{ok:Bool}(ho:o.op=.typeAssert x xt t ok):Xv P σ H w tm ρ o:=by
 unfold Xv;rw[ho]
 refine XV λi hi=>UL λz hz=>Xn λd hu=>?_
 have g:=hρ x
 have hex: ∀{v:Value} {w':World},(Instr.typeAssert (ρ x) xt t ok).run P w=.ok v w'->(execOp ρ o).run P w=.ok (.value v) w':=λh=>by
  simp only[execOp,ho];exact Vn h
 have pG:=SR (w:=w) hi hz
 have no:(∀(h:ok=true),(Instr.typeAssert (ρ x) xt t ok).run P w=.ok (.tuple #[z,.bool false]) w)->YZ P σ H w ((execOp ρ o).run P w) (PR (W9 z) ok H none):=by
  intro h
  cases ok with
  |false=>exact trivial
  |true=>
   refine Yb hs (hex (h rfl)) ?_
   simp only[Yk]
   exact⟨[z,.bool false],Ww (Ol σ z) (TR (by simp[Yk])),rfl⟩
 have yes: ∀{a:AV} {v:Value},Yk σ a v->(Instr.typeAssert (ρ x) xt t ok).run P w=.ok (if ok then .tuple #[v,.bool true] else v) w->YZ P σ H w ((execOp ρ o).run P w) (PR (W9 z) ok H (some a)):=by
  intro a v ha h
  cases ok with
  |false=>exact Yb hs (hex h) ha
  |true=>
   refine Yb hs (hex h) ?_
   simp only[Yk]
   exact⟨[v,.bool true],Ww ha (TR (by simp[Yk])),rfl⟩
 by_cases hd: ∃ms,d=.interface ms
 ·obtain⟨ms,rfl⟩:=hd
  show YZ P σ H w _ (vP (YM P x) P (Zbi P t) (W9 z) ok tm H)
  have hms:Zbi P t=ms:=by unfold Zbi;rw[hu]
  rw[hms]
  refine NV (λhx=>?_) λu v hx=>Pw λiu hiu=>?_
  ·rw[hx] at g
   have g:=P3 g
   refine no λh=>?_
   rw[g]
   simp[Instr.typeAssert,run_underlying hu,h,pG]
  ·rw[hx] at g
   obtain⟨y,hy,e1⟩:=Sa g
   have hti:(typeInfo u).run P w=.ok iu w:=by simp[typeInfo,hiu]
   cases hmm:Instr.missingMethod ms iu.methods with
   |none=>
    refine yes (v:=ρ x) (by rw[<-hx];exact hρ x) ?_
    rw[e1]
    simp[Instr.typeAssert,run_underlying hu,hti,hmm]
   |some m=>
    refine no λh=>?_
    rw[e1]
    simp[Instr.typeAssert,run_underlying hu,hti,hmm,h,pG]
 ·have hd: ∀ms,d≠.interface ms:=λms h=>hd ⟨ms,h⟩
  have key:YZ P σ H w ((execOp ρ o).run P w) (Du (YM P x) t (W9 z) ok tm H):=by
   refine NV (λhx=>?_) λu v hx=>?_
   ·rw[hx] at g
    have g:=P3 g
    refine no λh=>?_
    rw[g]
    cases d<;>first
     |exact absurd rfl (hd _)
     |simp[Instr.typeAssert,run_underlying hu,h,pG]
   ·rw[hx] at g
    obtain⟨y,hy,e1⟩:=Sa g
    rw[Yp]
    by_cases hut:u=t
    ·rw[Zd hut]
     refine yes hy ?_
     rw[e1]
     cases d<;>first
      |exact absurd rfl (hd _)
      |simp[Instr.typeAssert,run_underlying hu,hut]
    ·rw[Zb hut]
     refine no λh=>?_
     rw[e1]
     cases d<;>first
      |exact absurd rfl (hd _)
      |simp[Instr.typeAssert,run_underlying hu,hut,h,pG]
  cases d<;>first
   |exact absurd rfl (hd _)
   |exact key
theorem zN(hρ:Qi P σ tm ρ)(l:Array Operand):YE σ (evs tm (args P l)) (l.map ρ).toList:=by
 have:=Jh hρ l.toList
 unfold args
 simpa using this
theorem IC{r:Result Next}{f:Nat}{as:List AV}{vs:List Value}(hr:YE σ as vs)(h:r=(callFunc f ⟨vs⟩).run P w):YZ P σ H w r (.oth (.call f as H)):=⟨rfl,vs,hr,h⟩
theorem xa{r:Result Next}{name:String}{u:Nat}{k:Nat->OR}
  (h: ∀g,(∀(n:Nat) (v:Value),(method (n+1) u v name).run P w=.ok (g,v) w)->YZ P σ H w r (k g)):YZ P σ H w r (JE P name u k):=by
 refine Pw λi hi=>Pw λm hm=>Yh λhp=>?_
 have hti:(typeInfo u).run P w=.ok i w:=by simp[typeInfo,hi]
 have hpl:m.path.toList=[]:=by
  have:m.path= #[]:=by simpa using hp
  rw[this]
 cases hf:m.func with
 |none=>exact trivial
 |some q=>
  obtain⟨g,ptr⟩:=q
  show YZ P σ H w r (match P.underlying u with
   |some (.pointer _)=>ZP ptr (k g)
   |some _=>cond ptr .fail (k g)
   |none=>.fail)
  cases hu:P.underlying u with
  |none=>exact trivial
  |some d=>
   have base: ∀(n:Nat) (v:Value),(method (n+1) u v name).run P w=(do pure (g,<-receiverAt u (.val v) ptr (if m.path.isEmpty then some ((name.splitOn ".").getLastD name) else none)):Sem (FuncId×Value)).run P w:=by
    intro n v
    simp only[method,Sem.run_bind,hti,Result.andThen_ok,hm,hpl,follow,Sem.run_pure,hf]
   cases d<;>first
    |(refine Yh λZmJ=>h g λn v=>?_
      subst ZmJ
      rw[base]
      simp[receiverAt,run_underlying hu,Place.get]
      done)
    |(cases ptr with
      |true=>exact trivial
      |false=>
       refine h g λn v=>?_
       rw[base]
       simp[receiverAt,run_underlying hu,Place.get])
theorem Bv{name:String}{u g:Nat}{v:Value}{args:Array Value}(h: ∀(n:Nat) (v:Value),(method (n+1) u v name).run P w=.ok (g,v) w):(callMethod (.iface u v) name args).run P w=(callFunc g (#[v]++args)).run P w:=by
 have:(P.types.size+Made.depth)=(P.types.size+Made.depth - 1)+1:=by
  have:0<Made.depth:=by decide
  omega
 simp only[callMethod,Sem.run_bind,run_program,Result.andThen_ok]
 rw[this,h]
 rfl
theorem EC{r:Result Next}{n:String}{u:Nat}{a:AV}{x:Value}{as:List AV}{vs:List Value}(ha:Yk σ a x)(hr:YE σ as vs)(h:r=(callMethod (.iface u x) n ⟨vs⟩).run P w):
  YZ P σ H w r (JE P n u λg=>.oth (.call g (a::as) H)):=by
 refine xa λg hm=>IC (vs:=x::vs) (Ww ha hr) ?_
 rw[h,Bv hm]
 congr 2
 apply Array.ext'
 simp
theorem EO(name:String)(cap:Array Value)(r:Value)(as:Array Value):invoke (.fn (.method name) cap) (#[r]++as)=callMethod r name ⟨as.toList⟩:=by
 have h1:(#[r]++as)[0]? =some r:=by rw[Array.getElem?_append_left (by simp)];rfl
 have h2:(#[r]++as).extract 1 (#[r]++as).size=⟨as.toList⟩:=by
  apply Array.ext'
  simp[Ve]
 simp only[invoke,h1,h2]
theorem ZbA(hs:WM P σ H w)(hρ:Qi P σ tm ρ){o:Oper}{c:Call}(ho:o.op=.call c)(hb: ∀b,c.callee≠.builtin b):Xv P σ H w tm ρ o:=by
 unfold Xv;rw[ho]
 have hargs:=zN hρ c.args
 have hex:(execOp ρ o).run P w=(do let d<-resolve ρ c o.type;invoke d.target d.args:Sem Next).run P w:=by simp only[execOp,ho]
 rw[hex]
 show YZ P σ H w _ (jv P c tm H)
 unfold jv
 cases hc:c.callee with
 |builtin b=>exact absurd hc (hb b)
 |invoke rv name=>
  have g:=hρ rv
  refine NV (λ_=>trivial) λu a hx=>?_
  rw[hx] at g
  obtain⟨x,hx',e1⟩:=Sa g
  refine EC hx' hargs ?_
  simp only[resolve,hc,Sem.run_bind,Sem.run_pure,Result.andThen_ok,EO,e1]
 |value f=>
  have gen:YZ P σ H w ((do let d<-resolve ρ c o.type;invoke d.target d.args:Sem Next).run P w) (OZ (YM P f) P (args P c.args) tm H):=by
   have g:=hρ f
   unfold OZ
   split
   ·rename_i fn a b hx
    rw[hx] at g
    obtain⟨x,y,h1,h2,e1⟩:=N1 g
    refine IC (h1.append (hargs.append h2)) ?_
    simp only[resolve,hc,e1,Deferred.ofValue,Sem.run_bind,Sem.run_pure,Result.andThen_ok,invoke]
    congr 2
    apply Array.ext'
    simp
   ·rename_i n rv hx
    rw[hx] at g
    simp only[Yk] at g
    obtain⟨x,h1,e1⟩:=g
    refine NV (λ_=>trivial) λu a hrv=>?_
    rw[hrv] at h1
    obtain⟨y,hy,e2⟩:=Sa h1
    refine EC hy hargs ?_
    simp only[resolve,hc,e1,Deferred.ofValue,Sem.run_bind,Sem.run_pure,Result.andThen_ok,e2]
    exact congrArg (λs=>s.run P w) (EO n #[] (.iface u y) (Array.map ρ c.args))
   ·rename_i b hx
    rw[hx] at g
    simp only[Yk] at g
    obtain⟨l,hl,e1⟩:=g
    refine⟨rfl,l,_,hl,hargs,?_⟩
    simp only[resolve,hc,e1,Deferred.ofValue,Sem.run_bind,Sem.run_pure,Result.andThen_ok,invoke]
    congr 2
    apply Array.ext'
    simp
   ·trivial
  cases f with
  |func fn=>
   have g:=hρ (.func fn)
   have g:Yk σ (.func fn [] []) (ρ (.func fn)):=g
   obtain⟨x,y,h1,h2,e1⟩:=N1 g
   have h1:=h1.nil_inv
   have h2:=h2.nil_inv
   subst h1;subst h2
   refine IC hargs ?_
   simp only[resolve,hc,e1,Deferred.ofValue,Sem.run_bind,Sem.run_pure,Result.andThen_ok,invoke]
   congr 2
   apply Array.ext'
   simp
  |tmp t=>exact gen
  |const v=>exact gen
  |global v=>exact gen
theorem Cv{r:Result Next}{a:AV}{x:Value}(ha:Yk σ a x)(h: ∀v,(Instr.panic x).run P w=.halt v w->r=.halt v w):YZ P σ H w r (Pb a .fail λ_ _=>.oth (.pan a H)):=by
 refine NV (λ_=>trivial) λu b hx=>?_
 rw[hx] at ha
 obtain⟨y,hy,e1⟩:=Sa ha
 refine⟨rfl,x,by rw[hx];exact ha,h _ ?_⟩
 rw[e1]
 rfl
theorem ep(hs:WM P σ H w)(hρ:Qi P σ tm ρ){o:Oper}{x:Operand}(ho:o.op=.panic x):Xv P σ H w tm ρ o:=by
 unfold Xv;rw[ho]
 refine Cv (hρ x) λv h=>?_
 simp only[execOp,ho]
 simp[h]
theorem lr(hs:WM P σ H w)(hρ:Qi P σ tm ρ){o:Oper}{xs:List Operand}{ts:List TypeId}(ho:o.op=.call ⟨.builtin .panic,⟨xs⟩,⟨ts⟩⟩):Xv P σ H w tm ρ o:=by
 refine Tj ho λcs=>?_
 rcases xs with _|⟨x,_|⟨_,_⟩⟩<;>try exact trivial
 refine Cv (hρ x) λv h=>?_
 show((do pure (Next.value (<-Instr.panic (ρ x)))):Sem Next).run P w=_
 simp[h]
theorem rJ(hs:WM P σ H w)(hρ:Qi P σ tm ρ){o:Oper}{xs:List Operand}{ts:List TypeId}(ho:o.op=.call ⟨.builtin .recover,⟨xs⟩,⟨ts⟩⟩):Xv P σ H w tm ρ o:=by
 refine Tj ho λcs=>?_
 rfl
theorem ed(hs:WM P σ H w)(hρ:Qi P σ tm ρ){o:Oper}{c:Call}(ho:o.op=.defer c):Xv P σ H w tm ρ o:=by
 unfold Xv;rw[ho]
 show YZ P σ H w _ ((match c.callee with|.value f=>Bb (YM P f) (args P c.args)|_=>Ub) tm H)
 cases hc:c.callee with
 |builtin b=>exact trivial
 |invoke rv name=>exact trivial
 |value f=>
  intro g a b hx
  have g1:=hρ f
  rw[hx] at g1
  obtain⟨x,y,h1,h2,e1⟩:=N1 g1
  refine⟨x,_,y,h1,zN hρ c.args,h2,?_⟩
  simp only[execOp,ho,resolve,hc,e1,Deferred.ofValue,Sem.run_bind,Sem.run_pure,Result.andThen_ok]
  congr 3
  apply Array.ext'
  simp
theorem MX(hs:WM P σ H w)(hρ:Qi P σ tm ρ)(o:Oper):Xv P σ H w tm ρ o:=by
 cases ho:o.op with
 |move x=>exact ZbE hs hρ ho
 |assign x=>exact la hs hρ ho
 |pick c a b=>exact ZbG hs hρ ho
 |alloc t=>exact fY hs ho
 |box t x=>exact ZfK hs hρ ho
 |build t ps=>exact fZ hs hρ ho
 |buildSlice t n ps=>exact lf hs hρ ho
 |load t a=>exact ZbC hs hρ ho
 |store t a x=>exact eA hs hρ ho
 |nilCheck x=>exact ZfU hs hρ ho
 |binOp op t x y u=>cases op with
  |add=>exact ZfJ hs hρ ho
  |sub=>exact ZfZ hs hρ ho
  |mul=>exact ZfS hs hρ ho
  |quo=>exact ZfV hs hρ ho
  |rem=>exact ZfW hs hρ ho
  |and=>unfold Xv;have h:=DC (f:=TZ) hs hρ ho (.inl ⟨rfl,rfl⟩);rw[ho];exact h
  |or=>unfold Xv;have h:=DC (f:=Dc) hs hρ ho (.inr (.inl ⟨rfl,rfl⟩));rw[ho];exact h
  |xor=>unfold Xv;have h:=DC (f:=Nt) hs hρ ho (.inr (.inr (.inl ⟨rfl,rfl⟩)));rw[ho];exact h
  |andNot=>unfold Xv;have h:=DC (f:=I8) hs hρ ho (.inr (.inr (.inr ⟨rfl,rfl⟩)));rw[ho];exact h
  |shl=>exact ZfX hs hρ ho
  |shr=>exact ZfY hs hρ ho
  |eql=>exact ZfM hs hρ ho
  |neq=>exact ZfT hs hρ ho
  |lss=>exact ZfR hs hρ ho
  |gtr=>exact ZfO hs hρ ho
  |leq=>exact ZfQ hs hρ ho
  |geq=>exact ZfN hs hρ ho
 |unOp op t x=>exact Zji hs hρ ho
 |convert s d x=>exact rE hs hρ ho
 |makeInterface t x=>
  unfold Xv;rw[ho]
  refine Xn λd hu=>?_
  have h:=λhd=>ZbD hs hρ ho hu hd
  cases d<;>first
   |exact trivial
   |exact h rfl
 |makeFunc fn a b=>exact lj hs hρ ho
 |makeMap t r=>exact rH hs ho
 |mapUpdate t m k x=>exact Gr hs hρ (.inl ho)
 |insert t m k x=>exact Gr hs hρ (.inr ho)
 |lookup t m k ok=>exact li hs hρ ho
 |makeSlice t l c=>exact rI hs hρ ho
 |slice t x lo hi mx=>exact ez hs hρ ho
 |fieldAddr t x f=>exact xK hs hρ ho
 |field t x f=>exact ei hs hρ ho
 |indexAddr t x i=>exact xL hs hρ ho
 |index t x i=>exact ek hs hρ ho
 |typeAssert x xt t ok=>exact rD hs hρ ho
 |extract x i=>exact rF hs hρ ho
 |call c=>
  by_cases hb: ∃b,c.callee=.builtin b
  ·obtain⟨b,hb⟩:=hb
   obtain⟨callee,⟨xs⟩,⟨ts⟩⟩:=c
   subst hb
   cases b with
   |append=>exact m8 hs hρ ho
   |copy=>exact ZbB hs hρ ho
   |len=>exact ZfP hs hρ ho
   |cap=>exact ZfL hs hρ ho
   |min=>exact zI (mx:=false) hs hρ ho
   |max=>exact zI (mx:=true) hs hρ ho
   |unsafeString=>exact ZbH hs hρ ho
   |unsafeSliceData=>exact lu hs hρ ho
   |panic=>exact lr hs hρ ho
   |recover=>exact rJ hs hρ ho
   |_=>unfold Xv;rw[ho];exact trivial
  ·exact ZbA hs hρ ho λb h=>hb ⟨b,h⟩
 |defer c=>exact ed hs hρ ho
 |panic x=>exact ep hs hρ ho
 |range t x=>exact eu hs hρ ho
 |next x b=>exact ZbF hs hρ ho
 |entry x=>exact ef hs hρ ho
 |_=>unfold Xv;rw[ho];exact trivial
end
end
end Go.AI
