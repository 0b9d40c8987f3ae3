/- Every operation of the interpreter's does what the model's does: proved for every world that is told. -/
import Derived.Test.YtbdmnfoadmfjpaaGreatDoorP2
import Derived.Laws.BytesString
import Derived.Laws.Append
import Derived.Laws.StructEq
set_option maxRecDepth 1000000
set_option maxHeartbeats 0
set_option linter.unusedVariables false
set_option linter.unusedSimpArgs false
namespace Go.AI
open Go
noncomputable section
section
variable {P:Program} {σ:Mp} {H:Heap} {w:World} {tm:TM} {ρ:Operand->Value}
theorem CD: ∀s:List UInt8,Ex s=s.map λb=>AV.int .u8 (.ofNat b.toNat)
 |[]=>rfl
 |b::s=>by simp[Ex,CD s]
theorem Af(σ:Mp): ∀s:List UInt8,Xk σ (Ex s) (s.map λb=>Value.int .u8 b.toNat)
 |[]=>Uc
 |b::s=>Wz (by simp[YY]) (Af σ s)
theorem tI(s:List UInt8): ∀v∈s.map (λb=>Value.int .u8 b.toNat),v.oneCell'=true:=by
 intro v hv
 obtain⟨b,_,rfl⟩:=Xu.1 hv
 rfl
def uo(n:Int):UInt8:=UInt8.ofNat n.toNat
theorem Kn{r:Result Next}{f:List UInt8->OR}: ∀(as:List AV) (vs:List Value),Xk σ as vs->(∀ns:List Int,vs=ns.map (Value.int .u8)->XD P σ H w r (f (ns.map uo)))->XD P σ H w r (OQ f as)
 |[],vs,h,g=>g [] (by rw[h.nil_inv];rfl)
 |a::as,vs,h,g=>by
  obtain⟨v,vs',h1,h2,rfl⟩:=h.cons_inv
  unfold OQ
  split
  ·rename_i n
   have h1:=Wg h1
   subst h1
   exact Kn as vs' h2 λns hs=>g (.ofNat n::ns) (by rw[hs];rfl)
  ·trivial
theorem Ej: ∀(ns:List Int) (s:ByteArray),ns.foldl (λr n=>r.push (UInt8.ofNat n.toNat)) s=⟨(s.data.toList++ns.map uo).toArray⟩
 |[],s=>by
  apply ByteArray.ext
  apply Array.ext'
  simp
 |n::ns,s=>by
  rw[U8,Ej ns]
  simp[uo]
theorem Tr.drew(hs:WU P σ H w):Tr P σ H w σ H w.drew:=
 ⟨Ext.refl σ,⟨hs.dom,hs.low,hs.alive,hs.inj,hs.glob,hs.ro⟩,Zq _,λ_ _ _=>rfl,λb l hw hl _=>⟨b,l,hw,hl,rfl⟩,Zq _,rfl,λ_ _=>rfl,rfl,rfl,rfl,λ_ _ h=>⟨rfl,h⟩⟩
theorem WU.drew(hs:WU P σ H w):WU P σ H w.drew:=(Tr.drew hs).sim
theorem qU(w:World)(c:Array Value)(e n:Nat):(w.alloc (.cells c e)).freeze ⟨w.heap.size,n,none⟩ 1=w.alloc (.cells c e (n,n+1)):=by
 unfold World.freeze
 rw[if_neg (by decide)]
 have:(w.alloc (.cells c e)).heap.modify w.heap.size (λ
   |.cells c elem (lo,hi)=>.cells c elem (if lo==hi then(n,n+1) else(min lo n,max hi (n+1)))
   |o=>o)=(w.alloc (.cells c e (n,n+1))).heap:=by
  apply Array.ext_getElem?
  intro i
  rw[WS]
  by_cases h:w.heap.size=i
  ·subst h;rw[if_pos rfl,Ru,Ru];rfl
  ·rw[if_neg h]
   by_cases h2:i<w.heap.size
   ·rw[Rv h2,Rv h2]
   ·rw[Array.getElem?_eq_none (by simp;omega),Array.getElem?_eq_none (by simp;omega)]
 exact(congrArg (λhp=>({heap:=hp,tape:=w.tape,drawn:=w.drawn,os:=w.os,output:=w.output}:World)) this).trans rfl
theorem jt{w:World}{g n:Nat}{cs:Array Value}{t:TypeId}{fr:Nat×Nat}(h:w.heap[g]? =some (.cells cs t fr))(hf:fr.1=fr.2):
  zO w (w.freeze ⟨g,n,none⟩ 1) g (.cells cs t (n,n+1)):=by
 obtain⟨a,b⟩:=fr
 simp only at hf
 subst hf
 refine⟨by simp[World.freeze],?_,λk hk=>?_,rfl,rfl,rfl⟩
 ·simp only[World.freeze,Nat.one_ne_zero,if_false,WS]
  rw[h];simp
 ·simp only[World.freeze,Nat.one_ne_zero,if_false,WS]
  rw[if_neg (λe=>hk e.symm)]
theorem ZhX{f:TypeId->Bool}{e count off n d:Nat}(h1:1<=P.cellsOf e)(h2:off % P.cellsOf e=0)(h3:off/P.cellsOf e+n<=count)(hf:f e=true):rowAt P f (d+1) e count off n=true:=by
 unfold rowAt
 have q4: ¬(P.cellsOf e=0):=by omega
 simp only[if_neg q4,h2,beq_self_eq_true,Sm,hf,Bool.and_true,Zj h3,Bool.true_or]
theorem gw(d u:Nat):sameLayout P (d+1) u u=true:=by unfold sameLayout;simp
theorem mS{e count off n:Nat}(h1:1<=P.cellsOf e)(h2:off % P.cellsOf e=0)(h3:off/P.cellsOf e+n<=count):liesAt P P.depth e count off e n=true:=by
 have hd: ∃d,P.depth=d+1:=⟨2*(P.types.size+Made.depth)+1,rfl⟩
 obtain⟨d,hd⟩:=hd
 rw[hd]
 unfold liesAt
 rw[hd,ZhX (f:=λx=>sameLayout P (d+1) x e) h1 h2 h3 (gw d e)]
 rfl
theorem Hz(need old e:Nat)(w:World): ∃k,(choose (.appendCap need old e)).run P w=.ok (need+k) w.drew:=by
 refine⟨w.tape w.drawn (.appendCap need old e) % (2^63 - need),?_⟩
 simp[Question.forced,Question.cut]
theorem FD{w:World}{g:Nat}{cs:Array Value}{t:TypeId}{fr:Nat×Nat}(h:w.heap[g]? =some (.cells cs t fr)):w.shape? g=some (t,cs.size):=by
 unfold World.shape?;rw[h]
theorem pM(hs:WU P σ H w)(hρ:Qj P σ tm ρ){o:Oper}{s d:TypeId}{x:Operand}(ho:o.op=.convert s d x):XZ P σ H w tm ρ o:=by
 unfold XZ;rw[ho]
 refine XN λds jK=>XN λdd hud=>?_
 have h1:=hρ x
 have hr: ∀{v:Value} {w':World},(convert s d (ρ x)).run P w=.ok v w'->(execOp ρ o).run P w=.ok (.value v) w':=λh=>by
  simp only[execOp,ho];exact Vl h
 show XD P σ H w _ (Ze3 P s d (Xs P x) ds dd tm H)
 cases ds<;>cases dd<;>try exact trivial
 case int.int k1 k=>
  refine QL λj n hx=>?_
  rw[hx] at h1
  have h1:=Wg h1
  refine Qq hs (hr ?_)
  rw[h1]
  simp[convert,run_underlying jK,run_underlying hud,Conv.intToInt]
 case int.string k1=>
  refine QL λj n hx=>?_
  rw[hx] at h1
  have h1:=Wg h1
  refine YJ hs (x:=.string (Utf8.encode n)) (hr ?_) (by simp[YY])
  rw[h1]
  simp[convert,run_underlying jK,run_underlying hud,Conv.intToString]
 case string.string=>
  refine O0 λt hx=>?_
  rw[hx] at h1
  have h0:=h1
  have h1:=Ud h1
  refine YJ hs (x:=ρ x) (hr ?_) h0
  rw[h1]
  simp[convert,run_underlying jK,run_underlying hud]
 case string.slice e=>
  refine XN λde hue=>BO λhde=>O0 λt hx=>?_
  subst hde
  rw[hx] at h1
  have h1:=Ud h1
  obtain⟨k,hk⟩:=Hz (P:=P) t.length 0 e w
  have hrun:(execOp ρ o).run P w=.ok (.value (.slice (some ⟨w.heap.size,0,none⟩) t.length (t.length+k))) (w.drew.alloc (.cells ⟨t.map (λb=>Value.int .u8 b.toNat)++List.replicate k (.int .u8 0)⟩ e (t.length+k,t.length+k+1))):=by
   refine hr ?_
   rw[h1]
   simp only[convert,Sem.run_bind,run_underlying jK,run_underlying hud,run_underlying hue,Result.andThen_ok,Conv.stringToBytes,M6,hk]
   have hc:((t.toArray.map λb=>Value.int .u8 b.toNat)++Array.replicate (t.length+k - t.length) (Value.int .u8 0))=⟨t.map (λb=>Value.int .u8 b.toNat)++List.replicate k (.int .u8 0)⟩:=by
    apply Array.ext'
    simp
   simp only[hc,newRow,Sem.run_bind,run_newObj,Result.andThen_ok,World.alloc_eq,Sem.run_pure,markStringish,run_shape]
   have hsh:(w.drew.alloc (.cells ⟨t.map (λb=>Value.int .u8 b.toNat)++List.replicate k (.int .u8 0)⟩ e)).shape? w.drew.heap.size=some (e,t.length+k):=by
    unfold World.shape?
    rw[Ru]
    simp
   simp only[hsh,run_freeze,Result.andThen_ok]
   rw[qU]
   rfl
  refine VT ((Tr.drew hs).trans (Tr.alloc hs.drew (.row ⟨e,1,Xc t,T.ofList (Ex t),.unk,0,true,true,false⟩) _ ⟨w.heap.size,0,t.length+k,1⟩ rfl ⟨_,_,rfl,?_⟩)) hrun ?_
  ·have hl:(Ex t).length=t.length:=by rw[CD];simp
   have:=Ga (σ:=σ.put H.nx ⟨w.heap.size,0,t.length+k,1⟩) (e:=e) (sz:=1) (tot:=t.length+k) (sm:=true) (exact:=false) (blk:=w.heap.size) (fr:=(t.length+k,t.length+k+1)) (rest:=List.replicate k (.int .u8 0)) (Af _ t)
    (λv hv=>by
     rcases ZA.1 hv with hv|hv
     ·exact tI t v hv
     ·rw[List.eq_of_mem_replicate hv];rfl) (Zq _) (by rw[hl];omega) (by simp) (λh=>by cases h) (by simp)
   have e1:Xc (Ex t)=Xc t:=by rw[Xb,Xb,hl]
   rw[e1] at this
   exact this
  ·rw[Xb];exact Rh (l:=⟨w.heap.size,0,t.length+k,1⟩) rfl
 case slice.string e=>
  refine XN λde hue=>BO λhde=>?_
  subst hde
  refine GM (λhx=>?_) (S9 (λhx=>?_) λb off len cap hx=>UC (λhn=>?_) λhn=>T9 λr hr'=>YU λhle=>?_)
  ·rw[hx] at h1
   obtain⟨a,h1⟩: ∃a,ρ x=.slice (some a) 0 0:=by simpa only[YY] using h1
   refine YJ hs (x:=.string .empty) (hr ?_) (by simp only[YY];rfl)
   rw[h1,run_convert_bytes_string w s d e _ _ _ jK hue hud,run_bytesToString w _ _ _ [] (by rfl)]
   rfl
  ·rw[hx] at h1
   have h1:ρ x=.slice none 0 0:=by simpa only[YY] using h1
   refine YJ hs (x:=.string .empty) (hr ?_) (by simp only[YY];rfl)
   rw[h1,run_convert_bytes_string w s d e none 0 0 jK hue hud]
   simp[Conv.bytesToString]
  ·rw[hx] at h1
   obtain⟨l,hl,e1⟩:=UH h1
   rw[Y1] at hn
   have hn:len=0:=Zp hn
   refine YJ hs (x:=.string .empty) (hr ?_) (by simp only[YY];rfl)
   rw[e1,run_convert_bytes_string w s d e _ _ _ jK hue hud,run_bytesToString w _ _ _ [] (by rw[hn];rfl)]
   rfl
  ·rw[hx] at h1
   obtain⟨l,hl,e1⟩:=UH h1
   obtain⟨cs,fr,hc,hrr⟩:=hs.row hr' hl
   rw[XH] at hle
   have hle:off+len<=r.size:=Zp hle
   obtain⟨vs,h2,h3,h4,h5⟩:=OD hrr len off hle
   refine Kn _ vs h2 λns hns=>?_
   have hload:=Qe (P:=P) hc vs (o:=l.base+off) h4
   rw[h3,hns] at hload
   refine YJ hs (hr (v:=.string ⟨(ns.map uo).toArray⟩) ?_) (by simp[YY])
   rw[e1,run_convert_bytes_string w s d e _ _ _ jK hue hud,run_bytesToString w _ _ _ ns hload,Ej]
   simp
 case pointer.unsafePointer u=>
  refine We λi hi=>W8 (λh3=>?_) λ_=>SO
  rw[XH] at h3
  have h3:1<=i.size:=Zp h3
  show XD P σ H w _ (y8 (Xs P x) tm H)
  unfold y8
  split
  ·rename_i hx
   rw[hx] at h1
   have h1:ρ x=.pointer none:=by simpa only[YY] using h1
   refine YJ hs (x:=.pointer none) (hr ?_) (by simp[YY])
   rw[h1]
   simp[convert,run_underlying jK,run_underlying hud,Conv.unsafePointer]
  ·rename_i b off hx
   refine T9 λr hr'=>YU λhle=>?_
   rw[hx] at h1
   obtain⟨l,hl,e1⟩:=UN h1
   obtain⟨cs,fr,hc,hrr⟩:=hs.row hr' hl
   rw[XH] at hle
   have hle:off+1<=r.size:=Zp hle
   have q1:=hrr.fits
   have q2:=hrr.room
   refine YJ hs (hr ?_) (LW hl)
   rw[e1]
   have hsh:=FD hc
   simp only[convert,Sem.run_bind,run_underlying jK,run_underlying hud,Result.andThen_ok,Conv.unsafePointer,Conv.seenAt,viewAt,run_shape,hsh,Option.isSome_some,if_true,Sem.run_pure,cellsIn,WT hi]
   have q3: ¬(l.base+off≥cs.size):=by omega
   have q4: ¬(i.size=0):=by omega
   simp[q3,q4]
  ·trivial
 case unsafePointer.pointer u=>
  refine We λi hi=>W8 (λh3=>?_) λ_=>SO
  rw[XH] at h3
  have h3:1<=i.size:=Zp h3
  show XD P σ H w _ (y7 (Xs P x) u i.size tm H)
  unfold y7
  split
  ·rename_i hx
   rw[hx] at h1
   have h1:ρ x=.pointer none:=by simpa only[YY] using h1
   refine YJ hs (x:=.pointer none) (hr ?_) (by simp[YY])
   rw[h1]
   simp[convert,run_underlying jK,run_underlying hud,Conv.unsafePointer]
  ·rename_i b off hx
   refine T9 λr hr'=>YU λhex=>YU λhel=>YU λh0=>YU λhle=>?_
   rw[hx] at h1
   obtain⟨l,hl,e1⟩:=UN h1
   obtain⟨cs,fr,hc,hrr⟩:=hs.row hr' hl
   rw[XH] at hle
   rw[Y1] at hel h0
   have hle:i.size<=r.size:=Zp hle
   have hel:r.elem=u:=Zp hel
   have h0:off=0:=Zp h0
   obtain⟨x1,x2,x3⟩:=hrr.exact hex
   refine YJ hs (hr ?_) (LW hl)
   rw[e1]
   have hsh:=FD hc
   have q4: ¬(i.size=0):=by omega
   have hcell:P.cellsOf u=i.size:=by simp[Program.cellsOf,hi]
   have hlies:liesAt P P.depth r.elem (cs.size/P.cellsOf r.elem) (l.base+off) u 1=true:=by
    rw[hel,hcell,x2,h0]
    refine mS (by rw[hcell];omega) (by rw[hcell];rfl) ?_
    rw[hcell,Nat.zero_div,Zb,Nat.le_div_iff_mul_le (by omega)];omega
   simp only[convert,Sem.run_bind,run_underlying jK,run_underlying hud,Result.andThen_ok,Conv.unsafePointer,Conv.seenAt,viewAt,run_shape,hsh,Option.isSome_some,if_true,Sem.run_pure,WT hi,variablesAt,run_program,hlies]
   simp[hlies]
  ·trivial
 case slice.slice e1 e2=>
  refine W8 (λhsd=>XN λde hue=>BO λhde=>?_) λ_=>SO
  subst hde
  rw[Y1] at hsd
  have hsd:s=d:=Zp hsd
  refine S9 (λ_=>trivial) λb off len cap hx=>T9 λr hr'=>YU λOx=>YU λhfz=>?_
  have h0:=h1
  rw[hx] at h1
  obtain⟨l,hl,e3⟩:=UH h1
  obtain⟨cs,fr,hc,hrr⟩:=hs.row hr' hl
  have yR:r.sm=false∧H.may r b=true:=by
   cases hsm:r.sm with
   |true=>rw[hsm] at Ox;cases Ox
   |false=>rw[hsm] at Ox;exact⟨rfl,Ox⟩
  obtain⟨hwr,hown⟩:=Wr.of_may yR.2 hr'
  rw[Y1] at hfz
  have hfz:r.fz=0:=Zp hfz
  have hfr:fr.1=fr.2:=by
   rcases hrr.frs hown yR.1 with h|h
   ·exact h
   ·omega
  have hrun:(execOp ρ o).run P w=.ok (.value (ρ x)) (w.freeze ⟨l.blk,cs.size,none⟩ 1):=by
   refine hr ?_
   rw[e3]
   have Zoz:(s==d)=true:=by simp[hsd]
   have hsh:=FD hc
   simp only[convert,Sem.run_bind,run_underlying jK,run_underlying hud,run_underlying hue,Result.andThen_ok,Zoz,markStringish,run_shape,hsh,run_freeze,Sem.run_pure]
  have hfz':=jt (n:=cs.size) hc hfr
  refine VT (Tr.write hs hr' hl hwr hfz'.size hfz'.new hfz'.old ⟨cs,_,rfl,?_⟩ hfz'.tape hfz'.os hfz'.out) hrun (by rw[hx];rw[hx] at h0;exact h0)
  have q1:=hrr.room
  refine⟨hrr.sz,hrr.sz1,hrr.fits,hrr.room,hrr.exact,?_,hrr.one,?_,λ_ h=>by cases h⟩
  ·intro i hi
   exact hrr.cell i hi
  ·intro _ i _ hi
   simp only
   omega
theorem sT{o:Oper}{c:Call}{b:Builtin}(ho:o.op=.call c)(hc:c.callee=.builtin b):
  ∃cs,(execOp ρ o).run P w=(builtin b c.argTypes o.type cs (c.args.map ρ)).run P w:=by
 refine⟨c.args.map λ|.const _=>true|_=>false,?_⟩
 simp only[execOp,ho,resolve,hc,Sem.run_bind,Sem.run_pure,Result.andThen_ok,invoke]
 rfl
theorem Tm{o:Oper}{xs:List Operand}{ts:List TypeId}{b:Builtin}(ho:o.op=.call ⟨.builtin b,⟨xs⟩,⟨ts⟩⟩)
  (h: ∀cs,XD P σ H w ((builtin b ⟨ts⟩ o.type cs ⟨xs.map ρ⟩).run P w) (eh P b xs ts tm H)):XZ P σ H w tm ρ o:=by
 unfold XZ
 obtain⟨cs,h2⟩:=sT (P:=P) (w:=w) (ρ:=ρ) ho rfl
 rw[h2,ho]
 have h3:=h cs
 have e:Array.map ρ ⟨xs⟩=⟨xs.map ρ⟩:=by simp
 show XD P σ H w ((builtin b ⟨ts⟩ o.type cs (Array.map ρ ⟨xs⟩)).run P w) (eh P b xs ts tm H)
 rw[e];exact h3
theorem E5{r:Row}{l:Loc}{cs:Array Value}{fr:Nat×Nat}(hr:Q3 σ r l cs fr)(hex:r.exact=true){o:Nat}(ho:o % l.sz=0):W4 r o none=l.tot - o/l.sz:=by
 show cond (Nat.beq r.sz 1) (r.size - o) ((r.size - o)/r.sz)=_
 obtain⟨h1,_,_⟩:=hr.exact hex
 have h2:=hr.sz
 have h3:=hr.sz1
 have key:(r.size - o)/l.sz=l.tot - o/l.sz:=by
  have hd:=RO o l.sz
  rw[ho,Zd] at hd
  have e:r.size - o=(l.tot - o/l.sz)*l.sz:=by rw[Nat.sub_mul,<-h1,V6 (o/l.sz),hd]
  rw[e,RG _ (by omega)]
 rw[Y1]
 by_cases e:r.sz=1
 ·rw[Zj e]
  have e2:l.sz=1:=by omega
  rw[e2] at key ⊢
  simpa using key
 ·rw[Ze e,<-h2];exact key
theorem P2{b:Nat}{es:Array MapEntry}{c:Nat}(h:w.heap[b]? =some (.map es c)):(getObj b).run P w=.ok (.map es c) w:=by simp[getObj,Sem.run,h]
theorem IA{t:TypeId}{x:Value}{d:TypeDesc}{y:Value}{cs:Array Bool}{ty:TypeId}(hu:P.underlying t=some d)(h:(Builtin.len_ #[t] ty #[x]).run P w=.ok y w):
  (builtin .len ⟨[t]⟩ ty cs ⟨[x]⟩).run P w=.ok (.value y) w:=Vl h
theorem ZhH(hs:WU P σ H w)(hρ:Qj P σ tm ρ){o:Oper}{xs:List Operand}{ts:List TypeId}(ho:o.op=.call ⟨.builtin .len,⟨xs⟩,⟨ts⟩⟩):XZ P σ H w tm ρ o:=by
 refine Tm ho λcs=>?_
 rcases xs with _|⟨x,_|⟨_,_⟩⟩<;>try exact trivial
 rcases ts with _|⟨t,_|⟨_,_⟩⟩<;>try exact trivial
 refine XN λd hu=>?_
 have g:=hρ x
 cases d<;>try exact trivial
 case string=>
  refine O0 λs hx=>MV ?_
  rw[hx] at g
  have g:=Ud g
  refine YJ hs (x:=.int .i64 s.length) (IA hu ?_) (by rw[Xb];simp[YY])
  rw[g]
  simp[Builtin.len_,run_underlying hu,goInt,M6]
 case slice e=>
  refine GM (λhx=>?_) (S9 (λhx=>?_) λb off n c hx=>MV ?_)
  ·rw[hx] at g
   obtain⟨l,e1⟩: ∃l,ρ x=.slice (some l) 0 0:=by simpa only[YY] using g
   refine YJ hs (x:=.int .i64 0) (IA hu ?_) (by simp[YY])
   rw[e1]
   simp[Builtin.len_,run_underlying hu,goInt]
  ·rw[hx] at g
   have g:ρ x=.slice none 0 0:=by simpa only[YY] using g
   refine YJ hs (x:=.int .i64 0) (IA hu ?_) (by simp[YY])
   rw[g]
   simp[Builtin.len_,run_underlying hu,goInt]
  ·rw[hx] at g
   obtain⟨l,hl,e1⟩:=UH g
   refine YJ hs (x:=.int .i64 n) (IA hu ?_) (by simp[YY])
   rw[e1]
   simp[Builtin.len_,run_underlying hu,goInt]
 case map kt e=>
  refine GL (λhx=>?_) λb hx=>Mc λob FV=>?_
  ·rw[hx] at g
   have g:ρ x=.map none:=by simpa only[YY] using g
   refine YJ hs (x:=.int .i64 0) (IA hu ?_) (by simp[YY])
   rw[g]
   simp[Builtin.len_,run_underlying hu,goInt]
  ·rw[hx] at g
   have g: ∃l,σ b=some l∧ρ x=.map (some l.blk):=by simpa only[YY] using g
   obtain⟨l,hl,e1⟩:=g
   cases ob<;>try exact trivial
   case map es clock=>
    obtain⟨c,hc,ho'⟩:=hs.alive b _ l FV hl
    obtain⟨ents,rfl,hr,_⟩:=ho'
    have hlen:es.length=ents.size:=by
     have: ∀(es:List RF) (l:List MapEntry),Y5 σ es l->es.length=l.length:=by
      intro es
      induction es with
      |nil=>intro l h;simp only[Y5] at h;subst h;rfl
      |cons a es ih=>intro l h;simp only[Y5] at h;obtain⟨e,es',_,h2,rfl⟩:=h;simp[ih _ h2]
     rw[this _ _ hr];simp
    refine YJ hs (x:=.int .i64 ents.size) (IA hu ?_) (by rw[Xb,hlen];simp[YY])
    rw[e1]
    simp[Builtin.len_,run_underlying hu,goInt,P2 hc]
theorem ZhD(hs:WU P σ H w)(hρ:Qj P σ tm ρ){o:Oper}{xs:List Operand}{ts:List TypeId}(ho:o.op=.call ⟨.builtin .cap,⟨xs⟩,⟨ts⟩⟩):XZ P σ H w tm ρ o:=by
 refine Tm ho λcs=>?_
 rcases xs with _|⟨x,_|⟨_,_⟩⟩<;>try exact trivial
 rcases ts with _|⟨t,_|⟨_,_⟩⟩<;>try exact trivial
 refine XN λd hu=>?_
 have g:=hρ x
 have hr: ∀{y:Value},(Builtin.cap_ #[t] o.type #[ρ x]).run P w=.ok y w->(builtin .cap ⟨[t]⟩ o.type cs ⟨[ρ x]⟩).run P w=.ok (.value y) w:=λh=>Vl h
 cases d<;>try exact trivial
 case slice e=>
  refine S9 (λhx=>?_) λb off n c hx=>?_
  ·rw[hx] at g
   have g:ρ x=.slice none 0 0:=by simpa only[YY] using g
   refine YJ hs (x:=.int .i64 0) (hr ?_) (by simp[YY])
   rw[g]
   simp[Builtin.cap_,run_underlying hu,goInt]
  ·rw[hx] at g
   obtain⟨l,hl,e1⟩:=UH g
   cases c with
   |some c=>
    refine YJ hs (x:=.int .i64 c) (hr ?_) (by simp[YY])
    rw[e1]
    simp[Builtin.cap_,run_underlying hu,goInt]
   |none=>
    refine T9 λr hr'=>YU λhex=>YU λhmod=>?_
    rw[Y1] at hmod
    have hmod:off % r.sz=0:=Zp hmod
    obtain⟨cs',fr,hc,hrr⟩:=hs.row hr' hl
    refine YJ hs (x:=.int .i64 (l.tot - off/l.sz:Nat)) (hr ?_) ?_
    ·rw[e1]
     simp[Builtin.cap_,run_underlying hu,goInt]
    ·simp only[YY]
     congr 1
     have:=E5 hrr hex (o:=off) (by rw[hrr.sz];exact hmod)
     simp[this]
theorem ZeR(ts:Array TypeId)(t:TypeId)(n c:Nat):Builtin.unsafeSliceData_ ts t #[.slice none n c]=pure (.pointer none):=rfl
theorem ZbZ(ts:Array TypeId)(t:TypeId)(a:Addr)(n c:Nat)(h:c≠0):(Builtin.unsafeSliceData_ ts t #[.slice (some a) n c]).run P w=.ok (.pointer (some a)) w:=by
 show(if c≠0 then pure (Value.pointer (some a)) else _:Sem Value).run P w=_
 rw[if_pos h];rfl
theorem iN(hs:WU P σ H w)(hρ:Qj P σ tm ρ){o:Oper}{xs:List Operand}{ts:List TypeId}(ho:o.op=.call ⟨.builtin .unsafeSliceData,⟨xs⟩,⟨ts⟩⟩):XZ P σ H w tm ρ o:=by
 refine Tm ho λcs=>?_
 rcases xs with _|⟨x,_|⟨_,_⟩⟩<;>try exact trivial
 have g:=hρ x
 refine S9 (λhx=>?_) λb off n c hx=>?_
 ·rw[hx] at g
  have g:ρ x=.slice none 0 0:=by simpa only[YY] using g
  refine YJ hs (x:=.pointer none) ?_ (by simp[YY])
  refine Vl ?_
  show(Builtin.unsafeSliceData_ ⟨ts⟩ o.type #[ρ x]).run P w=_
  rw[g]
  exact congrArg (λs=>s.run P w) (ZeR _ _ _ _)
 ·rw[hx] at g
  obtain⟨l,hl,e1⟩:=UH g
  have fin:c.getD (l.tot - off/l.sz)≠0->XD P σ H w ((builtin .unsafeSliceData ⟨ts⟩ o.type cs ⟨[ρ x]⟩).run P w) (.val (.ptr b off) H):=λh=>by
   refine YJ hs ?_ (LW hl)
   refine Vl ?_
   show(Builtin.unsafeSliceData_ ⟨ts⟩ o.type #[ρ x]).run P w=_
   rw[e1]
   exact ZbZ _ _ _ _ _ h
  cases c with
  |some c=>
   refine YU λh=>fin ?_
   rw[XH] at h
   have h:1<=c:=Zp h
   simp only[SJ];omega
  |none=>
   refine T9 λr hr'=>YU λh=>fin ?_
   obtain⟨cs',fr,hc,hrr⟩:=hs.row hr' hl
   rw[XH] at h
   have h:off+1<=r.size:=Zp h
   have h1:=hrr.fits
   have h2:=hrr.sz1
   simp only[Option.getD_none]
   have:off/l.sz<l.tot:=by rw[Q5 (by omega)];omega
   omega
def oR(v:AV)(m:Nat):Prop:=((v=.nils∨v=.slice0)∧m=0)∨(∃b o c,v=.slice b o m c)∨ ∃s,v=.str s∧m=s.length
theorem yr{r:Result Next}{v:AV}{k:Nat->OR}(h: ∀m,oR v m->XD P σ H w r (k m)):XD P σ H w r (ve v k):=by
 unfold ve
 split
 ·exact h 0 (.inl ⟨.inl rfl,rfl⟩)
 ·exact h 0 (.inl ⟨.inr rfl,rfl⟩)
 ·exact h _ (.inr (.inl ⟨_,_,_,rfl⟩))
 ·rw[Xb];exact h _ (.inr (.inr ⟨_,rfl,rfl⟩))
 ·trivial
theorem xr{v:AV}{m:Nat}{x:Value}(h:oR v m)(hr:YY σ v x)(w':World):(Builtin.lenOf x).run P w'=.ok m w':=by
 rcases h with⟨rfl|rfl,rfl⟩|⟨b,o,c,rfl⟩|⟨s,rfl,rfl⟩
 ·have:x=.slice none 0 0:=by simpa only[YY] using hr
  rw[this];rfl
 ·obtain⟨a,this⟩: ∃a,x=.slice (some a) 0 0:=by simpa only[YY] using hr
  rw[this];rfl
 ·obtain⟨l,_,rfl⟩:=UH hr;rfl
 ·rw[Ud hr];simp[Builtin.lenOf,M6]
structure ZeW(P:Program)(σ:Mp)(w:World)(sz n:Nat)(x:Value)(as:List AV)(vs:List Value):Prop where
 rel:Xk σ as vs
 one: ∀u∈vs,u.oneCell'=true
 len:vs.length=n*sz
 run: ∀w':World,w'.heap=w.heap->(Builtin.firstCells sz n x).run P w'=.ok ⟨vs⟩ w'
theorem BI{v:AV}{x:Value}(hx:YY σ v x){sz m:Nat}(hm:oR v m):ZeW P σ w sz 0 x [] []:=by
 refine⟨Uc,by simp,by simp,λw' _=>?_⟩
 rcases hm with⟨rfl|rfl,rfl⟩|⟨b,o,c,rfl⟩|⟨s,rfl,rfl⟩
 ·have:x=.slice none 0 0:=by simpa only[YY] using hx
  rw[this];rfl
 ·obtain⟨a,this⟩: ∃a,x=.slice (some a) 0 0:=by simpa only[YY] using hx
  rw[this];simp only[Builtin.firstCells,Va];rfl
 ·obtain⟨l,_,rfl⟩:=UH hx
  simp only[Builtin.firstCells,Va];rfl
 ·rw[Ud hx]
  simp[Builtin.firstCells]
theorem IV{r:Result Next}(hs:WU P σ H w){v:AV}{x:Value}(hx:YY σ v x){sz n m:Nat}{k:List AV->OR}(hm:oR v m)(hn:n<=m)
  (h: ∀as vs,ZeW P σ w sz n x as vs->XD P σ H w r (k as)):XD P σ H w r (Vb H sz v n k):=by
 unfold Vb
 refine UC (λh0=>?_) λ_=>?_
 ·rw[Y1] at h0
  have h0:n=0:=Zp h0
  subst h0
  exact h [] [] (BI hx hm)
 ·rcases hm with⟨rfl|rfl,rfl⟩|⟨b,o,c,rfl⟩|⟨s,rfl,rfl⟩
  ·trivial
  ·trivial
  ·refine T9 λrr hrr=>YU λhle=>?_
   rw[XH] at hle
   have hle:o+n*sz<=rr.size:=Zp hle
   obtain⟨l,hl,rfl⟩:=UH hx
   obtain⟨cs,fr,hc,hrow⟩:=hs.row hrr hl
   obtain⟨vs,h2,h3,h4,h5⟩:=OD hrow (n*sz) o hle
   refine h _ vs ⟨h2,h5,h3,λw' hw=>?_⟩
   have hc':w'.heap[l.blk]? =some (.cells cs rr.elem fr):=by rw[hw];exact hc
   have:=Qe (P:=P) hc' vs (o:=l.base+o) h4
   rw[h3] at this
   exact this
  ·refine YU λh1=>?_
   rw[Y1] at h1
   have h1:sz=1:=Zp h1
   subst h1
   rw[My]
   refine h _ _ ⟨Af σ _,tI _,by simp;omega,λw' _=>?_⟩
   rw[Ud hx]
   simp only[Builtin.firstCells,Sem.run_pure,Result.ok.injEq,and_true]
   apply Array.ext'
   simp[Vh]
theorem ZdS(a b:Nat):Ob a b=Nat.min a b:=by
 unfold Ob
 rw[XH]
 by_cases h:a<=b
 ·rw[Zj h];exact(Wh h).symm
 ·rw[Ze h];exact(U9 (Pg (Nat.lt_of_not_le h))).symm
theorem Zd9(hs:WU P σ H w)(hρ:Qj P σ tm ρ){o:Oper}{xs:List Operand}{ts:List TypeId}(ho:o.op=.call ⟨.builtin .copy,⟨xs⟩,⟨ts⟩⟩):XZ P σ H w tm ρ o:=by
 refine Tm ho λcs=>?_
 rcases xs with _|⟨x,_|⟨y,_|⟨_,_⟩⟩⟩<;>try exact trivial
 rcases ts with _|⟨t,_|⟨t2,_|⟨_,_⟩⟩⟩<;>try exact trivial
 refine XN λd hu=>MW λe hd=>We λi hi=>yr λsn hsn=>?_
 subst hd
 have g:=hρ x
 have step: ∀(base:Option Addr) (dn cp:Nat) (vs:List Value),ρ x=.slice base dn cp->(Builtin.firstCells i.size (Nat.min dn sn) (ρ y)).run P w=.ok ⟨vs⟩ w->
   (Builtin.copy_ ⟨[t,t2]⟩ o.type ⟨[ρ x,ρ y]⟩).run P w=(do (match base with|some a=>storeCells a vs|none=>pure ());pure (goInt (Nat.min dn sn)):Sem Value).run P w:=by
  intro base dn cp vs e1 hr
  have hl:=xr (P:=P) hsn (hρ y) w
  rw[show Nat.min dn sn=Nat.min sn dn from Nat.min_comm _ _] at hr ⊢
  simp only[Builtin.copy_,Wq,Up,TR,Sem.run_bind,run_underlying hu,Result.andThen_ok,e1,hl,WT hi,hr]
  cases base with
  |none=>rfl
  |some a=>simp
 refine S9 (λhx=>?_) λb off dn c hx=>MV ?_
 ·rw[hx] at g
  have g:ρ x=.slice none 0 0:=by simpa only[YY] using g
  refine YJ hs (x:=.int .i64 0) ?_ (by simp[YY])
  refine Vl ?_
  refine(step none 0 0 [] g ?_).trans ?_
  ·rw[show Nat.min 0 sn=0 from Nat.zero_min sn]
   exact(BI (w:=w) (hρ y) hsn).run w rfl
  ·rw[show Nat.min 0 sn=0 from Nat.zero_min sn];rfl
 ·rw[ZdS]
  have hmin:Nat.min dn sn<=sn:=Nat.min_le_right _ _
  rw[hx] at g
  obtain⟨l,hl,e1⟩:=UH g
  refine IV hs (hρ y) hsn hmin λas vs hf=>UC (λh0=>?_) λh0=>T9 λr hr=>YU λOx=>YU λhfz=>YU λhle=>?_
  ·rw[Y1] at h0
   have h0:Nat.min dn sn=0:=Zp h0
   have hv:vs=[]:=by have:=hf.len;rw[h0,Va] at this;exact XM.1 this
   refine YJ hs (x:=.int .i64 0) ?_ (by simp[YY])
   refine Vl ?_
   refine(step _ _ _ vs e1 (hf.run w rfl)).trans ?_
   rw[hv,h0]
   simp[goInt,storeCells]
  ·rw[XH] at hfz hle
   have hfz:r.fz<=off:=Zp hfz
   have hle:off+Nat.min dn sn*i.size<=r.size:=Zp hle
   obtain⟨w',hrun,htr⟩:=EM hs hr hl Ox hf.rel hf.one (o:=off) (by rw[hf.len];exact hle) hfz
   refine VT htr (x:=.int .i64 (Nat.min dn sn:Nat)) ?_ (by simp[YY])
   refine Vl ?_
   refine(step _ _ _ vs e1 (hf.run w rfl)).trans ?_
   simp[hrun,goInt]
def app(e:TypeId)(i:TypeInfo)(z:Value)(base:Option Addr)(sLen sCap n:Nat)(news:Sem (Array Value)):Sem Value:=
 if sLen+n<=sCap then do
  let new<-news
  if let some a:=base then storeCells (a.add (sLen*i.size)) new.toList
  pure (.slice base (sLen+n) sCap)
 else do
  let newCap<-choose (.appendCap (sLen+n) sCap e)
  let old<-Builtin.firstCells i.size sLen (.slice base sLen sCap)
  let new<-news
  let a<-newRow e (old++new++Builtin.zeroCells z.cells (newCap - (sLen+n)))
  pure (.slice (some a) (sLen+n) newCap)
def m8(i:TypeInfo)(z:Value)(n:Nat):Sem (Array Value):=if n*i.size=0 then pure #[] else pure (Builtin.zeroCells z.cells n)
theorem ZeA{t u ty e:TypeId}{i:TypeInfo}{z x:Value}{d:TypeDesc}(ht:P.underlying t=some (.slice e))(hu:P.underlying u=some d)(hd: ∀k,d≠.int k)(hi:P.info? e=some i)(hz:i.zero=some z)
  {base:Option Addr}{sLen sCap n:Nat}(hn:(Builtin.lenOf x).run P w=.ok n w)(hb:1<=i.bytes)(hfit:(sLen+n)*i.bytes<=140737488355328∨sLen+n<=sCap):
  (Builtin.append_ ⟨[t,u]⟩ ty ⟨[.slice base sLen sCap,x]⟩).run P w=(app e i z base sLen sCap n (Builtin.firstCells i.size n x)).run P w:=by
 unfold app
 simp only[Builtin.append_,Sem.run_bind,Wq,Up,TR,run_underlying ht,run_underlying hu,Result.andThen_ok,WT hi,Sem.run_pure,XU,if_false,hn,ZS,if_true]
 by_cases h:sLen+n<=sCap
 ·rw[if_pos h,if_pos h]
  simp only[Sem.run_bind]
  congr 1
 ·rw[if_neg h,if_neg h]
  have h5:sLen+n<=140737488355328:=by
   rcases hfit with h1|h1
   ·exact Yl (RP _ hb) h1
   ·exact absurd h1 h
  have h3:Builtin.nextslicecap (sLen+n) sCap*i.bytes<=281474976710656:=growslice_fits (Nat.lt_of_not_le h) (by rcases hfit with h1|h1;exact h1;exact absurd h1 h)
  have h4: ¬(Builtin.nextslicecap (sLen+n) sCap*i.bytes>2^48):=Nat.not_lt.2 h3
  have h6: ¬(((sLen+n:Nat):Int)>IntKind.i64.max∧(False∨i.bytes=0)):=λq=>by
   rcases q.2 with q|q
   ·exact q
   ·rw[q] at hb;exact absurd hb (by decide)
  have hti: ∀w':World,(typeInfo e).run P w'=.ok i w':=λw'=>by simp[typeInfo,hi]
  have hzv: ∀w':World,(zeroValue e).run P w'=.ok z w':=λw'=>SS hi hz
  simp only[Sem.run_bind,hti,hzv,run_askRoom,Result.andThen_ok,if_neg h6,if_neg h4,Sem.run_pure]
theorem Zaw{t u ty e:TypeId}{i:TypeInfo}{z:Value}{k k':IntKind}(ht:P.underlying t=some (.slice e))(hu:P.underlying u=some (.int k))(hi:P.info? e=some i)(hz:i.zero=some z)
  {base:Option Addr}{sLen sCap n:Nat}(hb:1<=i.bytes)(hn:n*i.bytes<=140737488355328)(hfit:(sLen+n)*i.bytes<=140737488355328∨sLen+n<=sCap):
  (Builtin.append_ ⟨[t,u]⟩ ty ⟨[.slice base sLen sCap,.int k' (n:Nat)]⟩).run P w=(app e i z base sLen sCap n (m8 i z n)).run P w:=by
 unfold app m8
 have hn1:n<=140737488355328:=Yl (RP _ hb) hn
 have hw:IntKind.i64.wrap (n:Int)=n:=by
  exact EZ (by omega) (by omega)
 have hti: ∀w':World,(typeInfo e).run P w'=.ok i w':=λw'=>by simp[typeInfo,hi]
 have hzv: ∀w':World,(zeroValue e).run P w'=.ok z w':=λw'=>SS hi hz
 have q1: ¬((n:Int)<0):=by omega
 have q2: ¬((n:Int)*(i.bytes:Int)>2^48):=by
  have h7:((n*i.bytes:Nat):Int)<=((140737488355328:Nat):Int):=Int.ofNat_le.2 hn
  rw[Int.natCast_mul] at h7
  have h8:(2:Int)^48=281474976710656:=by decide
  rw[h8]
  omega
 simp only[Builtin.append_,Sem.run_bind,Wq,Up,TR,run_underlying ht,run_underlying hu,Result.andThen_ok,WT hi,Sem.run_pure,if_true,asInt,asIntOf,hw,if_neg q1,hti,if_neg q2,Vx,ZU,XU,if_false]
 by_cases h:sLen+n<=sCap
 ·rw[if_pos h,if_pos h]
  simp only[Sem.run_bind]
  by_cases h0:n*i.size=0
  ·rw[if_pos h0,if_pos h0]
   cases base<;>rfl
  ·rw[if_neg h0,if_neg h0]
   simp only[Sem.run_bind,hzv,Result.andThen_ok,Sem.run_pure]
   cases base<;>rfl
 ·rw[if_neg h,if_neg h]
  have h5:sLen+n<=140737488355328:=by
   rcases hfit with h1|h1
   ·exact Yl (RP _ hb) h1
   ·exact absurd h1 h
  have h3:Builtin.nextslicecap (sLen+n) sCap*i.bytes<=281474976710656:=growslice_fits (Nat.lt_of_not_le h) (by rcases hfit with h1|h1;exact h1;exact absurd h1 h)
  have h4: ¬(Builtin.nextslicecap (sLen+n) sCap*i.bytes>2^48):=Nat.not_lt.2 h3
  have h6: ¬(((sLen+n:Nat):Int)>IntKind.i64.max∧(True∨i.bytes=0)):=λq=>by
   have h7:=q.1
   have h8:IntKind.i64.max=9223372036854775807:=by decide
   rw[h8] at h7
   omega
  by_cases h0:n*i.size=0
  ·simp only[Sem.run_bind,hti,hzv,run_askRoom,Result.andThen_ok,if_neg h6,if_neg h4,Sem.run_pure,if_pos h0]
  ·simp only[Sem.run_bind,hti,hzv,run_askRoom,Result.andThen_ok,if_neg h6,if_neg h4,Sem.run_pure,if_neg h0]
theorem Tr.del(hs:WU P σ H w){b:Nat}{lb:Loc}(hlb:σ b=some lb)(hb:H.ro<=b):Tr P σ H w σ ⟨H.nx,H.t.del b,H.ro⟩ w:=by
 have g: ∀c o,(H.t.del b).get c=some o->H.t.get c=some o:=by
  intro c o h
  rw[T.get_del] at h
  by_cases e:b=c
  ·rw[if_pos e] at h;cases h
  ·rw[if_neg e] at h;exact h
 refine⟨Ext.refl σ,⟨hs.dom,λc o h=>hs.low c o (g c o h),λc o l h hl=>hs.alive c o l (g c o h) hl,λc c' o o' l l' h h'=>hs.inj c c' o o' l l' (g _ _ h) (g _ _ h'),hs.glob,hs.ro⟩,Zq _,λ_ _ _=>rfl,?_,Zq _,rfl,?_,rfl,rfl,rfl,λc _ hn=>⟨by show(H.t.del b).get c=H.t.get c;rw[T.get_del,if_neg (λe=>by subst e;rw[hlb] at hn;cases hn)],hn⟩⟩
 ·intro c l hw hl _
  obtain⟨h1,o,h2,h3⟩:=hw
  exact⟨c,l,⟨h1,o,g c o h2,h3⟩,hl,rfl⟩
 ·intro c hc
  show(H.t.del b).get c=H.t.get c
  have hc:c<H.ro:=hc
  rw[T.get_del,if_neg (by omega)]
theorem Tr.move{w':World}(h:WU P σ H w){b:Nat}{o o':Obj}{l:Loc}{c':Go.Obj}
  (hb:H.t.get b=some o)(hl:σ b=some l)(hw:Wr H b)
  (hsize:w'.heap.size=w.heap.size)(hnew:w'.heap[l.blk]? =some c')(hold: ∀k,k≠l.blk->w'.heap[k]? =w.heap[k]?)
  (ho:U7 (σ.put H.nx l) o' l c')(ht:w'.tape=w.tape)(hos:w'.os=w.os)(hout:w'.output=w.output):
  Tr P σ H w (σ.put H.nx l) ⟨Nat.succ H.nx,(H.t.del b).set H.nx o',H.ro⟩ w':=by
 have hlt:b<H.nx:=h.dom b l hl
 have hro:=h.ro
 have B4:Ext σ (σ.put H.nx l):=Mp.put_ext l (h.fresh (Zq _))
 have get: ∀c x,((H.t.del b).set H.nx o').get c=some x->(c=H.nx∧x=o')∨(c≠H.nx∧c≠b∧H.t.get c=some x):=by
  intro c x hx
  rw[T.get_set] at hx
  by_cases e:H.nx=c
  ·rw[if_pos e] at hx;cases hx;exact .inl ⟨e.symm,rfl⟩
  ·rw[if_neg e,T.get_del] at hx
   by_cases e2:b=c
   ·rw[if_pos e2] at hx;cases hx
   ·rw[if_neg e2] at hx;exact .inr ⟨λz=>e z.symm,λz=>e2 z.symm,hx⟩
 refine⟨B4,⟨?_,?_,?_,?_,?_,?_⟩,by omega,?_,?_,Ws _,rfl,?_,ht,hos,hout,λc hc hn=>⟨by show((H.t.del b).set H.nx o').get c=H.t.get c;rw[T.get_set,if_neg (by omega),T.get_del,if_neg (λe=>by subst e;rw[hl] at hn;cases hn)],by unfold Mp.put;rw[if_neg (by omega)];exact hn⟩⟩
 ·intro c m hm
  show c<H.nx+1
  unfold Mp.put at hm
  by_cases e:c=H.nx
  ·omega
  ·rw[if_neg e] at hm;have:=h.dom c m hm;omega
 ·intro c x hx
  show c<H.nx+1
  rcases get c x hx with⟨rfl,_⟩|⟨h1,h2,h3⟩
  ·omega
  ·have:=h.low c x h3;omega
 ·intro c x l1 hx hl1
  rcases get c x hx with⟨rfl,rfl⟩|⟨h1,h2,h3⟩
  ·rw[Mp.put_same] at hl1;cases hl1
   exact⟨c',hnew,ho⟩
  ·rw[Mp.put_old h1] at hl1
   obtain⟨c1,hc1,hr⟩:=h.alive c x l1 h3 hl1
   refine⟨c1,?_,hr.mono B4⟩
   rw[hold l1.blk ?_];exact hc1
   intro e
   exact h2 (h.alone h3 hb hl1 hl e λs=>hw.hard hb s.2)
 ·intro c1 c2 x1 x2 l1 l2 h1 h2 k1 k2 e
  rcases get c1 x1 h1 with⟨rfl,rfl⟩|⟨p1,p2,p3⟩<;>rcases get c2 x2 h2 with⟨q0,rfl⟩|⟨q1,q2,q3⟩
  ·exact .inl q0.symm
  ·exfalso
   rw[Mp.put_same] at k1;cases k1
   rw[Mp.put_old q1] at k2
   exact q2 (h.alone q3 hb k2 hl e.symm λs=>hw.hard hb s.2)
  ·exfalso
   rw[q0,Mp.put_same] at k2;cases k2
   rw[Mp.put_old p1] at k1
   exact p2 (h.alone p3 hb k1 hl e λs=>hw.hard hb s.2)
  ·rw[Mp.put_old p1] at k1
   rw[Mp.put_old q1] at k2
   exact h.inj c1 c2 x1 x2 l1 l2 p3 q3 k1 k2 e
 ·intro g hg
  obtain⟨lg,h1,h2⟩:=h.glob g hg
  exact⟨lg,B4 g lg h1,h2⟩
 ·show H.ro<=H.nx+1;omega
 ·intro k hk hn
  exact hold k λe=>hn b l hw hl e.symm
 ·intro c m hwc hlc hlt'
  obtain⟨r1,x,r2,r3⟩:=hwc
  rcases get c x r2 with⟨rfl,rfl⟩|⟨p1,p2,p3⟩
  ·rw[Mp.put_same] at hlc;cases hlc
   exact⟨b,l,hw,hl,rfl⟩
  ·rw[Mp.put_old p1] at hlc
   exact⟨c,m,⟨r1,x,p3,r3⟩,hlc,rfl⟩
 ·intro c hc
  have hc:c<H.ro:=hc
  show((H.t.del b).set H.nx o').get c=H.t.get c
  rw[T.get_set,if_neg (by omega),T.get_del,if_neg (by have:=hw.1;omega)]
theorem M8{z:Array Value}(hone: ∀v∈z.toList,v.oneCell'=true)(k:Nat):(Builtin.zeroCells z k).size=k*z.size∧ ∀v∈(Builtin.zeroCells z k).toList,v.oneCell'=true:=by
 constructor
 ·simp[Builtin.zeroCells]
 ·intro v hv
  simp only[Builtin.zeroCells,Qk,Array.toList_range,Xu,VD] at hv
  obtain⟨i,hi,rfl⟩:=hv
  have hz:0<z.size:=by
   rcases Nat.eq_zero_or_pos z.size with h|h
   ·rw[h,Nat.mul_zero] at hi;omega
   ·exact h
  rw[getElem!_pos z _ (Vu _ hz)]
  exact hone _ (Array.getElem_mem_toList _)
theorem Cy{e:TypeId}{i:TypeInfo}{z:Value}{base:Option Addr}{sLen sCap n:Nat}{news:Sem (Array Value)}{vo vn:List Value}
  (hone: ∀v∈z.cells.toList,v.oneCell'=true)(hg: ¬(sLen+n<=sCap))
  (ho: ∀w':World,w'.heap=w.heap->(Builtin.firstCells i.size sLen (.slice base sLen sCap)).run P w'=.ok ⟨vo⟩ w')(hn: ∀w':World,w'.heap=w.heap->news.run P w'=.ok ⟨vn⟩ w'):
  ∃k rest,(app e i z base sLen sCap n news).run P w=.ok (.slice (some ⟨w.heap.size,0,none⟩) (sLen+n) (sLen+n+k)) (w.drew.alloc (.cells ⟨(vo++vn)++rest⟩ e))∧
   rest.length=k*z.cells.size∧ ∀v∈rest,v.oneCell'=true:=by
 obtain⟨k,hk⟩:=Hz (P:=P) (sLen+n) sCap e w
 obtain⟨h1,h2⟩:=M8 hone k
 refine⟨k,(Builtin.zeroCells z.cells k).toList,?_,by simpa using h1,h2⟩
 unfold app
 rw[if_neg hg]
 simp only[Sem.run_bind,hk,Result.andThen_ok,ho w.drew rfl,hn w.drew rfl,WG,newRow,run_newObj,Sem.run_pure,World.alloc_eq]
 congr 3
 have e1:(⟨vo⟩:Array Value)++⟨vn⟩++Builtin.zeroCells z.cells k=⟨(vo++vn)++(Builtin.zeroCells z.cells k).toList⟩:=by
  apply Array.ext'
  simp
 rw[e1]
theorem Jv{r:Result Next}(hs:WU P σ H w){e sz need k:Nat}{as:List AV}{vs rest:List Value}(hr:r=.ok (.value (.slice (some ⟨w.heap.size,0,none⟩) need (need+k))) (w.drew.alloc (.cells ⟨vs++rest⟩ e)))
  (hrel:Xk σ as vs)(hone: ∀v∈vs,v.oneCell'=true)(hrest: ∀v∈rest,v.oneCell'=true)(hsz:1<=sz)(hlen:vs.length=need*sz)(hrl:rest.length=k*sz):
  XD P σ H w r (.val (.slice H.nx 0 need none) (H.newRow e sz as false)):=by
 have hl:=hrel.length
 refine VT ((Tr.drew hs).trans (Tr.alloc hs.drew _ _ ⟨w.heap.size,0,need+k,sz⟩ rfl ⟨_,(0,0),rfl,?_⟩)) hr (Rh (l:=⟨w.heap.size,0,need+k,sz⟩) rfl)
 refine Ga (hrel.mono (Mp.put_ext _ (hs.drew.fresh (Zq _)))) (λv hv=>?_) hsz ?_ ?_ (λh=>by cases h) rfl
 ·rcases ZA.1 hv with hv|hv
  ·exact hone v hv
  ·exact hrest v hv
 ·rw[hl,hlen,WF];omega
 ·rw[Zm,hlen,hrl,WF];omega
theorem Rw(r:Row): ∀(n o j:Nat),j<n->(Vr r o n)[j]? =some (r.get (o+j))
 |0,o,j,h=>by omega
 |n+1,o,0,_=>rfl
 |n+1,o,j+1,h=>by
  show(Vr r (o+1) n)[j]? =_
  rw[Rw r n (o+1) j (by omega)]
  congr 2;omega
theorem oC(r:Row)(sz size o:Nat)(as:List AV){j:Nat}(hj:j<o+as.length):
  (j<o∧(⟨r.elem,sz,size,Xj r.cells o as,r.dflt,r.fz,r.sm,true,false⟩:Row).get j=r.get j)∨
  (∃a,o<=j∧as[j - o]? =some a∧(⟨r.elem,sz,size,Xj r.cells o as,r.dflt,r.fz,r.sm,true,false⟩:Row).get j=a):=by
 by_cases h:j<o
 ·refine .inl ⟨h,?_⟩
  rw[Row.get_eq,Row.get_eq]
  show((Xj r.cells o as).get j).getD r.dflt=_
  rw[Qg,if_neg (by omega)]
 ·refine .inr ⟨as[j - o]'(by omega),by omega,Zn (by omega),?_⟩
  rw[Row.get_eq]
  show((Xj r.cells o as).get j).getD r.dflt=_
  rw[Qg,if_pos (by omega),Zn (by omega)]
  rfl
structure ZiM(P:Program)(σ:Mp)(w:World)(sz n:Nat)(news:Sem (Array Value))(as:List AV)(vs:List Value):Prop where
 rel:Xk σ as vs
 one: ∀u∈vs,u.oneCell'=true
 len:vs.length=n*sz
 run: ∀w':World,w'.heap=w.heap->news.run P w'=.ok ⟨vs⟩ w'
theorem jz(hs:WU P σ H w){va:AV}{x:Value}(g:YY σ va x){e n:Nat}{i:TypeInfo}{z:Value}{news:Sem (Array Value)}{as:List AV}{vs:List Value}{q:Result Next}
  (hsz:1<=i.size)(JF: ∀v∈z.cells.toList,v.oneCell'=true)(Li:z.cells.size=i.size)(hf:ZiM P σ w i.size n news as vs)
  (run: ∀{base:Option Addr} {sLen sCap:Nat} {v:Value} {w':World},x=.slice base sLen sCap->((sLen+n)*i.bytes<=140737488355328∨sLen+n<=sCap)->(app e i z base sLen sCap n news).run P w=.ok v w'->q=.ok (.value v) w'):
  XD P σ H w q (Ol va e i.size i.bytes H n as):=by
 refine GM (λhx=>?_) (S9 (λhx=>?_) λb off len cap hx=>?_)
 ·rw[hx] at g
  obtain⟨a,g⟩: ∃a,x=.slice (some a) 0 0:=by simpa only[YY] using g
  refine UC (λh0=>?_) λh0=>YU λhfit=>?_
  ·rw[Y1] at h0
   have h0:n=0:=Zp h0
   subst h0
   have hv:vs=[]:=by have:=hf.len;rw[Va] at this;exact XM.1 this
   refine YJ hs (x:=.slice (some a) 0 0) (run g (.inr (Zq _)) ?_) (by simp[YY])
   simp[app,hf.run w rfl,hv,storeCells]
  ·rw[Y1] at h0
   rw[XH] at hfit
   have h0:n≠0:=of_decide_eq_false h0
   have hfit:n*i.bytes<=140737488355328:=Zp hfit
   obtain⟨k,rest,k1,k2,k3⟩:=Cy (P:=P) (w:=w) (e:=e) (i:=i) (z:=z) (base:=some a) (sLen:=0) (sCap:=0) (n:=n) (vo:=[]) (vn:=vs) JF (by omega) (λw' _=>by simp only[Builtin.firstCells,Va];rfl) hf.run
   rw[Zb] at k1
   exact Jv hs (run g (.inl (by rw[Zb];exact hfit)) k1) hf.rel hf.one k3 hsz hf.len (by rw[k2,Li])
 ·rw[hx] at g
  have g:x=.slice none 0 0:=by simpa only[YY] using g
  refine UC (λh0=>?_) λh0=>YU λhfit=>?_
  ·rw[Y1] at h0
   have h0:n=0:=Zp h0
   subst h0
   refine YJ hs (x:=.slice none 0 0) (run g (.inr (Zq _)) ?_) (by simp[YY])
   simp[app,hf.run w rfl]
  ·rw[Y1] at h0
   rw[XH] at hfit
   have h0:n≠0:=of_decide_eq_false h0
   have hfit:n*i.bytes<=140737488355328:=Zp hfit
   obtain⟨k,rest,k1,k2,k3⟩:=Cy (P:=P) (w:=w) (e:=e) (i:=i) (z:=z) (base:=none) (sLen:=0) (sCap:=0) (n:=n) (vo:=[]) (vn:=vs) JF (by omega) (λw' _=>by rfl) hf.run
   rw[Zb] at k1
   exact Jv hs (run g (.inl (by rw[Zb];exact hfit)) k1) hf.rel hf.one k3 hsz hf.len (by rw[k2,Li])
 ·rw[hx] at g
  have g0:=g
  obtain⟨l,hl,e1⟩:=UH g
  refine T9 λr hr=>YU λZkm=>?_
  obtain⟨cs',fr,hc,hrr⟩:=hs.row hr hl
  have hcap:=Bu hrr off cap
  refine UC (λhin=>?_) λhout=>?_
  ·rw[XH] at hin
   have hin:len+n<=W4 r off cap:=Zp hin
   have hin':len+n<=cap.getD (l.tot - off/l.sz):=Yl hin hcap
   refine UC (λh0=>?_) λh0=>YU λOx=>YU λhle=>YU λhfz=>?_
   ·rw[Y1] at h0
    have h0:n=0:=Zp h0
    subst h0
    have hv:vs=[]:=by have:=hf.len;rw[Va] at this;exact XM.1 this
    refine YJ hs (x:=x) (run e1 (.inr hin') ?_) (by rw[hx];exact g0)
    simp only[app,if_pos hin',Sem.run_bind,hf.run w rfl,Result.andThen_ok,hv]
    rw[e1]
    simp[storeCells]
   ·rw[XH] at hle hfz
    have hle:off+(len+n)*i.size<=r.size:=Zp hle
    have hfz:r.fz<=off+len*i.size:=Zp hfz
    obtain⟨w',hrun,htr⟩:=EM hs hr hl Ox hf.rel hf.one (o:=off+len*i.size) (by rw[hf.len];rw[WF] at hle;omega) hfz
    refine VT htr (run e1 (.inr hin') ?_) (Qb hl)
    simp only[app,if_pos hin',Sem.run_bind,hf.run w rfl,Result.andThen_ok,QJ]
    rw[X3,hrun]
    rfl
  ·rw[XH] at hout
   have hout: ¬(len+n<=W4 r off cap):=of_decide_eq_false hout
   refine YU λhfit=>YU λhle=>?_
   rw[XH] at hfit hle
   have hfit:(len+n)*i.bytes<=140737488355328:=Zp hfit
   have hle:off+len*i.size<=r.size:=Zp hle
   obtain⟨vo,o2,o3,o4,o5⟩:=OD hrr (len*i.size) off hle
   have hfo: ∀c,∀w':World,w'.heap=w.heap->(Builtin.firstCells i.size len (.slice (some ⟨l.blk,l.base+off,none⟩) len c)).run P w'=.ok ⟨vo⟩ w':=by
    intro c w' hw
    have hc':w'.heap[l.blk]? =some (.cells cs' r.elem fr):=by rw[hw];exact hc
    have:=Qe (P:=P) hc' vo (o:=l.base+off) o4
    rw[o3] at this
    exact this
   have grown: ¬(len+n<=cap.getD (l.tot - off/l.sz))->XD P σ H w q (.val (.slice H.nx 0 (len+n) none) (H.newRow e i.size (Vr r off (len*i.size)++as) false)):=by
    intro hg
    obtain⟨k,rest,k1,k2,k3⟩:=Cy (P:=P) (w:=w) (e:=e) (i:=i) (z:=z) JF hg (hfo _) hf.run
    refine Jv hs (run e1 (.inl hfit) k1) (o2.append hf.rel) (λv hv=>?_) k3 hsz (by rw[Zm,o3,hf.len,WF]) (by rw[k2,Li])
    rcases ZA.1 hv with hv|hv
    ·exact o5 v hv
    ·exact hf.one v hv
   cases cap with
   |some c=>exact grown hout
   |none=>
    have Zkn:r.sz=i.size:=by
     have:Nat.beq r.sz i.size=true:=Zkm
     rw[Y1] at this
     exact Zp this
    refine UC (λhex=>YU λhmod=>?_) λhex=>?_
    ·rw[Y1] at hmod
     have hmod:off % i.size=0:=Zp hmod
     refine grown ?_
     rw[E5 hrr hex (by rw[hrr.sz,Zkn];exact hmod)] at hout
     exact hout
    ·refine YU λhel=>YU λOx=>YU λhfz=>YU λhsize=>YU λh0=>?_
     rw[Y1] at hel hsize h0
     rw[XH] at hfz
     have hel:r.elem=e:=Zp hel
     have hsize:len*i.size=r.size:=Zp hsize
     have h0:off=0:=Zp h0
     have hfz:r.fz<=len*i.size:=Zp hfz
     subst h0
     obtain⟨hwr,hown⟩:=Wr.of_may Ox hr
     have Zc3:l.sz=i.size:=by rw[hrr.sz,Zkn]
     have hal:as.length=n*i.size:=by rw[hf.rel.length];exact hf.len
     have hvl:=hf.len
     have hsum:(len+n)*i.size=len*i.size+n*i.size:=WF _ _ _
     have hcell:=λj (hj:j<len*i.size+as.length)=>oC r i.size ((len+n)*i.size) (len*i.size) as hj
     by_cases hin:len+n<=l.tot
     ·have hin':len+n<=(none:Option Nat).getD (l.tot - 0/l.sz):=by rw[Nat.zero_div];exact hin
      have hmul:(len+n)*i.size<=l.tot*i.size:=XX _ hin
      have q1:=hrr.room
      rw[Zc3] at q1
      obtain⟨w',hrun,hw⟩:=Nv (P:=P) (o:=l.base+len*i.size) vs 0 w cs' hc (by omega) hf.one (λj hj=>by
       have:=hrr.frz hown (len*i.size+j) (by omega) (by rw[Zc3];omega)
       rwa [show l.base+len*i.size+0+j=l.base+(len*i.size+j) by omega])
      refine VT (Tr.move hs hr hl hwr hw.size hw.new hw.old ⟨_,fr,rfl,?_⟩ hw.tape hw.os hw.out) (run e1 (.inr hin') ?_) (by simp only[YY];exact⟨l,Mp.put_same _ _ _,rfl⟩)
      ·have ext:=Mp.put_ext l (hs.fresh (Zq H.nx))
       refine⟨Zc3,by omega,by rw[Zc3];exact hmul,by rw[OS];exact hrr.room,(λh=>by cases h),?_,?_,λ_=>hrr.frz hown,λ_=>hrr.frs hown⟩
       ·intro j hj
        have hj:j<(len+n)*i.size:=hj
        show ∃v,_∧YY _ ((⟨r.elem,i.size,(len+n)*i.size,Xj r.cells (len*i.size) as,r.dflt,r.fz,r.sm,true,false⟩:Row).get j) v
        rw[P6 _ _ _ _ (by omega)]
        rcases hcell j (by omega) with⟨h1,h2⟩|⟨a,h1,h2,h3⟩
        ·rw[h2,if_neg (by omega)]
         obtain⟨v,hv,hrel⟩:=hrr.cell j (by omega)
         exact⟨v,hv,hrel.mono ext⟩
        ·obtain⟨v,hv,hrel⟩:=hf.rel.get h2
         rw[h3,if_pos (by omega)]
         refine⟨v,?_,hrel.mono ext⟩
         rw[show l.base+j - (l.base+len*i.size+0)=j - len*i.size by omega];exact hv
       ·intro j v hj hv
        have hj:j<(len+n)*i.size:=hj
        rw[P6 _ _ _ _ (by omega)] at hv
        split at hv
        ·exact hf.one v (VN hv)
        ·exact hrr.one j v (by omega) hv
      ·simp only[app,if_pos hin',Sem.run_bind,hf.run w rfl,Result.andThen_ok,QJ]
       rw[Zd,hrun]
       rfl
     ·have hg: ¬(len+n<=(none:Option Nat).getD (l.tot - 0/l.sz)):=by rw[Nat.zero_div];exact hin
      obtain⟨k,rest,k1,k2,k3⟩:=Cy (P:=P) (w:=w) (e:=e) (i:=i) (z:=z) JF hg (hfo _) hf.run
      have td:=Tr.del (P:=P) (b:=b) hs.drew hl hwr.1
      refine VT (((Tr.drew hs).trans td).trans (Tr.alloc td.sim (.row ⟨r.elem,i.size,(len+n)*i.size,Xj r.cells (len*i.size) as,r.dflt,r.fz,r.sm,true,false⟩) _ ⟨w.heap.size,0,len+n+k,i.size⟩ rfl ⟨_,(0,0),by rw[hel],?_⟩)) (run e1 (.inl hfit) k1) (Rh (l:=⟨w.heap.size,0,len+n+k,i.size⟩) rfl)
      have ext:=Mp.put_ext ⟨w.heap.size,0,len+n+k,i.size⟩ (hs.fresh (Zq H.nx))
      rw[Li] at k2
      have Zft:(len+n+k)*i.size=(len+n)*i.size+k*i.size:=WF _ _ _
      refine⟨rfl,hsz,by rw[Zft];exact Nat.le_add_right _ _,?_,(λh=>by cases h),?_,?_,?_,λ_ _=>.inl rfl⟩
      ·simp only[List.size_toArray,Zm,o3,hvl,k2]
       rw[Zft];omega
      ·intro j hj
       have hj:j<(len+n)*i.size:=hj
       simp only[Zb,Wq]
       rcases hcell j (by omega) with⟨h1,h2⟩|⟨a,h1,h2,h3⟩
       ·rw[h2]
        obtain⟨v,hv,hrel⟩:=o2.get (Rw r (len*i.size) 0 j h1)
        rw[Zb] at hrel
        refine⟨v,?_,hrel.mono ext⟩
        rw[Yt (by rw[Zm];omega),Yt (by omega)]
        exact hv
       ·obtain⟨v,hv,hrel⟩:=hf.rel.get h2
        rw[h3]
        refine⟨v,?_,hrel.mono ext⟩
        rw[Yt (by rw[Zm];omega),Yz (by omega),o3]
        exact hv
      ·intro j v _ hv
       simp only[Zb,Wq] at hv
       have:=VN hv
       rcases ZA.1 this with h|h
       ·rcases ZA.1 h with h|h
        ·exact o5 v h
        ·exact hf.one v h
       ·exact k3 v h
      ·intro _ j _ _
       simp only;omega
theorem iH(hs:WU P σ H w)(hρ:Qj P σ tm ρ){o:Oper}{xs:List Operand}{ts:List TypeId}(ho:o.op=.call ⟨.builtin .append,⟨xs⟩,⟨ts⟩⟩):XZ P σ H w tm ρ o:=by
 refine Tm ho λcs=>?_
 rcases xs with _|⟨x,_|⟨y,_|⟨_,_⟩⟩⟩<;>try exact trivial
 rcases ts with _|⟨t,_|⟨t2,_|⟨_,_⟩⟩⟩<;>try exact trivial
 refine XN λd hu=>MW λe hd=>We λi hi=>UM λz hz=>W8 (λhzl=>XN λd2 hu2=>?_) λ_=>SO
 subst hd
 have happ: ∀{n:Nat} {news:Sem (Array Value)} {as:List AV} {vs:List Value} (_:1<=i.size) (hf:ZiM P σ w i.size n news as vs)
   (h: ∀{base:Option Addr} {sLen sCap:Nat},ρ x=.slice base sLen sCap->((sLen+n)*i.bytes<=140737488355328∨sLen+n<=sCap)->(Builtin.append_ ⟨[t,t2]⟩ o.type ⟨[.slice base sLen sCap,ρ y]⟩).run P w=(app e i z base sLen sCap n news).run P w),
   XD P σ H w ((builtin .append ⟨[t,t2]⟩ o.type cs ⟨[ρ x,ρ y]⟩).run P w) (Ol (Xs P x tm) e i.size i.bytes H n as):=by
  intro n news as vs hsz hf h
  rw[Y1,Xb] at hzl
  have hzl:(Vf z).cells.length=i.size:=Zp hzl
  obtain⟨hzr,JF⟩:=RR (σ:=σ) z (by omega)
  have Li:z.cells.size=i.size:=by rw[<-hzl,hzr.length];simp
  refine jz hs (hρ x) hsz JF Li hf λ{base sLen sCap v w'} e1 e2 e3=>Vl ?_
  rw[e1]
  exact(h e1 e2).trans e3
 have hd2:(∃k,d2=.int k)∨ ∀k,d2≠.int k:=by
  cases d2<;>first
   |exact .inl ⟨_,rfl⟩
   |exact .inr (λk h=>by cases h)
 rcases hd2 with⟨k,rfl⟩|hd2
 ·refine YU λhsz=>YU λhb=>Rl λk' n hy=>YU λhn=>?_
  rw[XH] at hsz hb hn
  have hsz:1<=i.size:=Zp hsz
  have hb:1<=i.bytes:=Zp hb
  have hn:n*i.bytes<=140737488355328:=Zp hn
  have hy2:ρ y=.int k' (n:Nat):=by
   have:=hρ y
   rw[hy] at this
   have this:ρ y=.int k' (Int.ofNat n):=by simpa only[YY] using this
   rw[this];rfl
  rw[Y1,Xb] at hzl
  have Zkp:(Vf z).cells.length=i.size:=Zp hzl
  obtain⟨hzr,JF⟩:=RR (σ:=σ) z (by omega)
  have Li:z.cells.size=i.size:=by rw[<-Zkp,hzr.length];simp
  refine happ (vs:=(Builtin.zeroCells z.cells n).toList) (news:=m8 i z n) hsz ⟨?_,(M8 JF n).2,by simpa [Li] using (M8 JF n).1,λw' _=>?_⟩ λ{base sLen sCap} e1 e2=>?_
  ·have:=(E1 (σ:=σ) hzr (λv hv=>JF v hv) (by omega) n).1
   rw[Zkp,<-Li] at this
   exact this
  ·unfold m8
   split
   ·next h0=>
    have:Builtin.zeroCells z.cells n= #[]:=by
     apply Array.ext'
     have:=(M8 JF n).1
     rw[Li,h0] at this
     exact XM.1 (by simpa using this)
    simp[this]
   ·simp
  ·rw[hy2]
   exact Zaw hu hu2 hi hz hb hn e2
 have hno:kC (LM (Xs P x) (Xs P y) e i.size i.bytes (Vf z).cells) (WZ (Xs P x) (Xs P y) e i.size i.bytes) d2=WZ (Xs P x) (Xs P y) e i.size i.bytes:=by
  cases d2<;>first|rfl|exact absurd rfl (hd2 _)
 rw[hno]
 refine YU λhsz=>YU λhb=>yr λn hn=>IV hs (hρ y) hn (Zq _) λas vs hf=>?_
 rw[XH] at hsz hb
 have hsz:1<=i.size:=Zp hsz
 have hb:1<=i.bytes:=Zp hb
 have hlenOf:=xr (P:=P) hn (hρ y) w
 exact happ hsz ⟨hf.rel,hf.one,hf.len,hf.run⟩ λe1 e2=>ZeA hu hu2 hd2 hi hz hlenOf hb e2
def mm(mx:Bool):Value->Value->Sem Value:=if mx then Builtin.max2 else Builtin.min2
theorem yt{r:Result Next}(hs:WU P σ H w){mx:Bool}{k:IntKind}: ∀(as:List AV) (vs:List Value) (a:Int),Xk σ as vs->
  (∀v,(vs.foldlM (mm mx) (.int k a):Sem Value).run P w=.ok v w->r=.ok (.value v) w)->XD P σ H w r (min2 mx k a H as)
 |[],vs,a,h,g=>by
  rw[h.nil_inv] at g
  exact YJ hs (x:=.int k a) (g _ rfl) (by simp[YY])
 |x::as,vs,a,h,g=>by
  obtain⟨v,vs',h1,h2,rfl⟩:=h.cons_inv
  unfold min2
  split
  ·rename_i j b
   refine YU λhk=>?_
   have:=RV hk;subst this
   have h1:=Wg h1
   subst h1
   refine yt hs as vs' _ h2 λv hv=>g v ?_
   rw[List.foldlM_cons]
   cases mx with
   |true=>
    simp only[mm,if_true,Builtin.max2,Sem.run_bind,Sem.run_pure,Result.andThen_ok]
    rw[<-hv]
    congr 2
    by_cases hh:a<b
    ·simp[hh,Mk]
    ·simp[hh,Mk]
   |false=>
    simp only[mm,XU,if_false,Builtin.min2,Sem.run_bind,Sem.run_pure,Result.andThen_ok]
    rw[<-hv]
    congr 2
    by_cases hh:b<a
    ·simp[hh,Mk]
    ·simp[hh,Mk]
  ·trivial
theorem xc(hs:WU P σ H w)(hρ:Qj P σ tm ρ){o:Oper}{mx:Bool}{xs:List Operand}{ts:List TypeId}(ho:o.op=.call ⟨.builtin (if mx then .max else .min),⟨xs⟩,⟨ts⟩⟩):XZ P σ H w tm ρ o:=by
 refine Tm ho λcs=>?_
 have key: ∀r,(∀v,(match xs.map ρ with|[]=>.halt (.stuck "")|x::rest=>rest.foldlM (mm mx) x:Sem Value).run P w=.ok v w->r=.ok (.value v) w)->XD P σ H w r (TS mx (xs.map (Xs P)) tm H):=by
  intro r hrr
  unfold TS
  have hr:=JW hρ xs
  split
  ·rename_i k a l he
   rw[he] at hr
   obtain⟨v,vs,h1,h2,h3⟩:=hr.cons_inv
   have h1:=Wg h1
   subst h1
   exact yt hs l vs a h2 λv hv=>hrr v (by rw[h3];exact hv)
  ·trivial
 cases mx with
 |true=>
  refine key _ λv hv=>Vl (s:=Builtin.max_ ⟨ts⟩ o.type ⟨xs.map ρ⟩) ?_
  simp only[Builtin.max_]
  cases hl:xs.map ρ with
  |nil=>rw[hl] at hv;cases hv
  |cons x l=>rw[hl] at hv;exact hv
 |false=>
  refine key _ λv hv=>Vl (s:=Builtin.min_ ⟨ts⟩ o.type ⟨xs.map ρ⟩) ?_
  simp only[Builtin.min_]
  cases hl:xs.map ρ with
  |nil=>rw[hl] at hv;cases hv
  |cons x l=>rw[hl] at hv;exact hv
theorem I3{g:Nat}{cs:Array Value}{t:TypeId}{fr:Nat×Nat}(h:w.heap[g]? =some (.cells cs t fr)): ∀(ns:List Int) (o:Nat) (acc:ByteArray),
  (∀(j:Nat) (v:Value),(ns.map (Value.int .u8))[j]? =some v->cs[o+j]? =some v)->(loadBytes ⟨g,o,none⟩ acc ns.length).run P w=.ok (ns.foldl (λr n=>r.push (UInt8.ofNat n.toNat)) acc) w
 |[],o,acc,_=>rfl
 |n::ns,o,acc,hv=>by
  have h0:=hv 0 (.int .u8 n) rfl
  simp only[Zl,loadBytes,Sem.run_bind,run_load,Gx h,Zd] at h0 ⊢
  rw[h0]
  simp only[Result.andThen_ok,QJ]
  exact I3 h ns (o+1) _ λj v hj=>by
   have:=hv (j+1) v (by simpa using hj)
   rw[<-this];congr 1;omega
theorem wM{w:World}{g o n:Nat}{cs:Array Value}{t:TypeId}{fr:Nat×Nat}(h:w.heap[g]? =some (.cells cs t fr))(hn:n≠0):
  zO w (w.freeze ⟨g,o,none⟩ n) g (.cells cs t (if fr.1=fr.2 then(o,o+n) else(min fr.1 o,max fr.2 (o+n)))):=by
 obtain⟨a,b⟩:=fr
 refine⟨by simp[World.freeze,hn],?_,λk hk=>?_,by simp[World.freeze,hn],by simp[World.freeze,hn],by simp[World.freeze,hn]⟩
 ·simp only[World.freeze,hn,if_false,WS]
  rw[h];simp
 ·simp only[World.freeze,hn,if_false,WS]
  rw[if_neg (λe=>hk e.symm)]
theorem xq(k:IntKind)(n:Int):(asInt (.int k n)).run P w=.ok n w:=rfl
theorem fo(pt ty:TypeId)(rest:List TypeId)(k:IntKind)(p:Option Addr):(Builtin.unsafeString_ ⟨pt::rest⟩ ty #[.pointer p,.int k 0]).run P w=.ok (.string .empty) w:=by
 show((asInt (.int k 0))>>=_:Sem Value).run P w=_
 rw[Sem.run_bind,xq]
 cases p<;>rfl
theorem fj{pt ty e:TypeId}(rest:List TypeId){k:IntKind}{n:Nat}{a:Addr}{s:ByteArray}(hu:P.underlying pt=some (.pointer e))(h0:n≠0)(hn:n<=140737488355328)
  (hv:(variablesAt a e n).run P w=.ok true w)(hl:(loadBytes a .empty n).run P w=.ok s w):
  (Builtin.unsafeString_ ⟨pt::rest⟩ ty #[.pointer (some a),.int k (n:Int)]).run P w=.ok (.string s) (w.freeze a n):=by
 show((asInt (.int k (n:Int)))>>=_:Sem Value).run P w=_
 have p1: ¬((n:Int)<0):=by omega
 have p2: ¬((n:Int)>IntKind.i64.max):=by
  have:IntKind.i64.max=9223372036854775807:=by decide
  omega
 have p3: ¬((n:Int)=0):=by omega
 rw[Sem.run_bind,xq]
 simp only[Result.andThen_ok,Wq,Up,p1,if_false,p2,p3,Sem.run_bind,elemOf,run_underlying hu,Sem.run_pure,Vx,hv,if_true,hl,run_freeze]
theorem Zef(hs:WU P σ H w)(hρ:Qj P σ tm ρ){o:Oper}{xs:List Operand}{ts:List TypeId}(ho:o.op=.call ⟨.builtin .unsafeString,⟨xs⟩,⟨ts⟩⟩):XZ P σ H w tm ρ o:=by
 refine Tm ho λcs=>?_
 rcases xs with _|⟨x,_|⟨y,_|⟨_,_⟩⟩⟩<;>try exact trivial
 rcases ts with _|⟨t,_|⟨t2,_|⟨_,_⟩⟩⟩<;>try exact trivial
 refine XN λd hu=>jB λe hd=>We λi hi=>W8 (λhsz=>?_) λ_=>SO
 subst hd
 rw[Y1] at hsz
 have hsz:i.size=1:=Zp hsz
 refine Rl λk n hn=>?_
 have g1:=hρ x
 have g2:=hρ y
 rw[hn] at g2
 have g2:=Wg g2
 refine UC (λh0=>?_) λh0=>YU λhmax=>PM λb off hx=>T9 λr hr=>YU λhel=>YU λOx=>YU λhle=>?_
 ·rw[Y1] at h0
  have h0:n=0:=Zp h0
  subst h0
  have fin: ∀p,ρ x=.pointer p->XD P σ H w ((builtin .unsafeString ⟨[t,t2]⟩ o.type cs ⟨[ρ x,ρ y]⟩).run P w) (.val (.str []) H):=by
   intro p e1
   refine YJ hs (x:=.string .empty) ?_ (by simp only[YY];rfl)
   refine Vl (s:=Builtin.unsafeString_ ⟨[t,t2]⟩ o.type #[ρ x,ρ y]) ?_
   rw[e1,g2]
   exact fo _ _ _ _ _
  split
  ·rename_i hx
   rw[hx] at g1
   exact fin none (by simpa only[YY] using g1)
  ·rename_i b off hx
   rw[hx] at g1
   obtain⟨l,_,e1⟩:=UN g1
   exact fin _ e1
  ·trivial
 ·rw[hx] at g1
  obtain⟨l,hl,e1⟩:=UN g1
  obtain⟨cs',fr,hc,hrr⟩:=hs.row hr hl
  have yR:r.sm=false∧H.may r b=true:=by
   cases hsm:r.sm with
   |true=>rw[hsm] at Ox;cases Ox
   |false=>rw[hsm] at Ox;exact⟨rfl,Ox⟩
  obtain⟨hwr,hown⟩:=Wr.of_may yR.2 hr
  rw[Y1] at h0 hel
  rw[XH] at hmax hle
  have h0:n≠0:=of_decide_eq_false h0
  have hel:r.elem=e:=Zp hel
  have hmax:n<=140737488355328:=Zp hmax
  have hle:off+n<=r.size:=Zp hle
  have q1:=hrr.fits
  have q2:=hrr.room
  obtain⟨vs,h2,h3,h4,h5⟩:=OD hrr n off hle
  refine Kn _ vs h2 λns hns=>?_
  subst hns
  have hnl:ns.length=n:=by simpa using h3
  have hcell:P.cellsOf e=1:=by simp[Program.cellsOf,hi,hsz]
  have hw:=wM (o:=l.base+off) (n:=n) hc h0
  refine VT (Tr.write hs hr hl hwr hw.size hw.new hw.old ⟨_,_,rfl,?_⟩ hw.tape hw.os hw.out) (x:=.string ⟨(ns.map uo).toArray⟩) ?_ (by simp[YY])
  ·have hfz:(cond (Nat.ble r.fz (Nat.add off n)) (Nat.add off n) r.fz)=max r.fz (off+n):=by
    rw[XH]
    show cond _ (off+n) r.fz=_
    by_cases hh:r.fz<=off+n
    ·rw[show decide (r.fz<=Nat.add off n)=true from Zj hh];simp only[cond_true];omega
    ·rw[show decide (r.fz<=Nat.add off n)=false from Ze hh];simp only[cond_false];omega
   rw[hfz]
   refine⟨hrr.sz,hrr.sz1,hrr.fits,hrr.room,hrr.exact,hrr.cell,hrr.one,?_,?_⟩
   ·intro _ j hj hj2
    have hj:max r.fz (off+n)<=j:=hj
    have:=hrr.frs hown yR.1
    split
    ·simp only;omega
    ·simp only;omega
   ·intro _ _
    have:=hrr.frs hown yR.1
    right
    split
    ·simp only;omega
    ·simp only;omega
  ·refine Vl (s:=Builtin.unsafeString_ ⟨[t,t2]⟩ o.type #[ρ x,ρ y]) ?_
   rw[e1,g2]
   have hsh:=FD hc
   have hlies:liesAt P P.depth r.elem (cs'.size/P.cellsOf r.elem) (l.base+off) e n=true:=by
    rw[hel]
    refine mS (by omega) (by rw[hcell];omega) ?_
    rw[hcell,Nat.div_one,Nat.div_one];omega
   have hld:=I3 (P:=P) hc ns (l.base+off) .empty h4
   rw[hnl,Ej] at hld
   exact fj _ hu h0 hmax (by simp only[variablesAt,Sem.run_bind,run_program,Result.andThen_ok,run_shape,hsh,hlies,Sem.run_pure]) (by simpa using hld)
def Gk(P:Program)(σ:Mp)(D:Nat)(t:Nat)(f:AV->AV->Option Bool):Prop:=
 ∀(a b:AV) (x y:Value) (r:Bool) (w:World),YY σ a x->YY σ b y->f a b=some r->(Op.equalIn D t x y).run P w=.ok r w
theorem dg{t D:Nat}(hu:P.underlying t=some .bool):Gk P σ (D+1) t fw:=by
 intro a b x y r w ha hb h
 unfold fw at h
 split at h
 ·cases h
  rw[Si ha,Si hb,run_equalIn_bool w D t _ _ hu]
  rename_i p q
  cases p<;>cases q<;>rfl
 ·cases h
theorem Zgv{t D:Nat}{k':IntKind}(hu:P.underlying t=some (.int k')):Gk P σ (D+1) t UB:=by
 intro a b x y r w ha hb h
 unfold UB at h
 split at h
 ·rename_i j p k q
  cases hk:Oz j k with
  |false=>rw[hk] at h;cases h
  |true=>
   rw[hk] at h
   have:=RV hk;subst this
   cases h
   rw[Wg ha,Wg hb,run_equalIn_int w D t _ _ _ _ hu,Oy]
 ·cases h
theorem Zgw{t D:Nat}(hu:P.underlying t=some .string):Gk P σ (D+1) t Js:=by
 intro a b x y r w ha hb h
 unfold Js at h
 split at h
 ·cases h
  rw[Ud ha,Ud hb,run_equalIn_string w D t _ _ hu,Qi,IE,IE]
 ·cases h
theorem LV{v:Value}(h:YY σ .nilp v):v=.pointer none:=by simpa [YY] using h
theorem P0{v:Value}(h:YY σ .nils v):v=.slice none 0 0:=by simpa [YY] using h
theorem Nb{v:Value}(h:YY σ .nilm v):v=.map none:=by simpa [YY] using h
theorem LU{v:Value}(h:YY σ .nilf v):v=.nilFunc:=by simpa [YY] using h
theorem PZ{v:Value}(h:YY σ .nili v):v=.nilIface:=by simpa [YY] using h
theorem Iy{b:Nat}{v:Value}(h:YY σ (.map b) v): ∃l,σ b=some l∧v=.map (some l.blk):=by simpa only[YY] using h
theorem Mr{f:Nat}{a b:List AV}{v:Value}(h:YY σ (.func f a b) v): ∃x y,Xk σ a x∧Xk σ b y∧v=.func (.func f) ⟨x⟩ ⟨y⟩:=by simpa only[YY] using h
theorem T3{t:Nat}{a:AV}{v:Value}(h:YY σ (.iface t a) v): ∃x,YY σ a x∧v=.iface t x:=by simpa only[YY] using h
theorem KB{cs:List AV}{v:Value}(h:YY σ (.agg cs) v): ∃vs,Xk σ cs vs∧(∀x∈vs,x.oneCell'=true)∧v=.agg ⟨vs⟩:=by simpa only[YY] using h
theorem dp{t D e:Nat}{i:TypeInfo}(hu:P.underlying t=some (.pointer e))(hi:P.info? e=some i)(h0:i.size≠0):Gk P σ (D+1) t qN:=by
 intro a b x y r w ha hb h
 unfold qN at h
 split at h
 ·cases h;rw[LV ha,LV hb];simp[Op.equalIn,run_underlying hu]
 ·cases h;obtain⟨l,_,e1⟩:=UN hb;rw[LV ha,e1];simp[Op.equalIn,run_underlying hu]
 ·cases h;obtain⟨l,_,e1⟩:=UN ha;rw[LV hb,e1];simp[Op.equalIn,run_underlying hu]
 ·rename_i b o c p
  rw[Y1,Y1] at h
  by_cases hbc:b=c
  ·subst hbc
   rw[Zj rfl] at h
   cases h
   obtain⟨l,hl,e1⟩:=UN ha
   obtain⟨l2,hl2,e2⟩:=UN hb
   rw[hl] at hl2;cases hl2
   rw[e1,e2]
   simp only[Op.equalIn,Sem.run_bind,run_underlying hu,Result.andThen_ok,WT hi,sameAddr]
   rw[if_pos h0]
   simp only[beq_self_eq_true,if_true,Sem.run_pure,Result.ok.injEq,and_true]
   by_cases hop:o=p
   ·subst hop;simp
   ·rw[Ze hop]
    rw[beq_eq_false_iff_ne]
    intro he
    have:=congrArg Addr.off he
    simp only at this
    omega
  ·rw[Ze hbc] at h;cases h
 ·cases h
theorem di{t D e:Nat}(hu:P.underlying t=some (.slice e)):Gk P σ (D+1) t jn:=by
 intro a b x y r w ha hb h
 unfold jn at h
 split at h
 ·cases h;rw[P0 ha,P0 hb];simp[Op.equalIn,run_underlying hu]
 ·cases h;obtain⟨l,_,e1⟩:=UH hb;rw[P0 ha,e1];simp[Op.equalIn,run_underlying hu]
 ·cases h;obtain⟨l,_,e1⟩:=UH ha;rw[P0 hb,e1];simp[Op.equalIn,run_underlying hu]
 ·cases h;obtain⟨l,e1⟩:=(by simpa only[YY] using hb: ∃a,y=.slice (some a) 0 0);rw[P0 ha,e1];simp[Op.equalIn,run_underlying hu]
 ·cases h;obtain⟨l,e1⟩:=(by simpa only[YY] using ha: ∃a,x=.slice (some a) 0 0);rw[P0 hb,e1];simp[Op.equalIn,run_underlying hu]
 ·cases h
theorem dj{t D k e:Nat}(hu:P.underlying t=some (.map k e)):Gk P σ (D+1) t eqM:=by
 intro a b x y r w ha hb h
 unfold eqM at h
 split at h
 ·cases h;rw[Nb ha,Nb hb];simp[Op.equalIn,run_underlying hu]
 ·cases h;obtain⟨l,_,e1⟩:=Iy hb;rw[Nb ha,e1];simp[Op.equalIn,run_underlying hu]
 ·cases h;obtain⟨l,_,e1⟩:=Iy ha;rw[Nb hb,e1];simp[Op.equalIn,run_underlying hu]
 ·cases h
theorem dm{t D:Nat}{p q:Array TypeId}{v:Bool}(hu:P.underlying t=some (.func p q v)):Gk P σ (D+1) t eqN:=by
 intro a b x y r w ha hb h
 unfold eqN at h
 split at h
 ·cases h;rw[LU ha,LU hb];simp[Op.equalIn,run_underlying hu]
 ·cases h;obtain⟨_,_,_,_,e1⟩:=Mr hb;rw[LU ha,e1];simp[Op.equalIn,run_underlying hu]
 ·cases h;obtain⟨_,_,_,_,e1⟩:=Mr ha;rw[LU hb,e1];simp[Op.equalIn,run_underlying hu]
 ·cases h
theorem dh{t D:Nat}{ms:Array (String×TypeId)}{lit:Bool}{g:Nat->AV->AV->Option Bool}(hu:P.underlying t=some (.interface ms))(hg: ∀t,Gk P σ D t (g t)):Gk P σ (D+1) t (fx lit (eqC P g)):=by
 intro a b x y r w ha hb h
 unfold fx at h
 split at h
 ·cases lit
  ·cases h
  ·cases h;rw[PZ ha,PZ hb];simp[Op.equalIn,run_underlying hu]
 ·cases h;obtain⟨_,_,e1⟩:=T3 hb;rw[PZ ha,e1];simp[Op.equalIn,run_underlying hu]
 ·cases h;obtain⟨_,_,e1⟩:=T3 ha;rw[PZ hb,e1];simp[Op.equalIn,run_underlying hu]
 ·rename_i t1 v1 t2 v2
  obtain⟨x1,h1,e1⟩:=T3 ha
  obtain⟨y1,h2,e2⟩:=T3 hb
  rw[e1,e2]
  rw[Y1] at h
  by_cases ht:t1=t2
  ·subst ht
   rw[Zj rfl] at h
   have h:eqC P g t1 v1 v2=some r:=h
   unfold eqC at h
   split at h
   ·rename_i i hi
    cases hc:i.comparable with
    |false=>rw[hc] at h;cases h
    |true=>
     rw[hc] at h
     have hti:(typeInfo t1).run P w=.ok i w:=by simp[typeInfo,hi]
     simp only[Op.equalIn,Sem.run_bind,run_underlying hu,Result.andThen_ok,ne_eq,not_true_eq_false,if_false,hti,hc,ZU,XU]
     exact hg t1 v1 v2 x1 y1 r w h1 h2 h
   ·cases h
  ·rw[Ze ht] at h
   cases h
   simp[Op.equalIn,run_underlying hu,ht]
 ·cases h
theorem Zcb{t:Nat}{ag:Bool}(h:Zf1 P t=some ag): ∃d,P.underlying t=some d∧Lj P t=ag:=by
 unfold Zf1 at h
 unfold Lj
 split at h<;>rename_i e<;>cases h
 ·rw[e];exact⟨_,rfl,rfl⟩
 ·rw[e];exact⟨_,rfl,rfl⟩
 ·rename_i d h1 h2
  rw[e]
  refine⟨d,rfl,?_⟩
  cases d<;>first|rfl|exact absurd rfl (h1 _)|exact absurd rfl (h2 _ _)
theorem Fp{t:Nat}{cs:List AV}{vs:List Value}{off:Nat}{k:AV->Option Bool}{r:Bool}(hr:Xk σ cs vs)(hone: ∀x∈vs,x.oneCell'=true)(h:xd P t cs off k=some r):
  ∃a x,YY σ a x∧k a=some r∧ ∀w:World,(part t ⟨vs⟩ off).run P w=.ok x w:=by
 unfold xd at h
 split at h
 ·rename_i i ag hi hag
  obtain⟨d,hu,hia⟩:=Zcb hag
  cases ag with
  |true=>
   have h:k (.agg (Ng i.size (Og off cs)))=some r:=h
   rw[Ka,Lx] at h
   refine⟨_,.agg ⟨(vs.drop off).take i.size⟩,?_,h,λw=>?_⟩
   ·simp only[YY]
    exact⟨_,(hr.drop _).take _,λy hy=>hone y (TE (Uz hy)),rfl⟩
   ·simp only[part,Sem.run_bind,OH (w:=w) hu,hia,Result.andThen_ok,if_true,WT hi,Sem.run_pure]
    congr 2
    apply Array.ext'
    simp[Vh]
  |false=>
   have h:(match Fa cs off with|some v=>k v|none=>none)=some r:=h
   rw[Ir] at h
   split at h
   ·rename_i v hv
    obtain⟨x,hx,hrel⟩:=hr.get hv
    refine⟨v,x,hrel,h,λw=>?_⟩
    simp only[part,Sem.run_bind,OH (w:=w) hu,hia,Result.andThen_ok,XU,if_false]
    simp[hx]
   ·cases h
 ·cases h
theorem Dd{e c D:Nat}{f:AV->AV->Option Bool}(hf:Gk P σ D e f){l m:List AV}{xs ys:List Value}(hl:Xk σ l xs)(hm:Xk σ m ys)(hlo: ∀x∈xs,x.oneCell'=true)(hmo: ∀x∈ys,x.oneCell'=true):
  ∀(is:List Nat) (r:Bool) (w:World),GG P f e c l m is=some r->(Op.eqItems D e c ⟨xs⟩ ⟨ys⟩ is).run P w=.ok r w
 |[],r,w,h=>by cases h;rfl
 |i::is,r,w,h=>by
  unfold GG at h
  obtain⟨a,x,h1,h2,h3⟩:=Fp hl hlo h
  obtain⟨b,y,g1,g2,g3⟩:=Fp hm hmo h2
  unfold Zce at g2
  split at g2
  ·rename_i t ht
   have he:=hf a b x y t w h1 g1 ht
   simp only[Op.eqItems,Sem.run_bind,h3 w,g3 w,he,Result.andThen_ok]
   cases t with
   |true=>simpa using Dd hf hl hm hlo hmo is r w g2
   |false=>cases g2;simp
  ·cases g2
theorem Kk{D:Nat}{g:Nat->AV->AV->Option Bool}(hf: ∀t,Gk P σ D t (g t)){l m:List AV}{xs ys:List Value}(hl:Xk σ l xs)(hm:Xk σ m ys)(hlo: ∀x∈xs,x.oneCell'=true)(hmo: ∀x∈ys,x.oneCell'=true):
  ∀(fs:List Field) (r:Bool) (w:World),NT P g l m fs=some r->(Op.eqFields D ⟨xs⟩ ⟨ys⟩ fs).run P w=.ok r w
 |[],r,w,h=>by cases h;rfl
 |f::fs,r,w,h=>by
  unfold NT at h
  unfold Op.eqFields
  cases hn:f.name== "_" with
  |true=>
   rw[hn] at h
   rw[if_neg (by simpa using hn)]
   exact Kk hf hl hm hlo hmo fs r w h
  |false=>
   rw[hn] at h
   simp only[cond_false] at h
   rw[if_pos (by simpa using hn)]
   obtain⟨a,x,h1,h2,h3⟩:=Fp hl hlo h
   obtain⟨b,y,g1,g2,g3⟩:=Fp hm hmo h2
   unfold Zce at g2
   split at g2
   ·rename_i t ht
    have he:=hf f.type a b x y t w h1 g1 ht
    simp only[Sem.run_bind,h3 w,g3 w,he,Result.andThen_ok]
    cases t with
    |true=>simpa using Kk hf hl hm hlo hmo fs r w g2
    |false=>cases g2;simp
   ·cases g2
theorem Zgr{t D:Nat}{lit:Bool}{g:Nat->AV->AV->Option Bool}{d:TypeDesc}(hu:P.underlying t=some d)(hg: ∀t,Gk P σ D t (g t)):Gk P σ (D+1) t (λa b=>eqD P lit g t a b d):=by
 intro a b x y r w ha hb h
 cases d<;>simp only[eqD] at h<;>first
  |cases h;done
  |exact dg hu a b x y r w ha hb h
  |exact Zgv hu a b x y r w ha hb h
  |exact Zgw hu a b x y r w ha hb h
  |exact di hu a b x y r w ha hb h
  |exact dj hu a b x y r w ha hb h
  |exact dm hu a b x y r w ha hb h
  |exact dh hu hg a b x y r w ha hb h
  |skip
 case pointer e=>
  split at h
  ·rename_i i hi
   rw[Y1] at h
   by_cases h0:i.size=0
   ·rw[Zj h0] at h;cases h
   ·rw[Ze h0] at h
    exact dp hu hi h0 a b x y r w ha hb h
  ·cases h
 case array n e=>
  unfold qp at h
  split at h
  ·split at h
   ·rename_i i hi
    obtain⟨xs,h1,h2,e1⟩:=KB ha
    obtain⟨ys,g1,g2,e2⟩:=KB hb
    have:=Dd (hg e) h1 g1 h2 g2 (List.range n) r w h
    rw[e1,e2,run_equalIn_array w D ⟨xs⟩ ⟨ys⟩ hu hi]
    rw[show P.cellsOf e=i.size by simp[Program.cellsOf,hi]]
    exact this
   ·cases h
  ·cases h
 case struct fs=>
  cases hst:P.stoodInHeld t with
  |true=>rw[hst] at h;cases h
  |false=>
   rw[hst] at h
   have h:qp a b (λl m=>NT P g l m fs.toList)=some r:=h
   unfold qp at h
   split at h
   ·obtain⟨xs,h1,h2,e1⟩:=KB ha
    obtain⟨ys,g1,g2,e2⟩:=KB hb
    have:=Kk hg h1 g1 h2 g2 fs.toList r w h
    have hfs:P.fieldsOf t=fs:=by simp[Program.fieldsOf,hu]
    rw[e1,e2,run_equalIn_struct w D t ⟨xs⟩ ⟨ys⟩ (by rw[hfs];exact hu) hst,hfs]
    exact this
   ·cases h
theorem qO: ∀(d D t:Nat),d<=D->Gk P σ D t (dq P d t)
 |0,D,t,_=>by intro a b x y r w ha hb h;cases h
 |d+1,D,t,hD=>by
  obtain⟨D',rfl⟩: ∃D',D=D'+1:=⟨D - 1,by omega⟩
  intro a b x y r w ha hb h
  unfold dq at h
  split at h
  ·rename_i u hu
   exact Zgr (lit:=true) hu (λt=>qO d D' t (by omega)) a b x y r w ha hb h
  ·cases h
def IP(P:Program)(σ:Mp)(t:Nat)(X Y:Operand)(f:AV->AV->Option Bool):Prop:=
 ∀(a b:AV) (x y:Value) (r:Bool) (w:World),YY σ a x->YY σ b y->f a b=some r->
  (∀op,(eqGuard op t X Y x y).run P w=.ok () w)∧(binOp .eql t x y).run P w=.ok (.bool r) w∧(binOp .neq t x y).run P w=.ok (.bool (!r)) w
def pF(v:Value):Bool:=match v with|.int .. |.float .. |.complex .. |.string _=>false|_=>true
theorem Zco{t:TypeId}{x y:Value}(h:pF x=true):binOp .eql t x y=(do pure (.bool (<-Op.equal t x y))):=by
 cases x<;>first|(cases h;done)|(unfold binOp;rfl)
theorem Zcp{t:TypeId}{x y:Value}(h:pF x=true):binOp .neq t x y=(do pure (.bool (!(<-Op.equal t x y)))):=by
 cases x<;>first|(cases h;done)|(unfold binOp;rfl)
theorem Mz{t:TypeId}{X Y:Operand}{x y:Value}{r:Bool}(h:pF x=true)(hg: ∀op,(eqGuard op t X Y x y).run P w=.ok () w)(he:(Op.equalIn 10000 t x y).run P w=.ok r w):
  (∀op,(eqGuard op t X Y x y).run P w=.ok () w)∧(binOp .eql t x y).run P w=.ok (.bool r) w∧(binOp .neq t x y).run P w=.ok (.bool (!r)) w:=by
 have he:(Op.equal t x y).run P w=.ok r w:=he
 refine⟨hg,?_,?_⟩
 ·rw[Zco h];simp[he]
 ·rw[Zcp h];simp[he]
theorem UQ{t:TypeId}{X Y:Operand}{x y:Value}(h1: ∀v,x≠.agg v)(h2:x≠.nilIface∨y≠.nilIface)(op:BinOp):(eqGuard op t X Y x y).run P w=.ok () w:=by
 cases op<;>simp only[eqGuard]<;>first
  |rfl
  |(cases x<;>first
    |rfl
    |exact absurd rfl (h1 _)
    |(cases y<;>first
      |rfl
      |(rcases h2 with h2|h2<;>exact absurd rfl h2)))
theorem Zpm{t:TypeId}{X Y:Operand}(hu:P.underlying t=some .bool):IP P σ t X Y fw:=by
 intro a b x y r w ha hb h
 have he:=dg (D:=9999) hu a b x y r w ha hb h
 unfold fw at h
 split at h
 ·have ha:=Si ha;subst ha
  exact Mz rfl (UQ (λ_ h=>by cases h) (.inl λh=>by cases h)) he
 ·cases h
theorem Zps{t e:TypeId}{X Y:Operand}{i:TypeInfo}(hu:P.underlying t=some (.pointer e))(hi:P.info? e=some i)(h0:i.size≠0):IP P σ t X Y qN:=by
 intro a b x y r w ha hb h
 have he:=dp (D:=9999) hu hi h0 a b x y r w ha hb h
 have: ∃p,x=.pointer p:=by
  unfold qN at h
  split at h
  ·exact⟨_,LV ha⟩
  ·exact⟨_,LV ha⟩
  ·obtain⟨_,_,e1⟩:=UN ha;exact⟨_,e1⟩
  ·obtain⟨_,_,e1⟩:=UN ha;exact⟨_,e1⟩
  ·cases h
 obtain⟨p,rfl⟩:=this
 exact Mz rfl (UQ (λ_ h=>by cases h) (.inl λh=>by cases h)) he
theorem Zpp{t e:TypeId}{X Y:Operand}(hu:P.underlying t=some (.slice e)):IP P σ t X Y jn:=by
 intro a b x y r w ha hb h
 have he:=di (D:=9999) hu a b x y r w ha hb h
 have: ∃p n c,x=.slice p n c:=by
  unfold jn at h
  split at h
  ·exact⟨_,_,_,P0 ha⟩
  ·exact⟨_,_,_,P0 ha⟩
  ·obtain⟨_,_,e1⟩:=UH ha;exact⟨_,_,_,e1⟩
  ·exact⟨_,_,_,P0 ha⟩
  ·obtain⟨_,e1⟩:=(by simpa only[YY] using ha: ∃a,x=.slice (some a) 0 0);exact⟨_,_,_,e1⟩
  ·cases h
 obtain⟨p,n,c,rfl⟩:=this
 exact Mz rfl (UQ (λ_ h=>by cases h) (.inl λh=>by cases h)) he
theorem Zpq{t k e:TypeId}{X Y:Operand}(hu:P.underlying t=some (.map k e)):IP P σ t X Y eqM:=by
 intro a b x y r w ha hb h
 have he:=dj (D:=9999) hu a b x y r w ha hb h
 have: ∃p,x=.map p:=by
  unfold eqM at h
  split at h
  ·exact⟨_,Nb ha⟩
  ·exact⟨_,Nb ha⟩
  ·obtain⟨_,_,e1⟩:=Iy ha;exact⟨_,e1⟩
  ·cases h
 obtain⟨p,rfl⟩:=this
 exact Mz rfl (UQ (λ_ h=>by cases h) (.inl λh=>by cases h)) he
theorem Zpr{t:TypeId}{p q:Array TypeId}{v:Bool}{X Y:Operand}(hu:P.underlying t=some (.func p q v)):IP P σ t X Y eqN:=by
 intro a b x y r w ha hb h
 have he:=dm (D:=9999) hu a b x y r w ha hb h
 have:x=.nilFunc∨ ∃f m n,x=.func f m n:=by
  unfold eqN at h
  split at h
  ·exact .inl (LU ha)
  ·exact .inl (LU ha)
  ·obtain⟨_,_,_,_,e1⟩:=Mr ha;exact .inr ⟨_,_,_,e1⟩
  ·cases h
 rcases this with rfl|⟨f,m,n,rfl⟩
 ·exact Mz rfl (UQ (λ_ h=>by cases h) (.inl λh=>by cases h)) he
 ·exact Mz rfl (UQ (λ_ h=>by cases h) (.inl λh=>by cases h)) he
theorem jF{t:TypeId}{X Y:Operand}(h:(KW X||KW Y)=true)(op:BinOp):(eqGuard op t X Y .nilIface .nilIface).run P w=.ok () w:=by
 have hc:((X matches .const _)||(Y matches .const _))=true:=by
  cases X<;>cases Y<;>first|rfl|cases h
 cases op<;>simp only[eqGuard]<;>first
  |rfl
  |(cases X<;>cases Y<;>first|rfl|cases h)
theorem Zpn{t:TypeId}{ms:Array (String×TypeId)}{X Y:Operand}(hu:P.underlying t=some (.interface ms)):IP P σ t X Y (fx (KW X||KW Y) (eqC P (dq P 9))):=by
 intro a b x y r w ha hb h
 have he:=dh (D:=9999) hu (λt=>qO 9 9999 t (by omega)) a b x y r w ha hb h
 unfold fx at h
 split at h
 ·cases hl:(KW X||KW Y) with
  |false=>rw[hl] at h;cases h
  |true=>
   have ha:=PZ ha;subst ha
   have hb:=PZ hb;subst hb
   exact Mz rfl (jF hl) he
 ·have ha:=PZ ha;subst ha
  obtain⟨_,_,rfl⟩:=T3 hb
  exact Mz rfl (UQ (λ_ h=>by cases h) (.inr λh=>by cases h)) he
 ·obtain⟨_,_,rfl⟩:=T3 ha
  exact Mz rfl (UQ (λ_ h=>by cases h) (.inl λh=>by cases h)) he
 ·obtain⟨_,_,rfl⟩:=T3 ha
  exact Mz rfl (UQ (λ_ h=>by cases h) (.inl λh=>by cases h)) he
 ·cases h
theorem ZlG{t:TypeId}{X Y:Operand}(hag:(∃n e,P.underlying t=some (.array n e))∨ ∃fs,P.underlying t=some (.struct fs))(hg:P.eqGuardType P.depth t=false):IP P σ t X Y (dq P 10 t):=by
 intro a b x y r w ha hb h
 have he:=qO 10 10000 t (by omega) a b x y r w ha hb h
 have hab:(∃l,a=.agg l)∧ ∃m,b=.agg m:=by
  unfold dq at h
  have agg: ∀{k:List AV->List AV->Option Bool},qp a b k=some r->(∃l,a=.agg l)∧ ∃m,b=.agg m:=by
   intro k h
   unfold qp at h
   split at h
   ·exact⟨⟨_,rfl⟩,⟨_,rfl⟩⟩
   ·cases h
  rcases hag with⟨n,e,hu⟩|⟨fs,hu⟩
  ·rw[hu] at h
   exact agg h
  ·rw[hu] at h
   simp only[eqD] at h
   cases hst:P.stoodInHeld t with
   |true=>rw[hst] at h;cases h
   |false=>rw[hst] at h;exact agg h
 obtain⟨⟨l,rfl⟩,⟨m,rfl⟩⟩:=hab
 obtain⟨xs,_,_,rfl⟩:=KB ha
 obtain⟨ys,_,_,rfl⟩:=KB hb
 exact Mz rfl (λop=>run_eqGuard_agg w op t X Y _ _ hg) he
theorem Zpo{t:TypeId}{X Y:Operand}:IP P σ t X Y UB:=by
 intro a b x y r w ha hb h
 unfold UB at h
 split at h
 ·rename_i j p k q
  cases hk:Oz j k with
  |false=>rw[hk] at h;cases h
  |true=>
   rw[hk] at h
   have:=RV hk;subst this
   have h:some (FW p q)=some r:=h
   cases h
   have ha:=Wg ha;subst ha
   have hb:=Wg hb;subst hb
   rw[Oy]
   exact⟨UQ (λ_ h=>by cases h) (.inl λh=>by cases h),by simp[binOp,Op.intCmp],by simp[binOp,Op.intCmp,bne]⟩
 ·cases h
theorem Zpt{t:TypeId}{X Y:Operand}:IP P σ t X Y Js:=by
 intro a b x y r w ha hb h
 unfold Js at h
 split at h
 ·rename_i p q
  cases h
  have ha:=Ud ha;subst ha
  have hb:=Ud hb;subst hb
  refine⟨UQ (λ_ h=>by cases h) (.inl λh=>by cases h),?_,?_⟩
  ·simp[binOp,Op.stringOp,Qi]
  ·simp[binOp,Op.stringOp,bne,Qi]
 ·cases h
theorem Lk(hs:WU P σ H w)(hρ:Qj P σ tm ρ){o:Oper}{neg:Bool}{t u:TypeId}{x y:Operand}{f:AV->AV->Option Bool}(ho:o.op=.binOp (if neg then .neq else .eql) t x y u)(hf:IP P σ t x y f):
  XD P σ H w ((execOp ρ o).run P w) (UG (Xs P x) (Xs P y) f neg tm H):=by
 refine Pm λr hr=>?_
 obtain⟨h1,h2,h3⟩:=hf _ _ _ _ r w (hρ x) (hρ y) hr
 refine HE hs ?_
 simp only[execOp,ho]
 refine Vl ?_
 rw[Sem.run_bind,h1]
 cases neg
 ·exact h2
 ·simp only[Result.andThen_ok]
  refine h3.trans ?_
  cases r<;>rfl
theorem aP(hs:WU P σ H w)(hρ:Qj P σ tm ρ){o:Oper}{neg:Bool}{t u:TypeId}{x y:Operand}(ho:o.op=.binOp (if neg then .neq else .eql) t x y u):
  XD P σ H w ((execOp ρ o).run P w) (Ub P t (eqK P t (KW x||KW y) neg (Xs P x) (Xs P y)) tm H):=by
 refine XN λd hu=>?_
 cases d<;>try exact trivial
 case bool=>exact Lk hs hρ ho (Zpm hu)
 case int k=>exact Lk hs hρ ho Zpo
 case string=>exact Lk hs hρ ho Zpt
 case pointer e=>
  show XD P σ H w _ ((match P.info? e with|some i=>cond (Nat.beq i.size 0) Ua (UG (Xs P x) (Xs P y) qN neg)|none=>Ua) tm H)
  cases hi:P.info? e with
  |none=>exact trivial
  |some i=>
   refine W8 (λ_=>SO) λh0=>?_
   rw[Y1] at h0
   exact Lk hs hρ ho (Zps hu hi (of_decide_eq_false h0))
 case slice e=>exact Lk hs hρ ho (Zpp hu)
 case map k e=>exact Lk hs hρ ho (Zpq hu)
 case func p q v=>exact Lk hs hρ ho (Zpr hu)
 case interface ms=>exact Lk hs hρ ho (Zpn hu)
 case array n e=>exact W8 (λ_=>SO) λh0=>Lk hs hρ ho (ZlG (.inl ⟨n,e,hu⟩) h0)
 case struct fs=>exact W8 (λ_=>SO) λh0=>Lk hs hρ ho (ZlG (.inr ⟨fs,hu⟩) h0)
theorem ZhE(hs:WU P σ H w)(hρ:Qj P σ tm ρ){o:Oper}{t u:TypeId}{x y:Operand}(ho:o.op=.binOp .eql t x y u):XZ P σ H w tm ρ o:=by
 unfold XZ
 have:=aP (neg:=false) hs hρ ho
 rw[ho]
 exact this
theorem ZhL(hs:WU P σ H w)(hρ:Qj P σ tm ρ){o:Oper}{t u:TypeId}{x y:Operand}(ho:o.op=.binOp .neq t x y u):XZ P σ H w tm ρ o:=by
 unfold XZ
 have:=aP (neg:=true) hs hρ ho
 rw[ho]
 exact this
theorem Y5.length: ∀{es:List RF} {l:List MapEntry},Y5 σ es l->es.length=l.length
 |[],l,h=>by simp only[Y5] at h;subst h;rfl
 |a::es,l,h=>by simp only[Y5] at h;obtain⟨e,es',_,h2,rfl⟩:=h;simp[h2.length]
theorem MT:Y5 σ [] []:=by simp[Y5]
theorem NE{a:RF}{as:List RF}{e:MapEntry}{es:List MapEntry}(h:M9 σ a e)(h':Y5 σ as es):Y5 σ (a::as) (e::es):=by
 simp only[Y5];exact⟨e,es,h,h',rfl⟩
theorem Y5.cons_inv{a:RF}{as:List RF}{l:List MapEntry}(h:Y5 σ (a::as) l): ∃e es,M9 σ a e∧Y5 σ as es∧l=e::es:=by simpa [Y5] using h
structure E2(P:Program)(σ:Mp)(kt:TypeId)(kd:TypeDesc)(eq:AV->AV->Option Bool):Prop where
 und:P.underlying kt=some kd
 check: ∀(b:Bool) (x:Value) (w:World),(Instr.checkKey b 10000 kt x).run P w=.ok () w
 now: ∀(a b:AV) (x y:Value) (r:Bool),YY σ a x->YY σ b y->eq a b=some r->Instr.sameNow kd x y=some r
 bits: ∀(a b:AV) (x y:Value),YY σ a x->YY σ b y->eq a b=some true->Instr.sameBits 10000 y x=true
 apart: ∀(k a b:AV) (t:Bool),Jk a b=true->eq k a=some t-> ∃u,eq k b=some u∧(t=true->u=false)
theorem Jq{kt:TypeId}{kd:TypeDesc}(hu:P.underlying kt=some kd)(hk:(match kd with|.string|.int _|.bool=>true|_=>false)=true)(b:Bool)(x:Value)(w:World):(Instr.checkKey b 10000 kt x).run P w=.ok () w:=by
 cases kd<;>first|(cases hk;done)|skip
 all_goals
  unfold Instr.checkKey
  simp[run_underlying hu]
theorem ZoL{kt:TypeId}(hu:P.underlying kt=some .string):E2 P σ kt .string Js:=by
 refine⟨hu,λb x w=>Jq hu rfl b x w,?_,?_,?_⟩
 ·intro a b x y r ha hb h
  unfold Js at h
  split at h
  ·cases h
   rw[Ud ha,Ud hb,Qi]
   show some (ByteArray.mk _==ByteArray.mk _)=_
   rw[beq_toListBytes,IE,IE]
  ·cases h
 ·intro a b x y ha hb h
  unfold Js at h
  split at h
  ·rename_i p q
   rw[Qi] at h
   have h:p=q:=by simpa using h
   subst h
   rw[Ud ha,Ud hb]
   show(ByteArray.mk _==ByteArray.mk _)=true
   rw[beq_toListBytes]
   simp
  ·cases h
 ·intro k a b t hab h
  unfold Jk at hab
  split at hab
  ·rename_i p q
   cases k<;>try (cases h;done)
   rename_i s
   refine⟨J6 s q,rfl,λht=>?_⟩
   subst ht
   have h:some (J6 s p)=some true:=h
   rw[Qi] at h hab ⊢
   have h:s=p:=by simpa using h
   subst h
   simpa using hab
  ·cases k<;>cases h
  ·cases hab
theorem ZoK{kt:TypeId}{k:IntKind}(hu:P.underlying kt=some (.int k)):E2 P σ kt (.int k) UB:=by
 refine⟨hu,λb x w=>Jq hu rfl b x w,?_,?_,?_⟩
 ·intro a b x y r ha hb h
  unfold UB at h
  split at h
  ·rename_i j p k q
   cases hk:Oz j k with
   |false=>rw[hk] at h;cases h
   |true=>
    rw[hk] at h
    have:=RV hk;subst this
    cases h
    rw[Wg ha,Wg hb,Oy]
    simp[Instr.sameNow]
  ·cases h
 ·intro a b x y ha hb h
  unfold UB at h
  split at h
  ·rename_i j p k q
   cases hk:Oz j k with
   |false=>rw[hk] at h;cases h
   |true=>
    rw[hk] at h
    have:=RV hk;subst this
    have h:some (FW p q)=some true:=h
    rw[Oy] at h
    have h:p=q:=by simpa using h
    subst h
    rw[Wg ha,Wg hb]
    simp[Instr.sameBits]
  ·cases h
 ·intro k a b t hab h
  unfold Jk at hab
  split at hab
  ·cases k<;>cases h
  ·rename_i j1 p j2 q
   cases k<;>try (cases h;done)
   rename_i j3 s
   obtain⟨h1,h2⟩:=Q4.1 hab
   have:=RV h1;subst this
   unfold UB at h ⊢
   cases hk:Oz j3 j1 with
   |false=>simp[hk] at h
   |true=>
    simp only[hk,cond_true,Option.some.injEq] at h ⊢
    refine⟨_,rfl,λht=>?_⟩
    subst ht
    rw[Oy] at h h2 ⊢
    have h:s=p:=by simpa using h
    subst h
    simpa using h2
  ·cases hab
theorem ZoJ{kt:TypeId}(hu:P.underlying kt=some .bool):E2 P σ kt .bool fw:=by
 refine⟨hu,λb x w=>Jq hu rfl b x w,?_,?_,?_⟩
 ·intro a b x y r ha hb h
  unfold fw at h
  split at h
  ·rename_i p q
   cases h
   rw[Si ha,Si hb]
   cases p<;>cases q<;>rfl
  ·cases h
 ·intro a b x y ha hb h
  unfold fw at h
  split at h
  ·rename_i p q
   rw[Si ha,Si hb]
   cases p<;>cases q<;>first|rfl|cases h
  ·cases h
 ·intro k a b t hab h
  unfold Jk at hab
  split at hab
  ·cases k<;>cases h
  ·cases k<;>cases h
  ·cases hab
theorem yq{r:Result Next}{kt:TypeId}{f:(AV->AV->Option Bool)->VA}(h: ∀kd eq,E2 P σ kt kd eq->XD P σ H w r (f eq tm H)):XD P σ H w r (Ub P kt (bR f) tm H):=by
 refine XN λd hu=>?_
 cases d<;>try exact trivial
 case string=>exact h _ _ (ZoL hu)
 case int k=>exact h _ _ (ZoK hu)
 case bool=>exact h _ _ (ZoJ hu)
theorem Em{r:Result Next}{kt:TypeId}{kd:TypeDesc}{eq:AV->AV->Option Bool}(hk:E2 P σ kt kd eq){k:AV}{kv:Value}(hkr:YY σ k kv){no:OR}{yes:AV->OR}: ∀(es:List RF) (l:List MapEntry) (i:Nat),Y5 σ es l->
  (Instr.findNow kd kv l i=some none->XD P σ H w r no)->(∀j a v,YY σ a v->Instr.findNow kd kv l i=some (some (j,v))->XD P σ H w r (yes a))->XD P σ H w r (Un eq k no yes es)
 |[],l,i,h,h1,h2=>by
  simp only[Y5] at h;subst h
  exact h1 rfl
 |e::es,l,i,h,h1,h2=>by
  obtain⟨m,ms,g1,g2,rfl⟩:=h.cons_inv
  unfold Un
  cases he:eq k e.key with
  |none=>exact trivial
  |some t=>
   have hn:=hk.now _ _ _ _ t hkr g1.1 he
   cases t with
   |true=>exact h2 i e.val m.val g1.2.1 (by simp only[Instr.findNow,hn])
   |false=>
    refine Em hk hkr es ms (i+1) g2 (λq=>h1 ?_) (λj a v ha q=>h2 j a v ha ?_)
    ·simp only[Instr.findNow,hn];exact q
    ·simp only[Instr.findNow,hn];exact q
theorem I0{eq:AV->AV->Option Bool}{k:AV}{no:OR}{yes:AV->OR}: ∀{es fs:List RF},es.map SZ=fs.map SZ->Un eq k no yes es=Un eq k no yes fs
 |[],[],_=>rfl
 |[],_::_,h=>by cases h
 |_::_,[],h=>by cases h
 |e::es,f::fs,h=>by
  simp only[Zz,List.cons.injEq] at h
  obtain⟨h1,h2⟩:=h
  simp only[SZ,Prod.mk.injEq] at h1
  unfold Un
  rw[h1.1,h1.2,I0 h2]
noncomputable def yi(eq:AV->AV->Option Bool)(k:AV)(no:OR)(yes:AV->OR)(l:List (AV×AV)):OR:=Un eq k no yes (l.map λp=>⟨p.1,p.2,0⟩)
theorem yj{eq:AV->AV->Option Bool}{k:AV}{no:OR}{yes:AV->OR}(es:List RF):yi eq k no yes (es.map SZ)=Un eq k no yes es:=by
 unfold yi
 refine I0 ?_
 rw[S0,S0]
 rfl
theorem Ou{eq:AV->AV->Option Bool}{k:AV}{no:OR}{yes:AV->OR}(p:AV×AV)(l:List (AV×AV)){t:Bool}(h:eq k p.1=some t):yi eq k no yes (p::l)=cond t (yes p.2) (yi eq k no yes l):=by
 show Un eq k no yes (⟨p.1,p.2,0⟩::l.map λp=>⟨p.1,p.2,0⟩)=_
 unfold Un
 rw[show eq k (⟨p.1,p.2,0⟩:RF).key=some t from h]
 rfl
theorem qS{eq:AV->AV->Option Bool}{k:AV}{no:OR}{yes:AV->OR}{l m:List (AV×AV)}(hp:l.Perm m)(ha: ∀p∈l,∃t,eq k p.1=some t)(hu:l.Pairwise λp q=>eq k p.1=some true->eq k q.1=some true->False):
  yi eq k no yes l=yi eq k no yes m:=by
 induction hp with
 |nil=>rfl
 |cons p _ ih=>
  obtain⟨t,ht⟩:=ha p (ZF ..)
  rw[Ou _ _ ht,Ou _ _ ht,ih (λq hq=>ha q (ZQ _ hq)) (S1.1 hu).2]
 |swap p q l=>
  obtain⟨t,ht⟩:=ha q (ZF ..)
  obtain⟨u,hu'⟩:=ha p (ZQ _ (ZF ..))
  rw[Ou _ _ ht,Ou _ _ hu',Ou _ _ hu',Ou _ _ ht]
  cases t<;>cases u<;>try rfl
  exact((S1.1 hu).1 p (ZF ..) ht hu').elim
 |trans h1 _ ih1 ih2=>
  rw[ih1 ha hu]
  exact ih2 (λq hq=>ha q (h1.mem_iff.2 hq)) ((h1.pairwise_iff (λh a b=>h b a)).1 hu)
theorem vk{kt:TypeId}{kd:TypeDesc}{eq:AV->AV->Option Bool}(hk:E2 P σ kt kd eq){k:AV}{no:OR}{yes:AV->OR}{es fs:List RF}(hp:(fs.map SZ).Perm (es.map SZ))(ha:es.Pairwise wm):
  Un eq k no yes es=.fail∨Un eq k no yes es=Un eq k no yes fs:=by
 cases es with
 |nil=>
  rw[ZH] at hp
  have:=List.Perm.eq_nil hp
  cases fs with
  |nil=>exact .inr rfl
  |cons f fs=>cases this
 |cons e es=>
  cases he:eq k e.key with
  |none=>
   left
   unfold Un
   rw[he]
  |some t=>
   right
   have hall: ∀f∈e::es,∃u,eq k f.key=some u:=by
    intro f hf
    rcases Yi.1 hf with rfl|hf
    ·exact⟨t,he⟩
    ·obtain⟨u,hu,_⟩:=hk.apart k e.key f.key t ((S1.1 ha).1 f hf).1 he
     exact⟨u,hu⟩
   rw[<-yj (e::es),<-yj fs]
   refine(qS hp.symm (λp hp=>?_) ?_)
   ·obtain⟨f,hf,rfl⟩:=Xu.1 hp
    exact hall f hf
   ·rw[List.pairwise_map]
    refine ha.imp λ{a b} hab h1 h2=>?_
    obtain⟨u,h3,h4⟩:=hk.apart k a.key b.key true hab.1 h1
    have h2:eq k b.key=some true:=h2
    rw[h3,h4 rfl] at h2
    cases h2
theorem Qd{kt:TypeId}{kd:TypeDesc}(hu:P.underlying kt=some kd){kv:Value}{l:List MapEntry}{r:Option (Nat×Value)}(h:Instr.findNow kd kv l 0=some r):(Instr.findKey kt kv l).run P w=.ok r w:=by
 simp only[Instr.findKey,Sem.run_bind,run_underlying hu,Result.andThen_ok,h,Sem.run_pure]
theorem iK(hs:WU P σ H w)(hρ:Qj P σ tm ρ){o:Oper}{t:TypeId}{m k:Operand}{ok:Bool}(ho:o.op=.lookup t m k ok):XZ P σ H w tm ρ o:=by
 unfold XZ;rw[ho]
 refine XN λd hu=>?_
 cases d<;>try exact trivial
 case map kt e=>
  refine yq λkd eq hk=>We λi hi=>UM λz hz=>?_
  have g:=hρ m
  have B5: ∀{a:AV} {v:Value} {b:Bool},YY σ a v->(execOp ρ o).run P w=.ok (.value (if ok then .tuple #[v,.bool b] else v)) w->XD P σ H w ((execOp ρ o).run P w) (IU ok H a b):=by
   intro a v b ha hr
   unfold IU
   cases ok with
   |true=>
    refine YJ hs hr ?_
    simp only[YY]
    exact⟨[v,.bool b],Wz ha (TO (by simp[YY])),rfl⟩
   |false=>exact YJ hs hr ha
  have ta: ∀{v:Value},(Instr.lookup t (ρ m) (ρ k) ok).run P w=.ok v w->(execOp ρ o).run P w=.ok (.value v) w:=λh=>by
   simp only[execOp,ho];exact Vl h
  refine GL (λhx=>?_) λb hx=>Mc λob FV=>?_
  ·rw[hx] at g
   refine B5 (Oq σ z) (ta ?_)
   rw[Nb g]
   have hf:=Qd (w:=w) (kv:=ρ k) (l:=(#[]:Array MapEntry).toList) hk.und (r:=none) rfl
   simp only[Instr.lookup,Sem.run_bind,run_underlying hu,Result.andThen_ok,Sem.run_pure,hk.check,hf,SS hi hz]
  ·rw[hx] at g
   obtain⟨l,hl,e1⟩:=Iy g
   cases ob<;>try exact trivial
   case map es clock=>
    obtain⟨c,hc,ho'⟩:=hs.alive b _ l FV hl
    obtain⟨ents,rfl,hr,_⟩:=ho'
    refine Em hk (hρ k) es ents.toList 0 hr (λq=>?_) λj a v ha q=>?_
    ·refine B5 (Oq σ z) (ta ?_)
     rw[e1]
     have hf:=Qd (w:=w) hk.und q
     simp only[Instr.lookup,Sem.run_bind,run_underlying hu,Result.andThen_ok,P2 hc,Sem.run_pure,hk.check,hf,SS hi hz]
    ·refine B5 ha (ta ?_)
     rw[e1]
     have hf:=Qd (w:=w) hk.und q
     simp only[Instr.lookup,Sem.run_bind,run_underlying hu,Result.andThen_ok,P2 hc,Sem.run_pure,hk.check,hf]
   case cmap es=>
    obtain⟨c,hc,ho'⟩:=hs.alive b _ l FV hl
    obtain⟨ents,clock,fs,rfl,hr,hp,ha⟩:=ho'
    show XD P σ H w _ (Un _ _ _ _ es)
    rcases vk hk hp ha with hx2|hx2
    ·rw[hx2];exact trivial
    rw[hx2]
    refine Em hk (hρ k) fs ents.toList 0 hr (λq=>?_) λj a v ha q=>?_
    ·refine B5 (Oq σ z) (ta ?_)
     rw[e1]
     have hf:=Qd (w:=w) hk.und q
     simp only[Instr.lookup,Sem.run_bind,run_underlying hu,Result.andThen_ok,P2 hc,Sem.run_pure,hk.check,hf,SS hi hz]
    ·refine B5 ha (ta ?_)
     rw[e1]
     have hf:=Qd (w:=w) hk.und q
     simp only[Instr.lookup,Sem.run_bind,run_underlying hu,Result.andThen_ok,P2 hc,Sem.run_pure,hk.check,hf]
theorem pO(hs:WU P σ H w){o:Oper}{t:TypeId}{r:Option Operand}(ho:o.op=.makeMap t r):XZ P σ H w tm ρ o:=by
 unfold XZ;rw[ho]
 cases r with
 |some r=>exact trivial
 |none=>
  refine VT (Tr.alloc hs (.map [] 0) (.map #[] 0) ⟨w.heap.size,0,0,1⟩ rfl ⟨#[],rfl,MT,by simp[FZ]⟩) (x:=.map (some w.heap.size)) ?_ ?_
  ·simp only[execOp,ho]
   refine Vl ?_
   simp[Instr.makeMap]
  ·simp only[YY];exact⟨_,Mp.put_same _ _ _,rfl⟩
theorem uK{r:Result Next}{kt:TypeId}{kd:TypeDesc}{eq:AV->AV->Option Bool}(hk:E2 P σ kt kd eq){k v:AV}{kv vv:Value}(hkr:YY σ k kv)(hvr:YY σ v vv){clock:Nat}: ∀(es:List RF) (l:List MapEntry) (i:Nat) (done:List RF->Nat->OR),Y5 σ es l->
  (Instr.findNow kd kv l i=some none->(∀e∈es,True)->XD P σ H w r (done (es++[⟨k,v,clock⟩]) (clock+1)))->
  (∀j a m u,es[j]? =some a->l[j]? =some m->M9 σ a m->Instr.sameBits 10000 m.key kv=true->Instr.findNow kd kv l i=some (some (i+j,u))->XD P σ H w r (done (es.set j ⟨k,v,a.born⟩) clock))->
  XD P σ H w r (vl eq k v clock done es)
 |[],l,i,done,h,h1,h2=>by
  simp only[Y5] at h;subst h
  exact h1 rfl (by simp)
 |e::es,l,i,done,h,h1,h2=>by
  obtain⟨m,ms,g1,g2,rfl⟩:=h.cons_inv
  unfold vl
  cases he:eq k e.key with
  |none=>exact trivial
  |some t=>
   have hn:=hk.now _ _ _ _ t hkr g1.1 he
   cases t with
   |true=>
    have hb:=hk.bits _ _ _ _ hkr g1.1 he
    exact h2 0 e m m.val rfl rfl g1 hb (by simp only[Instr.findNow,hn,Zd])
   |false=>
    refine uK hk hkr hvr es ms (i+1) (λl' c=>done (e::l') c) g2 (λq _=>h1 ?_ (by simp)) (λj a m' u q1 q2 q3 q4 q5=>h2 (j+1) a m' u (by simpa using q1) (by simpa using q2) q3 q4 ?_)
    ·simp only[Instr.findNow,hn];exact q
    ·simp only[Instr.findNow,hn];rw[q5,show i+1+j=i+(j+1) by omega]
theorem Y5.append: ∀{es es2:List RF} {l l2:List MapEntry},Y5 σ es l->Y5 σ es2 l2->Y5 σ (es++es2) (l++l2)
 |[],es2,l,l2,h,h'=>by simp only[Y5] at h;subst h;exact h'
 |a::es,es2,l,l2,h,h'=>by
  obtain⟨m,ms,g1,g2,rfl⟩:=h.cons_inv
  exact NE g1 (g2.append h')
theorem Y5.set{a:RF}{m:MapEntry}(hm:M9 σ a m): ∀{es:List RF} {l:List MapEntry} (j:Nat),Y5 σ es l->Y5 σ (es.set j a) (l.set j m)
 |[],l,j,h=>by simp only[Y5] at h;subst h;simpa using MT
 |e::es,l,0,h=>by
  obtain⟨m',ms,g1,g2,rfl⟩:=h.cons_inv
  exact NE hm g2
 |e::es,l,j+1,h=>by
  obtain⟨m',ms,g1,g2,rfl⟩:=h.cons_inv
  exact NE g1 (g2.set hm j)
theorem og{es:List RF}{c j:Nat}{a:RF}{k v:AV}(h:FZ es c)(ha:es[j]? =some a):FZ (es.set j ⟨k,v,a.born⟩) c:=by
 have key:(es.set j ⟨k,v,a.born⟩).map (·.born)=es.map (·.born):=by
  apply WM
  intro i
  simp only[YO,Ql]
  by_cases hij:j=i
  ·subst hij
   have hlt:j<es.length:=by
    rcases Nat.lt_or_ge j es.length with h|h
    ·exact h
    ·rw[Xh h] at ha;cases ha
   rw[if_pos rfl,if_pos hlt,ha]
   rfl
  ·simp[hij]
 obtain⟨h1,h2⟩:=h
 constructor
 ·have:((es.set j ⟨k,v,a.born⟩).map (·.born)).Pairwise (· < ·):=by rw[key];exact List.pairwise_map.2 h1
  exact List.pairwise_map.1 this
 ·intro e he
  have:e.born∈(es.set j ⟨k,v,a.born⟩).map (·.born):=T6 he
  rw[key] at this
  obtain⟨e',he',h3⟩:=Xu.1 this
  rw[<-h3];exact h2 e' he'
theorem sQ{es:List RF}{c:Nat}{k v:AV}(h:FZ es c):FZ (es++[⟨k,v,c⟩]) (c+1):=by
 obtain⟨h1,h2⟩:=h
 constructor
 ·rw[List.pairwise_append]
  refine⟨h1,by simp,λa ha b hb=>?_⟩
  rw[ZG] at hb;subst hb
  exact h2 a ha
 ·intro e he
  rcases ZA.1 he with he|he
  ·have:=h2 e he;omega
  ·rw[ZG] at he;subst he;exact YK c
theorem FC{g:Nat}{es:Array MapEntry}{c:Nat}(ob:Go.Obj)(h:w.heap[g]? =some (.map es c)): ∃w',(setObj g ob).run P w=.ok () w'∧zO w w' g ob:=by
 refine⟨{w with heap:=w.heap.setIfInBounds g ob},by simp[setObj,Sem.run,h],⟨by simp,?_,λk hk=>?_,rfl,rfl,rfl⟩⟩
 ·have:g<w.heap.size:=(Yg.1 h).1
  simp[Xt,this]
 ·simp only[Xt]
  rw[if_neg (λe=>hk e.symm)]
theorem uJ(hs:WU P σ H w)(hρ:Qj P σ tm ρ){o:Oper}{t kt e:TypeId}{m k x:Operand}{kd:TypeDesc}{eq:AV->AV->Option Bool}(hu:P.underlying t=some (.map kt e))(hk:E2 P σ kt kd eq)
  (hex: ∀w',(Instr.mapUpdate t (ρ m) (ρ k) (ρ x)).run P w=.ok () w'->(execOp ρ o).run P w=.ok .skip w'):
  XD P σ H w ((execOp ρ o).run P w) (CI eq (Xs P m) (Xs P k) (Xs P x) tm H):=by
 have g:=hρ m
 refine GL (λ_=>trivial) λb hx=>Mc λob FV=>?_
 rw[hx] at g
 obtain⟨l,hl,e1⟩:=Iy g
 cases ob<;>try exact trivial
 case map es clock=>
  refine YU λhro=>?_
  have hwr:Wr H b:=⟨Yh hro,_,FV,(λr h=>by cases h),λh=>by cases h⟩
  obtain⟨c,hc,ho'⟩:=hs.alive b _ l FV hl
  obtain⟨ents,rfl,hr,hris⟩:=ho'
  refine uK hk (hρ k) (hρ x) es ents.toList 0 _ hr (λq _=>?_) λj a mm u q1 q2 q3 q4 q5=>?_
  ·obtain⟨w',hrun,hw⟩:=FC (P:=P) (.map (ents.push {key:=ρ k,val:=ρ x,born:=clock}) (clock+1)) hc
   refine⟨σ,w',undef,.inr ⟨hex w' ?_,rfl⟩,by simp[XE,undef,YY,Xk],Tr.write hs FV hl hwr hw.size hw.new hw.old ⟨_,rfl,?_,sQ hris⟩ hw.tape hw.os hw.out⟩
   ·rw[e1]
    have hf:=Qd (w:=w) hk.und q
    simp only[Instr.mapUpdate,Sem.run_bind,run_underlying hu,Result.andThen_ok,P2 hc,hk.check,hf,hrun]
   ·rw[Array.toList_push]
    exact hr.append (NE ⟨hρ k,hρ x,rfl⟩ MT)
  ·obtain⟨w',hrun,hw⟩:=FC (P:=P) (.map (ents.modify j λe=>{e with key:=ρ k,val:=ρ x}) clock) hc
   refine⟨σ,w',undef,.inr ⟨hex w' ?_,rfl⟩,by simp[XE,undef,YY,Xk],Tr.write hs FV hl hwr hw.size hw.new hw.old ⟨_,rfl,?_,og hris q1⟩ hw.tape hw.os hw.out⟩
   ·rw[e1]
    have hf:=Qd (w:=w) hk.und q5
    rw[Zb] at hf
    have hej:ents[j]? =some mm:=by rw[<-YM];exact q2
    simp only[Instr.mapUpdate,Sem.run_bind,run_underlying hu,Result.andThen_ok,P2 hc,hk.check,hf,hej,XG,SJ,Instr.keyThatStays,q4,if_true,Sem.run_pure,hrun]
   ·have e2:(ents.modify j λe=>{e with key:=ρ k,val:=ρ x}).toList=ents.toList.set j {mm with key:=ρ k,val:=ρ x}:=by
     apply WM
     intro i
     rw[YM,WS,Ql]
     by_cases hij:j=i
     ·subst hij
      have hlt:j<ents.toList.length:=by
       rcases Nat.lt_or_ge j ents.toList.length with h|h
       ·exact h
       ·rw[Xh h] at q2;cases q2
      have hej:ents[j]? =some mm:=by rw[<-YM];exact q2
      rw[if_pos rfl,if_pos rfl,if_pos hlt,hej];rfl
     ·rw[if_neg hij,if_neg hij,YM]
    rw[e2]
    exact Y5.set (a:=⟨Xs P k tm,Xs P x tm,a.born⟩) (m:={mm with key:=ρ k,val:=ρ x}) ⟨hρ k,hρ x,q3.2.2⟩ j hr
theorem Fm(hs:WU P σ H w)(hρ:Qj P σ tm ρ){o:Oper}{t:TypeId}{m k x:Operand}(ho:o.op=.mapUpdate t m k x∨o.op=.insert t m k x):XZ P σ H w tm ρ o:=by
 have hex: ∀w',(Instr.mapUpdate t (ρ m) (ρ k) (ρ x)).run P w=.ok () w'->(execOp ρ o).run P w=.ok .skip w':=by
  intro w' h
  rcases ho with ho|ho<;>simp[execOp,ho,h]
 have key:XD P σ H w ((execOp ρ o).run P w) (Ub P t (λd=>match d with|.map kt _=>Ub P kt<|bR λeq=>CI eq (Xs P m) (Xs P k) (Xs P x)|_=>Ua) tm H):=by
  refine XN λd hu=>?_
  cases d<;>try exact trivial
  case map kt e=>exact yq λkd eq hk=>uJ hs hρ hu hk hex
 unfold XZ
 rcases ho with ho|ho
 ·rw[ho];exact key
 ·rw[ho];exact key
theorem aT(hs:WU P σ H w)(hρ:Qj P σ tm ρ){o:Oper}{t:TypeId}{x:Operand}(ho:o.op=.range t x):XZ P σ H w tm ρ o:=by
 unfold XZ;rw[ho]
 refine XN λd hu=>?_
 have g:=hρ x
 have hex: ∀{v:Value} {w':World},(Instr.range t (ρ x)).run P w=.ok v w'->(execOp ρ o).run P w=.ok (.value v) w':=λh=>by
  simp only[execOp,ho];exact Vl h
 cases d<;>try exact trivial
 case string=>
  refine O0 λs hx=>?_
  rw[hx] at g
  refine VT (Tr.alloc hs (.siter s 0) (.stringIter ⟨s.toArray⟩ 0) ⟨w.heap.size,0,0,1⟩ rfl ⟨rfl,rfl⟩) (hex ?_) (Iz rfl)
  rw[Ud g]
  simp[Instr.range,run_underlying hu]
 case map kt e=>
  refine GL (λhx=>?_) λb hx=>Mc λob FV=>?_
  ·rw[hx] at g
   refine VT (Tr.alloc hs (.miter none 0 none) (.mapIter none 0 #[] 0) ⟨w.heap.size,0,0,1⟩ rfl ⟨#[],0,rfl,(λ_ h=>by cases h),rfl,rfl,rfl⟩) (hex ?_) (Iz rfl)
   rw[Nb g]
   simp[Instr.range,run_underlying hu]
  ·rw[hx] at g
   obtain⟨l,hl,e1⟩:=Iy g
   cases ob<;>try exact trivial
   case map es clock=>
    obtain⟨c,hc,ho'⟩:=hs.alive b _ l FV hl
    obtain⟨ents,rfl,hr,_⟩:=ho'
    have hlt:=hs.dom b l hl
    have hput:(σ.put H.nx ⟨w.heap.size,0,0,1⟩) b=some l:=by rw[Mp.put_old (by omega)];exact hl
    refine VT (Tr.alloc hs (.miter (some b) clock none) (.mapIter (some l.blk) clock #[] clock) ⟨w.heap.size,0,0,1⟩ rfl ⟨#[],clock,?_,?_,rfl,rfl,rfl⟩) (hex ?_) (Iz rfl)
    ·simp[hput]
    ·intro b' hb';cases hb';rw[hput];rfl
    ·rw[e1]
     simp[Instr.range,run_underlying hu,P2 hc]
theorem sV{b:Nat}{s:ByteArray}{c:Nat}(h:w.heap[b]? =some (.stringIter s c)):(getObj b).run P w=.ok (.stringIter s c) w:=by simp[getObj,Sem.run,h]
theorem AL{b:Nat}{m:Option Nat}{a:Nat}{s:Array Nat}{c:Nat}(h:w.heap[b]? =some (.mapIter m a s c)):(getObj b).run P w=.ok (.mapIter m a s c) w:=by simp[getObj,Sem.run,h]
theorem zD{g:Nat}{s:ByteArray}{c:Nat}(ob:Go.Obj)(h:w.heap[g]? =some (.stringIter s c)): ∃w',(setObj g ob).run P w=.ok () w'∧zO w w' g ob:=by
 refine⟨{w with heap:=w.heap.setIfInBounds g ob},by simp[setObj,Sem.run,h],⟨by simp,?_,λk hk=>?_,rfl,rfl,rfl⟩⟩
 ·have:g<w.heap.size:=(Yg.1 h).1
  simp[Xt,this]
 ·simp only[Xt]
  rw[if_neg (λe=>hk e.symm)]
theorem Zed(hs:WU P σ H w)(hρ:Qj P σ tm ρ){o:Oper}{x:Operand}{b:Bool}(ho:o.op=.next x b):XZ P σ H w tm ρ o:=by
 unfold XZ;rw[ho]
 refine W8 (λhb=>?_) λ_=>SO
 subst hb
 have g:=hρ x
 refine PM λb off hx=>YU λh0=>YU λhro=>Mc λob FV=>?_
 rw[hx] at g
 obtain⟨l,hl,e1⟩:=UN g
 rw[Y1] at h0
 have h0:off=0:=Zp h0
 subst h0
 cases ob<;>try exact trivial
 case siter s pos=>
  have hwr:Wr H b:=⟨Yh hro,_,FV,(λr h=>by cases h),λh=>by cases h⟩
  obtain⟨c,hc,ho'⟩:=hs.alive b _ l FV hl
  obtain⟨rfl,hbase⟩:=ho'
  rw[hbase] at e1
  have hex: ∀{v:Value} {w':World},(Instr.next (ρ x) true o.type).run P w=.ok v w'->(execOp ρ o).run P w=.ok (.value v) w':=λh=>by
   simp only[execOp,ho];exact Vl h
  have hsz:(ByteArray.mk s.toArray).size=s.length:=M6 s
  refine UC (λhlt=>?_) λhlt=>?_
  ·rw[XH,Xb] at hlt
   have hlt:pos<s.length:=Zp hlt
   cases hdec:Utf8.decode ⟨s.toArray⟩ pos with
   |mk ch wd=>
   obtain⟨w',hrun,hw⟩:=zD (P:=P) (.stringIter ⟨s.toArray⟩ (pos+wd)) hc
   refine VT (Tr.write hs FV hl hwr hw.size hw.new hw.old ⟨rfl,hbase⟩ hw.tape hw.os hw.out) (x:=.tuple #[.bool true,goInt pos,.int .i32 ch]) (hex ?_) ?_
   ·rw[e1]
    simp only[Instr.next,Zb,Sem.run_bind,sV hc,Result.andThen_ok,hsz,if_pos hlt,hdec,hrun,Sem.run_pure]
   ·simp only[YY]
    exact⟨[.bool true,goInt pos,.int .i32 ch],Wz (by simp[YY]) (Wz (by simp[YY,goInt]) (TO (by simp[YY]))),rfl⟩
  ·rw[XH,Xb] at hlt
   have hlt: ¬(pos<s.length):=of_decide_eq_false hlt
   refine YJ hs (x:=.tuple #[.bool false]) (hex ?_) ?_
   ·rw[e1]
    simp only[Instr.next,Zb,Sem.run_bind,sV hc,Result.andThen_ok,hsz,if_neg hlt,Sem.run_pure]
   ·simp only[YY]
    exact⟨[.bool false],TO (by simp[YY]),rfl⟩
theorem yp{r:Result Next}{n:Nat}{k:RF->OR}: ∀(es:List RF) (l:List MapEntry),Y5 σ es l->(∀a m,M9 σ a m->l.find? (·.born==n)=some m->XD P σ H w r (k a))->XD P σ H w r (wK n k es)
 |[],l,h,g=>trivial
 |a::es,l,h,g=>by
  obtain⟨m,ms,h1,h2,rfl⟩:=h.cons_inv
  refine UC (λhe=>g a m h1 ?_) λhe=>yp es ms h2 λa' m' h3 h4=>g a' m' h3 ?_
  ·rw[Y1] at he
   have he:a.born=n:=Zp he
   rw[List.find?_cons_of_pos (by simp[<-h1.2.2,he])]
  ·rw[Y1] at he
   have he: ¬a.born=n:=of_decide_eq_false he
   rw[List.find?_cons_of_neg (by simp[<-h1.2.2,he])]
   exact h4
theorem aO(hs:WU P σ H w)(hρ:Qj P σ tm ρ){o:Oper}{x:Operand}(ho:o.op=.entry x):XZ P σ H w tm ρ o:=by
 unfold XZ;rw[ho]
 have g:=hρ x
 refine PM λb off hx=>YU λh0=>Mc λob FV=>?_
 rw[hx] at g
 obtain⟨l,hl,e1⟩:=UN g
 rw[Y1] at h0
 have h0:off=0:=Zp h0
 subst h0
 show XD P σ H w _ (wn ob _)
 unfold wn
 split
 ·rename_i m since n st
  obtain⟨c,hc,ho'⟩:=hs.alive b _ l FV hl
  obtain⟨seen,st',rfl,hm,hbase,hback,rfl⟩:=ho'
  rw[hbase] at e1
  refine Mc λom hom=>?_
  cases om<;>try exact trivial
  case map es clock=>
   refine YU λhcl=>?_
   rw[Y1] at hcl
   have hcl:clock=st':=Zp hcl
   subst hcl
   obtain⟨lm,hlm⟩:=VQ.1 (hm m rfl)
   obtain⟨cm,hcm,Zos⟩:=hs.alive m _ lm hom hlm
   obtain⟨ents,rfl,hr,_⟩:=Zos
   refine yp es ents.toList hr λa me hae hf=>?_
   refine YJ hs (x:=.tuple #[me.key,me.val]) ?_ ?_
   ·simp only[execOp,ho]
    refine Vl ?_
    rw[e1]
    have hf':ents.find? (λx=>x.born==n)=some me:=by rw[<-Array.find?_toList];exact hf
    simp only[Option.bind_some,hlm,XG] at hc
    simp only[Instr.entry,Zb,Sem.run_bind,AL hc,Result.andThen_ok,hback,P2 hcm,bne_self_eq_false,XU,if_false,hf',Sem.run_pure]
   ·simp only[YY]
    exact⟨[me.key,me.val],Wz hae.1 (TO hae.2.1),rfl⟩
 ·trivial
theorem pL(hs:WU P σ H w)(hρ:Qj P σ tm ρ){o:Oper}{x:Operand}{xt t:TypeId}{ok:Bool}(ho:o.op=.typeAssert x xt t ok):XZ P σ H w tm ρ o:=by
 unfold XZ;rw[ho]
 refine We λi hi=>UM λz hz=>XN λd hu=>?_
 have g:=hρ x
 have hex: ∀{v:Value} {w':World},(Instr.typeAssert (ρ x) xt t ok).run P w=.ok v w'->(execOp ρ o).run P w=.ok (.value v) w':=λh=>by
  simp only[execOp,ho];exact Vl h
 have mB:=SS (w:=w) hi hz
 have no:(∀(h:ok=true),(Instr.typeAssert (ρ x) xt t ok).run P w=.ok (.tuple #[z,.bool false]) w)->XD P σ H w ((execOp ρ o).run P w) (PF (Vf z) ok H none):=by
  intro h
  cases ok with
  |false=>exact trivial
  |true=>
   refine YJ hs (hex (h rfl)) ?_
   simp only[YY]
   exact⟨[z,.bool false],Wz (Oq σ z) (TO (by simp[YY])),rfl⟩
 have yes: ∀{a:AV} {v:Value},YY σ a v->(Instr.typeAssert (ρ x) xt t ok).run P w=.ok (if ok then .tuple #[v,.bool true] else v) w->XD P σ H w ((execOp ρ o).run P w) (PF (Vf z) ok H (some a)):=by
  intro a v ha h
  cases ok with
  |false=>exact YJ hs (hex h) ha
  |true=>
   refine YJ hs (hex h) ?_
   simp only[YY]
   exact⟨[v,.bool true],Wz ha (TO (by simp[YY])),rfl⟩
 by_cases hd: ∃ms,d=.interface ms
 ·obtain⟨ms,rfl⟩:=hd
  show XD P σ H w _ (tT (Xs P x) P (ZdT P t) (Vf z) ok tm H)
  have hms:ZdT P t=ms:=by unfold ZdT;rw[hu]
  rw[hms]
  refine Mb (λhx=>?_) λu v hx=>Pm λiu hiu=>?_
  ·rw[hx] at g
   have g:=PZ g
   refine no λh=>?_
   rw[g]
   simp[Instr.typeAssert,run_underlying hu,h,mB]
  ·rw[hx] at g
   obtain⟨y,hy,e1⟩:=T3 g
   have hti:(typeInfo u).run P w=.ok iu w:=by simp[typeInfo,hiu]
   cases hmm:Instr.missingMethod ms iu.methods with
   |none=>
    refine yes (v:=ρ x) (by rw[<-hx];exact hρ x) ?_
    rw[e1]
    simp[Instr.typeAssert,run_underlying hu,hti,hmm]
   |some m=>
    refine no λh=>?_
    rw[e1]
    simp[Instr.typeAssert,run_underlying hu,hti,hmm,h,mB]
 ·have hd: ∀ms,d≠.interface ms:=λms h=>hd ⟨ms,h⟩
  have key:XD P σ H w ((execOp ρ o).run P w) (CG (Xs P x) t (Vf z) ok tm H):=by
   refine Mb (λhx=>?_) λu v hx=>?_
   ·rw[hx] at g
    have g:=PZ g
    refine no λh=>?_
    rw[g]
    cases d<;>first
     |exact absurd rfl (hd _)
     |simp[Instr.typeAssert,run_underlying hu,h,mB]
   ·rw[hx] at g
    obtain⟨y,hy,e1⟩:=T3 g
    rw[Y1]
    by_cases hut:u=t
    ·rw[Zj hut]
     refine yes hy ?_
     rw[e1]
     cases d<;>first
      |exact absurd rfl (hd _)
      |simp[Instr.typeAssert,run_underlying hu,hut]
    ·rw[Ze hut]
     refine no λh=>?_
     rw[e1]
     cases d<;>first
      |exact absurd rfl (hd _)
      |simp[Instr.typeAssert,run_underlying hu,hut,h,mB]
  cases d<;>first
   |exact absurd rfl (hd _)
   |exact key
theorem xl(hρ:Qj P σ tm ρ)(l:Array Operand):Xk σ (evs tm (args P l)) (l.map ρ).toList:=by
 have:=JW hρ l.toList
 unfold args
 simpa using this
theorem HD{r:Result Next}{f:Nat}{as:List AV}{vs:List Value}(hr:Xk σ as vs)(h:r=(callFunc f ⟨vs⟩).run P w):XD P σ H w r (.oth (.call f as H)):=⟨rfl,vs,hr,h⟩
theorem wO{r:Result Next}{name:String}{u:Nat}{k:Nat->OR}
  (h: ∀g,(∀(n:Nat) (v:Value),(method (n+1) u v name).run P w=.ok (g,v) w)->XD P σ H w r (k g)):XD P σ H w r (In P name u k):=by
 refine Pm λi hi=>Pm λm hm=>YU λhp=>?_
 have hti:(typeInfo u).run P w=.ok i w:=by simp[typeInfo,hi]
 have hpl:m.path.toList=[]:=by
  have:m.path= #[]:=by simpa using hp
  rw[this]
 cases hf:m.func with
 |none=>exact trivial
 |some q=>
  obtain⟨g,ptr⟩:=q
  show XD P σ H w r (match P.underlying u with
   |some (.pointer _)=>Z3 ptr (k g)
   |some _=>cond ptr .fail (k g)
   |none=>.fail)
  cases hu:P.underlying u with
  |none=>exact trivial
  |some d=>
   have base: ∀(n:Nat) (v:Value),(method (n+1) u v name).run P w=(do pure (g,<-receiverAt u (.val v) ptr (if m.path.isEmpty then some ((name.splitOn ".").getLastD name) else none)):Sem (FuncId×Value)).run P w:=by
    intro n v
    simp only[method,Sem.run_bind,hti,Result.andThen_ok,hm,hpl,follow,Sem.run_pure,hf]
   cases d<;>first
    |(refine YU λZow=>h g λn v=>?_
      subst Zow
      rw[base]
      simp[receiverAt,run_underlying hu,Place.get]
      done)
    |(cases ptr with
      |true=>exact trivial
      |false=>
       refine h g λn v=>?_
       rw[base]
       simp[receiverAt,run_underlying hu,Place.get])
theorem AK{name:String}{u g:Nat}{v:Value}{args:Array Value}(h: ∀(n:Nat) (v:Value),(method (n+1) u v name).run P w=.ok (g,v) w):(callMethod (.iface u v) name args).run P w=(callFunc g (#[v]++args)).run P w:=by
 have:(P.types.size+Made.depth)=(P.types.size+Made.depth - 1)+1:=by
  have:0<Made.depth:=by decide
  omega
 simp only[callMethod,Sem.run_bind,run_program,Result.andThen_ok]
 rw[this,h]
 rfl
theorem Di{r:Result Next}{n:String}{u:Nat}{a:AV}{x:Value}{as:List AV}{vs:List Value}(ha:YY σ a x)(hr:Xk σ as vs)(h:r=(callMethod (.iface u x) n ⟨vs⟩).run P w):
  XD P σ H w r (In P n u λg=>.oth (.call g (a::as) H)):=by
 refine wO λg hm=>HD (vs:=x::vs) (Wz ha hr) ?_
 rw[h,AK hm]
 congr 2
 apply Array.ext'
 simp
theorem Dz(name:String)(cap:Array Value)(r:Value)(as:Array Value):invoke (.fn (.method name) cap) (#[r]++as)=callMethod r name ⟨as.toList⟩:=by
 have h1:(#[r]++as)[0]? =some r:=by rw[Array.getElem?_append_left (by simp)];rfl
 have h2:(#[r]++as).extract 1 (#[r]++as).size=⟨as.toList⟩:=by
  apply Array.ext'
  simp[Vh]
 simp only[invoke,h1,h2]
theorem Zd8(hs:WU P σ H w)(hρ:Qj P σ tm ρ){o:Oper}{c:Call}(ho:o.op=.call c)(hb: ∀b,c.callee≠.builtin b):XZ P σ H w tm ρ o:=by
 unfold XZ;rw[ho]
 have hargs:=xl hρ c.args
 have hex:(execOp ρ o).run P w=(do let d<-resolve ρ c o.type;invoke d.target d.args:Sem Next).run P w:=by simp only[execOp,ho]
 rw[hex]
 show XD P σ H w _ (ek P c tm H)
 unfold ek
 cases hc:c.callee with
 |builtin b=>exact absurd hc (hb b)
 |invoke rv name=>
  have g:=hρ rv
  refine Mb (λ_=>trivial) λu a hx=>?_
  rw[hx] at g
  obtain⟨x,hx',e1⟩:=T3 g
  refine Di hx' hargs ?_
  simp only[resolve,hc,Sem.run_bind,Sem.run_pure,Result.andThen_ok,Dz,e1]
 |value f=>
  have gen:XD P σ H w ((do let d<-resolve ρ c o.type;invoke d.target d.args:Sem Next).run P w) (Mo (Xs P f) P (args P c.args) tm H):=by
   have g:=hρ f
   unfold Mo
   split
   ·rename_i fn a b hx
    rw[hx] at g
    obtain⟨x,y,h1,h2,e1⟩:=Mr g
    refine HD (h1.append (hargs.append h2)) ?_
    simp only[resolve,hc,e1,Deferred.ofValue,Sem.run_bind,Sem.run_pure,Result.andThen_ok,invoke]
    congr 2
    apply Array.ext'
    simp
   ·rename_i n rv hx
    rw[hx] at g
    simp only[YY] at g
    obtain⟨x,h1,e1⟩:=g
    refine Mb (λ_=>trivial) λu a hrv=>?_
    rw[hrv] at h1
    obtain⟨y,hy,e2⟩:=T3 h1
    refine Di hy hargs ?_
    simp only[resolve,hc,e1,Deferred.ofValue,Sem.run_bind,Sem.run_pure,Result.andThen_ok,e2]
    exact congrArg (λs=>s.run P w) (Dz n #[] (.iface u y) (Array.map ρ c.args))
   ·rename_i b hx
    rw[hx] at g
    simp only[YY] at g
    obtain⟨l,hl,e1⟩:=g
    refine⟨rfl,l,_,hl,hargs,?_⟩
    simp only[resolve,hc,e1,Deferred.ofValue,Sem.run_bind,Sem.run_pure,Result.andThen_ok,invoke]
    congr 2
    apply Array.ext'
    simp
   ·trivial
  cases f with
  |func fn=>
   have g:=hρ (.func fn)
   have g:YY σ (.func fn [] []) (ρ (.func fn)):=g
   obtain⟨x,y,h1,h2,e1⟩:=Mr g
   have h1:=h1.nil_inv
   have h2:=h2.nil_inv
   subst h1;subst h2
   refine HD hargs ?_
   simp only[resolve,hc,e1,Deferred.ofValue,Sem.run_bind,Sem.run_pure,Result.andThen_ok,invoke]
   congr 2
   apply Array.ext'
   simp
  |tmp t=>exact gen
  |const v=>exact gen
  |global v=>exact gen
theorem BN{r:Result Next}{a:AV}{x:Value}(ha:YY σ a x)(h: ∀v,(Instr.panic x).run P w=.halt v w->r=.halt v w):XD P σ H w r (Q1 a .fail λ_ _=>.oth (.pan a H)):=by
 refine Mb (λ_=>trivial) λu b hx=>?_
 rw[hx] at ha
 obtain⟨y,hy,e1⟩:=T3 ha
 refine⟨rfl,x,by rw[hx];exact ha,h _ ?_⟩
 rw[e1]
 rfl
theorem aS(hs:WU P σ H w)(hρ:Qj P σ tm ρ){o:Oper}{x:Operand}(ho:o.op=.panic x):XZ P σ H w tm ρ o:=by
 unfold XZ;rw[ho]
 refine BN (hρ x) λv h=>?_
 simp only[execOp,ho]
 simp[h]
theorem iM(hs:WU P σ H w)(hρ:Qj P σ tm ρ){o:Oper}{xs:List Operand}{ts:List TypeId}(ho:o.op=.call ⟨.builtin .panic,⟨xs⟩,⟨ts⟩⟩):XZ P σ H w tm ρ o:=by
 refine Tm ho λcs=>?_
 rcases xs with _|⟨x,_|⟨_,_⟩⟩<;>try exact trivial
 refine BN (hρ x) λv h=>?_
 show((do pure (Next.value (<-Instr.panic (ρ x)))):Sem Next).run P w=_
 simp[h]
theorem pQ(hs:WU P σ H w)(hρ:Qj P σ tm ρ){o:Oper}{xs:List Operand}{ts:List TypeId}(ho:o.op=.call ⟨.builtin .recover,⟨xs⟩,⟨ts⟩⟩):XZ P σ H w tm ρ o:=by
 refine Tm ho λcs=>?_
 rfl
theorem aN(hs:WU P σ H w)(hρ:Qj P σ tm ρ){o:Oper}{c:Call}(ho:o.op=.defer c):XZ P σ H w tm ρ o:=by
 unfold XZ;rw[ho]
 show XD P σ H w _ ((match c.callee with|.value f=>An (Xs P f) (args P c.args)|_=>Ua) tm H)
 cases hc:c.callee with
 |builtin b=>exact trivial
 |invoke rv name=>exact trivial
 |value f=>
  intro g a b hx
  have g1:=hρ f
  rw[hx] at g1
  obtain⟨x,y,h1,h2,e1⟩:=Mr g1
  refine⟨x,_,y,h1,xl hρ c.args,h2,?_⟩
  simp only[execOp,ho,resolve,hc,e1,Deferred.ofValue,Sem.run_bind,Sem.run_pure,Result.andThen_ok]
  congr 3
  apply Array.ext'
  simp
theorem Lw(hs:WU P σ H w)(hρ:Qj P σ tm ρ)(o:Oper):XZ P σ H w tm ρ o:=by
 cases ho:o.op with
 |move x=>exact Zec hs hρ ho
 |assign x=>exact iI hs hρ ho
 |pick c a b=>exact Zee hs hρ ho
 |alloc t=>exact aL hs ho
 |box t x=>exact ZhC hs hρ ho
 |build t ps=>exact aM hs hρ ho
 |buildSlice t n ps=>exact iJ hs hρ ho
 |load t a=>exact Zea hs hρ ho
 |store t a x=>exact aV hs hρ ho
 |nilCheck x=>exact ZhM hs hρ ho
 |binOp op t x y u=>cases op with
  |add=>exact ZhB hs hρ ho
  |sub=>exact ZhR hs hρ ho
  |mul=>exact ZhK hs hρ ho
  |quo=>exact ZhN hs hρ ho
  |rem=>exact ZhO hs hρ ho
  |and=>unfold XZ;have h:=CM (f:=TT) hs hρ ho (.inl ⟨rfl,rfl⟩);rw[ho];exact h
  |or=>unfold XZ;have h:=CM (f:=tF) hs hρ ho (.inr (.inl ⟨rfl,rfl⟩));rw[ho];exact h
  |xor=>unfold XZ;have h:=CM (f:=Ia) hs hρ ho (.inr (.inr (.inl ⟨rfl,rfl⟩)));rw[ho];exact h
  |andNot=>unfold XZ;have h:=CM (f:=Gq) hs hρ ho (.inr (.inr (.inr ⟨rfl,rfl⟩)));rw[ho];exact h
  |shl=>exact ZhP hs hρ ho
  |shr=>exact ZhQ hs hρ ho
  |eql=>exact ZhE hs hρ ho
  |neq=>exact ZhL hs hρ ho
  |lss=>exact ZhJ hs hρ ho
  |gtr=>exact ZhG hs hρ ho
  |leq=>exact ZhI hs hρ ho
  |geq=>exact ZhF hs hρ ho
 |unOp op t x=>exact ZkO hs hρ ho
 |convert s d x=>exact pM hs hρ ho
 |makeInterface t x=>
  unfold XZ;rw[ho]
  refine XN λd hu=>?_
  have h:=λhd=>Zeb hs hρ ho hu hd
  cases d<;>first
   |exact trivial
   |exact h rfl
 |makeFunc fn a b=>exact iL hs hρ ho
 |makeMap t r=>exact pO hs ho
 |mapUpdate t m k x=>exact Fm hs hρ (.inl ho)
 |insert t m k x=>exact Fm hs hρ (.inr ho)
 |lookup t m k ok=>exact iK hs hρ ho
 |makeSlice t l c=>exact pP hs hρ ho
 |slice t x lo hi mx=>exact aU hs hρ ho
 |fieldAddr t x f=>exact vF hs hρ ho
 |field t x f=>exact aQ hs hρ ho
 |indexAddr t x i=>exact vG hs hρ ho
 |index t x i=>exact aR hs hρ ho
 |typeAssert x xt t ok=>exact pL hs hρ ho
 |extract x i=>exact pN hs hρ ho
 |call c=>
  by_cases hb: ∃b,c.callee=.builtin b
  ·obtain⟨b,hb⟩:=hb
   obtain⟨callee,⟨xs⟩,⟨ts⟩⟩:=c
   subst hb
   cases b with
   |append=>exact iH hs hρ ho
   |copy=>exact Zd9 hs hρ ho
   |len=>exact ZhH hs hρ ho
   |cap=>exact ZhD hs hρ ho
   |min=>exact xc (mx:=false) hs hρ ho
   |max=>exact xc (mx:=true) hs hρ ho
   |unsafeString=>exact Zef hs hρ ho
   |unsafeSliceData=>exact iN hs hρ ho
   |panic=>exact iM hs hρ ho
   |recover=>exact pQ hs hρ ho
   |_=>unfold XZ;rw[ho];exact trivial
  ·exact Zd8 hs hρ ho λb h=>hb ⟨b,h⟩
 |defer c=>exact aN hs hρ ho
 |panic x=>exact aS hs hρ ho
 |range t x=>exact aT hs hρ ho
 |next x b=>exact Zed hs hρ ho
 |entry x=>exact aO hs hρ ho
 |_=>unfold XZ;rw[ho];exact trivial
end
end
end Go.AI
