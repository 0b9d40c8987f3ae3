/- Every operation of the interpreter's does what the model's does: proved for every world that is told. -/
import Derived.Test.YthhmkldnnnajhaaGreatDoorP2
import Derived.Laws.BytesString
import Derived.Laws.Append
import Derived.Laws.StructEq
set_option maxRecDepth 1000000
set_option maxHeartbeats 0
set_option linter.unusedVariables false
set_option linter.unusedSimpArgs false
namespace Go.AI
open Go
noncomputable section
section
variable {P:Program} {σ:Mp} {H:Heap} {w:World} {tm:TM} {ρ:Operand->Value}
theorem CJ: ∀s:List UInt8,Gu s=s.map λb=>AV.int .u8 (.ofNat b.toNat)
 |[]=>rfl
 |b::s=>by simp[Gu,CJ s]
theorem FC(σ:Mp): ∀s:List UInt8,XG σ (Gu s) (s.map λb=>Value.int .u8 b.toNat)
 |[]=>U8
 |b::s=>VA (by simp[Y2]) (FC σ s)
theorem BW(s:List UInt8): ∀v∈s.map (λb=>Value.int .u8 b.toNat),v.oneCell'=true:=by
 intro v hv
 obtain⟨b,_,rfl⟩:=Wj.1 hv
 rfl
def Bq(n:Int):UInt8:=UInt8.ofNat n.toNat
theorem M2{r:Result Next}{f:List UInt8->OR}: ∀(as:List AV) (vs:List Value),XG σ as vs->(∀ns:List Int,vs=ns.map (Value.int .u8)->XY P σ H w r (f (ns.map Bq)))->XY P σ H w r (Li f as)
 |[],vs,h,g=>g [] (by rw[h.nil_inv];rfl)
 |a::as,vs,h,g=>by
  obtain⟨v,vs',h1,h2,rfl⟩:=h.cons_inv
  unfold Li
  split
  ·rename_i n
   have h1:=W3 h1
   subst h1
   exact M2 as vs' h2 λns hs=>g (.ofNat n::ns) (by rw[hs];rfl)
  ·trivial
theorem I9: ∀(ns:List Int) (s:ByteArray),ns.foldl (λr n=>r.push (UInt8.ofNat n.toNat)) s=⟨(s.data.toList++ns.map Bq).toArray⟩
 |[],s=>by
  apply ByteArray.ext
  apply Array.ext'
  simp
 |n::ns,s=>by
  rw[Q2,I9 ns]
  simp[Bq]
theorem Tr.drew(hs:VP P σ H w):Tr P σ H w σ H w.drew:=
 ⟨Ext.refl σ,⟨hs.dom,hs.low,hs.alive,hs.inj,hs.glob,hs.ro⟩,Z2 _,λ_ _ _=>rfl,λb l hw hl _=>⟨b,l,hw,hl,rfl⟩,Z2 _,rfl,λ_ _=>rfl,rfl,rfl,rfl,λ_ _ h=>⟨rfl,h⟩⟩
theorem VP.drew(hs:VP P σ H w):VP P σ H w.drew:=(Tr.drew hs).sim
theorem zw(w:World)(c:Array Value)(e n:Nat):(w.alloc (.cells c e)).freeze ⟨w.heap.size,n,none⟩ 1=w.alloc (.cells c e (n,n+1)):=by
 unfold World.freeze
 rw[if_neg (by decide)]
 have:(w.alloc (.cells c e)).heap.modify w.heap.size (λ
   |.cells c elem (lo,hi)=>.cells c elem (if lo==hi then(n,n+1) else(min lo n,max hi (n+1)))
   |o=>o)=(w.alloc (.cells c e (n,n+1))).heap:=by
  apply Array.ext_getElem?
  intro i
  rw[VH]
  by_cases h:w.heap.size=i
  ·subst h;rw[if_pos rfl,RC,RC];rfl
  ·rw[if_neg h]
   by_cases h2:i<w.heap.size
   ·rw[RE h2,RE h2]
   ·rw[Array.getElem?_eq_none (by simp;omega),Array.getElem?_eq_none (by simp;omega)]
 exact(congrArg (λhp=>({heap:=hp,tape:=w.tape,drawn:=w.drawn,os:=w.os,output:=w.output}:World)) this).trans rfl
theorem wH{w:World}{g n:Nat}{cs:Array Value}{t:TypeId}{fr:Nat×Nat}(h:w.heap[g]? =some (.cells cs t fr))(hf:fr.1=fr.2):
  EG w (w.freeze ⟨g,n,none⟩ 1) g (.cells cs t (n,n+1)):=by
 obtain⟨a,b⟩:=fr
 simp only at hf
 subst hf
 refine⟨by simp[World.freeze],?_,λk hk=>?_,rfl,rfl,rfl⟩
 ·simp only[World.freeze,Nat.one_ne_zero,if_false,VH]
  rw[h];simp
 ·simp only[World.freeze,Nat.one_ne_zero,if_false,VH]
  rw[if_neg (λe=>hk e.symm)]
theorem jR{f:TypeId->Bool}{e count off n d:Nat}(h1:1<=P.cellsOf e)(h2:off % P.cellsOf e=0)(h3:off/P.cellsOf e+n<=count)(hf:f e=true):rowAt P f (d+1) e count off n=true:=by
 unfold rowAt
 have q4: ¬(P.cellsOf e=0):=by omega
 simp only[if_neg q4,h2,beq_self_eq_true,Ur,hf,Bool.and_true,Zr h3,Bool.true_or]
theorem uB(d u:Nat):sameLayout P (d+1) u u=true:=by unfold sameLayout;simp
theorem xv{e count off n:Nat}(h1:1<=P.cellsOf e)(h2:off % P.cellsOf e=0)(h3:off/P.cellsOf e+n<=count):liesAt P P.depth e count off e n=true:=by
 have hd: ∃d,P.depth=d+1:=⟨2*(P.types.size+Made.depth)+1,rfl⟩
 obtain⟨d,hd⟩:=hd
 rw[hd]
 unfold liesAt
 rw[hd,jR (f:=λx=>sameLayout P (d+1) x e) h1 h2 h3 (uB d e)]
 rfl
theorem Jt(need old e:Nat)(w:World): ∃k,(choose (.appendCap need old e)).run P w=.ok (need+k) w.drew:=by
 refine⟨w.tape w.drawn (.appendCap need old e) % (2^63 - need),?_⟩
 simp[Question.forced,Question.cut]
theorem IL{w:World}{g:Nat}{cs:Array Value}{t:TypeId}{fr:Nat×Nat}(h:w.heap[g]? =some (.cells cs t fr)):w.shape? g=some (t,cs.size):=by
 unfold World.shape?;rw[h]
theorem ya(hs:VP P σ H w)(hρ:Ql P σ tm ρ){o:Oper}{s d:TypeId}{x:Operand}(ho:o.op=.convert s d x):WB P σ H w tm ρ o:=by
 unfold WB;rw[ho]
 refine Wk λds w7=>Wk λdd hud=>?_
 have h1:=hρ x
 have hr: ∀{v:Value} {w':World},(convert s d (ρ x)).run P w=.ok v w'->(execOp ρ o).run P w=.ok (.value v) w':=λh=>by
  simp only[execOp,ho];exact Up h
 show XY P σ H w _ (mF P s d (XO P x) ds dd tm H)
 cases ds<;>cases dd<;>try exact trivial
 case int.int k1 k=>
  refine QI λj n hx=>?_
  rw[hx] at h1
  have h1:=W3 h1
  refine Qo hs (hr ?_)
  rw[h1]
  simp[convert,run_underlying w7,run_underlying hud,Conv.intToInt]
 case int.string k1=>
  refine QI λj n hx=>?_
  rw[hx] at h1
  have h1:=W3 h1
  refine YT hs (x:=.string (Utf8.encode n)) (hr ?_) (by simp[Y2])
  rw[h1]
  simp[convert,run_underlying w7,run_underlying hud,Conv.intToString]
 case string.string=>
  refine OX λt hx=>?_
  rw[hx] at h1
  have h0:=h1
  have h1:=U9 h1
  refine YT hs (x:=ρ x) (hr ?_) h0
  rw[h1]
  simp[convert,run_underlying w7,run_underlying hud]
 case string.slice e=>
  refine Wk λde hue=>Fi λhde=>OX λt hx=>?_
  subst hde
  rw[hx] at h1
  have h1:=U9 h1
  obtain⟨k,hk⟩:=Jt (P:=P) t.length 0 e w
  have hrun:(execOp ρ o).run P w=.ok (.value (.slice (some ⟨w.heap.size,0,none⟩) t.length (t.length+k))) (w.drew.alloc (.cells ⟨t.map (λb=>Value.int .u8 b.toNat)++List.replicate k (.int .u8 0)⟩ e (t.length+k,t.length+k+1))):=by
   refine hr ?_
   rw[h1]
   simp only[convert,Sem.run_bind,run_underlying w7,run_underlying hud,run_underlying hue,Result.andThen_ok,Conv.stringToBytes,Ml,hk]
   have hc:((t.toArray.map λb=>Value.int .u8 b.toNat)++Array.replicate (t.length+k - t.length) (Value.int .u8 0))=⟨t.map (λb=>Value.int .u8 b.toNat)++List.replicate k (.int .u8 0)⟩:=by
    apply Array.ext'
    simp
   simp only[hc,newRow,Sem.run_bind,run_newObj,Result.andThen_ok,World.alloc_eq,Sem.run_pure,markStringish,run_shape]
   have hsh:(w.drew.alloc (.cells ⟨t.map (λb=>Value.int .u8 b.toNat)++List.replicate k (.int .u8 0)⟩ e)).shape? w.drew.heap.size=some (e,t.length+k):=by
    unfold World.shape?
    rw[RC]
    simp
   simp only[hsh,run_freeze,Result.andThen_ok]
   rw[zw]
   rfl
  refine UW ((Tr.drew hs).trans (Tr.alloc hs.drew (.row ⟨e,1,XX t,T.ofList (Gu t),.unk,0,true,true,false⟩) _ ⟨w.heap.size,0,t.length+k,1⟩ rfl ⟨_,_,rfl,?_⟩)) hrun ?_
  ·have hl:(Gu t).length=t.length:=by rw[CJ];simp
   have:=JL (σ:=σ.put H.nx ⟨w.heap.size,0,t.length+k,1⟩) (e:=e) (sz:=1) (tot:=t.length+k) (sm:=true) (exact:=false) (blk:=w.heap.size) (fr:=(t.length+k,t.length+k+1)) (rest:=List.replicate k (.int .u8 0)) (FC _ t)
    (λv hv=>by
     rcases Z6.1 hv with hv|hv
     ·exact BW t v hv
     ·rw[List.eq_of_mem_replicate hv];rfl) (Z2 _) (by rw[hl];omega) (by simp) (λh=>by cases h) (by simp)
   have e1:XX (Gu t)=XX t:=by rw[XK,XK,hl]
   rw[e1] at this
   exact this
  ·rw[XK];exact Rp (l:=⟨w.heap.size,0,t.length+k,1⟩) rfl
 case slice.string e=>
  refine Wk λde hue=>Fi λhde=>?_
  subst hde
  refine Ie (λhx=>?_) (Rm (λhx=>?_) λb off len cap hx=>Tp (λhn=>?_) λhn=>SB λr hr'=>Y0 λhle=>?_)
  ·rw[hx] at h1
   obtain⟨a,h1⟩: ∃a,ρ x=.slice (some a) 0 0:=by simpa only[Y2] using h1
   refine YT hs (x:=.string .empty) (hr ?_) (by simp only[Y2];rfl)
   rw[h1,run_convert_bytes_string w s d e _ _ _ w7 hue hud,run_bytesToString w _ _ _ [] (by rfl)]
   rfl
  ·rw[hx] at h1
   have h1:ρ x=.slice none 0 0:=by simpa only[Y2] using h1
   refine YT hs (x:=.string .empty) (hr ?_) (by simp only[Y2];rfl)
   rw[h1,run_convert_bytes_string w s d e none 0 0 w7 hue hud]
   simp[Conv.bytesToString]
  ·rw[hx] at h1
   obtain⟨l,hl,e1⟩:=Tt h1
   rw[Xx] at hn
   have hn:len=0:=ZB hn
   refine YT hs (x:=.string .empty) (hr ?_) (by simp only[Y2];rfl)
   rw[e1,run_convert_bytes_string w s d e _ _ _ w7 hue hud,run_bytesToString w _ _ _ [] (by rw[hn];rfl)]
   rfl
  ·rw[hx] at h1
   obtain⟨l,hl,e1⟩:=Tt h1
   obtain⟨cs,fr,hc,hrr⟩:=hs.row hr' hl
   rw[X8] at hle
   have hle:off+len<=r.size:=ZB hle
   obtain⟨vs,h2,h3,h4,h5⟩:=OH hrr len off hle
   refine M2 _ vs h2 λns hns=>?_
   have hload:=Qa (P:=P) hc vs (o:=l.base+off) h4
   rw[h3,hns] at hload
   refine YT hs (hr (v:=.string ⟨(ns.map Bq).toArray⟩) ?_) (by simp[Y2])
   rw[e1,run_convert_bytes_string w s d e _ _ _ w7 hue hud,run_bytesToString w _ _ _ ns hload,I9]
   simp
 case pointer.unsafePointer u=>
  refine WY λi hi=>V6 (λh3=>?_) λ_=>SX
  rw[X8] at h3
  have h3:1<=i.size:=ZB h3
  show XY P σ H w _ (Dr (XO P x) tm H)
  unfold Dr
  split
  ·rename_i hx
   rw[hx] at h1
   have h1:ρ x=.pointer none:=by simpa only[Y2] using h1
   refine YT hs (x:=.pointer none) (hr ?_) (by simp[Y2])
   rw[h1]
   simp[convert,run_underlying w7,run_underlying hud,Conv.unsafePointer]
  ·rename_i b off hx
   refine SB λr hr'=>Y0 λhle=>?_
   rw[hx] at h1
   obtain⟨l,hl,e1⟩:=TA h1
   obtain⟨cs,fr,hc,hrr⟩:=hs.row hr' hl
   rw[X8] at hle
   have hle:off+1<=r.size:=ZB hle
   have q1:=hrr.fits
   have q2:=hrr.room
   refine YT hs (hr ?_) (MN hl)
   rw[e1]
   have hsh:=IL hc
   simp only[convert,Sem.run_bind,run_underlying w7,run_underlying hud,Result.andThen_ok,Conv.unsafePointer,Conv.seenAt,viewAt,run_shape,hsh,Option.isSome_some,if_true,Sem.run_pure,cellsIn,VO hi]
   have q3: ¬(l.base+off≥cs.size):=by omega
   have q4: ¬(i.size=0):=by omega
   simp[q3,q4]
  ·trivial
 case unsafePointer.pointer u=>
  refine WY λi hi=>V6 (λh3=>?_) λ_=>SX
  rw[X8] at h3
  have h3:1<=i.size:=ZB h3
  show XY P σ H w _ (Dq (XO P x) u i.size tm H)
  unfold Dq
  split
  ·rename_i hx
   rw[hx] at h1
   have h1:ρ x=.pointer none:=by simpa only[Y2] using h1
   refine YT hs (x:=.pointer none) (hr ?_) (by simp[Y2])
   rw[h1]
   simp[convert,run_underlying w7,run_underlying hud,Conv.unsafePointer]
  ·rename_i b off hx
   refine SB λr hr'=>Y0 λhex=>Y0 λhel=>Y0 λh0=>Y0 λhle=>?_
   rw[hx] at h1
   obtain⟨l,hl,e1⟩:=TA h1
   obtain⟨cs,fr,hc,hrr⟩:=hs.row hr' hl
   rw[X8] at hle
   rw[Xx] at hel h0
   have hle:i.size<=r.size:=ZB hle
   have hel:r.elem=u:=ZB hel
   have h0:off=0:=ZB h0
   obtain⟨x1,x2,x3⟩:=hrr.exact hex
   refine YT hs (hr ?_) (MN hl)
   rw[e1]
   have hsh:=IL hc
   have q4: ¬(i.size=0):=by omega
   have hcell:P.cellsOf u=i.size:=by simp[Program.cellsOf,hi]
   have hlies:liesAt P P.depth r.elem (cs.size/P.cellsOf r.elem) (l.base+off) u 1=true:=by
    rw[hel,hcell,x2,h0]
    refine xv (by rw[hcell];omega) (by rw[hcell];rfl) ?_
    rw[hcell,Nat.zero_div,Zd,Nat.le_div_iff_mul_le (by omega)];omega
   simp only[convert,Sem.run_bind,run_underlying w7,run_underlying hud,Result.andThen_ok,Conv.unsafePointer,Conv.seenAt,viewAt,run_shape,hsh,Option.isSome_some,if_true,Sem.run_pure,VO hi,variablesAt,run_program,hlies]
   simp[hlies]
  ·trivial
 case slice.slice e1 e2=>
  refine V6 (λhsd=>Wk λde hue=>Fi λhde=>?_) λ_=>SX
  subst hde
  rw[Xx] at hsd
  have hsd:s=d:=ZB hsd
  refine Rm (λ_=>trivial) λb off len cap hx=>SB λr hr'=>Y0 λMv=>Y0 λhfz=>?_
  have h0:=h1
  rw[hx] at h1
  obtain⟨l,hl,e3⟩:=Tt h1
  obtain⟨cs,fr,hc,hrr⟩:=hs.row hr' hl
  have Di:r.sm=false∧H.may r b=true:=by
   cases hsm:r.sm with
   |true=>rw[hsm] at Mv;cases Mv
   |false=>rw[hsm] at Mv;exact⟨rfl,Mv⟩
  obtain⟨hwr,hown⟩:=Wr.of_may Di.2 hr'
  rw[Xx] at hfz
  have hfz:r.fz=0:=ZB hfz
  have hfr:fr.1=fr.2:=by
   rcases hrr.frs hown Di.1 with h|h
   ·exact h
   ·omega
  have hrun:(execOp ρ o).run P w=.ok (.value (ρ x)) (w.freeze ⟨l.blk,cs.size,none⟩ 1):=by
   refine hr ?_
   rw[e3]
   have Zd6:(s==d)=true:=by simp[hsd]
   have hsh:=IL hc
   simp only[convert,Sem.run_bind,run_underlying w7,run_underlying hud,run_underlying hue,Result.andThen_ok,Zd6,markStringish,run_shape,hsh,run_freeze,Sem.run_pure]
  have hfz':=wH (n:=cs.size) hc hfr
  refine UW (Tr.write hs hr' hl hwr hfz'.size hfz'.new hfz'.old ⟨cs,_,rfl,?_⟩ hfz'.tape hfz'.os hfz'.out) hrun (by rw[hx];rw[hx] at h0;exact h0)
  have q1:=hrr.room
  refine⟨hrr.sz,hrr.sz1,hrr.fits,hrr.room,hrr.exact,?_,hrr.one,?_,λ_ h=>by cases h⟩
  ·intro i hi
   exact hrr.cell i hi
  ·intro _ i _ hi
   simp only
   omega
theorem Ar{o:Oper}{c:Call}{b:Builtin}(ho:o.op=.call c)(hc:c.callee=.builtin b):
  ∃cs,(execOp ρ o).run P w=(builtin b c.argTypes o.type cs (c.args.map ρ)).run P w:=by
 refine⟨c.args.map λ|.const _=>true|_=>false,?_⟩
 simp only[execOp,ho,resolve,hc,Sem.run_bind,Sem.run_pure,Result.andThen_ok,invoke]
 rfl
theorem T2{o:Oper}{xs:List Operand}{ts:List TypeId}{b:Builtin}(ho:o.op=.call ⟨.builtin b,⟨xs⟩,⟨ts⟩⟩)
  (h: ∀cs,XY P σ H w ((builtin b ⟨ts⟩ o.type cs ⟨xs.map ρ⟩).run P w) (tL P b xs ts tm H)):WB P σ H w tm ρ o:=by
 unfold WB
 obtain⟨cs,h2⟩:=Ar (P:=P) (w:=w) (ρ:=ρ) ho rfl
 rw[h2,ho]
 have h3:=h cs
 have e:Array.map ρ ⟨xs⟩=⟨xs.map ρ⟩:=by simp
 show XY P σ H w ((builtin b ⟨ts⟩ o.type cs (Array.map ρ ⟨xs⟩)).run P w) (tL P b xs ts tm H)
 rw[e];exact h3
theorem HE{r:Row}{l:Loc}{cs:Array Value}{fr:Nat×Nat}(hr:Q6 σ r l cs fr)(hex:r.exact=true){o:Nat}(ho:o % l.sz=0):RK r o none=l.tot - o/l.sz:=by
 show cond (Nat.beq r.sz 1) (r.size - o) ((r.size - o)/r.sz)=_
 obtain⟨h1,_,_⟩:=hr.exact hex
 have h2:=hr.sz
 have h3:=hr.sz1
 have key:(r.size - o)/l.sz=l.tot - o/l.sz:=by
  have hd:=RT o l.sz
  rw[ho,Zf] at hd
  have e:r.size - o=(l.tot - o/l.sz)*l.sz:=by rw[Nat.sub_mul,<-h1,T1 (o/l.sz),hd]
  rw[e,Nat.mul_div_cancel _ (by omega)]
 rw[Xx]
 by_cases e:r.sz=1
 ·rw[Zr e]
  have e2:l.sz=1:=by omega
  rw[e2] at key ⊢
  simpa using key
 ·rw[Zj e,<-h2];exact key
theorem PY{b:Nat}{es:Array MapEntry}{c:Nat}(h:w.heap[b]? =some (.map es c)):(getObj b).run P w=.ok (.map es c) w:=by simp[getObj,Sem.run,h]
theorem KV{t:TypeId}{x:Value}{d:TypeDesc}{y:Value}{cs:Array Bool}{ty:TypeId}(hu:P.underlying t=some d)(h:(Builtin.len_ #[t] ty #[x]).run P w=.ok y w):
  (builtin .len ⟨[t]⟩ ty cs ⟨[x]⟩).run P w=.ok (.value y) w:=Up h
theorem jB(hs:VP P σ H w)(hρ:Ql P σ tm ρ){o:Oper}{xs:List Operand}{ts:List TypeId}(ho:o.op=.call ⟨.builtin .len,⟨xs⟩,⟨ts⟩⟩):WB P σ H w tm ρ o:=by
 refine T2 ho λcs=>?_
 rcases xs with _|⟨x,_|⟨_,_⟩⟩<;>try exact trivial
 rcases ts with _|⟨t,_|⟨_,_⟩⟩<;>try exact trivial
 refine Wk λd hu=>?_
 have g:=hρ x
 cases d<;>try exact trivial
 case string=>
  refine OX λs hx=>Ma ?_
  rw[hx] at g
  have g:=U9 g
  refine YT hs (x:=.int .i64 s.length) (KV hu ?_) (by rw[XK];simp[Y2])
  rw[g]
  simp[Builtin.len_,run_underlying hu,goInt,Ml]
 case slice e=>
  refine Ie (λhx=>?_) (Rm (λhx=>?_) λb off n c hx=>Ma ?_)
  ·rw[hx] at g
   obtain⟨l,e1⟩: ∃l,ρ x=.slice (some l) 0 0:=by simpa only[Y2] using g
   refine YT hs (x:=.int .i64 0) (KV hu ?_) (by simp[Y2])
   rw[e1]
   simp[Builtin.len_,run_underlying hu,goInt]
  ·rw[hx] at g
   have g:ρ x=.slice none 0 0:=by simpa only[Y2] using g
   refine YT hs (x:=.int .i64 0) (KV hu ?_) (by simp[Y2])
   rw[g]
   simp[Builtin.len_,run_underlying hu,goInt]
  ·rw[hx] at g
   obtain⟨l,hl,e1⟩:=Tt g
   refine YT hs (x:=.int .i64 n) (KV hu ?_) (by simp[Y2])
   rw[e1]
   simp[Builtin.len_,run_underlying hu,goInt]
 case map kt e=>
  refine Id (λhx=>?_) λb hx=>NU λob IZ=>?_
  ·rw[hx] at g
   have g:ρ x=.map none:=by simpa only[Y2] using g
   refine YT hs (x:=.int .i64 0) (KV hu ?_) (by simp[Y2])
   rw[g]
   simp[Builtin.len_,run_underlying hu,goInt]
  ·rw[hx] at g
   have g: ∃l,σ b=some l∧ρ x=.map (some l.blk):=by simpa only[Y2] using g
   obtain⟨l,hl,e1⟩:=g
   cases ob<;>try exact trivial
   case map es clock=>
    obtain⟨c,hc,ho'⟩:=hs.alive b _ l IZ hl
    obtain⟨ents,rfl,hr,_⟩:=ho'
    have hlen:es.length=ents.size:=by
     have: ∀(es:List RP) (l:List MapEntry),Xf σ es l->es.length=l.length:=by
      intro es
      induction es with
      |nil=>intro l h;simp only[Xf] at h;subst h;rfl
      |cons a es ih=>intro l h;simp only[Xf] at h;obtain⟨e,es',_,h2,rfl⟩:=h;simp[ih _ h2]
     rw[this _ _ hr];simp
    refine YT hs (x:=.int .i64 ents.size) (KV hu ?_) (by rw[XK,hlen];simp[Y2])
    rw[e1]
    simp[Builtin.len_,run_underlying hu,goInt,PY hc]
theorem jx(hs:VP P σ H w)(hρ:Ql P σ tm ρ){o:Oper}{xs:List Operand}{ts:List TypeId}(ho:o.op=.call ⟨.builtin .cap,⟨xs⟩,⟨ts⟩⟩):WB P σ H w tm ρ o:=by
 refine T2 ho λcs=>?_
 rcases xs with _|⟨x,_|⟨_,_⟩⟩<;>try exact trivial
 rcases ts with _|⟨t,_|⟨_,_⟩⟩<;>try exact trivial
 refine Wk λd hu=>?_
 have g:=hρ x
 have hr: ∀{y:Value},(Builtin.cap_ #[t] o.type #[ρ x]).run P w=.ok y w->(builtin .cap ⟨[t]⟩ o.type cs ⟨[ρ x]⟩).run P w=.ok (.value y) w:=λh=>Up h
 cases d<;>try exact trivial
 case slice e=>
  refine Rm (λhx=>?_) λb off n c hx=>?_
  ·rw[hx] at g
   have g:ρ x=.slice none 0 0:=by simpa only[Y2] using g
   refine YT hs (x:=.int .i64 0) (hr ?_) (by simp[Y2])
   rw[g]
   simp[Builtin.cap_,run_underlying hu,goInt]
  ·rw[hx] at g
   obtain⟨l,hl,e1⟩:=Tt g
   cases c with
   |some c=>
    refine YT hs (x:=.int .i64 c) (hr ?_) (by simp[Y2])
    rw[e1]
    simp[Builtin.cap_,run_underlying hu,goInt]
   |none=>
    refine SB λr hr'=>Y0 λhex=>Y0 λhmod=>?_
    rw[Xx] at hmod
    have hmod:off % r.sz=0:=ZB hmod
    obtain⟨cs',fr,hc,hrr⟩:=hs.row hr' hl
    refine YT hs (x:=.int .i64 (l.tot - off/l.sz:Nat)) (hr ?_) ?_
    ·rw[e1]
     simp[Builtin.cap_,run_underlying hu,goInt]
    ·simp only[Y2]
     congr 1
     have:=HE hrr hex (o:=off) (by rw[hrr.sz];exact hmod)
     simp[this]
theorem mp(ts:Array TypeId)(t:TypeId)(n c:Nat):Builtin.unsafeSliceData_ ts t #[.slice none n c]=pure (.pointer none):=rfl
theorem pd(ts:Array TypeId)(t:TypeId)(a:Addr)(n c:Nat)(h:c≠0):(Builtin.unsafeSliceData_ ts t #[.slice (some a) n c]).run P w=.ok (.pointer (some a)) w:=by
 show(if c≠0 then pure (Value.pointer (some a)) else _:Sem Value).run P w=_
 rw[if_pos h];rfl
theorem uc(hs:VP P σ H w)(hρ:Ql P σ tm ρ){o:Oper}{xs:List Operand}{ts:List TypeId}(ho:o.op=.call ⟨.builtin .unsafeSliceData,⟨xs⟩,⟨ts⟩⟩):WB P σ H w tm ρ o:=by
 refine T2 ho λcs=>?_
 rcases xs with _|⟨x,_|⟨_,_⟩⟩<;>try exact trivial
 have g:=hρ x
 refine Rm (λhx=>?_) λb off n c hx=>?_
 ·rw[hx] at g
  have g:ρ x=.slice none 0 0:=by simpa only[Y2] using g
  refine YT hs (x:=.pointer none) ?_ (by simp[Y2])
  refine Up ?_
  show(Builtin.unsafeSliceData_ ⟨ts⟩ o.type #[ρ x]).run P w=_
  rw[g]
  exact congrArg (λs=>s.run P w) (mp _ _ _ _)
 ·rw[hx] at g
  obtain⟨l,hl,e1⟩:=Tt g
  have fin:c.getD (l.tot - off/l.sz)≠0->XY P σ H w ((builtin .unsafeSliceData ⟨ts⟩ o.type cs ⟨[ρ x]⟩).run P w) (.val (.ptr b off) H):=λh=>by
   refine YT hs ?_ (MN hl)
   refine Up ?_
   show(Builtin.unsafeSliceData_ ⟨ts⟩ o.type #[ρ x]).run P w=_
   rw[e1]
   exact pd _ _ _ _ _ h
  cases c with
  |some c=>
   refine Y0 λh=>fin ?_
   rw[X8] at h
   have h:1<=c:=ZB h
   simp only[Option.getD_some];omega
  |none=>
   refine SB λr hr'=>Y0 λh=>fin ?_
   obtain⟨cs',fr,hc,hrr⟩:=hs.row hr' hl
   rw[X8] at h
   have h:off+1<=r.size:=ZB h
   have h1:=hrr.fits
   have h2:=hrr.sz1
   simp only[Option.getD_none]
   have:off/l.sz<l.tot:=by rw[Nat.div_lt_iff_lt_mul (by omega)];omega
   omega
def yQ(v:AV)(m:Nat):Prop:=((v=.nils∨v=.slice0)∧m=0)∨(∃b o c,v=.slice b o m c)∨ ∃s,v=.str s∧m=s.length
theorem Da{r:Result Next}{v:AV}{k:Nat->OR}(h: ∀m,yQ v m->XY P σ H w r (k m)):XY P σ H w r (CB v k):=by
 unfold CB
 split
 ·exact h 0 (.inl ⟨.inl rfl,rfl⟩)
 ·exact h 0 (.inl ⟨.inr rfl,rfl⟩)
 ·exact h _ (.inr (.inl ⟨_,_,_,rfl⟩))
 ·rw[XK];exact h _ (.inr (.inr ⟨_,rfl,rfl⟩))
 ·trivial
theorem DG{v:AV}{m:Nat}{x:Value}(h:yQ v m)(hr:Y2 σ v x)(w':World):(Builtin.lenOf x).run P w'=.ok m w':=by
 rcases h with⟨rfl|rfl,rfl⟩|⟨b,o,c,rfl⟩|⟨s,rfl,rfl⟩
 ·have:x=.slice none 0 0:=by simpa only[Y2] using hr
  rw[this];rfl
 ·obtain⟨a,this⟩: ∃a,x=.slice (some a) 0 0:=by simpa only[Y2] using hr
  rw[this];rfl
 ·obtain⟨l,_,rfl⟩:=Tt hr;rfl
 ·rw[U9 hr];simp[Builtin.lenOf,Ml]
structure mu(P:Program)(σ:Mp)(w:World)(sz n:Nat)(x:Value)(as:List AV)(vs:List Value):Prop where
 rel:XG σ as vs
 one: ∀u∈vs,u.oneCell'=true
 len:vs.length=n*sz
 run: ∀w':World,w'.heap=w.heap->(Builtin.firstCells sz n x).run P w'=.ok ⟨vs⟩ w'
theorem Ff{v:AV}{x:Value}(hx:Y2 σ v x){sz m:Nat}(hm:yQ v m):mu P σ w sz 0 x [] []:=by
 refine⟨U8,by simp,by simp,λw' _=>?_⟩
 rcases hm with⟨rfl|rfl,rfl⟩|⟨b,o,c,rfl⟩|⟨s,rfl,rfl⟩
 ·have:x=.slice none 0 0:=by simpa only[Y2] using hx
  rw[this];rfl
 ·obtain⟨a,this⟩: ∃a,x=.slice (some a) 0 0:=by simpa only[Y2] using hx
  rw[this];simp only[Builtin.firstCells,UH];rfl
 ·obtain⟨l,_,rfl⟩:=Tt hx
  simp only[Builtin.firstCells,UH];rfl
 ·rw[U9 hx]
  simp[Builtin.firstCells]
theorem K6{r:Result Next}(hs:VP P σ H w){v:AV}{x:Value}(hx:Y2 σ v x){sz n m:Nat}{k:List AV->OR}(hm:yQ v m)(hn:n<=m)
  (h: ∀as vs,mu P σ w sz n x as vs->XY P σ H w r (k as)):XY P σ H w r (Ti H sz v n k):=by
 unfold Ti
 refine Tp (λh0=>?_) λ_=>?_
 ·rw[Xx] at h0
  have h0:n=0:=ZB h0
  subst h0
  exact h [] [] (Ff hx hm)
 ·rcases hm with⟨rfl|rfl,rfl⟩|⟨b,o,c,rfl⟩|⟨s,rfl,rfl⟩
  ·trivial
  ·trivial
  ·refine SB λrr hrr=>Y0 λhle=>?_
   rw[X8] at hle
   have hle:o+n*sz<=rr.size:=ZB hle
   obtain⟨l,hl,rfl⟩:=Tt hx
   obtain⟨cs,fr,hc,hrow⟩:=hs.row hrr hl
   obtain⟨vs,h2,h3,h4,h5⟩:=OH hrow (n*sz) o hle
   refine h _ vs ⟨h2,h5,h3,λw' hw=>?_⟩
   have hc':w'.heap[l.blk]? =some (.cells cs rr.elem fr):=by rw[hw];exact hc
   have:=Qa (P:=P) hc' vs (o:=l.base+o) h4
   rw[h3] at this
   exact this
  ·refine Y0 λh1=>?_
   rw[Xx] at h1
   have h1:sz=1:=ZB h1
   subst h1
   rw[KD]
   refine h _ _ ⟨FC σ _,BW _,by simp;omega,λw' _=>?_⟩
   rw[U9 hx]
   simp only[Builtin.firstCells,Sem.run_pure,Result.ok.injEq,and_true]
   apply Array.ext'
   simp[Ui]
theorem np(a b:Nat):BY a b=Nat.min a b:=by
 unfold BY
 rw[X8]
 by_cases h:a<=b
 ·rw[Zr h];exact(VV h).symm
 ·rw[Zj h];exact(TQ (LD (Nat.lt_of_not_le h))).symm
theorem nM(hs:VP P σ H w)(hρ:Ql P σ tm ρ){o:Oper}{xs:List Operand}{ts:List TypeId}(ho:o.op=.call ⟨.builtin .copy,⟨xs⟩,⟨ts⟩⟩):WB P σ H w tm ρ o:=by
 refine T2 ho λcs=>?_
 rcases xs with _|⟨x,_|⟨y,_|⟨_,_⟩⟩⟩<;>try exact trivial
 rcases ts with _|⟨t,_|⟨t2,_|⟨_,_⟩⟩⟩<;>try exact trivial
 refine Wk λd hu=>Mb λe hd=>WY λi hi=>Da λsn hsn=>?_
 subst hd
 have g:=hρ x
 have step: ∀(base:Option Addr) (dn cp:Nat) (vs:List Value),ρ x=.slice base dn cp->(Builtin.firstCells i.size (Nat.min dn sn) (ρ y)).run P w=.ok ⟨vs⟩ w->
   (Builtin.copy_ ⟨[t,t2]⟩ o.type ⟨[ρ x,ρ y]⟩).run P w=(do (match base with|some a=>storeCells a vs|none=>pure ());pure (goInt (Nat.min dn sn)):Sem Value).run P w:=by
  intro base dn cp vs e1 hr
  have hl:=DG (P:=P) hsn (hρ y) w
  rw[show Nat.min dn sn=Nat.min sn dn from Nat.min_comm _ _] at hr ⊢
  simp only[Builtin.copy_,Ve,Tg,Tf,Sem.run_bind,run_underlying hu,Result.andThen_ok,e1,hl,VO hi,hr]
  cases base with
  |none=>rfl
  |some a=>simp
 refine Rm (λhx=>?_) λb off dn c hx=>Ma ?_
 ·rw[hx] at g
  have g:ρ x=.slice none 0 0:=by simpa only[Y2] using g
  refine YT hs (x:=.int .i64 0) ?_ (by simp[Y2])
  refine Up ?_
  refine(step none 0 0 [] g ?_).trans ?_
  ·rw[show Nat.min 0 sn=0 from Nat.zero_min sn]
   exact(Ff (w:=w) (hρ y) hsn).run w rfl
  ·rw[show Nat.min 0 sn=0 from Nat.zero_min sn];rfl
 ·rw[np]
  have hmin:Nat.min dn sn<=sn:=Nat.min_le_right _ _
  rw[hx] at g
  obtain⟨l,hl,e1⟩:=Tt g
  refine K6 hs (hρ y) hsn hmin λas vs hf=>Tp (λh0=>?_) λh0=>SB λr hr=>Y0 λMv=>Y0 λhfz=>Y0 λhle=>?_
  ·rw[Xx] at h0
   have h0:Nat.min dn sn=0:=ZB h0
   have hv:vs=[]:=by have:=hf.len;rw[h0,UH] at this;exact Vs.1 this
   refine YT hs (x:=.int .i64 0) ?_ (by simp[Y2])
   refine Up ?_
   refine(step _ _ _ vs e1 (hf.run w rfl)).trans ?_
   rw[hv,h0]
   simp[goInt,storeCells]
  ·rw[X8] at hfz hle
   have hfz:r.fz<=off:=ZB hfz
   have hle:off+Nat.min dn sn*i.size<=r.size:=ZB hle
   obtain⟨w',hrun,htr⟩:=Ht hs hr hl Mv hf.rel hf.one (o:=off) (by rw[hf.len];exact hle) hfz
   refine UW htr (x:=.int .i64 (Nat.min dn sn:Nat)) ?_ (by simp[Y2])
   refine Up ?_
   refine(step _ _ _ vs e1 (hf.run w rfl)).trans ?_
   simp[hrun,goInt]
def app(e:TypeId)(i:TypeInfo)(z:Value)(base:Option Addr)(sLen sCap n:Nat)(news:Sem (Array Value)):Sem Value:=
 if sLen+n<=sCap then do
  let new<-news
  if let some a:=base then storeCells (a.add (sLen*i.size)) new.toList
  pure (.slice base (sLen+n) sCap)
 else do
  let newCap<-choose (.appendCap (sLen+n) sCap e)
  let old<-Builtin.firstCells i.size sLen (.slice base sLen sCap)
  let new<-news
  let a<-newRow e (old++new++Builtin.zeroCells z.cells (newCap - (sLen+n)))
  pure (.slice (some a) (sLen+n) newCap)
def xD(i:TypeInfo)(z:Value)(n:Nat):Sem (Array Value):=if n*i.size=0 then pure #[] else pure (Builtin.zeroCells z.cells n)
theorem n8{t u ty e:TypeId}{i:TypeInfo}{z x:Value}{d:TypeDesc}(ht:P.underlying t=some (.slice e))(hu:P.underlying u=some d)(hd: ∀k,d≠.int k)(hi:P.info? e=some i)(hz:i.zero=some z)
  {base:Option Addr}{sLen sCap n:Nat}(hn:(Builtin.lenOf x).run P w=.ok n w)(hb:1<=i.bytes)(hfit:(sLen+n)*i.bytes<=140737488355328∨sLen+n<=sCap):
  (Builtin.append_ ⟨[t,u]⟩ ty ⟨[.slice base sLen sCap,x]⟩).run P w=(app e i z base sLen sCap n (Builtin.firstCells i.size n x)).run P w:=by
 unfold app
 simp only[Builtin.append_,Sem.run_bind,Ve,Tg,Tf,run_underlying ht,run_underlying hu,Result.andThen_ok,VO hi,Sem.run_pure,WO,if_false,hn,Bool.not_false,if_true]
 by_cases h:sLen+n<=sCap
 ·rw[if_pos h,if_pos h]
  simp only[Sem.run_bind]
  congr 1
 ·rw[if_neg h,if_neg h]
  have h5:sLen+n<=140737488355328:=by
   rcases hfit with h1|h1
   ·exact YZ (RU _ hb) h1
   ·exact absurd h1 h
  have h3:Builtin.nextslicecap (sLen+n) sCap*i.bytes<=281474976710656:=growslice_fits (Nat.lt_of_not_le h) (by rcases hfit with h1|h1;exact h1;exact absurd h1 h)
  have h4: ¬(Builtin.nextslicecap (sLen+n) sCap*i.bytes>2^48):=Nat.not_lt.2 h3
  have h6: ¬(((sLen+n:Nat):Int)>IntKind.i64.max∧(False∨i.bytes=0)):=λq=>by
   rcases q.2 with q|q
   ·exact q
   ·rw[q] at hb;exact absurd hb (by decide)
  have hti: ∀w':World,(typeInfo e).run P w'=.ok i w':=λw'=>by simp[typeInfo,hi]
  have hzv: ∀w':World,(zeroValue e).run P w'=.ok z w':=λw'=>S1 hi hz
  simp only[Sem.run_bind,hti,hzv,run_askRoom,Result.andThen_ok,if_neg h6,if_neg h4,Sem.run_pure]
theorem qI{t u ty e:TypeId}{i:TypeInfo}{z:Value}{k k':IntKind}(ht:P.underlying t=some (.slice e))(hu:P.underlying u=some (.int k))(hi:P.info? e=some i)(hz:i.zero=some z)
  {base:Option Addr}{sLen sCap n:Nat}(hb:1<=i.bytes)(hn:n*i.bytes<=140737488355328)(hfit:(sLen+n)*i.bytes<=140737488355328∨sLen+n<=sCap):
  (Builtin.append_ ⟨[t,u]⟩ ty ⟨[.slice base sLen sCap,.int k' (n:Nat)]⟩).run P w=(app e i z base sLen sCap n (xD i z n)).run P w:=by
 unfold app xD
 have hn1:n<=140737488355328:=YZ (RU _ hb) hn
 have hw:IntKind.i64.wrap (n:Int)=n:=by
  exact HA (by omega) (by omega)
 have hti: ∀w':World,(typeInfo e).run P w'=.ok i w':=λw'=>by simp[typeInfo,hi]
 have hzv: ∀w':World,(zeroValue e).run P w'=.ok z w':=λw'=>S1 hi hz
 have q1: ¬((n:Int)<0):=by omega
 have q2: ¬((n:Int)*(i.bytes:Int)>2^48):=by
  have h7:((n*i.bytes:Nat):Int)<=((140737488355328:Nat):Int):=Int.ofNat_le.2 hn
  rw[Int.natCast_mul] at h7
  have h8:(2:Int)^48=281474976710656:=by decide
  rw[h8]
  omega
 simp only[Builtin.append_,Sem.run_bind,Ve,Tg,Tf,run_underlying ht,run_underlying hu,Result.andThen_ok,VO hi,Sem.run_pure,if_true,asInt,asIntOf,hw,if_neg q1,hti,if_neg q2,UA,Bool.not_true,WO,if_false]
 by_cases h:sLen+n<=sCap
 ·rw[if_pos h,if_pos h]
  simp only[Sem.run_bind]
  by_cases h0:n*i.size=0
  ·rw[if_pos h0,if_pos h0]
   cases base<;>rfl
  ·rw[if_neg h0,if_neg h0]
   simp only[Sem.run_bind,hzv,Result.andThen_ok,Sem.run_pure]
   cases base<;>rfl
 ·rw[if_neg h,if_neg h]
  have h5:sLen+n<=140737488355328:=by
   rcases hfit with h1|h1
   ·exact YZ (RU _ hb) h1
   ·exact absurd h1 h
  have h3:Builtin.nextslicecap (sLen+n) sCap*i.bytes<=281474976710656:=growslice_fits (Nat.lt_of_not_le h) (by rcases hfit with h1|h1;exact h1;exact absurd h1 h)
  have h4: ¬(Builtin.nextslicecap (sLen+n) sCap*i.bytes>2^48):=Nat.not_lt.2 h3
  have h6: ¬(((sLen+n:Nat):Int)>IntKind.i64.max∧(True∨i.bytes=0)):=λq=>by
   have h7:=q.1
   have h8:IntKind.i64.max=9223372036854775807:=by decide
   rw[h8] at h7
   omega
  by_cases h0:n*i.size=0
  ·simp only[Sem.run_bind,hti,hzv,run_askRoom,Result.andThen_ok,if_neg h6,if_neg h4,Sem.run_pure,if_pos h0]
  ·simp only[Sem.run_bind,hti,hzv,run_askRoom,Result.andThen_ok,if_neg h6,if_neg h4,Sem.run_pure,if_neg h0]
theorem Tr.del(hs:VP P σ H w){b:Nat}{lb:Loc}(hlb:σ b=some lb)(hb:H.ro<=b):Tr P σ H w σ ⟨H.nx,H.t.del b,H.ro⟩ w:=by
 have g: ∀c o,(H.t.del b).get c=some o->H.t.get c=some o:=by
  intro c o h
  rw[T.get_del] at h
  by_cases e:b=c
  ·rw[if_pos e] at h;cases h
  ·rw[if_neg e] at h;exact h
 refine⟨Ext.refl σ,⟨hs.dom,λc o h=>hs.low c o (g c o h),λc o l h hl=>hs.alive c o l (g c o h) hl,λc c' o o' l l' h h'=>hs.inj c c' o o' l l' (g _ _ h) (g _ _ h'),hs.glob,hs.ro⟩,Z2 _,λ_ _ _=>rfl,?_,Z2 _,rfl,?_,rfl,rfl,rfl,λc _ hn=>⟨by show(H.t.del b).get c=H.t.get c;rw[T.get_del,if_neg (λe=>by subst e;rw[hlb] at hn;cases hn)],hn⟩⟩
 ·intro c l hw hl _
  obtain⟨h1,o,h2,h3⟩:=hw
  exact⟨c,l,⟨h1,o,g c o h2,h3⟩,hl,rfl⟩
 ·intro c hc
  show(H.t.del b).get c=H.t.get c
  have hc:c<H.ro:=hc
  rw[T.get_del,if_neg (by omega)]
theorem Tr.move{w':World}(h:VP P σ H w){b:Nat}{o o':Obj}{l:Loc}{c':Go.Obj}
  (hb:H.t.get b=some o)(hl:σ b=some l)(hw:Wr H b)
  (hsize:w'.heap.size=w.heap.size)(hnew:w'.heap[l.blk]? =some c')(hold: ∀k,k≠l.blk->w'.heap[k]? =w.heap[k]?)
  (ho:TN (σ.put H.nx l) o' l c')(ht:w'.tape=w.tape)(hos:w'.os=w.os)(hout:w'.output=w.output):
  Tr P σ H w (σ.put H.nx l) ⟨Nat.succ H.nx,(H.t.del b).set H.nx o',H.ro⟩ w':=by
 have hlt:b<H.nx:=h.dom b l hl
 have hro:=h.ro
 have Fs:Ext σ (σ.put H.nx l):=Mp.put_ext l (h.fresh (Z2 _))
 have get: ∀c x,((H.t.del b).set H.nx o').get c=some x->(c=H.nx∧x=o')∨(c≠H.nx∧c≠b∧H.t.get c=some x):=by
  intro c x hx
  rw[T.get_set] at hx
  by_cases e:H.nx=c
  ·rw[if_pos e] at hx;cases hx;exact .inl ⟨e.symm,rfl⟩
  ·rw[if_neg e,T.get_del] at hx
   by_cases e2:b=c
   ·rw[if_pos e2] at hx;cases hx
   ·rw[if_neg e2] at hx;exact .inr ⟨λz=>e z.symm,λz=>e2 z.symm,hx⟩
 refine⟨Fs,⟨?_,?_,?_,?_,?_,?_⟩,by omega,?_,?_,Un _,rfl,?_,ht,hos,hout,λc hc hn=>⟨by show((H.t.del b).set H.nx o').get c=H.t.get c;rw[T.get_set,if_neg (by omega),T.get_del,if_neg (λe=>by subst e;rw[hl] at hn;cases hn)],by unfold Mp.put;rw[if_neg (by omega)];exact hn⟩⟩
 ·intro c m hm
  show c<H.nx+1
  unfold Mp.put at hm
  by_cases e:c=H.nx
  ·omega
  ·rw[if_neg e] at hm;have:=h.dom c m hm;omega
 ·intro c x hx
  show c<H.nx+1
  rcases get c x hx with⟨rfl,_⟩|⟨h1,h2,h3⟩
  ·omega
  ·have:=h.low c x h3;omega
 ·intro c x l1 hx hl1
  rcases get c x hx with⟨rfl,rfl⟩|⟨h1,h2,h3⟩
  ·rw[Mp.put_same] at hl1;cases hl1
   exact⟨c',hnew,ho⟩
  ·rw[Mp.put_old h1] at hl1
   obtain⟨c1,hc1,hr⟩:=h.alive c x l1 h3 hl1
   refine⟨c1,?_,hr.mono Fs⟩
   rw[hold l1.blk ?_];exact hc1
   intro e
   exact h2 (h.alone h3 hb hl1 hl e λs=>hw.hard hb s.2)
 ·intro c1 c2 x1 x2 l1 l2 h1 h2 k1 k2 e
  rcases get c1 x1 h1 with⟨rfl,rfl⟩|⟨p1,p2,p3⟩<;>rcases get c2 x2 h2 with⟨q0,rfl⟩|⟨q1,q2,q3⟩
  ·exact .inl q0.symm
  ·exfalso
   rw[Mp.put_same] at k1;cases k1
   rw[Mp.put_old q1] at k2
   exact q2 (h.alone q3 hb k2 hl e.symm λs=>hw.hard hb s.2)
  ·exfalso
   rw[q0,Mp.put_same] at k2;cases k2
   rw[Mp.put_old p1] at k1
   exact p2 (h.alone p3 hb k1 hl e λs=>hw.hard hb s.2)
  ·rw[Mp.put_old p1] at k1
   rw[Mp.put_old q1] at k2
   exact h.inj c1 c2 x1 x2 l1 l2 p3 q3 k1 k2 e
 ·intro g hg
  obtain⟨lg,h1,h2⟩:=h.glob g hg
  exact⟨lg,Fs g lg h1,h2⟩
 ·show H.ro<=H.nx+1;omega
 ·intro k hk hn
  exact hold k λe=>hn b l hw hl e.symm
 ·intro c m hwc hlc hlt'
  obtain⟨r1,x,r2,r3⟩:=hwc
  rcases get c x r2 with⟨rfl,rfl⟩|⟨p1,p2,p3⟩
  ·rw[Mp.put_same] at hlc;cases hlc
   exact⟨b,l,hw,hl,rfl⟩
  ·rw[Mp.put_old p1] at hlc
   exact⟨c,m,⟨r1,x,p3,r3⟩,hlc,rfl⟩
 ·intro c hc
  have hc:c<H.ro:=hc
  show((H.t.del b).set H.nx o').get c=H.t.get c
  rw[T.get_set,if_neg (by omega),T.get_del,if_neg (by have:=hw.1;omega)]
theorem Mo{z:Array Value}(hone: ∀v∈z.toList,v.oneCell'=true)(k:Nat):(Builtin.zeroCells z k).size=k*z.size∧ ∀v∈(Builtin.zeroCells z k).toList,v.oneCell'=true:=by
 constructor
 ·simp[Builtin.zeroCells]
 ·intro v hv
  simp only[Builtin.zeroCells,Qm,Array.toList_range,Wj,SU] at hv
  obtain⟨i,hi,rfl⟩:=hv
  have hz:0<z.size:=by
   rcases Nat.eq_zero_or_pos z.size with h|h
   ·rw[h,Nat.mul_zero] at hi;omega
   ·exact h
  rw[getElem!_pos z _ (Rk _ hz)]
  exact hone _ (Array.getElem_mem_toList _)
theorem GA{e:TypeId}{i:TypeInfo}{z:Value}{base:Option Addr}{sLen sCap n:Nat}{news:Sem (Array Value)}{vo vn:List Value}
  (hone: ∀v∈z.cells.toList,v.oneCell'=true)(hg: ¬(sLen+n<=sCap))
  (ho: ∀w':World,w'.heap=w.heap->(Builtin.firstCells i.size sLen (.slice base sLen sCap)).run P w'=.ok ⟨vo⟩ w')(hn: ∀w':World,w'.heap=w.heap->news.run P w'=.ok ⟨vn⟩ w'):
  ∃k rest,(app e i z base sLen sCap n news).run P w=.ok (.slice (some ⟨w.heap.size,0,none⟩) (sLen+n) (sLen+n+k)) (w.drew.alloc (.cells ⟨(vo++vn)++rest⟩ e))∧
   rest.length=k*z.cells.size∧ ∀v∈rest,v.oneCell'=true:=by
 obtain⟨k,hk⟩:=Jt (P:=P) (sLen+n) sCap e w
 obtain⟨h1,h2⟩:=Mo hone k
 refine⟨k,(Builtin.zeroCells z.cells k).toList,?_,by simpa using h1,h2⟩
 unfold app
 rw[if_neg hg]
 simp only[Sem.run_bind,hk,Result.andThen_ok,ho w.drew rfl,hn w.drew rfl,Nat.add_sub_cancel_left,newRow,run_newObj,Sem.run_pure,World.alloc_eq]
 congr 3
 have e1:(⟨vo⟩:Array Value)++⟨vn⟩++Builtin.zeroCells z.cells k=⟨(vo++vn)++(Builtin.zeroCells z.cells k).toList⟩:=by
  apply Array.ext'
  simp
 rw[e1]
theorem LR{r:Result Next}(hs:VP P σ H w){e sz need k:Nat}{as:List AV}{vs rest:List Value}(hr:r=.ok (.value (.slice (some ⟨w.heap.size,0,none⟩) need (need+k))) (w.drew.alloc (.cells ⟨vs++rest⟩ e)))
  (hrel:XG σ as vs)(hone: ∀v∈vs,v.oneCell'=true)(hrest: ∀v∈rest,v.oneCell'=true)(hsz:1<=sz)(hlen:vs.length=need*sz)(hrl:rest.length=k*sz):
  XY P σ H w r (.val (.slice H.nx 0 need none) (H.newRow e sz as false)):=by
 have hl:=hrel.length
 refine UW ((Tr.drew hs).trans (Tr.alloc hs.drew _ _ ⟨w.heap.size,0,need+k,sz⟩ rfl ⟨_,(0,0),rfl,?_⟩)) hr (Rp (l:=⟨w.heap.size,0,need+k,sz⟩) rfl)
 refine JL (hrel.mono (Mp.put_ext _ (hs.drew.fresh (Z2 _)))) (λv hv=>?_) hsz ?_ ?_ (λh=>by cases h) rfl
 ·rcases Z6.1 hv with hv|hv
  ·exact hone v hv
  ·exact hrest v hv
 ·rw[hl,hlen,VJ];omega
 ·rw[X3,hlen,hrl,VJ];omega
theorem Pk(r:Row): ∀(n o j:Nat),j<n->(U5 r o n)[j]? =some (r.get (o+j))
 |0,o,j,h=>by omega
 |n+1,o,0,_=>rfl
 |n+1,o,j+1,h=>by
  show(U5 r (o+1) n)[j]? =_
  rw[Pk r n (o+1) j (by omega)]
  congr 2;omega
theorem yE(r:Row)(sz size o:Nat)(as:List AV){j:Nat}(hj:j<o+as.length):
  (j<o∧(⟨r.elem,sz,size,Tv r.cells o as,r.dflt,r.fz,r.sm,true,false⟩:Row).get j=r.get j)∨
  (∃a,o<=j∧as[j - o]? =some a∧(⟨r.elem,sz,size,Tv r.cells o as,r.dflt,r.fz,r.sm,true,false⟩:Row).get j=a):=by
 by_cases h:j<o
 ·refine .inl ⟨h,?_⟩
  rw[Row.get_eq,Row.get_eq]
  show((Tv r.cells o as).get j).getD r.dflt=_
  rw[N3,if_neg (by omega)]
 ·refine .inr ⟨as[j - o]'(by omega),by omega,ZW (by omega),?_⟩
  rw[Row.get_eq]
  show((Tv r.cells o as).get j).getD r.dflt=_
  rw[N3,if_pos (by omega),ZW (by omega)]
  rfl
structure iI(P:Program)(σ:Mp)(w:World)(sz n:Nat)(news:Sem (Array Value))(as:List AV)(vs:List Value):Prop where
 rel:XG σ as vs
 one: ∀u∈vs,u.oneCell'=true
 len:vs.length=n*sz
 run: ∀w':World,w'.heap=w.heap->news.run P w'=.ok ⟨vs⟩ w'
theorem wN(hs:VP P σ H w){va:AV}{x:Value}(g:Y2 σ va x){e n:Nat}{i:TypeInfo}{z:Value}{news:Sem (Array Value)}{as:List AV}{vs:List Value}{q:Result Next}
  (hsz:1<=i.size)(L6: ∀v∈z.cells.toList,v.oneCell'=true)(Mw:z.cells.size=i.size)(hf:iI P σ w i.size n news as vs)
  (run: ∀{base:Option Addr} {sLen sCap:Nat} {v:Value} {w':World},x=.slice base sLen sCap->((sLen+n)*i.bytes<=140737488355328∨sLen+n<=sCap)->(app e i z base sLen sCap n news).run P w=.ok v w'->q=.ok (.value v) w'):
  XY P σ H w q (Jm va e i.size i.bytes H n as):=by
 refine Ie (λhx=>?_) (Rm (λhx=>?_) λb off len cap hx=>?_)
 ·rw[hx] at g
  obtain⟨a,g⟩: ∃a,x=.slice (some a) 0 0:=by simpa only[Y2] using g
  refine Tp (λh0=>?_) λh0=>Y0 λhfit=>?_
  ·rw[Xx] at h0
   have h0:n=0:=ZB h0
   subst h0
   have hv:vs=[]:=by have:=hf.len;rw[UH] at this;exact Vs.1 this
   refine YT hs (x:=.slice (some a) 0 0) (run g (.inr (Z2 _)) ?_) (by simp[Y2])
   simp[app,hf.run w rfl,hv,storeCells]
  ·rw[Xx] at h0
   rw[X8] at hfit
   have h0:n≠0:=of_decide_eq_false h0
   have hfit:n*i.bytes<=140737488355328:=ZB hfit
   obtain⟨k,rest,k1,k2,k3⟩:=GA (P:=P) (w:=w) (e:=e) (i:=i) (z:=z) (base:=some a) (sLen:=0) (sCap:=0) (n:=n) (vo:=[]) (vn:=vs) L6 (by omega) (λw' _=>by simp only[Builtin.firstCells,UH];rfl) hf.run
   rw[Zd] at k1
   exact LR hs (run g (.inl (by rw[Zd];exact hfit)) k1) hf.rel hf.one k3 hsz hf.len (by rw[k2,Mw])
 ·rw[hx] at g
  have g:x=.slice none 0 0:=by simpa only[Y2] using g
  refine Tp (λh0=>?_) λh0=>Y0 λhfit=>?_
  ·rw[Xx] at h0
   have h0:n=0:=ZB h0
   subst h0
   refine YT hs (x:=.slice none 0 0) (run g (.inr (Z2 _)) ?_) (by simp[Y2])
   simp[app,hf.run w rfl]
  ·rw[Xx] at h0
   rw[X8] at hfit
   have h0:n≠0:=of_decide_eq_false h0
   have hfit:n*i.bytes<=140737488355328:=ZB hfit
   obtain⟨k,rest,k1,k2,k3⟩:=GA (P:=P) (w:=w) (e:=e) (i:=i) (z:=z) (base:=none) (sLen:=0) (sCap:=0) (n:=n) (vo:=[]) (vn:=vs) L6 (by omega) (λw' _=>by rfl) hf.run
   rw[Zd] at k1
   exact LR hs (run g (.inl (by rw[Zd];exact hfit)) k1) hf.rel hf.one k3 hsz hf.len (by rw[k2,Mw])
 ·rw[hx] at g
  have g0:=g
  obtain⟨l,hl,e1⟩:=Tt g
  refine SB λr hr=>Y0 λcW=>?_
  obtain⟨cs',fr,hc,hrr⟩:=hs.row hr hl
  have hcap:=GY hrr off cap
  refine Tp (λhin=>?_) λhout=>?_
  ·rw[X8] at hin
   have hin:len+n<=RK r off cap:=ZB hin
   have hin':len+n<=cap.getD (l.tot - off/l.sz):=YZ hin hcap
   refine Tp (λh0=>?_) λh0=>Y0 λMv=>Y0 λhle=>Y0 λhfz=>?_
   ·rw[Xx] at h0
    have h0:n=0:=ZB h0
    subst h0
    have hv:vs=[]:=by have:=hf.len;rw[UH] at this;exact Vs.1 this
    refine YT hs (x:=x) (run e1 (.inr hin') ?_) (by rw[hx];exact g0)
    simp only[app,if_pos hin',Sem.run_bind,hf.run w rfl,Result.andThen_ok,hv]
    rw[e1]
    simp[storeCells]
   ·rw[X8] at hle hfz
    have hle:off+(len+n)*i.size<=r.size:=ZB hle
    have hfz:r.fz<=off+len*i.size:=ZB hfz
    obtain⟨w',hrun,htr⟩:=Ht hs hr hl Mv hf.rel hf.one (o:=off+len*i.size) (by rw[hf.len];rw[VJ] at hle;omega) hfz
    refine UW htr (run e1 (.inr hin') ?_) (R8 hl)
    simp only[app,if_pos hin',Sem.run_bind,hf.run w rfl,Result.andThen_ok,QF]
    rw[SL,hrun]
    rfl
  ·rw[X8] at hout
   have hout: ¬(len+n<=RK r off cap):=of_decide_eq_false hout
   refine Y0 λhfit=>Y0 λhle=>?_
   rw[X8] at hfit hle
   have hfit:(len+n)*i.bytes<=140737488355328:=ZB hfit
   have hle:off+len*i.size<=r.size:=ZB hle
   obtain⟨vo,o2,o3,o4,o5⟩:=OH hrr (len*i.size) off hle
   have hfo: ∀c,∀w':World,w'.heap=w.heap->(Builtin.firstCells i.size len (.slice (some ⟨l.blk,l.base+off,none⟩) len c)).run P w'=.ok ⟨vo⟩ w':=by
    intro c w' hw
    have hc':w'.heap[l.blk]? =some (.cells cs' r.elem fr):=by rw[hw];exact hc
    have:=Qa (P:=P) hc' vo (o:=l.base+off) o4
    rw[o3] at this
    exact this
   have grown: ¬(len+n<=cap.getD (l.tot - off/l.sz))->XY P σ H w q (.val (.slice H.nx 0 (len+n) none) (H.newRow e i.size (U5 r off (len*i.size)++as) false)):=by
    intro hg
    obtain⟨k,rest,k1,k2,k3⟩:=GA (P:=P) (w:=w) (e:=e) (i:=i) (z:=z) L6 hg (hfo _) hf.run
    refine LR hs (run e1 (.inl hfit) k1) (o2.append hf.rel) (λv hv=>?_) k3 hsz (by rw[X3,o3,hf.len,VJ]) (by rw[k2,Mw])
    rcases Z6.1 hv with hv|hv
    ·exact o5 v hv
    ·exact hf.one v hv
   cases cap with
   |some c=>exact grown hout
   |none=>
    have cX:r.sz=i.size:=by
     have:Nat.beq r.sz i.size=true:=cW
     rw[Xx] at this
     exact ZB this
    refine Tp (λhex=>Y0 λhmod=>?_) λhex=>?_
    ·rw[Xx] at hmod
     have hmod:off % i.size=0:=ZB hmod
     refine grown ?_
     rw[HE hrr hex (by rw[hrr.sz,cX];exact hmod)] at hout
     exact hout
    ·refine Y0 λhel=>Y0 λMv=>Y0 λhfz=>Y0 λhsize=>Y0 λh0=>?_
     rw[Xx] at hel hsize h0
     rw[X8] at hfz
     have hel:r.elem=e:=ZB hel
     have hsize:len*i.size=r.size:=ZB hsize
     have h0:off=0:=ZB h0
     have hfz:r.fz<=len*i.size:=ZB hfz
     subst h0
     obtain⟨hwr,hown⟩:=Wr.of_may Mv hr
     have oC:l.sz=i.size:=by rw[hrr.sz,cX]
     have hal:as.length=n*i.size:=by rw[hf.rel.length];exact hf.len
     have hvl:=hf.len
     have hsum:(len+n)*i.size=len*i.size+n*i.size:=VJ _ _ _
     have hcell:=λj (hj:j<len*i.size+as.length)=>yE r i.size ((len+n)*i.size) (len*i.size) as hj
     by_cases hin:len+n<=l.tot
     ·have hin':len+n<=(none:Option Nat).getD (l.tot - 0/l.sz):=by rw[Nat.zero_div];exact hin
      have hmul:(len+n)*i.size<=l.tot*i.size:=To _ hin
      have q1:=hrr.room
      rw[oC] at q1
      obtain⟨w',hrun,hw⟩:=Ns (P:=P) (o:=l.base+len*i.size) vs 0 w cs' hc (by omega) hf.one (λj hj=>by
       have:=hrr.frz hown (len*i.size+j) (by omega) (by rw[oC];omega)
       rwa [show l.base+len*i.size+0+j=l.base+(len*i.size+j) by omega])
      refine UW (Tr.move hs hr hl hwr hw.size hw.new hw.old ⟨_,fr,rfl,?_⟩ hw.tape hw.os hw.out) (run e1 (.inr hin') ?_) (by simp only[Y2];exact⟨l,Mp.put_same _ _ _,rfl⟩)
      ·have ext:=Mp.put_ext l (hs.fresh (Z2 H.nx))
       refine⟨oC,by omega,by rw[oC];exact hmul,by rw[OQ];exact hrr.room,(λh=>by cases h),?_,?_,λ_=>hrr.frz hown,λ_=>hrr.frs hown⟩
       ·intro j hj
        have hj:j<(len+n)*i.size:=hj
        show ∃v,_∧Y2 _ ((⟨r.elem,i.size,(len+n)*i.size,Tv r.cells (len*i.size) as,r.dflt,r.fz,r.sm,true,false⟩:Row).get j) v
        rw[P6 _ _ _ _ (by omega)]
        rcases hcell j (by omega) with⟨h1,h2⟩|⟨a,h1,h2,h3⟩
        ·rw[h2,if_neg (by omega)]
         obtain⟨v,hv,hrel⟩:=hrr.cell j (by omega)
         exact⟨v,hv,hrel.mono ext⟩
        ·obtain⟨v,hv,hrel⟩:=hf.rel.get h2
         rw[h3,if_pos (by omega)]
         refine⟨v,?_,hrel.mono ext⟩
         rw[show l.base+j - (l.base+len*i.size+0)=j - len*i.size by omega];exact hv
       ·intro j v hj hv
        have hj:j<(len+n)*i.size:=hj
        rw[P6 _ _ _ _ (by omega)] at hv
        split at hv
        ·exact hf.one v (UO hv)
        ·exact hrr.one j v (by omega) hv
      ·simp only[app,if_pos hin',Sem.run_bind,hf.run w rfl,Result.andThen_ok,QF]
       rw[Zf,hrun]
       rfl
     ·have hg: ¬(len+n<=(none:Option Nat).getD (l.tot - 0/l.sz)):=by rw[Nat.zero_div];exact hin
      obtain⟨k,rest,k1,k2,k3⟩:=GA (P:=P) (w:=w) (e:=e) (i:=i) (z:=z) L6 hg (hfo _) hf.run
      have td:=Tr.del (P:=P) (b:=b) hs.drew hl hwr.1
      refine UW (((Tr.drew hs).trans td).trans (Tr.alloc td.sim (.row ⟨r.elem,i.size,(len+n)*i.size,Tv r.cells (len*i.size) as,r.dflt,r.fz,r.sm,true,false⟩) _ ⟨w.heap.size,0,len+n+k,i.size⟩ rfl ⟨_,(0,0),by rw[hel],?_⟩)) (run e1 (.inl hfit) k1) (Rp (l:=⟨w.heap.size,0,len+n+k,i.size⟩) rfl)
      have ext:=Mp.put_ext ⟨w.heap.size,0,len+n+k,i.size⟩ (hs.fresh (Z2 H.nx))
      rw[Mw] at k2
      have lh:(len+n+k)*i.size=(len+n)*i.size+k*i.size:=VJ _ _ _
      refine⟨rfl,hsz,by rw[lh];exact Nat.le_add_right _ _,?_,(λh=>by cases h),?_,?_,?_,λ_ _=>.inl rfl⟩
      ·simp only[List.size_toArray,X3,o3,hvl,k2]
       rw[lh];omega
      ·intro j hj
       have hj:j<(len+n)*i.size:=hj
       simp only[Zd,Ve]
       rcases hcell j (by omega) with⟨h1,h2⟩|⟨a,h1,h2,h3⟩
       ·rw[h2]
        obtain⟨v,hv,hrel⟩:=o2.get (Pk r (len*i.size) 0 j h1)
        rw[Zd] at hrel
        refine⟨v,?_,hrel.mono ext⟩
        rw[Xb (by rw[X3];omega),Xb (by omega)]
        exact hv
       ·obtain⟨v,hv,hrel⟩:=hf.rel.get h2
        rw[h3]
        refine⟨v,?_,hrel.mono ext⟩
        rw[Xb (by rw[X3];omega),Xs (by omega),o3]
        exact hv
      ·intro j v _ hv
       simp only[Zd,Ve] at hv
       have:=UO hv
       rcases Z6.1 this with h|h
       ·rcases Z6.1 h with h|h
        ·exact o5 v h
        ·exact hf.one v h
       ·exact k3 v h
      ·intro _ j _ _
       simp only;omega
theorem v6(hs:VP P σ H w)(hρ:Ql P σ tm ρ){o:Oper}{xs:List Operand}{ts:List TypeId}(ho:o.op=.call ⟨.builtin .append,⟨xs⟩,⟨ts⟩⟩):WB P σ H w tm ρ o:=by
 refine T2 ho λcs=>?_
 rcases xs with _|⟨x,_|⟨y,_|⟨_,_⟩⟩⟩<;>try exact trivial
 rcases ts with _|⟨t,_|⟨t2,_|⟨_,_⟩⟩⟩<;>try exact trivial
 refine Wk λd hu=>Mb λe hd=>WY λi hi=>Tw λz hz=>V6 (λhzl=>Wk λd2 hu2=>?_) λ_=>SX
 subst hd
 have happ: ∀{n:Nat} {news:Sem (Array Value)} {as:List AV} {vs:List Value} (_:1<=i.size) (hf:iI P σ w i.size n news as vs)
   (h: ∀{base:Option Addr} {sLen sCap:Nat},ρ x=.slice base sLen sCap->((sLen+n)*i.bytes<=140737488355328∨sLen+n<=sCap)->(Builtin.append_ ⟨[t,t2]⟩ o.type ⟨[.slice base sLen sCap,ρ y]⟩).run P w=(app e i z base sLen sCap n news).run P w),
   XY P σ H w ((builtin .append ⟨[t,t2]⟩ o.type cs ⟨[ρ x,ρ y]⟩).run P w) (Jm (XO P x tm) e i.size i.bytes H n as):=by
  intro n news as vs hsz hf h
  rw[Xx,XK] at hzl
  have hzl:(Ud z).cells.length=i.size:=ZB hzl
  obtain⟨aJ,L6⟩:=RY (σ:=σ) z (by omega)
  have Mw:z.cells.size=i.size:=by rw[<-hzl,aJ.length];simp
  refine wN hs (hρ x) hsz L6 Mw hf λ{base sLen sCap v w'} e1 e2 e3=>Up ?_
  rw[e1]
  exact(h e1 e2).trans e3
 have hd2:(∃k,d2=.int k)∨ ∀k,d2≠.int k:=by
  cases d2<;>first
   |exact .inl ⟨_,rfl⟩
   |exact .inr (λk h=>by cases h)
 rcases hd2 with⟨k,rfl⟩|hd2
 ·refine Y0 λhsz=>Y0 λhb=>Rv λk' n hy=>Y0 λhn=>?_
  rw[X8] at hsz hb hn
  have hsz:1<=i.size:=ZB hsz
  have hb:1<=i.bytes:=ZB hb
  have hn:n*i.bytes<=140737488355328:=ZB hn
  have hy2:ρ y=.int k' (n:Nat):=by
   have:=hρ y
   rw[hy] at this
   have this:ρ y=.int k' (Int.ofNat n):=by simpa only[Y2] using this
   rw[this];rfl
  rw[Xx,XK] at hzl
  have cZ:(Ud z).cells.length=i.size:=ZB hzl
  obtain⟨aJ,L6⟩:=RY (σ:=σ) z (by omega)
  have Mw:z.cells.size=i.size:=by rw[<-cZ,aJ.length];simp
  refine happ (vs:=(Builtin.zeroCells z.cells n).toList) (news:=xD i z n) hsz ⟨?_,(Mo L6 n).2,by simpa [Mw] using (Mo L6 n).1,λw' _=>?_⟩ λ{base sLen sCap} e1 e2=>?_
  ·have:=(HB (σ:=σ) aJ (λv hv=>L6 v hv) (by omega) n).1
   rw[cZ,<-Mw] at this
   exact this
  ·unfold xD
   split
   ·next h0=>
    have:Builtin.zeroCells z.cells n= #[]:=by
     apply Array.ext'
     have:=(Mo L6 n).1
     rw[Mw,h0] at this
     exact Vs.1 (by simpa using this)
    simp[this]
   ·simp
  ·rw[hy2]
   exact qI hu hu2 hi hz hb hn e2
 have hno:xU (B4 (XO P x) (XO P y) e i.size i.bytes (Ud z).cells) (UJ (XO P x) (XO P y) e i.size i.bytes) d2=UJ (XO P x) (XO P y) e i.size i.bytes:=by
  cases d2<;>first|rfl|exact absurd rfl (hd2 _)
 rw[hno]
 refine Y0 λhsz=>Y0 λhb=>Da λn hn=>K6 hs (hρ y) hn (Z2 _) λas vs hf=>?_
 rw[X8] at hsz hb
 have hsz:1<=i.size:=ZB hsz
 have hb:1<=i.bytes:=ZB hb
 have hlenOf:=DG (P:=P) hn (hρ y) w
 exact happ hsz ⟨hf.rel,hf.one,hf.len,hf.run⟩ λe1 e2=>n8 hu hu2 hd2 hi hz hlenOf hb e2
def mm(mx:Bool):Value->Value->Sem Value:=if mx then Builtin.max2 else Builtin.min2
theorem Db{r:Result Next}(hs:VP P σ H w){mx:Bool}{k:IntKind}: ∀(as:List AV) (vs:List Value) (a:Int),XG σ as vs->
  (∀v,(vs.foldlM (mm mx) (.int k a):Sem Value).run P w=.ok v w->r=.ok (.value v) w)->XY P σ H w r (min2 mx k a H as)
 |[],vs,a,h,g=>by
  rw[h.nil_inv] at g
  exact YT hs (x:=.int k a) (g _ rfl) (by simp[Y2])
 |x::as,vs,a,h,g=>by
  obtain⟨v,vs',h1,h2,rfl⟩:=h.cons_inv
  unfold min2
  split
  ·rename_i j b
   refine Y0 λhk=>?_
   have:=R4 hk;subst this
   have h1:=W3 h1
   subst h1
   refine Db hs as vs' _ h2 λv hv=>g v ?_
   rw[List.foldlM_cons]
   cases mx with
   |true=>
    simp only[mm,if_true,Builtin.max2,Sem.run_bind,Sem.run_pure,Result.andThen_ok]
    rw[<-hv]
    congr 2
    by_cases hh:a<b
    ·simp[hh,NW]
    ·simp[hh,NW]
   |false=>
    simp only[mm,WO,if_false,Builtin.min2,Sem.run_bind,Sem.run_pure,Result.andThen_ok]
    rw[<-hv]
    congr 2
    by_cases hh:b<a
    ·simp[hh,NW]
    ·simp[hh,NW]
  ·trivial
theorem Ds(hs:VP P σ H w)(hρ:Ql P σ tm ρ){o:Oper}{mx:Bool}{xs:List Operand}{ts:List TypeId}(ho:o.op=.call ⟨.builtin (if mx then .max else .min),⟨xs⟩,⟨ts⟩⟩):WB P σ H w tm ρ o:=by
 refine T2 ho λcs=>?_
 have key: ∀r,(∀v,(match xs.map ρ with|[]=>.halt (.stuck "")|x::rest=>rest.foldlM (mm mx) x:Sem Value).run P w=.ok v w->r=.ok (.value v) w)->XY P σ H w r (T6 mx (xs.map (XO P)) tm H):=by
  intro r hrr
  unfold T6
  have hr:=Km hρ xs
  split
  ·rename_i k a l he
   rw[he] at hr
   obtain⟨v,vs,h1,h2,h3⟩:=hr.cons_inv
   have h1:=W3 h1
   subst h1
   exact Db hs l vs a h2 λv hv=>hrr v (by rw[h3];exact hv)
  ·trivial
 cases mx with
 |true=>
  refine key _ λv hv=>Up (s:=Builtin.max_ ⟨ts⟩ o.type ⟨xs.map ρ⟩) ?_
  simp only[Builtin.max_]
  cases hl:xs.map ρ with
  |nil=>rw[hl] at hv;cases hv
  |cons x l=>rw[hl] at hv;exact hv
 |false=>
  refine key _ λv hv=>Up (s:=Builtin.min_ ⟨ts⟩ o.type ⟨xs.map ρ⟩) ?_
  simp only[Builtin.min_]
  cases hl:xs.map ρ with
  |nil=>rw[hl] at hv;cases hv
  |cons x l=>rw[hl] at hv;exact hv
theorem Jc{g:Nat}{cs:Array Value}{t:TypeId}{fr:Nat×Nat}(h:w.heap[g]? =some (.cells cs t fr)): ∀(ns:List Int) (o:Nat) (acc:ByteArray),
  (∀(j:Nat) (v:Value),(ns.map (Value.int .u8))[j]? =some v->cs[o+j]? =some v)->(loadBytes ⟨g,o,none⟩ acc ns.length).run P w=.ok (ns.foldl (λr n=>r.push (UInt8.ofNat n.toNat)) acc) w
 |[],o,acc,_=>rfl
 |n::ns,o,acc,hv=>by
  have h0:=hv 0 (.int .u8 n) rfl
  simp only[Zm,loadBytes,Sem.run_bind,run_load,J1 h,Zf] at h0 ⊢
  rw[h0]
  simp only[Result.andThen_ok,QF]
  exact Jc h ns (o+1) _ λj v hj=>by
   have:=hv (j+1) v (by simpa using hj)
   rw[<-this];congr 1;omega
theorem Cm{w:World}{g o n:Nat}{cs:Array Value}{t:TypeId}{fr:Nat×Nat}(h:w.heap[g]? =some (.cells cs t fr))(hn:n≠0):
  EG w (w.freeze ⟨g,o,none⟩ n) g (.cells cs t (if fr.1=fr.2 then(o,o+n) else(min fr.1 o,max fr.2 (o+n)))):=by
 obtain⟨a,b⟩:=fr
 refine⟨by simp[World.freeze,hn],?_,λk hk=>?_,by simp[World.freeze,hn],by simp[World.freeze,hn],by simp[World.freeze,hn]⟩
 ·simp only[World.freeze,hn,if_false,VH]
  rw[h];simp
 ·simp only[World.freeze,hn,if_false,VH]
  rw[if_neg (λe=>hk e.symm)]
theorem DF(k:IntKind)(n:Int):(asInt (.int k n)).run P w=.ok n w:=rfl
theorem uW(pt ty:TypeId)(rest:List TypeId)(k:IntKind)(p:Option Addr):(Builtin.unsafeString_ ⟨pt::rest⟩ ty #[.pointer p,.int k 0]).run P w=.ok (.string .empty) w:=by
 show((asInt (.int k 0))>>=_:Sem Value).run P w=_
 rw[Sem.run_bind,DF]
 cases p<;>rfl
theorem uV{pt ty e:TypeId}(rest:List TypeId){k:IntKind}{n:Nat}{a:Addr}{s:ByteArray}(hu:P.underlying pt=some (.pointer e))(h0:n≠0)(hn:n<=140737488355328)
  (hv:(variablesAt a e n).run P w=.ok true w)(hl:(loadBytes a .empty n).run P w=.ok s w):
  (Builtin.unsafeString_ ⟨pt::rest⟩ ty #[.pointer (some a),.int k (n:Int)]).run P w=.ok (.string s) (w.freeze a n):=by
 show((asInt (.int k (n:Int)))>>=_:Sem Value).run P w=_
 have p1: ¬((n:Int)<0):=by omega
 have p2: ¬((n:Int)>IntKind.i64.max):=by
  have:IntKind.i64.max=9223372036854775807:=by decide
  omega
 have p3: ¬((n:Int)=0):=by omega
 rw[Sem.run_bind,DF]
 simp only[Result.andThen_ok,Ve,Tg,p1,if_false,p2,p3,Sem.run_bind,elemOf,run_underlying hu,Sem.run_pure,UA,hv,if_true,hl,run_freeze]
theorem nS(hs:VP P σ H w)(hρ:Ql P σ tm ρ){o:Oper}{xs:List Operand}{ts:List TypeId}(ho:o.op=.call ⟨.builtin .unsafeString,⟨xs⟩,⟨ts⟩⟩):WB P σ H w tm ρ o:=by
 refine T2 ho λcs=>?_
 rcases xs with _|⟨x,_|⟨y,_|⟨_,_⟩⟩⟩<;>try exact trivial
 rcases ts with _|⟨t,_|⟨t2,_|⟨_,_⟩⟩⟩<;>try exact trivial
 refine Wk λd hu=>wP λe hd=>WY λi hi=>V6 (λhsz=>?_) λ_=>SX
 subst hd
 rw[Xx] at hsz
 have hsz:i.size=1:=ZB hsz
 refine Rv λk n hn=>?_
 have g1:=hρ x
 have g2:=hρ y
 rw[hn] at g2
 have g2:=W3 g2
 refine Tp (λh0=>?_) λh0=>Y0 λhmax=>PG λb off hx=>SB λr hr=>Y0 λhel=>Y0 λMv=>Y0 λhle=>?_
 ·rw[Xx] at h0
  have h0:n=0:=ZB h0
  subst h0
  have fin: ∀p,ρ x=.pointer p->XY P σ H w ((builtin .unsafeString ⟨[t,t2]⟩ o.type cs ⟨[ρ x,ρ y]⟩).run P w) (.val (.str []) H):=by
   intro p e1
   refine YT hs (x:=.string .empty) ?_ (by simp only[Y2];rfl)
   refine Up (s:=Builtin.unsafeString_ ⟨[t,t2]⟩ o.type #[ρ x,ρ y]) ?_
   rw[e1,g2]
   exact uW _ _ _ _ _
  split
  ·rename_i hx
   rw[hx] at g1
   exact fin none (by simpa only[Y2] using g1)
  ·rename_i b off hx
   rw[hx] at g1
   obtain⟨l,_,e1⟩:=TA g1
   exact fin _ e1
  ·trivial
 ·rw[hx] at g1
  obtain⟨l,hl,e1⟩:=TA g1
  obtain⟨cs',fr,hc,hrr⟩:=hs.row hr hl
  have Di:r.sm=false∧H.may r b=true:=by
   cases hsm:r.sm with
   |true=>rw[hsm] at Mv;cases Mv
   |false=>rw[hsm] at Mv;exact⟨rfl,Mv⟩
  obtain⟨hwr,hown⟩:=Wr.of_may Di.2 hr
  rw[Xx] at h0 hel
  rw[X8] at hmax hle
  have h0:n≠0:=of_decide_eq_false h0
  have hel:r.elem=e:=ZB hel
  have hmax:n<=140737488355328:=ZB hmax
  have hle:off+n<=r.size:=ZB hle
  have q1:=hrr.fits
  have q2:=hrr.room
  obtain⟨vs,h2,h3,h4,h5⟩:=OH hrr n off hle
  refine M2 _ vs h2 λns hns=>?_
  subst hns
  have hnl:ns.length=n:=by simpa using h3
  have hcell:P.cellsOf e=1:=by simp[Program.cellsOf,hi,hsz]
  have hw:=Cm (o:=l.base+off) (n:=n) hc h0
  refine UW (Tr.write hs hr hl hwr hw.size hw.new hw.old ⟨_,_,rfl,?_⟩ hw.tape hw.os hw.out) (x:=.string ⟨(ns.map Bq).toArray⟩) ?_ (by simp[Y2])
  ·have hfz:(cond (Nat.ble r.fz (Nat.add off n)) (Nat.add off n) r.fz)=max r.fz (off+n):=by
    rw[X8]
    show cond _ (off+n) r.fz=_
    by_cases hh:r.fz<=off+n
    ·rw[show decide (r.fz<=Nat.add off n)=true from Zr hh];simp only[cond_true];omega
    ·rw[show decide (r.fz<=Nat.add off n)=false from Zj hh];simp only[cond_false];omega
   rw[hfz]
   refine⟨hrr.sz,hrr.sz1,hrr.fits,hrr.room,hrr.exact,hrr.cell,hrr.one,?_,?_⟩
   ·intro _ j hj hj2
    have hj:max r.fz (off+n)<=j:=hj
    have:=hrr.frs hown Di.1
    split
    ·simp only;omega
    ·simp only;omega
   ·intro _ _
    have:=hrr.frs hown Di.1
    right
    split
    ·simp only;omega
    ·simp only;omega
  ·refine Up (s:=Builtin.unsafeString_ ⟨[t,t2]⟩ o.type #[ρ x,ρ y]) ?_
   rw[e1,g2]
   have hsh:=IL hc
   have hlies:liesAt P P.depth r.elem (cs'.size/P.cellsOf r.elem) (l.base+off) e n=true:=by
    rw[hel]
    refine xv (by omega) (by rw[hcell];omega) ?_
    rw[hcell,Nat.div_one,Nat.div_one];omega
   have hld:=Jc (P:=P) hc ns (l.base+off) .empty h4
   rw[hnl,I9] at hld
   exact uV _ hu h0 hmax (by simp only[variablesAt,Sem.run_bind,run_program,Result.andThen_ok,run_shape,hsh,hlies,Sem.run_pure]) (by simpa using hld)
def JR(P:Program)(σ:Mp)(D:Nat)(t:Nat)(f:AV->AV->Option Bool):Prop:=
 ∀(a b:AV) (x y:Value) (r:Bool) (w:World),Y2 σ a x->Y2 σ b y->f a b=some r->(Op.equalIn D t x y).run P w=.ok r w
theorem sa{t D:Nat}(hu:P.underlying t=some .bool):JR P σ (D+1) t tc:=by
 intro a b x y r w ha hb h
 unfold tc at h
 split at h
 ·cases h
  rw[SJ ha,SJ hb,run_equalIn_bool w D t _ _ hu]
  rename_i p q
  cases p<;>cases q<;>rfl
 ·cases h
theorem kx{t D:Nat}{k':IntKind}(hu:P.underlying t=some (.int k')):JR P σ (D+1) t Vj:=by
 intro a b x y r w ha hb h
 unfold Vj at h
 split at h
 ·rename_i j p k q
  cases hk:MU j k with
  |false=>rw[hk] at h;cases h
  |true=>
   rw[hk] at h
   have:=R4 hk;subst this
   cases h
   rw[W3 ha,W3 hb,run_equalIn_int w D t _ _ _ _ hu,PP]
 ·cases h
theorem kz{t D:Nat}(hu:P.underlying t=some .string):JR P σ (D+1) t Nw:=by
 intro a b x y r w ha hb h
 unfold Nw at h
 split at h
 ·cases h
  rw[U9 ha,U9 hb,run_equalIn_string w D t _ _ hu,Qk,KX,KX]
 ·cases h
theorem MM{v:Value}(h:Y2 σ .nilp v):v=.pointer none:=by simpa [Y2] using h
theorem PX{v:Value}(h:Y2 σ .nils v):v=.slice none 0 0:=by simpa [Y2] using h
theorem Na{v:Value}(h:Y2 σ .nilm v):v=.map none:=by simpa [Y2] using h
theorem ML{v:Value}(h:Y2 σ .nilf v):v=.nilFunc:=by simpa [Y2] using h
theorem PW{v:Value}(h:Y2 σ .nili v):v=.nilIface:=by simpa [Y2] using h
theorem KS{b:Nat}{v:Value}(h:Y2 σ (.map b) v): ∃l,σ b=some l∧v=.map (some l.blk):=by simpa only[Y2] using h
theorem NY{f:Nat}{a b:List AV}{v:Value}(h:Y2 σ (.func f a b) v): ∃x y,XG σ a x∧XG σ b y∧v=.func (.func f) ⟨x⟩ ⟨y⟩:=by simpa only[Y2] using h
theorem Su{t:Nat}{a:AV}{v:Value}(h:Y2 σ (.iface t a) v): ∃x,Y2 σ a x∧v=.iface t x:=by simpa only[Y2] using h
theorem Lf{cs:List AV}{v:Value}(h:Y2 σ (.agg cs) v): ∃vs,XG σ cs vs∧(∀x∈vs,x.oneCell'=true)∧v=.agg ⟨vs⟩:=by simpa only[Y2] using h
theorem so{t D e:Nat}{i:TypeInfo}(hu:P.underlying t=some (.pointer e))(hi:P.info? e=some i)(h0:i.size≠0):JR P σ (D+1) t oh:=by
 intro a b x y r w ha hb h
 unfold oh at h
 split at h
 ·cases h;rw[MM ha,MM hb];simp[Op.equalIn,run_underlying hu]
 ·cases h;obtain⟨l,_,e1⟩:=TA hb;rw[MM ha,e1];simp[Op.equalIn,run_underlying hu]
 ·cases h;obtain⟨l,_,e1⟩:=TA ha;rw[MM hb,e1];simp[Op.equalIn,run_underlying hu]
 ·rename_i b o c p
  rw[Xx,Xx] at h
  by_cases hbc:b=c
  ·subst hbc
   rw[Zr rfl] at h
   cases h
   obtain⟨l,hl,e1⟩:=TA ha
   obtain⟨l2,hl2,e2⟩:=TA hb
   rw[hl] at hl2;cases hl2
   rw[e1,e2]
   simp only[Op.equalIn,Sem.run_bind,run_underlying hu,Result.andThen_ok,VO hi,sameAddr]
   rw[if_pos h0]
   simp only[beq_self_eq_true,if_true,Sem.run_pure,Result.ok.injEq,and_true]
   by_cases hop:o=p
   ·subst hop;simp
   ·rw[Zj hop]
    rw[beq_eq_false_iff_ne]
    intro he
    have:=congrArg Addr.off he
    simp only at this
    omega
  ·rw[Zj hbc] at h;cases h
 ·cases h
theorem si{t D e:Nat}(hu:P.underlying t=some (.slice e)):JR P σ (D+1) t og:=by
 intro a b x y r w ha hb h
 unfold og at h
 split at h
 ·cases h;rw[PX ha,PX hb];simp[Op.equalIn,run_underlying hu]
 ·cases h;obtain⟨l,_,e1⟩:=Tt hb;rw[PX ha,e1];simp[Op.equalIn,run_underlying hu]
 ·cases h;obtain⟨l,_,e1⟩:=Tt ha;rw[PX hb,e1];simp[Op.equalIn,run_underlying hu]
 ·cases h;obtain⟨l,e1⟩:=(by simpa only[Y2] using hb: ∃a,y=.slice (some a) 0 0);rw[PX ha,e1];simp[Op.equalIn,run_underlying hu]
 ·cases h;obtain⟨l,e1⟩:=(by simpa only[Y2] using ha: ∃a,x=.slice (some a) 0 0);rw[PX hb,e1];simp[Op.equalIn,run_underlying hu]
 ·cases h
theorem sj{t D k e:Nat}(hu:P.underlying t=some (.map k e)):JR P σ (D+1) t il:=by
 intro a b x y r w ha hb h
 unfold il at h
 split at h
 ·cases h;rw[Na ha,Na hb];simp[Op.equalIn,run_underlying hu]
 ·cases h;obtain⟨l,_,e1⟩:=KS hb;rw[Na ha,e1];simp[Op.equalIn,run_underlying hu]
 ·cases h;obtain⟨l,_,e1⟩:=KS ha;rw[Na hb,e1];simp[Op.equalIn,run_underlying hu]
 ·cases h
theorem sk{t D:Nat}{p q:Array TypeId}{v:Bool}(hu:P.underlying t=some (.func p q v)):JR P σ (D+1) t ip:=by
 intro a b x y r w ha hb h
 unfold ip at h
 split at h
 ·cases h;rw[ML ha,ML hb];simp[Op.equalIn,run_underlying hu]
 ·cases h;obtain⟨_,_,_,_,e1⟩:=NY hb;rw[ML ha,e1];simp[Op.equalIn,run_underlying hu]
 ·cases h;obtain⟨_,_,_,_,e1⟩:=NY ha;rw[ML hb,e1];simp[Op.equalIn,run_underlying hu]
 ·cases h
theorem sb{t D:Nat}{ms:Array (String×TypeId)}{lit:Bool}{g:Nat->AV->AV->Option Bool}(hu:P.underlying t=some (.interface ms))(hg: ∀t,JR P σ D t (g t)):JR P σ (D+1) t (Fb lit (By P g)):=by
 intro a b x y r w ha hb h
 unfold Fb at h
 split at h
 ·cases lit
  ·cases h
  ·cases h;rw[PW ha,PW hb];simp[Op.equalIn,run_underlying hu]
 ·cases h;obtain⟨_,_,e1⟩:=Su hb;rw[PW ha,e1];simp[Op.equalIn,run_underlying hu]
 ·cases h;obtain⟨_,_,e1⟩:=Su ha;rw[PW hb,e1];simp[Op.equalIn,run_underlying hu]
 ·rename_i t1 v1 t2 v2
  obtain⟨x1,h1,e1⟩:=Su ha
  obtain⟨y1,h2,e2⟩:=Su hb
  rw[e1,e2]
  rw[Xx] at h
  by_cases ht:t1=t2
  ·subst ht
   rw[Zr rfl] at h
   have h:By P g t1 v1 v2=some r:=h
   unfold By at h
   split at h
   ·rename_i i hi
    cases hc:i.comparable with
    |false=>rw[hc] at h;cases h
    |true=>
     rw[hc] at h
     have hti:(typeInfo t1).run P w=.ok i w:=by simp[typeInfo,hi]
     simp only[Op.equalIn,Sem.run_bind,run_underlying hu,Result.andThen_ok,ne_eq,not_true_eq_false,if_false,hti,hc,Bool.not_true,WO]
     exact hg t1 v1 v2 x1 y1 r w h1 h2 h
   ·cases h
  ·rw[Zj ht] at h
   cases h
   simp[Op.equalIn,run_underlying hu,ht]
 ·cases h
theorem pw{t:Nat}{ag:Bool}(h:l7 P t=some ag): ∃d,P.underlying t=some d∧Mx P t=ag:=by
 unfold l7 at h
 unfold Mx
 split at h<;>rename_i e<;>cases h
 ·rw[e];exact⟨_,rfl,rfl⟩
 ·rw[e];exact⟨_,rfl,rfl⟩
 ·rename_i d h1 h2
  rw[e]
  refine⟨d,rfl,?_⟩
  cases d<;>first|rfl|exact absurd rfl (h1 _)|exact absurd rfl (h2 _ _)
theorem IA{t:Nat}{cs:List AV}{vs:List Value}{off:Nat}{k:AV->Option Bool}{r:Bool}(hr:XG σ cs vs)(hone: ∀x∈vs,x.oneCell'=true)(h:Du P t cs off k=some r):
  ∃a x,Y2 σ a x∧k a=some r∧ ∀w:World,(part t ⟨vs⟩ off).run P w=.ok x w:=by
 unfold Du at h
 split at h
 ·rename_i i ag hi hag
  obtain⟨d,hu,hia⟩:=pw hag
  cases ag with
  |true=>
   have h:k (.agg (NA i.size (OU off cs)))=some r:=h
   rw[MQ,MF] at h
   refine⟨_,.agg ⟨(vs.drop off).take i.size⟩,?_,h,λw=>?_⟩
   ·simp only[Y2]
    exact⟨_,(hr.drop _).take _,λy hy=>hone y (Se (Tn hy)),rfl⟩
   ·simp only[part,Sem.run_bind,OJ (w:=w) hu,hia,Result.andThen_ok,if_true,VO hi,Sem.run_pure]
    congr 2
    apply Array.ext'
    simp[Ui]
  |false=>
   have h:(match FG cs off with|some v=>k v|none=>none)=some r:=h
   rw[It] at h
   split at h
   ·rename_i v hv
    obtain⟨x,hx,hrel⟩:=hr.get hv
    refine⟨v,x,hrel,h,λw=>?_⟩
    simp only[part,Sem.run_bind,OJ (w:=w) hu,hia,Result.andThen_ok,WO,if_false]
    simp[hx]
   ·cases h
 ·cases h
theorem HM{e c D:Nat}{f:AV->AV->Option Bool}(hf:JR P σ D e f){l m:List AV}{xs ys:List Value}(hl:XG σ l xs)(hm:XG σ m ys)(hlo: ∀x∈xs,x.oneCell'=true)(hmo: ∀x∈ys,x.oneCell'=true):
  ∀(is:List Nat) (r:Bool) (w:World),J8 P f e c l m is=some r->(Op.eqItems D e c ⟨xs⟩ ⟨ys⟩ is).run P w=.ok r w
 |[],r,w,h=>by cases h;rfl
 |i::is,r,w,h=>by
  unfold J8 at h
  obtain⟨a,x,h1,h2,h3⟩:=IA hl hlo h
  obtain⟨b,y,g1,g2,g3⟩:=IA hm hmo h2
  unfold pz at g2
  split at g2
  ·rename_i t ht
   have he:=hf a b x y t w h1 g1 ht
   simp only[Op.eqItems,Sem.run_bind,h3 w,g3 w,he,Result.andThen_ok]
   cases t with
   |true=>simpa using HM hf hl hm hlo hmo is r w g2
   |false=>cases g2;simp
  ·cases g2
theorem M0{D:Nat}{g:Nat->AV->AV->Option Bool}(hf: ∀t,JR P σ D t (g t)){l m:List AV}{xs ys:List Value}(hl:XG σ l xs)(hm:XG σ m ys)(hlo: ∀x∈xs,x.oneCell'=true)(hmo: ∀x∈ys,x.oneCell'=true):
  ∀(fs:List Field) (r:Bool) (w:World),NK P g l m fs=some r->(Op.eqFields D ⟨xs⟩ ⟨ys⟩ fs).run P w=.ok r w
 |[],r,w,h=>by cases h;rfl
 |f::fs,r,w,h=>by
  unfold NK at h
  unfold Op.eqFields
  cases hn:f.name== "_" with
  |true=>
   rw[hn] at h
   rw[if_neg (by simpa using hn)]
   exact M0 hf hl hm hlo hmo fs r w h
  |false=>
   rw[hn] at h
   simp only[cond_false] at h
   rw[if_pos (by simpa using hn)]
   obtain⟨a,x,h1,h2,h3⟩:=IA hl hlo h
   obtain⟨b,y,g1,g2,g3⟩:=IA hm hmo h2
   unfold pz at g2
   split at g2
   ·rename_i t ht
    have he:=hf f.type a b x y t w h1 g1 ht
    simp only[Sem.run_bind,h3 w,g3 w,he,Result.andThen_ok]
    cases t with
    |true=>simpa using M0 hf hl hm hlo hmo fs r w g2
    |false=>cases g2;simp
   ·cases g2
theorem kq{t D:Nat}{lit:Bool}{g:Nat->AV->AV->Option Bool}{d:TypeDesc}(hu:P.underlying t=some d)(hg: ∀t,JR P σ D t (g t)):JR P σ (D+1) t (λa b=>aG P lit g t a b d):=by
 intro a b x y r w ha hb h
 cases d<;>simp only[aG] at h<;>first
  |cases h;done
  |exact sa hu a b x y r w ha hb h
  |exact kx hu a b x y r w ha hb h
  |exact kz hu a b x y r w ha hb h
  |exact si hu a b x y r w ha hb h
  |exact sj hu a b x y r w ha hb h
  |exact sk hu a b x y r w ha hb h
  |exact sb hu hg a b x y r w ha hb h
  |skip
 case pointer e=>
  split at h
  ·rename_i i hi
   rw[Xx] at h
   by_cases h0:i.size=0
   ·rw[Zr h0] at h;cases h
   ·rw[Zj h0] at h
    exact so hu hi h0 a b x y r w ha hb h
  ·cases h
 case array n e=>
  unfold A3 at h
  split at h
  ·split at h
   ·rename_i i hi
    obtain⟨xs,h1,h2,e1⟩:=Lf ha
    obtain⟨ys,g1,g2,e2⟩:=Lf hb
    have:=HM (hg e) h1 g1 h2 g2 (List.range n) r w h
    rw[e1,e2,run_equalIn_array w D ⟨xs⟩ ⟨ys⟩ hu hi]
    rw[show P.cellsOf e=i.size by simp[Program.cellsOf,hi]]
    exact this
   ·cases h
  ·cases h
 case struct fs=>
  cases hst:P.stoodInHeld t with
  |true=>rw[hst] at h;cases h
  |false=>
   rw[hst] at h
   have h:A3 a b (λl m=>NK P g l m fs.toList)=some r:=h
   unfold A3 at h
   split at h
   ·obtain⟨xs,h1,h2,e1⟩:=Lf ha
    obtain⟨ys,g1,g2,e2⟩:=Lf hb
    have:=M0 hg h1 g1 h2 g2 fs.toList r w h
    have hfs:P.fieldsOf t=fs:=by simp[Program.fieldsOf,hu]
    rw[e1,e2,run_equalIn_struct w D t ⟨xs⟩ ⟨ys⟩ (by rw[hfs];exact hu) hst,hfs]
    exact this
   ·cases h
theorem zq: ∀(d D t:Nat),d<=D->JR P σ D t (Ek P d t)
 |0,D,t,_=>by intro a b x y r w ha hb h;cases h
 |d+1,D,t,hD=>by
  obtain⟨D',rfl⟩: ∃D',D=D'+1:=⟨D - 1,by omega⟩
  intro a b x y r w ha hb h
  unfold Ek at h
  split at h
  ·rename_i u hu
   exact kq (lit:=true) hu (λt=>zq d D' t (by omega)) a b x y r w ha hb h
  ·cases h
def K2(P:Program)(σ:Mp)(t:Nat)(X Y:Operand)(f:AV->AV->Option Bool):Prop:=
 ∀(a b:AV) (x y:Value) (r:Bool) (w:World),Y2 σ a x->Y2 σ b y->f a b=some r->
  (∀op,(eqGuard op t X Y x y).run P w=.ok () w)∧(binOp .eql t x y).run P w=.ok (.bool r) w∧(binOp .neq t x y).run P w=.ok (.bool (!r)) w
def zV(v:Value):Bool:=match v with|.int .. |.float .. |.complex .. |.string _=>false|_=>true
theorem pI{t:TypeId}{x y:Value}(h:zV x=true):binOp .eql t x y=(do pure (.bool (<-Op.equal t x y))):=by
 cases x<;>first|(cases h;done)|(unfold binOp;rfl)
theorem pJ{t:TypeId}{x y:Value}(h:zV x=true):binOp .neq t x y=(do pure (.bool (!(<-Op.equal t x y)))):=by
 cases x<;>first|(cases h;done)|(unfold binOp;rfl)
theorem N5{t:TypeId}{X Y:Operand}{x y:Value}{r:Bool}(h:zV x=true)(hg: ∀op,(eqGuard op t X Y x y).run P w=.ok () w)(he:(Op.equalIn 10000 t x y).run P w=.ok r w):
  (∀op,(eqGuard op t X Y x y).run P w=.ok () w)∧(binOp .eql t x y).run P w=.ok (.bool r) w∧(binOp .neq t x y).run P w=.ok (.bool (!r)) w:=by
 have he:(Op.equal t x y).run P w=.ok r w:=he
 refine⟨hg,?_,?_⟩
 ·rw[pI h];simp[he]
 ·rw[pJ h];simp[he]
theorem TF{t:TypeId}{X Y:Operand}{x y:Value}(h1: ∀v,x≠.agg v)(h2:x≠.nilIface∨y≠.nilIface)(op:BinOp):(eqGuard op t X Y x y).run P w=.ok () w:=by
 cases op<;>simp only[eqGuard]<;>first
  |rfl
  |(cases x<;>first
    |rfl
    |exact absurd rfl (h1 _)
    |(cases y<;>first
      |rfl
      |(rcases h2 with h2|h2<;>exact absurd rfl h2)))
theorem ZeF{t:TypeId}{X Y:Operand}(hu:P.underlying t=some .bool):K2 P σ t X Y tc:=by
 intro a b x y r w ha hb h
 have he:=sa (D:=9999) hu a b x y r w ha hb h
 unfold tc at h
 split at h
 ·have ha:=SJ ha;subst ha
  exact N5 rfl (TF (λ_ h=>by cases h) (.inl λh=>by cases h)) he
 ·cases h
theorem ZeL{t e:TypeId}{X Y:Operand}{i:TypeInfo}(hu:P.underlying t=some (.pointer e))(hi:P.info? e=some i)(h0:i.size≠0):K2 P σ t X Y oh:=by
 intro a b x y r w ha hb h
 have he:=so (D:=9999) hu hi h0 a b x y r w ha hb h
 have: ∃p,x=.pointer p:=by
  unfold oh at h
  split at h
  ·exact⟨_,MM ha⟩
  ·exact⟨_,MM ha⟩
  ·obtain⟨_,_,e1⟩:=TA ha;exact⟨_,e1⟩
  ·obtain⟨_,_,e1⟩:=TA ha;exact⟨_,e1⟩
  ·cases h
 obtain⟨p,rfl⟩:=this
 exact N5 rfl (TF (λ_ h=>by cases h) (.inl λh=>by cases h)) he
theorem ZeI{t e:TypeId}{X Y:Operand}(hu:P.underlying t=some (.slice e)):K2 P σ t X Y og:=by
 intro a b x y r w ha hb h
 have he:=si (D:=9999) hu a b x y r w ha hb h
 have: ∃p n c,x=.slice p n c:=by
  unfold og at h
  split at h
  ·exact⟨_,_,_,PX ha⟩
  ·exact⟨_,_,_,PX ha⟩
  ·obtain⟨_,_,e1⟩:=Tt ha;exact⟨_,_,_,e1⟩
  ·exact⟨_,_,_,PX ha⟩
  ·obtain⟨_,e1⟩:=(by simpa only[Y2] using ha: ∃a,x=.slice (some a) 0 0);exact⟨_,_,_,e1⟩
  ·cases h
 obtain⟨p,n,c,rfl⟩:=this
 exact N5 rfl (TF (λ_ h=>by cases h) (.inl λh=>by cases h)) he
theorem ZeJ{t k e:TypeId}{X Y:Operand}(hu:P.underlying t=some (.map k e)):K2 P σ t X Y il:=by
 intro a b x y r w ha hb h
 have he:=sj (D:=9999) hu a b x y r w ha hb h
 have: ∃p,x=.map p:=by
  unfold il at h
  split at h
  ·exact⟨_,Na ha⟩
  ·exact⟨_,Na ha⟩
  ·obtain⟨_,_,e1⟩:=KS ha;exact⟨_,e1⟩
  ·cases h
 obtain⟨p,rfl⟩:=this
 exact N5 rfl (TF (λ_ h=>by cases h) (.inl λh=>by cases h)) he
theorem ZeK{t:TypeId}{p q:Array TypeId}{v:Bool}{X Y:Operand}(hu:P.underlying t=some (.func p q v)):K2 P σ t X Y ip:=by
 intro a b x y r w ha hb h
 have he:=sk (D:=9999) hu a b x y r w ha hb h
 have:x=.nilFunc∨ ∃f m n,x=.func f m n:=by
  unfold ip at h
  split at h
  ·exact .inl (ML ha)
  ·exact .inl (ML ha)
  ·obtain⟨_,_,_,_,e1⟩:=NY ha;exact .inr ⟨_,_,_,e1⟩
  ·cases h
 rcases this with rfl|⟨f,m,n,rfl⟩
 ·exact N5 rfl (TF (λ_ h=>by cases h) (.inl λh=>by cases h)) he
 ·exact N5 rfl (TF (λ_ h=>by cases h) (.inl λh=>by cases h)) he
theorem wW{t:TypeId}{X Y:Operand}(h:(Lr X||Lr Y)=true)(op:BinOp):(eqGuard op t X Y .nilIface .nilIface).run P w=.ok () w:=by
 have hc:((X matches .const _)||(Y matches .const _))=true:=by
  cases X<;>cases Y<;>first|rfl|cases h
 cases op<;>simp only[eqGuard]<;>first
  |rfl
  |(cases X<;>cases Y<;>first|rfl|cases h)
theorem ZeG{t:TypeId}{ms:Array (String×TypeId)}{X Y:Operand}(hu:P.underlying t=some (.interface ms)):K2 P σ t X Y (Fb (Lr X||Lr Y) (By P (Ek P 9))):=by
 intro a b x y r w ha hb h
 have he:=sb (D:=9999) hu (λt=>zq 9 9999 t (by omega)) a b x y r w ha hb h
 unfold Fb at h
 split at h
 ·cases hl:(Lr X||Lr Y) with
  |false=>rw[hl] at h;cases h
  |true=>
   have ha:=PW ha;subst ha
   have hb:=PW hb;subst hb
   exact N5 rfl (wW hl) he
 ·have ha:=PW ha;subst ha
  obtain⟨_,_,rfl⟩:=Su hb
  exact N5 rfl (TF (λ_ h=>by cases h) (.inr λh=>by cases h)) he
 ·obtain⟨_,_,rfl⟩:=Su ha
  exact N5 rfl (TF (λ_ h=>by cases h) (.inl λh=>by cases h)) he
 ·obtain⟨_,_,rfl⟩:=Su ha
  exact N5 rfl (TF (λ_ h=>by cases h) (.inl λh=>by cases h)) he
 ·cases h
theorem b9{t:TypeId}{X Y:Operand}(hag:(∃n e,P.underlying t=some (.array n e))∨ ∃fs,P.underlying t=some (.struct fs))(hg:P.eqGuardType P.depth t=false):K2 P σ t X Y (Ek P 10 t):=by
 intro a b x y r w ha hb h
 have he:=zq 10 10000 t (by omega) a b x y r w ha hb h
 have hab:(∃l,a=.agg l)∧ ∃m,b=.agg m:=by
  unfold Ek at h
  have agg: ∀{k:List AV->List AV->Option Bool},A3 a b k=some r->(∃l,a=.agg l)∧ ∃m,b=.agg m:=by
   intro k h
   unfold A3 at h
   split at h
   ·exact⟨⟨_,rfl⟩,⟨_,rfl⟩⟩
   ·cases h
  rcases hag with⟨n,e,hu⟩|⟨fs,hu⟩
  ·rw[hu] at h
   exact agg h
  ·rw[hu] at h
   simp only[aG] at h
   cases hst:P.stoodInHeld t with
   |true=>rw[hst] at h;cases h
   |false=>rw[hst] at h;exact agg h
 obtain⟨⟨l,rfl⟩,⟨m,rfl⟩⟩:=hab
 obtain⟨xs,_,_,rfl⟩:=Lf ha
 obtain⟨ys,_,_,rfl⟩:=Lf hb
 exact N5 rfl (λop=>run_eqGuard_agg w op t X Y _ _ hg) he
theorem ZeH{t:TypeId}{X Y:Operand}:K2 P σ t X Y Vj:=by
 intro a b x y r w ha hb h
 unfold Vj at h
 split at h
 ·rename_i j p k q
  cases hk:MU j k with
  |false=>rw[hk] at h;cases h
  |true=>
   rw[hk] at h
   have:=R4 hk;subst this
   have h:some (Eu p q)=some r:=h
   cases h
   have ha:=W3 ha;subst ha
   have hb:=W3 hb;subst hb
   rw[PP]
   exact⟨TF (λ_ h=>by cases h) (.inl λh=>by cases h),by simp[binOp,Op.intCmp],by simp[binOp,Op.intCmp,bne]⟩
 ·cases h
theorem ZeM{t:TypeId}{X Y:Operand}:K2 P σ t X Y Nw:=by
 intro a b x y r w ha hb h
 unfold Nw at h
 split at h
 ·rename_i p q
  cases h
  have ha:=U9 ha;subst ha
  have hb:=U9 hb;subst hb
  refine⟨TF (λ_ h=>by cases h) (.inl λh=>by cases h),?_,?_⟩
  ·simp[binOp,Op.stringOp,Qk]
  ·simp[binOp,Op.stringOp,bne,Qk]
 ·cases h
theorem Mz(hs:VP P σ H w)(hρ:Ql P σ tm ρ){o:Oper}{neg:Bool}{t u:TypeId}{x y:Operand}{f:AV->AV->Option Bool}(ho:o.op=.binOp (if neg then .neq else .eql) t x y u)(hf:K2 P σ t x y f):
  XY P σ H w ((execOp ρ o).run P w) (WM (XO P x) (XO P y) f neg tm H):=by
 refine Pf λr hr=>?_
 obtain⟨h1,h2,h3⟩:=hf _ _ _ _ r w (hρ x) (hρ y) hr
 refine Jy hs ?_
 simp only[execOp,ho]
 refine Up ?_
 rw[Sem.run_bind,h1]
 cases neg
 ·exact h2
 ·simp only[Result.andThen_ok]
  refine h3.trans ?_
  cases r<;>rfl
theorem qd(hs:VP P σ H w)(hρ:Ql P σ tm ρ){o:Oper}{neg:Bool}{t u:TypeId}{x y:Operand}(ho:o.op=.binOp (if neg then .neq else .eql) t x y u):
  XY P σ H w ((execOp ρ o).run P w) (U7 P t (eqK P t (Lr x||Lr y) neg (XO P x) (XO P y)) tm H):=by
 refine Wk λd hu=>?_
 cases d<;>try exact trivial
 case bool=>exact Mz hs hρ ho (ZeF hu)
 case int k=>exact Mz hs hρ ho ZeH
 case string=>exact Mz hs hρ ho ZeM
 case pointer e=>
  show XY P σ H w _ ((match P.info? e with|some i=>cond (Nat.beq i.size 0) U6 (WM (XO P x) (XO P y) oh neg)|none=>U6) tm H)
  cases hi:P.info? e with
  |none=>exact trivial
  |some i=>
   refine V6 (λ_=>SX) λh0=>?_
   rw[Xx] at h0
   exact Mz hs hρ ho (ZeL hu hi (of_decide_eq_false h0))
 case slice e=>exact Mz hs hρ ho (ZeI hu)
 case map k e=>exact Mz hs hρ ho (ZeJ hu)
 case func p q v=>exact Mz hs hρ ho (ZeK hu)
 case interface ms=>exact Mz hs hρ ho (ZeG hu)
 case array n e=>exact V6 (λ_=>SX) λh0=>Mz hs hρ ho (b9 (.inl ⟨n,e,hu⟩) h0)
 case struct fs=>exact V6 (λ_=>SX) λh0=>Mz hs hρ ho (b9 (.inr ⟨fs,hu⟩) h0)
theorem jy(hs:VP P σ H w)(hρ:Ql P σ tm ρ){o:Oper}{t u:TypeId}{x y:Operand}(ho:o.op=.binOp .eql t x y u):WB P σ H w tm ρ o:=by
 unfold WB
 have:=qd (neg:=false) hs hρ ho
 rw[ho]
 exact this
theorem jF(hs:VP P σ H w)(hρ:Ql P σ tm ρ){o:Oper}{t u:TypeId}{x y:Operand}(ho:o.op=.binOp .neq t x y u):WB P σ H w tm ρ o:=by
 unfold WB
 have:=qd (neg:=true) hs hρ ho
 rw[ho]
 exact this
theorem Xf.length: ∀{es:List RP} {l:List MapEntry},Xf σ es l->es.length=l.length
 |[],l,h=>by simp only[Xf] at h;subst h;rfl
 |a::es,l,h=>by simp only[Xf] at h;obtain⟨e,es',_,h2,rfl⟩:=h;simp[h2.length]
theorem N9:Xf σ [] []:=by simp[Xf]
theorem NF{a:RP}{as:List RP}{e:MapEntry}{es:List MapEntry}(h:Mr σ a e)(h':Xf σ as es):Xf σ (a::as) (e::es):=by
 simp only[Xf];exact⟨e,es,h,h',rfl⟩
theorem Xf.cons_inv{a:RP}{as:List RP}{l:List MapEntry}(h:Xf σ (a::as) l): ∃e es,Mr σ a e∧Xf σ as es∧l=e::es:=by simpa [Xf] using h
structure HC(P:Program)(σ:Mp)(kt:TypeId)(kd:TypeDesc)(eq:AV->AV->Option Bool):Prop where
 und:P.underlying kt=some kd
 check: ∀(b:Bool) (x:Value) (w:World),(Instr.checkKey b 10000 kt x).run P w=.ok () w
 now: ∀(a b:AV) (x y:Value) (r:Bool),Y2 σ a x->Y2 σ b y->eq a b=some r->Instr.sameNow kd x y=some r
 bits: ∀(a b:AV) (x y:Value),Y2 σ a x->Y2 σ b y->eq a b=some true->Instr.sameBits 10000 y x=true
 apart: ∀(k a b:AV) (t:Bool),LG a b=true->eq k a=some t-> ∃u,eq k b=some u∧(t=true->u=false)
theorem LM{kt:TypeId}{kd:TypeDesc}(hu:P.underlying kt=some kd)(hk:(match kd with|.string|.int _|.bool=>true|_=>false)=true)(b:Bool)(x:Value)(w:World):(Instr.checkKey b 10000 kt x).run P w=.ok () w:=by
 cases kd<;>first|(cases hk;done)|skip
 all_goals
  unfold Instr.checkKey
  simp[run_underlying hu]
theorem Zei{kt:TypeId}(hu:P.underlying kt=some .string):HC P σ kt .string Nw:=by
 refine⟨hu,λb x w=>LM hu rfl b x w,?_,?_,?_⟩
 ·intro a b x y r ha hb h
  unfold Nw at h
  split at h
  ·cases h
   rw[U9 ha,U9 hb,Qk]
   show some (ByteArray.mk _==ByteArray.mk _)=_
   rw[beq_toListBytes,KX,KX]
  ·cases h
 ·intro a b x y ha hb h
  unfold Nw at h
  split at h
  ·rename_i p q
   rw[Qk] at h
   have h:p=q:=by simpa using h
   subst h
   rw[U9 ha,U9 hb]
   show(ByteArray.mk _==ByteArray.mk _)=true
   rw[beq_toListBytes]
   simp
  ·cases h
 ·intro k a b t hab h
  unfold LG at hab
  split at hab
  ·rename_i p q
   cases k<;>try (cases h;done)
   rename_i s
   refine⟨KB s q,rfl,λht=>?_⟩
   subst ht
   have h:some (KB s p)=some true:=h
   rw[Qk] at h hab ⊢
   have h:s=p:=by simpa using h
   subst h
   simpa using hab
  ·cases k<;>cases h
  ·cases hab
theorem Zeh{kt:TypeId}{k:IntKind}(hu:P.underlying kt=some (.int k)):HC P σ kt (.int k) Vj:=by
 refine⟨hu,λb x w=>LM hu rfl b x w,?_,?_,?_⟩
 ·intro a b x y r ha hb h
  unfold Vj at h
  split at h
  ·rename_i j p k q
   cases hk:MU j k with
   |false=>rw[hk] at h;cases h
   |true=>
    rw[hk] at h
    have:=R4 hk;subst this
    cases h
    rw[W3 ha,W3 hb,PP]
    simp[Instr.sameNow]
  ·cases h
 ·intro a b x y ha hb h
  unfold Vj at h
  split at h
  ·rename_i j p k q
   cases hk:MU j k with
   |false=>rw[hk] at h;cases h
   |true=>
    rw[hk] at h
    have:=R4 hk;subst this
    have h:some (Eu p q)=some true:=h
    rw[PP] at h
    have h:p=q:=by simpa using h
    subst h
    rw[W3 ha,W3 hb]
    simp[Instr.sameBits]
  ·cases h
 ·intro k a b t hab h
  unfold LG at hab
  split at hab
  ·cases k<;>cases h
  ·rename_i j1 p j2 q
   cases k<;>try (cases h;done)
   rename_i j3 s
   obtain⟨h1,h2⟩:=Q8.1 hab
   have:=R4 h1;subst this
   unfold Vj at h ⊢
   cases hk:MU j3 j1 with
   |false=>simp[hk] at h
   |true=>
    simp only[hk,cond_true,Option.some.injEq] at h ⊢
    refine⟨_,rfl,λht=>?_⟩
    subst ht
    rw[PP] at h h2 ⊢
    have h:s=p:=by simpa using h
    subst h
    simpa using h2
  ·cases hab
theorem Zeg{kt:TypeId}(hu:P.underlying kt=some .bool):HC P σ kt .bool tc:=by
 refine⟨hu,λb x w=>LM hu rfl b x w,?_,?_,?_⟩
 ·intro a b x y r ha hb h
  unfold tc at h
  split at h
  ·rename_i p q
   cases h
   rw[SJ ha,SJ hb]
   cases p<;>cases q<;>rfl
  ·cases h
 ·intro a b x y ha hb h
  unfold tc at h
  split at h
  ·rename_i p q
   rw[SJ ha,SJ hb]
   cases p<;>cases q<;>first|rfl|cases h
  ·cases h
 ·intro k a b t hab h
  unfold LG at hab
  split at hab
  ·cases k<;>cases h
  ·cases k<;>cases h
  ·cases hab
theorem E9{r:Result Next}{kt:TypeId}{f:(AV->AV->Option Bool)->UD}(h: ∀kd eq,HC P σ kt kd eq->XY P σ H w r (f eq tm H)):XY P σ H w r (U7 P kt (rh f) tm H):=by
 refine Wk λd hu=>?_
 cases d<;>try exact trivial
 case string=>exact h _ _ (Zei hu)
 case int k=>exact h _ _ (Zeh hu)
 case bool=>exact h _ _ (Zeg hu)
theorem He{r:Result Next}{kt:TypeId}{kd:TypeDesc}{eq:AV->AV->Option Bool}(hk:HC P σ kt kd eq){k:AV}{kv:Value}(hkr:Y2 σ k kv){no:OR}{yes:AV->OR}: ∀(es:List RP) (l:List MapEntry) (i:Nat),Xf σ es l->
  (Instr.findNow kd kv l i=some none->XY P σ H w r no)->(∀j a v,Y2 σ a v->Instr.findNow kd kv l i=some (some (j,v))->XY P σ H w r (yes a))->XY P σ H w r (Te eq k no yes es)
 |[],l,i,h,h1,h2=>by
  simp only[Xf] at h;subst h
  exact h1 rfl
 |e::es,l,i,h,h1,h2=>by
  obtain⟨m,ms,g1,g2,rfl⟩:=h.cons_inv
  unfold Te
  cases he:eq k e.key with
  |none=>exact trivial
  |some t=>
   have hn:=hk.now _ _ _ _ t hkr g1.1 he
   cases t with
   |true=>exact h2 i e.val m.val g1.2.1 (by simp only[Instr.findNow,hn])
   |false=>
    refine He hk hkr es ms (i+1) g2 (λq=>h1 ?_) (λj a v ha q=>h2 j a v ha ?_)
    ·simp only[Instr.findNow,hn];exact q
    ·simp only[Instr.findNow,hn];exact q
theorem K9{eq:AV->AV->Option Bool}{k:AV}{no:OR}{yes:AV->OR}: ∀{es fs:List RP},es.map Rh=fs.map Rh->Te eq k no yes es=Te eq k no yes fs
 |[],[],_=>rfl
 |[],_::_,h=>by cases h
 |_::_,[],h=>by cases h
 |e::es,f::fs,h=>by
  simp only[VC,List.cons.injEq] at h
  obtain⟨h1,h2⟩:=h
  simp only[Rh,Prod.mk.injEq] at h1
  unfold Te
  rw[h1.1,h1.2,K9 h2]
noncomputable def E1(eq:AV->AV->Option Bool)(k:AV)(no:OR)(yes:AV->OR)(l:List (AV×AV)):OR:=Te eq k no yes (l.map λp=>⟨p.1,p.2,0⟩)
theorem E2{eq:AV->AV->Option Bool}{k:AV}{no:OR}{yes:AV->OR}(es:List RP):E1 eq k no yes (es.map Rh)=Te eq k no yes es:=by
 unfold E1
 refine K9 ?_
 rw[Ri,Ri]
 rfl
theorem OE{eq:AV->AV->Option Bool}{k:AV}{no:OR}{yes:AV->OR}(p:AV×AV)(l:List (AV×AV)){t:Bool}(h:eq k p.1=some t):E1 eq k no yes (p::l)=cond t (yes p.2) (E1 eq k no yes l):=by
 show Te eq k no yes (⟨p.1,p.2,0⟩::l.map λp=>⟨p.1,p.2,0⟩)=_
 unfold Te
 rw[show eq k (⟨p.1,p.2,0⟩:RP).key=some t from h]
 rfl
theorem zu{eq:AV->AV->Option Bool}{k:AV}{no:OR}{yes:AV->OR}{l m:List (AV×AV)}(hp:l.Perm m)(ha: ∀p∈l,∃t,eq k p.1=some t)(hu:l.Pairwise λp q=>eq k p.1=some true->eq k q.1=some true->False):
  E1 eq k no yes l=E1 eq k no yes m:=by
 induction hp with
 |nil=>rfl
 |cons p _ ih=>
  obtain⟨t,ht⟩:=ha p (Z5 ..)
  rw[OE _ _ ht,OE _ _ ht,ih (λq hq=>ha q (Yd _ hq)) (Rj.1 hu).2]
 |swap p q l=>
  obtain⟨t,ht⟩:=ha q (Z5 ..)
  obtain⟨u,hu'⟩:=ha p (Yd _ (Z5 ..))
  rw[OE _ _ ht,OE _ _ hu',OE _ _ hu',OE _ _ ht]
  cases t<;>cases u<;>try rfl
  exact((Rj.1 hu).1 p (Z5 ..) ht hu').elim
 |trans h1 _ ih1 ih2=>
  rw[ih1 ha hu]
  exact ih2 (λq hq=>ha q (h1.mem_iff.2 hq)) ((h1.pairwise_iff (λh a b=>h b a)).1 hu)
theorem CK{kt:TypeId}{kd:TypeDesc}{eq:AV->AV->Option Bool}(hk:HC P σ kt kd eq){k:AV}{no:OR}{yes:AV->OR}{es fs:List RP}(hp:(fs.map Rh).Perm (es.map Rh))(ha:es.Pairwise D3):
  Te eq k no yes es=.fail∨Te eq k no yes es=Te eq k no yes fs:=by
 cases es with
 |nil=>
  rw[Qn] at hp
  have:=List.Perm.eq_nil hp
  cases fs with
  |nil=>exact .inr rfl
  |cons f fs=>cases this
 |cons e es=>
  cases he:eq k e.key with
  |none=>
   left
   unfold Te
   rw[he]
  |some t=>
   right
   have hall: ∀f∈e::es,∃u,eq k f.key=some u:=by
    intro f hf
    rcases Yv.1 hf with rfl|hf
    ·exact⟨t,he⟩
    ·obtain⟨u,hu,_⟩:=hk.apart k e.key f.key t ((Rj.1 ha).1 f hf).1 he
     exact⟨u,hu⟩
   rw[<-E2 (e::es),<-E2 fs]
   refine(zu hp.symm (λp hp=>?_) ?_)
   ·obtain⟨f,hf,rfl⟩:=Wj.1 hp
    exact hall f hf
   ·rw[List.pairwise_map]
    refine ha.imp λ{a b} hab h1 h2=>?_
    obtain⟨u,h3,h4⟩:=hk.apart k a.key b.key true hab.1 h1
    have h2:eq k b.key=some true:=h2
    rw[h3,h4 rfl] at h2
    cases h2
theorem R9{kt:TypeId}{kd:TypeDesc}(hu:P.underlying kt=some kd){kv:Value}{l:List MapEntry}{r:Option (Nat×Value)}(h:Instr.findNow kd kv l 0=some r):(Instr.findKey kt kv l).run P w=.ok r w:=by
 simp only[Instr.findKey,Sem.run_bind,run_underlying hu,Result.andThen_ok,h,Sem.run_pure]
theorem v9(hs:VP P σ H w)(hρ:Ql P σ tm ρ){o:Oper}{t:TypeId}{m k:Operand}{ok:Bool}(ho:o.op=.lookup t m k ok):WB P σ H w tm ρ o:=by
 unfold WB;rw[ho]
 refine Wk λd hu=>?_
 cases d<;>try exact trivial
 case map kt e=>
  refine E9 λkd eq hk=>WY λi hi=>Tw λz hz=>?_
  have g:=hρ m
  have Ft: ∀{a:AV} {v:Value} {b:Bool},Y2 σ a v->(execOp ρ o).run P w=.ok (.value (if ok then .tuple #[v,.bool b] else v)) w->XY P σ H w ((execOp ρ o).run P w) (K5 ok H a b):=by
   intro a v b ha hr
   unfold K5
   cases ok with
   |true=>
    refine YT hs hr ?_
    simp only[Y2]
    exact⟨[v,.bool b],VA ha (Tl (by simp[Y2])),rfl⟩
   |false=>exact YT hs hr ha
  have BH: ∀{v:Value},(Instr.lookup t (ρ m) (ρ k) ok).run P w=.ok v w->(execOp ρ o).run P w=.ok (.value v) w:=λh=>by
   simp only[execOp,ho];exact Up h
  refine Id (λhx=>?_) λb hx=>NU λob IZ=>?_
  ·rw[hx] at g
   refine Ft (OC σ z) (BH ?_)
   rw[Na g]
   have hf:=R9 (w:=w) (kv:=ρ k) (l:=(#[]:Array MapEntry).toList) hk.und (r:=none) rfl
   simp only[Instr.lookup,Sem.run_bind,run_underlying hu,Result.andThen_ok,Sem.run_pure,hk.check,hf,S1 hi hz]
  ·rw[hx] at g
   obtain⟨l,hl,e1⟩:=KS g
   cases ob<;>try exact trivial
   case map es clock=>
    obtain⟨c,hc,ho'⟩:=hs.alive b _ l IZ hl
    obtain⟨ents,rfl,hr,_⟩:=ho'
    refine He hk (hρ k) es ents.toList 0 hr (λq=>?_) λj a v ha q=>?_
    ·refine Ft (OC σ z) (BH ?_)
     rw[e1]
     have hf:=R9 (w:=w) hk.und q
     simp only[Instr.lookup,Sem.run_bind,run_underlying hu,Result.andThen_ok,PY hc,Sem.run_pure,hk.check,hf,S1 hi hz]
    ·refine Ft ha (BH ?_)
     rw[e1]
     have hf:=R9 (w:=w) hk.und q
     simp only[Instr.lookup,Sem.run_bind,run_underlying hu,Result.andThen_ok,PY hc,Sem.run_pure,hk.check,hf]
   case cmap es=>
    obtain⟨c,hc,ho'⟩:=hs.alive b _ l IZ hl
    obtain⟨ents,clock,fs,rfl,hr,hp,ha⟩:=ho'
    show XY P σ H w _ (Te _ _ _ _ es)
    rcases CK hk hp ha with hx2|hx2
    ·rw[hx2];exact trivial
    rw[hx2]
    refine He hk (hρ k) fs ents.toList 0 hr (λq=>?_) λj a v ha q=>?_
    ·refine Ft (OC σ z) (BH ?_)
     rw[e1]
     have hf:=R9 (w:=w) hk.und q
     simp only[Instr.lookup,Sem.run_bind,run_underlying hu,Result.andThen_ok,PY hc,Sem.run_pure,hk.check,hf,S1 hi hz]
    ·refine Ft ha (BH ?_)
     rw[e1]
     have hf:=R9 (w:=w) hk.und q
     simp only[Instr.lookup,Sem.run_bind,run_underlying hu,Result.andThen_ok,PY hc,Sem.run_pure,hk.check,hf]
theorem yc(hs:VP P σ H w){o:Oper}{t:TypeId}{r:Option Operand}(ho:o.op=.makeMap t r):WB P σ H w tm ρ o:=by
 unfold WB;rw[ho]
 cases r with
 |some r=>exact trivial
 |none=>
  refine UW (Tr.alloc hs (.map [] 0) (.map #[] 0) ⟨w.heap.size,0,0,1⟩ rfl ⟨#[],rfl,N9,by simp[I0]⟩) (x:=.map (some w.heap.size)) ?_ ?_
  ·simp only[execOp,ho]
   refine Up ?_
   simp[Instr.makeMap]
  ·simp only[Y2];exact⟨_,Mp.put_same _ _ _,rfl⟩
theorem BE{r:Result Next}{kt:TypeId}{kd:TypeDesc}{eq:AV->AV->Option Bool}(hk:HC P σ kt kd eq){k v:AV}{kv vv:Value}(hkr:Y2 σ k kv)(hvr:Y2 σ v vv){clock:Nat}: ∀(es:List RP) (l:List MapEntry) (i:Nat) (done:List RP->Nat->OR),Xf σ es l->
  (Instr.findNow kd kv l i=some none->(∀e∈es,True)->XY P σ H w r (done (es++[⟨k,v,clock⟩]) (clock+1)))->
  (∀j a m u,es[j]? =some a->l[j]? =some m->Mr σ a m->Instr.sameBits 10000 m.key kv=true->Instr.findNow kd kv l i=some (some (i+j,u))->XY P σ H w r (done (es.set j ⟨k,v,a.born⟩) clock))->
  XY P σ H w r (CL eq k v clock done es)
 |[],l,i,done,h,h1,h2=>by
  simp only[Xf] at h;subst h
  exact h1 rfl (by simp)
 |e::es,l,i,done,h,h1,h2=>by
  obtain⟨m,ms,g1,g2,rfl⟩:=h.cons_inv
  unfold CL
  cases he:eq k e.key with
  |none=>exact trivial
  |some t=>
   have hn:=hk.now _ _ _ _ t hkr g1.1 he
   cases t with
   |true=>
    have hb:=hk.bits _ _ _ _ hkr g1.1 he
    exact h2 0 e m m.val rfl rfl g1 hb (by simp only[Instr.findNow,hn,Zf])
   |false=>
    refine BE hk hkr hvr es ms (i+1) (λl' c=>done (e::l') c) g2 (λq _=>h1 ?_ (by simp)) (λj a m' u q1 q2 q3 q4 q5=>h2 (j+1) a m' u (by simpa using q1) (by simpa using q2) q3 q4 ?_)
    ·simp only[Instr.findNow,hn];exact q
    ·simp only[Instr.findNow,hn];rw[q5,show i+1+j=i+(j+1) by omega]
theorem Xf.append: ∀{es es2:List RP} {l l2:List MapEntry},Xf σ es l->Xf σ es2 l2->Xf σ (es++es2) (l++l2)
 |[],es2,l,l2,h,h'=>by simp only[Xf] at h;subst h;exact h'
 |a::es,es2,l,l2,h,h'=>by
  obtain⟨m,ms,g1,g2,rfl⟩:=h.cons_inv
  exact NF g1 (g2.append h')
theorem Xf.set{a:RP}{m:MapEntry}(hm:Mr σ a m): ∀{es:List RP} {l:List MapEntry} (j:Nat),Xf σ es l->Xf σ (es.set j a) (l.set j m)
 |[],l,j,h=>by simp only[Xf] at h;subst h;simpa using N9
 |e::es,l,0,h=>by
  obtain⟨m',ms,g1,g2,rfl⟩:=h.cons_inv
  exact NF hm g2
 |e::es,l,j+1,h=>by
  obtain⟨m',ms,g1,g2,rfl⟩:=h.cons_inv
  exact NF g1 (g2.set hm j)
theorem yr{es:List RP}{c j:Nat}{a:RP}{k v:AV}(h:I0 es c)(ha:es[j]? =some a):I0 (es.set j ⟨k,v,a.born⟩) c:=by
 have key:(es.set j ⟨k,v,a.born⟩).map (·.born)=es.map (·.born):=by
  apply UT
  intro i
  simp only[Vx,List.getElem?_set]
  by_cases hij:j=i
  ·subst hij
   have hlt:j<es.length:=by
    rcases Nat.lt_or_ge j es.length with h|h
    ·exact h
    ·rw[WC h] at ha;cases ha
   rw[if_pos rfl,if_pos hlt,ha]
   rfl
  ·simp[hij]
 obtain⟨h1,h2⟩:=h
 constructor
 ·have:((es.set j ⟨k,v,a.born⟩).map (·.born)).Pairwise (· < ·):=by rw[key];exact List.pairwise_map.2 h1
  exact List.pairwise_map.1 this
 ·intro e he
  have:e.born∈(es.set j ⟨k,v,a.born⟩).map (·.born):=Sy he
  rw[key] at this
  obtain⟨e',he',h3⟩:=Wj.1 this
  rw[<-h3];exact h2 e' he'
theorem Ap{es:List RP}{c:Nat}{k v:AV}(h:I0 es c):I0 (es++[⟨k,v,c⟩]) (c+1):=by
 obtain⟨h1,h2⟩:=h
 constructor
 ·rw[List.pairwise_append]
  refine⟨h1,by simp,λa ha b hb=>?_⟩
  rw[YM] at hb;subst hb
  exact h2 a ha
 ·intro e he
  rcases Z6.1 he with he|he
  ·have:=h2 e he;omega
  ·rw[YM] at he;subst he;exact Xl c
theorem IK{g:Nat}{es:Array MapEntry}{c:Nat}(ob:Go.Obj)(h:w.heap[g]? =some (.map es c)): ∃w',(setObj g ob).run P w=.ok () w'∧EG w w' g ob:=by
 refine⟨{w with heap:=w.heap.setIfInBounds g ob},by simp[setObj,Sem.run,h],⟨by simp,?_,λk hk=>?_,rfl,rfl,rfl⟩⟩
 ·have:g<w.heap.size:=(Yy.1 h).1
  simp[XQ,this]
 ·simp only[XQ]
  rw[if_neg (λe=>hk e.symm)]
theorem BD(hs:VP P σ H w)(hρ:Ql P σ tm ρ){o:Oper}{t kt e:TypeId}{m k x:Operand}{kd:TypeDesc}{eq:AV->AV->Option Bool}(hu:P.underlying t=some (.map kt e))(hk:HC P σ kt kd eq)
  (hex: ∀w',(Instr.mapUpdate t (ρ m) (ρ k) (ρ x)).run P w=.ok () w'->(execOp ρ o).run P w=.ok .skip w'):
  XY P σ H w ((execOp ρ o).run P w) (KQ eq (XO P m) (XO P k) (XO P x) tm H):=by
 have g:=hρ m
 refine Id (λ_=>trivial) λb hx=>NU λob IZ=>?_
 rw[hx] at g
 obtain⟨l,hl,e1⟩:=KS g
 cases ob<;>try exact trivial
 case map es clock=>
  refine Y0 λhro=>?_
  have hwr:Wr H b:=⟨YE hro,_,IZ,(λr h=>by cases h),λh=>by cases h⟩
  obtain⟨c,hc,ho'⟩:=hs.alive b _ l IZ hl
  obtain⟨ents,rfl,hr,hris⟩:=ho'
  refine BE hk (hρ k) (hρ x) es ents.toList 0 _ hr (λq _=>?_) λj a mm u q1 q2 q3 q4 q5=>?_
  ·obtain⟨w',hrun,hw⟩:=IK (P:=P) (.map (ents.push {key:=ρ k,val:=ρ x,born:=clock}) (clock+1)) hc
   refine⟨σ,w',undef,.inr ⟨hex w' ?_,rfl⟩,by simp[WK,undef,Y2,XG],Tr.write hs IZ hl hwr hw.size hw.new hw.old ⟨_,rfl,?_,Ap hris⟩ hw.tape hw.os hw.out⟩
   ·rw[e1]
    have hf:=R9 (w:=w) hk.und q
    simp only[Instr.mapUpdate,Sem.run_bind,run_underlying hu,Result.andThen_ok,PY hc,hk.check,hf,hrun]
   ·rw[Array.toList_push]
    exact hr.append (NF ⟨hρ k,hρ x,rfl⟩ N9)
  ·obtain⟨w',hrun,hw⟩:=IK (P:=P) (.map (ents.modify j λe=>{e with key:=ρ k,val:=ρ x}) clock) hc
   refine⟨σ,w',undef,.inr ⟨hex w' ?_,rfl⟩,by simp[WK,undef,Y2,XG],Tr.write hs IZ hl hwr hw.size hw.new hw.old ⟨_,rfl,?_,yr hris q1⟩ hw.tape hw.os hw.out⟩
   ·rw[e1]
    have hf:=R9 (w:=w) hk.und q5
    rw[Zd] at hf
    have hej:ents[j]? =some mm:=by rw[<-YO];exact q2
    simp only[Instr.mapUpdate,Sem.run_bind,run_underlying hu,Result.andThen_ok,PY hc,hk.check,hf,hej,VW,Option.getD_some,Instr.keyThatStays,q4,if_true,Sem.run_pure,hrun]
   ·have e2:(ents.modify j λe=>{e with key:=ρ k,val:=ρ x}).toList=ents.toList.set j {mm with key:=ρ k,val:=ρ x}:=by
     apply UT
     intro i
     rw[YO,VH,List.getElem?_set]
     by_cases hij:j=i
     ·subst hij
      have hlt:j<ents.toList.length:=by
       rcases Nat.lt_or_ge j ents.toList.length with h|h
       ·exact h
       ·rw[WC h] at q2;cases q2
      have hej:ents[j]? =some mm:=by rw[<-YO];exact q2
      rw[if_pos rfl,if_pos rfl,if_pos hlt,hej];rfl
     ·rw[if_neg hij,if_neg hij,YO]
    rw[e2]
    exact Xf.set (a:=⟨XO P k tm,XO P x tm,a.born⟩) (m:={mm with key:=ρ k,val:=ρ x}) ⟨hρ k,hρ x,q3.2.2⟩ j hr
theorem Iy(hs:VP P σ H w)(hρ:Ql P σ tm ρ){o:Oper}{t:TypeId}{m k x:Operand}(ho:o.op=.mapUpdate t m k x∨o.op=.insert t m k x):WB P σ H w tm ρ o:=by
 have hex: ∀w',(Instr.mapUpdate t (ρ m) (ρ k) (ρ x)).run P w=.ok () w'->(execOp ρ o).run P w=.ok .skip w':=by
  intro w' h
  rcases ho with ho|ho<;>simp[execOp,ho,h]
 have key:XY P σ H w ((execOp ρ o).run P w) (U7 P t (λd=>match d with|.map kt _=>U7 P kt<|rh λeq=>KQ eq (XO P m) (XO P k) (XO P x)|_=>U6) tm H):=by
  refine Wk λd hu=>?_
  cases d<;>try exact trivial
  case map kt e=>exact E9 λkd eq hk=>BD hs hρ hu hk hex
 unfold WB
 rcases ho with ho|ho
 ·rw[ho];exact key
 ·rw[ho];exact key
theorem qi(hs:VP P σ H w)(hρ:Ql P σ tm ρ){o:Oper}{t:TypeId}{x:Operand}(ho:o.op=.range t x):WB P σ H w tm ρ o:=by
 unfold WB;rw[ho]
 refine Wk λd hu=>?_
 have g:=hρ x
 have hex: ∀{v:Value} {w':World},(Instr.range t (ρ x)).run P w=.ok v w'->(execOp ρ o).run P w=.ok (.value v) w':=λh=>by
  simp only[execOp,ho];exact Up h
 cases d<;>try exact trivial
 case string=>
  refine OX λs hx=>?_
  rw[hx] at g
  refine UW (Tr.alloc hs (.siter s 0) (.stringIter ⟨s.toArray⟩ 0) ⟨w.heap.size,0,0,1⟩ rfl ⟨rfl,rfl⟩) (hex ?_) (KT rfl)
  rw[U9 g]
  simp[Instr.range,run_underlying hu]
 case map kt e=>
  refine Id (λhx=>?_) λb hx=>NU λob IZ=>?_
  ·rw[hx] at g
   refine UW (Tr.alloc hs (.miter none 0 none) (.mapIter none 0 #[] 0) ⟨w.heap.size,0,0,1⟩ rfl ⟨#[],0,rfl,(λ_ h=>by cases h),rfl,rfl,rfl⟩) (hex ?_) (KT rfl)
   rw[Na g]
   simp[Instr.range,run_underlying hu]
  ·rw[hx] at g
   obtain⟨l,hl,e1⟩:=KS g
   cases ob<;>try exact trivial
   case map es clock=>
    obtain⟨c,hc,ho'⟩:=hs.alive b _ l IZ hl
    obtain⟨ents,rfl,hr,_⟩:=ho'
    have hlt:=hs.dom b l hl
    have hput:(σ.put H.nx ⟨w.heap.size,0,0,1⟩) b=some l:=by rw[Mp.put_old (by omega)];exact hl
    refine UW (Tr.alloc hs (.miter (some b) clock none) (.mapIter (some l.blk) clock #[] clock) ⟨w.heap.size,0,0,1⟩ rfl ⟨#[],clock,?_,?_,rfl,rfl,rfl⟩) (hex ?_) (KT rfl)
    ·simp[hput]
    ·intro b' hb';cases hb';rw[hput];rfl
    ·rw[e1]
     simp[Instr.range,run_underlying hu,PY hc]
theorem Au{b:Nat}{s:ByteArray}{c:Nat}(h:w.heap[b]? =some (.stringIter s c)):(getObj b).run P w=.ok (.stringIter s c) w:=by simp[getObj,Sem.run,h]
theorem FX{b:Nat}{m:Option Nat}{a:Nat}{s:Array Nat}{c:Nat}(h:w.heap[b]? =some (.mapIter m a s c)):(getObj b).run P w=.ok (.mapIter m a s c) w:=by simp[getObj,Sem.run,h]
theorem EB{g:Nat}{s:ByteArray}{c:Nat}(ob:Go.Obj)(h:w.heap[g]? =some (.stringIter s c)): ∃w',(setObj g ob).run P w=.ok () w'∧EG w w' g ob:=by
 refine⟨{w with heap:=w.heap.setIfInBounds g ob},by simp[setObj,Sem.run,h],⟨by simp,?_,λk hk=>?_,rfl,rfl,rfl⟩⟩
 ·have:g<w.heap.size:=(Yy.1 h).1
  simp[XQ,this]
 ·simp only[XQ]
  rw[if_neg (λe=>hk e.symm)]
theorem nQ(hs:VP P σ H w)(hρ:Ql P σ tm ρ){o:Oper}{x:Operand}{b:Bool}(ho:o.op=.next x b):WB P σ H w tm ρ o:=by
 unfold WB;rw[ho]
 refine V6 (λhb=>?_) λ_=>SX
 subst hb
 have g:=hρ x
 refine PG λb off hx=>Y0 λh0=>Y0 λhro=>NU λob IZ=>?_
 rw[hx] at g
 obtain⟨l,hl,e1⟩:=TA g
 rw[Xx] at h0
 have h0:off=0:=ZB h0
 subst h0
 cases ob<;>try exact trivial
 case siter s pos=>
  have hwr:Wr H b:=⟨YE hro,_,IZ,(λr h=>by cases h),λh=>by cases h⟩
  obtain⟨c,hc,ho'⟩:=hs.alive b _ l IZ hl
  obtain⟨rfl,hbase⟩:=ho'
  rw[hbase] at e1
  have hex: ∀{v:Value} {w':World},(Instr.next (ρ x) true o.type).run P w=.ok v w'->(execOp ρ o).run P w=.ok (.value v) w':=λh=>by
   simp only[execOp,ho];exact Up h
  have hsz:(ByteArray.mk s.toArray).size=s.length:=Ml s
  refine Tp (λhlt=>?_) λhlt=>?_
  ·rw[X8,XK] at hlt
   have hlt:pos<s.length:=ZB hlt
   cases hdec:Utf8.decode ⟨s.toArray⟩ pos with
   |mk ch wd=>
   obtain⟨w',hrun,hw⟩:=EB (P:=P) (.stringIter ⟨s.toArray⟩ (pos+wd)) hc
   refine UW (Tr.write hs IZ hl hwr hw.size hw.new hw.old ⟨rfl,hbase⟩ hw.tape hw.os hw.out) (x:=.tuple #[.bool true,goInt pos,.int .i32 ch]) (hex ?_) ?_
   ·rw[e1]
    simp only[Instr.next,Zd,Sem.run_bind,Au hc,Result.andThen_ok,hsz,if_pos hlt,hdec,hrun,Sem.run_pure]
   ·simp only[Y2]
    exact⟨[.bool true,goInt pos,.int .i32 ch],VA (by simp[Y2]) (VA (by simp[Y2,goInt]) (Tl (by simp[Y2]))),rfl⟩
  ·rw[X8,XK] at hlt
   have hlt: ¬(pos<s.length):=of_decide_eq_false hlt
   refine YT hs (x:=.tuple #[.bool false]) (hex ?_) ?_
   ·rw[e1]
    simp only[Instr.next,Zd,Sem.run_bind,Au hc,Result.andThen_ok,hsz,if_neg hlt,Sem.run_pure]
   ·simp only[Y2]
    exact⟨[.bool false],Tl (by simp[Y2]),rfl⟩
theorem E8{r:Result Next}{n:Nat}{k:RP->OR}: ∀(es:List RP) (l:List MapEntry),Xf σ es l->(∀a m,Mr σ a m->l.find? (·.born==n)=some m->XY P σ H w r (k a))->XY P σ H w r (Ck n k es)
 |[],l,h,g=>trivial
 |a::es,l,h,g=>by
  obtain⟨m,ms,h1,h2,rfl⟩:=h.cons_inv
  refine Tp (λhe=>g a m h1 ?_) λhe=>E8 es ms h2 λa' m' h3 h4=>g a' m' h3 ?_
  ·rw[Xx] at he
   have he:a.born=n:=ZB he
   rw[List.find?_cons_of_pos (by simp[<-h1.2.2,he])]
  ·rw[Xx] at he
   have he: ¬a.born=n:=of_decide_eq_false he
   rw[List.find?_cons_of_neg (by simp[<-h1.2.2,he])]
   exact h4
theorem qc(hs:VP P σ H w)(hρ:Ql P σ tm ρ){o:Oper}{x:Operand}(ho:o.op=.entry x):WB P σ H w tm ρ o:=by
 unfold WB;rw[ho]
 have g:=hρ x
 refine PG λb off hx=>Y0 λh0=>NU λob IZ=>?_
 rw[hx] at g
 obtain⟨l,hl,e1⟩:=TA g
 rw[Xx] at h0
 have h0:off=0:=ZB h0
 subst h0
 show XY P σ H w _ (D4 ob _)
 unfold D4
 split
 ·rename_i m since n st
  obtain⟨c,hc,ho'⟩:=hs.alive b _ l IZ hl
  obtain⟨seen,st',rfl,hm,hbase,hback,rfl⟩:=ho'
  rw[hbase] at e1
  refine NU λom hom=>?_
  cases om<;>try exact trivial
  case map es clock=>
   refine Y0 λhcl=>?_
   rw[Xx] at hcl
   have hcl:clock=st':=ZB hcl
   subst hcl
   obtain⟨lm,hlm⟩:=UU.1 (hm m rfl)
   obtain⟨cm,hcm,ZdY⟩:=hs.alive m _ lm hom hlm
   obtain⟨ents,rfl,hr,_⟩:=ZdY
   refine E8 es ents.toList hr λa me hae hf=>?_
   refine YT hs (x:=.tuple #[me.key,me.val]) ?_ ?_
   ·simp only[execOp,ho]
    refine Up ?_
    rw[e1]
    have hf':ents.find? (λx=>x.born==n)=some me:=by rw[<-Array.find?_toList];exact hf
    simp only[Option.bind_some,hlm,VW] at hc
    simp only[Instr.entry,Zd,Sem.run_bind,FX hc,Result.andThen_ok,hback,PY hcm,bne_self_eq_false,WO,if_false,hf',Sem.run_pure]
   ·simp only[Y2]
    exact⟨[me.key,me.val],VA hae.1 (Tl hae.2.1),rfl⟩
 ·trivial
theorem z9(hs:VP P σ H w)(hρ:Ql P σ tm ρ){o:Oper}{x:Operand}{xt t:TypeId}{ok:Bool}(ho:o.op=.typeAssert x xt t ok):WB P σ H w tm ρ o:=by
 unfold WB;rw[ho]
 refine WY λi hi=>Tw λz hz=>Wk λd hu=>?_
 have g:=hρ x
 have hex: ∀{v:Value} {w':World},(Instr.typeAssert (ρ x) xt t ok).run P w=.ok v w'->(execOp ρ o).run P w=.ok (.value v) w':=λh=>by
  simp only[execOp,ho];exact Up h
 have xh:=S1 (w:=w) hi hz
 have no:(∀(h:ok=true),(Instr.typeAssert (ρ x) xt t ok).run P w=.ok (.tuple #[z,.bool false]) w)->XY P σ H w ((execOp ρ o).run P w) (PD (Ud z) ok H none):=by
  intro h
  cases ok with
  |false=>exact trivial
  |true=>
   refine YT hs (hex (h rfl)) ?_
   simp only[Y2]
   exact⟨[z,.bool false],VA (OC σ z) (Tl (by simp[Y2])),rfl⟩
 have yes: ∀{a:AV} {v:Value},Y2 σ a v->(Instr.typeAssert (ρ x) xt t ok).run P w=.ok (if ok then .tuple #[v,.bool true] else v) w->XY P σ H w ((execOp ρ o).run P w) (PD (Ud z) ok H (some a)):=by
  intro a v ha h
  cases ok with
  |false=>exact YT hs (hex h) ha
  |true=>
   refine YT hs (hex h) ?_
   simp only[Y2]
   exact⟨[v,.bool true],VA ha (Tl (by simp[Y2])),rfl⟩
 by_cases hd: ∃ms,d=.interface ms
 ·obtain⟨ms,rfl⟩:=hd
  show XY P σ H w _ (B5 (XO P x) P (nq P t) (Ud z) ok tm H)
  have hms:nq P t=ms:=by unfold nq;rw[hu]
  rw[hms]
  refine NT (λhx=>?_) λu v hx=>Pf λiu hiu=>?_
  ·rw[hx] at g
   have g:=PW g
   refine no λh=>?_
   rw[g]
   simp[Instr.typeAssert,run_underlying hu,h,xh]
  ·rw[hx] at g
   obtain⟨y,hy,e1⟩:=Su g
   have hti:(typeInfo u).run P w=.ok iu w:=by simp[typeInfo,hiu]
   cases hmm:Instr.missingMethod ms iu.methods with
   |none=>
    refine yes (v:=ρ x) (by rw[<-hx];exact hρ x) ?_
    rw[e1]
    simp[Instr.typeAssert,run_underlying hu,hti,hmm]
   |some m=>
    refine no λh=>?_
    rw[e1]
    simp[Instr.typeAssert,run_underlying hu,hti,hmm,h,xh]
 ·have hd: ∀ms,d≠.interface ms:=λms h=>hd ⟨ms,h⟩
  have key:XY P σ H w ((execOp ρ o).run P w) (Q5 (XO P x) t (Ud z) ok tm H):=by
   refine NT (λhx=>?_) λu v hx=>?_
   ·rw[hx] at g
    have g:=PW g
    refine no λh=>?_
    rw[g]
    cases d<;>first
     |exact absurd rfl (hd _)
     |simp[Instr.typeAssert,run_underlying hu,h,xh]
   ·rw[hx] at g
    obtain⟨y,hy,e1⟩:=Su g
    rw[Xx]
    by_cases hut:u=t
    ·rw[Zr hut]
     refine yes hy ?_
     rw[e1]
     cases d<;>first
      |exact absurd rfl (hd _)
      |simp[Instr.typeAssert,run_underlying hu,hut]
    ·rw[Zj hut]
     refine no λh=>?_
     rw[e1]
     cases d<;>first
      |exact absurd rfl (hd _)
      |simp[Instr.typeAssert,run_underlying hu,hut,h,xh]
  cases d<;>first
   |exact absurd rfl (hd _)
   |exact key
theorem Dz(hρ:Ql P σ tm ρ)(l:Array Operand):XG σ (evs tm (args P l)) (l.map ρ).toList:=by
 have:=Km hρ l.toList
 unfold args
 simpa using this
theorem Jx{r:Result Next}{f:Nat}{as:List AV}{vs:List Value}(hr:XG σ as vs)(h:r=(callFunc f ⟨vs⟩).run P w):XY P σ H w r (.oth (.call f as H)):=⟨rfl,vs,hr,h⟩
theorem Co{r:Result Next}{name:String}{u:Nat}{k:Nat->OR}
  (h: ∀g,(∀(n:Nat) (v:Value),(method (n+1) u v name).run P w=.ok (g,v) w)->XY P σ H w r (k g)):XY P σ H w r (Ir P name u k):=by
 refine Pf λi hi=>Pf λm hm=>Y0 λhp=>?_
 have hti:(typeInfo u).run P w=.ok i w:=by simp[typeInfo,hi]
 have hpl:m.path.toList=[]:=by
  have:m.path= #[]:=by simpa using hp
  rw[this]
 cases hf:m.func with
 |none=>exact trivial
 |some q=>
  obtain⟨g,ptr⟩:=q
  show XY P σ H w r (match P.underlying u with
   |some (.pointer _)=>YP ptr (k g)
   |some _=>cond ptr .fail (k g)
   |none=>.fail)
  cases hu:P.underlying u with
  |none=>exact trivial
  |some d=>
   have base: ∀(n:Nat) (v:Value),(method (n+1) u v name).run P w=(do pure (g,<-receiverAt u (.val v) ptr (if m.path.isEmpty then some ((name.splitOn ".").getLastD name) else none)):Sem (FuncId×Value)).run P w:=by
    intro n v
    simp only[method,Sem.run_bind,hti,Result.andThen_ok,hm,hpl,follow,Sem.run_pure,hf]
   cases d<;>first
    |(refine Y0 λZd1=>h g λn v=>?_
      subst Zd1
      rw[base]
      simp[receiverAt,run_underlying hu,Place.get]
      done)
    |(cases ptr with
      |true=>exact trivial
      |false=>
       refine h g λn v=>?_
       rw[base]
       simp[receiverAt,run_underlying hu,Place.get])
theorem FW{name:String}{u g:Nat}{v:Value}{args:Array Value}(h: ∀(n:Nat) (v:Value),(method (n+1) u v name).run P w=.ok (g,v) w):(callMethod (.iface u v) name args).run P w=(callFunc g (#[v]++args)).run P w:=by
 have:(P.types.size+Made.depth)=(P.types.size+Made.depth - 1)+1:=by
  have:0<Made.depth:=by decide
  omega
 simp only[callMethod,Sem.run_bind,run_program,Result.andThen_ok]
 rw[this,h]
 rfl
theorem HU{r:Result Next}{n:String}{u:Nat}{a:AV}{x:Value}{as:List AV}{vs:List Value}(ha:Y2 σ a x)(hr:XG σ as vs)(h:r=(callMethod (.iface u x) n ⟨vs⟩).run P w):
  XY P σ H w r (Ir P n u λg=>.oth (.call g (a::as) H)):=by
 refine Co λg hm=>Jx (vs:=x::vs) (VA ha hr) ?_
 rw[h,FW hm]
 congr 2
 apply Array.ext'
 simp
theorem H9(name:String)(cap:Array Value)(r:Value)(as:Array Value):invoke (.fn (.method name) cap) (#[r]++as)=callMethod r name ⟨as.toList⟩:=by
 have h1:(#[r]++as)[0]? =some r:=by rw[Array.getElem?_append_left (by simp)];rfl
 have h2:(#[r]++as).extract 1 (#[r]++as).size=⟨as.toList⟩:=by
  apply Array.ext'
  simp[Ui]
 simp only[invoke,h1,h2]
theorem nL(hs:VP P σ H w)(hρ:Ql P σ tm ρ){o:Oper}{c:Call}(ho:o.op=.call c)(hb: ∀b,c.callee≠.builtin b):WB P σ H w tm ρ o:=by
 unfold WB;rw[ho]
 have hargs:=Dz hρ c.args
 have hex:(execOp ρ o).run P w=(do let d<-resolve ρ c o.type;invoke d.target d.args:Sem Next).run P w:=by simp only[execOp,ho]
 rw[hex]
 show XY P σ H w _ (tM P c tm H)
 unfold tM
 cases hc:c.callee with
 |builtin b=>exact absurd hc (hb b)
 |invoke rv name=>
  have g:=hρ rv
  refine NT (λ_=>trivial) λu a hx=>?_
  rw[hx] at g
  obtain⟨x,hx',e1⟩:=Su g
  refine HU hx' hargs ?_
  simp only[resolve,hc,Sem.run_bind,Sem.run_pure,Result.andThen_ok,H9,e1]
 |value f=>
  have gen:XY P σ H w ((do let d<-resolve ρ c o.type;invoke d.target d.args:Sem Next).run P w) (Uo (XO P f) P (args P c.args) tm H):=by
   have g:=hρ f
   unfold Uo
   split
   ·rename_i fn a b hx
    rw[hx] at g
    obtain⟨x,y,h1,h2,e1⟩:=NY g
    refine Jx (h1.append (hargs.append h2)) ?_
    simp only[resolve,hc,e1,Deferred.ofValue,Sem.run_bind,Sem.run_pure,Result.andThen_ok,invoke]
    congr 2
    apply Array.ext'
    simp
   ·rename_i n rv hx
    rw[hx] at g
    simp only[Y2] at g
    obtain⟨x,h1,e1⟩:=g
    refine NT (λ_=>trivial) λu a hrv=>?_
    rw[hrv] at h1
    obtain⟨y,hy,e2⟩:=Su h1
    refine HU hy hargs ?_
    simp only[resolve,hc,e1,Deferred.ofValue,Sem.run_bind,Sem.run_pure,Result.andThen_ok,e2]
    exact congrArg (λs=>s.run P w) (H9 n #[] (.iface u y) (Array.map ρ c.args))
   ·rename_i b hx
    rw[hx] at g
    simp only[Y2] at g
    obtain⟨l,hl,e1⟩:=g
    refine⟨rfl,l,_,hl,hargs,?_⟩
    simp only[resolve,hc,e1,Deferred.ofValue,Sem.run_bind,Sem.run_pure,Result.andThen_ok,invoke]
    congr 2
    apply Array.ext'
    simp
   ·trivial
  cases f with
  |func fn=>
   have g:=hρ (.func fn)
   have g:Y2 σ (.func fn [] []) (ρ (.func fn)):=g
   obtain⟨x,y,h1,h2,e1⟩:=NY g
   have h1:=h1.nil_inv
   have h2:=h2.nil_inv
   subst h1;subst h2
   refine Jx hargs ?_
   simp only[resolve,hc,e1,Deferred.ofValue,Sem.run_bind,Sem.run_pure,Result.andThen_ok,invoke]
   congr 2
   apply Array.ext'
   simp
  |tmp t=>exact gen
  |const v=>exact gen
  |global v=>exact gen
theorem Fh{r:Result Next}{a:AV}{x:Value}(ha:Y2 σ a x)(h: ∀v,(Instr.panic x).run P w=.halt v w->r=.halt v w):XY P σ H w r (PT a .fail λ_ _=>.oth (.pan a H)):=by
 refine NT (λ_=>trivial) λu b hx=>?_
 rw[hx] at ha
 obtain⟨y,hy,e1⟩:=Su ha
 refine⟨rfl,x,by rw[hx];exact ha,h _ ?_⟩
 rw[e1]
 rfl
theorem qh(hs:VP P σ H w)(hρ:Ql P σ tm ρ){o:Oper}{x:Operand}(ho:o.op=.panic x):WB P σ H w tm ρ o:=by
 unfold WB;rw[ho]
 refine Fh (hρ x) λv h=>?_
 simp only[execOp,ho]
 simp[h]
theorem ub(hs:VP P σ H w)(hρ:Ql P σ tm ρ){o:Oper}{xs:List Operand}{ts:List TypeId}(ho:o.op=.call ⟨.builtin .panic,⟨xs⟩,⟨ts⟩⟩):WB P σ H w tm ρ o:=by
 refine T2 ho λcs=>?_
 rcases xs with _|⟨x,_|⟨_,_⟩⟩<;>try exact trivial
 refine Fh (hρ x) λv h=>?_
 show((do pure (Next.value (<-Instr.panic (ρ x)))):Sem Next).run P w=_
 simp[h]
theorem ye(hs:VP P σ H w)(hρ:Ql P σ tm ρ){o:Oper}{xs:List Operand}{ts:List TypeId}(ho:o.op=.call ⟨.builtin .recover,⟨xs⟩,⟨ts⟩⟩):WB P σ H w tm ρ o:=by
 refine T2 ho λcs=>?_
 rfl
theorem qb(hs:VP P σ H w)(hρ:Ql P σ tm ρ){o:Oper}{c:Call}(ho:o.op=.defer c):WB P σ H w tm ρ o:=by
 unfold WB;rw[ho]
 show XY P σ H w _ ((match c.callee with|.value f=>JG (XO P f) (args P c.args)|_=>U6) tm H)
 cases hc:c.callee with
 |builtin b=>exact trivial
 |invoke rv name=>exact trivial
 |value f=>
  intro g a b hx
  have g1:=hρ f
  rw[hx] at g1
  obtain⟨x,y,h1,h2,e1⟩:=NY g1
  refine⟨x,_,y,h1,Dz hρ c.args,h2,?_⟩
  simp only[execOp,ho,resolve,hc,e1,Deferred.ofValue,Sem.run_bind,Sem.run_pure,Result.andThen_ok]
  congr 3
  apply Array.ext'
  simp
theorem ME(hs:VP P σ H w)(hρ:Ql P σ tm ρ)(o:Oper):WB P σ H w tm ρ o:=by
 cases ho:o.op with
 |move x=>exact nP hs hρ ho
 |assign x=>exact v7 hs hρ ho
 |pick c a b=>exact nR hs hρ ho
 |alloc t=>exact r9 hs ho
 |box t x=>exact jw hs hρ ho
 |build t ps=>exact qa hs hρ ho
 |buildSlice t n ps=>exact v8 hs hρ ho
 |load t a=>exact nN hs hρ ho
 |store t a x=>exact qk hs hρ ho
 |nilCheck x=>exact jG hs hρ ho
 |binOp op t x y u=>cases op with
  |add=>exact jv hs hρ ho
  |sub=>exact jL hs hρ ho
  |mul=>exact jE hs hρ ho
  |quo=>exact jH hs hρ ho
  |rem=>exact jI hs hρ ho
  |and=>unfold WB;have h:=GH (f:=So) hs hρ ho (.inl ⟨rfl,rfl⟩);rw[ho];exact h
  |or=>unfold WB;have h:=GH (f:=QQ) hs hρ ho (.inr (.inl ⟨rfl,rfl⟩));rw[ho];exact h
  |xor=>unfold WB;have h:=GH (f:=AZ) hs hρ ho (.inr (.inr (.inl ⟨rfl,rfl⟩)));rw[ho];exact h
  |andNot=>unfold WB;have h:=GH (f:=KG) hs hρ ho (.inr (.inr (.inr ⟨rfl,rfl⟩)));rw[ho];exact h
  |shl=>exact jJ hs hρ ho
  |shr=>exact jK hs hρ ho
  |eql=>exact jy hs hρ ho
  |neq=>exact jF hs hρ ho
  |lss=>exact jD hs hρ ho
  |gtr=>exact jA hs hρ ho
  |leq=>exact jC hs hρ ho
  |geq=>exact jz hs hρ ho
 |unOp op t x=>exact bC hs hρ ho
 |convert s d x=>exact ya hs hρ ho
 |makeInterface t x=>
  unfold WB;rw[ho]
  refine Wk λd hu=>?_
  have h:=λhd=>nO hs hρ ho hu hd
  cases d<;>first
   |exact trivial
   |exact h rfl
 |makeFunc fn a b=>exact ua hs hρ ho
 |makeMap t r=>exact yc hs ho
 |mapUpdate t m k x=>exact Iy hs hρ (.inl ho)
 |insert t m k x=>exact Iy hs hρ (.inr ho)
 |lookup t m k ok=>exact v9 hs hρ ho
 |makeSlice t l c=>exact yd hs hρ ho
 |slice t x lo hi mx=>exact qj hs hρ ho
 |fieldAddr t x f=>exact CX hs hρ ho
 |field t x f=>exact qf hs hρ ho
 |indexAddr t x i=>exact CY hs hρ ho
 |index t x i=>exact qg hs hρ ho
 |typeAssert x xt t ok=>exact z9 hs hρ ho
 |extract x i=>exact yb hs hρ ho
 |call c=>
  by_cases hb: ∃b,c.callee=.builtin b
  ·obtain⟨b,hb⟩:=hb
   obtain⟨callee,⟨xs⟩,⟨ts⟩⟩:=c
   subst hb
   cases b with
   |append=>exact v6 hs hρ ho
   |copy=>exact nM hs hρ ho
   |len=>exact jB hs hρ ho
   |cap=>exact jx hs hρ ho
   |min=>exact Ds (mx:=false) hs hρ ho
   |max=>exact Ds (mx:=true) hs hρ ho
   |unsafeString=>exact nS hs hρ ho
   |unsafeSliceData=>exact uc hs hρ ho
   |panic=>exact ub hs hρ ho
   |recover=>exact ye hs hρ ho
   |_=>unfold WB;rw[ho];exact trivial
  ·exact nL hs hρ ho λb h=>hb ⟨b,h⟩
 |defer c=>exact qb hs hρ ho
 |panic x=>exact qh hs hρ ho
 |range t x=>exact qi hs hρ ho
 |next x b=>exact nQ hs hρ ho
 |entry x=>exact qc hs hρ ho
 |_=>unfold WB;rw[ho];exact trivial
end
end
end Go.AI
