/- Every operation of the interpreter's does what the model's does: proved for every world that is told. -/
import Derived.Test.YtbmjgbajoemnaaaGreatDoorP2
import Derived.Laws.BytesString
import Derived.Laws.Append
import Derived.Laws.StructEq
set_option maxRecDepth 1000000
set_option maxHeartbeats 0
set_option linter.unusedVariables false
set_option linter.unusedSimpArgs false
namespace Go.AI
open Go
noncomputable section
section
variable {P:Program} {σ:Mp} {H:Heap} {w:World} {tm:TM} {ρ:Operand->Value}
theorem Dp: ∀s:List UInt8,Gj s=s.map λb=>AV.int .u8 (.ofNat b.toNat)
 |[]=>rfl
 |b::s=>by simp[Gj,Dp s]
theorem C3(σ:Mp): ∀s:List UInt8,YO σ (Gj s) (s.map λb=>Value.int .u8 b.toNat)
 |[]=>Ul
 |b::s=>WD (by simp[Yt]) (C3 σ s)
theorem vm(s:List UInt8): ∀v∈s.map (λb=>Value.int .u8 b.toNat),v.oneCell'=true:=by
 intro v hv
 obtain⟨b,_,rfl⟩:=YC.1 hv
 rfl
def wi(n:Int):UInt8:=UInt8.ofNat n.toNat
theorem MV{r:Result Next}{f:List UInt8->OR}: ∀(as:List AV) (vs:List Value),YO σ as vs->(∀ns:List Int,vs=ns.map (Value.int .u8)->Y3 P σ H w r (f (ns.map wi)))->Y3 P σ H w r (R7 f as)
 |[],vs,h,g=>g [] (by rw[h.nil_inv];rfl)
 |a::as,vs,h,g=>by
  obtain⟨v,vs',h1,h2,rfl⟩:=h.cons_inv
  unfold R7
  split
  ·rename_i n
   have h1:=XX h1
   subst h1
   exact MV as vs' h2 λns hs=>g (.ofNat n::ns) (by rw[hs];rfl)
  ·trivial
theorem Fy: ∀(ns:List Int) (s:ByteArray),ns.foldl (λr n=>r.push (UInt8.ofNat n.toNat)) s=⟨(s.data.toList++ns.map wi).toArray⟩
 |[],s=>by
  apply ByteArray.ext
  apply Array.ext'
  simp
 |n::ns,s=>by
  rw[List.foldl_cons,Fy ns]
  simp[wi]
theorem Tr.drew(hs:Ww P σ H w):Tr P σ H w σ H w.drew:=
 ⟨Ext.refl σ,⟨hs.dom,hs.low,hs.alive,hs.inj,hs.glob,hs.ro⟩,Zl _,λ_ _ _=>rfl,λb l hw hl _=>⟨b,l,hw,hl,rfl⟩,Zl _,rfl,λ_ _=>rfl,rfl,rfl,rfl,λ_ _ h=>⟨rfl,h⟩⟩
theorem Ww.drew(hs:Ww P σ H w):Ww P σ H w.drew:=(Tr.drew hs).sim
theorem tC(w:World)(c:Array Value)(e n:Nat):(w.alloc (.cells c e)).freeze ⟨w.heap.size,n,none⟩ 1=w.alloc (.cells c e (n,n+1)):=by
 unfold World.freeze
 rw[if_neg (by decide)]
 have:(w.alloc (.cells c e)).heap.modify w.heap.size (λ
   |.cells c elem (lo,hi)=>.cells c elem (if lo==hi then(n,n+1) else(min lo n,max hi (n+1)))
   |o=>o)=(w.alloc (.cells c e (n,n+1))).heap:=by
  apply Array.ext_getElem?
  intro i
  rw[XT]
  by_cases h:w.heap.size=i
  ·subst h;rw[if_pos rfl,Sy,Sy];rfl
  ·rw[if_neg h]
   by_cases h2:i<w.heap.size
   ·rw[SA h2,SA h2]
   ·rw[Array.getElem?_eq_none (by simp;omega),Array.getElem?_eq_none (by simp;omega)]
 exact(congrArg (λhp=>({heap:=hp,tape:=w.tape,drawn:=w.drawn,os:=w.os,output:=w.output}:World)) this).trans rfl
theorem oM{w:World}{g n:Nat}{cs:Array Value}{t:TypeId}{fr:Nat×Nat}(h:w.heap[g]? =some (.cells cs t fr))(hf:fr.1=fr.2):
  Ap w (w.freeze ⟨g,n,none⟩ 1) g (.cells cs t (n,n+1)):=by
 obtain⟨a,b⟩:=fr
 simp only at hf
 subst hf
 refine⟨by simp[World.freeze],?_,λk hk=>?_,rfl,rfl,rfl⟩
 ·simp only[World.freeze,Nat.one_ne_zero,if_false,XT]
  rw[h];simp
 ·simp only[World.freeze,Nat.one_ne_zero,if_false,XT]
  rw[if_neg (λe=>hk e.symm)]
theorem ZcK{f:TypeId->Bool}{e count off n d:Nat}(h1:1<=P.cellsOf e)(h2:off % P.cellsOf e=0)(h3:off/P.cellsOf e+n<=count)(hf:f e=true):rowAt P f (d+1) e count off n=true:=by
 unfold rowAt
 have q4: ¬(P.cellsOf e=0):=by omega
 simp only[if_neg q4,h2,beq_self_eq_true,Yz,hf,UE,Ze h3,VC]
theorem m7(d u:Nat):sameLayout P (d+1) u u=true:=by unfold sameLayout;simp
theorem pd{e count off n:Nat}(h1:1<=P.cellsOf e)(h2:off % P.cellsOf e=0)(h3:off/P.cellsOf e+n<=count):liesAt P P.depth e count off e n=true:=by
 have hd: ∃d,P.depth=d+1:=⟨2*(P.types.size+Made.depth)+1,rfl⟩
 obtain⟨d,hd⟩:=hd
 rw[hd]
 unfold liesAt
 rw[hd,ZcK (f:=λx=>sameLayout P (d+1) x e) h1 h2 h3 (m7 d e)]
 rfl
theorem Iu(need old e:Nat)(w:World): ∃k,(choose (.appendCap need old e)).run P w=.ok (need+k) w.drew:=by
 refine⟨w.tape w.drawn (.appendCap need old e) % (2^63 - need),?_⟩
 simp[Question.forced,Question.cut]
theorem GN{w:World}{g:Nat}{cs:Array Value}{t:TypeId}{fr:Nat×Nat}(h:w.heap[g]? =some (.cells cs t fr)):w.shape? g=some (t,cs.size):=by
 unfold World.shape?;rw[h]
theorem sX(hs:Ww P σ H w)(hρ:Rl P σ tm ρ){o:Oper}{s d:TypeId}{x:Operand}(ho:o.op=.convert s d x):Xr P σ H w tm ρ o:=by
 unfold Xr;rw[ho]
 refine Xj λds nc=>Xj λdd hud=>?_
 have h1:=hρ x
 have hr: ∀{v:Value} {w':World},(convert s d (ρ x)).run P w=.ok v w'->(execOp ρ o).run P w=.ok (.value v) w':=λh=>by
  simp only[execOp,ho];exact WY h
 show Y3 P σ H w _ (aY P s d (YQ P x) ds dd tm H)
 cases ds<;>cases dd<;>try exact trivial
 case int.int k1 k=>
  refine RS λj n hx=>?_
  rw[hx] at h1
  have h1:=XX h1
  refine Rs hs (hr ?_)
  rw[h1]
  simp[convert,run_underlying nc,run_underlying hud,Conv.intToInt]
 case int.string k1=>
  refine RS λj n hx=>?_
  rw[hx] at h1
  have h1:=XX h1
  refine Yg hs (x:=.string (Utf8.encode n)) (hr ?_) (by simp[Yt])
  rw[h1]
  simp[convert,run_underlying nc,run_underlying hud,Conv.intToString]
 case string.string=>
  refine PJ λt hx=>?_
  rw[hx] at h1
  have h0:=h1
  have h1:=Uf h1
  refine Yg hs (x:=ρ x) (hr ?_) h0
  rw[h1]
  simp[convert,run_underlying nc,run_underlying hud]
 case string.slice e=>
  refine Xj λde hue=>Cr λhde=>PJ λt hx=>?_
  subst hde
  rw[hx] at h1
  have h1:=Uf h1
  obtain⟨k,hk⟩:=Iu (P:=P) t.length 0 e w
  have hrun:(execOp ρ o).run P w=.ok (.value (.slice (some ⟨w.heap.size,0,none⟩) t.length (t.length+k))) (w.drew.alloc (.cells ⟨t.map (λb=>Value.int .u8 b.toNat)++List.replicate k (.int .u8 0)⟩ e (t.length+k,t.length+k+1))):=by
   refine hr ?_
   rw[h1]
   simp only[convert,Sem.run_bind,run_underlying nc,run_underlying hud,run_underlying hue,Result.andThen_ok,Conv.stringToBytes,Np,hk]
   have hc:((t.toArray.map λb=>Value.int .u8 b.toNat)++Array.replicate (t.length+k - t.length) (Value.int .u8 0))=⟨t.map (λb=>Value.int .u8 b.toNat)++List.replicate k (.int .u8 0)⟩:=by
    apply Array.ext'
    simp
   simp only[hc,newRow,Sem.run_bind,run_newObj,Result.andThen_ok,World.alloc_eq,Sem.run_pure,markStringish,run_shape]
   have hsh:(w.drew.alloc (.cells ⟨t.map (λb=>Value.int .u8 b.toNat)++List.replicate k (.int .u8 0)⟩ e)).shape? w.drew.heap.size=some (e,t.length+k):=by
    unfold World.shape?
    rw[Sy]
    simp
   simp only[hsh,run_freeze,Result.andThen_ok]
   rw[tC]
   rfl
  refine Vr ((Tr.drew hs).trans (Tr.alloc hs.drew (.row ⟨e,1,YF t,T.ofList (Gj t),.unk,0,true,true,false⟩) _ ⟨w.heap.size,0,t.length+k,1⟩ rfl ⟨_,_,rfl,?_⟩)) hrun ?_
  ·have hl:(Gj t).length=t.length:=by rw[Dp];simp
   have:=IU (σ:=σ.put H.nx ⟨w.heap.size,0,t.length+k,1⟩) (e:=e) (sz:=1) (tot:=t.length+k) (sm:=true) (exact:=false) (blk:=w.heap.size) (fr:=(t.length+k,t.length+k+1)) (rest:=List.replicate k (.int .u8 0)) (C3 _ t)
    (λv hv=>by
     rcases Zy.1 hv with hv|hv
     ·exact vm t v hv
     ·rw[List.eq_of_mem_replicate hv];rfl) (Zl _) (by rw[hl];omega) (by simp) (λh=>by cases h) (by simp)
   have e1:YF (Gj t)=YF t:=by rw[Yw,Yw,hl]
   rw[e1] at this
   exact this
  ·rw[Yw];exact Sf (l:=⟨w.heap.size,0,t.length+k,1⟩) rfl
 case slice.string e=>
  refine Xj λde hue=>Cr λhde=>?_
  subst hde
  refine HI (λhx=>?_) (T8 (λhx=>?_) λb off len cap hx=>V9 (λhn=>?_) λhn=>Tj λr hr'=>Ym λhle=>?_)
  ·rw[hx] at h1
   obtain⟨a,h1⟩: ∃a,ρ x=.slice (some a) 0 0:=by simpa only[Yt] using h1
   refine Yg hs (x:=.string .empty) (hr ?_) (by simp only[Yt];rfl)
   rw[h1,run_convert_bytes_string w s d e _ _ _ nc hue hud,run_bytesToString w _ _ _ [] (by rfl)]
   rfl
  ·rw[hx] at h1
   have h1:ρ x=.slice none 0 0:=by simpa only[Yt] using h1
   refine Yg hs (x:=.string .empty) (hr ?_) (by simp only[Yt];rfl)
   rw[h1,run_convert_bytes_string w s d e none 0 0 nc hue hud]
   simp[Conv.bytesToString]
  ·rw[hx] at h1
   obtain⟨l,hl,e1⟩:=Ub h1
   rw[Yu] at hn
   have hn:len=0:=Zo hn
   refine Yg hs (x:=.string .empty) (hr ?_) (by simp only[Yt];rfl)
   rw[e1,run_convert_bytes_string w s d e _ _ _ nc hue hud,run_bytesToString w _ _ _ [] (by rw[hn];rfl)]
   rfl
  ·rw[hx] at h1
   obtain⟨l,hl,e1⟩:=Ub h1
   obtain⟨cs,fr,hc,hrr⟩:=hs.row hr' hl
   rw[Xa] at hle
   have hle:off+len<=r.size:=Zo hle
   obtain⟨vs,h2,h3,h4,h5⟩:=Pp hrr len off hle
   refine MV _ vs h2 λns hns=>?_
   have hload:=Ri (P:=P) hc vs (o:=l.base+off) h4
   rw[h3,hns] at hload
   refine Yg hs (hr (v:=.string ⟨(ns.map wi).toArray⟩) ?_) (by simp[Yt])
   rw[e1,run_convert_bytes_string w s d e _ _ _ nc hue hud,run_bytesToString w _ _ _ ns hload,Fy]
   simp
 case pointer.unsafePointer u=>
  refine XG λi hi=>WF (λh3=>?_) λ_=>TJ
  rw[Xa] at h3
  have h3:1<=i.size:=Zo h3
  show Y3 P σ H w _ (zo (YQ P x) tm H)
  unfold zo
  split
  ·rename_i hx
   rw[hx] at h1
   have h1:ρ x=.pointer none:=by simpa only[Yt] using h1
   refine Yg hs (x:=.pointer none) (hr ?_) (by simp[Yt])
   rw[h1]
   simp[convert,run_underlying nc,run_underlying hud,Conv.unsafePointer]
  ·rename_i b off hx
   refine Tj λr hr'=>Ym λhle=>?_
   rw[hx] at h1
   obtain⟨l,hl,e1⟩:=Ue h1
   obtain⟨cs,fr,hc,hrr⟩:=hs.row hr' hl
   rw[Xa] at hle
   have hle:off+1<=r.size:=Zo hle
   have q1:=hrr.fits
   have q2:=hrr.room
   refine Yg hs (hr ?_) (Mq hl)
   rw[e1]
   have hsh:=GN hc
   simp only[convert,Sem.run_bind,run_underlying nc,run_underlying hud,Result.andThen_ok,Conv.unsafePointer,Conv.seenAt,viewAt,run_shape,hsh,Option.isSome_some,if_true,Sem.run_pure,cellsIn,Wq hi]
   have q3: ¬(l.base+off≥cs.size):=by omega
   have q4: ¬(i.size=0):=by omega
   simp[q3,q4]
  ·trivial
 case unsafePointer.pointer u=>
  refine XG λi hi=>WF (λh3=>?_) λ_=>TJ
  rw[Xa] at h3
  have h3:1<=i.size:=Zo h3
  show Y3 P σ H w _ (zm (YQ P x) u i.size tm H)
  unfold zm
  split
  ·rename_i hx
   rw[hx] at h1
   have h1:ρ x=.pointer none:=by simpa only[Yt] using h1
   refine Yg hs (x:=.pointer none) (hr ?_) (by simp[Yt])
   rw[h1]
   simp[convert,run_underlying nc,run_underlying hud,Conv.unsafePointer]
  ·rename_i b off hx
   refine Tj λr hr'=>Ym λhex=>Ym λhel=>Ym λh0=>Ym λhle=>?_
   rw[hx] at h1
   obtain⟨l,hl,e1⟩:=Ue h1
   obtain⟨cs,fr,hc,hrr⟩:=hs.row hr' hl
   rw[Xa] at hle
   rw[Yu] at hel h0
   have hle:i.size<=r.size:=Zo hle
   have hel:r.elem=u:=Zo hel
   have h0:off=0:=Zo h0
   obtain⟨x1,x2,x3⟩:=hrr.exact hex
   refine Yg hs (hr ?_) (Mq hl)
   rw[e1]
   have hsh:=GN hc
   have q4: ¬(i.size=0):=by omega
   have hcell:P.cellsOf u=i.size:=by simp[Program.cellsOf,hi]
   have hlies:liesAt P P.depth r.elem (cs.size/P.cellsOf r.elem) (l.base+off) u 1=true:=by
    rw[hel,hcell,x2,h0]
    refine pd (by rw[hcell];omega) (by rw[hcell];rfl) ?_
    rw[hcell,Nat.zero_div,Zs,Nat.le_div_iff_mul_le (by omega)];omega
   simp only[convert,Sem.run_bind,run_underlying nc,run_underlying hud,Result.andThen_ok,Conv.unsafePointer,Conv.seenAt,viewAt,run_shape,hsh,Option.isSome_some,if_true,Sem.run_pure,Wq hi,variablesAt,run_program,hlies]
   simp[hlies]
  ·trivial
 case slice.slice e1 e2=>
  refine WF (λhsd=>Xj λde hue=>Cr λhde=>?_) λ_=>TJ
  subst hde
  rw[Yu] at hsd
  have hsd:s=d:=Zo hsd
  refine T8 (λ_=>trivial) λb off len cap hx=>Tj λr hr'=>Ym λRI=>Ym λhfz=>?_
  have h0:=h1
  rw[hx] at h1
  obtain⟨l,hl,e3⟩:=Ub h1
  obtain⟨cs,fr,hc,hrr⟩:=hs.row hr' hl
  have A9:r.sm=false∧H.may r b=true:=by
   cases hsm:r.sm with
   |true=>rw[hsm] at RI;cases RI
   |false=>rw[hsm] at RI;exact⟨rfl,RI⟩
  obtain⟨hwr,hown⟩:=Wr.of_may A9.2 hr'
  rw[Yu] at hfz
  have hfz:r.fz=0:=Zo hfz
  have hfr:fr.1=fr.2:=by
   rcases hrr.frs hown A9.1 with h|h
   ·exact h
   ·omega
  have hrun:(execOp ρ o).run P w=.ok (.value (ρ x)) (w.freeze ⟨l.blk,cs.size,none⟩ 1):=by
   refine hr ?_
   rw[e3]
   have Zjj:(s==d)=true:=by simp[hsd]
   have hsh:=GN hc
   simp only[convert,Sem.run_bind,run_underlying nc,run_underlying hud,run_underlying hue,Result.andThen_ok,Zjj,markStringish,run_shape,hsh,run_freeze,Sem.run_pure]
  have hfz':=oM (n:=cs.size) hc hfr
  refine Vr (Tr.write hs hr' hl hwr hfz'.size hfz'.new hfz'.old ⟨cs,_,rfl,?_⟩ hfz'.tape hfz'.os hfz'.out) hrun (by rw[hx];rw[hx] at h0;exact h0)
  have q1:=hrr.room
  refine⟨hrr.sz,hrr.sz1,hrr.fits,hrr.room,hrr.exact,?_,hrr.one,?_,λ_ h=>by cases h⟩
  ·intro i hi
   exact hrr.cell i hi
  ·intro _ i _ hi
   simp only
   omega
theorem vV{o:Oper}{c:Call}{b:Builtin}(ho:o.op=.call c)(hc:c.callee=.builtin b):
  ∃cs,(execOp ρ o).run P w=(builtin b c.argTypes o.type cs (c.args.map ρ)).run P w:=by
 refine⟨c.args.map λ|.const _=>true|_=>false,?_⟩
 simp only[execOp,ho,resolve,hc,Sem.run_bind,Sem.run_pure,Result.andThen_ok,invoke]
 rfl
theorem Ux{o:Oper}{xs:List Operand}{ts:List TypeId}{b:Builtin}(ho:o.op=.call ⟨.builtin b,⟨xs⟩,⟨ts⟩⟩)
  (h: ∀cs,Y3 P σ H w ((builtin b ⟨ts⟩ o.type cs ⟨xs.map ρ⟩).run P w) (kE P b xs ts tm H)):Xr P σ H w tm ρ o:=by
 unfold Xr
 obtain⟨cs,h2⟩:=vV (P:=P) (w:=w) (ρ:=ρ) ho rfl
 rw[h2,ho]
 have h3:=h cs
 have e:Array.map ρ ⟨xs⟩=⟨xs.map ρ⟩:=by simp
 show Y3 P σ H w ((builtin b ⟨ts⟩ o.type cs (Array.map ρ ⟨xs⟩)).run P w) (kE P b xs ts tm H)
 rw[e];exact h3
theorem Ep{r:Row}{l:Loc}{cs:Array Value}{fr:Nat×Nat}(hr:R8 σ r l cs fr)(hex:r.exact=true){o:Nat}(ho:o % l.sz=0):UT r o none=l.tot - o/l.sz:=by
 show cond (Nat.beq r.sz 1) (r.size - o) ((r.size - o)/r.sz)=_
 obtain⟨h1,_,_⟩:=hr.exact hex
 have h2:=hr.sz
 have h3:=hr.sz1
 have key:(r.size - o)/l.sz=l.tot - o/l.sz:=by
  have hd:=TH o l.sz
  rw[ho,ZZ] at hd
  have e:r.size - o=(l.tot - o/l.sz)*l.sz:=by rw[Nat.sub_mul,<-h1,W2 (o/l.sz),hd]
  rw[e,SQ _ (by omega)]
 rw[Yu]
 by_cases e:r.sz=1
 ·rw[Ze e]
  have e2:l.sz=1:=by omega
  rw[e2] at key ⊢
  simpa using key
 ·rw[Zb e,<-h2];exact key
theorem QQ{b:Nat}{es:Array MapEntry}{c:Nat}(h:w.heap[b]? =some (.map es c)):(getObj b).run P w=.ok (.map es c) w:=by simp[getObj,Sem.run,h]
theorem Jp{t:TypeId}{x:Value}{d:TypeDesc}{y:Value}{cs:Array Bool}{ty:TypeId}(hu:P.underlying t=some d)(h:(Builtin.len_ #[t] ty #[x]).run P w=.ok y w):
  (builtin .len ⟨[t]⟩ ty cs ⟨[x]⟩).run P w=.ok (.value y) w:=WY h
theorem Zco(hs:Ww P σ H w)(hρ:Rl P σ tm ρ){o:Oper}{xs:List Operand}{ts:List TypeId}(ho:o.op=.call ⟨.builtin .len,⟨xs⟩,⟨ts⟩⟩):Xr P σ H w tm ρ o:=by
 refine Ux ho λcs=>?_
 rcases xs with _|⟨x,_|⟨_,_⟩⟩<;>try exact trivial
 rcases ts with _|⟨t,_|⟨_,_⟩⟩<;>try exact trivial
 refine Xj λd hu=>?_
 have g:=hρ x
 cases d<;>try exact trivial
 case string=>
  refine PJ λs hx=>Nd ?_
  rw[hx] at g
  have g:=Uf g
  refine Yg hs (x:=.int .i64 s.length) (Jp hu ?_) (by rw[Yw];simp[Yt])
  rw[g]
  simp[Builtin.len_,run_underlying hu,goInt,Np]
 case slice e=>
  refine HI (λhx=>?_) (T8 (λhx=>?_) λb off n c hx=>Nd ?_)
  ·rw[hx] at g
   obtain⟨l,e1⟩: ∃l,ρ x=.slice (some l) 0 0:=by simpa only[Yt] using g
   refine Yg hs (x:=.int .i64 0) (Jp hu ?_) (by simp[Yt])
   rw[e1]
   simp[Builtin.len_,run_underlying hu,goInt]
  ·rw[hx] at g
   have g:ρ x=.slice none 0 0:=by simpa only[Yt] using g
   refine Yg hs (x:=.int .i64 0) (Jp hu ?_) (by simp[Yt])
   rw[g]
   simp[Builtin.len_,run_underlying hu,goInt]
  ·rw[hx] at g
   obtain⟨l,hl,e1⟩:=Ub g
   refine Yg hs (x:=.int .i64 n) (Jp hu ?_) (by simp[Yt])
   rw[e1]
   simp[Builtin.len_,run_underlying hu,goInt]
 case map kt e=>
  refine HH (λhx=>?_) λb hx=>OG λob Fe=>?_
  ·rw[hx] at g
   have g:ρ x=.map none:=by simpa only[Yt] using g
   refine Yg hs (x:=.int .i64 0) (Jp hu ?_) (by simp[Yt])
   rw[g]
   simp[Builtin.len_,run_underlying hu,goInt]
  ·rw[hx] at g
   have g: ∃l,σ b=some l∧ρ x=.map (some l.blk):=by simpa only[Yt] using g
   obtain⟨l,hl,e1⟩:=g
   cases ob<;>try exact trivial
   case map es clock=>
    obtain⟨c,hc,ho'⟩:=hs.alive b _ l Fe hl
    obtain⟨ents,rfl,hr,_⟩:=ho'
    have hlen:es.length=ents.size:=by
     have: ∀(es:List RE) (l:List MapEntry),YG σ es l->es.length=l.length:=by
      intro es
      induction es with
      |nil=>intro l h;simp only[YG] at h;subst h;rfl
      |cons a es ih=>intro l h;simp only[YG] at h;obtain⟨e,es',_,h2,rfl⟩:=h;simp[ih _ h2]
     rw[this _ _ hr];simp
    refine Yg hs (x:=.int .i64 ents.size) (Jp hu ?_) (by rw[Yw,hlen];simp[Yt])
    rw[e1]
    simp[Builtin.len_,run_underlying hu,goInt,QQ hc]
theorem Zck(hs:Ww P σ H w)(hρ:Rl P σ tm ρ){o:Oper}{xs:List Operand}{ts:List TypeId}(ho:o.op=.call ⟨.builtin .cap,⟨xs⟩,⟨ts⟩⟩):Xr P σ H w tm ρ o:=by
 refine Ux ho λcs=>?_
 rcases xs with _|⟨x,_|⟨_,_⟩⟩<;>try exact trivial
 rcases ts with _|⟨t,_|⟨_,_⟩⟩<;>try exact trivial
 refine Xj λd hu=>?_
 have g:=hρ x
 have hr: ∀{y:Value},(Builtin.cap_ #[t] o.type #[ρ x]).run P w=.ok y w->(builtin .cap ⟨[t]⟩ o.type cs ⟨[ρ x]⟩).run P w=.ok (.value y) w:=λh=>WY h
 cases d<;>try exact trivial
 case slice e=>
  refine T8 (λhx=>?_) λb off n c hx=>?_
  ·rw[hx] at g
   have g:ρ x=.slice none 0 0:=by simpa only[Yt] using g
   refine Yg hs (x:=.int .i64 0) (hr ?_) (by simp[Yt])
   rw[g]
   simp[Builtin.cap_,run_underlying hu,goInt]
  ·rw[hx] at g
   obtain⟨l,hl,e1⟩:=Ub g
   cases c with
   |some c=>
    refine Yg hs (x:=.int .i64 c) (hr ?_) (by simp[Yt])
    rw[e1]
    simp[Builtin.cap_,run_underlying hu,goInt]
   |none=>
    refine Tj λr hr'=>Ym λhex=>Ym λhmod=>?_
    rw[Yu] at hmod
    have hmod:off % r.sz=0:=Zo hmod
    obtain⟨cs',fr,hc,hrr⟩:=hs.row hr' hl
    refine Yg hs (x:=.int .i64 (l.tot - off/l.sz:Nat)) (hr ?_) ?_
    ·rw[e1]
     simp[Builtin.cap_,run_underlying hu,goInt]
    ·simp only[Yt]
     congr 1
     have:=Ep hrr hex (o:=off) (by rw[hrr.sz];exact hmod)
     simp[this]
theorem aI(ts:Array TypeId)(t:TypeId)(n c:Nat):Builtin.unsafeSliceData_ ts t #[.slice none n c]=pure (.pointer none):=rfl
theorem fQ(ts:Array TypeId)(t:TypeId)(a:Addr)(n c:Nat)(h:c≠0):(Builtin.unsafeSliceData_ ts t #[.slice (some a) n c]).run P w=.ok (.pointer (some a)) w:=by
 show(if c≠0 then pure (Value.pointer (some a)) else _:Sem Value).run P w=_
 rw[if_pos h];rfl
theorem mw(hs:Ww P σ H w)(hρ:Rl P σ tm ρ){o:Oper}{xs:List Operand}{ts:List TypeId}(ho:o.op=.call ⟨.builtin .unsafeSliceData,⟨xs⟩,⟨ts⟩⟩):Xr P σ H w tm ρ o:=by
 refine Ux ho λcs=>?_
 rcases xs with _|⟨x,_|⟨_,_⟩⟩<;>try exact trivial
 have g:=hρ x
 refine T8 (λhx=>?_) λb off n c hx=>?_
 ·rw[hx] at g
  have g:ρ x=.slice none 0 0:=by simpa only[Yt] using g
  refine Yg hs (x:=.pointer none) ?_ (by simp[Yt])
  refine WY ?_
  show(Builtin.unsafeSliceData_ ⟨ts⟩ o.type #[ρ x]).run P w=_
  rw[g]
  exact congrArg (λs=>s.run P w) (aI _ _ _ _)
 ·rw[hx] at g
  obtain⟨l,hl,e1⟩:=Ub g
  have fin:c.getD (l.tot - off/l.sz)≠0->Y3 P σ H w ((builtin .unsafeSliceData ⟨ts⟩ o.type cs ⟨[ρ x]⟩).run P w) (.val (.ptr b off) H):=λh=>by
   refine Yg hs ?_ (Mq hl)
   refine WY ?_
   show(Builtin.unsafeSliceData_ ⟨ts⟩ o.type #[ρ x]).run P w=_
   rw[e1]
   exact fQ _ _ _ _ _ h
  cases c with
  |some c=>
   refine Ym λh=>fin ?_
   rw[Xa] at h
   have h:1<=c:=Zo h
   simp only[Option.getD_some];omega
  |none=>
   refine Tj λr hr'=>Ym λh=>fin ?_
   obtain⟨cs',fr,hc,hrr⟩:=hs.row hr' hl
   rw[Xa] at h
   have h:off+1<=r.size:=Zo h
   have h1:=hrr.fits
   have h2:=hrr.sz1
   simp only[Option.getD_none]
   have:off/l.sz<l.tot:=by rw[Qb (by omega)];omega
   omega
def qf(v:AV)(m:Nat):Prop:=((v=.nils∨v=.slice0)∧m=0)∨(∃b o c,v=.slice b o m c)∨ ∃s,v=.str s∧m=s.length
theorem A0{r:Result Next}{v:AV}{k:Nat->OR}(h: ∀m,qf v m->Y3 P σ H w r (k m)):Y3 P σ H w r (y3 v k):=by
 unfold y3
 split
 ·exact h 0 (.inl ⟨.inl rfl,rfl⟩)
 ·exact h 0 (.inl ⟨.inr rfl,rfl⟩)
 ·exact h _ (.inr (.inl ⟨_,_,_,rfl⟩))
 ·rw[Yw];exact h _ (.inr (.inr ⟨_,rfl,rfl⟩))
 ·trivial
theorem zM{v:AV}{m:Nat}{x:Value}(h:qf v m)(hr:Yt σ v x)(w':World):(Builtin.lenOf x).run P w'=.ok m w':=by
 rcases h with⟨rfl|rfl,rfl⟩|⟨b,o,c,rfl⟩|⟨s,rfl,rfl⟩
 ·have:x=.slice none 0 0:=by simpa only[Yt] using hr
  rw[this];rfl
 ·obtain⟨a,this⟩: ∃a,x=.slice (some a) 0 0:=by simpa only[Yt] using hr
  rw[this];rfl
 ·obtain⟨l,_,rfl⟩:=Ub hr;rfl
 ·rw[Uf hr];simp[Builtin.lenOf,Np]
structure aN(P:Program)(σ:Mp)(w:World)(sz n:Nat)(x:Value)(as:List AV)(vs:List Value):Prop where
 rel:YO σ as vs
 one: ∀u∈vs,u.oneCell'=true
 len:vs.length=n*sz
 run: ∀w':World,w'.heap=w.heap->(Builtin.firstCells sz n x).run P w'=.ok ⟨vs⟩ w'
theorem Co{v:AV}{x:Value}(hx:Yt σ v x){sz m:Nat}(hm:qf v m):aN P σ w sz 0 x [] []:=by
 refine⟨Ul,by simp,by simp,λw' _=>?_⟩
 rcases hm with⟨rfl|rfl,rfl⟩|⟨b,o,c,rfl⟩|⟨s,rfl,rfl⟩
 ·have:x=.slice none 0 0:=by simpa only[Yt] using hx
  rw[this];rfl
 ·obtain⟨a,this⟩: ∃a,x=.slice (some a) 0 0:=by simpa only[Yt] using hx
  rw[this];simp only[Builtin.firstCells,W3];rfl
 ·obtain⟨l,_,rfl⟩:=Ub hx
  simp only[Builtin.firstCells,W3];rfl
 ·rw[Uf hx]
  simp[Builtin.firstCells]
theorem JN{r:Result Next}(hs:Ww P σ H w){v:AV}{x:Value}(hx:Yt σ v x){sz n m:Nat}{k:List AV->OR}(hm:qf v m)(hn:n<=m)
  (h: ∀as vs,aN P σ w sz n x as vs->Y3 P σ H w r (k as)):Y3 P σ H w r (Vq H sz v n k):=by
 unfold Vq
 refine V9 (λh0=>?_) λ_=>?_
 ·rw[Yu] at h0
  have h0:n=0:=Zo h0
  subst h0
  exact h [] [] (Co hx hm)
 ·rcases hm with⟨rfl|rfl,rfl⟩|⟨b,o,c,rfl⟩|⟨s,rfl,rfl⟩
  ·trivial
  ·trivial
  ·refine Tj λrr hrr=>Ym λhle=>?_
   rw[Xa] at hle
   have hle:o+n*sz<=rr.size:=Zo hle
   obtain⟨l,hl,rfl⟩:=Ub hx
   obtain⟨cs,fr,hc,hrow⟩:=hs.row hrr hl
   obtain⟨vs,h2,h3,h4,h5⟩:=Pp hrow (n*sz) o hle
   refine h _ vs ⟨h2,h5,h3,λw' hw=>?_⟩
   have hc':w'.heap[l.blk]? =some (.cells cs rr.elem fr):=by rw[hw];exact hc
   have:=Ri (P:=P) hc' vs (o:=l.base+o) h4
   rw[h3] at this
   exact this
  ·refine Ym λh1=>?_
   rw[Yu] at h1
   have h1:sz=1:=Zo h1
   subst h1
   rw[OZ]
   refine h _ _ ⟨C3 σ _,vm _,by simp;omega,λw' _=>?_⟩
   rw[Uf hx]
   simp only[Builtin.firstCells,Sem.run_pure,Result.ok.injEq,and_true]
   apply Array.ext'
   simp[WL]
theorem cX(a b:Nat):Kw a b=Nat.min a b:=by
 unfold Kw
 rw[Xa]
 by_cases h:a<=b
 ·rw[Ze h];exact(Vi h).symm
 ·rw[Zb h];exact(Sm (Nb (Nat.lt_of_not_le h))).symm
theorem bE(hs:Ww P σ H w)(hρ:Rl P σ tm ρ){o:Oper}{xs:List Operand}{ts:List TypeId}(ho:o.op=.call ⟨.builtin .copy,⟨xs⟩,⟨ts⟩⟩):Xr P σ H w tm ρ o:=by
 refine Ux ho λcs=>?_
 rcases xs with _|⟨x,_|⟨y,_|⟨_,_⟩⟩⟩<;>try exact trivial
 rcases ts with _|⟨t,_|⟨t2,_|⟨_,_⟩⟩⟩<;>try exact trivial
 refine Xj λd hu=>Nf λe hd=>XG λi hi=>A0 λsn hsn=>?_
 subst hd
 have g:=hρ x
 have step: ∀(base:Option Addr) (dn cp:Nat) (vs:List Value),ρ x=.slice base dn cp->(Builtin.firstCells i.size (Nat.min dn sn) (ρ y)).run P w=.ok ⟨vs⟩ w->
   (Builtin.copy_ ⟨[t,t2]⟩ o.type ⟨[ρ x,ρ y]⟩).run P w=(do (match base with|some a=>storeCells a vs|none=>pure ());pure (goInt (Nat.min dn sn)):Sem Value).run P w:=by
  intro base dn cp vs e1 hr
  have hl:=zM (P:=P) hsn (hρ y) w
  rw[show Nat.min dn sn=Nat.min sn dn from Nat.min_comm _ _] at hr ⊢
  simp only[Builtin.copy_,XD,Vo,Yq,Sem.run_bind,run_underlying hu,Result.andThen_ok,e1,hl,Wq hi,hr]
  cases base with
  |none=>rfl
  |some a=>simp
 refine T8 (λhx=>?_) λb off dn c hx=>Nd ?_
 ·rw[hx] at g
  have g:ρ x=.slice none 0 0:=by simpa only[Yt] using g
  refine Yg hs (x:=.int .i64 0) ?_ (by simp[Yt])
  refine WY ?_
  refine(step none 0 0 [] g ?_).trans ?_
  ·rw[show Nat.min 0 sn=0 from Nat.zero_min sn]
   exact(Co (w:=w) (hρ y) hsn).run w rfl
  ·rw[show Nat.min 0 sn=0 from Nat.zero_min sn];rfl
 ·rw[cX]
  have hmin:Nat.min dn sn<=sn:=Nat.min_le_right _ _
  rw[hx] at g
  obtain⟨l,hl,e1⟩:=Ub g
  refine JN hs (hρ y) hsn hmin λas vs hf=>V9 (λh0=>?_) λh0=>Tj λr hr=>Ym λRI=>Ym λhfz=>Ym λhle=>?_
  ·rw[Yu] at h0
   have h0:Nat.min dn sn=0:=Zo h0
   have hv:vs=[]:=by have:=hf.len;rw[h0,W3] at this;exact YW.1 this
   refine Yg hs (x:=.int .i64 0) ?_ (by simp[Yt])
   refine WY ?_
   refine(step _ _ _ vs e1 (hf.run w rfl)).trans ?_
   rw[hv,h0]
   simp[goInt,storeCells]
  ·rw[Xa] at hfz hle
   have hfz:r.fz<=off:=Zo hfz
   have hle:off+Nat.min dn sn*i.size<=r.size:=Zo hle
   obtain⟨w',hrun,htr⟩:=F3 hs hr hl RI hf.rel hf.one (o:=off) (by rw[hf.len];exact hle) hfz
   refine Vr htr (x:=.int .i64 (Nat.min dn sn:Nat)) ?_ (by simp[Yt])
   refine WY ?_
   refine(step _ _ _ vs e1 (hf.run w rfl)).trans ?_
   simp[hrun,goInt]
def app(e:TypeId)(i:TypeInfo)(z:Value)(base:Option Addr)(sLen sCap n:Nat)(news:Sem (Array Value)):Sem Value:=
 if sLen+n<=sCap then do
  let new<-news
  if let some a:=base then storeCells (a.add (sLen*i.size)) new.toList
  pure (.slice base (sLen+n) sCap)
 else do
  let newCap<-choose (.appendCap (sLen+n) sCap e)
  let old<-Builtin.firstCells i.size sLen (.slice base sLen sCap)
  let new<-news
  let a<-newRow e (old++new++Builtin.zeroCells z.cells (newCap - (sLen+n)))
  pure (.slice (some a) (sLen+n) newCap)
def pk(i:TypeInfo)(z:Value)(n:Nat):Sem (Array Value):=if n*i.size=0 then pure #[] else pure (Builtin.zeroCells z.cells n)
theorem al{t u ty e:TypeId}{i:TypeInfo}{z x:Value}{d:TypeDesc}(ht:P.underlying t=some (.slice e))(hu:P.underlying u=some d)(hd: ∀k,d≠.int k)(hi:P.info? e=some i)(hz:i.zero=some z)
  {base:Option Addr}{sLen sCap n:Nat}(hn:(Builtin.lenOf x).run P w=.ok n w)(hb:1<=i.bytes)(hfit:(sLen+n)*i.bytes<=140737488355328∨sLen+n<=sCap):
  (Builtin.append_ ⟨[t,u]⟩ ty ⟨[.slice base sLen sCap,x]⟩).run P w=(app e i z base sLen sCap n (Builtin.firstCells i.size n x)).run P w:=by
 unfold app
 simp only[Builtin.append_,Sem.run_bind,XD,Vo,Yq,run_underlying ht,run_underlying hu,Result.andThen_ok,Wq hi,Sem.run_pure,YJ,if_false,hn,Xi,if_true]
 by_cases h:sLen+n<=sCap
 ·rw[if_pos h,if_pos h]
  simp only[Sem.run_bind]
  congr 1
 ·rw[if_neg h,if_neg h]
  have h5:sLen+n<=140737488355328:=by
   rcases hfit with h1|h1
   ·exact Zn (S2 _ hb) h1
   ·exact absurd h1 h
  have h3:Builtin.nextslicecap (sLen+n) sCap*i.bytes<=281474976710656:=growslice_fits (Nat.lt_of_not_le h) (by rcases hfit with h1|h1;exact h1;exact absurd h1 h)
  have h4: ¬(Builtin.nextslicecap (sLen+n) sCap*i.bytes>2^48):=Nat.not_lt.2 h3
  have h6: ¬(((sLen+n:Nat):Int)>IntKind.i64.max∧(False∨i.bytes=0)):=λq=>by
   rcases q.2 with q|q
   ·exact q
   ·rw[q] at hb;exact absurd hb (by decide)
  have hti: ∀w':World,(typeInfo e).run P w'=.ok i w':=λw'=>by simp[typeInfo,hi]
  have hzv: ∀w':World,(zeroValue e).run P w'=.ok z w':=λw'=>TR hi hz
  simp only[Sem.run_bind,hti,hzv,run_askRoom,Result.andThen_ok,if_neg h6,if_neg h4,Sem.run_pure]
theorem fm{t u ty e:TypeId}{i:TypeInfo}{z:Value}{k k':IntKind}(ht:P.underlying t=some (.slice e))(hu:P.underlying u=some (.int k))(hi:P.info? e=some i)(hz:i.zero=some z)
  {base:Option Addr}{sLen sCap n:Nat}(hb:1<=i.bytes)(hn:n*i.bytes<=140737488355328)(hfit:(sLen+n)*i.bytes<=140737488355328∨sLen+n<=sCap):
  (Builtin.append_ ⟨[t,u]⟩ ty ⟨[.slice base sLen sCap,.int k' (n:Nat)]⟩).run P w=(app e i z base sLen sCap n (pk i z n)).run P w:=by
 unfold app pk
 have hn1:n<=140737488355328:=Zn (S2 _ hb) hn
 have hw:IntKind.i64.wrap (n:Int)=n:=by
  exact Ek (by omega) (by omega)
 have hti: ∀w':World,(typeInfo e).run P w'=.ok i w':=λw'=>by simp[typeInfo,hi]
 have hzv: ∀w':World,(zeroValue e).run P w'=.ok z w':=λw'=>TR hi hz
 have q1: ¬((n:Int)<0):=by omega
 have q2: ¬((n:Int)*(i.bytes:Int)>2^48):=by
  have h7:((n*i.bytes:Nat):Int)<=((140737488355328:Nat):Int):=Int.ofNat_le.2 hn
  rw[Int.natCast_mul] at h7
  have h8:(2:Int)^48=281474976710656:=by decide
  rw[h8]
  omega
 simp only[Builtin.append_,Sem.run_bind,XD,Vo,Yq,run_underlying ht,run_underlying hu,Result.andThen_ok,Wq hi,Sem.run_pure,if_true,asInt,asIntOf,hw,if_neg q1,hti,if_neg q2,Wi,Xn,YJ,if_false]
 by_cases h:sLen+n<=sCap
 ·rw[if_pos h,if_pos h]
  simp only[Sem.run_bind]
  by_cases h0:n*i.size=0
  ·rw[if_pos h0,if_pos h0]
   cases base<;>rfl
  ·rw[if_neg h0,if_neg h0]
   simp only[Sem.run_bind,hzv,Result.andThen_ok,Sem.run_pure]
   cases base<;>rfl
 ·rw[if_neg h,if_neg h]
  have h5:sLen+n<=140737488355328:=by
   rcases hfit with h1|h1
   ·exact Zn (S2 _ hb) h1
   ·exact absurd h1 h
  have h3:Builtin.nextslicecap (sLen+n) sCap*i.bytes<=281474976710656:=growslice_fits (Nat.lt_of_not_le h) (by rcases hfit with h1|h1;exact h1;exact absurd h1 h)
  have h4: ¬(Builtin.nextslicecap (sLen+n) sCap*i.bytes>2^48):=Nat.not_lt.2 h3
  have h6: ¬(((sLen+n:Nat):Int)>IntKind.i64.max∧(True∨i.bytes=0)):=λq=>by
   have h7:=q.1
   have h8:IntKind.i64.max=9223372036854775807:=by decide
   rw[h8] at h7
   omega
  by_cases h0:n*i.size=0
  ·simp only[Sem.run_bind,hti,hzv,run_askRoom,Result.andThen_ok,if_neg h6,if_neg h4,Sem.run_pure,if_pos h0]
  ·simp only[Sem.run_bind,hti,hzv,run_askRoom,Result.andThen_ok,if_neg h6,if_neg h4,Sem.run_pure,if_neg h0]
theorem Tr.del(hs:Ww P σ H w){b:Nat}{lb:Loc}(hlb:σ b=some lb)(hb:H.ro<=b):Tr P σ H w σ ⟨H.nx,H.t.del b,H.ro⟩ w:=by
 have g: ∀c o,(H.t.del b).get c=some o->H.t.get c=some o:=by
  intro c o h
  rw[T.get_del] at h
  by_cases e:b=c
  ·rw[if_pos e] at h;cases h
  ·rw[if_neg e] at h;exact h
 refine⟨Ext.refl σ,⟨hs.dom,λc o h=>hs.low c o (g c o h),λc o l h hl=>hs.alive c o l (g c o h) hl,λc c' o o' l l' h h'=>hs.inj c c' o o' l l' (g _ _ h) (g _ _ h'),hs.glob,hs.ro⟩,Zl _,λ_ _ _=>rfl,?_,Zl _,rfl,?_,rfl,rfl,rfl,λc _ hn=>⟨by show(H.t.del b).get c=H.t.get c;rw[T.get_del,if_neg (λe=>by subst e;rw[hlb] at hn;cases hn)],hn⟩⟩
 ·intro c l hw hl _
  obtain⟨h1,o,h2,h3⟩:=hw
  exact⟨c,l,⟨h1,o,g c o h2,h3⟩,hl,rfl⟩
 ·intro c hc
  show(H.t.del b).get c=H.t.get c
  have hc:c<H.ro:=hc
  rw[T.get_del,if_neg (by omega)]
theorem Tr.move{w':World}(h:Ww P σ H w){b:Nat}{o o':Obj}{l:Loc}{c':Go.Obj}
  (hb:H.t.get b=some o)(hl:σ b=some l)(hw:Wr H b)
  (hsize:w'.heap.size=w.heap.size)(hnew:w'.heap[l.blk]? =some c')(hold: ∀k,k≠l.blk->w'.heap[k]? =w.heap[k]?)
  (ho:Uo (σ.put H.nx l) o' l c')(ht:w'.tape=w.tape)(hos:w'.os=w.os)(hout:w'.output=w.output):
  Tr P σ H w (σ.put H.nx l) ⟨Nat.succ H.nx,(H.t.del b).set H.nx o',H.ro⟩ w':=by
 have hlt:b<H.nx:=h.dom b l hl
 have hro:=h.ro
 have CN:Ext σ (σ.put H.nx l):=Mp.put_ext l (h.fresh (Zl _))
 have get: ∀c x,((H.t.del b).set H.nx o').get c=some x->(c=H.nx∧x=o')∨(c≠H.nx∧c≠b∧H.t.get c=some x):=by
  intro c x hx
  rw[T.get_set] at hx
  by_cases e:H.nx=c
  ·rw[if_pos e] at hx;cases hx;exact .inl ⟨e.symm,rfl⟩
  ·rw[if_neg e,T.get_del] at hx
   by_cases e2:b=c
   ·rw[if_pos e2] at hx;cases hx
   ·rw[if_neg e2] at hx;exact .inr ⟨λz=>e z.symm,λz=>e2 z.symm,hx⟩
 refine⟨CN,⟨?_,?_,?_,?_,?_,?_⟩,by omega,?_,?_,XV _,rfl,?_,ht,hos,hout,λc hc hn=>⟨by show((H.t.del b).set H.nx o').get c=H.t.get c;rw[T.get_set,if_neg (by omega),T.get_del,if_neg (λe=>by subst e;rw[hl] at hn;cases hn)],by unfold Mp.put;rw[if_neg (by omega)];exact hn⟩⟩
 ·intro c m hm
  show c<H.nx+1
  unfold Mp.put at hm
  by_cases e:c=H.nx
  ·omega
  ·rw[if_neg e] at hm;have:=h.dom c m hm;omega
 ·intro c x hx
  show c<H.nx+1
  rcases get c x hx with⟨rfl,_⟩|⟨h1,h2,h3⟩
  ·omega
  ·have:=h.low c x h3;omega
 ·intro c x l1 hx hl1
  rcases get c x hx with⟨rfl,rfl⟩|⟨h1,h2,h3⟩
  ·rw[Mp.put_same] at hl1;cases hl1
   exact⟨c',hnew,ho⟩
  ·rw[Mp.put_old h1] at hl1
   obtain⟨c1,hc1,hr⟩:=h.alive c x l1 h3 hl1
   refine⟨c1,?_,hr.mono CN⟩
   rw[hold l1.blk ?_];exact hc1
   intro e
   exact h2 (h.alone h3 hb hl1 hl e λs=>hw.hard hb s.2)
 ·intro c1 c2 x1 x2 l1 l2 h1 h2 k1 k2 e
  rcases get c1 x1 h1 with⟨rfl,rfl⟩|⟨p1,p2,p3⟩<;>rcases get c2 x2 h2 with⟨q0,rfl⟩|⟨q1,q2,q3⟩
  ·exact .inl q0.symm
  ·exfalso
   rw[Mp.put_same] at k1;cases k1
   rw[Mp.put_old q1] at k2
   exact q2 (h.alone q3 hb k2 hl e.symm λs=>hw.hard hb s.2)
  ·exfalso
   rw[q0,Mp.put_same] at k2;cases k2
   rw[Mp.put_old p1] at k1
   exact p2 (h.alone p3 hb k1 hl e λs=>hw.hard hb s.2)
  ·rw[Mp.put_old p1] at k1
   rw[Mp.put_old q1] at k2
   exact h.inj c1 c2 x1 x2 l1 l2 p3 q3 k1 k2 e
 ·intro g hg
  obtain⟨lg,h1,h2⟩:=h.glob g hg
  exact⟨lg,CN g lg h1,h2⟩
 ·show H.ro<=H.nx+1;omega
 ·intro k hk hn
  exact hold k λe=>hn b l hw hl e.symm
 ·intro c m hwc hlc hlt'
  obtain⟨r1,x,r2,r3⟩:=hwc
  rcases get c x r2 with⟨rfl,rfl⟩|⟨p1,p2,p3⟩
  ·rw[Mp.put_same] at hlc;cases hlc
   exact⟨b,l,hw,hl,rfl⟩
  ·rw[Mp.put_old p1] at hlc
   exact⟨c,m,⟨r1,x,p3,r3⟩,hlc,rfl⟩
 ·intro c hc
  have hc:c<H.ro:=hc
  show((H.t.del b).set H.nx o').get c=H.t.get c
  rw[T.get_set,if_neg (by omega),T.get_del,if_neg (by have:=hw.1;omega)]
theorem Nv{z:Array Value}(hone: ∀v∈z.toList,v.oneCell'=true)(k:Nat):(Builtin.zeroCells z k).size=k*z.size∧ ∀v∈(Builtin.zeroCells z k).toList,v.oneCell'=true:=by
 constructor
 ·simp[Builtin.zeroCells]
 ·intro v hv
  simp only[Builtin.zeroCells,Ro,Array.toList_range,YC,Ug] at hv
  obtain⟨i,hi,rfl⟩:=hv
  have hz:0<z.size:=by
   rcases Nat.eq_zero_or_pos z.size with h|h
   ·rw[h,Nat.mul_zero] at hi;omega
   ·exact h
  rw[getElem!_pos z _ (Vl _ hz)]
  exact hone _ (Array.getElem_mem_toList _)
theorem Di{e:TypeId}{i:TypeInfo}{z:Value}{base:Option Addr}{sLen sCap n:Nat}{news:Sem (Array Value)}{vo vn:List Value}
  (hone: ∀v∈z.cells.toList,v.oneCell'=true)(hg: ¬(sLen+n<=sCap))
  (ho: ∀w':World,w'.heap=w.heap->(Builtin.firstCells i.size sLen (.slice base sLen sCap)).run P w'=.ok ⟨vo⟩ w')(hn: ∀w':World,w'.heap=w.heap->news.run P w'=.ok ⟨vn⟩ w'):
  ∃k rest,(app e i z base sLen sCap n news).run P w=.ok (.slice (some ⟨w.heap.size,0,none⟩) (sLen+n) (sLen+n+k)) (w.drew.alloc (.cells ⟨(vo++vn)++rest⟩ e))∧
   rest.length=k*z.cells.size∧ ∀v∈rest,v.oneCell'=true:=by
 obtain⟨k,hk⟩:=Iu (P:=P) (sLen+n) sCap e w
 obtain⟨h1,h2⟩:=Nv hone k
 refine⟨k,(Builtin.zeroCells z.cells k).toList,?_,by simpa using h1,h2⟩
 unfold app
 rw[if_neg hg]
 simp only[Sem.run_bind,hk,Result.andThen_ok,ho w.drew rfl,hn w.drew rfl,Vg,newRow,run_newObj,Sem.run_pure,World.alloc_eq]
 congr 3
 have e1:(⟨vo⟩:Array Value)++⟨vn⟩++Builtin.zeroCells z.cells k=⟨(vo++vn)++(Builtin.zeroCells z.cells k).toList⟩:=by
  apply Array.ext'
  simp
 rw[e1]
theorem L9{r:Result Next}(hs:Ww P σ H w){e sz need k:Nat}{as:List AV}{vs rest:List Value}(hr:r=.ok (.value (.slice (some ⟨w.heap.size,0,none⟩) need (need+k))) (w.drew.alloc (.cells ⟨vs++rest⟩ e)))
  (hrel:YO σ as vs)(hone: ∀v∈vs,v.oneCell'=true)(hrest: ∀v∈rest,v.oneCell'=true)(hsz:1<=sz)(hlen:vs.length=need*sz)(hrl:rest.length=k*sz):
  Y3 P σ H w r (.val (.slice H.nx 0 need none) (H.newRow e sz as false)):=by
 have hl:=hrel.length
 refine Vr ((Tr.drew hs).trans (Tr.alloc hs.drew _ _ ⟨w.heap.size,0,need+k,sz⟩ rfl ⟨_,(0,0),rfl,?_⟩)) hr (Sf (l:=⟨w.heap.size,0,need+k,sz⟩) rfl)
 refine IU (hrel.mono (Mp.put_ext _ (hs.drew.fresh (Zl _)))) (λv hv=>?_) hsz ?_ ?_ (λh=>by cases h) rfl
 ·rcases Zy.1 hv with hv|hv
  ·exact hone v hv
  ·exact hrest v hv
 ·rw[hl,hlen,Xu];omega
 ·rw[Zf,hlen,hrl,Xu];omega
theorem SB(r:Row): ∀(n o j:Nat),j<n->(WO r o n)[j]? =some (r.get (o+j))
 |0,o,j,h=>by omega
 |n+1,o,0,_=>rfl
 |n+1,o,j+1,h=>by
  show(WO r (o+1) n)[j]? =_
  rw[SB r n (o+1) j (by omega)]
  congr 2;omega
theorem rQ(r:Row)(sz size o:Nat)(as:List AV){j:Nat}(hj:j<o+as.length):
  (j<o∧(⟨r.elem,sz,size,Wg r.cells o as,r.dflt,r.fz,r.sm,true,false⟩:Row).get j=r.get j)∨
  (∃a,o<=j∧as[j - o]? =some a∧(⟨r.elem,sz,size,Wg r.cells o as,r.dflt,r.fz,r.sm,true,false⟩:Row).get j=a):=by
 by_cases h:j<o
 ·refine .inl ⟨h,?_⟩
  rw[Row.get_eq,Row.get_eq]
  show((Wg r.cells o as).get j).getD r.dflt=_
  rw[Sj,if_neg (by omega)]
 ·refine .inr ⟨as[j - o]'(by omega),by omega,Zg (by omega),?_⟩
  rw[Row.get_eq]
  show((Wg r.cells o as).get j).getD r.dflt=_
  rw[Sj,if_pos (by omega),Zg (by omega)]
  rfl
structure Zdk(P:Program)(σ:Mp)(w:World)(sz n:Nat)(news:Sem (Array Value))(as:List AV)(vs:List Value):Prop where
 rel:YO σ as vs
 one: ∀u∈vs,u.oneCell'=true
 len:vs.length=n*sz
 run: ∀w':World,w'.heap=w.heap->news.run P w'=.ok ⟨vs⟩ w'
theorem oT(hs:Ww P σ H w){va:AV}{x:Value}(g:Yt σ va x){e n:Nat}{i:TypeInfo}{z:Value}{news:Sem (Array Value)}{as:List AV}{vs:List Value}{q:Result Next}
  (hsz:1<=i.size)(Kl: ∀v∈z.cells.toList,v.oneCell'=true)(NH:z.cells.size=i.size)(hf:Zdk P σ w i.size n news as vs)
  (run: ∀{base:Option Addr} {sLen sCap:Nat} {v:Value} {w':World},x=.slice base sLen sCap->((sLen+n)*i.bytes<=140737488355328∨sLen+n<=sCap)->(app e i z base sLen sCap n news).run P w=.ok v w'->q=.ok (.value v) w'):
  Y3 P σ H w q (NW va e i.size i.bytes H n as):=by
 refine HI (λhx=>?_) (T8 (λhx=>?_) λb off len cap hx=>?_)
 ·rw[hx] at g
  obtain⟨a,g⟩: ∃a,x=.slice (some a) 0 0:=by simpa only[Yt] using g
  refine V9 (λh0=>?_) λh0=>Ym λhfit=>?_
  ·rw[Yu] at h0
   have h0:n=0:=Zo h0
   subst h0
   have hv:vs=[]:=by have:=hf.len;rw[W3] at this;exact YW.1 this
   refine Yg hs (x:=.slice (some a) 0 0) (run g (.inr (Zl _)) ?_) (by simp[Yt])
   simp[app,hf.run w rfl,hv,storeCells]
  ·rw[Yu] at h0
   rw[Xa] at hfit
   have h0:n≠0:=of_decide_eq_false h0
   have hfit:n*i.bytes<=140737488355328:=Zo hfit
   obtain⟨k,rest,k1,k2,k3⟩:=Di (P:=P) (w:=w) (e:=e) (i:=i) (z:=z) (base:=some a) (sLen:=0) (sCap:=0) (n:=n) (vo:=[]) (vn:=vs) Kl (by omega) (λw' _=>by simp only[Builtin.firstCells,W3];rfl) hf.run
   rw[Zs] at k1
   exact L9 hs (run g (.inl (by rw[Zs];exact hfit)) k1) hf.rel hf.one k3 hsz hf.len (by rw[k2,NH])
 ·rw[hx] at g
  have g:x=.slice none 0 0:=by simpa only[Yt] using g
  refine V9 (λh0=>?_) λh0=>Ym λhfit=>?_
  ·rw[Yu] at h0
   have h0:n=0:=Zo h0
   subst h0
   refine Yg hs (x:=.slice none 0 0) (run g (.inr (Zl _)) ?_) (by simp[Yt])
   simp[app,hf.run w rfl]
  ·rw[Yu] at h0
   rw[Xa] at hfit
   have h0:n≠0:=of_decide_eq_false h0
   have hfit:n*i.bytes<=140737488355328:=Zo hfit
   obtain⟨k,rest,k1,k2,k3⟩:=Di (P:=P) (w:=w) (e:=e) (i:=i) (z:=z) (base:=none) (sLen:=0) (sCap:=0) (n:=n) (vo:=[]) (vn:=vs) Kl (by omega) (λw' _=>by rfl) hf.run
   rw[Zs] at k1
   exact L9 hs (run g (.inl (by rw[Zs];exact hfit)) k1) hf.rel hf.one k3 hsz hf.len (by rw[k2,NH])
 ·rw[hx] at g
  have g0:=g
  obtain⟨l,hl,e1⟩:=Ub g
  refine Tj λr hr=>Ym λZfm=>?_
  obtain⟨cs',fr,hc,hrr⟩:=hs.row hr hl
  have hcap:=D4 hrr off cap
  refine V9 (λhin=>?_) λhout=>?_
  ·rw[Xa] at hin
   have hin:len+n<=UT r off cap:=Zo hin
   have hin':len+n<=cap.getD (l.tot - off/l.sz):=Zn hin hcap
   refine V9 (λh0=>?_) λh0=>Ym λRI=>Ym λhle=>Ym λhfz=>?_
   ·rw[Yu] at h0
    have h0:n=0:=Zo h0
    subst h0
    have hv:vs=[]:=by have:=hf.len;rw[W3] at this;exact YW.1 this
    refine Yg hs (x:=x) (run e1 (.inr hin') ?_) (by rw[hx];exact g0)
    simp only[app,if_pos hin',Sem.run_bind,hf.run w rfl,Result.andThen_ok,hv]
    rw[e1]
    simp[storeCells]
   ·rw[Xa] at hle hfz
    have hle:off+(len+n)*i.size<=r.size:=Zo hle
    have hfz:r.fz<=off+len*i.size:=Zo hfz
    obtain⟨w',hrun,htr⟩:=F3 hs hr hl RI hf.rel hf.one (o:=off+len*i.size) (by rw[hf.len];rw[Xu] at hle;omega) hfz
    refine Vr htr (run e1 (.inr hin') ?_) (Rf hl)
    simp only[app,if_pos hin',Sem.run_bind,hf.run w rfl,Result.andThen_ok,RO]
    rw[XF,hrun]
    rfl
  ·rw[Xa] at hout
   have hout: ¬(len+n<=UT r off cap):=of_decide_eq_false hout
   refine Ym λhfit=>Ym λhle=>?_
   rw[Xa] at hfit hle
   have hfit:(len+n)*i.bytes<=140737488355328:=Zo hfit
   have hle:off+len*i.size<=r.size:=Zo hle
   obtain⟨vo,o2,o3,o4,o5⟩:=Pp hrr (len*i.size) off hle
   have hfo: ∀c,∀w':World,w'.heap=w.heap->(Builtin.firstCells i.size len (.slice (some ⟨l.blk,l.base+off,none⟩) len c)).run P w'=.ok ⟨vo⟩ w':=by
    intro c w' hw
    have hc':w'.heap[l.blk]? =some (.cells cs' r.elem fr):=by rw[hw];exact hc
    have:=Ri (P:=P) hc' vo (o:=l.base+off) o4
    rw[o3] at this
    exact this
   have grown: ¬(len+n<=cap.getD (l.tot - off/l.sz))->Y3 P σ H w q (.val (.slice H.nx 0 (len+n) none) (H.newRow e i.size (WO r off (len*i.size)++as) false)):=by
    intro hg
    obtain⟨k,rest,k1,k2,k3⟩:=Di (P:=P) (w:=w) (e:=e) (i:=i) (z:=z) Kl hg (hfo _) hf.run
    refine L9 hs (run e1 (.inl hfit) k1) (o2.append hf.rel) (λv hv=>?_) k3 hsz (by rw[Zf,o3,hf.len,Xu]) (by rw[k2,NH])
    rcases Zy.1 hv with hv|hv
    ·exact o5 v hv
    ·exact hf.one v hv
   cases cap with
   |some c=>exact grown hout
   |none=>
    have Zfn:r.sz=i.size:=by
     have:Nat.beq r.sz i.size=true:=Zfm
     rw[Yu] at this
     exact Zo this
    refine V9 (λhex=>Ym λhmod=>?_) λhex=>?_
    ·rw[Yu] at hmod
     have hmod:off % i.size=0:=Zo hmod
     refine grown ?_
     rw[Ep hrr hex (by rw[hrr.sz,Zfn];exact hmod)] at hout
     exact hout
    ·refine Ym λhel=>Ym λRI=>Ym λhfz=>Ym λhsize=>Ym λh0=>?_
     rw[Yu] at hel hsize h0
     rw[Xa] at hfz
     have hel:r.elem=e:=Zo hel
     have hsize:len*i.size=r.size:=Zo hsize
     have h0:off=0:=Zo h0
     have hfz:r.fz<=len*i.size:=Zo hfz
     subst h0
     obtain⟨hwr,hown⟩:=Wr.of_may RI hr
     have d8:l.sz=i.size:=by rw[hrr.sz,Zfn]
     have hal:as.length=n*i.size:=by rw[hf.rel.length];exact hf.len
     have hvl:=hf.len
     have hsum:(len+n)*i.size=len*i.size+n*i.size:=Xu _ _ _
     have hcell:=λj (hj:j<len*i.size+as.length)=>rQ r i.size ((len+n)*i.size) (len*i.size) as hj
     by_cases hin:len+n<=l.tot
     ·have hin':len+n<=(none:Option Nat).getD (l.tot - 0/l.sz):=by rw[Nat.zero_div];exact hin
      have hmul:(len+n)*i.size<=l.tot*i.size:=Y5 _ hin
      have q1:=hrr.room
      rw[d8] at q1
      obtain⟨w',hrun,hw⟩:=P6 (P:=P) (o:=l.base+len*i.size) vs 0 w cs' hc (by omega) hf.one (λj hj=>by
       have:=hrr.frz hown (len*i.size+j) (by omega) (by rw[d8];omega)
       rwa [show l.base+len*i.size+0+j=l.base+(len*i.size+j) by omega])
      refine Vr (Tr.move hs hr hl hwr hw.size hw.new hw.old ⟨_,fr,rfl,?_⟩ hw.tape hw.os hw.out) (run e1 (.inr hin') ?_) (by simp only[Yt];exact⟨l,Mp.put_same _ _ _,rfl⟩)
      ·have ext:=Mp.put_ext l (hs.fresh (Zl H.nx))
       refine⟨d8,by omega,by rw[d8];exact hmul,by rw[PB];exact hrr.room,(λh=>by cases h),?_,?_,λ_=>hrr.frz hown,λ_=>hrr.frs hown⟩
       ·intro j hj
        have hj:j<(len+n)*i.size:=hj
        show ∃v,_∧Yt _ ((⟨r.elem,i.size,(len+n)*i.size,Wg r.cells (len*i.size) as,r.dflt,r.fz,r.sm,true,false⟩:Row).get j) v
        rw[QW _ _ _ _ (by omega)]
        rcases hcell j (by omega) with⟨h1,h2⟩|⟨a,h1,h2,h3⟩
        ·rw[h2,if_neg (by omega)]
         obtain⟨v,hv,hrel⟩:=hrr.cell j (by omega)
         exact⟨v,hv,hrel.mono ext⟩
        ·obtain⟨v,hv,hrel⟩:=hf.rel.get h2
         rw[h3,if_pos (by omega)]
         refine⟨v,?_,hrel.mono ext⟩
         rw[show l.base+j - (l.base+len*i.size+0)=j - len*i.size by omega];exact hv
       ·intro j v hj hv
        have hj:j<(len+n)*i.size:=hj
        rw[QW _ _ _ _ (by omega)] at hv
        split at hv
        ·exact hf.one v (WU hv)
        ·exact hrr.one j v (by omega) hv
      ·simp only[app,if_pos hin',Sem.run_bind,hf.run w rfl,Result.andThen_ok,RO]
       rw[ZZ,hrun]
       rfl
     ·have hg: ¬(len+n<=(none:Option Nat).getD (l.tot - 0/l.sz)):=by rw[Nat.zero_div];exact hin
      obtain⟨k,rest,k1,k2,k3⟩:=Di (P:=P) (w:=w) (e:=e) (i:=i) (z:=z) Kl hg (hfo _) hf.run
      have td:=Tr.del (P:=P) (b:=b) hs.drew hl hwr.1
      refine Vr (((Tr.drew hs).trans td).trans (Tr.alloc td.sim (.row ⟨r.elem,i.size,(len+n)*i.size,Wg r.cells (len*i.size) as,r.dflt,r.fz,r.sm,true,false⟩) _ ⟨w.heap.size,0,len+n+k,i.size⟩ rfl ⟨_,(0,0),by rw[hel],?_⟩)) (run e1 (.inl hfit) k1) (Sf (l:=⟨w.heap.size,0,len+n+k,i.size⟩) rfl)
      have ext:=Mp.put_ext ⟨w.heap.size,0,len+n+k,i.size⟩ (hs.fresh (Zl H.nx))
      rw[NH] at k2
      have Zap:(len+n+k)*i.size=(len+n)*i.size+k*i.size:=Xu _ _ _
      refine⟨rfl,hsz,by rw[Zap];exact Nat.le_add_right _ _,?_,(λh=>by cases h),?_,?_,?_,λ_ _=>.inl rfl⟩
      ·simp only[List.size_toArray,Zf,o3,hvl,k2]
       rw[Zap];omega
      ·intro j hj
       have hj:j<(len+n)*i.size:=hj
       simp only[Zs,XD]
       rcases hcell j (by omega) with⟨h1,h2⟩|⟨a,h1,h2,h3⟩
       ·rw[h2]
        obtain⟨v,hv,hrel⟩:=o2.get (SB r (len*i.size) 0 j h1)
        rw[Zs] at hrel
        refine⟨v,?_,hrel.mono ext⟩
        rw[Yc (by rw[Zf];omega),Yc (by omega)]
        exact hv
       ·obtain⟨v,hv,hrel⟩:=hf.rel.get h2
        rw[h3]
        refine⟨v,?_,hrel.mono ext⟩
        rw[Yc (by rw[Zf];omega),Zu (by omega),o3]
        exact hv
      ·intro j v _ hv
       simp only[Zs,XD] at hv
       have:=WU hv
       rcases Zy.1 this with h|h
       ·rcases Zy.1 h with h|h
        ·exact o5 v h
        ·exact hf.one v h
       ·exact k3 v h
      ·intro _ j _ _
       simp only;omega
theorem mj(hs:Ww P σ H w)(hρ:Rl P σ tm ρ){o:Oper}{xs:List Operand}{ts:List TypeId}(ho:o.op=.call ⟨.builtin .append,⟨xs⟩,⟨ts⟩⟩):Xr P σ H w tm ρ o:=by
 refine Ux ho λcs=>?_
 rcases xs with _|⟨x,_|⟨y,_|⟨_,_⟩⟩⟩<;>try exact trivial
 rcases ts with _|⟨t,_|⟨t2,_|⟨_,_⟩⟩⟩<;>try exact trivial
 refine Xj λd hu=>Nf λe hd=>XG λi hi=>Ud λz hz=>WF (λhzl=>Xj λd2 hu2=>?_) λ_=>TJ
 subst hd
 have happ: ∀{n:Nat} {news:Sem (Array Value)} {as:List AV} {vs:List Value} (_:1<=i.size) (hf:Zdk P σ w i.size n news as vs)
   (h: ∀{base:Option Addr} {sLen sCap:Nat},ρ x=.slice base sLen sCap->((sLen+n)*i.bytes<=140737488355328∨sLen+n<=sCap)->(Builtin.append_ ⟨[t,t2]⟩ o.type ⟨[.slice base sLen sCap,ρ y]⟩).run P w=(app e i z base sLen sCap n news).run P w),
   Y3 P σ H w ((builtin .append ⟨[t,t2]⟩ o.type cs ⟨[ρ x,ρ y]⟩).run P w) (NW (YQ P x tm) e i.size i.bytes H n as):=by
  intro n news as vs hsz hf h
  rw[Yu,Yw] at hzl
  have hzl:(WI z).cells.length=i.size:=Zo hzl
  obtain⟨hzr,Kl⟩:=S4 (σ:=σ) z (by omega)
  have NH:z.cells.size=i.size:=by rw[<-hzl,hzr.length];simp
  refine oT hs (hρ x) hsz Kl NH hf λ{base sLen sCap v w'} e1 e2 e3=>WY ?_
  rw[e1]
  exact(h e1 e2).trans e3
 have hd2:(∃k,d2=.int k)∨ ∀k,d2≠.int k:=by
  cases d2<;>first
   |exact .inl ⟨_,rfl⟩
   |exact .inr (λk h=>by cases h)
 rcases hd2 with⟨k,rfl⟩|hd2
 ·refine Ym λhsz=>Ym λhb=>Sp λk' n hy=>Ym λhn=>?_
  rw[Xa] at hsz hb hn
  have hsz:1<=i.size:=Zo hsz
  have hb:1<=i.bytes:=Zo hb
  have hn:n*i.bytes<=140737488355328:=Zo hn
  have hy2:ρ y=.int k' (n:Nat):=by
   have:=hρ y
   rw[hy] at this
   have this:ρ y=.int k' (Int.ofNat n):=by simpa only[Yt] using this
   rw[this];rfl
  rw[Yu,Yw] at hzl
  have Zfs:(WI z).cells.length=i.size:=Zo hzl
  obtain⟨hzr,Kl⟩:=S4 (σ:=σ) z (by omega)
  have NH:z.cells.size=i.size:=by rw[<-Zfs,hzr.length];simp
  refine happ (vs:=(Builtin.zeroCells z.cells n).toList) (news:=pk i z n) hsz ⟨?_,(Nv Kl n).2,by simpa [NH] using (Nv Kl n).1,λw' _=>?_⟩ λ{base sLen sCap} e1 e2=>?_
  ·have:=(Em (σ:=σ) hzr (λv hv=>Kl v hv) (by omega) n).1
   rw[Zfs,<-NH] at this
   exact this
  ·unfold pk
   split
   ·next h0=>
    have:Builtin.zeroCells z.cells n= #[]:=by
     apply Array.ext'
     have:=(Nv Kl n).1
     rw[NH,h0] at this
     exact YW.1 (by simpa using this)
    simp[this]
   ·simp
  ·rw[hy2]
   exact fm hu hu2 hi hz hb hn e2
 have hno:pT (vB (YQ P x) (YQ P y) e i.size i.bytes (WI z).cells) (VF (YQ P x) (YQ P y) e i.size i.bytes) d2=VF (YQ P x) (YQ P y) e i.size i.bytes:=by
  cases d2<;>first|rfl|exact absurd rfl (hd2 _)
 rw[hno]
 refine Ym λhsz=>Ym λhb=>A0 λn hn=>JN hs (hρ y) hn (Zl _) λas vs hf=>?_
 rw[Xa] at hsz hb
 have hsz:1<=i.size:=Zo hsz
 have hb:1<=i.bytes:=Zo hb
 have hlenOf:=zM (P:=P) hn (hρ y) w
 exact happ hsz ⟨hf.rel,hf.one,hf.len,hf.run⟩ λe1 e2=>al hu hu2 hd2 hi hz hlenOf hb e2
def mm(mx:Bool):Value->Value->Sem Value:=if mx then Builtin.max2 else Builtin.min2
theorem A8{r:Result Next}(hs:Ww P σ H w){mx:Bool}{k:IntKind}: ∀(as:List AV) (vs:List Value) (a:Int),YO σ as vs->
  (∀v,(vs.foldlM (mm mx) (.int k a):Sem Value).run P w=.ok v w->r=.ok (.value v) w)->Y3 P σ H w r (min2 mx k a H as)
 |[],vs,a,h,g=>by
  rw[h.nil_inv] at g
  exact Yg hs (x:=.int k a) (g _ rfl) (by simp[Yt])
 |x::as,vs,a,h,g=>by
  obtain⟨v,vs',h1,h2,rfl⟩:=h.cons_inv
  unfold min2
  split
  ·rename_i j b
   refine Ym λhk=>?_
   have:=S9 hk;subst this
   have h1:=XX h1
   subst h1
   refine A8 hs as vs' _ h2 λv hv=>g v ?_
   rw[List.foldlM_cons]
   cases mx with
   |true=>
    simp only[mm,if_true,Builtin.max2,Sem.run_bind,Sem.run_pure,Result.andThen_ok]
    rw[<-hv]
    congr 2
    by_cases hh:a<b
    ·simp[hh,Kn]
    ·simp[hh,Kn]
   |false=>
    simp only[mm,YJ,if_false,Builtin.min2,Sem.run_bind,Sem.run_pure,Result.andThen_ok]
    rw[<-hv]
    congr 2
    by_cases hh:b<a
    ·simp[hh,Kn]
    ·simp[hh,Kn]
  ·trivial
theorem zr(hs:Ww P σ H w)(hρ:Rl P σ tm ρ){o:Oper}{mx:Bool}{xs:List Operand}{ts:List TypeId}(ho:o.op=.call ⟨.builtin (if mx then .max else .min),⟨xs⟩,⟨ts⟩⟩):Xr P σ H w tm ρ o:=by
 refine Ux ho λcs=>?_
 have key: ∀r,(∀v,(match xs.map ρ with|[]=>.halt (.stuck "")|x::rest=>rest.foldlM (mm mx) x:Sem Value).run P w=.ok v w->r=.ok (.value v) w)->Y3 P σ H w r (QJ mx (xs.map (YQ P)) tm H):=by
  intro r hrr
  unfold QJ
  have hr:=KN hρ xs
  split
  ·rename_i k a l he
   rw[he] at hr
   obtain⟨v,vs,h1,h2,h3⟩:=hr.cons_inv
   have h1:=XX h1
   subst h1
   exact A8 hs l vs a h2 λv hv=>hrr v (by rw[h3];exact hv)
  ·trivial
 cases mx with
 |true=>
  refine key _ λv hv=>WY (s:=Builtin.max_ ⟨ts⟩ o.type ⟨xs.map ρ⟩) ?_
  simp only[Builtin.max_]
  cases hl:xs.map ρ with
  |nil=>rw[hl] at hv;cases hv
  |cons x l=>rw[hl] at hv;exact hv
 |false=>
  refine key _ λv hv=>WY (s:=Builtin.min_ ⟨ts⟩ o.type ⟨xs.map ρ⟩) ?_
  simp only[Builtin.min_]
  cases hl:xs.map ρ with
  |nil=>rw[hl] at hv;cases hv
  |cons x l=>rw[hl] at hv;exact hv
theorem JX{g:Nat}{cs:Array Value}{t:TypeId}{fr:Nat×Nat}(h:w.heap[g]? =some (.cells cs t fr)): ∀(ns:List Int) (o:Nat) (acc:ByteArray),
  (∀(j:Nat) (v:Value),(ns.map (Value.int .u8))[j]? =some v->cs[o+j]? =some v)->(loadBytes ⟨g,o,none⟩ acc ns.length).run P w=.ok (ns.foldl (λr n=>r.push (UInt8.ofNat n.toNat)) acc) w
 |[],o,acc,_=>rfl
 |n::ns,o,acc,hv=>by
  have h0:=hv 0 (.int .u8 n) rfl
  simp only[Zh,loadBytes,Sem.run_bind,run_load,Hm h,ZZ] at h0 ⊢
  rw[h0]
  simp only[Result.andThen_ok,RO]
  exact JX h ns (o+1) _ λj v hj=>by
   have:=hv (j+1) v (by simpa using hj)
   rw[<-this];congr 1;omega
theorem yI{w:World}{g o n:Nat}{cs:Array Value}{t:TypeId}{fr:Nat×Nat}(h:w.heap[g]? =some (.cells cs t fr))(hn:n≠0):
  Ap w (w.freeze ⟨g,o,none⟩ n) g (.cells cs t (if fr.1=fr.2 then(o,o+n) else(min fr.1 o,max fr.2 (o+n)))):=by
 obtain⟨a,b⟩:=fr
 refine⟨by simp[World.freeze,hn],?_,λk hk=>?_,by simp[World.freeze,hn],by simp[World.freeze,hn],by simp[World.freeze,hn]⟩
 ·simp only[World.freeze,hn,if_false,XT]
  rw[h];simp
 ·simp only[World.freeze,hn,if_false,XT]
  rw[if_neg (λe=>hk e.symm)]
theorem zL(k:IntKind)(n:Int):(asInt (.int k n)).run P w=.ok n w:=rfl
theorem lP(pt ty:TypeId)(rest:List TypeId)(k:IntKind)(p:Option Addr):(Builtin.unsafeString_ ⟨pt::rest⟩ ty #[.pointer p,.int k 0]).run P w=.ok (.string .empty) w:=by
 show((asInt (.int k 0))>>=_:Sem Value).run P w=_
 rw[Sem.run_bind,zL]
 cases p<;>rfl
theorem lO{pt ty e:TypeId}(rest:List TypeId){k:IntKind}{n:Nat}{a:Addr}{s:ByteArray}(hu:P.underlying pt=some (.pointer e))(h0:n≠0)(hn:n<=140737488355328)
  (hv:(variablesAt a e n).run P w=.ok true w)(hl:(loadBytes a .empty n).run P w=.ok s w):
  (Builtin.unsafeString_ ⟨pt::rest⟩ ty #[.pointer (some a),.int k (n:Int)]).run P w=.ok (.string s) (w.freeze a n):=by
 show((asInt (.int k (n:Int)))>>=_:Sem Value).run P w=_
 have p1: ¬((n:Int)<0):=by omega
 have p2: ¬((n:Int)>IntKind.i64.max):=by
  have:IntKind.i64.max=9223372036854775807:=by decide
  omega
 have p3: ¬((n:Int)=0):=by omega
 rw[Sem.run_bind,zL]
 simp only[Result.andThen_ok,XD,Vo,p1,if_false,p2,p3,Sem.run_bind,elemOf,run_underlying hu,Sem.run_pure,Wi,hv,if_true,hl,run_freeze]
theorem bK(hs:Ww P σ H w)(hρ:Rl P σ tm ρ){o:Oper}{xs:List Operand}{ts:List TypeId}(ho:o.op=.call ⟨.builtin .unsafeString,⟨xs⟩,⟨ts⟩⟩):Xr P σ H w tm ρ o:=by
 refine Ux ho λcs=>?_
 rcases xs with _|⟨x,_|⟨y,_|⟨_,_⟩⟩⟩<;>try exact trivial
 rcases ts with _|⟨t,_|⟨t2,_|⟨_,_⟩⟩⟩<;>try exact trivial
 refine Xj λd hu=>oV λe hd=>XG λi hi=>WF (λhsz=>?_) λ_=>TJ
 subst hd
 rw[Yu] at hsz
 have hsz:i.size=1:=Zo hsz
 refine Sp λk n hn=>?_
 have g1:=hρ x
 have g2:=hρ y
 rw[hn] at g2
 have g2:=XX g2
 refine V9 (λh0=>?_) λh0=>Ym λhmax=>QA λb off hx=>Tj λr hr=>Ym λhel=>Ym λRI=>Ym λhle=>?_
 ·rw[Yu] at h0
  have h0:n=0:=Zo h0
  subst h0
  have fin: ∀p,ρ x=.pointer p->Y3 P σ H w ((builtin .unsafeString ⟨[t,t2]⟩ o.type cs ⟨[ρ x,ρ y]⟩).run P w) (.val (.str []) H):=by
   intro p e1
   refine Yg hs (x:=.string .empty) ?_ (by simp only[Yt];rfl)
   refine WY (s:=Builtin.unsafeString_ ⟨[t,t2]⟩ o.type #[ρ x,ρ y]) ?_
   rw[e1,g2]
   exact lP _ _ _ _ _
  split
  ·rename_i hx
   rw[hx] at g1
   exact fin none (by simpa only[Yt] using g1)
  ·rename_i b off hx
   rw[hx] at g1
   obtain⟨l,_,e1⟩:=Ue g1
   exact fin _ e1
  ·trivial
 ·rw[hx] at g1
  obtain⟨l,hl,e1⟩:=Ue g1
  obtain⟨cs',fr,hc,hrr⟩:=hs.row hr hl
  have A9:r.sm=false∧H.may r b=true:=by
   cases hsm:r.sm with
   |true=>rw[hsm] at RI;cases RI
   |false=>rw[hsm] at RI;exact⟨rfl,RI⟩
  obtain⟨hwr,hown⟩:=Wr.of_may A9.2 hr
  rw[Yu] at h0 hel
  rw[Xa] at hmax hle
  have h0:n≠0:=of_decide_eq_false h0
  have hel:r.elem=e:=Zo hel
  have hmax:n<=140737488355328:=Zo hmax
  have hle:off+n<=r.size:=Zo hle
  have q1:=hrr.fits
  have q2:=hrr.room
  obtain⟨vs,h2,h3,h4,h5⟩:=Pp hrr n off hle
  refine MV _ vs h2 λns hns=>?_
  subst hns
  have hnl:ns.length=n:=by simpa using h3
  have hcell:P.cellsOf e=1:=by simp[Program.cellsOf,hi,hsz]
  have hw:=yI (o:=l.base+off) (n:=n) hc h0
  refine Vr (Tr.write hs hr hl hwr hw.size hw.new hw.old ⟨_,_,rfl,?_⟩ hw.tape hw.os hw.out) (x:=.string ⟨(ns.map wi).toArray⟩) ?_ (by simp[Yt])
  ·have hfz:(cond (Nat.ble r.fz (Nat.add off n)) (Nat.add off n) r.fz)=max r.fz (off+n):=by
    rw[Xa]
    show cond _ (off+n) r.fz=_
    by_cases hh:r.fz<=off+n
    ·rw[show decide (r.fz<=Nat.add off n)=true from Ze hh];simp only[cond_true];omega
    ·rw[show decide (r.fz<=Nat.add off n)=false from Zb hh];simp only[cond_false];omega
   rw[hfz]
   refine⟨hrr.sz,hrr.sz1,hrr.fits,hrr.room,hrr.exact,hrr.cell,hrr.one,?_,?_⟩
   ·intro _ j hj hj2
    have hj:max r.fz (off+n)<=j:=hj
    have:=hrr.frs hown A9.1
    split
    ·simp only;omega
    ·simp only;omega
   ·intro _ _
    have:=hrr.frs hown A9.1
    right
    split
    ·simp only;omega
    ·simp only;omega
  ·refine WY (s:=Builtin.unsafeString_ ⟨[t,t2]⟩ o.type #[ρ x,ρ y]) ?_
   rw[e1,g2]
   have hsh:=GN hc
   have hlies:liesAt P P.depth r.elem (cs'.size/P.cellsOf r.elem) (l.base+off) e n=true:=by
    rw[hel]
    refine pd (by omega) (by rw[hcell];omega) ?_
    rw[hcell,Nat.div_one,Nat.div_one];omega
   have hld:=JX (P:=P) hc ns (l.base+off) .empty h4
   rw[hnl,Fy] at hld
   exact lO _ hu h0 hmax (by simp only[variablesAt,Sem.run_bind,run_program,Result.andThen_ok,run_shape,hsh,hlies,Sem.run_pure]) (by simpa using hld)
def Hg(P:Program)(σ:Mp)(D:Nat)(t:Nat)(f:AV->AV->Option Bool):Prop:=
 ∀(a b:AV) (x y:Value) (r:Bool) (w:World),Yt σ a x->Yt σ b y->f a b=some r->(Op.equalIn D t x y).run P w=.ok r w
theorem kZ{t D:Nat}(hu:P.underlying t=some .bool):Hg P σ (D+1) t uJ:=by
 intro a b x y r w ha hb h
 unfold uJ at h
 split at h
 ·cases h
  rw[Tm ha,Tm hb,run_equalIn_bool w D t _ _ hu]
  rename_i p q
  cases p<;>cases q<;>rfl
 ·cases h
theorem Zbq{t D:Nat}{k':IntKind}(hu:P.underlying t=some (.int k')):Hg P σ (D+1) t Sn:=by
 intro a b x y r w ha hb h
 unfold Sn at h
 split at h
 ·rename_i j p k q
  cases hk:P0 j k with
  |false=>rw[hk] at h;cases h
  |true=>
   rw[hk] at h
   have:=S9 hk;subst this
   cases h
   rw[XX ha,XX hb,run_equalIn_int w D t _ _ _ _ hu,OJ]
 ·cases h
theorem Zbr{t D:Nat}(hu:P.underlying t=some .string):Hg P σ (D+1) t Nc:=by
 intro a b x y r w ha hb h
 unfold Nc at h
 split at h
 ·cases h
  rw[Uf ha,Uf hb,run_equalIn_string w D t _ _ hu,Sw,Js,Js]
 ·cases h
theorem Mo{v:Value}(h:Yt σ .nilp v):v=.pointer none:=by simpa [Yt] using h
theorem QO{v:Value}(h:Yt σ .nils v):v=.slice none 0 0:=by simpa [Yt] using h
theorem PW{v:Value}(h:Yt σ .nilm v):v=.map none:=by simpa [Yt] using h
theorem Mn{v:Value}(h:Yt σ .nilf v):v=.nilFunc:=by simpa [Yt] using h
theorem QN{v:Value}(h:Yt σ .nili v):v=.nilIface:=by simpa [Yt] using h
theorem Jn{b:Nat}{v:Value}(h:Yt σ (.map b) v): ∃l,σ b=some l∧v=.map (some l.blk):=by simpa only[Yt] using h
theorem Mm{f:Nat}{a b:List AV}{v:Value}(h:Yt σ (.func f a b) v): ∃x y,YO σ a x∧YO σ b y∧v=.func (.func f) ⟨x⟩ ⟨y⟩:=by simpa only[Yt] using h
theorem Td{t:Nat}{a:AV}{v:Value}(h:Yt σ (.iface t a) v): ∃x,Yt σ a x∧v=.iface t x:=by simpa only[Yt] using h
theorem Jm{cs:List AV}{v:Value}(h:Yt σ (.agg cs) v): ∃vs,YO σ cs vs∧(∀x∈vs,x.oneCell'=true)∧v=.agg ⟨vs⟩:=by simpa only[Yt] using h
theorem jf{t D e:Nat}{i:TypeInfo}(hu:P.underlying t=some (.pointer e))(hi:P.info? e=some i)(h0:i.size≠0):Hg P σ (D+1) t lX:=by
 intro a b x y r w ha hb h
 unfold lX at h
 split at h
 ·cases h;rw[Mo ha,Mo hb];simp[Op.equalIn,run_underlying hu]
 ·cases h;obtain⟨l,_,e1⟩:=Ue hb;rw[Mo ha,e1];simp[Op.equalIn,run_underlying hu]
 ·cases h;obtain⟨l,_,e1⟩:=Ue ha;rw[Mo hb,e1];simp[Op.equalIn,run_underlying hu]
 ·rename_i b o c p
  rw[Yu,Yu] at h
  by_cases hbc:b=c
  ·subst hbc
   rw[Ze rfl] at h
   cases h
   obtain⟨l,hl,e1⟩:=Ue ha
   obtain⟨l2,hl2,e2⟩:=Ue hb
   rw[hl] at hl2;cases hl2
   rw[e1,e2]
   simp only[Op.equalIn,Sem.run_bind,run_underlying hu,Result.andThen_ok,Wq hi,sameAddr]
   rw[if_pos h0]
   simp only[beq_self_eq_true,if_true,Sem.run_pure,Result.ok.injEq,and_true]
   by_cases hop:o=p
   ·subst hop;simp
   ·rw[Zb hop]
    rw[beq_eq_false_iff_ne]
    intro he
    have:=congrArg Addr.off he
    simp only at this
    omega
  ·rw[Zb hbc] at h;cases h
 ·cases h
theorem jc{t D e:Nat}(hu:P.underlying t=some (.slice e)):Hg P σ (D+1) t eqL:=by
 intro a b x y r w ha hb h
 unfold eqL at h
 split at h
 ·cases h;rw[QO ha,QO hb];simp[Op.equalIn,run_underlying hu]
 ·cases h;obtain⟨l,_,e1⟩:=Ub hb;rw[QO ha,e1];simp[Op.equalIn,run_underlying hu]
 ·cases h;obtain⟨l,_,e1⟩:=Ub ha;rw[QO hb,e1];simp[Op.equalIn,run_underlying hu]
 ·cases h;obtain⟨l,e1⟩:=(by simpa only[Yt] using hb: ∃a,y=.slice (some a) 0 0);rw[QO ha,e1];simp[Op.equalIn,run_underlying hu]
 ·cases h;obtain⟨l,e1⟩:=(by simpa only[Yt] using ha: ∃a,x=.slice (some a) 0 0);rw[QO hb,e1];simp[Op.equalIn,run_underlying hu]
 ·cases h
theorem jd{t D k e:Nat}(hu:P.underlying t=some (.map k e)):Hg P σ (D+1) t eqM:=by
 intro a b x y r w ha hb h
 unfold eqM at h
 split at h
 ·cases h;rw[PW ha,PW hb];simp[Op.equalIn,run_underlying hu]
 ·cases h;obtain⟨l,_,e1⟩:=Jn hb;rw[PW ha,e1];simp[Op.equalIn,run_underlying hu]
 ·cases h;obtain⟨l,_,e1⟩:=Jn ha;rw[PW hb,e1];simp[Op.equalIn,run_underlying hu]
 ·cases h
theorem je{t D:Nat}{p q:Array TypeId}{v:Bool}(hu:P.underlying t=some (.func p q v)):Hg P σ (D+1) t eqN:=by
 intro a b x y r w ha hb h
 unfold eqN at h
 split at h
 ·cases h;rw[Mn ha,Mn hb];simp[Op.equalIn,run_underlying hu]
 ·cases h;obtain⟨_,_,_,_,e1⟩:=Mm hb;rw[Mn ha,e1];simp[Op.equalIn,run_underlying hu]
 ·cases h;obtain⟨_,_,_,_,e1⟩:=Mm ha;rw[Mn hb,e1];simp[Op.equalIn,run_underlying hu]
 ·cases h
theorem ja{t D:Nat}{ms:Array (String×TypeId)}{lit:Bool}{g:Nat->AV->AV->Option Bool}(hu:P.underlying t=some (.interface ms))(hg: ∀t,Hg P σ D t (g t)):Hg P σ (D+1) t (oD lit (eqC P g)):=by
 intro a b x y r w ha hb h
 unfold oD at h
 split at h
 ·cases lit
  ·cases h
  ·cases h;rw[QN ha,QN hb];simp[Op.equalIn,run_underlying hu]
 ·cases h;obtain⟨_,_,e1⟩:=Td hb;rw[QN ha,e1];simp[Op.equalIn,run_underlying hu]
 ·cases h;obtain⟨_,_,e1⟩:=Td ha;rw[QN hb,e1];simp[Op.equalIn,run_underlying hu]
 ·rename_i t1 v1 t2 v2
  obtain⟨x1,h1,e1⟩:=Td ha
  obtain⟨y1,h2,e2⟩:=Td hb
  rw[e1,e2]
  rw[Yu] at h
  by_cases ht:t1=t2
  ·subst ht
   rw[Ze rfl] at h
   have h:eqC P g t1 v1 v2=some r:=h
   unfold eqC at h
   split at h
   ·rename_i i hi
    cases hc:i.comparable with
    |false=>rw[hc] at h;cases h
    |true=>
     rw[hc] at h
     have hti:(typeInfo t1).run P w=.ok i w:=by simp[typeInfo,hi]
     simp only[Op.equalIn,Sem.run_bind,run_underlying hu,Result.andThen_ok,ne_eq,not_true_eq_false,if_false,hti,hc,Xn,YJ]
     exact hg t1 v1 v2 x1 y1 r w h1 h2 h
   ·cases h
  ·rw[Zb ht] at h
   cases h
   simp[Op.equalIn,run_underlying hu,ht]
 ·cases h
theorem eQ{t:Nat}{ag:Bool}(h:ZaW P t=some ag): ∃d,P.underlying t=some d∧NK P t=ag:=by
 unfold ZaW at h
 unfold NK
 split at h<;>rename_i e<;>cases h
 ·rw[e];exact⟨_,rfl,rfl⟩
 ·rw[e];exact⟨_,rfl,rfl⟩
 ·rename_i d h1 h2
  rw[e]
  refine⟨d,rfl,?_⟩
  cases d<;>first|rfl|exact absurd rfl (h1 _)|exact absurd rfl (h2 _ _)
theorem GB{t:Nat}{cs:List AV}{vs:List Value}{off:Nat}{k:AV->Option Bool}{r:Bool}(hr:YO σ cs vs)(hone: ∀x∈vs,x.oneCell'=true)(h:zt P t cs off k=some r):
  ∃a x,Yt σ a x∧k a=some r∧ ∀w:World,(part t ⟨vs⟩ off).run P w=.ok x w:=by
 unfold zt at h
 split at h
 ·rename_i i ag hi hag
  obtain⟨d,hu,hia⟩:=eQ hag
  cases ag with
  |true=>
   have h:k (.agg (PX i.size (Q0 off cs)))=some r:=h
   rw[O0,OE] at h
   refine⟨_,.agg ⟨(vs.drop off).take i.size⟩,?_,h,λw=>?_⟩
   ·simp only[Yt]
    exact⟨_,(hr.drop _).take _,λy hy=>hone y (T5 (US hy)),rfl⟩
   ·simp only[part,Sem.run_bind,Ps (w:=w) hu,hia,Result.andThen_ok,if_true,Wq hi,Sem.run_pure]
    congr 2
    apply Array.ext'
    simp[WL]
  |false=>
   have h:(match Gp cs off with|some v=>k v|none=>none)=some r:=h
   rw[Gq] at h
   split at h
   ·rename_i v hv
    obtain⟨x,hx,hrel⟩:=hr.get hv
    refine⟨v,x,hrel,h,λw=>?_⟩
    simp only[part,Sem.run_bind,Ps (w:=w) hu,hia,Result.andThen_ok,YJ,if_false]
    simp[hx]
   ·cases h
 ·cases h
theorem Ey{e c D:Nat}{f:AV->AV->Option Bool}(hf:Hg P σ D e f){l m:List AV}{xs ys:List Value}(hl:YO σ l xs)(hm:YO σ m ys)(hlo: ∀x∈xs,x.oneCell'=true)(hmo: ∀x∈ys,x.oneCell'=true):
  ∀(is:List Nat) (r:Bool) (w:World),Hx P f e c l m is=some r->(Op.eqItems D e c ⟨xs⟩ ⟨ys⟩ is).run P w=.ok r w
 |[],r,w,h=>by cases h;rfl
 |i::is,r,w,h=>by
  unfold Hx at h
  obtain⟨a,x,h1,h2,h3⟩:=GB hl hlo h
  obtain⟨b,y,g1,g2,g3⟩:=GB hm hmo h2
  unfold eU at g2
  split at g2
  ·rename_i t ht
   have he:=hf a b x y t w h1 g1 ht
   simp only[Op.eqItems,Sem.run_bind,h3 w,g3 w,he,Result.andThen_ok]
   cases t with
   |true=>simpa using Ey hf hl hm hlo hmo is r w g2
   |false=>cases g2;simp
  ·cases g2
theorem MT{D:Nat}{g:Nat->AV->AV->Option Bool}(hf: ∀t,Hg P σ D t (g t)){l m:List AV}{xs ys:List Value}(hl:YO σ l xs)(hm:YO σ m ys)(hlo: ∀x∈xs,x.oneCell'=true)(hmo: ∀x∈ys,x.oneCell'=true):
  ∀(fs:List Field) (r:Bool) (w:World),Ot P g l m fs=some r->(Op.eqFields D ⟨xs⟩ ⟨ys⟩ fs).run P w=.ok r w
 |[],r,w,h=>by cases h;rfl
 |f::fs,r,w,h=>by
  unfold Ot at h
  unfold Op.eqFields
  cases hn:f.name== "_" with
  |true=>
   rw[hn] at h
   rw[if_neg (by simpa using hn)]
   exact MT hf hl hm hlo hmo fs r w h
  |false=>
   rw[hn] at h
   simp only[cond_false] at h
   rw[if_pos (by simpa using hn)]
   obtain⟨a,x,h1,h2,h3⟩:=GB hl hlo h
   obtain⟨b,y,g1,g2,g3⟩:=GB hm hmo h2
   unfold eU at g2
   split at g2
   ·rename_i t ht
    have he:=hf f.type a b x y t w h1 g1 ht
    simp only[Sem.run_bind,h3 w,g3 w,he,Result.andThen_ok]
    cases t with
    |true=>simpa using MT hf hl hm hlo hmo fs r w g2
    |false=>cases g2;simp
   ·cases g2
theorem Zbm{t D:Nat}{lit:Bool}{g:Nat->AV->AV->Option Bool}{d:TypeDesc}(hu:P.underlying t=some d)(hg: ∀t,Hg P σ D t (g t)):Hg P σ (D+1) t (λa b=>eqD P lit g t a b d):=by
 intro a b x y r w ha hb h
 cases d<;>simp only[eqD] at h<;>first
  |cases h;done
  |exact kZ hu a b x y r w ha hb h
  |exact Zbq hu a b x y r w ha hb h
  |exact Zbr hu a b x y r w ha hb h
  |exact jc hu a b x y r w ha hb h
  |exact jd hu a b x y r w ha hb h
  |exact je hu a b x y r w ha hb h
  |exact ja hu hg a b x y r w ha hb h
  |skip
 case pointer e=>
  split at h
  ·rename_i i hi
   rw[Yu] at h
   by_cases h0:i.size=0
   ·rw[Ze h0] at h;cases h
   ·rw[Zb h0] at h
    exact jf hu hi h0 a b x y r w ha hb h
  ·cases h
 case array n e=>
  unfold uL at h
  split at h
  ·split at h
   ·rename_i i hi
    obtain⟨xs,h1,h2,e1⟩:=Jm ha
    obtain⟨ys,g1,g2,e2⟩:=Jm hb
    have:=Ey (hg e) h1 g1 h2 g2 (List.range n) r w h
    rw[e1,e2,run_equalIn_array w D ⟨xs⟩ ⟨ys⟩ hu hi]
    rw[show P.cellsOf e=i.size by simp[Program.cellsOf,hi]]
    exact this
   ·cases h
  ·cases h
 case struct fs=>
  cases hst:P.stoodInHeld t with
  |true=>rw[hst] at h;cases h
  |false=>
   rw[hst] at h
   have h:uL a b (λl m=>Ot P g l m fs.toList)=some r:=h
   unfold uL at h
   split at h
   ·obtain⟨xs,h1,h2,e1⟩:=Jm ha
    obtain⟨ys,g1,g2,e2⟩:=Jm hb
    have:=MT hg h1 g1 h2 g2 fs.toList r w h
    have hfs:P.fieldsOf t=fs:=by simp[Program.fieldsOf,hu]
    rw[e1,e2,run_equalIn_struct w D t ⟨xs⟩ ⟨ys⟩ (by rw[hfs];exact hu) hst,hfs]
    exact this
   ·cases h
theorem tq: ∀(d D t:Nat),d<=D->Hg P σ D t (eu P d t)
 |0,D,t,_=>by intro a b x y r w ha hb h;cases h
 |d+1,D,t,hD=>by
  obtain⟨D',rfl⟩: ∃D',D=D'+1:=⟨D - 1,by omega⟩
  intro a b x y r w ha hb h
  unfold eu at h
  split at h
  ·rename_i u hu
   exact Zbm (lit:=true) hu (λt=>tq d D' t (by omega)) a b x y r w ha hb h
  ·cases h
def JI(P:Program)(σ:Mp)(t:Nat)(X Y:Operand)(f:AV->AV->Option Bool):Prop:=
 ∀(a b:AV) (x y:Value) (r:Bool) (w:World),Yt σ a x->Yt σ b y->f a b=some r->
  (∀op,(eqGuard op t X Y x y).run P w=.ok () w)∧(binOp .eql t x y).run P w=.ok (.bool r) w∧(binOp .neq t x y).run P w=.ok (.bool (!r)) w
def sG(v:Value):Bool:=match v with|.int .. |.float .. |.complex .. |.string _=>false|_=>true
theorem dy{t:TypeId}{x y:Value}(h:sG x=true):binOp .eql t x y=(do pure (.bool (<-Op.equal t x y))):=by
 cases x<;>first|(cases h;done)|(unfold binOp;rfl)
theorem dA{t:TypeId}{x y:Value}(h:sG x=true):binOp .neq t x y=(do pure (.bool (!(<-Op.equal t x y)))):=by
 cases x<;>first|(cases h;done)|(unfold binOp;rfl)
theorem O1{t:TypeId}{X Y:Operand}{x y:Value}{r:Bool}(h:sG x=true)(hg: ∀op,(eqGuard op t X Y x y).run P w=.ok () w)(he:(Op.equalIn 10000 t x y).run P w=.ok r w):
  (∀op,(eqGuard op t X Y x y).run P w=.ok () w)∧(binOp .eql t x y).run P w=.ok (.bool r) w∧(binOp .neq t x y).run P w=.ok (.bool (!r)) w:=by
 have he:(Op.equal t x y).run P w=.ok r w:=he
 refine⟨hg,?_,?_⟩
 ·rw[dy h];simp[he]
 ·rw[dA h];simp[he]
theorem Uj{t:TypeId}{X Y:Operand}{x y:Value}(h1: ∀v,x≠.agg v)(h2:x≠.nilIface∨y≠.nilIface)(op:BinOp):(eqGuard op t X Y x y).run P w=.ok () w:=by
 cases op<;>simp only[eqGuard]<;>first
  |rfl
  |(cases x<;>first
    |rfl
    |exact absurd rfl (h1 _)
    |(cases y<;>first
      |rfl
      |(rcases h2 with h2|h2<;>exact absurd rfl h2)))
theorem Zj7{t:TypeId}{X Y:Operand}(hu:P.underlying t=some .bool):JI P σ t X Y uJ:=by
 intro a b x y r w ha hb h
 have he:=kZ (D:=9999) hu a b x y r w ha hb h
 unfold uJ at h
 split at h
 ·have ha:=Tm ha;subst ha
  exact O1 rfl (Uj (λ_ h=>by cases h) (.inl λh=>by cases h)) he
 ·cases h
theorem Zkd{t e:TypeId}{X Y:Operand}{i:TypeInfo}(hu:P.underlying t=some (.pointer e))(hi:P.info? e=some i)(h0:i.size≠0):JI P σ t X Y lX:=by
 intro a b x y r w ha hb h
 have he:=jf (D:=9999) hu hi h0 a b x y r w ha hb h
 have: ∃p,x=.pointer p:=by
  unfold lX at h
  split at h
  ·exact⟨_,Mo ha⟩
  ·exact⟨_,Mo ha⟩
  ·obtain⟨_,_,e1⟩:=Ue ha;exact⟨_,e1⟩
  ·obtain⟨_,_,e1⟩:=Ue ha;exact⟨_,e1⟩
  ·cases h
 obtain⟨p,rfl⟩:=this
 exact O1 rfl (Uj (λ_ h=>by cases h) (.inl λh=>by cases h)) he
theorem Zka{t e:TypeId}{X Y:Operand}(hu:P.underlying t=some (.slice e)):JI P σ t X Y eqL:=by
 intro a b x y r w ha hb h
 have he:=jc (D:=9999) hu a b x y r w ha hb h
 have: ∃p n c,x=.slice p n c:=by
  unfold eqL at h
  split at h
  ·exact⟨_,_,_,QO ha⟩
  ·exact⟨_,_,_,QO ha⟩
  ·obtain⟨_,_,e1⟩:=Ub ha;exact⟨_,_,_,e1⟩
  ·exact⟨_,_,_,QO ha⟩
  ·obtain⟨_,e1⟩:=(by simpa only[Yt] using ha: ∃a,x=.slice (some a) 0 0);exact⟨_,_,_,e1⟩
  ·cases h
 obtain⟨p,n,c,rfl⟩:=this
 exact O1 rfl (Uj (λ_ h=>by cases h) (.inl λh=>by cases h)) he
theorem Zkb{t k e:TypeId}{X Y:Operand}(hu:P.underlying t=some (.map k e)):JI P σ t X Y eqM:=by
 intro a b x y r w ha hb h
 have he:=jd (D:=9999) hu a b x y r w ha hb h
 have: ∃p,x=.map p:=by
  unfold eqM at h
  split at h
  ·exact⟨_,PW ha⟩
  ·exact⟨_,PW ha⟩
  ·obtain⟨_,_,e1⟩:=Jn ha;exact⟨_,e1⟩
  ·cases h
 obtain⟨p,rfl⟩:=this
 exact O1 rfl (Uj (λ_ h=>by cases h) (.inl λh=>by cases h)) he
theorem Zkc{t:TypeId}{p q:Array TypeId}{v:Bool}{X Y:Operand}(hu:P.underlying t=some (.func p q v)):JI P σ t X Y eqN:=by
 intro a b x y r w ha hb h
 have he:=je (D:=9999) hu a b x y r w ha hb h
 have:x=.nilFunc∨ ∃f m n,x=.func f m n:=by
  unfold eqN at h
  split at h
  ·exact .inl (Mn ha)
  ·exact .inl (Mn ha)
  ·obtain⟨_,_,_,_,e1⟩:=Mm ha;exact .inr ⟨_,_,_,e1⟩
  ·cases h
 rcases this with rfl|⟨f,m,n,rfl⟩
 ·exact O1 rfl (Uj (λ_ h=>by cases h) (.inl λh=>by cases h)) he
 ·exact O1 rfl (Uj (λ_ h=>by cases h) (.inl λh=>by cases h)) he
theorem o8{t:TypeId}{X Y:Operand}(h:(LB X||LB Y)=true)(op:BinOp):(eqGuard op t X Y .nilIface .nilIface).run P w=.ok () w:=by
 have hc:((X matches .const _)||(Y matches .const _))=true:=by
  cases X<;>cases Y<;>first|rfl|cases h
 cases op<;>simp only[eqGuard]<;>first
  |rfl
  |(cases X<;>cases Y<;>first|rfl|cases h)
theorem Zj8{t:TypeId}{ms:Array (String×TypeId)}{X Y:Operand}(hu:P.underlying t=some (.interface ms)):JI P σ t X Y (oD (LB X||LB Y) (eqC P (eu P 9))):=by
 intro a b x y r w ha hb h
 have he:=ja (D:=9999) hu (λt=>tq 9 9999 t (by omega)) a b x y r w ha hb h
 unfold oD at h
 split at h
 ·cases hl:(LB X||LB Y) with
  |false=>rw[hl] at h;cases h
  |true=>
   have ha:=QN ha;subst ha
   have hb:=QN hb;subst hb
   exact O1 rfl (o8 hl) he
 ·have ha:=QN ha;subst ha
  obtain⟨_,_,rfl⟩:=Td hb
  exact O1 rfl (Uj (λ_ h=>by cases h) (.inr λh=>by cases h)) he
 ·obtain⟨_,_,rfl⟩:=Td ha
  exact O1 rfl (Uj (λ_ h=>by cases h) (.inl λh=>by cases h)) he
 ·obtain⟨_,_,rfl⟩:=Td ha
  exact O1 rfl (Uj (λ_ h=>by cases h) (.inl λh=>by cases h)) he
 ·cases h
theorem ZgZ{t:TypeId}{X Y:Operand}(hag:(∃n e,P.underlying t=some (.array n e))∨ ∃fs,P.underlying t=some (.struct fs))(hg:P.eqGuardType P.depth t=false):JI P σ t X Y (eu P 10 t):=by
 intro a b x y r w ha hb h
 have he:=tq 10 10000 t (by omega) a b x y r w ha hb h
 have hab:(∃l,a=.agg l)∧ ∃m,b=.agg m:=by
  unfold eu at h
  have agg: ∀{k:List AV->List AV->Option Bool},uL a b k=some r->(∃l,a=.agg l)∧ ∃m,b=.agg m:=by
   intro k h
   unfold uL at h
   split at h
   ·exact⟨⟨_,rfl⟩,⟨_,rfl⟩⟩
   ·cases h
  rcases hag with⟨n,e,hu⟩|⟨fs,hu⟩
  ·rw[hu] at h
   exact agg h
  ·rw[hu] at h
   simp only[eqD] at h
   cases hst:P.stoodInHeld t with
   |true=>rw[hst] at h;cases h
   |false=>rw[hst] at h;exact agg h
 obtain⟨⟨l,rfl⟩,⟨m,rfl⟩⟩:=hab
 obtain⟨xs,_,_,rfl⟩:=Jm ha
 obtain⟨ys,_,_,rfl⟩:=Jm hb
 exact O1 rfl (λop=>run_eqGuard_agg w op t X Y _ _ hg) he
theorem Zj9{t:TypeId}{X Y:Operand}:JI P σ t X Y Sn:=by
 intro a b x y r w ha hb h
 unfold Sn at h
 split at h
 ·rename_i j p k q
  cases hk:P0 j k with
  |false=>rw[hk] at h;cases h
  |true=>
   rw[hk] at h
   have:=S9 hk;subst this
   have h:some (E8 p q)=some r:=h
   cases h
   have ha:=XX ha;subst ha
   have hb:=XX hb;subst hb
   rw[OJ]
   exact⟨Uj (λ_ h=>by cases h) (.inl λh=>by cases h),by simp[binOp,Op.intCmp],by simp[binOp,Op.intCmp,bne]⟩
 ·cases h
theorem Zke{t:TypeId}{X Y:Operand}:JI P σ t X Y Nc:=by
 intro a b x y r w ha hb h
 unfold Nc at h
 split at h
 ·rename_i p q
  cases h
  have ha:=Uf ha;subst ha
  have hb:=Uf hb;subst hb
  refine⟨Uj (λ_ h=>by cases h) (.inl λh=>by cases h),?_,?_⟩
  ·simp[binOp,Op.stringOp,Sw]
  ·simp[binOp,Op.stringOp,bne,Sw]
 ·cases h
theorem NM(hs:Ww P σ H w)(hρ:Rl P σ tm ρ){o:Oper}{neg:Bool}{t u:TypeId}{x y:Operand}{f:AV->AV->Option Bool}(ho:o.op=.binOp (if neg then .neq else .eql) t x y u)(hf:JI P σ t x y f):
  Y3 P σ H w ((execOp ρ o).run P w) (UQ (YQ P x) (YQ P y) f neg tm H):=by
 refine Qo λr hr=>?_
 obtain⟨h1,h2,h3⟩:=hf _ _ _ _ r w (hρ x) (hρ y) hr
 refine Iy hs ?_
 simp only[execOp,ho]
 refine WY ?_
 rw[Sem.run_bind,h1]
 cases neg
 ·exact h2
 ·simp only[Result.andThen_ok]
  refine h3.trans ?_
  cases r<;>rfl
theorem hC(hs:Ww P σ H w)(hρ:Rl P σ tm ρ){o:Oper}{neg:Bool}{t u:TypeId}{x y:Operand}(ho:o.op=.binOp (if neg then .neq else .eql) t x y u):
  Y3 P σ H w ((execOp ρ o).run P w) (VH P t (eqK P t (LB x||LB y) neg (YQ P x) (YQ P y)) tm H):=by
 refine Xj λd hu=>?_
 cases d<;>try exact trivial
 case bool=>exact NM hs hρ ho (Zj7 hu)
 case int k=>exact NM hs hρ ho Zj9
 case string=>exact NM hs hρ ho Zke
 case pointer e=>
  show Y3 P σ H w _ ((match P.info? e with|some i=>cond (Nat.beq i.size 0) VG (UQ (YQ P x) (YQ P y) lX neg)|none=>VG) tm H)
  cases hi:P.info? e with
  |none=>exact trivial
  |some i=>
   refine WF (λ_=>TJ) λh0=>?_
   rw[Yu] at h0
   exact NM hs hρ ho (Zkd hu hi (of_decide_eq_false h0))
 case slice e=>exact NM hs hρ ho (Zka hu)
 case map k e=>exact NM hs hρ ho (Zkb hu)
 case func p q v=>exact NM hs hρ ho (Zkc hu)
 case interface ms=>exact NM hs hρ ho (Zj8 hu)
 case array n e=>exact WF (λ_=>TJ) λh0=>NM hs hρ ho (ZgZ (.inl ⟨n,e,hu⟩) h0)
 case struct fs=>exact WF (λ_=>TJ) λh0=>NM hs hρ ho (ZgZ (.inr ⟨fs,hu⟩) h0)
theorem Zcl(hs:Ww P σ H w)(hρ:Rl P σ tm ρ){o:Oper}{t u:TypeId}{x y:Operand}(ho:o.op=.binOp .eql t x y u):Xr P σ H w tm ρ o:=by
 unfold Xr
 have:=hC (neg:=false) hs hρ ho
 rw[ho]
 exact this
theorem Zcs(hs:Ww P σ H w)(hρ:Rl P σ tm ρ){o:Oper}{t u:TypeId}{x y:Operand}(ho:o.op=.binOp .neq t x y u):Xr P σ H w tm ρ o:=by
 unfold Xr
 have:=hC (neg:=true) hs hρ ho
 rw[ho]
 exact this
theorem YG.length: ∀{es:List RE} {l:List MapEntry},YG σ es l->es.length=l.length
 |[],l,h=>by simp only[YG] at h;subst h;rfl
 |a::es,l,h=>by simp only[YG] at h;obtain⟨e,es',_,h2,rfl⟩:=h;simp[h2.length]
theorem L5:YG σ [] []:=by simp[YG]
theorem Ok{a:RE}{as:List RE}{e:MapEntry}{es:List MapEntry}(h:Nw σ a e)(h':YG σ as es):YG σ (a::as) (e::es):=by
 simp only[YG];exact⟨e,es,h,h',rfl⟩
theorem YG.cons_inv{a:RE}{as:List RE}{l:List MapEntry}(h:YG σ (a::as) l): ∃e es,Nw σ a e∧YG σ as es∧l=e::es:=by simpa [YG] using h
structure En(P:Program)(σ:Mp)(kt:TypeId)(kd:TypeDesc)(eq:AV->AV->Option Bool):Prop where
 und:P.underlying kt=some kd
 check: ∀(b:Bool) (x:Value) (w:World),(Instr.checkKey b 10000 kt x).run P w=.ok () w
 now: ∀(a b:AV) (x y:Value) (r:Bool),Yt σ a x->Yt σ b y->eq a b=some r->Instr.sameNow kd x y=some r
 bits: ∀(a b:AV) (x y:Value),Yt σ a x->Yt σ b y->eq a b=some true->Instr.sameBits 10000 y x=true
 apart: ∀(k a b:AV) (t:Bool),Fi a b=true->eq k a=some t-> ∃u,eq k b=some u∧(t=true->u=false)
theorem L1{kt:TypeId}{kd:TypeDesc}(hu:P.underlying kt=some kd)(hk:(match kd with|.string|.int _|.bool=>true|_=>false)=true)(b:Bool)(x:Value)(w:World):(Instr.checkKey b 10000 kt x).run P w=.ok () w:=by
 cases kd<;>first|(cases hk;done)|skip
 all_goals
  unfold Instr.checkKey
  simp[run_underlying hu]
theorem Zjw{kt:TypeId}(hu:P.underlying kt=some .string):En P σ kt .string Nc:=by
 refine⟨hu,λb x w=>L1 hu rfl b x w,?_,?_,?_⟩
 ·intro a b x y r ha hb h
  unfold Nc at h
  split at h
  ·cases h
   rw[Uf ha,Uf hb,Sw]
   show some (ByteArray.mk _==ByteArray.mk _)=_
   rw[beq_toListBytes,Js,Js]
  ·cases h
 ·intro a b x y ha hb h
  unfold Nc at h
  split at h
  ·rename_i p q
   rw[Sw] at h
   have h:p=q:=by simpa using h
   subst h
   rw[Uf ha,Uf hb]
   show(ByteArray.mk _==ByteArray.mk _)=true
   rw[beq_toListBytes]
   simp
  ·cases h
 ·intro k a b t hab h
  unfold Fi at hab
  split at hab
  ·rename_i p q
   cases k<;>try (cases h;done)
   rename_i s
   refine⟨LJ s q,rfl,λht=>?_⟩
   subst ht
   have h:some (LJ s p)=some true:=h
   rw[Sw] at h hab ⊢
   have h:s=p:=by simpa using h
   subst h
   simpa using hab
  ·cases k<;>cases h
  ·cases hab
theorem Zjv{kt:TypeId}{k:IntKind}(hu:P.underlying kt=some (.int k)):En P σ kt (.int k) Sn:=by
 refine⟨hu,λb x w=>L1 hu rfl b x w,?_,?_,?_⟩
 ·intro a b x y r ha hb h
  unfold Sn at h
  split at h
  ·rename_i j p k q
   cases hk:P0 j k with
   |false=>rw[hk] at h;cases h
   |true=>
    rw[hk] at h
    have:=S9 hk;subst this
    cases h
    rw[XX ha,XX hb,OJ]
    simp[Instr.sameNow]
  ·cases h
 ·intro a b x y ha hb h
  unfold Sn at h
  split at h
  ·rename_i j p k q
   cases hk:P0 j k with
   |false=>rw[hk] at h;cases h
   |true=>
    rw[hk] at h
    have:=S9 hk;subst this
    have h:some (E8 p q)=some true:=h
    rw[OJ] at h
    have h:p=q:=by simpa using h
    subst h
    rw[XX ha,XX hb]
    simp[Instr.sameBits]
  ·cases h
 ·intro k a b t hab h
  unfold Fi at hab
  split at hab
  ·cases k<;>cases h
  ·rename_i j1 p j2 q
   cases k<;>try (cases h;done)
   rename_i j3 s
   obtain⟨h1,h2⟩:=Bool.and_eq_true_iff.1 hab
   have:=S9 h1;subst this
   unfold Sn at h ⊢
   cases hk:P0 j3 j1 with
   |false=>simp[hk] at h
   |true=>
    simp only[hk,cond_true,Option.some.injEq] at h ⊢
    refine⟨_,rfl,λht=>?_⟩
    subst ht
    rw[OJ] at h h2 ⊢
    have h:s=p:=by simpa using h
    subst h
    simpa using h2
  ·cases hab
theorem Zju{kt:TypeId}(hu:P.underlying kt=some .bool):En P σ kt .bool uJ:=by
 refine⟨hu,λb x w=>L1 hu rfl b x w,?_,?_,?_⟩
 ·intro a b x y r ha hb h
  unfold uJ at h
  split at h
  ·rename_i p q
   cases h
   rw[Tm ha,Tm hb]
   cases p<;>cases q<;>rfl
  ·cases h
 ·intro a b x y ha hb h
  unfold uJ at h
  split at h
  ·rename_i p q
   rw[Tm ha,Tm hb]
   cases p<;>cases q<;>first|rfl|cases h
  ·cases h
 ·intro k a b t hab h
  unfold Fi at hab
  split at hab
  ·cases k<;>cases h
  ·cases k<;>cases h
  ·cases hab
theorem AZ{r:Result Next}{kt:TypeId}{f:(AV->AV->Option Bool)->W7}(h: ∀kd eq,En P σ kt kd eq->Y3 P σ H w r (f eq tm H)):Y3 P σ H w r (VH P kt (j6 f) tm H):=by
 refine Xj λd hu=>?_
 cases d<;>try exact trivial
 case string=>exact h _ _ (Zjw hu)
 case int k=>exact h _ _ (Zjv hu)
 case bool=>exact h _ _ (Zju hu)
theorem FC{r:Result Next}{kt:TypeId}{kd:TypeDesc}{eq:AV->AV->Option Bool}(hk:En P σ kt kd eq){k:AV}{kv:Value}(hkr:Yt σ k kv){no:OR}{yes:AV->OR}: ∀(es:List RE) (l:List MapEntry) (i:Nat),YG σ es l->
  (Instr.findNow kd kv l i=some none->Y3 P σ H w r no)->(∀j a v,Yt σ a v->Instr.findNow kd kv l i=some (some (j,v))->Y3 P σ H w r (yes a))->Y3 P σ H w r (VW eq k no yes es)
 |[],l,i,h,h1,h2=>by
  simp only[YG] at h;subst h
  exact h1 rfl
 |e::es,l,i,h,h1,h2=>by
  obtain⟨m,ms,g1,g2,rfl⟩:=h.cons_inv
  unfold VW
  cases he:eq k e.key with
  |none=>exact trivial
  |some t=>
   have hn:=hk.now _ _ _ _ t hkr g1.1 he
   cases t with
   |true=>exact h2 i e.val m.val g1.2.1 (by simp only[Instr.findNow,hn])
   |false=>
    refine FC hk hkr es ms (i+1) g2 (λq=>h1 ?_) (λj a v ha q=>h2 j a v ha ?_)
    ·simp only[Instr.findNow,hn];exact q
    ·simp only[Instr.findNow,hn];exact q
theorem JU{eq:AV->AV->Option Bool}{k:AV}{no:OR}{yes:AV->OR}: ∀{es fs:List RE},es.map OY=fs.map OY->VW eq k no yes es=VW eq k no yes fs
 |[],[],_=>rfl
 |[],_::_,h=>by cases h
 |_::_,[],h=>by cases h
 |e::es,f::fs,h=>by
  simp only[ZE,List.cons.injEq] at h
  obtain⟨h1,h2⟩:=h
  simp only[OY,Prod.mk.injEq] at h1
  unfold VW
  rw[h1.1,h1.2,JU h2]
noncomputable def AO(eq:AV->AV->Option Bool)(k:AV)(no:OR)(yes:AV->OR)(l:List (AV×AV)):OR:=VW eq k no yes (l.map λp=>⟨p.1,p.2,0⟩)
theorem AP{eq:AV->AV->Option Bool}{k:AV}{no:OR}{yes:AV->OR}(es:List RE):AO eq k no yes (es.map OY)=VW eq k no yes es:=by
 unfold AO
 refine JU ?_
 rw[Wt,Wt]
 rfl
theorem Pf{eq:AV->AV->Option Bool}{k:AV}{no:OR}{yes:AV->OR}(p:AV×AV)(l:List (AV×AV)){t:Bool}(h:eq k p.1=some t):AO eq k no yes (p::l)=cond t (yes p.2) (AO eq k no yes l):=by
 show VW eq k no yes (⟨p.1,p.2,0⟩::l.map λp=>⟨p.1,p.2,0⟩)=_
 unfold VW
 rw[show eq k (⟨p.1,p.2,0⟩:RE).key=some t from h]
 rfl
theorem tz{eq:AV->AV->Option Bool}{k:AV}{no:OR}{yes:AV->OR}{l m:List (AV×AV)}(hp:l.Perm m)(ha: ∀p∈l,∃t,eq k p.1=some t)(hu:l.Pairwise λp q=>eq k p.1=some true->eq k q.1=some true->False):
  AO eq k no yes l=AO eq k no yes m:=by
 induction hp with
 |nil=>rfl
 |cons p _ ih=>
  obtain⟨t,ht⟩:=ha p (ZG ..)
  rw[Pf _ _ ht,Pf _ _ ht,ih (λq hq=>ha q (ZK _ hq)) (List.pairwise_cons.1 hu).2]
 |swap p q l=>
  obtain⟨t,ht⟩:=ha q (ZG ..)
  obtain⟨u,hu'⟩:=ha p (ZK _ (ZG ..))
  rw[Pf _ _ ht,Pf _ _ hu',Pf _ _ hu',Pf _ _ ht]
  cases t<;>cases u<;>try rfl
  exact((List.pairwise_cons.1 hu).1 p (ZG ..) ht hu').elim
 |trans h1 _ ih1 ih2=>
  rw[ih1 ha hu]
  exact ih2 (λq hq=>ha q (h1.mem_iff.2 hq)) ((h1.pairwise_iff (λh a b=>h b a)).1 hu)
theorem y9{kt:TypeId}{kd:TypeDesc}{eq:AV->AV->Option Bool}(hk:En P σ kt kd eq){k:AV}{no:OR}{yes:AV->OR}{es fs:List RE}(hp:(fs.map OY).Perm (es.map OY))(ha:es.Pairwise uM):
  VW eq k no yes es=.fail∨VW eq k no yes es=VW eq k no yes fs:=by
 cases es with
 |nil=>
  rw[Yb] at hp
  have:=List.Perm.eq_nil hp
  cases fs with
  |nil=>exact .inr rfl
  |cons f fs=>cases this
 |cons e es=>
  cases he:eq k e.key with
  |none=>
   left
   unfold VW
   rw[he]
  |some t=>
   right
   have hall: ∀f∈e::es,∃u,eq k f.key=some u:=by
    intro f hf
    rcases ZN.1 hf with rfl|hf
    ·exact⟨t,he⟩
    ·obtain⟨u,hu,_⟩:=hk.apart k e.key f.key t ((List.pairwise_cons.1 ha).1 f hf).1 he
     exact⟨u,hu⟩
   rw[<-AP (e::es),<-AP fs]
   refine(tz hp.symm (λp hp=>?_) ?_)
   ·obtain⟨f,hf,rfl⟩:=YC.1 hp
    exact hall f hf
   ·rw[List.pairwise_map]
    refine ha.imp λ{a b} hab h1 h2=>?_
    obtain⟨u,h3,h4⟩:=hk.apart k a.key b.key true hab.1 h1
    have h2:eq k b.key=some true:=h2
    rw[h3,h4 rfl] at h2
    cases h2
theorem Rh{kt:TypeId}{kd:TypeDesc}(hu:P.underlying kt=some kd){kv:Value}{l:List MapEntry}{r:Option (Nat×Value)}(h:Instr.findNow kd kv l 0=some r):(Instr.findKey kt kv l).run P w=.ok r w:=by
 simp only[Instr.findKey,Sem.run_bind,run_underlying hu,Result.andThen_ok,h,Sem.run_pure]
theorem mq(hs:Ww P σ H w)(hρ:Rl P σ tm ρ){o:Oper}{t:TypeId}{m k:Operand}{ok:Bool}(ho:o.op=.lookup t m k ok):Xr P σ H w tm ρ o:=by
 unfold Xr;rw[ho]
 refine Xj λd hu=>?_
 cases d<;>try exact trivial
 case map kt e=>
  refine AZ λkd eq hk=>XG λi hi=>Ud λz hz=>?_
  have g:=hρ m
  have CO: ∀{a:AV} {v:Value} {b:Bool},Yt σ a v->(execOp ρ o).run P w=.ok (.value (if ok then .tuple #[v,.bool b] else v)) w->Y3 P σ H w ((execOp ρ o).run P w) (JM ok H a b):=by
   intro a v b ha hr
   unfold JM
   cases ok with
   |true=>
    refine Yg hs hr ?_
    simp only[Yt]
    exact⟨[v,.bool b],WD ha (TQ (by simp[Yt])),rfl⟩
   |false=>exact Yg hs hr ha
  have wS: ∀{v:Value},(Instr.lookup t (ρ m) (ρ k) ok).run P w=.ok v w->(execOp ρ o).run P w=.ok (.value v) w:=λh=>by
   simp only[execOp,ho];exact WY h
  refine HH (λhx=>?_) λb hx=>OG λob Fe=>?_
  ·rw[hx] at g
   refine CO (Pd σ z) (wS ?_)
   rw[PW g]
   have hf:=Rh (w:=w) (kv:=ρ k) (l:=(#[]:Array MapEntry).toList) hk.und (r:=none) rfl
   simp only[Instr.lookup,Sem.run_bind,run_underlying hu,Result.andThen_ok,Sem.run_pure,hk.check,hf,TR hi hz]
  ·rw[hx] at g
   obtain⟨l,hl,e1⟩:=Jn g
   cases ob<;>try exact trivial
   case map es clock=>
    obtain⟨c,hc,ho'⟩:=hs.alive b _ l Fe hl
    obtain⟨ents,rfl,hr,_⟩:=ho'
    refine FC hk (hρ k) es ents.toList 0 hr (λq=>?_) λj a v ha q=>?_
    ·refine CO (Pd σ z) (wS ?_)
     rw[e1]
     have hf:=Rh (w:=w) hk.und q
     simp only[Instr.lookup,Sem.run_bind,run_underlying hu,Result.andThen_ok,QQ hc,Sem.run_pure,hk.check,hf,TR hi hz]
    ·refine CO ha (wS ?_)
     rw[e1]
     have hf:=Rh (w:=w) hk.und q
     simp only[Instr.lookup,Sem.run_bind,run_underlying hu,Result.andThen_ok,QQ hc,Sem.run_pure,hk.check,hf]
   case cmap es=>
    obtain⟨c,hc,ho'⟩:=hs.alive b _ l Fe hl
    obtain⟨ents,clock,fs,rfl,hr,hp,ha⟩:=ho'
    show Y3 P σ H w _ (VW _ _ _ _ es)
    rcases y9 hk hp ha with hx2|hx2
    ·rw[hx2];exact trivial
    rw[hx2]
    refine FC hk (hρ k) fs ents.toList 0 hr (λq=>?_) λj a v ha q=>?_
    ·refine CO (Pd σ z) (wS ?_)
     rw[e1]
     have hf:=Rh (w:=w) hk.und q
     simp only[Instr.lookup,Sem.run_bind,run_underlying hu,Result.andThen_ok,QQ hc,Sem.run_pure,hk.check,hf,TR hi hz]
    ·refine CO ha (wS ?_)
     rw[e1]
     have hf:=Rh (w:=w) hk.und q
     simp only[Instr.lookup,Sem.run_bind,run_underlying hu,Result.andThen_ok,QQ hc,Sem.run_pure,hk.check,hf]
theorem sZ(hs:Ww P σ H w){o:Oper}{t:TypeId}{r:Option Operand}(ho:o.op=.makeMap t r):Xr P σ H w tm ρ o:=by
 unfold Xr;rw[ho]
 cases r with
 |some r=>exact trivial
 |none=>
  refine Vr (Tr.alloc hs (.map [] 0) (.map #[] 0) ⟨w.heap.size,0,0,1⟩ rfl ⟨#[],rfl,L5,by simp[Fg]⟩) (x:=.map (some w.heap.size)) ?_ ?_
  ·simp only[execOp,ho]
   refine WY ?_
   simp[Instr.makeMap]
  ·simp only[Yt];exact⟨_,Mp.put_same _ _ _,rfl⟩
theorem wM{r:Result Next}{kt:TypeId}{kd:TypeDesc}{eq:AV->AV->Option Bool}(hk:En P σ kt kd eq){k v:AV}{kv vv:Value}(hkr:Yt σ k kv)(hvr:Yt σ v vv){clock:Nat}: ∀(es:List RE) (l:List MapEntry) (i:Nat) (done:List RE->Nat->OR),YG σ es l->
  (Instr.findNow kd kv l i=some none->(∀e∈es,True)->Y3 P σ H w r (done (es++[⟨k,v,clock⟩]) (clock+1)))->
  (∀j a m u,es[j]? =some a->l[j]? =some m->Nw σ a m->Instr.sameBits 10000 m.key kv=true->Instr.findNow kd kv l i=some (some (i+j,u))->Y3 P σ H w r (done (es.set j ⟨k,v,a.born⟩) clock))->
  Y3 P σ H w r (OP eq k v clock done es)
 |[],l,i,done,h,h1,h2=>by
  simp only[YG] at h;subst h
  exact h1 rfl (by simp)
 |e::es,l,i,done,h,h1,h2=>by
  obtain⟨m,ms,g1,g2,rfl⟩:=h.cons_inv
  unfold OP
  cases he:eq k e.key with
  |none=>exact trivial
  |some t=>
   have hn:=hk.now _ _ _ _ t hkr g1.1 he
   cases t with
   |true=>
    have hb:=hk.bits _ _ _ _ hkr g1.1 he
    exact h2 0 e m m.val rfl rfl g1 hb (by simp only[Instr.findNow,hn,ZZ])
   |false=>
    refine wM hk hkr hvr es ms (i+1) (λl' c=>done (e::l') c) g2 (λq _=>h1 ?_ (by simp)) (λj a m' u q1 q2 q3 q4 q5=>h2 (j+1) a m' u (by simpa using q1) (by simpa using q2) q3 q4 ?_)
    ·simp only[Instr.findNow,hn];exact q
    ·simp only[Instr.findNow,hn];rw[q5,show i+1+j=i+(j+1) by omega]
theorem YG.append: ∀{es es2:List RE} {l l2:List MapEntry},YG σ es l->YG σ es2 l2->YG σ (es++es2) (l++l2)
 |[],es2,l,l2,h,h'=>by simp only[YG] at h;subst h;exact h'
 |a::es,es2,l,l2,h,h'=>by
  obtain⟨m,ms,g1,g2,rfl⟩:=h.cons_inv
  exact Ok g1 (g2.append h')
theorem YG.set{a:RE}{m:MapEntry}(hm:Nw σ a m): ∀{es:List RE} {l:List MapEntry} (j:Nat),YG σ es l->YG σ (es.set j a) (l.set j m)
 |[],l,j,h=>by simp only[YG] at h;subst h;simpa using L5
 |e::es,l,0,h=>by
  obtain⟨m',ms,g1,g2,rfl⟩:=h.cons_inv
  exact Ok hm g2
 |e::es,l,j+1,h=>by
  obtain⟨m',ms,g1,g2,rfl⟩:=h.cons_inv
  exact Ok g1 (g2.set hm j)
theorem rt{es:List RE}{c j:Nat}{a:RE}{k v:AV}(h:Fg es c)(ha:es[j]? =some a):Fg (es.set j ⟨k,v,a.born⟩) c:=by
 have key:(es.set j ⟨k,v,a.born⟩).map (·.born)=es.map (·.born):=by
  apply X4
  intro i
  simp only[Yh,List.getElem?_set]
  by_cases hij:j=i
  ·subst hij
   have hlt:j<es.length:=by
    rcases Nat.lt_or_ge j es.length with h|h
    ·exact h
    ·rw[YB h] at ha;cases ha
   rw[if_pos rfl,if_pos hlt,ha]
   rfl
  ·simp[hij]
 obtain⟨h1,h2⟩:=h
 constructor
 ·have:((es.set j ⟨k,v,a.born⟩).map (·.born)).Pairwise (· < ·):=by rw[key];exact List.pairwise_map.2 h1
  exact List.pairwise_map.1 this
 ·intro e he
  have:e.born∈(es.set j ⟨k,v,a.born⟩).map (·.born):=Tf he
  rw[key] at this
  obtain⟨e',he',h3⟩:=YC.1 this
  rw[<-h3];exact h2 e' he'
theorem vT{es:List RE}{c:Nat}{k v:AV}(h:Fg es c):Fg (es++[⟨k,v,c⟩]) (c+1):=by
 obtain⟨h1,h2⟩:=h
 constructor
 ·rw[List.pairwise_append]
  refine⟨h1,by simp,λa ha b hb=>?_⟩
  rw[YP] at hb;subst hb
  exact h2 a ha
 ·intro e he
  rcases Zy.1 he with he|he
  ·have:=h2 e he;omega
  ·rw[YP] at he;subst he;exact Yo c
theorem GL{g:Nat}{es:Array MapEntry}{c:Nat}(ob:Go.Obj)(h:w.heap[g]? =some (.map es c)): ∃w',(setObj g ob).run P w=.ok () w'∧Ap w w' g ob:=by
 refine⟨{w with heap:=w.heap.setIfInBounds g ob},by simp[setObj,Sem.run,h],⟨by simp,?_,λk hk=>?_,rfl,rfl,rfl⟩⟩
 ·have:g<w.heap.size:=(ZT.1 h).1
  simp[YH,this]
 ·simp only[YH]
  rw[if_neg (λe=>hk e.symm)]
theorem wL(hs:Ww P σ H w)(hρ:Rl P σ tm ρ){o:Oper}{t kt e:TypeId}{m k x:Operand}{kd:TypeDesc}{eq:AV->AV->Option Bool}(hu:P.underlying t=some (.map kt e))(hk:En P σ kt kd eq)
  (hex: ∀w',(Instr.mapUpdate t (ρ m) (ρ k) (ρ x)).run P w=.ok () w'->(execOp ρ o).run P w=.ok .skip w'):
  Y3 P σ H w ((execOp ρ o).run P w) (Jk eq (YQ P m) (YQ P k) (YQ P x) tm H):=by
 have g:=hρ m
 refine HH (λ_=>trivial) λb hx=>OG λob Fe=>?_
 rw[hx] at g
 obtain⟨l,hl,e1⟩:=Jn g
 cases ob<;>try exact trivial
 case map es clock=>
  refine Ym λhro=>?_
  have hwr:Wr H b:=⟨Z1 hro,_,Fe,(λr h=>by cases h),λh=>by cases h⟩
  obtain⟨c,hc,ho'⟩:=hs.alive b _ l Fe hl
  obtain⟨ents,rfl,hr,hris⟩:=ho'
  refine wM hk (hρ k) (hρ x) es ents.toList 0 _ hr (λq _=>?_) λj a mm u q1 q2 q3 q4 q5=>?_
  ·obtain⟨w',hrun,hw⟩:=GL (P:=P) (.map (ents.push {key:=ρ k,val:=ρ x,born:=clock}) (clock+1)) hc
   refine⟨σ,w',undef,.inr ⟨hex w' ?_,rfl⟩,by simp[Xl,undef,Yt,YO],Tr.write hs Fe hl hwr hw.size hw.new hw.old ⟨_,rfl,?_,vT hris⟩ hw.tape hw.os hw.out⟩
   ·rw[e1]
    have hf:=Rh (w:=w) hk.und q
    simp only[Instr.mapUpdate,Sem.run_bind,run_underlying hu,Result.andThen_ok,QQ hc,hk.check,hf,hrun]
   ·rw[Array.toList_push]
    exact hr.append (Ok ⟨hρ k,hρ x,rfl⟩ L5)
  ·obtain⟨w',hrun,hw⟩:=GL (P:=P) (.map (ents.modify j λe=>{e with key:=ρ k,val:=ρ x}) clock) hc
   refine⟨σ,w',undef,.inr ⟨hex w' ?_,rfl⟩,by simp[Xl,undef,Yt,YO],Tr.write hs Fe hl hwr hw.size hw.new hw.old ⟨_,rfl,?_,rt hris q1⟩ hw.tape hw.os hw.out⟩
   ·rw[e1]
    have hf:=Rh (w:=w) hk.und q5
    rw[Zs] at hf
    have hej:ents[j]? =some mm:=by rw[<-Yd];exact q2
    simp only[Instr.mapUpdate,Sem.run_bind,run_underlying hu,Result.andThen_ok,QQ hc,hk.check,hf,hej,Wb,Option.getD_some,Instr.keyThatStays,q4,if_true,Sem.run_pure,hrun]
   ·have e2:(ents.modify j λe=>{e with key:=ρ k,val:=ρ x}).toList=ents.toList.set j {mm with key:=ρ k,val:=ρ x}:=by
     apply X4
     intro i
     rw[Yd,XT,List.getElem?_set]
     by_cases hij:j=i
     ·subst hij
      have hlt:j<ents.toList.length:=by
       rcases Nat.lt_or_ge j ents.toList.length with h|h
       ·exact h
       ·rw[YB h] at q2;cases q2
      have hej:ents[j]? =some mm:=by rw[<-Yd];exact q2
      rw[if_pos rfl,if_pos rfl,if_pos hlt,hej];rfl
     ·rw[if_neg hij,if_neg hij,Yd]
    rw[e2]
    exact YG.set (a:=⟨YQ P k tm,YQ P x tm,a.born⟩) (m:={mm with key:=ρ k,val:=ρ x}) ⟨hρ k,hρ x,q3.2.2⟩ j hr
theorem Gz(hs:Ww P σ H w)(hρ:Rl P σ tm ρ){o:Oper}{t:TypeId}{m k x:Operand}(ho:o.op=.mapUpdate t m k x∨o.op=.insert t m k x):Xr P σ H w tm ρ o:=by
 have hex: ∀w',(Instr.mapUpdate t (ρ m) (ρ k) (ρ x)).run P w=.ok () w'->(execOp ρ o).run P w=.ok .skip w':=by
  intro w' h
  rcases ho with ho|ho<;>simp[execOp,ho,h]
 have key:Y3 P σ H w ((execOp ρ o).run P w) (VH P t (λd=>match d with|.map kt _=>VH P kt<|j6 λeq=>Jk eq (YQ P m) (YQ P k) (YQ P x)|_=>VG) tm H):=by
  refine Xj λd hu=>?_
  cases d<;>try exact trivial
  case map kt e=>exact AZ λkd eq hk=>wL hs hρ hu hk hex
 unfold Xr
 rcases ho with ho|ho
 ·rw[ho];exact key
 ·rw[ho];exact key
theorem hZ(hs:Ww P σ H w)(hρ:Rl P σ tm ρ){o:Oper}{t:TypeId}{x:Operand}(ho:o.op=.range t x):Xr P σ H w tm ρ o:=by
 unfold Xr;rw[ho]
 refine Xj λd hu=>?_
 have g:=hρ x
 have hex: ∀{v:Value} {w':World},(Instr.range t (ρ x)).run P w=.ok v w'->(execOp ρ o).run P w=.ok (.value v) w':=λh=>by
  simp only[execOp,ho];exact WY h
 cases d<;>try exact trivial
 case string=>
  refine PJ λs hx=>?_
  rw[hx] at g
  refine Vr (Tr.alloc hs (.siter s 0) (.stringIter ⟨s.toArray⟩ 0) ⟨w.heap.size,0,0,1⟩ rfl ⟨rfl,rfl⟩) (hex ?_) (Jo rfl)
  rw[Uf g]
  simp[Instr.range,run_underlying hu]
 case map kt e=>
  refine HH (λhx=>?_) λb hx=>OG λob Fe=>?_
  ·rw[hx] at g
   refine Vr (Tr.alloc hs (.miter none 0 none) (.mapIter none 0 #[] 0) ⟨w.heap.size,0,0,1⟩ rfl ⟨#[],0,rfl,(λ_ h=>by cases h),rfl,rfl,rfl⟩) (hex ?_) (Jo rfl)
   rw[PW g]
   simp[Instr.range,run_underlying hu]
  ·rw[hx] at g
   obtain⟨l,hl,e1⟩:=Jn g
   cases ob<;>try exact trivial
   case map es clock=>
    obtain⟨c,hc,ho'⟩:=hs.alive b _ l Fe hl
    obtain⟨ents,rfl,hr,_⟩:=ho'
    have hlt:=hs.dom b l hl
    have hput:(σ.put H.nx ⟨w.heap.size,0,0,1⟩) b=some l:=by rw[Mp.put_old (by omega)];exact hl
    refine Vr (Tr.alloc hs (.miter (some b) clock none) (.mapIter (some l.blk) clock #[] clock) ⟨w.heap.size,0,0,1⟩ rfl ⟨#[],clock,?_,?_,rfl,rfl,rfl⟩) (hex ?_) (Jo rfl)
    ·simp[hput]
    ·intro b' hb';cases hb';rw[hput];rfl
    ·rw[e1]
     simp[Instr.range,run_underlying hu,QQ hc]
theorem vX{b:Nat}{s:ByteArray}{c:Nat}(h:w.heap[b]? =some (.stringIter s c)):(getObj b).run P w=.ok (.stringIter s c) w:=by simp[getObj,Sem.run,h]
theorem Br{b:Nat}{m:Option Nat}{a:Nat}{s:Array Nat}{c:Nat}(h:w.heap[b]? =some (.mapIter m a s c)):(getObj b).run P w=.ok (.mapIter m a s c) w:=by simp[getObj,Sem.run,h]
theorem Ak{g:Nat}{s:ByteArray}{c:Nat}(ob:Go.Obj)(h:w.heap[g]? =some (.stringIter s c)): ∃w',(setObj g ob).run P w=.ok () w'∧Ap w w' g ob:=by
 refine⟨{w with heap:=w.heap.setIfInBounds g ob},by simp[setObj,Sem.run,h],⟨by simp,?_,λk hk=>?_,rfl,rfl,rfl⟩⟩
 ·have:g<w.heap.size:=(ZT.1 h).1
  simp[YH,this]
 ·simp only[YH]
  rw[if_neg (λe=>hk e.symm)]
theorem bI(hs:Ww P σ H w)(hρ:Rl P σ tm ρ){o:Oper}{x:Operand}{b:Bool}(ho:o.op=.next x b):Xr P σ H w tm ρ o:=by
 unfold Xr;rw[ho]
 refine WF (λhb=>?_) λ_=>TJ
 subst hb
 have g:=hρ x
 refine QA λb off hx=>Ym λh0=>Ym λhro=>OG λob Fe=>?_
 rw[hx] at g
 obtain⟨l,hl,e1⟩:=Ue g
 rw[Yu] at h0
 have h0:off=0:=Zo h0
 subst h0
 cases ob<;>try exact trivial
 case siter s pos=>
  have hwr:Wr H b:=⟨Z1 hro,_,Fe,(λr h=>by cases h),λh=>by cases h⟩
  obtain⟨c,hc,ho'⟩:=hs.alive b _ l Fe hl
  obtain⟨rfl,hbase⟩:=ho'
  rw[hbase] at e1
  have hex: ∀{v:Value} {w':World},(Instr.next (ρ x) true o.type).run P w=.ok v w'->(execOp ρ o).run P w=.ok (.value v) w':=λh=>by
   simp only[execOp,ho];exact WY h
  have hsz:(ByteArray.mk s.toArray).size=s.length:=Np s
  refine V9 (λhlt=>?_) λhlt=>?_
  ·rw[Xa,Yw] at hlt
   have hlt:pos<s.length:=Zo hlt
   cases hdec:Utf8.decode ⟨s.toArray⟩ pos with
   |mk ch wd=>
   obtain⟨w',hrun,hw⟩:=Ak (P:=P) (.stringIter ⟨s.toArray⟩ (pos+wd)) hc
   refine Vr (Tr.write hs Fe hl hwr hw.size hw.new hw.old ⟨rfl,hbase⟩ hw.tape hw.os hw.out) (x:=.tuple #[.bool true,goInt pos,.int .i32 ch]) (hex ?_) ?_
   ·rw[e1]
    simp only[Instr.next,Zs,Sem.run_bind,vX hc,Result.andThen_ok,hsz,if_pos hlt,hdec,hrun,Sem.run_pure]
   ·simp only[Yt]
    exact⟨[.bool true,goInt pos,.int .i32 ch],WD (by simp[Yt]) (WD (by simp[Yt,goInt]) (TQ (by simp[Yt]))),rfl⟩
  ·rw[Xa,Yw] at hlt
   have hlt: ¬(pos<s.length):=of_decide_eq_false hlt
   refine Yg hs (x:=.tuple #[.bool false]) (hex ?_) ?_
   ·rw[e1]
    simp only[Instr.next,Zs,Sem.run_bind,vX hc,Result.andThen_ok,hsz,if_neg hlt,Sem.run_pure]
   ·simp only[Yt]
    exact⟨[.bool false],TQ (by simp[Yt]),rfl⟩
theorem AY{r:Result Next}{n:Nat}{k:RE->OR}: ∀(es:List RE) (l:List MapEntry),YG σ es l->(∀a m,Nw σ a m->l.find? (·.born==n)=some m->Y3 P σ H w r (k a))->Y3 P σ H w r (yF n k es)
 |[],l,h,g=>trivial
 |a::es,l,h,g=>by
  obtain⟨m,ms,h1,h2,rfl⟩:=h.cons_inv
  refine V9 (λhe=>g a m h1 ?_) λhe=>AY es ms h2 λa' m' h3 h4=>g a' m' h3 ?_
  ·rw[Yu] at he
   have he:a.born=n:=Zo he
   rw[List.find?_cons_of_pos (by simp[<-h1.2.2,he])]
  ·rw[Yu] at he
   have he: ¬a.born=n:=of_decide_eq_false he
   rw[List.find?_cons_of_neg (by simp[<-h1.2.2,he])]
   exact h4
theorem i9(hs:Ww P σ H w)(hρ:Rl P σ tm ρ){o:Oper}{x:Operand}(ho:o.op=.entry x):Xr P σ H w tm ρ o:=by
 unfold Xr;rw[ho]
 have g:=hρ x
 refine QA λb off hx=>Ym λh0=>OG λob Fe=>?_
 rw[hx] at g
 obtain⟨l,hl,e1⟩:=Ue g
 rw[Yu] at h0
 have h0:off=0:=Zo h0
 subst h0
 show Y3 P σ H w _ (yj ob _)
 unfold yj
 split
 ·rename_i m since n st
  obtain⟨c,hc,ho'⟩:=hs.alive b _ l Fe hl
  obtain⟨seen,st',rfl,hm,hbase,hback,rfl⟩:=ho'
  rw[hbase] at e1
  refine OG λom hom=>?_
  cases om<;>try exact trivial
  case map es clock=>
   refine Ym λhcl=>?_
   rw[Yu] at hcl
   have hcl:clock=st':=Zo hcl
   subst hcl
   obtain⟨lm,hlm⟩:=Vp.1 (hm m rfl)
   obtain⟨cm,hcm,Zjd⟩:=hs.alive m _ lm hom hlm
   obtain⟨ents,rfl,hr,_⟩:=Zjd
   refine AY es ents.toList hr λa me hae hf=>?_
   refine Yg hs (x:=.tuple #[me.key,me.val]) ?_ ?_
   ·simp only[execOp,ho]
    refine WY ?_
    rw[e1]
    have hf':ents.find? (λx=>x.born==n)=some me:=by rw[<-Array.find?_toList];exact hf
    simp only[Option.bind_some,hlm,Wb] at hc
    simp only[Instr.entry,Zs,Sem.run_bind,Br hc,Result.andThen_ok,hback,QQ hcm,bne_self_eq_false,YJ,if_false,hf',Sem.run_pure]
   ·simp only[Yt]
    exact⟨[me.key,me.val],WD hae.1 (TQ hae.2.1),rfl⟩
 ·trivial
theorem sW(hs:Ww P σ H w)(hρ:Rl P σ tm ρ){o:Oper}{x:Operand}{xt t:TypeId}{ok:Bool}(ho:o.op=.typeAssert x xt t ok):Xr P σ H w tm ρ o:=by
 unfold Xr;rw[ho]
 refine XG λi hi=>Ud λz hz=>Xj λd hu=>?_
 have g:=hρ x
 have hex: ∀{v:Value} {w':World},(Instr.typeAssert (ρ x) xt t ok).run P w=.ok v w'->(execOp ρ o).run P w=.ok (.value v) w':=λh=>by
  simp only[execOp,ho];exact WY h
 have qS:=TR (w:=w) hi hz
 have no:(∀(h:ok=true),(Instr.typeAssert (ρ x) xt t ok).run P w=.ok (.tuple #[z,.bool false]) w)->Y3 P σ H w ((execOp ρ o).run P w) (RP (WI z) ok H none):=by
  intro h
  cases ok with
  |false=>exact trivial
  |true=>
   refine Yg hs (hex (h rfl)) ?_
   simp only[Yt]
   exact⟨[z,.bool false],WD (Pd σ z) (TQ (by simp[Yt])),rfl⟩
 have yes: ∀{a:AV} {v:Value},Yt σ a v->(Instr.typeAssert (ρ x) xt t ok).run P w=.ok (if ok then .tuple #[v,.bool true] else v) w->Y3 P σ H w ((execOp ρ o).run P w) (RP (WI z) ok H (some a)):=by
  intro a v ha h
  cases ok with
  |false=>exact Yg hs (hex h) ha
  |true=>
   refine Yg hs (hex h) ?_
   simp only[Yt]
   exact⟨[v,.bool true],WD ha (TQ (by simp[Yt])),rfl⟩
 by_cases hd: ∃ms,d=.interface ms
 ·obtain⟨ms,rfl⟩:=hd
  show Y3 P σ H w _ (vC (YQ P x) P (cY P t) (WI z) ok tm H)
  have hms:cY P t=ms:=by unfold cY;rw[hu]
  rw[hms]
  refine OF (λhx=>?_) λu v hx=>Qo λiu hiu=>?_
  ·rw[hx] at g
   have g:=QN g
   refine no λh=>?_
   rw[g]
   simp[Instr.typeAssert,run_underlying hu,h,qS]
  ·rw[hx] at g
   obtain⟨y,hy,e1⟩:=Td g
   have hti:(typeInfo u).run P w=.ok iu w:=by simp[typeInfo,hiu]
   cases hmm:Instr.missingMethod ms iu.methods with
   |none=>
    refine yes (v:=ρ x) (by rw[<-hx];exact hρ x) ?_
    rw[e1]
    simp[Instr.typeAssert,run_underlying hu,hti,hmm]
   |some m=>
    refine no λh=>?_
    rw[e1]
    simp[Instr.typeAssert,run_underlying hu,hti,hmm,h,qS]
 ·have hd: ∀ms,d≠.interface ms:=λms h=>hd ⟨ms,h⟩
  have key:Y3 P σ H w ((execOp ρ o).run P w) (PA (YQ P x) t (WI z) ok tm H):=by
   refine OF (λhx=>?_) λu v hx=>?_
   ·rw[hx] at g
    have g:=QN g
    refine no λh=>?_
    rw[g]
    cases d<;>first
     |exact absurd rfl (hd _)
     |simp[Instr.typeAssert,run_underlying hu,h,qS]
   ·rw[hx] at g
    obtain⟨y,hy,e1⟩:=Td g
    rw[Yu]
    by_cases hut:u=t
    ·rw[Ze hut]
     refine yes hy ?_
     rw[e1]
     cases d<;>first
      |exact absurd rfl (hd _)
      |simp[Instr.typeAssert,run_underlying hu,hut]
    ·rw[Zb hut]
     refine no λh=>?_
     rw[e1]
     cases d<;>first
      |exact absurd rfl (hd _)
      |simp[Instr.typeAssert,run_underlying hu,hut,h,qS]
  cases d<;>first
   |exact absurd rfl (hd _)
   |exact key
theorem zC(hρ:Rl P σ tm ρ)(l:Array Operand):YO σ (evs tm (args P l)) (l.map ρ).toList:=by
 have:=KN hρ l.toList
 unfold args
 simpa using this
theorem Ix{r:Result Next}{f:Nat}{as:List AV}{vs:List Value}(hr:YO σ as vs)(h:r=(callFunc f ⟨vs⟩).run P w):Y3 P σ H w r (.oth (.call f as H)):=⟨rfl,vs,hr,h⟩
theorem yK{r:Result Next}{name:String}{u:Nat}{k:Nat->OR}
  (h: ∀g,(∀(n:Nat) (v:Value),(method (n+1) u v name).run P w=.ok (g,v) w)->Y3 P σ H w r (k g)):Y3 P σ H w r (Gm P name u k):=by
 refine Qo λi hi=>Qo λm hm=>Ym λhp=>?_
 have hti:(typeInfo u).run P w=.ok i w:=by simp[typeInfo,hi]
 have hpl:m.path.toList=[]:=by
  have:m.path= #[]:=by simpa using hp
  rw[this]
 cases hf:m.func with
 |none=>exact trivial
 |some q=>
  obtain⟨g,ptr⟩:=q
  show Y3 P σ H w r (match P.underlying u with
   |some (.pointer _)=>ZX ptr (k g)
   |some _=>cond ptr .fail (k g)
   |none=>.fail)
  cases hu:P.underlying u with
  |none=>exact trivial
  |some d=>
   have base: ∀(n:Nat) (v:Value),(method (n+1) u v name).run P w=(do pure (g,<-receiverAt u (.val v) ptr (if m.path.isEmpty then some ((name.splitOn ".").getLastD name) else none)):Sem (FuncId×Value)).run P w:=by
    intro n v
    simp only[method,Sem.run_bind,hti,Result.andThen_ok,hm,hpl,follow,Sem.run_pure,hf]
   cases d<;>first
    |(refine Ym λZjh=>h g λn v=>?_
      subst Zjh
      rw[base]
      simp[receiverAt,run_underlying hu,Place.get]
      done)
    |(cases ptr with
      |true=>exact trivial
      |false=>
       refine h g λn v=>?_
       rw[base]
       simp[receiverAt,run_underlying hu,Place.get])
theorem Bq{name:String}{u g:Nat}{v:Value}{args:Array Value}(h: ∀(n:Nat) (v:Value),(method (n+1) u v name).run P w=.ok (g,v) w):(callMethod (.iface u v) name args).run P w=(callFunc g (#[v]++args)).run P w:=by
 have:(P.types.size+Made.depth)=(P.types.size+Made.depth - 1)+1:=by
  have:0<Made.depth:=by decide
  omega
 simp only[callMethod,Sem.run_bind,run_program,Result.andThen_ok]
 rw[this,h]
 rfl
theorem ED{r:Result Next}{n:String}{u:Nat}{a:AV}{x:Value}{as:List AV}{vs:List Value}(ha:Yt σ a x)(hr:YO σ as vs)(h:r=(callMethod (.iface u x) n ⟨vs⟩).run P w):
  Y3 P σ H w r (Gm P n u λg=>.oth (.call g (a::as) H)):=by
 refine yK λg hm=>Ix (vs:=x::vs) (WD ha hr) ?_
 rw[h,Bq hm]
 congr 2
 apply Array.ext'
 simp
theorem EK(name:String)(cap:Array Value)(r:Value)(as:Array Value):invoke (.fn (.method name) cap) (#[r]++as)=callMethod r name ⟨as.toList⟩:=by
 have h1:(#[r]++as)[0]? =some r:=by rw[Array.getElem?_append_left (by simp)];rfl
 have h2:(#[r]++as).extract 1 (#[r]++as).size=⟨as.toList⟩:=by
  apply Array.ext'
  simp[WL]
 simp only[invoke,h1,h2]
theorem bD(hs:Ww P σ H w)(hρ:Rl P σ tm ρ){o:Oper}{c:Call}(ho:o.op=.call c)(hb: ∀b,c.callee≠.builtin b):Xr P σ H w tm ρ o:=by
 unfold Xr;rw[ho]
 have hargs:=zC hρ c.args
 have hex:(execOp ρ o).run P w=(do let d<-resolve ρ c o.type;invoke d.target d.args:Sem Next).run P w:=by simp only[execOp,ho]
 rw[hex]
 show Y3 P σ H w _ (kF P c tm H)
 unfold kF
 cases hc:c.callee with
 |builtin b=>exact absurd hc (hb b)
 |invoke rv name=>
  have g:=hρ rv
  refine OF (λ_=>trivial) λu a hx=>?_
  rw[hx] at g
  obtain⟨x,hx',e1⟩:=Td g
  refine ED hx' hargs ?_
  simp only[resolve,hc,Sem.run_bind,Sem.run_pure,Result.andThen_ok,EK,e1]
 |value f=>
  have gen:Y3 P σ H w ((do let d<-resolve ρ c o.type;invoke d.target d.args:Sem Next).run P w) (Q4 (YQ P f) P (args P c.args) tm H):=by
   have g:=hρ f
   unfold Q4
   split
   ·rename_i fn a b hx
    rw[hx] at g
    obtain⟨x,y,h1,h2,e1⟩:=Mm g
    refine Ix (h1.append (hargs.append h2)) ?_
    simp only[resolve,hc,e1,Deferred.ofValue,Sem.run_bind,Sem.run_pure,Result.andThen_ok,invoke]
    congr 2
    apply Array.ext'
    simp
   ·rename_i n rv hx
    rw[hx] at g
    simp only[Yt] at g
    obtain⟨x,h1,e1⟩:=g
    refine OF (λ_=>trivial) λu a hrv=>?_
    rw[hrv] at h1
    obtain⟨y,hy,e2⟩:=Td h1
    refine ED hy hargs ?_
    simp only[resolve,hc,e1,Deferred.ofValue,Sem.run_bind,Sem.run_pure,Result.andThen_ok,e2]
    exact congrArg (λs=>s.run P w) (EK n #[] (.iface u y) (Array.map ρ c.args))
   ·rename_i b hx
    rw[hx] at g
    simp only[Yt] at g
    obtain⟨l,hl,e1⟩:=g
    refine⟨rfl,l,_,hl,hargs,?_⟩
    simp only[resolve,hc,e1,Deferred.ofValue,Sem.run_bind,Sem.run_pure,Result.andThen_ok,invoke]
    congr 2
    apply Array.ext'
    simp
   ·trivial
  cases f with
  |func fn=>
   have g:=hρ (.func fn)
   have g:Yt σ (.func fn [] []) (ρ (.func fn)):=g
   obtain⟨x,y,h1,h2,e1⟩:=Mm g
   have h1:=h1.nil_inv
   have h2:=h2.nil_inv
   subst h1;subst h2
   refine Ix hargs ?_
   simp only[resolve,hc,e1,Deferred.ofValue,Sem.run_bind,Sem.run_pure,Result.andThen_ok,invoke]
   congr 2
   apply Array.ext'
   simp
  |tmp t=>exact gen
  |const v=>exact gen
  |global v=>exact gen
theorem Cq{r:Result Next}{a:AV}{x:Value}(ha:Yt σ a x)(h: ∀v,(Instr.panic x).run P w=.halt v w->r=.halt v w):Y3 P σ H w r (QK a .fail λ_ _=>.oth (.pan a H)):=by
 refine OF (λ_=>trivial) λu b hx=>?_
 rw[hx] at ha
 obtain⟨y,hy,e1⟩:=Td ha
 refine⟨rfl,x,by rw[hx];exact ha,h _ ?_⟩
 rw[e1]
 rfl
theorem hY(hs:Ww P σ H w)(hρ:Rl P σ tm ρ){o:Oper}{x:Operand}(ho:o.op=.panic x):Xr P σ H w tm ρ o:=by
 unfold Xr;rw[ho]
 refine Cq (hρ x) λv h=>?_
 simp only[execOp,ho]
 simp[h]
theorem mu(hs:Ww P σ H w)(hρ:Rl P σ tm ρ){o:Oper}{xs:List Operand}{ts:List TypeId}(ho:o.op=.call ⟨.builtin .panic,⟨xs⟩,⟨ts⟩⟩):Xr P σ H w tm ρ o:=by
 refine Ux ho λcs=>?_
 rcases xs with _|⟨x,_|⟨_,_⟩⟩<;>try exact trivial
 refine Cq (hρ x) λv h=>?_
 show((do pure (Next.value (<-Instr.panic (ρ x)))):Sem Next).run P w=_
 simp[h]
theorem s6(hs:Ww P σ H w)(hρ:Rl P σ tm ρ){o:Oper}{xs:List Operand}{ts:List TypeId}(ho:o.op=.call ⟨.builtin .recover,⟨xs⟩,⟨ts⟩⟩):Xr P σ H w tm ρ o:=by
 refine Ux ho λcs=>?_
 rfl
theorem i7(hs:Ww P σ H w)(hρ:Rl P σ tm ρ){o:Oper}{c:Call}(ho:o.op=.defer c):Xr P σ H w tm ρ o:=by
 unfold Xr;rw[ho]
 show Y3 P σ H w _ ((match c.callee with|.value f=>C7 (YQ P f) (args P c.args)|_=>VG) tm H)
 cases hc:c.callee with
 |builtin b=>exact trivial
 |invoke rv name=>exact trivial
 |value f=>
  intro g a b hx
  have g1:=hρ f
  rw[hx] at g1
  obtain⟨x,y,h1,h2,e1⟩:=Mm g1
  refine⟨x,_,y,h1,zC hρ c.args,h2,?_⟩
  simp only[execOp,ho,resolve,hc,e1,Deferred.ofValue,Sem.run_bind,Sem.run_pure,Result.andThen_ok]
  congr 3
  apply Array.ext'
  simp
theorem NZ(hs:Ww P σ H w)(hρ:Rl P σ tm ρ)(o:Oper):Xr P σ H w tm ρ o:=by
 cases ho:o.op with
 |move x=>exact bH hs hρ ho
 |assign x=>exact mn hs hρ ho
 |pick c a b=>exact bJ hs hρ ho
 |alloc t=>exact i0 hs ho
 |box t x=>exact Zcj hs hρ ho
 |build t ps=>exact i6 hs hρ ho
 |buildSlice t n ps=>exact mp hs hρ ho
 |load t a=>exact bF hs hρ ho
 |store t a x=>exact gh hs hρ ho
 |nilCheck x=>exact Zct hs hρ ho
 |binOp op t x y u=>cases op with
  |add=>exact Zci hs hρ ho
  |sub=>exact Zcy hs hρ ho
  |mul=>exact Zcr hs hρ ho
  |quo=>exact Zcu hs hρ ho
  |rem=>exact Zcv hs hρ ho
  |and=>unfold Xr;have h:=Du (f:=OK) hs hρ ho (.inl ⟨rfl,rfl⟩);rw[ho];exact h
  |or=>unfold Xr;have h:=Du (f:=Mi) hs hρ ho (.inr (.inl ⟨rfl,rfl⟩));rw[ho];exact h
  |xor=>unfold Xr;have h:=Du (f:=ei) hs hρ ho (.inr (.inr (.inl ⟨rfl,rfl⟩)));rw[ho];exact h
  |andNot=>unfold Xr;have h:=Du (f:=Hk) hs hρ ho (.inr (.inr (.inr ⟨rfl,rfl⟩)));rw[ho];exact h
  |shl=>exact Zcw hs hρ ho
  |shr=>exact Zcx hs hρ ho
  |eql=>exact Zcl hs hρ ho
  |neq=>exact Zcs hs hρ ho
  |lss=>exact Zcq hs hρ ho
  |gtr=>exact Zcn hs hρ ho
  |leq=>exact Zcp hs hρ ho
  |geq=>exact Zcm hs hρ ho
 |unOp op t x=>exact ZfV hs hρ ho
 |convert s d x=>exact sX hs hρ ho
 |makeInterface t x=>
  unfold Xr;rw[ho]
  refine Xj λd hu=>?_
  have h:=λhd=>bG hs hρ ho hu hd
  cases d<;>first
   |exact trivial
   |exact h rfl
 |makeFunc fn a b=>exact mr hs hρ ho
 |makeMap t r=>exact sZ hs ho
 |mapUpdate t m k x=>exact Gz hs hρ (.inl ho)
 |insert t m k x=>exact Gz hs hρ (.inr ho)
 |lookup t m k ok=>exact mq hs hρ ho
 |makeSlice t l c=>exact s4 hs hρ ho
 |slice t x lo hi mx=>exact gd hs hρ ho
 |fieldAddr t x f=>exact xm hs hρ ho
 |field t x f=>exact hK hs hρ ho
 |indexAddr t x i=>exact xn hs hρ ho
 |index t x i=>exact hU hs hρ ho
 |typeAssert x xt t ok=>exact sW hs hρ ho
 |extract x i=>exact sY hs hρ ho
 |call c=>
  by_cases hb: ∃b,c.callee=.builtin b
  ·obtain⟨b,hb⟩:=hb
   obtain⟨callee,⟨xs⟩,⟨ts⟩⟩:=c
   subst hb
   cases b with
   |append=>exact mj hs hρ ho
   |copy=>exact bE hs hρ ho
   |len=>exact Zco hs hρ ho
   |cap=>exact Zck hs hρ ho
   |min=>exact zr (mx:=false) hs hρ ho
   |max=>exact zr (mx:=true) hs hρ ho
   |unsafeString=>exact bK hs hρ ho
   |unsafeSliceData=>exact mw hs hρ ho
   |panic=>exact mu hs hρ ho
   |recover=>exact s6 hs hρ ho
   |_=>unfold Xr;rw[ho];exact trivial
  ·exact bD hs hρ ho λb h=>hb ⟨b,h⟩
 |defer c=>exact i7 hs hρ ho
 |panic x=>exact hY hs hρ ho
 |range t x=>exact hZ hs hρ ho
 |next x b=>exact bI hs hρ ho
 |entry x=>exact i9 hs hρ ho
 |_=>unfold Xr;rw[ho];exact trivial
end
end
end Go.AI
