/- Every operation of the interpreter's does what the model's does: proved for every world that is told. -/
import Derived.Test.YtoihnnkidhmfeaaGreatDoorP2
import Derived.Laws.BytesString
import Derived.Laws.Append
import Derived.Laws.StructEq
set_option maxRecDepth 1000000
set_option maxHeartbeats 0
set_option linter.unusedVariables false
set_option linter.unusedSimpArgs false
namespace Go.AI
open Go
noncomputable section
section
variable {P:Program} {σ:Mp} {H:Heap} {w:World} {tm:TM} {ρ:Operand->Value}
theorem Df: ∀s:List UInt8,Gz s=s.map λb=>AV.int .u8 (.ofNat b.toNat)
 |[]=>rfl
 |b::s=>by simp[Gz,Df s]
theorem C3(σ:Mp): ∀s:List UInt8,YO σ (Gz s) (s.map λb=>Value.int .u8 b.toNat)
 |[]=>TE
 |b::s=>W6 (by simp[Yl]) (C3 σ s)
theorem vq(s:List UInt8): ∀v∈s.map (λb=>Value.int .u8 b.toNat),v.oneCell'=true:=by
 intro v hv
 obtain⟨b,_,rfl⟩:=Wx.1 hv
 rfl
def wq(n:Int):UInt8:=UInt8.ofNat n.toNat
theorem Ke{r:Result Next}{f:List UInt8->OR}: ∀(as:List AV) (vs:List Value),YO σ as vs->(∀ns:List Int,vs=ns.map (Value.int .u8)->Y3 P σ H w r (f (ns.map wq)))->Y3 P σ H w r (Oy f as)
 |[],vs,h,g=>g [] (by rw[h.nil_inv];rfl)
 |a::as,vs,h,g=>by
  obtain⟨v,vs',h1,h2,rfl⟩:=h.cons_inv
  unfold Oy
  split
  ·rename_i n
   have h1:=WK h1
   subst h1
   exact Ke as vs' h2 λns hs=>g (.ofNat n::ns) (by rw[hs];rfl)
  ·trivial
theorem FI: ∀(ns:List Int) (s:ByteArray),ns.foldl (λr n=>r.push (UInt8.ofNat n.toNat)) s=⟨(s.data.toList++ns.map wq).toArray⟩
 |[],s=>by
  apply ByteArray.ext
  apply Array.ext'
  simp
 |n::ns,s=>by
  rw[List.foldl_cons,FI ns]
  simp[wq]
theorem Tr.drew(hs:W8 P σ H w):Tr P σ H w σ H w.drew:=
 ⟨Ext.refl σ,⟨hs.dom,hs.low,hs.alive,hs.inj,hs.glob,hs.ro⟩,Zq _,λ_ _ _=>rfl,λb l hw hl _=>⟨b,l,hw,hl,rfl⟩,Zq _,rfl,λ_ _=>rfl,rfl,rfl,rfl,λ_ _ h=>⟨rfl,h⟩⟩
theorem W8.drew(hs:W8 P σ H w):W8 P σ H w.drew:=(Tr.drew hs).sim
theorem tL(w:World)(c:Array Value)(e n:Nat):(w.alloc (.cells c e)).freeze ⟨w.heap.size,n,none⟩ 1=w.alloc (.cells c e (n,n+1)):=by
 unfold World.freeze
 rw[if_neg (by decide)]
 have:(w.alloc (.cells c e)).heap.modify w.heap.size (λ
   |.cells c elem (lo,hi)=>.cells c elem (if lo==hi then(n,n+1) else(min lo n,max hi (n+1)))
   |o=>o)=(w.alloc (.cells c e (n,n+1))).heap:=by
  apply Array.ext_getElem?
  intro i
  rw[W5]
  by_cases h:w.heap.size=i
  ·subst h;rw[if_pos rfl,Ry,Ry];rfl
  ·rw[if_neg h]
   by_cases h2:i<w.heap.size
   ·rw[Rz h2,Rz h2]
   ·rw[Array.getElem?_eq_none (by simp;omega),Array.getElem?_eq_none (by simp;omega)]
 exact(congrArg (λhp=>({heap:=hp,tape:=w.tape,drawn:=w.drawn,os:=w.os,output:=w.output}:World)) this).trans rfl
theorem pV{w:World}{g n:Nat}{cs:Array Value}{t:TypeId}{fr:Nat×Nat}(h:w.heap[g]? =some (.cells cs t fr))(hf:fr.1=fr.2):
  AT w (w.freeze ⟨g,n,none⟩ 1) g (.cells cs t (n,n+1)):=by
 obtain⟨a,b⟩:=fr
 simp only at hf
 subst hf
 refine⟨by simp[World.freeze],?_,λk hk=>?_,rfl,rfl,rfl⟩
 ·simp only[World.freeze,Nat.one_ne_zero,if_false,W5]
  rw[h];simp
 ·simp only[World.freeze,Nat.one_ne_zero,if_false,W5]
  rw[if_neg (λe=>hk e.symm)]
theorem Zb2{f:TypeId->Bool}{e count off n d:Nat}(h1:1<=P.cellsOf e)(h2:off % P.cellsOf e=0)(h3:off/P.cellsOf e+n<=count)(hf:f e=true):rowAt P f (d+1) e count off n=true:=by
 unfold rowAt
 have q4: ¬(P.cellsOf e=0):=by omega
 simp only[if_neg q4,h2,beq_self_eq_true,VX,hf,Bool.and_true,Zg h3,Bool.true_or]
theorem nz(d u:Nat):sameLayout P (d+1) u u=true:=by unfold sameLayout;simp
theorem qH{e count off n:Nat}(h1:1<=P.cellsOf e)(h2:off % P.cellsOf e=0)(h3:off/P.cellsOf e+n<=count):liesAt P P.depth e count off e n=true:=by
 have hd: ∃d,P.depth=d+1:=⟨2*(P.types.size+Made.depth)+1,rfl⟩
 obtain⟨d,hd⟩:=hd
 rw[hd]
 unfold liesAt
 rw[hd,Zb2 (f:=λx=>sameLayout P (d+1) x e) h1 h2 h3 (nz d e)]
 rfl
theorem IZ(need old e:Nat)(w:World): ∃k,(choose (.appendCap need old e)).run P w=.ok (need+k) w.drew:=by
 refine⟨w.tape w.drawn (.appendCap need old e) % (2^63 - need),?_⟩
 simp[Question.forced,Question.cut]
theorem GZ{w:World}{g:Nat}{cs:Array Value}{t:TypeId}{fr:Nat×Nat}(h:w.heap[g]? =some (.cells cs t fr)):w.shape? g=some (t,cs.size):=by
 unfold World.shape?;rw[h]
theorem sy(hs:W8 P σ H w)(hρ:Qk P σ tm ρ){o:Oper}{s d:TypeId}{x:Operand}(ho:o.op=.convert s d x):XD P σ H w tm ρ o:=by
 unfold XD;rw[ho]
 refine Xr λds mi=>Xr λdd hud=>?_
 have h1:=hρ x
 have hr: ∀{v:Value} {w':World},(convert s d (ρ x)).run P w=.ok v w'->(execOp ρ o).run P w=.ok (.value v) w':=λh=>by
  simp only[execOp,ho];exact Vz h
 show Y3 P σ H w _ (dH P s d (YP P x) ds dd tm H)
 cases ds<;>cases dd<;>try exact trivial
 case int.int k1 k=>
  refine QF λj n hx=>?_
  rw[hx] at h1
  have h1:=WK h1
  refine Qq hs (hr ?_)
  rw[h1]
  simp[convert,run_underlying mi,run_underlying hud,Conv.intToInt]
 case int.string k1=>
  refine QF λj n hx=>?_
  rw[hx] at h1
  have h1:=WK h1
  refine Z8 hs (x:=.string (Utf8.encode n)) (hr ?_) (by simp[Yl])
  rw[h1]
  simp[convert,run_underlying mi,run_underlying hud,Conv.intToString]
 case string.string=>
  refine OG λt hx=>?_
  rw[hx] at h1
  have h0:=h1
  have h1:=U6 h1
  refine Z8 hs (x:=ρ x) (hr ?_) h0
  rw[h1]
  simp[convert,run_underlying mi,run_underlying hud]
 case string.slice e=>
  refine Xr λde hue=>DX λhde=>OG λt hx=>?_
  subst hde
  rw[hx] at h1
  have h1:=U6 h1
  obtain⟨k,hk⟩:=IZ (P:=P) t.length 0 e w
  have hrun:(execOp ρ o).run P w=.ok (.value (.slice (some ⟨w.heap.size,0,none⟩) t.length (t.length+k))) (w.drew.alloc (.cells ⟨t.map (λb=>Value.int .u8 b.toNat)++List.replicate k (.int .u8 0)⟩ e (t.length+k,t.length+k+1))):=by
   refine hr ?_
   rw[h1]
   simp only[convert,Sem.run_bind,run_underlying mi,run_underlying hud,run_underlying hue,Result.andThen_ok,Conv.stringToBytes,MP,hk]
   have hc:((t.toArray.map λb=>Value.int .u8 b.toNat)++Array.replicate (t.length+k - t.length) (Value.int .u8 0))=⟨t.map (λb=>Value.int .u8 b.toNat)++List.replicate k (.int .u8 0)⟩:=by
    apply Array.ext'
    simp
   simp only[hc,newRow,Sem.run_bind,run_newObj,Result.andThen_ok,World.alloc_eq,Sem.run_pure,markStringish,run_shape]
   have hsh:(w.drew.alloc (.cells ⟨t.map (λb=>Value.int .u8 b.toNat)++List.replicate k (.int .u8 0)⟩ e)).shape? w.drew.heap.size=some (e,t.length+k):=by
    unfold World.shape?
    rw[Ry]
    simp
   simp only[hsh,run_freeze,Result.andThen_ok]
   rw[tL]
   rfl
  refine Uc ((Tr.drew hs).trans (Tr.alloc hs.drew (.row ⟨e,1,YF t,T.ofList (Gz t),.unk,0,true,true,false⟩) _ ⟨w.heap.size,0,t.length+k,1⟩ rfl ⟨_,_,rfl,?_⟩)) hrun ?_
  ·have hl:(Gz t).length=t.length:=by rw[Df];simp
   have:=Hp (σ:=σ.put H.nx ⟨w.heap.size,0,t.length+k,1⟩) (e:=e) (sz:=1) (tot:=t.length+k) (sm:=true) (exact:=false) (blk:=w.heap.size) (fr:=(t.length+k,t.length+k+1)) (rest:=List.replicate k (.int .u8 0)) (C3 _ t)
    (λv hv=>by
     rcases Zu.1 hv with hv|hv
     ·exact vq t v hv
     ·rw[List.eq_of_mem_replicate hv];rfl) (Zq _) (by rw[hl];omega) (by simp) (λh=>by cases h) (by simp)
   have e1:YF (Gz t)=YF t:=by rw[Yt,Yt,hl]
   rw[e1] at this
   exact this
  ·rw[Yt];exact Rn (l:=⟨w.heap.size,0,t.length+k,1⟩) rfl
 case slice.string e=>
  refine Xr λde hue=>DX λhde=>?_
  subst hde
  refine Ri (λhx=>?_) λb off len cap hx=>Ti (λhn=>?_) λhn=>Sv λr hr'=>Yd λhle=>?_
  ·rw[hx] at h1
   have h1:ρ x=.slice none 0 0:=by simpa only[Yl] using h1
   refine Z8 hs (x:=.string .empty) (hr ?_) (by simp only[Yl];rfl)
   rw[h1,run_convert_bytes_string w s d e none 0 0 mi hue hud]
   simp[Conv.bytesToString]
  ·rw[hx] at h1
   obtain⟨l,hl,e1⟩:=UT h1
   rw[Yx] at hn
   have hn:len=0:=Zp hn
   refine Z8 hs (x:=.string .empty) (hr ?_) (by simp only[Yl];rfl)
   rw[e1,run_convert_bytes_string w s d e _ _ _ mi hue hud,run_bytesToString w _ _ _ [] (by rw[hn];rfl)]
   rfl
  ·rw[hx] at h1
   obtain⟨l,hl,e1⟩:=UT h1
   obtain⟨cs,fr,hc,hrr⟩:=hs.row hr' hl
   rw[Xh] at hle
   have hle:off+len<=r.size:=Zp hle
   obtain⟨vs,h2,h3,h4,h5⟩:=Og hrr len off hle
   refine Ke _ vs h2 λns hns=>?_
   have hload:=Qd (P:=P) hc vs (o:=l.base+off) h4
   rw[h3,hns] at hload
   refine Z8 hs (hr (v:=.string ⟨(ns.map wq).toArray⟩) ?_) (by simp[Yl])
   rw[e1,run_convert_bytes_string w s d e _ _ _ mi hue hud,run_bytesToString w _ _ _ ns hload,FI]
   simp
 case pointer.unsafePointer u=>
  refine X1 λi hi=>Vh (λh3=>?_) λ_=>SZ
  rw[Xh] at h3
  have h3:1<=i.size:=Zp h3
  show Y3 P σ H w _ (zU (YP P x) tm H)
  unfold zU
  split
  ·rename_i hx
   rw[hx] at h1
   have h1:ρ x=.pointer none:=by simpa only[Yl] using h1
   refine Z8 hs (x:=.pointer none) (hr ?_) (by simp[Yl])
   rw[h1]
   simp[convert,run_underlying mi,run_underlying hud,Conv.unsafePointer]
  ·rename_i b off hx
   refine Sv λr hr'=>Yd λhle=>?_
   rw[hx] at h1
   obtain⟨l,hl,e1⟩:=U5 h1
   obtain⟨cs,fr,hc,hrr⟩:=hs.row hr' hl
   rw[Xh] at hle
   have hle:off+1<=r.size:=Zp hle
   have q1:=hrr.fits
   have q2:=hrr.room
   refine Z8 hs (hr ?_) (LN hl)
   rw[e1]
   have hsh:=GZ hc
   simp only[convert,Sem.run_bind,run_underlying mi,run_underlying hud,Result.andThen_ok,Conv.unsafePointer,Conv.seenAt,viewAt,run_shape,hsh,Option.isSome_some,if_true,Sem.run_pure,cellsIn,Ve hi]
   have q3: ¬(l.base+off≥cs.size):=by omega
   have q4: ¬(i.size=0):=by omega
   simp[q3,q4]
  ·trivial
 case unsafePointer.pointer u=>
  refine X1 λi hi=>Vh (λh3=>?_) λ_=>SZ
  rw[Xh] at h3
  have h3:1<=i.size:=Zp h3
  show Y3 P σ H w _ (zT (YP P x) u i.size tm H)
  unfold zT
  split
  ·rename_i hx
   rw[hx] at h1
   have h1:ρ x=.pointer none:=by simpa only[Yl] using h1
   refine Z8 hs (x:=.pointer none) (hr ?_) (by simp[Yl])
   rw[h1]
   simp[convert,run_underlying mi,run_underlying hud,Conv.unsafePointer]
  ·rename_i b off hx
   refine Sv λr hr'=>Yd λhex=>Yd λhel=>Yd λh0=>Yd λhle=>?_
   rw[hx] at h1
   obtain⟨l,hl,e1⟩:=U5 h1
   obtain⟨cs,fr,hc,hrr⟩:=hs.row hr' hl
   rw[Xh] at hle
   rw[Yx] at hel h0
   have hle:i.size<=r.size:=Zp hle
   have hel:r.elem=u:=Zp hel
   have h0:off=0:=Zp h0
   obtain⟨x1,x2,x3⟩:=hrr.exact hex
   refine Z8 hs (hr ?_) (LN hl)
   rw[e1]
   have hsh:=GZ hc
   have q4: ¬(i.size=0):=by omega
   have hcell:P.cellsOf u=i.size:=by simp[Program.cellsOf,hi]
   have hlies:liesAt P P.depth r.elem (cs.size/P.cellsOf r.elem) (l.base+off) u 1=true:=by
    rw[hel,hcell,x2,h0]
    refine qH (by rw[hcell];omega) (by rw[hcell];rfl) ?_
    rw[hcell,Nat.zero_div,Zn,Nat.le_div_iff_mul_le (by omega)];omega
   simp only[convert,Sem.run_bind,run_underlying mi,run_underlying hud,Result.andThen_ok,Conv.unsafePointer,Conv.seenAt,viewAt,run_shape,hsh,Option.isSome_some,if_true,Sem.run_pure,Ve hi,variablesAt,run_program,hlies]
   simp[hlies]
  ·trivial
 case slice.slice e1 e2=>
  refine Vh (λhsd=>Xr λde hue=>DX λhde=>?_) λ_=>SZ
  subst hde
  rw[Yx] at hsd
  have hsd:s=d:=Zp hsd
  refine Ri (λ_=>trivial) λb off len cap hx=>Sv λr hr'=>Yd λN3=>Yd λhfz=>?_
  have h0:=h1
  rw[hx] at h1
  obtain⟨l,hl,e3⟩:=UT h1
  obtain⟨cs,fr,hc,hrr⟩:=hs.row hr' hl
  have zM:r.sm=false∧H.may r b=true:=by
   cases hsm:r.sm with
   |true=>rw[hsm] at N3;cases N3
   |false=>rw[hsm] at N3;exact⟨rfl,N3⟩
  obtain⟨hwr,hown⟩:=Wr.of_may zM.2 hr'
  rw[Yx] at hfz
  have hfz:r.fz=0:=Zp hfz
  have hfr:fr.1=fr.2:=by
   rcases hrr.frs hown zM.1 with h|h
   ·exact h
   ·omega
  have hrun:(execOp ρ o).run P w=.ok (.value (ρ x)) (w.freeze ⟨l.blk,cs.size,none⟩ 1):=by
   refine hr ?_
   rw[e3]
   have ZgL:(s==d)=true:=by simp[hsd]
   have hsh:=GZ hc
   simp only[convert,Sem.run_bind,run_underlying mi,run_underlying hud,run_underlying hue,Result.andThen_ok,ZgL,markStringish,run_shape,hsh,run_freeze,Sem.run_pure]
  have hfz':=pV (n:=cs.size) hc hfr
  refine Uc (Tr.write hs hr' hl hwr hfz'.size hfz'.new hfz'.old ⟨cs,_,rfl,?_⟩ hfz'.tape hfz'.os hfz'.out) hrun (by rw[hx];rw[hx] at h0;exact h0)
  have q1:=hrr.room
  refine⟨hrr.sz,hrr.sz1,hrr.fits,hrr.room,hrr.exact,?_,hrr.one,?_,λ_ h=>by cases h⟩
  ·intro i hi
   exact hrr.cell i hi
  ·intro _ i _ hi
   simp only
   omega
theorem v8{o:Oper}{c:Call}{b:Builtin}(ho:o.op=.call c)(hc:c.callee=.builtin b):
  ∃cs,(execOp ρ o).run P w=(builtin b c.argTypes o.type cs (c.args.map ρ)).run P w:=by
 refine⟨c.args.map λ|.const _=>true|_=>false,?_⟩
 simp only[execOp,ho,resolve,hc,Sem.run_bind,Sem.run_pure,Result.andThen_ok,invoke]
 rfl
theorem TK{o:Oper}{xs:List Operand}{ts:List TypeId}{b:Builtin}(ho:o.op=.call ⟨.builtin b,⟨xs⟩,⟨ts⟩⟩)
  (h: ∀cs,Y3 P σ H w ((builtin b ⟨ts⟩ o.type cs ⟨xs.map ρ⟩).run P w) (mJ P b xs ts tm H)):XD P σ H w tm ρ o:=by
 unfold XD
 obtain⟨cs,h2⟩:=v8 (P:=P) (w:=w) (ρ:=ρ) ho rfl
 rw[h2,ho]
 have h3:=h cs
 have e:Array.map ρ ⟨xs⟩=⟨xs.map ρ⟩:=by simp
 show Y3 P σ H w ((builtin b ⟨ts⟩ o.type cs (Array.map ρ ⟨xs⟩)).run P w) (mJ P b xs ts tm H)
 rw[e];exact h3
theorem Eh{r:Row}{l:Loc}{cs:Array Value}{fr:Nat×Nat}(hr:QO σ r l cs fr)(hex:r.exact=true){o:Nat}(ho:o % l.sz=0):Ta r o none=l.tot - o/l.sz:=by
 show cond (Nat.beq r.sz 1) (r.size - o) ((r.size - o)/r.sz)=_
 obtain⟨h1,_,_⟩:=hr.exact hex
 have h2:=hr.sz
 have h3:=hr.sz1
 have key:(r.size - o)/l.sz=l.tot - o/l.sz:=by
  have hd:=Nat.div_add_mod o l.sz
  rw[ho,Z7] at hd
  have e:r.size - o=(l.tot - o/l.sz)*l.sz:=by rw[Nat.sub_mul,<-h1,Nat.mul_comm (o/l.sz),hd]
  rw[e,Nat.mul_div_cancel _ (by omega)]
 rw[Yx]
 by_cases e:r.sz=1
 ·rw[Zg e]
  have e2:l.sz=1:=by omega
  rw[e2] at key ⊢
  simpa using key
 ·rw[Zd e,<-h2];exact key
theorem PE{b:Nat}{es:Array MapEntry}{c:Nat}(h:w.heap[b]? =some (.map es c)):(getObj b).run P w=.ok (.map es c) w:=by simp[getObj,Sem.run,h]
theorem GX{t:TypeId}{x:Value}{d:TypeDesc}{y:Value}{cs:Array Bool}{ty:TypeId}(hu:P.underlying t=some d)(h:(Builtin.len_ #[t] ty #[x]).run P w=.ok y w):
  (builtin .len ⟨[t]⟩ ty cs ⟨[x]⟩).run P w=.ok (.value y) w:=Vz h
theorem ZbJ(hs:W8 P σ H w)(hρ:Qk P σ tm ρ){o:Oper}{xs:List Operand}{ts:List TypeId}(ho:o.op=.call ⟨.builtin .len,⟨xs⟩,⟨ts⟩⟩):XD P σ H w tm ρ o:=by
 refine TK ho λcs=>?_
 rcases xs with _|⟨x,_|⟨_,_⟩⟩<;>try exact trivial
 rcases ts with _|⟨t,_|⟨_,_⟩⟩<;>try exact trivial
 refine Xr λd hu=>?_
 have g:=hρ x
 cases d<;>try exact trivial
 case string=>
  refine OG λs hx=>Mw ?_
  rw[hx] at g
  have g:=U6 g
  refine Z8 hs (x:=.int .i64 s.length) (GX hu ?_) (by rw[Yt];simp[Yl])
  rw[g]
  simp[Builtin.len_,run_underlying hu,goInt,MP]
 case slice e=>
  refine Ri (λhx=>?_) λb off n c hx=>Mw ?_
  ·rw[hx] at g
   have g:ρ x=.slice none 0 0:=by simpa only[Yl] using g
   refine Z8 hs (x:=.int .i64 0) (GX hu ?_) (by simp[Yl])
   rw[g]
   simp[Builtin.len_,run_underlying hu,goInt]
  ·rw[hx] at g
   obtain⟨l,hl,e1⟩:=UT g
   refine Z8 hs (x:=.int .i64 n) (GX hu ?_) (by simp[Yl])
   rw[e1]
   simp[Builtin.len_,run_underlying hu,goInt]
 case map kt e=>
  refine Gc (λhx=>?_) λb hx=>NV λob Fm=>?_
  ·rw[hx] at g
   have g:ρ x=.map none:=by simpa only[Yl] using g
   refine Z8 hs (x:=.int .i64 0) (GX hu ?_) (by simp[Yl])
   rw[g]
   simp[Builtin.len_,run_underlying hu,goInt]
  ·rw[hx] at g
   have g: ∃l,σ b=some l∧ρ x=.map (some l.blk):=by simpa only[Yl] using g
   obtain⟨l,hl,e1⟩:=g
   cases ob<;>try exact trivial
   case map es clock=>
    obtain⟨c,hc,ho'⟩:=hs.alive b _ l Fm hl
    obtain⟨ents,rfl,hr,_⟩:=ho'
    have hlen:es.length=ents.size:=by
     have: ∀(es:List Q7) (l:List MapEntry),YG σ es l->es.length=l.length:=by
      intro es
      induction es with
      |nil=>intro l h;simp only[YG] at h;subst h;rfl
      |cons a es ih=>intro l h;simp only[YG] at h;obtain⟨e,es',_,h2,rfl⟩:=h;simp[ih _ h2]
     rw[this _ _ hr];simp
    refine Z8 hs (x:=.int .i64 ents.size) (GX hu ?_) (by rw[Yt,hlen];simp[Yl])
    rw[e1]
    simp[Builtin.len_,run_underlying hu,goInt,PE hc]
theorem ZbF(hs:W8 P σ H w)(hρ:Qk P σ tm ρ){o:Oper}{xs:List Operand}{ts:List TypeId}(ho:o.op=.call ⟨.builtin .cap,⟨xs⟩,⟨ts⟩⟩):XD P σ H w tm ρ o:=by
 refine TK ho λcs=>?_
 rcases xs with _|⟨x,_|⟨_,_⟩⟩<;>try exact trivial
 rcases ts with _|⟨t,_|⟨_,_⟩⟩<;>try exact trivial
 refine Xr λd hu=>?_
 have g:=hρ x
 have hr: ∀{y:Value},(Builtin.cap_ #[t] o.type #[ρ x]).run P w=.ok y w->(builtin .cap ⟨[t]⟩ o.type cs ⟨[ρ x]⟩).run P w=.ok (.value y) w:=λh=>Vz h
 cases d<;>try exact trivial
 case slice e=>
  refine Ri (λhx=>?_) λb off n c hx=>?_
  ·rw[hx] at g
   have g:ρ x=.slice none 0 0:=by simpa only[Yl] using g
   refine Z8 hs (x:=.int .i64 0) (hr ?_) (by simp[Yl])
   rw[g]
   simp[Builtin.cap_,run_underlying hu,goInt]
  ·rw[hx] at g
   obtain⟨l,hl,e1⟩:=UT g
   cases c with
   |some c=>
    refine Z8 hs (x:=.int .i64 c) (hr ?_) (by simp[Yl])
    rw[e1]
    simp[Builtin.cap_,run_underlying hu,goInt]
   |none=>
    refine Sv λr hr'=>Yd λhex=>Yd λhmod=>?_
    rw[Yx] at hmod
    have hmod:off % r.sz=0:=Zp hmod
    obtain⟨cs',fr,hc,hrr⟩:=hs.row hr' hl
    refine Z8 hs (x:=.int .i64 (l.tot - off/l.sz:Nat)) (hr ?_) ?_
    ·rw[e1]
     simp[Builtin.cap_,run_underlying hu,goInt]
    ·simp only[Yl]
     congr 1
     have:=Eh hrr hex (o:=off) (by rw[hrr.sz];exact hmod)
     simp[this]
theorem dt(ts:Array TypeId)(t:TypeId)(n c:Nat):Builtin.unsafeSliceData_ ts t #[.slice none n c]=pure (.pointer none):=rfl
theorem ie(ts:Array TypeId)(t:TypeId)(a:Addr)(n c:Nat)(h:c≠0):(Builtin.unsafeSliceData_ ts t #[.slice (some a) n c]).run P w=.ok (.pointer (some a)) w:=by
 show(if c≠0 then pure (Value.pointer (some a)) else _:Sem Value).run P w=_
 rw[if_pos h];rfl
theorem oZ(hs:W8 P σ H w)(hρ:Qk P σ tm ρ){o:Oper}{xs:List Operand}{ts:List TypeId}(ho:o.op=.call ⟨.builtin .unsafeSliceData,⟨xs⟩,⟨ts⟩⟩):XD P σ H w tm ρ o:=by
 refine TK ho λcs=>?_
 rcases xs with _|⟨x,_|⟨_,_⟩⟩<;>try exact trivial
 have g:=hρ x
 refine Ri (λhx=>?_) λb off n c hx=>?_
 ·rw[hx] at g
  have g:ρ x=.slice none 0 0:=by simpa only[Yl] using g
  refine Z8 hs (x:=.pointer none) ?_ (by simp[Yl])
  refine Vz ?_
  show(Builtin.unsafeSliceData_ ⟨ts⟩ o.type #[ρ x]).run P w=_
  rw[g]
  exact congrArg (λs=>s.run P w) (dt _ _ _ _)
 ·rw[hx] at g
  obtain⟨l,hl,e1⟩:=UT g
  have fin:c.getD (l.tot - off/l.sz)≠0->Y3 P σ H w ((builtin .unsafeSliceData ⟨ts⟩ o.type cs ⟨[ρ x]⟩).run P w) (.val (.ptr b off) H):=λh=>by
   refine Z8 hs ?_ (LN hl)
   refine Vz ?_
   show(Builtin.unsafeSliceData_ ⟨ts⟩ o.type #[ρ x]).run P w=_
   rw[e1]
   exact ie _ _ _ _ _ h
  cases c with
  |some c=>
   refine Yd λh=>fin ?_
   rw[Xh] at h
   have h:1<=c:=Zp h
   simp only[Option.getD_some];omega
  |none=>
   refine Sv λr hr'=>Yd λh=>fin ?_
   obtain⟨cs',fr,hc,hrr⟩:=hs.row hr' hl
   rw[Xh] at h
   have h:off+1<=r.size:=Zp h
   have h1:=hrr.fits
   have h2:=hrr.sz1
   simp only[Option.getD_none]
   have:off/l.sz<l.tot:=by rw[Nat.div_lt_iff_lt_mul (by omega)];omega
   omega
def rL(v:AV)(m:Nat):Prop:=(v=.nils∧m=0)∨(∃b o c,v=.slice b o m c)∨ ∃s,v=.str s∧m=s.length
theorem zA{r:Result Next}{v:AV}{k:Nat->OR}(h: ∀m,rL v m->Y3 P σ H w r (k m)):Y3 P σ H w r (vj v k):=by
 unfold vj
 split
 ·exact h 0 (.inl ⟨rfl,rfl⟩)
 ·exact h _ (.inr (.inl ⟨_,_,_,rfl⟩))
 ·rw[Yt];exact h _ (.inr (.inr ⟨_,rfl,rfl⟩))
 ·trivial
theorem ya{v:AV}{m:Nat}{x:Value}(h:rL v m)(hr:Yl σ v x)(w':World):(Builtin.lenOf x).run P w'=.ok m w':=by
 rcases h with⟨rfl,rfl⟩|⟨b,o,c,rfl⟩|⟨s,rfl,rfl⟩
 ·have:x=.slice none 0 0:=by simpa only[Yl] using hr
  rw[this];rfl
 ·obtain⟨l,_,rfl⟩:=UT hr;rfl
 ·rw[U6 hr];simp[Builtin.lenOf,MP]
structure dB(P:Program)(σ:Mp)(w:World)(sz n:Nat)(x:Value)(as:List AV)(vs:List Value):Prop where
 rel:YO σ as vs
 one: ∀u∈vs,u.oneCell'=true
 len:vs.length=n*sz
 run: ∀w':World,w'.heap=w.heap->(Builtin.firstCells sz n x).run P w'=.ok ⟨vs⟩ w'
theorem DT{v:AV}{x:Value}(hx:Yl σ v x){sz m:Nat}(hm:rL v m):dB P σ w sz 0 x [] []:=by
 refine⟨TE,by simp,by simp,λw' _=>?_⟩
 rcases hm with⟨rfl,rfl⟩|⟨b,o,c,rfl⟩|⟨s,rfl,rfl⟩
 ·have:x=.slice none 0 0:=by simpa only[Yl] using hx
  rw[this];rfl
 ·obtain⟨l,_,rfl⟩:=UT hx
  simp only[Builtin.firstCells,UZ];rfl
 ·rw[U6 hx]
  simp[Builtin.firstCells]
theorem Ir{r:Result Next}(hs:W8 P σ H w){v:AV}{x:Value}(hx:Yl σ v x){sz n m:Nat}{k:List AV->OR}(hm:rL v m)(hn:n<=m)
  (h: ∀as vs,dB P σ w sz n x as vs->Y3 P σ H w r (k as)):Y3 P σ H w r (UF H sz v n k):=by
 unfold UF
 refine Ti (λh0=>?_) λ_=>?_
 ·rw[Yx] at h0
  have h0:n=0:=Zp h0
  subst h0
  exact h [] [] (DT hx hm)
 ·rcases hm with⟨rfl,rfl⟩|⟨b,o,c,rfl⟩|⟨s,rfl,rfl⟩
  ·trivial
  ·refine Sv λrr hrr=>Yd λhle=>?_
   rw[Xh] at hle
   have hle:o+n*sz<=rr.size:=Zp hle
   obtain⟨l,hl,rfl⟩:=UT hx
   obtain⟨cs,fr,hc,hrow⟩:=hs.row hrr hl
   obtain⟨vs,h2,h3,h4,h5⟩:=Og hrow (n*sz) o hle
   refine h _ vs ⟨h2,h5,h3,λw' hw=>?_⟩
   have hc':w'.heap[l.blk]? =some (.cells cs rr.elem fr):=by rw[hw];exact hc
   have:=Qd (P:=P) hc' vs (o:=l.base+o) h4
   rw[h3] at this
   exact this
  ·refine Yd λh1=>?_
   rw[Yx] at h1
   have h1:sz=1:=Zp h1
   subst h1
   rw[Mk]
   refine h _ _ ⟨C3 σ _,vq _,by simp;omega,λw' _=>?_⟩
   rw[U6 hx]
   simp only[Builtin.firstCells,Sem.run_pure,Result.ok.injEq,and_true]
   apply Array.ext'
   simp[Vp]
theorem fG(a b:Nat):LE a b=Nat.min a b:=by
 unfold LE
 rw[Xh]
 by_cases h:a<=b
 ·rw[Zg h];exact(Ul h).symm
 ·rw[Zd h];exact(Rp (OB (Nat.lt_of_not_le h))).symm
theorem eg(hs:W8 P σ H w)(hρ:Qk P σ tm ρ){o:Oper}{xs:List Operand}{ts:List TypeId}(ho:o.op=.call ⟨.builtin .copy,⟨xs⟩,⟨ts⟩⟩):XD P σ H w tm ρ o:=by
 refine TK ho λcs=>?_
 rcases xs with _|⟨x,_|⟨y,_|⟨_,_⟩⟩⟩<;>try exact trivial
 rcases ts with _|⟨t,_|⟨t2,_|⟨_,_⟩⟩⟩<;>try exact trivial
 refine Xr λd hu=>Mx λe hd=>X1 λi hi=>zA λsn hsn=>?_
 subst hd
 have g:=hρ x
 have step: ∀(base:Option Addr) (dn cp:Nat) (vs:List Value),ρ x=.slice base dn cp->(Builtin.firstCells i.size (Nat.min dn sn) (ρ y)).run P w=.ok ⟨vs⟩ w->
   (Builtin.copy_ ⟨[t,t2]⟩ o.type ⟨[ρ x,ρ y]⟩).run P w=(do (match base with|some a=>storeCells a vs|none=>pure ());pure (goInt (Nat.min dn sn)):Sem Value).run P w:=by
  intro base dn cp vs e1 hr
  have hl:=ya (P:=P) hsn (hρ y) w
  rw[show Nat.min dn sn=Nat.min sn dn from Pm _ _] at hr ⊢
  simp only[Builtin.copy_,Ww,UD,Y7,Sem.run_bind,run_underlying hu,Result.andThen_ok,e1,hl,Ve hi,hr]
  cases base with
  |none=>rfl
  |some a=>simp
 refine Ri (λhx=>?_) λb off dn c hx=>Mw ?_
 ·rw[hx] at g
  have g:ρ x=.slice none 0 0:=by simpa only[Yl] using g
  refine Z8 hs (x:=.int .i64 0) ?_ (by simp[Yl])
  refine Vz ?_
  refine(step none 0 0 [] g ?_).trans ?_
  ·rw[show Nat.min 0 sn=0 from Nat.zero_min sn]
   exact(DT (w:=w) (hρ y) hsn).run w rfl
  ·rw[show Nat.min 0 sn=0 from Nat.zero_min sn];rfl
 ·rw[fG]
  have hmin:Nat.min dn sn<=sn:=Nat.min_le_right _ _
  rw[hx] at g
  obtain⟨l,hl,e1⟩:=UT g
  refine Ir hs (hρ y) hsn hmin λas vs hf=>Ti (λh0=>?_) λh0=>Sv λr hr=>Yd λN3=>Yd λhfz=>Yd λhle=>?_
  ·rw[Yx] at h0
   have h0:Nat.min dn sn=0:=Zp h0
   have hv:vs=[]:=by have:=hf.len;rw[h0,UZ] at this;exact We.1 this
   refine Z8 hs (x:=.int .i64 0) ?_ (by simp[Yl])
   refine Vz ?_
   refine(step _ _ _ vs e1 (hf.run w rfl)).trans ?_
   rw[hv,h0]
   simp[goInt,storeCells]
  ·rw[Xh] at hfz hle
   have hfz:r.fz<=off:=Zp hfz
   have hle:off+Nat.min dn sn*i.size<=r.size:=Zp hle
   obtain⟨w',hrun,htr⟩:=F3 hs hr hl N3 hf.rel hf.one (o:=off) (by rw[hf.len];exact hle) hfz
   refine Uc htr (x:=.int .i64 (Nat.min dn sn:Nat)) ?_ (by simp[Yl])
   refine Vz ?_
   refine(step _ _ _ vs e1 (hf.run w rfl)).trans ?_
   simp[hrun,goInt]
def app(e:TypeId)(i:TypeInfo)(z:Value)(base:Option Addr)(sLen sCap n:Nat)(news:Sem (Array Value)):Sem Value:=
 if sLen+n<=sCap then do
  let new<-news
  if let some a:=base then storeCells (a.add (sLen*i.size)) new.toList
  pure (.slice base (sLen+n) sCap)
 else do
  let newCap<-choose (.appendCap (sLen+n) sCap e)
  let old<-Builtin.firstCells i.size sLen (.slice base sLen sCap)
  let new<-news
  let a<-newRow e (old++new++Builtin.zeroCells z.cells (newCap - (sLen+n)))
  pure (.slice (some a) (sLen+n) newCap)
def qO(i:TypeInfo)(z:Value)(n:Nat):Sem (Array Value):=if n*i.size=0 then pure #[] else pure (Builtin.zeroCells z.cells n)
theorem eT{t u ty e:TypeId}{i:TypeInfo}{z x:Value}{d:TypeDesc}(ht:P.underlying t=some (.slice e))(hu:P.underlying u=some d)(hd: ∀k,d≠.int k)(hi:P.info? e=some i)(hz:i.zero=some z)
  {base:Option Addr}{sLen sCap n:Nat}(hn:(Builtin.lenOf x).run P w=.ok n w)(hb:1<=i.bytes)(hfit:(sLen+n)*i.bytes<=140737488355328∨sLen+n<=sCap):
  (Builtin.append_ ⟨[t,u]⟩ ty ⟨[.slice base sLen sCap,x]⟩).run P w=(app e i z base sLen sCap n (Builtin.firstCells i.size n x)).run P w:=by
 unfold app
 simp only[Builtin.append_,Sem.run_bind,Ww,UD,Y7,run_underlying ht,run_underlying hu,Result.andThen_ok,Ve hi,Sem.run_pure,XA,if_false,hn,Wa,if_true]
 by_cases h:sLen+n<=sCap
 ·rw[if_pos h,if_pos h]
  simp only[Sem.run_bind]
  congr 1
 ·rw[if_neg h,if_neg h]
  have h5:sLen+n<=140737488355328:=by
   rcases hfit with h1|h1
   ·exact YN (RS _ hb) h1
   ·exact absurd h1 h
  have h3:Builtin.nextslicecap (sLen+n) sCap*i.bytes<=281474976710656:=growslice_fits (Nat.lt_of_not_le h) (by rcases hfit with h1|h1;exact h1;exact absurd h1 h)
  have h4: ¬(Builtin.nextslicecap (sLen+n) sCap*i.bytes>2^48):=Nat.not_lt.2 h3
  have h6: ¬(((sLen+n:Nat):Int)>IntKind.i64.max∧(False∨i.bytes=0)):=λq=>by
   rcases q.2 with q|q
   ·exact q
   ·rw[q] at hb;exact absurd hb (by decide)
  have hti: ∀w':World,(typeInfo e).run P w'=.ok i w':=λw'=>by simp[typeInfo,hi]
  have hzv: ∀w':World,(zeroValue e).run P w'=.ok z w':=λw'=>S3 hi hz
  simp only[Sem.run_bind,hti,hzv,run_askRoom,Result.andThen_ok,if_neg h6,if_neg h4,Sem.run_pure]
theorem jE{t u ty e:TypeId}{i:TypeInfo}{z:Value}{k k':IntKind}(ht:P.underlying t=some (.slice e))(hu:P.underlying u=some (.int k))(hi:P.info? e=some i)(hz:i.zero=some z)
  {base:Option Addr}{sLen sCap n:Nat}(hb:1<=i.bytes)(hn:n*i.bytes<=140737488355328)(hfit:(sLen+n)*i.bytes<=140737488355328∨sLen+n<=sCap):
  (Builtin.append_ ⟨[t,u]⟩ ty ⟨[.slice base sLen sCap,.int k' (n:Nat)]⟩).run P w=(app e i z base sLen sCap n (qO i z n)).run P w:=by
 unfold app qO
 have hn1:n<=140737488355328:=YN (RS _ hb) hn
 have hw:IntKind.i64.wrap (n:Int)=n:=by
  exact Ec (by omega) (by omega)
 have hti: ∀w':World,(typeInfo e).run P w'=.ok i w':=λw'=>by simp[typeInfo,hi]
 have hzv: ∀w':World,(zeroValue e).run P w'=.ok z w':=λw'=>S3 hi hz
 have q1: ¬((n:Int)<0):=by omega
 have q2: ¬((n:Int)*(i.bytes:Int)>2^48):=by
  have h7:((n*i.bytes:Nat):Int)<=((140737488355328:Nat):Int):=Int.ofNat_le.2 hn
  rw[Int.natCast_mul] at h7
  have h8:(2:Int)^48=281474976710656:=by decide
  rw[h8]
  omega
 simp only[Builtin.append_,Sem.run_bind,Ww,UD,Y7,run_underlying ht,run_underlying hu,Result.andThen_ok,Ve hi,Sem.run_pure,if_true,asInt,asIntOf,hw,if_neg q1,hti,if_neg q2,VO,Wi,XA,if_false]
 by_cases h:sLen+n<=sCap
 ·rw[if_pos h,if_pos h]
  simp only[Sem.run_bind]
  by_cases h0:n*i.size=0
  ·rw[if_pos h0,if_pos h0]
   cases base<;>rfl
  ·rw[if_neg h0,if_neg h0]
   simp only[Sem.run_bind,hzv,Result.andThen_ok,Sem.run_pure]
   cases base<;>rfl
 ·rw[if_neg h,if_neg h]
  have h5:sLen+n<=140737488355328:=by
   rcases hfit with h1|h1
   ·exact YN (RS _ hb) h1
   ·exact absurd h1 h
  have h3:Builtin.nextslicecap (sLen+n) sCap*i.bytes<=281474976710656:=growslice_fits (Nat.lt_of_not_le h) (by rcases hfit with h1|h1;exact h1;exact absurd h1 h)
  have h4: ¬(Builtin.nextslicecap (sLen+n) sCap*i.bytes>2^48):=Nat.not_lt.2 h3
  have h6: ¬(((sLen+n:Nat):Int)>IntKind.i64.max∧(True∨i.bytes=0)):=λq=>by
   have h7:=q.1
   have h8:IntKind.i64.max=9223372036854775807:=by decide
   rw[h8] at h7
   omega
  by_cases h0:n*i.size=0
  ·simp only[Sem.run_bind,hti,hzv,run_askRoom,Result.andThen_ok,if_neg h6,if_neg h4,Sem.run_pure,if_pos h0]
  ·simp only[Sem.run_bind,hti,hzv,run_askRoom,Result.andThen_ok,if_neg h6,if_neg h4,Sem.run_pure,if_neg h0]
theorem Tr.del(hs:W8 P σ H w){b:Nat}{lb:Loc}(hlb:σ b=some lb)(hb:H.ro<=b):Tr P σ H w σ ⟨H.nx,H.t.del b,H.ro⟩ w:=by
 have g: ∀c o,(H.t.del b).get c=some o->H.t.get c=some o:=by
  intro c o h
  rw[T.get_del] at h
  by_cases e:b=c
  ·rw[if_pos e] at h;cases h
  ·rw[if_neg e] at h;exact h
 refine⟨Ext.refl σ,⟨hs.dom,λc o h=>hs.low c o (g c o h),λc o l h hl=>hs.alive c o l (g c o h) hl,λc c' o o' l l' h h'=>hs.inj c c' o o' l l' (g _ _ h) (g _ _ h'),hs.glob,hs.ro⟩,Zq _,λ_ _ _=>rfl,?_,Zq _,rfl,?_,rfl,rfl,rfl,λc _ hn=>⟨by show(H.t.del b).get c=H.t.get c;rw[T.get_del,if_neg (λe=>by subst e;rw[hlb] at hn;cases hn)],hn⟩⟩
 ·intro c l hw hl _
  obtain⟨h1,o,h2,h3⟩:=hw
  exact⟨c,l,⟨h1,o,g c o h2,h3⟩,hl,rfl⟩
 ·intro c hc
  show(H.t.del b).get c=H.t.get c
  have hc:c<H.ro:=hc
  rw[T.get_del,if_neg (by omega)]
theorem Tr.move{w':World}(h:W8 P σ H w){b:Nat}{o o':Obj}{l:Loc}{c':Go.Obj}
  (hb:H.t.get b=some o)(hl:σ b=some l)(hw:Wr H b)
  (hsize:w'.heap.size=w.heap.size)(hnew:w'.heap[l.blk]? =some c')(hold: ∀k,k≠l.blk->w'.heap[k]? =w.heap[k]?)
  (ho:Tk (σ.put H.nx l) o' l c')(ht:w'.tape=w.tape)(hos:w'.os=w.os)(hout:w'.output=w.output):
  Tr P σ H w (σ.put H.nx l) ⟨Nat.succ H.nx,(H.t.del b).set H.nx o',H.ro⟩ w':=by
 have hlt:b<H.nx:=h.dom b l hl
 have hro:=h.ro
 have CM:Ext σ (σ.put H.nx l):=Mp.put_ext l (h.fresh (Zq _))
 have get: ∀c x,((H.t.del b).set H.nx o').get c=some x->(c=H.nx∧x=o')∨(c≠H.nx∧c≠b∧H.t.get c=some x):=by
  intro c x hx
  rw[T.get_set] at hx
  by_cases e:H.nx=c
  ·rw[if_pos e] at hx;cases hx;exact .inl ⟨e.symm,rfl⟩
  ·rw[if_neg e,T.get_del] at hx
   by_cases e2:b=c
   ·rw[if_pos e2] at hx;cases hx
   ·rw[if_neg e2] at hx;exact .inr ⟨λz=>e z.symm,λz=>e2 z.symm,hx⟩
 refine⟨CM,⟨?_,?_,?_,?_,?_,?_⟩,by omega,?_,?_,Uv _,rfl,?_,ht,hos,hout,λc hc hn=>⟨by show((H.t.del b).set H.nx o').get c=H.t.get c;rw[T.get_set,if_neg (by omega),T.get_del,if_neg (λe=>by subst e;rw[hl] at hn;cases hn)],by unfold Mp.put;rw[if_neg (by omega)];exact hn⟩⟩
 ·intro c m hm
  show c<H.nx+1
  unfold Mp.put at hm
  by_cases e:c=H.nx
  ·omega
  ·rw[if_neg e] at hm;have:=h.dom c m hm;omega
 ·intro c x hx
  show c<H.nx+1
  rcases get c x hx with⟨rfl,_⟩|⟨h1,h2,h3⟩
  ·omega
  ·have:=h.low c x h3;omega
 ·intro c x l1 hx hl1
  rcases get c x hx with⟨rfl,rfl⟩|⟨h1,h2,h3⟩
  ·rw[Mp.put_same] at hl1;cases hl1
   exact⟨c',hnew,ho⟩
  ·rw[Mp.put_old h1] at hl1
   obtain⟨c1,hc1,hr⟩:=h.alive c x l1 h3 hl1
   refine⟨c1,?_,hr.mono CM⟩
   rw[hold l1.blk ?_];exact hc1
   intro e
   exact h2 (h.alone h3 hb hl1 hl e λs=>hw.hard hb s.2)
 ·intro c1 c2 x1 x2 l1 l2 h1 h2 k1 k2 e
  rcases get c1 x1 h1 with⟨rfl,rfl⟩|⟨p1,p2,p3⟩<;>rcases get c2 x2 h2 with⟨q0,rfl⟩|⟨q1,q2,q3⟩
  ·exact .inl q0.symm
  ·exfalso
   rw[Mp.put_same] at k1;cases k1
   rw[Mp.put_old q1] at k2
   exact q2 (h.alone q3 hb k2 hl e.symm λs=>hw.hard hb s.2)
  ·exfalso
   rw[q0,Mp.put_same] at k2;cases k2
   rw[Mp.put_old p1] at k1
   exact p2 (h.alone p3 hb k1 hl e λs=>hw.hard hb s.2)
  ·rw[Mp.put_old p1] at k1
   rw[Mp.put_old q1] at k2
   exact h.inj c1 c2 x1 x2 l1 l2 p3 q3 k1 k2 e
 ·intro g hg
  obtain⟨lg,h1,h2⟩:=h.glob g hg
  exact⟨lg,CM g lg h1,h2⟩
 ·show H.ro<=H.nx+1;omega
 ·intro k hk hn
  exact hold k λe=>hn b l hw hl e.symm
 ·intro c m hwc hlc hlt'
  obtain⟨r1,x,r2,r3⟩:=hwc
  rcases get c x r2 with⟨rfl,rfl⟩|⟨p1,p2,p3⟩
  ·rw[Mp.put_same] at hlc;cases hlc
   exact⟨b,l,hw,hl,rfl⟩
  ·rw[Mp.put_old p1] at hlc
   exact⟨c,m,⟨r1,x,p3,r3⟩,hlc,rfl⟩
 ·intro c hc
  have hc:c<H.ro:=hc
  show((H.t.del b).set H.nx o').get c=H.t.get c
  rw[T.get_set,if_neg (by omega),T.get_del,if_neg (by have:=hw.1;omega)]
theorem M2{z:Array Value}(hone: ∀v∈z.toList,v.oneCell'=true)(k:Nat):(Builtin.zeroCells z k).size=k*z.size∧ ∀v∈(Builtin.zeroCells z k).toList,v.oneCell'=true:=by
 constructor
 ·simp[Builtin.zeroCells]
 ·intro v hv
  simp only[Builtin.zeroCells,Qm,Array.toList_range,Wx,List.mem_range] at hv
  obtain⟨i,hi,rfl⟩:=hv
  have hz:0<z.size:=by
   rcases Nat.eq_zero_or_pos z.size with h|h
   ·rw[h,Nat.mul_zero] at hi;omega
   ·exact h
  rw[getElem!_pos z _ (T5 _ hz)]
  exact hone _ (Array.getElem_mem_toList _)
theorem yG{e:TypeId}{i:TypeInfo}{z:Value}{base:Option Addr}{sLen sCap n:Nat}{news:Sem (Array Value)}{vo vn:List Value}
  (hone: ∀v∈z.cells.toList,v.oneCell'=true)(hg: ¬(sLen+n<=sCap))
  (ho: ∀w':World,w'.heap=w.heap->(Builtin.firstCells i.size sLen (.slice base sLen sCap)).run P w'=.ok ⟨vo⟩ w')(hn: ∀w':World,w'.heap=w.heap->news.run P w'=.ok ⟨vn⟩ w'):
  ∃k rest,(app e i z base sLen sCap n news).run P w=.ok (.slice (some ⟨w.heap.size,0,none⟩) (sLen+n) (sLen+n+k)) (w.drew.alloc (.cells ⟨(vo++vn)++rest⟩ e))∧
   rest.length=k*z.cells.size∧ ∀v∈rest,v.oneCell'=true:=by
 obtain⟨k,hk⟩:=IZ (P:=P) (sLen+n) sCap e w
 obtain⟨h1,h2⟩:=M2 hone k
 refine⟨k,(Builtin.zeroCells z.cells k).toList,?_,by simpa using h1,h2⟩
 unfold app
 rw[if_neg hg]
 simp only[Sem.run_bind,hk,Result.andThen_ok,ho w.drew rfl,hn w.drew rfl,UE,newRow,run_newObj,Sem.run_pure,World.alloc_eq]
 congr 3
 have e1:(⟨vo⟩:Array Value)++⟨vn⟩++Builtin.zeroCells z.cells k=⟨(vo++vn)++(Builtin.zeroCells z.cells k).toList⟩:=by
  apply Array.ext'
  simp
 rw[e1]
theorem Et{r:Result Next}(hs:W8 P σ H w){e sz need k:Nat}{as:List AV}{vs rest:List Value}(hr:r=.ok (.value (.slice (some ⟨w.heap.size,0,none⟩) need (need+k))) (w.drew.alloc (.cells ⟨vs++rest⟩ e)))
  (hrel:YO σ as vs)(hone: ∀v∈vs,v.oneCell'=true)(hrest: ∀v∈rest,v.oneCell'=true)(hsz:1<=sz)(hlen:vs.length=need*sz)(hrl:rest.length=k*sz):
  Y3 P σ H w r (.val (.slice H.nx 0 need none) (H.newRow e sz as false)):=by
 have hl:=hrel.length
 refine Uc ((Tr.drew hs).trans (Tr.alloc hs.drew _ _ ⟨w.heap.size,0,need+k,sz⟩ rfl ⟨_,(0,0),rfl,?_⟩)) hr (Rn (l:=⟨w.heap.size,0,need+k,sz⟩) rfl)
 refine Hp (hrel.mono (Mp.put_ext _ (hs.drew.fresh (Zq _)))) (λv hv=>?_) hsz ?_ ?_ (λh=>by cases h) rfl
 ·rcases Zu.1 hv with hv|hv
  ·exact hone v hv
  ·exact hrest v hv
 ·rw[hl,hlen,Vr];omega
 ·rw[Zo,hlen,hrl,Vr];omega
theorem Qs(r:Row): ∀(n o j:Nat),j<n->(loadN r o n)[j]? =some (r.get (o+j))
 |0,o,j,h=>by omega
 |n+1,o,0,_=>rfl
 |n+1,o,j+1,h=>by
  show(loadN r (o+1) n)[j]? =_
  rw[Qs r n (o+1) j (by omega)]
  congr 2;omega
theorem rh(r:Row)(sz size o:Nat)(as:List AV){j:Nat}(hj:j<o+as.length):
  (j<o∧(⟨r.elem,sz,size,YV r.cells o as,r.dflt,r.fz,r.sm,true,false⟩:Row).get j=r.get j)∨
  (∃a,o<=j∧as[j - o]? =some a∧(⟨r.elem,sz,size,YV r.cells o as,r.dflt,r.fz,r.sm,true,false⟩:Row).get j=a):=by
 by_cases h:j<o
 ·refine .inl ⟨h,?_⟩
  rw[Row.get_eq,Row.get_eq]
  show((YV r.cells o as).get j).getD r.dflt=_
  rw[Oq,if_neg (by omega)]
 ·refine .inr ⟨as[j - o]'(by omega),by omega,Zr (by omega),?_⟩
  rw[Row.get_eq]
  show((YV r.cells o as).get j).getD r.dflt=_
  rw[Oq,if_pos (by omega),Zr (by omega)]
  rfl
structure Zcx(P:Program)(σ:Mp)(w:World)(sz n:Nat)(news:Sem (Array Value))(as:List AV)(vs:List Value):Prop where
 rel:YO σ as vs
 one: ∀u∈vs,u.oneCell'=true
 len:vs.length=n*sz
 run: ∀w':World,w'.heap=w.heap->news.run P w'=.ok ⟨vs⟩ w'
theorem pZ(hs:W8 P σ H w){va:AV}{x:Value}(g:Yl σ va x){e n:Nat}{i:TypeInfo}{z:Value}{news:Sem (Array Value)}{as:List AV}{vs:List Value}{q:Result Next}
  (hsz:1<=i.size)(Iy: ∀v∈z.cells.toList,v.oneCell'=true)(Ki:z.cells.size=i.size)(hf:Zcx P σ w i.size n news as vs)
  (run: ∀{base:Option Addr} {sLen sCap:Nat} {v:Value} {w':World},x=.slice base sLen sCap->((sLen+n)*i.bytes<=140737488355328∨sLen+n<=sCap)->(app e i z base sLen sCap n news).run P w=.ok v w'->q=.ok (.value v) w'):
  Y3 P σ H w q (HM va e i.size i.bytes H n as):=by
 refine Ri (λhx=>?_) λb off len cap hx=>?_
 ·rw[hx] at g
  have g:x=.slice none 0 0:=by simpa only[Yl] using g
  refine Ti (λh0=>?_) λh0=>Yd λhfit=>?_
  ·rw[Yx] at h0
   have h0:n=0:=Zp h0
   subst h0
   refine Z8 hs (x:=.slice none 0 0) (run g (.inr (Zq _)) ?_) (by simp[Yl])
   simp[app,hf.run w rfl]
  ·rw[Yx] at h0
   rw[Xh] at hfit
   have h0:n≠0:=of_decide_eq_false h0
   have hfit:n*i.bytes<=140737488355328:=Zp hfit
   obtain⟨k,rest,k1,k2,k3⟩:=yG (P:=P) (w:=w) (e:=e) (i:=i) (z:=z) (base:=none) (sLen:=0) (sCap:=0) (n:=n) (vo:=[]) (vn:=vs) Iy (by omega) (λw' _=>by rfl) hf.run
   rw[Zn] at k1
   exact Et hs (run g (.inl (by rw[Zn];exact hfit)) k1) hf.rel hf.one k3 hsz hf.len (by rw[k2,Ki])
 ·rw[hx] at g
  have g0:=g
  obtain⟨l,hl,e1⟩:=UT g
  refine Sv λr hr=>Yd λZd2=>?_
  obtain⟨cs',fr,hc,hrr⟩:=hs.row hr hl
  have hcap:=DE hrr off cap
  refine Ti (λhin=>?_) λhout=>?_
  ·rw[Xh] at hin
   have hin:len+n<=Ta r off cap:=Zp hin
   have hin':len+n<=cap.getD (l.tot - off/l.sz):=YN hin hcap
   refine Ti (λh0=>?_) λh0=>Yd λN3=>Yd λhle=>Yd λhfz=>?_
   ·rw[Yx] at h0
    have h0:n=0:=Zp h0
    subst h0
    have hv:vs=[]:=by have:=hf.len;rw[UZ] at this;exact We.1 this
    refine Z8 hs (x:=x) (run e1 (.inr hin') ?_) (by rw[hx];exact g0)
    simp only[app,if_pos hin',Sem.run_bind,hf.run w rfl,Result.andThen_ok,hv]
    rw[e1]
    simp[storeCells]
   ·rw[Xh] at hle hfz
    have hle:off+(len+n)*i.size<=r.size:=Zp hle
    have hfz:r.fz<=off+len*i.size:=Zp hfz
    obtain⟨w',hrun,htr⟩:=F3 hs hr hl N3 hf.rel hf.one (o:=off+len*i.size) (by rw[hf.len];rw[Vr] at hle;omega) hfz
    refine Uc htr (run e1 (.inr hin') ?_) (Qb hl)
    simp only[app,if_pos hin',Sem.run_bind,hf.run w rfl,Result.andThen_ok,QC]
    rw[UY,hrun]
    rfl
  ·rw[Xh] at hout
   have hout: ¬(len+n<=Ta r off cap):=of_decide_eq_false hout
   refine Yd λhfit=>Yd λhle=>?_
   rw[Xh] at hfit hle
   have hfit:(len+n)*i.bytes<=140737488355328:=Zp hfit
   have hle:off+len*i.size<=r.size:=Zp hle
   obtain⟨vo,o2,o3,o4,o5⟩:=Og hrr (len*i.size) off hle
   have hfo: ∀c,∀w':World,w'.heap=w.heap->(Builtin.firstCells i.size len (.slice (some ⟨l.blk,l.base+off,none⟩) len c)).run P w'=.ok ⟨vo⟩ w':=by
    intro c w' hw
    have hc':w'.heap[l.blk]? =some (.cells cs' r.elem fr):=by rw[hw];exact hc
    have:=Qd (P:=P) hc' vo (o:=l.base+off) o4
    rw[o3] at this
    exact this
   have grown: ¬(len+n<=cap.getD (l.tot - off/l.sz))->Y3 P σ H w q (.val (.slice H.nx 0 (len+n) none) (H.newRow e i.size (loadN r off (len*i.size)++as) false)):=by
    intro hg
    obtain⟨k,rest,k1,k2,k3⟩:=yG (P:=P) (w:=w) (e:=e) (i:=i) (z:=z) Iy hg (hfo _) hf.run
    refine Et hs (run e1 (.inl hfit) k1) (o2.append hf.rel) (λv hv=>?_) k3 hsz (by rw[Zo,o3,hf.len,Vr]) (by rw[k2,Ki])
    rcases Zu.1 hv with hv|hv
    ·exact o5 v hv
    ·exact hf.one v hv
   cases cap with
   |some c=>exact grown hout
   |none=>
    have Zd3:r.sz=i.size:=by
     have:Nat.beq r.sz i.size=true:=Zd2
     rw[Yx] at this
     exact Zp this
    refine Ti (λhex=>Yd λhmod=>?_) λhex=>?_
    ·rw[Yx] at hmod
     have hmod:off % i.size=0:=Zp hmod
     refine grown ?_
     rw[Eh hrr hex (by rw[hrr.sz,Zd3];exact hmod)] at hout
     exact hout
    ·refine Yd λhel=>Yd λN3=>Yd λhfz=>Yd λhsize=>Yd λh0=>?_
     rw[Yx] at hel hsize h0
     rw[Xh] at hfz
     have hel:r.elem=e:=Zp hel
     have hsize:len*i.size=r.size:=Zp hsize
     have h0:off=0:=Zp h0
     have hfz:r.fz<=len*i.size:=Zp hfz
     subst h0
     obtain⟨hwr,hown⟩:=Wr.of_may N3 hr
     have gP:l.sz=i.size:=by rw[hrr.sz,Zd3]
     have hal:as.length=n*i.size:=by rw[hf.rel.length];exact hf.len
     have hvl:=hf.len
     have hsum:(len+n)*i.size=len*i.size+n*i.size:=Vr _ _ _
     have hcell:=λj (hj:j<len*i.size+as.length)=>rh r i.size ((len+n)*i.size) (len*i.size) as hj
     by_cases hin:len+n<=l.tot
     ·have hin':len+n<=(none:Option Nat).getD (l.tot - 0/l.sz):=by rw[Nat.zero_div];exact hin
      have hmul:(len+n)*i.size<=l.tot*i.size:=Rf _ hin
      have q1:=hrr.room
      rw[gP] at q1
      obtain⟨w',hrun,hw⟩:=Ni (P:=P) (o:=l.base+len*i.size) vs 0 w cs' hc (by omega) hf.one (λj hj=>by
       have:=hrr.frz hown (len*i.size+j) (by omega) (by rw[gP];omega)
       rwa [show l.base+len*i.size+0+j=l.base+(len*i.size+j) by omega])
      refine Uc (Tr.move hs hr hl hwr hw.size hw.new hw.old ⟨_,fr,rfl,?_⟩ hw.tape hw.os hw.out) (run e1 (.inr hin') ?_) (by simp only[Yl];exact⟨l,Mp.put_same _ _ _,rfl⟩)
      ·have ext:=Mp.put_ext l (hs.fresh (Zq H.nx))
       refine⟨gP,by omega,by rw[gP];exact hmul,by rw[Oz];exact hrr.room,(λh=>by cases h),?_,?_,λ_=>hrr.frz hown,λ_=>hrr.frs hown⟩
       ·intro j hj
        have hj:j<(len+n)*i.size:=hj
        show ∃v,_∧Yl _ ((⟨r.elem,i.size,(len+n)*i.size,YV r.cells (len*i.size) as,r.dflt,r.fz,r.sm,true,false⟩:Row).get j) v
        rw[PM _ _ _ _ (by omega)]
        rcases hcell j (by omega) with⟨h1,h2⟩|⟨a,h1,h2,h3⟩
        ·rw[h2,if_neg (by omega)]
         obtain⟨v,hv,hrel⟩:=hrr.cell j (by omega)
         exact⟨v,hv,hrel.mono ext⟩
        ·obtain⟨v,hv,hrel⟩:=hf.rel.get h2
         rw[h3,if_pos (by omega)]
         refine⟨v,?_,hrel.mono ext⟩
         rw[show l.base+j - (l.base+len*i.size+0)=j - len*i.size by omega];exact hv
       ·intro j v hj hv
        have hj:j<(len+n)*i.size:=hj
        rw[PM _ _ _ _ (by omega)] at hv
        split at hv
        ·exact hf.one v (UO hv)
        ·exact hrr.one j v (by omega) hv
      ·simp only[app,if_pos hin',Sem.run_bind,hf.run w rfl,Result.andThen_ok,QC]
       rw[Z7,hrun]
       rfl
     ·have hg: ¬(len+n<=(none:Option Nat).getD (l.tot - 0/l.sz)):=by rw[Nat.zero_div];exact hin
      obtain⟨k,rest,k1,k2,k3⟩:=yG (P:=P) (w:=w) (e:=e) (i:=i) (z:=z) Iy hg (hfo _) hf.run
      have td:=Tr.del (P:=P) (b:=b) hs.drew hl hwr.1
      refine Uc (((Tr.drew hs).trans td).trans (Tr.alloc td.sim (.row ⟨r.elem,i.size,(len+n)*i.size,YV r.cells (len*i.size) as,r.dflt,r.fz,r.sm,true,false⟩) _ ⟨w.heap.size,0,len+n+k,i.size⟩ rfl ⟨_,(0,0),by rw[hel],?_⟩)) (run e1 (.inl hfit) k1) (Rn (l:=⟨w.heap.size,0,len+n+k,i.size⟩) rfl)
      have ext:=Mp.put_ext ⟨w.heap.size,0,len+n+k,i.size⟩ (hs.fresh (Zq H.nx))
      rw[Ki] at k2
      have bC:(len+n+k)*i.size=(len+n)*i.size+k*i.size:=Vr _ _ _
      refine⟨rfl,hsz,by rw[bC];exact Nat.le_add_right _ _,?_,(λh=>by cases h),?_,?_,?_,λ_ _=>.inl rfl⟩
      ·simp only[List.size_toArray,Zo,o3,hvl,k2]
       rw[bC];omega
      ·intro j hj
       have hj:j<(len+n)*i.size:=hj
       simp only[Zn,Ww]
       rcases hcell j (by omega) with⟨h1,h2⟩|⟨a,h1,h2,h3⟩
       ·rw[h2]
        obtain⟨v,hv,hrel⟩:=o2.get (Qs r (len*i.size) 0 j h1)
        rw[Zn] at hrel
        refine⟨v,?_,hrel.mono ext⟩
        rw[Yz (by rw[Zo];omega),Yz (by omega)]
        exact hv
       ·obtain⟨v,hv,hrel⟩:=hf.rel.get h2
        rw[h3]
        refine⟨v,?_,hrel.mono ext⟩
        rw[Yz (by rw[Zo];omega),ZY (by omega),o3]
        exact hv
      ·intro j v _ hv
       simp only[Zn,Ww] at hv
       have:=UO hv
       rcases Zu.1 this with h|h
       ·rcases Zu.1 h with h|h
        ·exact o5 v h
        ·exact hf.one v h
       ·exact k3 v h
      ·intro _ j _ _
       simp only;omega
theorem oT(hs:W8 P σ H w)(hρ:Qk P σ tm ρ){o:Oper}{xs:List Operand}{ts:List TypeId}(ho:o.op=.call ⟨.builtin .append,⟨xs⟩,⟨ts⟩⟩):XD P σ H w tm ρ o:=by
 refine TK ho λcs=>?_
 rcases xs with _|⟨x,_|⟨y,_|⟨_,_⟩⟩⟩<;>try exact trivial
 rcases ts with _|⟨t,_|⟨t2,_|⟨_,_⟩⟩⟩<;>try exact trivial
 refine Xr λd hu=>Mx λe hd=>X1 λi hi=>U0 λz hz=>Vh (λhzl=>Xr λd2 hu2=>?_) λ_=>SZ
 subst hd
 have happ: ∀{n:Nat} {news:Sem (Array Value)} {as:List AV} {vs:List Value} (_:1<=i.size) (hf:Zcx P σ w i.size n news as vs)
   (h: ∀{base:Option Addr} {sLen sCap:Nat},ρ x=.slice base sLen sCap->((sLen+n)*i.bytes<=140737488355328∨sLen+n<=sCap)->(Builtin.append_ ⟨[t,t2]⟩ o.type ⟨[.slice base sLen sCap,ρ y]⟩).run P w=(app e i z base sLen sCap n news).run P w),
   Y3 P σ H w ((builtin .append ⟨[t,t2]⟩ o.type cs ⟨[ρ x,ρ y]⟩).run P w) (HM (YP P x tm) e i.size i.bytes H n as):=by
  intro n news as vs hsz hf h
  rw[Yx,Yt] at hzl
  have hzl:(Vm z).cells.length=i.size:=Zp hzl
  obtain⟨hzr,Iy⟩:=RZ (σ:=σ) z (by omega)
  have Ki:z.cells.size=i.size:=by rw[<-hzl,hzr.length];simp
  refine pZ hs (hρ x) hsz Iy Ki hf λ{base sLen sCap v w'} e1 e2 e3=>Vz ?_
  rw[e1]
  exact(h e1 e2).trans e3
 have hd2:(∃k,d2=.int k)∨ ∀k,d2≠.int k:=by
  cases d2<;>first
   |exact .inl ⟨_,rfl⟩
   |exact .inr (λk h=>by cases h)
 rcases hd2 with⟨k,rfl⟩|hd2
 ·refine Yd λhsz=>Yd λhb=>Rr λk' n hy=>Yd λhn=>?_
  rw[Xh] at hsz hb hn
  have hsz:1<=i.size:=Zp hsz
  have hb:1<=i.bytes:=Zp hb
  have hn:n*i.bytes<=140737488355328:=Zp hn
  have hy2:ρ y=.int k' (n:Nat):=by
   have:=hρ y
   rw[hy] at this
   have this:ρ y=.int k' (Int.ofNat n):=by simpa only[Yl] using this
   rw[this];rfl
  rw[Yx,Yt] at hzl
  have Zd8:(Vm z).cells.length=i.size:=Zp hzl
  obtain⟨hzr,Iy⟩:=RZ (σ:=σ) z (by omega)
  have Ki:z.cells.size=i.size:=by rw[<-Zd8,hzr.length];simp
  refine happ (vs:=(Builtin.zeroCells z.cells n).toList) (news:=qO i z n) hsz ⟨?_,(M2 Iy n).2,by simpa [Ki] using (M2 Iy n).1,λw' _=>?_⟩ λ{base sLen sCap} e1 e2=>?_
  ·have:=(Ee (σ:=σ) hzr (λv hv=>Iy v hv) (by omega) n).1
   rw[Zd8,<-Ki] at this
   exact this
  ·unfold qO
   split
   ·next h0=>
    have:Builtin.zeroCells z.cells n= #[]:=by
     apply Array.ext'
     have:=(M2 Iy n).1
     rw[Ki,h0] at this
     exact We.1 (by simpa using this)
    simp[this]
   ·simp
  ·rw[hy2]
   exact jE hu hu2 hi hz hb hn e2
 have hno:pw (vC (YP P x) (YP P y) e i.size i.bytes (Vm z).cells) (W1 (YP P x) (YP P y) e i.size i.bytes) d2=W1 (YP P x) (YP P y) e i.size i.bytes:=by
  cases d2<;>first|rfl|exact absurd rfl (hd2 _)
 rw[hno]
 refine Yd λhsz=>Yd λhb=>zA λn hn=>Ir hs (hρ y) hn (Zq _) λas vs hf=>?_
 rw[Xh] at hsz hb
 have hsz:1<=i.size:=Zp hsz
 have hb:1<=i.bytes:=Zp hb
 have hlenOf:=ya (P:=P) hn (hρ y) w
 exact happ hsz ⟨hf.rel,hf.one,hf.len,hf.run⟩ λe1 e2=>eT hu hu2 hd2 hi hz hlenOf hb e2
def mm(mx:Bool):Value->Value->Sem Value:=if mx then Builtin.max2 else Builtin.min2
theorem zB{r:Result Next}(hs:W8 P σ H w){mx:Bool}{k:IntKind}: ∀(as:List AV) (vs:List Value) (a:Int),YO σ as vs->
  (∀v,(vs.foldlM (mm mx) (.int k a):Sem Value).run P w=.ok v w->r=.ok (.value v) w)->Y3 P σ H w r (min2 mx k a H as)
 |[],vs,a,h,g=>by
  rw[h.nil_inv] at g
  exact Z8 hs (x:=.int k a) (g _ rfl) (by simp[Yl])
 |x::as,vs,a,h,g=>by
  obtain⟨v,vs',h1,h2,rfl⟩:=h.cons_inv
  unfold min2
  split
  ·rename_i j b
   refine Yd λhk=>?_
   have:=R6 hk;subst this
   have h1:=WK h1
   subst h1
   refine zB hs as vs' _ h2 λv hv=>g v ?_
   rw[List.foldlM_cons]
   cases mx with
   |true=>
    simp only[mm,if_true,Builtin.max2,Sem.run_bind,Sem.run_pure,Result.andThen_ok]
    rw[<-hv]
    congr 2
    by_cases hh:a<b
    ·simp[hh,Jm]
    ·simp[hh,Jm]
   |false=>
    simp only[mm,XA,if_false,Builtin.min2,Sem.run_bind,Sem.run_pure,Result.andThen_ok]
    rw[<-hv]
    congr 2
    by_cases hh:b<a
    ·simp[hh,Jm]
    ·simp[hh,Jm]
  ·trivial
theorem zV(hs:W8 P σ H w)(hρ:Qk P σ tm ρ){o:Oper}{mx:Bool}{xs:List Operand}{ts:List TypeId}(ho:o.op=.call ⟨.builtin (if mx then .max else .min),⟨xs⟩,⟨ts⟩⟩):XD P σ H w tm ρ o:=by
 refine TK ho λcs=>?_
 have key: ∀r,(∀v,(match xs.map ρ with|[]=>.halt (.stuck "")|x::rest=>rest.foldlM (mm mx) x:Sem Value).run P w=.ok v w->r=.ok (.value v) w)->Y3 P σ H w r (NG mx (xs.map (YP P)) tm H):=by
  intro r hrr
  unfold NG
  have hr:=JF hρ xs
  split
  ·rename_i k a l he
   rw[he] at hr
   obtain⟨v,vs,h1,h2,h3⟩:=hr.cons_inv
   have h1:=WK h1
   subst h1
   exact zB hs l vs a h2 λv hv=>hrr v (by rw[h3];exact hv)
  ·trivial
 cases mx with
 |true=>
  refine key _ λv hv=>Vz (s:=Builtin.max_ ⟨ts⟩ o.type ⟨xs.map ρ⟩) ?_
  simp only[Builtin.max_]
  cases hl:xs.map ρ with
  |nil=>rw[hl] at hv;cases hv
  |cons x l=>rw[hl] at hv;exact hv
 |false=>
  refine key _ λv hv=>Vz (s:=Builtin.min_ ⟨ts⟩ o.type ⟨xs.map ρ⟩) ?_
  simp only[Builtin.min_]
  cases hl:xs.map ρ with
  |nil=>rw[hl] at hv;cases hv
  |cons x l=>rw[hl] at hv;exact hv
theorem IB{g:Nat}{cs:Array Value}{t:TypeId}{fr:Nat×Nat}(h:w.heap[g]? =some (.cells cs t fr)): ∀(ns:List Int) (o:Nat) (acc:ByteArray),
  (∀(j:Nat) (v:Value),(ns.map (Value.int .u8))[j]? =some v->cs[o+j]? =some v)->(loadBytes ⟨g,o,none⟩ acc ns.length).run P w=.ok (ns.foldl (λr n=>r.push (UInt8.ofNat n.toNat)) acc) w
 |[],o,acc,_=>rfl
 |n::ns,o,acc,hv=>by
  have h0:=hv 0 (.int .u8 n) rfl
  simp only[Zw,loadBytes,Sem.run_bind,run_load,HQ h,Z7] at h0 ⊢
  rw[h0]
  simp only[Result.andThen_ok,QC]
  exact IB h ns (o+1) _ λj v hj=>by
   have:=hv (j+1) v (by simpa using hj)
   rw[<-this];congr 1;omega
theorem yW{w:World}{g o n:Nat}{cs:Array Value}{t:TypeId}{fr:Nat×Nat}(h:w.heap[g]? =some (.cells cs t fr))(hn:n≠0):
  AT w (w.freeze ⟨g,o,none⟩ n) g (.cells cs t (if fr.1=fr.2 then(o,o+n) else(min fr.1 o,max fr.2 (o+n)))):=by
 obtain⟨a,b⟩:=fr
 refine⟨by simp[World.freeze,hn],?_,λk hk=>?_,by simp[World.freeze,hn],by simp[World.freeze,hn],by simp[World.freeze,hn]⟩
 ·simp only[World.freeze,hn,if_false,W5]
  rw[h];simp
 ·simp only[World.freeze,hn,if_false,W5]
  rw[if_neg (λe=>hk e.symm)]
theorem z9(k:IntKind)(n:Int):(asInt (.int k n)).run P w=.ok n w:=rfl
theorem nX(pt ty:TypeId)(rest:List TypeId)(k:IntKind)(p:Option Addr):(Builtin.unsafeString_ ⟨pt::rest⟩ ty #[.pointer p,.int k 0]).run P w=.ok (.string .empty) w:=by
 show((asInt (.int k 0))>>=_:Sem Value).run P w=_
 rw[Sem.run_bind,z9]
 cases p<;>rfl
theorem nU{pt ty e:TypeId}(rest:List TypeId){k:IntKind}{n:Nat}{a:Addr}{s:ByteArray}(hu:P.underlying pt=some (.pointer e))(h0:n≠0)(hn:n<=140737488355328)
  (hv:(variablesAt a e n).run P w=.ok true w)(hl:(loadBytes a .empty n).run P w=.ok s w):
  (Builtin.unsafeString_ ⟨pt::rest⟩ ty #[.pointer (some a),.int k (n:Int)]).run P w=.ok (.string s) (w.freeze a n):=by
 show((asInt (.int k (n:Int)))>>=_:Sem Value).run P w=_
 have p1: ¬((n:Int)<0):=by omega
 have p2: ¬((n:Int)>IntKind.i64.max):=by
  have:IntKind.i64.max=9223372036854775807:=by decide
  omega
 have p3: ¬((n:Int)=0):=by omega
 rw[Sem.run_bind,z9]
 simp only[Result.andThen_ok,Ww,UD,p1,if_false,p2,p3,Sem.run_bind,elemOf,run_underlying hu,Sem.run_pure,VO,hv,if_true,hl,run_freeze]
theorem eC(hs:W8 P σ H w)(hρ:Qk P σ tm ρ){o:Oper}{xs:List Operand}{ts:List TypeId}(ho:o.op=.call ⟨.builtin .unsafeString,⟨xs⟩,⟨ts⟩⟩):XD P σ H w tm ρ o:=by
 refine TK ho λcs=>?_
 rcases xs with _|⟨x,_|⟨y,_|⟨_,_⟩⟩⟩<;>try exact trivial
 rcases ts with _|⟨t,_|⟨t2,_|⟨_,_⟩⟩⟩<;>try exact trivial
 refine Xr λd hu=>oe λe hd=>X1 λi hi=>Vh (λhsz=>?_) λ_=>SZ
 subst hd
 rw[Yx] at hsz
 have hsz:i.size=1:=Zp hsz
 refine Rr λk n hn=>?_
 have g1:=hρ x
 have g2:=hρ y
 rw[hn] at g2
 have g2:=WK g2
 refine Ti (λh0=>?_) λh0=>Yd λhmax=>Pr λb off hx=>Sv λr hr=>Yd λhel=>Yd λN3=>Yd λhle=>?_
 ·rw[Yx] at h0
  have h0:n=0:=Zp h0
  subst h0
  have fin: ∀p,ρ x=.pointer p->Y3 P σ H w ((builtin .unsafeString ⟨[t,t2]⟩ o.type cs ⟨[ρ x,ρ y]⟩).run P w) (.val (.str []) H):=by
   intro p e1
   refine Z8 hs (x:=.string .empty) ?_ (by simp only[Yl];rfl)
   refine Vz (s:=Builtin.unsafeString_ ⟨[t,t2]⟩ o.type #[ρ x,ρ y]) ?_
   rw[e1,g2]
   exact nX _ _ _ _ _
  split
  ·rename_i hx
   rw[hx] at g1
   exact fin none (by simpa only[Yl] using g1)
  ·rename_i b off hx
   rw[hx] at g1
   obtain⟨l,_,e1⟩:=U5 g1
   exact fin _ e1
  ·trivial
 ·rw[hx] at g1
  obtain⟨l,hl,e1⟩:=U5 g1
  obtain⟨cs',fr,hc,hrr⟩:=hs.row hr hl
  have zM:r.sm=false∧H.may r b=true:=by
   cases hsm:r.sm with
   |true=>rw[hsm] at N3;cases N3
   |false=>rw[hsm] at N3;exact⟨rfl,N3⟩
  obtain⟨hwr,hown⟩:=Wr.of_may zM.2 hr
  rw[Yx] at h0 hel
  rw[Xh] at hmax hle
  have h0:n≠0:=of_decide_eq_false h0
  have hel:r.elem=e:=Zp hel
  have hmax:n<=140737488355328:=Zp hmax
  have hle:off+n<=r.size:=Zp hle
  have q1:=hrr.fits
  have q2:=hrr.room
  obtain⟨vs,h2,h3,h4,h5⟩:=Og hrr n off hle
  refine Ke _ vs h2 λns hns=>?_
  subst hns
  have hnl:ns.length=n:=by simpa using h3
  have hcell:P.cellsOf e=1:=by simp[Program.cellsOf,hi,hsz]
  have hw:=yW (o:=l.base+off) (n:=n) hc h0
  refine Uc (Tr.write hs hr hl hwr hw.size hw.new hw.old ⟨_,_,rfl,?_⟩ hw.tape hw.os hw.out) (x:=.string ⟨(ns.map wq).toArray⟩) ?_ (by simp[Yl])
  ·have hfz:(cond (Nat.ble r.fz (Nat.add off n)) (Nat.add off n) r.fz)=max r.fz (off+n):=by
    rw[Xh]
    show cond _ (off+n) r.fz=_
    by_cases hh:r.fz<=off+n
    ·rw[show decide (r.fz<=Nat.add off n)=true from Zg hh];simp only[cond_true];omega
    ·rw[show decide (r.fz<=Nat.add off n)=false from Zd hh];simp only[cond_false];omega
   rw[hfz]
   refine⟨hrr.sz,hrr.sz1,hrr.fits,hrr.room,hrr.exact,hrr.cell,hrr.one,?_,?_⟩
   ·intro _ j hj hj2
    have hj:max r.fz (off+n)<=j:=hj
    have:=hrr.frs hown zM.1
    split
    ·simp only;omega
    ·simp only;omega
   ·intro _ _
    have:=hrr.frs hown zM.1
    right
    split
    ·simp only;omega
    ·simp only;omega
  ·refine Vz (s:=Builtin.unsafeString_ ⟨[t,t2]⟩ o.type #[ρ x,ρ y]) ?_
   rw[e1,g2]
   have hsh:=GZ hc
   have hlies:liesAt P P.depth r.elem (cs'.size/P.cellsOf r.elem) (l.base+off) e n=true:=by
    rw[hel]
    refine qH (by omega) (by rw[hcell];omega) ?_
    rw[hcell,Nat.div_one,Nat.div_one];omega
   have hld:=IB (P:=P) hc ns (l.base+off) .empty h4
   rw[hnl,FI] at hld
   exact nU _ hu h0 hmax (by simp only[variablesAt,Sem.run_bind,run_program,Result.andThen_ok,run_shape,hsh,hlies,Sem.run_pure]) (by simpa using hld)
def HE(P:Program)(σ:Mp)(D:Nat)(t:Nat)(f:AV->AV->Option Bool):Prop:=
 ∀(a b:AV) (x y:Value) (r:Bool) (w:World),Yl σ a x->Yl σ b y->f a b=some r->(Op.equalIn D t x y).run P w=.ok r w
theorem lj{t D:Nat}(hu:P.underlying t=some .bool):HE P σ (D+1) t wJ:=by
 intro a b x y r w ha hb h
 unfold wJ at h
 split at h
 ·cases h
  rw[SB ha,SB hb,run_equalIn_bool w D t _ _ hu]
  rename_i p q
  cases p<;>cases q<;>rfl
 ·cases h
theorem ZaG{t D:Nat}{k':IntKind}(hu:P.underlying t=some (.int k')):HE P σ (D+1) t SL:=by
 intro a b x y r w ha hb h
 unfold SL at h
 split at h
 ·rename_i j p k q
  cases hk:Nf j k with
  |false=>rw[hk] at h;cases h
  |true=>
   rw[hk] at h
   have:=R6 hk;subst this
   cases h
   rw[WK ha,WK hb,run_equalIn_int w D t _ _ _ _ hu,Lc]
 ·cases h
theorem ZaI{t D:Nat}(hu:P.underlying t=some .string):HE P σ (D+1) t K9:=by
 intro a b x y r w ha hb h
 unfold K9 at h
 split at h
 ·cases h
  rw[U6 ha,U6 hb,run_equalIn_string w D t _ _ hu,Qi,If,If]
 ·cases h
theorem LL{v:Value}(h:Yl σ .nilp v):v=.pointer none:=by simpa [Yl] using h
theorem LM{v:Value}(h:Yl σ .nils v):v=.slice none 0 0:=by simpa [Yl] using h
theorem OV{v:Value}(h:Yl σ .nilm v):v=.map none:=by simpa [Yl] using h
theorem LJ{v:Value}(h:Yl σ .nilf v):v=.nilFunc:=by simpa [Yl] using h
theorem PC{v:Value}(h:Yl σ .nili v):v=.nilIface:=by simpa [Yl] using h
theorem Ib{b:Nat}{v:Value}(h:Yl σ (.map b) v): ∃l,σ b=some l∧v=.map (some l.blk):=by simpa only[Yl] using h
theorem LI{f:Nat}{a b:List AV}{v:Value}(h:Yl σ (.func f a b) v): ∃x y,YO σ a x∧YO σ b y∧v=.func (.func f) ⟨x⟩ ⟨y⟩:=by simpa only[Yl] using h
theorem Sp{t:Nat}{a:AV}{v:Value}(h:Yl σ (.iface t a) v): ∃x,Yl σ a x∧v=.iface t x:=by simpa only[Yl] using h
theorem Ia{cs:List AV}{v:Value}(h:Yl σ (.agg cs) v): ∃vs,YO σ cs vs∧(∀x∈vs,x.oneCell'=true)∧v=.agg ⟨vs⟩:=by simpa only[Yl] using h
theorem lB{t D e:Nat}{i:TypeInfo}(hu:P.underlying t=some (.pointer e))(hi:P.info? e=some i)(h0:i.size≠0):HE P σ (D+1) t lz:=by
 intro a b x y r w ha hb h
 unfold lz at h
 split at h
 ·cases h;rw[LL ha,LL hb];simp[Op.equalIn,run_underlying hu]
 ·cases h;obtain⟨l,_,e1⟩:=U5 hb;rw[LL ha,e1];simp[Op.equalIn,run_underlying hu]
 ·cases h;obtain⟨l,_,e1⟩:=U5 ha;rw[LL hb,e1];simp[Op.equalIn,run_underlying hu]
 ·rename_i b o c p
  rw[Yx,Yx] at h
  by_cases hbc:b=c
  ·subst hbc
   rw[Zg rfl] at h
   cases h
   obtain⟨l,hl,e1⟩:=U5 ha
   obtain⟨l2,hl2,e2⟩:=U5 hb
   rw[hl] at hl2;cases hl2
   rw[e1,e2]
   simp only[Op.equalIn,Sem.run_bind,run_underlying hu,Result.andThen_ok,Ve hi,sameAddr]
   rw[if_pos h0]
   simp only[beq_self_eq_true,if_true,Sem.run_pure,Result.ok.injEq,and_true]
   by_cases hop:o=p
   ·subst hop;simp
   ·rw[Zd hop]
    rw[beq_eq_false_iff_ne]
    intro he
    have:=congrArg Addr.off he
    simp only at this
    omega
  ·rw[Zd hbc] at h;cases h
 ·cases h
theorem lr{t D e:Nat}(hu:P.underlying t=some (.slice e)):HE P σ (D+1) t gu:=by
 intro a b x y r w ha hb h
 unfold gu at h
 split at h
 ·cases h;rw[LM ha,LM hb];simp[Op.equalIn,run_underlying hu]
 ·cases h;obtain⟨l,_,e1⟩:=UT hb;rw[LM ha,e1];simp[Op.equalIn,run_underlying hu]
 ·cases h;obtain⟨l,_,e1⟩:=UT ha;rw[LM hb,e1];simp[Op.equalIn,run_underlying hu]
 ·cases h
theorem lu{t D k e:Nat}(hu:P.underlying t=some (.map k e)):HE P σ (D+1) t eqM:=by
 intro a b x y r w ha hb h
 unfold eqM at h
 split at h
 ·cases h;rw[OV ha,OV hb];simp[Op.equalIn,run_underlying hu]
 ·cases h;obtain⟨l,_,e1⟩:=Ib hb;rw[OV ha,e1];simp[Op.equalIn,run_underlying hu]
 ·cases h;obtain⟨l,_,e1⟩:=Ib ha;rw[OV hb,e1];simp[Op.equalIn,run_underlying hu]
 ·cases h
theorem lx{t D:Nat}{p q:Array TypeId}{v:Bool}(hu:P.underlying t=some (.func p q v)):HE P σ (D+1) t eqN:=by
 intro a b x y r w ha hb h
 unfold eqN at h
 split at h
 ·cases h;rw[LJ ha,LJ hb];simp[Op.equalIn,run_underlying hu]
 ·cases h;obtain⟨_,_,_,_,e1⟩:=LI hb;rw[LJ ha,e1];simp[Op.equalIn,run_underlying hu]
 ·cases h;obtain⟨_,_,_,_,e1⟩:=LI ha;rw[LJ hb,e1];simp[Op.equalIn,run_underlying hu]
 ·cases h
theorem lq{t D:Nat}{ms:Array (String×TypeId)}{lit:Bool}{g:Nat->AV->AV->Option Bool}(hu:P.underlying t=some (.interface ms))(hg: ∀t,HE P σ D t (g t)):HE P σ (D+1) t (pP lit (eqC P g)):=by
 intro a b x y r w ha hb h
 unfold pP at h
 split at h
 ·cases lit
  ·cases h
  ·cases h;rw[PC ha,PC hb];simp[Op.equalIn,run_underlying hu]
 ·cases h;obtain⟨_,_,e1⟩:=Sp hb;rw[PC ha,e1];simp[Op.equalIn,run_underlying hu]
 ·cases h;obtain⟨_,_,e1⟩:=Sp ha;rw[PC hb,e1];simp[Op.equalIn,run_underlying hu]
 ·rename_i t1 v1 t2 v2
  obtain⟨x1,h1,e1⟩:=Sp ha
  obtain⟨y1,h2,e2⟩:=Sp hb
  rw[e1,e2]
  rw[Yx] at h
  by_cases ht:t1=t2
  ·subst ht
   rw[Zg rfl] at h
   have h:eqC P g t1 v1 v2=some r:=h
   unfold eqC at h
   split at h
   ·rename_i i hi
    cases hc:i.comparable with
    |false=>rw[hc] at h;cases h
    |true=>
     rw[hc] at h
     have hti:(typeInfo t1).run P w=.ok i w:=by simp[typeInfo,hi]
     simp only[Op.equalIn,Sem.run_bind,run_underlying hu,Result.andThen_ok,ne_eq,not_true_eq_false,if_false,hti,hc,Wi,XA]
     exact hg t1 v1 v2 x1 y1 r w h1 h2 h
   ·cases h
  ·rw[Zd ht] at h
   cases h
   simp[Op.equalIn,run_underlying hu,ht]
 ·cases h
theorem iJ{t:Nat}{ag:Bool}(h:pD P t=some ag): ∃d,P.underlying t=some d∧Ld P t=ag:=by
 unfold pD at h
 unfold Ld
 split at h<;>rename_i e<;>cases h
 ·rw[e];exact⟨_,rfl,rfl⟩
 ·rw[e];exact⟨_,rfl,rfl⟩
 ·rename_i d h1 h2
  rw[e]
  refine⟨d,rfl,?_⟩
  cases d<;>first|rfl|exact absurd rfl (h1 _)|exact absurd rfl (h2 _ _)
theorem GL{t:Nat}{cs:List AV}{vs:List Value}{off:Nat}{k:AV->Option Bool}{r:Bool}(hr:YO σ cs vs)(hone: ∀x∈vs,x.oneCell'=true)(h:JC P t cs off k=some r):
  ∃a x,Yl σ a x∧k a=some r∧ ∀w:World,(part t ⟨vs⟩ off).run P w=.ok x w:=by
 unfold JC at h
 split at h
 ·rename_i i ag hi hag
  obtain⟨d,hu,hia⟩:=iJ hag
  cases ag with
  |true=>
   have h:k (.agg (NC i.size (OD off cs)))=some r:=h
   rw[LV,Lq] at h
   refine⟨_,.agg ⟨(vs.drop off).take i.size⟩,?_,h,λw=>?_⟩
   ·simp only[Yl]
    exact⟨_,(hr.drop _).take _,λy hy=>hone y (Rd (Re hy)),rfl⟩
   ·simp only[part,Sem.run_bind,Ok (w:=w) hu,hia,Result.andThen_ok,if_true,Ve hi,Sem.run_pure]
    congr 2
    apply Array.ext'
    simp[Vp]
  |false=>
   have h:(match FU cs off with|some v=>k v|none=>none)=some r:=h
   rw[Kq] at h
   split at h
   ·rename_i v hv
    obtain⟨x,hx,hrel⟩:=hr.get hv
    refine⟨v,x,hrel,h,λw=>?_⟩
    simp only[part,Sem.run_bind,Ok (w:=w) hu,hia,Result.andThen_ok,XA,if_false]
    simp[hx]
   ·cases h
 ·cases h
theorem En{e c D:Nat}{f:AV->AV->Option Bool}(hf:HE P σ D e f){l m:List AV}{xs ys:List Value}(hl:YO σ l xs)(hm:YO σ m ys)(hlo: ∀x∈xs,x.oneCell'=true)(hmo: ∀x∈ys,x.oneCell'=true):
  ∀(is:List Nat) (r:Bool) (w:World),QD P f e c l m is=some r->(Op.eqItems D e c ⟨xs⟩ ⟨ys⟩ is).run P w=.ok r w
 |[],r,w,h=>by cases h;rfl
 |i::is,r,w,h=>by
  unfold QD at h
  obtain⟨a,x,h1,h2,h3⟩:=GL hl hlo h
  obtain⟨b,y,g1,g2,g3⟩:=GL hm hmo h2
  unfold tc at g2
  split at g2
  ·rename_i t ht
   have he:=hf a b x y t w h1 g1 ht
   simp only[Op.eqItems,Sem.run_bind,h3 w,g3 w,he,Result.andThen_ok]
   cases t with
   |true=>simpa using En hf hl hm hlo hmo is r w g2
   |false=>cases g2;simp
  ·cases g2
theorem Kc{D:Nat}{g:Nat->AV->AV->Option Bool}(hf: ∀t,HE P σ D t (g t)){l m:List AV}{xs ys:List Value}(hl:YO σ l xs)(hm:YO σ m ys)(hlo: ∀x∈xs,x.oneCell'=true)(hmo: ∀x∈ys,x.oneCell'=true):
  ∀(fs:List Field) (r:Bool) (w:World),NJ P g l m fs=some r->(Op.eqFields D ⟨xs⟩ ⟨ys⟩ fs).run P w=.ok r w
 |[],r,w,h=>by cases h;rfl
 |f::fs,r,w,h=>by
  unfold NJ at h
  unfold Op.eqFields
  cases hn:f.name== "_" with
  |true=>
   rw[hn] at h
   rw[if_neg (by simpa using hn)]
   exact Kc hf hl hm hlo hmo fs r w h
  |false=>
   rw[hn] at h
   simp only[cond_false] at h
   rw[if_pos (by simpa using hn)]
   obtain⟨a,x,h1,h2,h3⟩:=GL hl hlo h
   obtain⟨b,y,g1,g2,g3⟩:=GL hm hmo h2
   unfold tc at g2
   split at g2
   ·rename_i t ht
    have he:=hf f.type a b x y t w h1 g1 ht
    simp only[Sem.run_bind,h3 w,g3 w,he,Result.andThen_ok]
    cases t with
    |true=>simpa using Kc hf hl hm hlo hmo fs r w g2
    |false=>cases g2;simp
   ·cases g2
theorem ZaC{t D:Nat}{lit:Bool}{g:Nat->AV->AV->Option Bool}{d:TypeDesc}(hu:P.underlying t=some d)(hg: ∀t,HE P σ D t (g t)):HE P σ (D+1) t (λa b=>eqD P lit g t a b d):=by
 intro a b x y r w ha hb h
 cases d<;>simp only[eqD] at h<;>first
  |cases h;done
  |exact lj hu a b x y r w ha hb h
  |exact ZaG hu a b x y r w ha hb h
  |exact ZaI hu a b x y r w ha hb h
  |exact lr hu a b x y r w ha hb h
  |exact lu hu a b x y r w ha hb h
  |exact lx hu a b x y r w ha hb h
  |exact lq hu hg a b x y r w ha hb h
  |skip
 case pointer e=>
  split at h
  ·rename_i i hi
   rw[Yx] at h
   by_cases h0:i.size=0
   ·rw[Zg h0] at h;cases h
   ·rw[Zd h0] at h
    exact lB hu hi h0 a b x y r w ha hb h
  ·cases h
 case array n e=>
  unfold wh at h
  split at h
  ·split at h
   ·rename_i i hi
    obtain⟨xs,h1,h2,e1⟩:=Ia ha
    obtain⟨ys,g1,g2,e2⟩:=Ia hb
    have:=En (hg e) h1 g1 h2 g2 (List.range n) r w h
    rw[e1,e2,run_equalIn_array w D ⟨xs⟩ ⟨ys⟩ hu hi]
    rw[show P.cellsOf e=i.size by simp[Program.cellsOf,hi]]
    exact this
   ·cases h
  ·cases h
 case struct fs=>
  cases hst:P.stoodInHeld t with
  |true=>rw[hst] at h;cases h
  |false=>
   rw[hst] at h
   have h:wh a b (λl m=>NJ P g l m fs.toList)=some r:=h
   unfold wh at h
   split at h
   ·obtain⟨xs,h1,h2,e1⟩:=Ia ha
    obtain⟨ys,g1,g2,e2⟩:=Ia hb
    have:=Kc hg h1 g1 h2 g2 fs.toList r w h
    have hfs:P.fieldsOf t=fs:=by simp[Program.fieldsOf,hu]
    rw[e1,e2,run_equalIn_struct w D t ⟨xs⟩ ⟨ys⟩ (by rw[hfs];exact hu) hst,hfs]
    exact this
   ·cases h
theorem tI: ∀(d D t:Nat),d<=D->HE P σ D t (zj P d t)
 |0,D,t,_=>by intro a b x y r w ha hb h;cases h
 |d+1,D,t,hD=>by
  obtain⟨D',rfl⟩: ∃D',D=D'+1:=⟨D - 1,by omega⟩
  intro a b x y r w ha hb h
  unfold zj at h
  split at h
  ·rename_i u hu
   exact ZaC (lit:=true) hu (λt=>tI d D' t (by omega)) a b x y r w ha hb h
  ·cases h
def Im(P:Program)(σ:Mp)(t:Nat)(X Y:Operand)(f:AV->AV->Option Bool):Prop:=
 ∀(a b:AV) (x y:Value) (r:Bool) (w:World),Yl σ a x->Yl σ b y->f a b=some r->
  (∀op,(eqGuard op t X Y x y).run P w=.ok () w)∧(binOp .eql t x y).run P w=.ok (.bool r) w∧(binOp .neq t x y).run P w=.ok (.bool (!r)) w
def sk(v:Value):Bool:=match v with|.int .. |.float .. |.complex .. |.string _=>false|_=>true
theorem iU{t:TypeId}{x y:Value}(h:sk x=true):binOp .eql t x y=(do pure (.bool (<-Op.equal t x y))):=by
 cases x<;>first|(cases h;done)|(unfold binOp;rfl)
theorem iV{t:TypeId}{x y:Value}(h:sk x=true):binOp .neq t x y=(do pure (.bool (!(<-Op.equal t x y)))):=by
 cases x<;>first|(cases h;done)|(unfold binOp;rfl)
theorem Ml{t:TypeId}{X Y:Operand}{x y:Value}{r:Bool}(h:sk x=true)(hg: ∀op,(eqGuard op t X Y x y).run P w=.ok () w)(he:(Op.equalIn 10000 t x y).run P w=.ok r w):
  (∀op,(eqGuard op t X Y x y).run P w=.ok () w)∧(binOp .eql t x y).run P w=.ok (.bool r) w∧(binOp .neq t x y).run P w=.ok (.bool (!r)) w:=by
 have he:(Op.equal t x y).run P w=.ok r w:=he
 refine⟨hg,?_,?_⟩
 ·rw[iU h];simp[he]
 ·rw[iV h];simp[he]
theorem Tc{t:TypeId}{X Y:Operand}{x y:Value}(h1: ∀v,x≠.agg v)(h2:x≠.nilIface∨y≠.nilIface)(op:BinOp):(eqGuard op t X Y x y).run P w=.ok () w:=by
 cases op<;>simp only[eqGuard]<;>first
  |rfl
  |(cases x<;>first
    |rfl
    |exact absurd rfl (h1 _)
    |(cases y<;>first
      |rfl
      |(rcases h2 with h2|h2<;>exact absurd rfl h2)))
theorem Zhj{t:TypeId}{X Y:Operand}(hu:P.underlying t=some .bool):Im P σ t X Y wJ:=by
 intro a b x y r w ha hb h
 have he:=lj (D:=9999) hu a b x y r w ha hb h
 unfold wJ at h
 split at h
 ·have ha:=SB ha;subst ha
  exact Ml rfl (Tc (λ_ h=>by cases h) (.inl λh=>by cases h)) he
 ·cases h
theorem Zhp{t e:TypeId}{X Y:Operand}{i:TypeInfo}(hu:P.underlying t=some (.pointer e))(hi:P.info? e=some i)(h0:i.size≠0):Im P σ t X Y lz:=by
 intro a b x y r w ha hb h
 have he:=lB (D:=9999) hu hi h0 a b x y r w ha hb h
 have: ∃p,x=.pointer p:=by
  unfold lz at h
  split at h
  ·exact⟨_,LL ha⟩
  ·exact⟨_,LL ha⟩
  ·obtain⟨_,_,e1⟩:=U5 ha;exact⟨_,e1⟩
  ·obtain⟨_,_,e1⟩:=U5 ha;exact⟨_,e1⟩
  ·cases h
 obtain⟨p,rfl⟩:=this
 exact Ml rfl (Tc (λ_ h=>by cases h) (.inl λh=>by cases h)) he
theorem Zhm{t e:TypeId}{X Y:Operand}(hu:P.underlying t=some (.slice e)):Im P σ t X Y gu:=by
 intro a b x y r w ha hb h
 have he:=lr (D:=9999) hu a b x y r w ha hb h
 have: ∃p n c,x=.slice p n c:=by
  unfold gu at h
  split at h
  ·exact⟨_,_,_,LM ha⟩
  ·exact⟨_,_,_,LM ha⟩
  ·obtain⟨_,_,e1⟩:=UT ha;exact⟨_,_,_,e1⟩
  ·cases h
 obtain⟨p,n,c,rfl⟩:=this
 exact Ml rfl (Tc (λ_ h=>by cases h) (.inl λh=>by cases h)) he
theorem Zhn{t k e:TypeId}{X Y:Operand}(hu:P.underlying t=some (.map k e)):Im P σ t X Y eqM:=by
 intro a b x y r w ha hb h
 have he:=lu (D:=9999) hu a b x y r w ha hb h
 have: ∃p,x=.map p:=by
  unfold eqM at h
  split at h
  ·exact⟨_,OV ha⟩
  ·exact⟨_,OV ha⟩
  ·obtain⟨_,_,e1⟩:=Ib ha;exact⟨_,e1⟩
  ·cases h
 obtain⟨p,rfl⟩:=this
 exact Ml rfl (Tc (λ_ h=>by cases h) (.inl λh=>by cases h)) he
theorem Zho{t:TypeId}{p q:Array TypeId}{v:Bool}{X Y:Operand}(hu:P.underlying t=some (.func p q v)):Im P σ t X Y eqN:=by
 intro a b x y r w ha hb h
 have he:=lx (D:=9999) hu a b x y r w ha hb h
 have:x=.nilFunc∨ ∃f m n,x=.func f m n:=by
  unfold eqN at h
  split at h
  ·exact .inl (LJ ha)
  ·exact .inl (LJ ha)
  ·obtain⟨_,_,_,_,e1⟩:=LI ha;exact .inr ⟨_,_,_,e1⟩
  ·cases h
 rcases this with rfl|⟨f,m,n,rfl⟩
 ·exact Ml rfl (Tc (λ_ h=>by cases h) (.inl λh=>by cases h)) he
 ·exact Ml rfl (Tc (λ_ h=>by cases h) (.inl λh=>by cases h)) he
theorem oj{t:TypeId}{X Y:Operand}(h:(KN X||KN Y)=true)(op:BinOp):(eqGuard op t X Y .nilIface .nilIface).run P w=.ok () w:=by
 have hc:((X matches .const _)||(Y matches .const _))=true:=by
  cases X<;>cases Y<;>first|rfl|cases h
 cases op<;>simp only[eqGuard]<;>first
  |rfl
  |(cases X<;>cases Y<;>first|rfl|cases h)
theorem Zhk{t:TypeId}{ms:Array (String×TypeId)}{X Y:Operand}(hu:P.underlying t=some (.interface ms)):Im P σ t X Y (pP (KN X||KN Y) (eqC P (zj P 9))):=by
 intro a b x y r w ha hb h
 have he:=lq (D:=9999) hu (λt=>tI 9 9999 t (by omega)) a b x y r w ha hb h
 unfold pP at h
 split at h
 ·cases hl:(KN X||KN Y) with
  |false=>rw[hl] at h;cases h
  |true=>
   have ha:=PC ha;subst ha
   have hb:=PC hb;subst hb
   exact Ml rfl (oj hl) he
 ·have ha:=PC ha;subst ha
  obtain⟨_,_,rfl⟩:=Sp hb
  exact Ml rfl (Tc (λ_ h=>by cases h) (.inr λh=>by cases h)) he
 ·obtain⟨_,_,rfl⟩:=Sp ha
  exact Ml rfl (Tc (λ_ h=>by cases h) (.inl λh=>by cases h)) he
 ·obtain⟨_,_,rfl⟩:=Sp ha
  exact Ml rfl (Tc (λ_ h=>by cases h) (.inl λh=>by cases h)) he
 ·cases h
theorem ZeP{t:TypeId}{X Y:Operand}(hag:(∃n e,P.underlying t=some (.array n e))∨ ∃fs,P.underlying t=some (.struct fs))(hg:P.eqGuardType P.depth t=false):Im P σ t X Y (zj P 10 t):=by
 intro a b x y r w ha hb h
 have he:=tI 10 10000 t (by omega) a b x y r w ha hb h
 have hab:(∃l,a=.agg l)∧ ∃m,b=.agg m:=by
  unfold zj at h
  have agg: ∀{k:List AV->List AV->Option Bool},wh a b k=some r->(∃l,a=.agg l)∧ ∃m,b=.agg m:=by
   intro k h
   unfold wh at h
   split at h
   ·exact⟨⟨_,rfl⟩,⟨_,rfl⟩⟩
   ·cases h
  rcases hag with⟨n,e,hu⟩|⟨fs,hu⟩
  ·rw[hu] at h
   exact agg h
  ·rw[hu] at h
   simp only[eqD] at h
   cases hst:P.stoodInHeld t with
   |true=>rw[hst] at h;cases h
   |false=>rw[hst] at h;exact agg h
 obtain⟨⟨l,rfl⟩,⟨m,rfl⟩⟩:=hab
 obtain⟨xs,_,_,rfl⟩:=Ia ha
 obtain⟨ys,_,_,rfl⟩:=Ia hb
 exact Ml rfl (λop=>run_eqGuard_agg w op t X Y _ _ hg) he
theorem Zhl{t:TypeId}{X Y:Operand}:Im P σ t X Y SL:=by
 intro a b x y r w ha hb h
 unfold SL at h
 split at h
 ·rename_i j p k q
  cases hk:Nf j k with
  |false=>rw[hk] at h;cases h
  |true=>
   rw[hk] at h
   have:=R6 hk;subst this
   have h:some (E1 p q)=some r:=h
   cases h
   have ha:=WK ha;subst ha
   have hb:=WK hb;subst hb
   rw[Lc]
   exact⟨Tc (λ_ h=>by cases h) (.inl λh=>by cases h),by simp[binOp,Op.intCmp],by simp[binOp,Op.intCmp,bne]⟩
 ·cases h
theorem Zhq{t:TypeId}{X Y:Operand}:Im P σ t X Y K9:=by
 intro a b x y r w ha hb h
 unfold K9 at h
 split at h
 ·rename_i p q
  cases h
  have ha:=U6 ha;subst ha
  have hb:=U6 hb;subst hb
  refine⟨Tc (λ_ h=>by cases h) (.inl λh=>by cases h),?_,?_⟩
  ·simp[binOp,Op.stringOp,Qi]
  ·simp[binOp,Op.stringOp,bne,Qi]
 ·cases h
theorem Lg(hs:W8 P σ H w)(hρ:Qk P σ tm ρ){o:Oper}{neg:Bool}{t u:TypeId}{x y:Operand}{f:AV->AV->Option Bool}(ho:o.op=.binOp (if neg then .neq else .eql) t x y u)(hf:Im P σ t x y f):
  Y3 P σ H w ((execOp ρ o).run P w) (UX (YP P x) (YP P y) f neg tm H):=by
 refine QW λr hr=>?_
 obtain⟨h1,h2,h3⟩:=hf _ _ _ _ r w (hρ x) (hρ y) hr
 refine I4 hs ?_
 simp only[execOp,ho]
 refine Vz ?_
 rw[Sem.run_bind,h1]
 cases neg
 ·exact h2
 ·simp only[Result.andThen_ok]
  refine h3.trans ?_
  cases r<;>rfl
theorem jh(hs:W8 P σ H w)(hρ:Qk P σ tm ρ){o:Oper}{neg:Bool}{t u:TypeId}{x y:Operand}(ho:o.op=.binOp (if neg then .neq else .eql) t x y u):
  Y3 P σ H w ((execOp ρ o).run P w) (Uo P t (eqK P t (KN x||KN y) neg (YP P x) (YP P y)) tm H):=by
 refine Xr λd hu=>?_
 cases d<;>try exact trivial
 case bool=>exact Lg hs hρ ho (Zhj hu)
 case int k=>exact Lg hs hρ ho Zhl
 case string=>exact Lg hs hρ ho Zhq
 case pointer e=>
  show Y3 P σ H w _ ((match P.info? e with|some i=>cond (Nat.beq i.size 0) Un (UX (YP P x) (YP P y) lz neg)|none=>Un) tm H)
  cases hi:P.info? e with
  |none=>exact trivial
  |some i=>
   refine Vh (λ_=>SZ) λh0=>?_
   rw[Yx] at h0
   exact Lg hs hρ ho (Zhp hu hi (of_decide_eq_false h0))
 case slice e=>exact Lg hs hρ ho (Zhm hu)
 case map k e=>exact Lg hs hρ ho (Zhn hu)
 case func p q v=>exact Lg hs hρ ho (Zho hu)
 case interface ms=>exact Lg hs hρ ho (Zhk hu)
 case array n e=>exact Vh (λ_=>SZ) λh0=>Lg hs hρ ho (ZeP (.inl ⟨n,e,hu⟩) h0)
 case struct fs=>exact Vh (λ_=>SZ) λh0=>Lg hs hρ ho (ZeP (.inr ⟨fs,hu⟩) h0)
theorem ZbG(hs:W8 P σ H w)(hρ:Qk P σ tm ρ){o:Oper}{t u:TypeId}{x y:Operand}(ho:o.op=.binOp .eql t x y u):XD P σ H w tm ρ o:=by
 unfold XD
 have:=jh (neg:=false) hs hρ ho
 rw[ho]
 exact this
theorem ZbN(hs:W8 P σ H w)(hρ:Qk P σ tm ρ){o:Oper}{t u:TypeId}{x y:Operand}(ho:o.op=.binOp .neq t x y u):XD P σ H w tm ρ o:=by
 unfold XD
 have:=jh (neg:=true) hs hρ ho
 rw[ho]
 exact this
theorem YG.length: ∀{es:List Q7} {l:List MapEntry},YG σ es l->es.length=l.length
 |[],l,h=>by simp only[YG] at h;subst h;rfl
 |a::es,l,h=>by simp only[YG] at h;obtain⟨e,es',_,h2,rfl⟩:=h;simp[h2.length]
theorem K8:YG σ [] []:=by simp[YG]
theorem ND{a:Q7}{as:List Q7}{e:MapEntry}{es:List MapEntry}(h:M3 σ a e)(h':YG σ as es):YG σ (a::as) (e::es):=by
 simp only[YG];exact⟨e,es,h,h',rfl⟩
theorem YG.cons_inv{a:Q7}{as:List Q7}{l:List MapEntry}(h:YG σ (a::as) l): ∃e es,M3 σ a e∧YG σ as es∧l=e::es:=by simpa [YG] using h
structure Ef(P:Program)(σ:Mp)(kt:TypeId)(kd:TypeDesc)(eq:AV->AV->Option Bool):Prop where
 und:P.underlying kt=some kd
 check: ∀(b:Bool) (x:Value) (w:World),(Instr.checkKey b 10000 kt x).run P w=.ok () w
 now: ∀(a b:AV) (x y:Value) (r:Bool),Yl σ a x->Yl σ b y->eq a b=some r->Instr.sameNow kd x y=some r
 bits: ∀(a b:AV) (x y:Value),Yl σ a x->Yl σ b y->eq a b=some true->Instr.sameBits 10000 y x=true
 apart: ∀(k a b:AV) (t:Bool),Fv a b=true->eq k a=some t-> ∃u,eq k b=some u∧(t=true->u=false)
theorem K6{kt:TypeId}{kd:TypeDesc}(hu:P.underlying kt=some kd)(hk:(match kd with|.string|.int _|.bool=>true|_=>false)=true)(b:Bool)(x:Value)(w:World):(Instr.checkKey b 10000 kt x).run P w=.ok () w:=by
 cases kd<;>first|(cases hk;done)|skip
 all_goals
  unfold Instr.checkKey
  simp[run_underlying hu]
theorem ZgT{kt:TypeId}(hu:P.underlying kt=some .string):Ef P σ kt .string K9:=by
 refine⟨hu,λb x w=>K6 hu rfl b x w,?_,?_,?_⟩
 ·intro a b x y r ha hb h
  unfold K9 at h
  split at h
  ·cases h
   rw[U6 ha,U6 hb,Qi]
   show some (ByteArray.mk _==ByteArray.mk _)=_
   rw[beq_toListBytes,If,If]
  ·cases h
 ·intro a b x y ha hb h
  unfold K9 at h
  split at h
  ·rename_i p q
   rw[Qi] at h
   have h:p=q:=by simpa using h
   subst h
   rw[U6 ha,U6 hb]
   show(ByteArray.mk _==ByteArray.mk _)=true
   rw[beq_toListBytes]
   simp
  ·cases h
 ·intro k a b t hab h
  unfold Fv at hab
  split at hab
  ·rename_i p q
   cases k<;>try (cases h;done)
   rename_i s
   refine⟨JN s q,rfl,λht=>?_⟩
   subst ht
   have h:some (JN s p)=some true:=h
   rw[Qi] at h hab ⊢
   have h:s=p:=by simpa using h
   subst h
   simpa using hab
  ·cases k<;>cases h
  ·cases hab
theorem ZgS{kt:TypeId}{k:IntKind}(hu:P.underlying kt=some (.int k)):Ef P σ kt (.int k) SL:=by
 refine⟨hu,λb x w=>K6 hu rfl b x w,?_,?_,?_⟩
 ·intro a b x y r ha hb h
  unfold SL at h
  split at h
  ·rename_i j p k q
   cases hk:Nf j k with
   |false=>rw[hk] at h;cases h
   |true=>
    rw[hk] at h
    have:=R6 hk;subst this
    cases h
    rw[WK ha,WK hb,Lc]
    simp[Instr.sameNow]
  ·cases h
 ·intro a b x y ha hb h
  unfold SL at h
  split at h
  ·rename_i j p k q
   cases hk:Nf j k with
   |false=>rw[hk] at h;cases h
   |true=>
    rw[hk] at h
    have:=R6 hk;subst this
    have h:some (E1 p q)=some true:=h
    rw[Lc] at h
    have h:p=q:=by simpa using h
    subst h
    rw[WK ha,WK hb]
    simp[Instr.sameBits]
  ·cases h
 ·intro k a b t hab h
  unfold Fv at hab
  split at hab
  ·cases k<;>cases h
  ·rename_i j1 p j2 q
   cases k<;>try (cases h;done)
   rename_i j3 s
   obtain⟨h1,h2⟩:=Bool.and_eq_true_iff.1 hab
   have:=R6 h1;subst this
   unfold SL at h ⊢
   cases hk:Nf j3 j1 with
   |false=>simp[hk] at h
   |true=>
    simp only[hk,cond_true,Option.some.injEq] at h ⊢
    refine⟨_,rfl,λht=>?_⟩
    subst ht
    rw[Lc] at h h2 ⊢
    have h:s=p:=by simpa using h
    subst h
    simpa using h2
  ·cases hab
theorem ZgR{kt:TypeId}(hu:P.underlying kt=some .bool):Ef P σ kt .bool wJ:=by
 refine⟨hu,λb x w=>K6 hu rfl b x w,?_,?_,?_⟩
 ·intro a b x y r ha hb h
  unfold wJ at h
  split at h
  ·rename_i p q
   cases h
   rw[SB ha,SB hb]
   cases p<;>cases q<;>rfl
  ·cases h
 ·intro a b x y ha hb h
  unfold wJ at h
  split at h
  ·rename_i p q
   rw[SB ha,SB hb]
   cases p<;>cases q<;>first|rfl|cases h
  ·cases h
 ·intro k a b t hab h
  unfold Fv at hab
  split at hab
  ·cases k<;>cases h
  ·cases k<;>cases h
  ·cases hab
theorem zy{r:Result Next}{kt:TypeId}{f:(AV->AV->Option Bool)->VV}(h: ∀kd eq,Ef P σ kt kd eq->Y3 P σ H w r (f eq tm H)):Y3 P σ H w r (Uo P kt (ku f) tm H):=by
 refine Xr λd hu=>?_
 cases d<;>try exact trivial
 case string=>exact h _ _ (ZgT hu)
 case int k=>exact h _ _ (ZgS hu)
 case bool=>exact h _ _ (ZgR hu)
theorem FL{r:Result Next}{kt:TypeId}{kd:TypeDesc}{eq:AV->AV->Option Bool}(hk:Ef P σ kt kd eq){k:AV}{kv:Value}(hkr:Yl σ k kv){no:OR}{yes:AV->OR}: ∀(es:List Q7) (l:List MapEntry) (i:Nat),YG σ es l->
  (Instr.findNow kd kv l i=some none->Y3 P σ H w r no)->(∀j a v,Yl σ a v->Instr.findNow kd kv l i=some (some (j,v))->Y3 P σ H w r (yes a))->Y3 P σ H w r (SR eq k no yes es)
 |[],l,i,h,h1,h2=>by
  simp only[YG] at h;subst h
  exact h1 rfl
 |e::es,l,i,h,h1,h2=>by
  obtain⟨m,ms,g1,g2,rfl⟩:=h.cons_inv
  unfold SR
  cases he:eq k e.key with
  |none=>exact trivial
  |some t=>
   have hn:=hk.now _ _ _ _ t hkr g1.1 he
   cases t with
   |true=>exact h2 i e.val m.val g1.2.1 (by simp only[Instr.findNow,hn])
   |false=>
    refine FL hk hkr es ms (i+1) g2 (λq=>h1 ?_) (λj a v ha q=>h2 j a v ha ?_)
    ·simp only[Instr.findNow,hn];exact q
    ·simp only[Instr.findNow,hn];exact q
theorem Iz{eq:AV->AV->Option Bool}{k:AV}{no:OR}{yes:AV->OR}: ∀{es fs:List Q7},es.map Mj=fs.map Mj->SR eq k no yes es=SR eq k no yes fs
 |[],[],_=>rfl
 |[],_::_,h=>by cases h
 |_::_,[],h=>by cases h
 |e::es,f::fs,h=>by
  simp only[Ym,List.cons.injEq] at h
  obtain⟨h1,h2⟩:=h
  simp only[Mj,Prod.mk.injEq] at h1
  unfold SR
  rw[h1.1,h1.2,Iz h2]
noncomputable def zo(eq:AV->AV->Option Bool)(k:AV)(no:OR)(yes:AV->OR)(l:List (AV×AV)):OR:=SR eq k no yes (l.map λp=>⟨p.1,p.2,0⟩)
theorem zq{eq:AV->AV->Option Bool}{k:AV}{no:OR}{yes:AV->OR}(es:List Q7):zo eq k no yes (es.map Mj)=SR eq k no yes es:=by
 unfold zo
 refine Iz ?_
 rw[Qn,Qn]
 rfl
theorem P8{eq:AV->AV->Option Bool}{k:AV}{no:OR}{yes:AV->OR}(p:AV×AV)(l:List (AV×AV)){t:Bool}(h:eq k p.1=some t):zo eq k no yes (p::l)=cond t (yes p.2) (zo eq k no yes l):=by
 show SR eq k no yes (⟨p.1,p.2,0⟩::l.map λp=>⟨p.1,p.2,0⟩)=_
 unfold SR
 rw[show eq k (⟨p.1,p.2,0⟩:Q7).key=some t from h]
 rfl
theorem tK{eq:AV->AV->Option Bool}{k:AV}{no:OR}{yes:AV->OR}{l m:List (AV×AV)}(hp:l.Perm m)(ha: ∀p∈l,∃t,eq k p.1=some t)(hu:l.Pairwise λp q=>eq k p.1=some true->eq k q.1=some true->False):
  zo eq k no yes l=zo eq k no yes m:=by
 induction hp with
 |nil=>rfl
 |cons p _ ih=>
  obtain⟨t,ht⟩:=ha p (Zv ..)
  rw[P8 _ _ ht,P8 _ _ ht,ih (λq hq=>ha q (ZF _ hq)) (List.pairwise_cons.1 hu).2]
 |swap p q l=>
  obtain⟨t,ht⟩:=ha q (Zv ..)
  obtain⟨u,hu'⟩:=ha p (ZF _ (Zv ..))
  rw[P8 _ _ ht,P8 _ _ hu',P8 _ _ hu',P8 _ _ ht]
  cases t<;>cases u<;>try rfl
  exact((List.pairwise_cons.1 hu).1 p (Zv ..) ht hu').elim
 |trans h1 _ ih1 ih2=>
  rw[ih1 ha hu]
  exact ih2 (λq hq=>ha q (h1.mem_iff.2 hq)) ((h1.pairwise_iff (λh a b=>h b a)).1 hu)
theorem xn{kt:TypeId}{kd:TypeDesc}{eq:AV->AV->Option Bool}(hk:Ef P σ kt kd eq){k:AV}{no:OR}{yes:AV->OR}{es fs:List Q7}(hp:(fs.map Mj).Perm (es.map Mj))(ha:es.Pairwise te):
  SR eq k no yes es=.fail∨SR eq k no yes es=SR eq k no yes fs:=by
 cases es with
 |nil=>
  rw[YY] at hp
  have:=List.Perm.eq_nil hp
  cases fs with
  |nil=>exact .inr rfl
  |cons f fs=>cases this
 |cons e es=>
  cases he:eq k e.key with
  |none=>
   left
   unfold SR
   rw[he]
  |some t=>
   right
   have hall: ∀f∈e::es,∃u,eq k f.key=some u:=by
    intro f hf
    rcases Yb.1 hf with rfl|hf
    ·exact⟨t,he⟩
    ·obtain⟨u,hu,_⟩:=hk.apart k e.key f.key t ((List.pairwise_cons.1 ha).1 f hf).1 he
     exact⟨u,hu⟩
   rw[<-zq (e::es),<-zq fs]
   refine(tK hp.symm (λp hp=>?_) ?_)
   ·obtain⟨f,hf,rfl⟩:=Wx.1 hp
    exact hall f hf
   ·rw[List.pairwise_map]
    refine ha.imp λ{a b} hab h1 h2=>?_
    obtain⟨u,h3,h4⟩:=hk.apart k a.key b.key true hab.1 h1
    have h2:eq k b.key=some true:=h2
    rw[h3,h4 rfl] at h2
    cases h2
theorem Qc{kt:TypeId}{kd:TypeDesc}(hu:P.underlying kt=some kd){kv:Value}{l:List MapEntry}{r:Option (Nat×Value)}(h:Instr.findNow kd kv l 0=some r):(Instr.findKey kt kv l).run P w=.ok r w:=by
 simp only[Instr.findKey,Sem.run_bind,run_underlying hu,Result.andThen_ok,h,Sem.run_pure]
theorem oW(hs:W8 P σ H w)(hρ:Qk P σ tm ρ){o:Oper}{t:TypeId}{m k:Operand}{ok:Bool}(ho:o.op=.lookup t m k ok):XD P σ H w tm ρ o:=by
 unfold XD;rw[ho]
 refine Xr λd hu=>?_
 cases d<;>try exact trivial
 case map kt e=>
  refine zy λkd eq hk=>X1 λi hi=>U0 λz hz=>?_
  have g:=hρ m
  have CN: ∀{a:AV} {v:Value} {b:Bool},Yl σ a v->(execOp ρ o).run P w=.ok (.value (if ok then .tuple #[v,.bool b] else v)) w->Y3 P σ H w ((execOp ρ o).run P w) (wM ok H a b):=by
   intro a v b ha hr
   unfold wM
   cases ok with
   |true=>
    refine Z8 hs hr ?_
    simp only[Yl]
    exact⟨[v,.bool b],W6 ha (Qa (by simp[Yl])),rfl⟩
   |false=>exact Z8 hs hr ha
  have ve: ∀{v:Value},(Instr.lookup t (ρ m) (ρ k) ok).run P w=.ok v w->(execOp ρ o).run P w=.ok (.value v) w:=λh=>by
   simp only[execOp,ho];exact Vz h
  refine Gc (λhx=>?_) λb hx=>NV λob Fm=>?_
  ·rw[hx] at g
   refine CN (P6 σ z) (ve ?_)
   rw[OV g]
   have hf:=Qc (w:=w) (kv:=ρ k) (l:=(#[]:Array MapEntry).toList) hk.und (r:=none) rfl
   simp only[Instr.lookup,Sem.run_bind,run_underlying hu,Result.andThen_ok,Sem.run_pure,hk.check,hf,S3 hi hz]
  ·rw[hx] at g
   obtain⟨l,hl,e1⟩:=Ib g
   cases ob<;>try exact trivial
   case map es clock=>
    obtain⟨c,hc,ho'⟩:=hs.alive b _ l Fm hl
    obtain⟨ents,rfl,hr,_⟩:=ho'
    refine FL hk (hρ k) es ents.toList 0 hr (λq=>?_) λj a v ha q=>?_
    ·refine CN (P6 σ z) (ve ?_)
     rw[e1]
     have hf:=Qc (w:=w) hk.und q
     simp only[Instr.lookup,Sem.run_bind,run_underlying hu,Result.andThen_ok,PE hc,Sem.run_pure,hk.check,hf,S3 hi hz]
    ·refine CN ha (ve ?_)
     rw[e1]
     have hf:=Qc (w:=w) hk.und q
     simp only[Instr.lookup,Sem.run_bind,run_underlying hu,Result.andThen_ok,PE hc,Sem.run_pure,hk.check,hf]
   case cmap es=>
    obtain⟨c,hc,ho'⟩:=hs.alive b _ l Fm hl
    obtain⟨ents,clock,fs,rfl,hr,hp,ha⟩:=ho'
    show Y3 P σ H w _ (SR _ _ _ _ es)
    rcases xn hk hp ha with hx2|hx2
    ·rw[hx2];exact trivial
    rw[hx2]
    refine FL hk (hρ k) fs ents.toList 0 hr (λq=>?_) λj a v ha q=>?_
    ·refine CN (P6 σ z) (ve ?_)
     rw[e1]
     have hf:=Qc (w:=w) hk.und q
     simp only[Instr.lookup,Sem.run_bind,run_underlying hu,Result.andThen_ok,PE hc,Sem.run_pure,hk.check,hf,S3 hi hz]
    ·refine CN ha (ve ?_)
     rw[e1]
     have hf:=Qc (w:=w) hk.und q
     simp only[Instr.lookup,Sem.run_bind,run_underlying hu,Result.andThen_ok,PE hc,Sem.run_pure,hk.check,hf]
theorem sE(hs:W8 P σ H w){o:Oper}{t:TypeId}{r:Option Operand}(ho:o.op=.makeMap t r):XD P σ H w tm ρ o:=by
 unfold XD;rw[ho]
 cases r with
 |some r=>exact trivial
 |none=>
  refine Uc (Tr.alloc hs (.map [] 0) (.map #[] 0) ⟨w.heap.size,0,0,1⟩ rfl ⟨#[],rfl,K8,by simp[Fq]⟩) (x:=.map (some w.heap.size)) ?_ ?_
  ·simp only[execOp,ho]
   refine Vz ?_
   simp[Instr.makeMap]
  ·simp only[Yl];exact⟨_,Mp.put_same _ _ _,rfl⟩
theorem wU{r:Result Next}{kt:TypeId}{kd:TypeDesc}{eq:AV->AV->Option Bool}(hk:Ef P σ kt kd eq){k v:AV}{kv vv:Value}(hkr:Yl σ k kv)(hvr:Yl σ v vv){clock:Nat}: ∀(es:List Q7) (l:List MapEntry) (i:Nat) (done:List Q7->Nat->OR),YG σ es l->
  (Instr.findNow kd kv l i=some none->(∀e∈es,True)->Y3 P σ H w r (done (es++[⟨k,v,clock⟩]) (clock+1)))->
  (∀j a m u,es[j]? =some a->l[j]? =some m->M3 σ a m->Instr.sameBits 10000 m.key kv=true->Instr.findNow kd kv l i=some (some (i+j,u))->Y3 P σ H w r (done (es.set j ⟨k,v,a.born⟩) clock))->
  Y3 P σ H w r (xo eq k v clock done es)
 |[],l,i,done,h,h1,h2=>by
  simp only[YG] at h;subst h
  exact h1 rfl (by simp)
 |e::es,l,i,done,h,h1,h2=>by
  obtain⟨m,ms,g1,g2,rfl⟩:=h.cons_inv
  unfold xo
  cases he:eq k e.key with
  |none=>exact trivial
  |some t=>
   have hn:=hk.now _ _ _ _ t hkr g1.1 he
   cases t with
   |true=>
    have hb:=hk.bits _ _ _ _ hkr g1.1 he
    exact h2 0 e m m.val rfl rfl g1 hb (by simp only[Instr.findNow,hn,Z7])
   |false=>
    refine wU hk hkr hvr es ms (i+1) (λl' c=>done (e::l') c) g2 (λq _=>h1 ?_ (by simp)) (λj a m' u q1 q2 q3 q4 q5=>h2 (j+1) a m' u (by simpa using q1) (by simpa using q2) q3 q4 ?_)
    ·simp only[Instr.findNow,hn];exact q
    ·simp only[Instr.findNow,hn];rw[q5,show i+1+j=i+(j+1) by omega]
theorem YG.append: ∀{es es2:List Q7} {l l2:List MapEntry},YG σ es l->YG σ es2 l2->YG σ (es++es2) (l++l2)
 |[],es2,l,l2,h,h'=>by simp only[YG] at h;subst h;exact h'
 |a::es,es2,l,l2,h,h'=>by
  obtain⟨m,ms,g1,g2,rfl⟩:=h.cons_inv
  exact ND g1 (g2.append h')
theorem YG.set{a:Q7}{m:MapEntry}(hm:M3 σ a m): ∀{es:List Q7} {l:List MapEntry} (j:Nat),YG σ es l->YG σ (es.set j a) (l.set j m)
 |[],l,j,h=>by simp only[YG] at h;subst h;simpa using K8
 |e::es,l,0,h=>by
  obtain⟨m',ms,g1,g2,rfl⟩:=h.cons_inv
  exact ND hm g2
 |e::es,l,j+1,h=>by
  obtain⟨m',ms,g1,g2,rfl⟩:=h.cons_inv
  exact ND g1 (g2.set hm j)
theorem sS{es:List Q7}{c j:Nat}{a:Q7}{k v:AV}(h:Fq es c)(ha:es[j]? =some a):Fq (es.set j ⟨k,v,a.born⟩) c:=by
 have key:(es.set j ⟨k,v,a.born⟩).map (·.born)=es.map (·.born):=by
  apply VC
  intro i
  simp only[Z1,List.getElem?_set]
  by_cases hij:j=i
  ·subst hij
   have hlt:j<es.length:=by
    rcases Nat.lt_or_ge j es.length with h|h
    ·exact h
    ·rw[Xg h] at ha;cases ha
   rw[if_pos rfl,if_pos hlt,ha]
   rfl
  ·simp[hij]
 obtain⟨h1,h2⟩:=h
 constructor
 ·have:((es.set j ⟨k,v,a.born⟩).map (·.born)).Pairwise (· < ·):=by rw[key];exact List.pairwise_map.2 h1
  exact List.pairwise_map.1 this
 ·intro e he
  have:e.born∈(es.set j ⟨k,v,a.born⟩).map (·.born):=Sr he
  rw[key] at this
  obtain⟨e',he',h3⟩:=Wx.1 this
  rw[<-h3];exact h2 e' he'
theorem vZ{es:List Q7}{c:Nat}{k v:AV}(h:Fq es c):Fq (es++[⟨k,v,c⟩]) (c+1):=by
 obtain⟨h1,h2⟩:=h
 constructor
 ·rw[List.pairwise_append]
  refine⟨h1,by simp,λa ha b hb=>?_⟩
  rw[YJ] at hb;subst hb
  exact h2 a ha
 ·intro e he
  rcases Zu.1 he with he|he
  ·have:=h2 e he;omega
  ·rw[YJ] at he;subst he;exact Yq c
theorem GY{g:Nat}{es:Array MapEntry}{c:Nat}(ob:Go.Obj)(h:w.heap[g]? =some (.map es c)): ∃w',(setObj g ob).run P w=.ok () w'∧AT w w' g ob:=by
 refine⟨{w with heap:=w.heap.setIfInBounds g ob},by simp[setObj,Sem.run,h],⟨by simp,?_,λk hk=>?_,rfl,rfl,rfl⟩⟩
 ·have:g<w.heap.size:=(ZN.1 h).1
  simp[YQ,this]
 ·simp only[YQ]
  rw[if_neg (λe=>hk e.symm)]
theorem wT(hs:W8 P σ H w)(hρ:Qk P σ tm ρ){o:Oper}{t kt e:TypeId}{m k x:Operand}{kd:TypeDesc}{eq:AV->AV->Option Bool}(hu:P.underlying t=some (.map kt e))(hk:Ef P σ kt kd eq)
  (hex: ∀w',(Instr.mapUpdate t (ρ m) (ρ k) (ρ x)).run P w=.ok () w'->(execOp ρ o).run P w=.ok .skip w'):
  Y3 P σ H w ((execOp ρ o).run P w) (GE eq (YP P m) (YP P k) (YP P x) tm H):=by
 have g:=hρ m
 refine Gc (λ_=>trivial) λb hx=>NV λob Fm=>?_
 rw[hx] at g
 obtain⟨l,hl,e1⟩:=Ib g
 cases ob<;>try exact trivial
 case map es clock=>
  refine Yd λhro=>?_
  have hwr:Wr H b:=⟨ZQ hro,_,Fm,(λr h=>by cases h),λh=>by cases h⟩
  obtain⟨c,hc,ho'⟩:=hs.alive b _ l Fm hl
  obtain⟨ents,rfl,hr,hris⟩:=ho'
  refine wU hk (hρ k) (hρ x) es ents.toList 0 _ hr (λq _=>?_) λj a mm u q1 q2 q3 q4 q5=>?_
  ·obtain⟨w',hrun,hw⟩:=GY (P:=P) (.map (ents.push {key:=ρ k,val:=ρ x,born:=clock}) (clock+1)) hc
   refine⟨σ,w',undef,.inr ⟨hex w' ?_,rfl⟩,by simp[YZ,undef,Yl,YO],Tr.write hs Fm hl hwr hw.size hw.new hw.old ⟨_,rfl,?_,vZ hris⟩ hw.tape hw.os hw.out⟩
   ·rw[e1]
    have hf:=Qc (w:=w) hk.und q
    simp only[Instr.mapUpdate,Sem.run_bind,run_underlying hu,Result.andThen_ok,PE hc,hk.check,hf,hrun]
   ·rw[Array.toList_push]
    exact hr.append (ND ⟨hρ k,hρ x,rfl⟩ K8)
  ·obtain⟨w',hrun,hw⟩:=GY (P:=P) (.map (ents.modify j λe=>{e with key:=ρ k,val:=ρ x}) clock) hc
   refine⟨σ,w',undef,.inr ⟨hex w' ?_,rfl⟩,by simp[YZ,undef,Yl,YO],Tr.write hs Fm hl hwr hw.size hw.new hw.old ⟨_,rfl,?_,sS hris q1⟩ hw.tape hw.os hw.out⟩
   ·rw[e1]
    have hf:=Qc (w:=w) hk.und q5
    rw[Zn] at hf
    have hej:ents[j]? =some mm:=by rw[<-Yh];exact q2
    simp only[Instr.mapUpdate,Sem.run_bind,run_underlying hu,Result.andThen_ok,PE hc,hk.check,hf,hej,Xv,Option.getD_some,Instr.keyThatStays,q4,if_true,Sem.run_pure,hrun]
   ·have e2:(ents.modify j λe=>{e with key:=ρ k,val:=ρ x}).toList=ents.toList.set j {mm with key:=ρ k,val:=ρ x}:=by
     apply VC
     intro i
     rw[Yh,W5,List.getElem?_set]
     by_cases hij:j=i
     ·subst hij
      have hlt:j<ents.toList.length:=by
       rcases Nat.lt_or_ge j ents.toList.length with h|h
       ·exact h
       ·rw[Xg h] at q2;cases q2
      have hej:ents[j]? =some mm:=by rw[<-Yh];exact q2
      rw[if_pos rfl,if_pos rfl,if_pos hlt,hej];rfl
     ·rw[if_neg hij,if_neg hij,Yh]
    rw[e2]
    exact YG.set (a:=⟨YP P k tm,YP P x tm,a.born⟩) (m:={mm with key:=ρ k,val:=ρ x}) ⟨hρ k,hρ x,q3.2.2⟩ j hr
theorem GI(hs:W8 P σ H w)(hρ:Qk P σ tm ρ){o:Oper}{t:TypeId}{m k x:Operand}(ho:o.op=.mapUpdate t m k x∨o.op=.insert t m k x):XD P σ H w tm ρ o:=by
 have hex: ∀w',(Instr.mapUpdate t (ρ m) (ρ k) (ρ x)).run P w=.ok () w'->(execOp ρ o).run P w=.ok .skip w':=by
  intro w' h
  rcases ho with ho|ho<;>simp[execOp,ho,h]
 have key:Y3 P σ H w ((execOp ρ o).run P w) (Uo P t (λd=>match d with|.map kt _=>Uo P kt<|ku λeq=>GE eq (YP P m) (YP P k) (YP P x)|_=>Un) tm H):=by
  refine Xr λd hu=>?_
  cases d<;>try exact trivial
  case map kt e=>exact zy λkd eq hk=>wT hs hρ hu hk hex
 unfold XD
 rcases ho with ho|ho
 ·rw[ho];exact key
 ·rw[ho];exact key
theorem jl(hs:W8 P σ H w)(hρ:Qk P σ tm ρ){o:Oper}{t:TypeId}{x:Operand}(ho:o.op=.range t x):XD P σ H w tm ρ o:=by
 unfold XD;rw[ho]
 refine Xr λd hu=>?_
 have g:=hρ x
 have hex: ∀{v:Value} {w':World},(Instr.range t (ρ x)).run P w=.ok v w'->(execOp ρ o).run P w=.ok (.value v) w':=λh=>by
  simp only[execOp,ho];exact Vz h
 cases d<;>try exact trivial
 case string=>
  refine OG λs hx=>?_
  rw[hx] at g
  refine Uc (Tr.alloc hs (.siter s 0) (.stringIter ⟨s.toArray⟩ 0) ⟨w.heap.size,0,0,1⟩ rfl ⟨rfl,rfl⟩) (hex ?_) (Ic rfl)
  rw[U6 g]
  simp[Instr.range,run_underlying hu]
 case map kt e=>
  refine Gc (λhx=>?_) λb hx=>NV λob Fm=>?_
  ·rw[hx] at g
   refine Uc (Tr.alloc hs (.miter none 0 none) (.mapIter none 0 #[] 0) ⟨w.heap.size,0,0,1⟩ rfl ⟨#[],0,rfl,(λ_ h=>by cases h),rfl,rfl,rfl⟩) (hex ?_) (Ic rfl)
   rw[OV g]
   simp[Instr.range,run_underlying hu]
  ·rw[hx] at g
   obtain⟨l,hl,e1⟩:=Ib g
   cases ob<;>try exact trivial
   case map es clock=>
    obtain⟨c,hc,ho'⟩:=hs.alive b _ l Fm hl
    obtain⟨ents,rfl,hr,_⟩:=ho'
    have hlt:=hs.dom b l hl
    have hput:(σ.put H.nx ⟨w.heap.size,0,0,1⟩) b=some l:=by rw[Mp.put_old (by omega)];exact hl
    refine Uc (Tr.alloc hs (.miter (some b) clock none) (.mapIter (some l.blk) clock #[] clock) ⟨w.heap.size,0,0,1⟩ rfl ⟨#[],clock,?_,?_,rfl,rfl,rfl⟩) (hex ?_) (Ic rfl)
    ·simp[hput]
    ·intro b' hb';cases hb';rw[hput];rfl
    ·rw[e1]
     simp[Instr.range,run_underlying hu,PE hc]
theorem ua{b:Nat}{s:ByteArray}{c:Nat}(h:w.heap[b]? =some (.stringIter s c)):(getObj b).run P w=.ok (.stringIter s c) w:=by simp[getObj,Sem.run,h]
theorem Bq{b:Nat}{m:Option Nat}{a:Nat}{s:Array Nat}{c:Nat}(h:w.heap[b]? =some (.mapIter m a s c)):(getObj b).run P w=.ok (.mapIter m a s c) w:=by simp[getObj,Sem.run,h]
theorem AO{g:Nat}{s:ByteArray}{c:Nat}(ob:Go.Obj)(h:w.heap[g]? =some (.stringIter s c)): ∃w',(setObj g ob).run P w=.ok () w'∧AT w w' g ob:=by
 refine⟨{w with heap:=w.heap.setIfInBounds g ob},by simp[setObj,Sem.run,h],⟨by simp,?_,λk hk=>?_,rfl,rfl,rfl⟩⟩
 ·have:g<w.heap.size:=(ZN.1 h).1
  simp[YQ,this]
 ·simp only[YQ]
  rw[if_neg (λe=>hk e.symm)]
theorem ez(hs:W8 P σ H w)(hρ:Qk P σ tm ρ){o:Oper}{x:Operand}{b:Bool}(ho:o.op=.next x b):XD P σ H w tm ρ o:=by
 unfold XD;rw[ho]
 refine Vh (λhb=>?_) λ_=>SZ
 subst hb
 have g:=hρ x
 refine Pr λb off hx=>Yd λh0=>Yd λhro=>NV λob Fm=>?_
 rw[hx] at g
 obtain⟨l,hl,e1⟩:=U5 g
 rw[Yx] at h0
 have h0:off=0:=Zp h0
 subst h0
 cases ob<;>try exact trivial
 case siter s pos=>
  have hwr:Wr H b:=⟨ZQ hro,_,Fm,(λr h=>by cases h),λh=>by cases h⟩
  obtain⟨c,hc,ho'⟩:=hs.alive b _ l Fm hl
  obtain⟨rfl,hbase⟩:=ho'
  rw[hbase] at e1
  have hex: ∀{v:Value} {w':World},(Instr.next (ρ x) true o.type).run P w=.ok v w'->(execOp ρ o).run P w=.ok (.value v) w':=λh=>by
   simp only[execOp,ho];exact Vz h
  have hsz:(ByteArray.mk s.toArray).size=s.length:=MP s
  refine Ti (λhlt=>?_) λhlt=>?_
  ·rw[Xh,Yt] at hlt
   have hlt:pos<s.length:=Zp hlt
   cases hdec:Utf8.decode ⟨s.toArray⟩ pos with
   |mk ch wd=>
   obtain⟨w',hrun,hw⟩:=AO (P:=P) (.stringIter ⟨s.toArray⟩ (pos+wd)) hc
   refine Uc (Tr.write hs Fm hl hwr hw.size hw.new hw.old ⟨rfl,hbase⟩ hw.tape hw.os hw.out) (x:=.tuple #[.bool true,goInt pos,.int .i32 ch]) (hex ?_) ?_
   ·rw[e1]
    simp only[Instr.next,Zn,Sem.run_bind,ua hc,Result.andThen_ok,hsz,if_pos hlt,hdec,hrun,Sem.run_pure]
   ·simp only[Yl]
    exact⟨[.bool true,goInt pos,.int .i32 ch],W6 (by simp[Yl]) (W6 (by simp[Yl,goInt]) (Qa (by simp[Yl]))),rfl⟩
  ·rw[Xh,Yt] at hlt
   have hlt: ¬(pos<s.length):=of_decide_eq_false hlt
   refine Z8 hs (x:=.tuple #[.bool false]) (hex ?_) ?_
   ·rw[e1]
    simp only[Instr.next,Zn,Sem.run_bind,ua hc,Result.andThen_ok,hsz,if_neg hlt,Sem.run_pure]
   ·simp only[Yl]
    exact⟨[.bool false],Qa (by simp[Yl]),rfl⟩
theorem zx{r:Result Next}{n:Nat}{k:Q7->OR}: ∀(es:List Q7) (l:List MapEntry),YG σ es l->(∀a m,M3 σ a m->l.find? (·.born==n)=some m->Y3 P σ H w r (k a))->Y3 P σ H w r (yV n k es)
 |[],l,h,g=>trivial
 |a::es,l,h,g=>by
  obtain⟨m,ms,h1,h2,rfl⟩:=h.cons_inv
  refine Ti (λhe=>g a m h1 ?_) λhe=>zx es ms h2 λa' m' h3 h4=>g a' m' h3 ?_
  ·rw[Yx] at he
   have he:a.born=n:=Zp he
   rw[List.find?_cons_of_pos (by simp[<-h1.2.2,he])]
  ·rw[Yx] at he
   have he: ¬a.born=n:=of_decide_eq_false he
   rw[List.find?_cons_of_neg (by simp[<-h1.2.2,he])]
   exact h4
theorem jg(hs:W8 P σ H w)(hρ:Qk P σ tm ρ){o:Oper}{x:Operand}(ho:o.op=.entry x):XD P σ H w tm ρ o:=by
 unfold XD;rw[ho]
 have g:=hρ x
 refine Pr λb off hx=>Yd λh0=>NV λob Fm=>?_
 rw[hx] at g
 obtain⟨l,hl,e1⟩:=U5 g
 rw[Yx] at h0
 have h0:off=0:=Zp h0
 subst h0
 show Y3 P σ H w _ (yH ob _)
 unfold yH
 split
 ·rename_i m since n st
  obtain⟨c,hc,ho'⟩:=hs.alive b _ l Fm hl
  obtain⟨seen,st',rfl,hm,hbase,hback,rfl⟩:=ho'
  rw[hbase] at e1
  refine NV λom hom=>?_
  cases om<;>try exact trivial
  case map es clock=>
   refine Yd λhcl=>?_
   rw[Yx] at hcl
   have hcl:clock=st':=Zp hcl
   subst hcl
   obtain⟨lm,hlm⟩:=Ub.1 (hm m rfl)
   obtain⟨cm,hcm,ZgF⟩:=hs.alive m _ lm hom hlm
   obtain⟨ents,rfl,hr,_⟩:=ZgF
   refine zx es ents.toList hr λa me hae hf=>?_
   refine Z8 hs (x:=.tuple #[me.key,me.val]) ?_ ?_
   ·simp only[execOp,ho]
    refine Vz ?_
    rw[e1]
    have hf':ents.find? (λx=>x.born==n)=some me:=by rw[<-Array.find?_toList];exact hf
    simp only[Option.bind_some,hlm,Xv] at hc
    simp only[Instr.entry,Zn,Sem.run_bind,Bq hc,Result.andThen_ok,hback,PE hcm,bne_self_eq_false,XA,if_false,hf',Sem.run_pure]
   ·simp only[Yl]
    exact⟨[me.key,me.val],W6 hae.1 (Qa hae.2.1),rfl⟩
 ·trivial
theorem sx(hs:W8 P σ H w)(hρ:Qk P σ tm ρ){o:Oper}{x:Operand}{xt t:TypeId}{ok:Bool}(ho:o.op=.typeAssert x xt t ok):XD P σ H w tm ρ o:=by
 unfold XD;rw[ho]
 refine X1 λi hi=>U0 λz hz=>Xr λd hu=>?_
 have g:=hρ x
 have hex: ∀{v:Value} {w':World},(Instr.typeAssert (ρ x) xt t ok).run P w=.ok v w'->(execOp ρ o).run P w=.ok (.value v) w':=λh=>by
  simp only[execOp,ho];exact Vz h
 have qw:=S3 (w:=w) hi hz
 have no:(∀(h:ok=true),(Instr.typeAssert (ρ x) xt t ok).run P w=.ok (.tuple #[z,.bool false]) w)->Y3 P σ H w ((execOp ρ o).run P w) (Po (Vm z) ok H none):=by
  intro h
  cases ok with
  |false=>exact trivial
  |true=>
   refine Z8 hs (hex (h rfl)) ?_
   simp only[Yl]
   exact⟨[z,.bool false],W6 (P6 σ z) (Qa (by simp[Yl])),rfl⟩
 have yes: ∀{a:AV} {v:Value},Yl σ a v->(Instr.typeAssert (ρ x) xt t ok).run P w=.ok (if ok then .tuple #[v,.bool true] else v) w->Y3 P σ H w ((execOp ρ o).run P w) (Po (Vm z) ok H (some a)):=by
  intro a v ha h
  cases ok with
  |false=>exact Z8 hs (hex h) ha
  |true=>
   refine Z8 hs (hex h) ?_
   simp only[Yl]
   exact⟨[v,.bool true],W6 ha (Qa (by simp[Yl])),rfl⟩
 by_cases hd: ∃ms,d=.interface ms
 ·obtain⟨ms,rfl⟩:=hd
  show Y3 P σ H w _ (vD (YP P x) P (fH P t) (Vm z) ok tm H)
  have hms:fH P t=ms:=by unfold fH;rw[hu]
  rw[hms]
  refine NU (λhx=>?_) λu v hx=>QW λiu hiu=>?_
  ·rw[hx] at g
   have g:=PC g
   refine no λh=>?_
   rw[g]
   simp[Instr.typeAssert,run_underlying hu,h,qw]
  ·rw[hx] at g
   obtain⟨y,hy,e1⟩:=Sp g
   have hti:(typeInfo u).run P w=.ok iu w:=by simp[typeInfo,hiu]
   cases hmm:Instr.missingMethod ms iu.methods with
   |none=>
    refine yes (v:=ρ x) (by rw[<-hx];exact hρ x) ?_
    rw[e1]
    simp[Instr.typeAssert,run_underlying hu,hti,hmm]
   |some m=>
    refine no λh=>?_
    rw[e1]
    simp[Instr.typeAssert,run_underlying hu,hti,hmm,h,qw]
 ·have hd: ∀ms,d≠.interface ms:=λms h=>hd ⟨ms,h⟩
  have key:Y3 P σ H w ((execOp ρ o).run P w) (Ox (YP P x) t (Vm z) ok tm H):=by
   refine NU (λhx=>?_) λu v hx=>?_
   ·rw[hx] at g
    have g:=PC g
    refine no λh=>?_
    rw[g]
    cases d<;>first
     |exact absurd rfl (hd _)
     |simp[Instr.typeAssert,run_underlying hu,h,qw]
   ·rw[hx] at g
    obtain⟨y,hy,e1⟩:=Sp g
    rw[Yx]
    by_cases hut:u=t
    ·rw[Zg hut]
     refine yes hy ?_
     rw[e1]
     cases d<;>first
      |exact absurd rfl (hd _)
      |simp[Instr.typeAssert,run_underlying hu,hut]
    ·rw[Zd hut]
     refine no λh=>?_
     rw[e1]
     cases d<;>first
      |exact absurd rfl (hd _)
      |simp[Instr.typeAssert,run_underlying hu,hut,h,qw]
  cases d<;>first
   |exact absurd rfl (hd _)
   |exact key
theorem zZ(hρ:Qk P σ tm ρ)(l:Array Operand):YO σ (evs tm (args P l)) (l.map ρ).toList:=by
 have:=JF hρ l.toList
 unfold args
 simpa using this
theorem I3{r:Result Next}{f:Nat}{as:List AV}{vs:List Value}(hr:YO σ as vs)(h:r=(callFunc f ⟨vs⟩).run P w):Y3 P σ H w r (.oth (.call f as H)):=⟨rfl,vs,hr,h⟩
theorem yX{r:Result Next}{name:String}{u:Nat}{k:Nat->OR}
  (h: ∀g,(∀(n:Nat) (v:Value),(method (n+1) u v name).run P w=.ok (g,v) w)->Y3 P σ H w r (k g)):Y3 P σ H w r (J4 P name u k):=by
 refine QW λi hi=>QW λm hm=>Yd λhp=>?_
 have hti:(typeInfo u).run P w=.ok i w:=by simp[typeInfo,hi]
 have hpl:m.path.toList=[]:=by
  have:m.path= #[]:=by simpa using hp
  rw[this]
 cases hf:m.func with
 |none=>exact trivial
 |some q=>
  obtain⟨g,ptr⟩:=q
  show Y3 P σ H w r (match P.underlying u with
   |some (.pointer _)=>ZR ptr (k g)
   |some _=>cond ptr .fail (k g)
   |none=>.fail)
  cases hu:P.underlying u with
  |none=>exact trivial
  |some d=>
   have base: ∀(n:Nat) (v:Value),(method (n+1) u v name).run P w=(do pure (g,<-receiverAt u (.val v) ptr (if m.path.isEmpty then some ((name.splitOn ".").getLastD name) else none)):Sem (FuncId×Value)).run P w:=by
    intro n v
    simp only[method,Sem.run_bind,hti,Result.andThen_ok,hm,hpl,follow,Sem.run_pure,hf]
   cases d<;>first
    |(refine Yd λZgK=>h g λn v=>?_
      subst ZgK
      rw[base]
      simp[receiverAt,run_underlying hu,Place.get]
      done)
    |(cases ptr with
      |true=>exact trivial
      |false=>
       refine h g λn v=>?_
       rw[base]
       simp[receiverAt,run_underlying hu,Place.get])
theorem Bp{name:String}{u g:Nat}{v:Value}{args:Array Value}(h: ∀(n:Nat) (v:Value),(method (n+1) u v name).run P w=.ok (g,v) w):(callMethod (.iface u v) name args).run P w=(callFunc g (#[v]++args)).run P w:=by
 have:(P.types.size+Made.depth)=(P.types.size+Made.depth - 1)+1:=by
  have:0<Made.depth:=by decide
  omega
 simp only[callMethod,Sem.run_bind,run_program,Result.andThen_ok]
 rw[this,h]
 rfl
theorem Eu{r:Result Next}{n:String}{u:Nat}{a:AV}{x:Value}{as:List AV}{vs:List Value}(ha:Yl σ a x)(hr:YO σ as vs)(h:r=(callMethod (.iface u x) n ⟨vs⟩).run P w):
  Y3 P σ H w r (J4 P n u λg=>.oth (.call g (a::as) H)):=by
 refine yX λg hm=>I3 (vs:=x::vs) (W6 ha hr) ?_
 rw[h,Bp hm]
 congr 2
 apply Array.ext'
 simp
theorem EF(name:String)(cap:Array Value)(r:Value)(as:Array Value):invoke (.fn (.method name) cap) (#[r]++as)=callMethod r name ⟨as.toList⟩:=by
 have h1:(#[r]++as)[0]? =some r:=by rw[Array.getElem?_append_left (by simp)];rfl
 have h2:(#[r]++as).extract 1 (#[r]++as).size=⟨as.toList⟩:=by
  apply Array.ext'
  simp[Vp]
 simp only[invoke,h1,h2]
theorem f8(hs:W8 P σ H w)(hρ:Qk P σ tm ρ){o:Oper}{c:Call}(ho:o.op=.call c)(hb: ∀b,c.callee≠.builtin b):XD P σ H w tm ρ o:=by
 unfold XD;rw[ho]
 have hargs:=zZ hρ c.args
 have hex:(execOp ρ o).run P w=(do let d<-resolve ρ c o.type;invoke d.target d.args:Sem Next).run P w:=by simp only[execOp,ho]
 rw[hex]
 show Y3 P σ H w _ (mK P c tm H)
 unfold mK
 cases hc:c.callee with
 |builtin b=>exact absurd hc (hb b)
 |invoke rv name=>
  have g:=hρ rv
  refine NU (λ_=>trivial) λu a hx=>?_
  rw[hx] at g
  obtain⟨x,hx',e1⟩:=Sp g
  refine Eu hx' hargs ?_
  simp only[resolve,hc,Sem.run_bind,Sem.run_pure,Result.andThen_ok,EF,e1]
 |value f=>
  have gen:Y3 P σ H w ((do let d<-resolve ρ c o.type;invoke d.target d.args:Sem Next).run P w) (SK (YP P f) P (args P c.args) tm H):=by
   have g:=hρ f
   unfold SK
   split
   ·rename_i fn a b hx
    rw[hx] at g
    obtain⟨x,y,h1,h2,e1⟩:=LI g
    refine I3 (h1.append (hargs.append h2)) ?_
    simp only[resolve,hc,e1,Deferred.ofValue,Sem.run_bind,Sem.run_pure,Result.andThen_ok,invoke]
    congr 2
    apply Array.ext'
    simp
   ·rename_i n rv hx
    rw[hx] at g
    simp only[Yl] at g
    obtain⟨x,h1,e1⟩:=g
    refine NU (λ_=>trivial) λu a hrv=>?_
    rw[hrv] at h1
    obtain⟨y,hy,e2⟩:=Sp h1
    refine Eu hy hargs ?_
    simp only[resolve,hc,e1,Deferred.ofValue,Sem.run_bind,Sem.run_pure,Result.andThen_ok,e2]
    exact congrArg (λs=>s.run P w) (EF n #[] (.iface u y) (Array.map ρ c.args))
   ·rename_i b hx
    rw[hx] at g
    simp only[Yl] at g
    obtain⟨l,hl,e1⟩:=g
    refine⟨rfl,l,_,hl,hargs,?_⟩
    simp only[resolve,hc,e1,Deferred.ofValue,Sem.run_bind,Sem.run_pure,Result.andThen_ok,invoke]
    congr 2
    apply Array.ext'
    simp
   ·trivial
  cases f with
  |func fn=>
   have g:=hρ (.func fn)
   have g:Yl σ (.func fn [] []) (ρ (.func fn)):=g
   obtain⟨x,y,h1,h2,e1⟩:=LI g
   have h1:=h1.nil_inv
   have h2:=h2.nil_inv
   subst h1;subst h2
   refine I3 hargs ?_
   simp only[resolve,hc,e1,Deferred.ofValue,Sem.run_bind,Sem.run_pure,Result.andThen_ok,invoke]
   congr 2
   apply Array.ext'
   simp
  |tmp t=>exact gen
  |const v=>exact gen
  |global v=>exact gen
theorem DV{r:Result Next}{a:AV}{x:Value}(ha:Yl σ a x)(h: ∀v,(Instr.panic x).run P w=.halt v w->r=.halt v w):Y3 P σ H w r (QN a .fail λ_ _=>.oth (.pan a H)):=by
 refine NU (λ_=>trivial) λu b hx=>?_
 rw[hx] at ha
 obtain⟨y,hy,e1⟩:=Sp ha
 refine⟨rfl,x,by rw[hx];exact ha,h _ ?_⟩
 rw[e1]
 rfl
theorem jk(hs:W8 P σ H w)(hρ:Qk P σ tm ρ){o:Oper}{x:Operand}(ho:o.op=.panic x):XD P σ H w tm ρ o:=by
 unfold XD;rw[ho]
 refine DV (hρ x) λv h=>?_
 simp only[execOp,ho]
 simp[h]
theorem oY(hs:W8 P σ H w)(hρ:Qk P σ tm ρ){o:Oper}{xs:List Operand}{ts:List TypeId}(ho:o.op=.call ⟨.builtin .panic,⟨xs⟩,⟨ts⟩⟩):XD P σ H w tm ρ o:=by
 refine TK ho λcs=>?_
 rcases xs with _|⟨x,_|⟨_,_⟩⟩<;>try exact trivial
 refine DV (hρ x) λv h=>?_
 show((do pure (Next.value (<-Instr.panic (ρ x)))):Sem Next).run P w=_
 simp[h]
theorem sG(hs:W8 P σ H w)(hρ:Qk P σ tm ρ){o:Oper}{xs:List Operand}{ts:List TypeId}(ho:o.op=.call ⟨.builtin .recover,⟨xs⟩,⟨ts⟩⟩):XD P σ H w tm ρ o:=by
 refine TK ho λcs=>?_
 rfl
theorem jf(hs:W8 P σ H w)(hρ:Qk P σ tm ρ){o:Oper}{c:Call}(ho:o.op=.defer c):XD P σ H w tm ρ o:=by
 unfold XD;rw[ho]
 show Y3 P σ H w _ ((match c.callee with|.value f=>C9 (YP P f) (args P c.args)|_=>Un) tm H)
 cases hc:c.callee with
 |builtin b=>exact trivial
 |invoke rv name=>exact trivial
 |value f=>
  intro g a b hx
  have g1:=hρ f
  rw[hx] at g1
  obtain⟨x,y,h1,h2,e1⟩:=LI g1
  refine⟨x,_,y,h1,zZ hρ c.args,h2,?_⟩
  simp only[execOp,ho,resolve,hc,e1,Deferred.ofValue,Sem.run_bind,Sem.run_pure,Result.andThen_ok]
  congr 3
  apply Array.ext'
  simp
theorem Ll(hs:W8 P σ H w)(hρ:Qk P σ tm ρ)(o:Oper):XD P σ H w tm ρ o:=by
 cases ho:o.op with
 |move x=>exact eu hs hρ ho
 |assign x=>exact oU hs hρ ho
 |pick c a b=>exact eB hs hρ ho
 |alloc t=>exact jd hs ho
 |box t x=>exact ZbE hs hρ ho
 |build t ps=>exact je hs hρ ho
 |buildSlice t n ps=>exact oV hs hρ ho
 |load t a=>exact ek hs hρ ho
 |store t a x=>exact jn hs hρ ho
 |nilCheck x=>exact ZbO hs hρ ho
 |binOp op t x y u=>cases op with
  |add=>exact ZbD hs hρ ho
  |sub=>exact ZbT hs hρ ho
  |mul=>exact ZbM hs hρ ho
  |quo=>exact ZbP hs hρ ho
  |rem=>exact ZbQ hs hρ ho
  |and=>unfold XD;have h:=Dl (f:=T8) hs hρ ho (.inl ⟨rfl,rfl⟩);rw[ho];exact h
  |or=>unfold XD;have h:=Dl (f:=Oi) hs hρ ho (.inr (.inl ⟨rfl,rfl⟩));rw[ho];exact h
  |xor=>unfold XD;have h:=Dl (f:=PY) hs hρ ho (.inr (.inr (.inl ⟨rfl,rfl⟩)));rw[ho];exact h
  |andNot=>unfold XD;have h:=Dl (f:=HL) hs hρ ho (.inr (.inr (.inr ⟨rfl,rfl⟩)));rw[ho];exact h
  |shl=>exact ZbR hs hρ ho
  |shr=>exact ZbS hs hρ ho
  |eql=>exact ZbG hs hρ ho
  |neq=>exact ZbN hs hρ ho
  |lss=>exact ZbL hs hρ ho
  |gtr=>exact ZbI hs hρ ho
  |leq=>exact ZbK hs hρ ho
  |geq=>exact ZbH hs hρ ho
 |unOp op t x=>exact Zeo hs hρ ho
 |convert s d x=>exact sy hs hρ ho
 |makeInterface t x=>
  unfold XD;rw[ho]
  refine Xr λd hu=>?_
  have h:=λhd=>eo hs hρ ho hu hd
  cases d<;>first
   |exact trivial
   |exact h rfl
 |makeFunc fn a b=>exact oX hs hρ ho
 |makeMap t r=>exact sE hs ho
 |mapUpdate t m k x=>exact GI hs hρ (.inl ho)
 |insert t m k x=>exact GI hs hρ (.inr ho)
 |lookup t m k ok=>exact oW hs hρ ho
 |makeSlice t l c=>exact sF hs hρ ho
 |slice t x lo hi mx=>exact jm hs hρ ho
 |fieldAddr t x f=>exact xB hs hρ ho
 |field t x f=>exact ji hs hρ ho
 |indexAddr t x i=>exact xC hs hρ ho
 |index t x i=>exact jj hs hρ ho
 |typeAssert x xt t ok=>exact sx hs hρ ho
 |extract x i=>exact sD hs hρ ho
 |call c=>
  by_cases hb: ∃b,c.callee=.builtin b
  ·obtain⟨b,hb⟩:=hb
   obtain⟨callee,⟨xs⟩,⟨ts⟩⟩:=c
   subst hb
   cases b with
   |append=>exact oT hs hρ ho
   |copy=>exact eg hs hρ ho
   |len=>exact ZbJ hs hρ ho
   |cap=>exact ZbF hs hρ ho
   |min=>exact zV (mx:=false) hs hρ ho
   |max=>exact zV (mx:=true) hs hρ ho
   |unsafeString=>exact eC hs hρ ho
   |unsafeSliceData=>exact oZ hs hρ ho
   |panic=>exact oY hs hρ ho
   |recover=>exact sG hs hρ ho
   |_=>unfold XD;rw[ho];exact trivial
  ·exact f8 hs hρ ho λb h=>hb ⟨b,h⟩
 |defer c=>exact jf hs hρ ho
 |panic x=>exact jk hs hρ ho
 |range t x=>exact jl hs hρ ho
 |next x b=>exact ez hs hρ ho
 |entry x=>exact jg hs hρ ho
 |_=>unfold XD;rw[ho];exact trivial
end
end
end Go.AI
