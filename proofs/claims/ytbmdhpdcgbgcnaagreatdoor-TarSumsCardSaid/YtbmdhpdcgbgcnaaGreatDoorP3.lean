/- Every operation of the interpreter's does what the model's does: proved for every world that is told. -/
import Derived.Test.YtbmdhpdcgbgcnaaGreatDoorP2
import Derived.Laws.BytesString
import Derived.Laws.Append
import Derived.Laws.StructEq
set_option maxRecDepth 1000000
set_option maxHeartbeats 0
set_option linter.unusedVariables false
set_option linter.unusedSimpArgs false
namespace Go.AI
open Go
noncomputable section
section
variable {P:Program} {σ:Mp} {H:Heap} {w:World} {tm:TM} {ρ:Operand->Value}
theorem FY: ∀s:List UInt8,HF s=s.map λb=>AV.int .u8 (.ofNat b.toNat)
 |[]=>rfl
 |b::s=>by simp[HF,FY s]
theorem Df(σ:Mp): ∀s:List UInt8,Xj σ (HF s) (s.map λb=>Value.int .u8 b.toNat)
 |[]=>V1
 |b::s=>WB (by simp[YU]) (Df σ s)
theorem xC(s:List UInt8): ∀v∈s.map (λb=>Value.int .u8 b.toNat),v.oneCell'=true:=by
 intro v hv
 obtain⟨b,_,rfl⟩:=Xq.1 hv
 rfl
def yF(n:Int):UInt8:=UInt8.ofNat n.toNat
theorem N7{r:Result Next}{f:List UInt8->OR}: ∀(as:List AV) (vs:List Value),Xj σ as vs->(∀ns:List Int,vs=ns.map (Value.int .u8)->Xx P σ H w r (f (ns.map yF)))->Xx P σ H w r (Pu f as)
 |[],vs,h,g=>g [] (by rw[h.nil_inv];rfl)
 |a::as,vs,h,g=>by
  obtain⟨v,vs',h1,h2,rfl⟩:=h.cons_inv
  unfold Pu
  split
  ·rename_i n
   have h1:=X3 h1
   subst h1
   exact N7 as vs' h2 λns hs=>g (.ofNat n::ns) (by rw[hs];rfl)
  ·trivial
theorem Hj: ∀(ns:List Int) (s:ByteArray),ns.foldl (λr n=>r.push (UInt8.ofNat n.toNat)) s=⟨(s.data.toList++ns.map yF).toArray⟩
 |[],s=>by
  apply ByteArray.ext
  apply Array.ext'
  simp
 |n::ns,s=>by
  rw[Vc,Hj ns]
  simp[yF]
theorem Tr.drew(hs:WL P σ H w):Tr P σ H w σ H w.drew:=
 ⟨Ext.refl σ,⟨hs.dom,hs.low,hs.alive,hs.inj,hs.glob,hs.ro⟩,Zz _,λ_ _ _=>rfl,λb l hw hl _=>⟨b,l,hw,hl,rfl⟩,Zz _,rfl,λ_ _=>rfl,rfl,rfl,rfl,λ_ _ h=>⟨rfl,h⟩⟩
theorem WL.drew(hs:WL P σ H w):WL P σ H w.drew:=(Tr.drew hs).sim
theorem vW(w:World)(c:Array Value)(e n:Nat):(w.alloc (.cells c e)).freeze ⟨w.heap.size,n,none⟩ 1=w.alloc (.cells c e (n,n+1)):=by
 unfold World.freeze
 rw[if_neg (by decide)]
 have:(w.alloc (.cells c e)).heap.modify w.heap.size (λ
   |.cells c elem (lo,hi)=>.cells c elem (if lo==hi then(n,n+1) else(min lo n,max hi (n+1)))
   |o=>o)=(w.alloc (.cells c e (n,n+1))).heap:=by
  apply Array.ext_getElem?
  intro i
  rw[WG]
  by_cases h:w.heap.size=i
  ·subst h;rw[if_pos rfl,Sw,Sw];rfl
  ·rw[if_neg h]
   by_cases h2:i<w.heap.size
   ·rw[Sx h2,Sx h2]
   ·rw[Array.getElem?_eq_none (by simp;omega),Array.getElem?_eq_none (by simp;omega)]
 exact(congrArg (λhp=>({heap:=hp,tape:=w.tape,drawn:=w.drawn,os:=w.os,output:=w.output}:World)) this).trans rfl
theorem qO{w:World}{g n:Nat}{cs:Array Value}{t:TypeId}{fr:Nat×Nat}(h:w.heap[g]? =some (.cells cs t fr))(hf:fr.1=fr.2):
  CL w (w.freeze ⟨g,n,none⟩ 1) g (.cells cs t (n,n+1)):=by
 obtain⟨a,b⟩:=fr
 simp only at hf
 subst hf
 refine⟨by simp[World.freeze],?_,λk hk=>?_,rfl,rfl,rfl⟩
 ·simp only[World.freeze,Nat.one_ne_zero,if_false,WG]
  rw[h];simp
 ·simp only[World.freeze,Nat.one_ne_zero,if_false,WG]
  rw[if_neg (λe=>hk e.symm)]
theorem ZcK{f:TypeId->Bool}{e count off n d:Nat}(h1:1<=P.cellsOf e)(h2:off % P.cellsOf e=0)(h3:off/P.cellsOf e+n<=count)(hf:f e=true):rowAt P f (d+1) e count off n=true:=by
 unfold rowAt
 have q4: ¬(P.cellsOf e=0):=by omega
 simp only[if_neg q4,h2,beq_self_eq_true,Sv,hf,Bool.and_true,Zi h3,Bool.true_or]
theorem oV(d u:Nat):sameLayout P (d+1) u u=true:=by unfold sameLayout;simp
theorem rp{e count off n:Nat}(h1:1<=P.cellsOf e)(h2:off % P.cellsOf e=0)(h3:off/P.cellsOf e+n<=count):liesAt P P.depth e count off e n=true:=by
 have hd: ∃d,P.depth=d+1:=⟨2*(P.types.size+Made.depth)+1,rfl⟩
 obtain⟨d,hd⟩:=hd
 rw[hd]
 unfold liesAt
 rw[hd,ZcK (f:=λx=>sameLayout P (d+1) x e) h1 h2 h3 (oV d e)]
 rfl
theorem KU(need old e:Nat)(w:World): ∃k,(choose (.appendCap need old e)).run P w=.ok (need+k) w.drew:=by
 refine⟨w.tape w.drawn (.appendCap need old e) % (2^63 - need),?_⟩
 simp[Question.forced,Question.cut]
theorem IC{w:World}{g:Nat}{cs:Array Value}{t:TypeId}{fr:Nat×Nat}(h:w.heap[g]? =some (.cells cs t fr)):w.shape? g=some (t,cs.size):=by
 unfold World.shape?;rw[h]
theorem uN(hs:WL P σ H w)(hρ:Rc P σ tm ρ){o:Oper}{s d:TypeId}{x:Operand}(ho:o.op=.convert s d x):XX P σ H w tm ρ o:=by
 unfold XX;rw[ho]
 refine XO λds pg=>XO λdd hud=>?_
 have h1:=hρ x
 have hr: ∀{v:Value} {w':World},(convert s d (ρ x)).run P w=.ok v w'->(execOp ρ o).run P w=.ok (.value v) w':=λh=>by
  simp only[execOp,ho];exact Va h
 show Xx P σ H w _ (bY P s d (Xo P x) ds dd tm H)
 cases ds<;>cases dd<;>try exact trivial
 case int.int k1 k=>
  refine RA λj n hx=>?_
  rw[hx] at h1
  have h1:=X3 h1
  refine Rh hs (hr ?_)
  rw[h1]
  simp[convert,run_underlying pg,run_underlying hud,Conv.intToInt]
 case int.string k1=>
  refine RA λj n hx=>?_
  rw[hx] at h1
  have h1:=X3 h1
  refine YI hs (x:=.string (Utf8.encode n)) (hr ?_) (by simp[YU])
  rw[h1]
  simp[convert,run_underlying pg,run_underlying hud,Conv.intToString]
 case string.string=>
  refine PB λt hx=>?_
  rw[hx] at h1
  have h0:=h1
  have h1:=V3 h1
  refine YI hs (x:=ρ x) (hr ?_) h0
  rw[h1]
  simp[convert,run_underlying pg,run_underlying hud]
 case string.slice e=>
  refine XO λde hue=>ES λhde=>PB λt hx=>?_
  subst hde
  rw[hx] at h1
  have h1:=V3 h1
  obtain⟨k,hk⟩:=KU (P:=P) t.length 0 e w
  have hrun:(execOp ρ o).run P w=.ok (.value (.slice (some ⟨w.heap.size,0,none⟩) t.length (t.length+k))) (w.drew.alloc (.cells ⟨t.map (λb=>Value.int .u8 b.toNat)++List.replicate k (.int .u8 0)⟩ e (t.length+k,t.length+k+1))):=by
   refine hr ?_
   rw[h1]
   simp only[convert,Sem.run_bind,run_underlying pg,run_underlying hud,run_underlying hue,Result.andThen_ok,Conv.stringToBytes,Nk,hk]
   have hc:((t.toArray.map λb=>Value.int .u8 b.toNat)++Array.replicate (t.length+k - t.length) (Value.int .u8 0))=⟨t.map (λb=>Value.int .u8 b.toNat)++List.replicate k (.int .u8 0)⟩:=by
    apply Array.ext'
    simp
   simp only[hc,newRow,Sem.run_bind,run_newObj,Result.andThen_ok,World.alloc_eq,Sem.run_pure,markStringish,run_shape]
   have hsh:(w.drew.alloc (.cells ⟨t.map (λb=>Value.int .u8 b.toNat)++List.replicate k (.int .u8 0)⟩ e)).shape? w.drew.heap.size=some (e,t.length+k):=by
    unfold World.shape?
    rw[Sw]
    simp
   simp only[hsh,run_freeze,Result.andThen_ok]
   rw[vW]
   rfl
  refine VP ((Tr.drew hs).trans (Tr.alloc hs.drew (.row ⟨e,1,Xa t,T.ofList (HF t),.unk,0,true,true,false⟩) _ ⟨w.heap.size,0,t.length+k,1⟩ rfl ⟨_,_,rfl,?_⟩)) hrun ?_
  ·have hl:(HF t).length=t.length:=by rw[FY];simp
   have:=Jf (σ:=σ.put H.nx ⟨w.heap.size,0,t.length+k,1⟩) (e:=e) (sz:=1) (tot:=t.length+k) (sm:=true) (exact:=false) (blk:=w.heap.size) (fr:=(t.length+k,t.length+k+1)) (rest:=List.replicate k (.int .u8 0)) (Df _ t)
    (λv hv=>by
     rcases ZD.1 hv with hv|hv
     ·exact xC t v hv
     ·rw[List.eq_of_mem_replicate hv];rfl) (Zz _) (by rw[hl];omega) (by simp) (λh=>by cases h) (by simp)
   have e1:Xa (HF t)=Xa t:=by rw[Y6,Y6,hl]
   rw[e1] at this
   exact this
  ·rw[Y6];exact Sk (l:=⟨w.heap.size,0,t.length+k,1⟩) rfl
 case slice.string e=>
  refine XO λde hue=>ES λhde=>?_
  subst hde
  refine JS (λhx=>?_) (Se (λhx=>?_) λb off len cap hx=>Ul (λhn=>?_) λhn=>Ty λr hr'=>YS λhle=>?_)
  ·rw[hx] at h1
   obtain⟨a,h1⟩: ∃a,ρ x=.slice (some a) 0 0:=by simpa only[YU] using h1
   refine YI hs (x:=.string .empty) (hr ?_) (by simp only[YU];rfl)
   rw[h1,run_convert_bytes_string w s d e _ _ _ pg hue hud,run_bytesToString w _ _ _ [] (by rfl)]
   rfl
  ·rw[hx] at h1
   have h1:ρ x=.slice none 0 0:=by simpa only[YU] using h1
   refine YI hs (x:=.string .empty) (hr ?_) (by simp only[YU];rfl)
   rw[h1,run_convert_bytes_string w s d e none 0 0 pg hue hud]
   simp[Conv.bytesToString]
  ·rw[hx] at h1
   obtain⟨l,hl,e1⟩:=Uo h1
   rw[YZ] at hn
   have hn:len=0:=Zm hn
   refine YI hs (x:=.string .empty) (hr ?_) (by simp only[YU];rfl)
   rw[e1,run_convert_bytes_string w s d e _ _ _ pg hue hud,run_bytesToString w _ _ _ [] (by rw[hn];rfl)]
   rfl
  ·rw[hx] at h1
   obtain⟨l,hl,e1⟩:=Uo h1
   obtain⟨cs,fr,hc,hrr⟩:=hs.row hr' hl
   rw[XF] at hle
   have hle:off+len<=r.size:=Zm hle
   obtain⟨vs,h2,h3,h4,h5⟩:=Pj hrr len off hle
   refine N7 _ vs h2 λns hns=>?_
   have hload:=S5 (P:=P) hc vs (o:=l.base+off) h4
   rw[h3,hns] at hload
   refine YI hs (hr (v:=.string ⟨(ns.map yF).toArray⟩) ?_) (by simp[YU])
   rw[e1,run_convert_bytes_string w s d e _ _ _ pg hue hud,run_bytesToString w _ _ _ ns hload,Hj]
   simp
 case pointer.unsafePointer u=>
  refine Wa λi hi=>WX (λh3=>?_) λ_=>TY
  rw[XF] at h3
  have h3:1<=i.size:=Zm h3
  show Xx P σ H w _ (BY (Xo P x) tm H)
  unfold BY
  split
  ·rename_i hx
   rw[hx] at h1
   have h1:ρ x=.pointer none:=by simpa only[YU] using h1
   refine YI hs (x:=.pointer none) (hr ?_) (by simp[YU])
   rw[h1]
   simp[convert,run_underlying pg,run_underlying hud,Conv.unsafePointer]
  ·rename_i b off hx
   refine Ty λr hr'=>YS λhle=>?_
   rw[hx] at h1
   obtain⟨l,hl,e1⟩:=Ut h1
   obtain⟨cs,fr,hc,hrr⟩:=hs.row hr' hl
   rw[XF] at hle
   have hle:off+1<=r.size:=Zm hle
   have q1:=hrr.fits
   have q2:=hrr.room
   refine YI hs (hr ?_) (NW hl)
   rw[e1]
   have hsh:=IC hc
   simp only[convert,Sem.run_bind,run_underlying pg,run_underlying hud,Result.andThen_ok,Conv.unsafePointer,Conv.seenAt,viewAt,run_shape,hsh,Option.isSome_some,if_true,Sem.run_pure,cellsIn,WK hi]
   have q3: ¬(l.base+off≥cs.size):=by omega
   have q4: ¬(i.size=0):=by omega
   simp[q3,q4]
  ·trivial
 case unsafePointer.pointer u=>
  refine Wa λi hi=>WX (λh3=>?_) λ_=>TY
  rw[XF] at h3
  have h3:1<=i.size:=Zm h3
  show Xx P σ H w _ (BX (Xo P x) u i.size tm H)
  unfold BX
  split
  ·rename_i hx
   rw[hx] at h1
   have h1:ρ x=.pointer none:=by simpa only[YU] using h1
   refine YI hs (x:=.pointer none) (hr ?_) (by simp[YU])
   rw[h1]
   simp[convert,run_underlying pg,run_underlying hud,Conv.unsafePointer]
  ·rename_i b off hx
   refine Ty λr hr'=>YS λhex=>YS λhel=>YS λh0=>YS λhle=>?_
   rw[hx] at h1
   obtain⟨l,hl,e1⟩:=Ut h1
   obtain⟨cs,fr,hc,hrr⟩:=hs.row hr' hl
   rw[XF] at hle
   rw[YZ] at hel h0
   have hle:i.size<=r.size:=Zm hle
   have hel:r.elem=u:=Zm hel
   have h0:off=0:=Zm h0
   obtain⟨x1,x2,x3⟩:=hrr.exact hex
   refine YI hs (hr ?_) (NW hl)
   rw[e1]
   have hsh:=IC hc
   have q4: ¬(i.size=0):=by omega
   have hcell:P.cellsOf u=i.size:=by simp[Program.cellsOf,hi]
   have hlies:liesAt P P.depth r.elem (cs.size/P.cellsOf r.elem) (l.base+off) u 1=true:=by
    rw[hel,hcell,x2,h0]
    refine rp (by rw[hcell];omega) (by rw[hcell];rfl) ?_
    rw[hcell,Qs,Zb,Nat.le_div_iff_mul_le (by omega)];omega
   simp only[convert,Sem.run_bind,run_underlying pg,run_underlying hud,Result.andThen_ok,Conv.unsafePointer,Conv.seenAt,viewAt,run_shape,hsh,Option.isSome_some,if_true,Sem.run_pure,WK hi,variablesAt,run_program,hlies]
   simp[hlies]
  ·trivial
 case slice.slice e1 e2=>
  refine WX (λhsd=>XO λde hue=>ES λhde=>?_) λ_=>TY
  subst hde
  rw[YZ] at hsd
  have hsd:s=d:=Zm hsd
  refine Se (λ_=>trivial) λb off len cap hx=>Ty λr hr'=>YS λPe=>YS λhfz=>?_
  have h0:=h1
  rw[hx] at h1
  obtain⟨l,hl,e3⟩:=Uo h1
  obtain⟨cs,fr,hc,hrr⟩:=hs.row hr' hl
  have BI:r.sm=false∧H.may r b=true:=by
   cases hsm:r.sm with
   |true=>rw[hsm] at Pe;cases Pe
   |false=>rw[hsm] at Pe;exact⟨rfl,Pe⟩
  obtain⟨hwr,hown⟩:=Wr.of_may BI.2 hr'
  rw[YZ] at hfz
  have hfz:r.fz=0:=Zm hfz
  have hfr:fr.1=fr.2:=by
   rcases hrr.frs hown BI.1 with h|h
   ·exact h
   ·omega
  have hrun:(execOp ρ o).run P w=.ok (.value (ρ x)) (w.freeze ⟨l.blk,cs.size,none⟩ 1):=by
   refine hr ?_
   rw[e3]
   have Zil:(s==d)=true:=by simp[hsd]
   have hsh:=IC hc
   simp only[convert,Sem.run_bind,run_underlying pg,run_underlying hud,run_underlying hue,Result.andThen_ok,Zil,markStringish,run_shape,hsh,run_freeze,Sem.run_pure]
  have hfz':=qO (n:=cs.size) hc hfr
  refine VP (Tr.write hs hr' hl hwr hfz'.size hfz'.new hfz'.old ⟨cs,_,rfl,?_⟩ hfz'.tape hfz'.os hfz'.out) hrun (by rw[hx];rw[hx] at h0;exact h0)
  have q1:=hrr.room
  refine⟨hrr.sz,hrr.sz1,hrr.fits,hrr.room,hrr.exact,?_,hrr.one,?_,λ_ h=>by cases h⟩
  ·intro i hi
   exact hrr.cell i hi
  ·intro _ i _ hi
   simp only
   omega
theorem wk{o:Oper}{c:Call}{b:Builtin}(ho:o.op=.call c)(hc:c.callee=.builtin b):
  ∃cs,(execOp ρ o).run P w=(builtin b c.argTypes o.type cs (c.args.map ρ)).run P w:=by
 refine⟨c.args.map λ|.const _=>true|_=>false,?_⟩
 simp only[execOp,ho,resolve,hc,Sem.run_bind,Sem.run_pure,Result.andThen_ok,invoke]
 rfl
theorem UX{o:Oper}{xs:List Operand}{ts:List TypeId}{b:Builtin}(ho:o.op=.call ⟨.builtin b,⟨xs⟩,⟨ts⟩⟩)
  (h: ∀cs,Xx P σ H w ((builtin b ⟨ts⟩ o.type cs ⟨xs.map ρ⟩).run P w) (mr P b xs ts tm H)):XX P σ H w tm ρ o:=by
 unfold XX
 obtain⟨cs,h2⟩:=wk (P:=P) (w:=w) (ρ:=ρ) ho rfl
 rw[h2,ho]
 have h3:=h cs
 have e:Array.map ρ ⟨xs⟩=⟨xs.map ρ⟩:=by simp
 show Xx P σ H w ((builtin b ⟨ts⟩ o.type cs (Array.map ρ ⟨xs⟩)).run P w) (mr P b xs ts tm H)
 rw[e];exact h3
theorem Gw{r:Row}{l:Loc}{cs:Array Value}{fr:Nat×Nat}(hr:RQ σ r l cs fr)(hex:r.exact=true){o:Nat}(ho:o % l.sz=0):VO r o none=l.tot - o/l.sz:=by
 show cond (Nat.beq r.sz 1) (r.size - o) ((r.size - o)/r.sz)=_
 obtain⟨h1,_,_⟩:=hr.exact hex
 have h2:=hr.sz
 have h3:=hr.sz1
 have key:(r.size - o)/l.sz=l.tot - o/l.sz:=by
  have hd:=SN o l.sz
  rw[ho,Zd] at hd
  have e:r.size - o=(l.tot - o/l.sz)*l.sz:=by rw[Nat.sub_mul,<-h1,VB (o/l.sz),hd]
  rw[e,Nat.mul_div_cancel _ (by omega)]
 rw[YZ]
 by_cases e:r.sz=1
 ·rw[Zi e]
  have e2:l.sz=1:=by omega
  rw[e2] at key ⊢
  simpa using key
 ·rw[Ze e,<-h2];exact key
theorem QM{b:Nat}{es:Array MapEntry}{c:Nat}(h:w.heap[b]? =some (.map es c)):(getObj b).run P w=.ok (.map es c) w:=by simp[getObj,Sem.run,h]
theorem Kd{t:TypeId}{x:Value}{d:TypeDesc}{y:Value}{cs:Array Bool}{ty:TypeId}(hu:P.underlying t=some d)(h:(Builtin.len_ #[t] ty #[x]).run P w=.ok y w):
  (builtin .len ⟨[t]⟩ ty cs ⟨[x]⟩).run P w=.ok (.value y) w:=Va h
theorem Zcr(hs:WL P σ H w)(hρ:Rc P σ tm ρ){o:Oper}{xs:List Operand}{ts:List TypeId}(ho:o.op=.call ⟨.builtin .len,⟨xs⟩,⟨ts⟩⟩):XX P σ H w tm ρ o:=by
 refine UX ho λcs=>?_
 rcases xs with _|⟨x,_|⟨_,_⟩⟩<;>try exact trivial
 rcases ts with _|⟨t,_|⟨_,_⟩⟩<;>try exact trivial
 refine XO λd hu=>?_
 have g:=hρ x
 cases d<;>try exact trivial
 case string=>
  refine PB λs hx=>Nb ?_
  rw[hx] at g
  have g:=V3 g
  refine YI hs (x:=.int .i64 s.length) (Kd hu ?_) (by rw[Y6];simp[YU])
  rw[g]
  simp[Builtin.len_,run_underlying hu,goInt,Nk]
 case slice e=>
  refine JS (λhx=>?_) (Se (λhx=>?_) λb off n c hx=>Nb ?_)
  ·rw[hx] at g
   obtain⟨l,e1⟩: ∃l,ρ x=.slice (some l) 0 0:=by simpa only[YU] using g
   refine YI hs (x:=.int .i64 0) (Kd hu ?_) (by simp[YU])
   rw[e1]
   simp[Builtin.len_,run_underlying hu,goInt]
  ·rw[hx] at g
   have g:ρ x=.slice none 0 0:=by simpa only[YU] using g
   refine YI hs (x:=.int .i64 0) (Kd hu ?_) (by simp[YU])
   rw[g]
   simp[Builtin.len_,run_underlying hu,goInt]
  ·rw[hx] at g
   obtain⟨l,hl,e1⟩:=Uo g
   refine YI hs (x:=.int .i64 n) (Kd hu ?_) (by simp[YU])
   rw[e1]
   simp[Builtin.len_,run_underlying hu,goInt]
 case map kt e=>
  refine JR (λhx=>?_) λb hx=>OC λob IX=>?_
  ·rw[hx] at g
   have g:ρ x=.map none:=by simpa only[YU] using g
   refine YI hs (x:=.int .i64 0) (Kd hu ?_) (by simp[YU])
   rw[g]
   simp[Builtin.len_,run_underlying hu,goInt]
  ·rw[hx] at g
   have g: ∃l,σ b=some l∧ρ x=.map (some l.blk):=by simpa only[YU] using g
   obtain⟨l,hl,e1⟩:=g
   cases ob<;>try exact trivial
   case map es clock=>
    obtain⟨c,hc,ho'⟩:=hs.alive b _ l IX hl
    obtain⟨ents,rfl,hr,_⟩:=ho'
    have hlen:es.length=ents.size:=by
     have: ∀(es:List Sy) (l:List MapEntry),Y3 σ es l->es.length=l.length:=by
      intro es
      induction es with
      |nil=>intro l h;simp only[Y3] at h;subst h;rfl
      |cons a es ih=>intro l h;simp only[Y3] at h;obtain⟨e,es',_,h2,rfl⟩:=h;simp[ih _ h2]
     rw[this _ _ hr];simp
    refine YI hs (x:=.int .i64 ents.size) (Kd hu ?_) (by rw[Y6,hlen];simp[YU])
    rw[e1]
    simp[Builtin.len_,run_underlying hu,goInt,QM hc]
theorem Zcn(hs:WL P σ H w)(hρ:Rc P σ tm ρ){o:Oper}{xs:List Operand}{ts:List TypeId}(ho:o.op=.call ⟨.builtin .cap,⟨xs⟩,⟨ts⟩⟩):XX P σ H w tm ρ o:=by
 refine UX ho λcs=>?_
 rcases xs with _|⟨x,_|⟨_,_⟩⟩<;>try exact trivial
 rcases ts with _|⟨t,_|⟨_,_⟩⟩<;>try exact trivial
 refine XO λd hu=>?_
 have g:=hρ x
 have hr: ∀{y:Value},(Builtin.cap_ #[t] o.type #[ρ x]).run P w=.ok y w->(builtin .cap ⟨[t]⟩ o.type cs ⟨[ρ x]⟩).run P w=.ok (.value y) w:=λh=>Va h
 cases d<;>try exact trivial
 case slice e=>
  refine Se (λhx=>?_) λb off n c hx=>?_
  ·rw[hx] at g
   have g:ρ x=.slice none 0 0:=by simpa only[YU] using g
   refine YI hs (x:=.int .i64 0) (hr ?_) (by simp[YU])
   rw[g]
   simp[Builtin.cap_,run_underlying hu,goInt]
  ·rw[hx] at g
   obtain⟨l,hl,e1⟩:=Uo g
   cases c with
   |some c=>
    refine YI hs (x:=.int .i64 c) (hr ?_) (by simp[YU])
    rw[e1]
    simp[Builtin.cap_,run_underlying hu,goInt]
   |none=>
    refine Ty λr hr'=>YS λhex=>YS λhmod=>?_
    rw[YZ] at hmod
    have hmod:off % r.sz=0:=Zm hmod
    obtain⟨cs',fr,hc,hrr⟩:=hs.row hr' hl
    refine YI hs (x:=.int .i64 (l.tot - off/l.sz:Nat)) (hr ?_) ?_
    ·rw[e1]
     simp[Builtin.cap_,run_underlying hu,goInt]
    ·simp only[YU]
     congr 1
     have:=Gw hrr hex (o:=off) (by rw[hrr.sz];exact hmod)
     simp[this]
theorem bM(ts:Array TypeId)(t:TypeId)(n c:Nat):Builtin.unsafeSliceData_ ts t #[.slice none n c]=pure (.pointer none):=rfl
theorem gy(ts:Array TypeId)(t:TypeId)(a:Addr)(n c:Nat)(h:c≠0):(Builtin.unsafeSliceData_ ts t #[.slice (some a) n c]).run P w=.ok (.pointer (some a)) w:=by
 show(if c≠0 then pure (Value.pointer (some a)) else _:Sem Value).run P w=_
 rw[if_pos h];rfl
theorem ow(hs:WL P σ H w)(hρ:Rc P σ tm ρ){o:Oper}{xs:List Operand}{ts:List TypeId}(ho:o.op=.call ⟨.builtin .unsafeSliceData,⟨xs⟩,⟨ts⟩⟩):XX P σ H w tm ρ o:=by
 refine UX ho λcs=>?_
 rcases xs with _|⟨x,_|⟨_,_⟩⟩<;>try exact trivial
 have g:=hρ x
 refine Se (λhx=>?_) λb off n c hx=>?_
 ·rw[hx] at g
  have g:ρ x=.slice none 0 0:=by simpa only[YU] using g
  refine YI hs (x:=.pointer none) ?_ (by simp[YU])
  refine Va ?_
  show(Builtin.unsafeSliceData_ ⟨ts⟩ o.type #[ρ x]).run P w=_
  rw[g]
  exact congrArg (λs=>s.run P w) (bM _ _ _ _)
 ·rw[hx] at g
  obtain⟨l,hl,e1⟩:=Uo g
  have fin:c.getD (l.tot - off/l.sz)≠0->Xx P σ H w ((builtin .unsafeSliceData ⟨ts⟩ o.type cs ⟨[ρ x]⟩).run P w) (.val (.ptr b off) H):=λh=>by
   refine YI hs ?_ (NW hl)
   refine Va ?_
   show(Builtin.unsafeSliceData_ ⟨ts⟩ o.type #[ρ x]).run P w=_
   rw[e1]
   exact gy _ _ _ _ _ h
  cases c with
  |some c=>
   refine YS λh=>fin ?_
   rw[XF] at h
   have h:1<=c:=Zm h
   simp only[Option.getD_some];omega
  |none=>
   refine Ty λr hr'=>YS λh=>fin ?_
   obtain⟨cs',fr,hc,hrr⟩:=hs.row hr' hl
   rw[XF] at h
   have h:off+1<=r.size:=Zm h
   have h1:=hrr.fits
   have h2:=hrr.sz1
   simp only[Option.getD_none]
   have:off/l.sz<l.tot:=by rw[RT (by omega)];omega
   omega
def tT(v:AV)(m:Nat):Prop:=((v=.nils∨v=.slice0)∧m=0)∨(∃b o c,v=.slice b o m c)∨ ∃s,v=.str s∧m=s.length
theorem Bn{r:Result Next}{v:AV}{k:Nat->OR}(h: ∀m,tT v m->Xx P σ H w r (k m)):Xx P σ H w r (zt v k):=by
 unfold zt
 split
 ·exact h 0 (.inl ⟨.inl rfl,rfl⟩)
 ·exact h 0 (.inl ⟨.inr rfl,rfl⟩)
 ·exact h _ (.inr (.inl ⟨_,_,_,rfl⟩))
 ·rw[Y6];exact h _ (.inr (.inr ⟨_,rfl,rfl⟩))
 ·trivial
theorem Aa{v:AV}{m:Nat}{x:Value}(h:tT v m)(hr:YU σ v x)(w':World):(Builtin.lenOf x).run P w'=.ok m w':=by
 rcases h with⟨rfl|rfl,rfl⟩|⟨b,o,c,rfl⟩|⟨s,rfl,rfl⟩
 ·have:x=.slice none 0 0:=by simpa only[YU] using hr
  rw[this];rfl
 ·obtain⟨a,this⟩: ∃a,x=.slice (some a) 0 0:=by simpa only[YU] using hr
  rw[this];rfl
 ·obtain⟨l,_,rfl⟩:=Uo hr;rfl
 ·rw[V3 hr];simp[Builtin.lenOf,Nk]
structure bR(P:Program)(σ:Mp)(w:World)(sz n:Nat)(x:Value)(as:List AV)(vs:List Value):Prop where
 rel:Xj σ as vs
 one: ∀u∈vs,u.oneCell'=true
 len:vs.length=n*sz
 run: ∀w':World,w'.heap=w.heap->(Builtin.firstCells sz n x).run P w'=.ok ⟨vs⟩ w'
theorem EL{v:AV}{x:Value}(hx:YU σ v x){sz m:Nat}(hm:tT v m):bR P σ w sz 0 x [] []:=by
 refine⟨V1,by simp,by simp,λw' _=>?_⟩
 rcases hm with⟨rfl|rfl,rfl⟩|⟨b,o,c,rfl⟩|⟨s,rfl,rfl⟩
 ·have:x=.slice none 0 0:=by simpa only[YU] using hx
  rw[this];rfl
 ·obtain⟨a,this⟩: ∃a,x=.slice (some a) 0 0:=by simpa only[YU] using hx
  rw[this];simp only[Builtin.firstCells,Vi];rfl
 ·obtain⟨l,_,rfl⟩:=Uo hx
  simp only[Builtin.firstCells,Vi];rfl
 ·rw[V3 hx]
  simp[Builtin.firstCells]
theorem Kx{r:Result Next}(hs:WL P σ H w){v:AV}{x:Value}(hx:YU σ v x){sz n m:Nat}{k:List AV->OR}(hm:tT v m)(hn:n<=m)
  (h: ∀as vs,bR P σ w sz n x as vs->Xx P σ H w r (k as)):Xx P σ H w r (WY H sz v n k):=by
 unfold WY
 refine Ul (λh0=>?_) λ_=>?_
 ·rw[YZ] at h0
  have h0:n=0:=Zm h0
  subst h0
  exact h [] [] (EL hx hm)
 ·rcases hm with⟨rfl|rfl,rfl⟩|⟨b,o,c,rfl⟩|⟨s,rfl,rfl⟩
  ·trivial
  ·trivial
  ·refine Ty λrr hrr=>YS λhle=>?_
   rw[XF] at hle
   have hle:o+n*sz<=rr.size:=Zm hle
   obtain⟨l,hl,rfl⟩:=Uo hx
   obtain⟨cs,fr,hc,hrow⟩:=hs.row hrr hl
   obtain⟨vs,h2,h3,h4,h5⟩:=Pj hrow (n*sz) o hle
   refine h _ vs ⟨h2,h5,h3,λw' hw=>?_⟩
   have hc':w'.heap[l.blk]? =some (.cells cs rr.elem fr):=by rw[hw];exact hc
   have:=S5 (P:=P) hc' vs (o:=l.base+o) h4
   rw[h3] at this
   exact this
  ·refine YS λh1=>?_
   rw[YZ] at h1
   have h1:sz=1:=Zm h1
   subst h1
   rw[OP]
   refine h _ _ ⟨Df σ _,xC _,by simp;omega,λw' _=>?_⟩
   rw[V3 hx]
   simp only[Builtin.firstCells,Sem.run_pure,Result.ok.injEq,and_true]
   apply Array.ext'
   simp[W3]
theorem dV(a b:Nat):OZ a b=Nat.min a b:=by
 unfold OZ
 rw[XF]
 by_cases h:a<=b
 ·rw[Zi h];exact(WR h).symm
 ·rw[Ze h];exact(So (O5 (Nat.lt_of_not_le h))).symm
theorem cE(hs:WL P σ H w)(hρ:Rc P σ tm ρ){o:Oper}{xs:List Operand}{ts:List TypeId}(ho:o.op=.call ⟨.builtin .copy,⟨xs⟩,⟨ts⟩⟩):XX P σ H w tm ρ o:=by
 refine UX ho λcs=>?_
 rcases xs with _|⟨x,_|⟨y,_|⟨_,_⟩⟩⟩<;>try exact trivial
 rcases ts with _|⟨t,_|⟨t2,_|⟨_,_⟩⟩⟩<;>try exact trivial
 refine XO λd hu=>Nc λe hd=>Wa λi hi=>Bn λsn hsn=>?_
 subst hd
 have g:=hρ x
 have step: ∀(base:Option Addr) (dn cp:Nat) (vs:List Value),ρ x=.slice base dn cp->(Builtin.firstCells i.size (Nat.min dn sn) (ρ y)).run P w=.ok ⟨vs⟩ w->
   (Builtin.copy_ ⟨[t,t2]⟩ o.type ⟨[ρ x,ρ y]⟩).run P w=(do (match base with|some a=>storeCells a vs|none=>pure ());pure (goInt (Nat.min dn sn)):Sem Value).run P w:=by
  intro base dn cp vs e1 hr
  have hl:=Aa (P:=P) hsn (hρ y) w
  rw[show Nat.min dn sn=Nat.min sn dn from Nat.min_comm _ _] at hr ⊢
  simp only[Builtin.copy_,Wq,Uc,Tk,Sem.run_bind,run_underlying hu,Result.andThen_ok,e1,hl,WK hi,hr]
  cases base with
  |none=>rfl
  |some a=>simp
 refine Se (λhx=>?_) λb off dn c hx=>Nb ?_
 ·rw[hx] at g
  have g:ρ x=.slice none 0 0:=by simpa only[YU] using g
  refine YI hs (x:=.int .i64 0) ?_ (by simp[YU])
  refine Va ?_
  refine(step none 0 0 [] g ?_).trans ?_
  ·rw[show Nat.min 0 sn=0 from Nat.zero_min sn]
   exact(EL (w:=w) (hρ y) hsn).run w rfl
  ·rw[show Nat.min 0 sn=0 from Nat.zero_min sn];rfl
 ·rw[dV]
  have hmin:Nat.min dn sn<=sn:=Nat.min_le_right _ _
  rw[hx] at g
  obtain⟨l,hl,e1⟩:=Uo g
  refine Kx hs (hρ y) hsn hmin λas vs hf=>Ul (λh0=>?_) λh0=>Ty λr hr=>YS λPe=>YS λhfz=>YS λhle=>?_
  ·rw[YZ] at h0
   have h0:Nat.min dn sn=0:=Zm h0
   have hv:vs=[]:=by have:=hf.len;rw[h0,Vi] at this;exact XH.1 this
   refine YI hs (x:=.int .i64 0) ?_ (by simp[YU])
   refine Va ?_
   refine(step _ _ _ vs e1 (hf.run w rfl)).trans ?_
   rw[hv,h0]
   simp[goInt,storeCells]
  ·rw[XF] at hfz hle
   have hfz:r.fz<=off:=Zm hfz
   have hle:off+Nat.min dn sn*i.size<=r.size:=Zm hle
   obtain⟨w',hrun,htr⟩:=HZ hs hr hl Pe hf.rel hf.one (o:=off) (by rw[hf.len];exact hle) hfz
   refine VP htr (x:=.int .i64 (Nat.min dn sn:Nat)) ?_ (by simp[YU])
   refine Va ?_
   refine(step _ _ _ vs e1 (hf.run w rfl)).trans ?_
   simp[hrun,goInt]
def app(e:TypeId)(i:TypeInfo)(z:Value)(base:Option Addr)(sLen sCap n:Nat)(news:Sem (Array Value)):Sem Value:=
 if sLen+n<=sCap then do
  let new<-news
  if let some a:=base then storeCells (a.add (sLen*i.size)) new.toList
  pure (.slice base (sLen+n) sCap)
 else do
  let newCap<-choose (.appendCap (sLen+n) sCap e)
  let old<-Builtin.firstCells i.size sLen (.slice base sLen sCap)
  let new<-news
  let a<-newRow e (old++new++Builtin.zeroCells z.cells (newCap - (sLen+n)))
  pure (.slice (some a) (sLen+n) newCap)
def rB(i:TypeInfo)(z:Value)(n:Nat):Sem (Array Value):=if n*i.size=0 then pure #[] else pure (Builtin.zeroCells z.cells n)
theorem bm{t u ty e:TypeId}{i:TypeInfo}{z x:Value}{d:TypeDesc}(ht:P.underlying t=some (.slice e))(hu:P.underlying u=some d)(hd: ∀k,d≠.int k)(hi:P.info? e=some i)(hz:i.zero=some z)
  {base:Option Addr}{sLen sCap n:Nat}(hn:(Builtin.lenOf x).run P w=.ok n w)(hb:1<=i.bytes)(hfit:(sLen+n)*i.bytes<=140737488355328∨sLen+n<=sCap):
  (Builtin.append_ ⟨[t,u]⟩ ty ⟨[.slice base sLen sCap,x]⟩).run P w=(app e i z base sLen sCap n (Builtin.firstCells i.size n x)).run P w:=by
 unfold app
 simp only[Builtin.append_,Sem.run_bind,Wq,Uc,Tk,run_underlying ht,run_underlying hu,Result.andThen_ok,WK hi,Sem.run_pure,XW,if_false,hn,ZI,if_true]
 by_cases h:sLen+n<=sCap
 ·rw[if_pos h,if_pos h]
  simp only[Sem.run_bind]
  congr 1
 ·rw[if_neg h,if_neg h]
  have h5:sLen+n<=140737488355328:=by
   rcases hfit with h1|h1
   ·exact YR (SP _ hb) h1
   ·exact absurd h1 h
  have h3:Builtin.nextslicecap (sLen+n) sCap*i.bytes<=281474976710656:=growslice_fits (Nat.lt_of_not_le h) (by rcases hfit with h1|h1;exact h1;exact absurd h1 h)
  have h4: ¬(Builtin.nextslicecap (sLen+n) sCap*i.bytes>2^48):=Nat.not_lt.2 h3
  have h6: ¬(((sLen+n:Nat):Int)>IntKind.i64.max∧(False∨i.bytes=0)):=λq=>by
   rcases q.2 with q|q
   ·exact q
   ·rw[q] at hb;exact absurd hb (by decide)
  have hti: ∀w':World,(typeInfo e).run P w'=.ok i w':=λw'=>by simp[typeInfo,hi]
  have hzv: ∀w':World,(zeroValue e).run P w'=.ok z w':=λw'=>T2 hi hz
  simp only[Sem.run_bind,hti,hzv,run_askRoom,Result.andThen_ok,if_neg h6,if_neg h4,Sem.run_pure]
theorem iz{t u ty e:TypeId}{i:TypeInfo}{z:Value}{k k':IntKind}(ht:P.underlying t=some (.slice e))(hu:P.underlying u=some (.int k))(hi:P.info? e=some i)(hz:i.zero=some z)
  {base:Option Addr}{sLen sCap n:Nat}(hb:1<=i.bytes)(hn:n*i.bytes<=140737488355328)(hfit:(sLen+n)*i.bytes<=140737488355328∨sLen+n<=sCap):
  (Builtin.append_ ⟨[t,u]⟩ ty ⟨[.slice base sLen sCap,.int k' (n:Nat)]⟩).run P w=(app e i z base sLen sCap n (rB i z n)).run P w:=by
 unfold app rB
 have hn1:n<=140737488355328:=YR (SP _ hb) hn
 have hw:IntKind.i64.wrap (n:Int)=n:=by
  exact Gr (by omega) (by omega)
 have hti: ∀w':World,(typeInfo e).run P w'=.ok i w':=λw'=>by simp[typeInfo,hi]
 have hzv: ∀w':World,(zeroValue e).run P w'=.ok z w':=λw'=>T2 hi hz
 have q1: ¬((n:Int)<0):=by omega
 have q2: ¬((n:Int)*(i.bytes:Int)>2^48):=by
  have h7:((n*i.bytes:Nat):Int)<=((140737488355328:Nat):Int):=Int.ofNat_le.2 hn
  rw[Int.natCast_mul] at h7
  have h8:(2:Int)^48=281474976710656:=by decide
  rw[h8]
  omega
 simp only[Builtin.append_,Sem.run_bind,Wq,Uc,Tk,run_underlying ht,run_underlying hu,Result.andThen_ok,WK hi,Sem.run_pure,if_true,asInt,asIntOf,hw,if_neg q1,hti,if_neg q2,Vp,ZN,XW,if_false]
 by_cases h:sLen+n<=sCap
 ·rw[if_pos h,if_pos h]
  simp only[Sem.run_bind]
  by_cases h0:n*i.size=0
  ·rw[if_pos h0,if_pos h0]
   cases base<;>rfl
  ·rw[if_neg h0,if_neg h0]
   simp only[Sem.run_bind,hzv,Result.andThen_ok,Sem.run_pure]
   cases base<;>rfl
 ·rw[if_neg h,if_neg h]
  have h5:sLen+n<=140737488355328:=by
   rcases hfit with h1|h1
   ·exact YR (SP _ hb) h1
   ·exact absurd h1 h
  have h3:Builtin.nextslicecap (sLen+n) sCap*i.bytes<=281474976710656:=growslice_fits (Nat.lt_of_not_le h) (by rcases hfit with h1|h1;exact h1;exact absurd h1 h)
  have h4: ¬(Builtin.nextslicecap (sLen+n) sCap*i.bytes>2^48):=Nat.not_lt.2 h3
  have h6: ¬(((sLen+n:Nat):Int)>IntKind.i64.max∧(True∨i.bytes=0)):=λq=>by
   have h7:=q.1
   have h8:IntKind.i64.max=9223372036854775807:=by decide
   rw[h8] at h7
   omega
  by_cases h0:n*i.size=0
  ·simp only[Sem.run_bind,hti,hzv,run_askRoom,Result.andThen_ok,if_neg h6,if_neg h4,Sem.run_pure,if_pos h0]
  ·simp only[Sem.run_bind,hti,hzv,run_askRoom,Result.andThen_ok,if_neg h6,if_neg h4,Sem.run_pure,if_neg h0]
theorem Tr.del(hs:WL P σ H w){b:Nat}{lb:Loc}(hlb:σ b=some lb)(hb:H.ro<=b):Tr P σ H w σ ⟨H.nx,H.t.del b,H.ro⟩ w:=by
 have g: ∀c o,(H.t.del b).get c=some o->H.t.get c=some o:=by
  intro c o h
  rw[T.get_del] at h
  by_cases e:b=c
  ·rw[if_pos e] at h;cases h
  ·rw[if_neg e] at h;exact h
 refine⟨Ext.refl σ,⟨hs.dom,λc o h=>hs.low c o (g c o h),λc o l h hl=>hs.alive c o l (g c o h) hl,λc c' o o' l l' h h'=>hs.inj c c' o o' l l' (g _ _ h) (g _ _ h'),hs.glob,hs.ro⟩,Zz _,λ_ _ _=>rfl,?_,Zz _,rfl,?_,rfl,rfl,rfl,λc _ hn=>⟨by show(H.t.del b).get c=H.t.get c;rw[T.get_del,if_neg (λe=>by subst e;rw[hlb] at hn;cases hn)],hn⟩⟩
 ·intro c l hw hl _
  obtain⟨h1,o,h2,h3⟩:=hw
  exact⟨c,l,⟨h1,o,g c o h2,h3⟩,hl,rfl⟩
 ·intro c hc
  show(H.t.del b).get c=H.t.get c
  have hc:c<H.ro:=hc
  rw[T.get_del,if_neg (by omega)]
theorem Tr.move{w':World}(h:WL P σ H w){b:Nat}{o o':Obj}{l:Loc}{c':Go.Obj}
  (hb:H.t.get b=some o)(hl:σ b=some l)(hw:Wr H b)
  (hsize:w'.heap.size=w.heap.size)(hnew:w'.heap[l.blk]? =some c')(hold: ∀k,k≠l.blk->w'.heap[k]? =w.heap[k]?)
  (ho:UI (σ.put H.nx l) o' l c')(ht:w'.tape=w.tape)(hos:w'.os=w.os)(hout:w'.output=w.output):
  Tr P σ H w (σ.put H.nx l) ⟨Nat.succ H.nx,(H.t.del b).set H.nx o',H.ro⟩ w':=by
 have hlt:b<H.nx:=h.dom b l hl
 have hro:=h.ro
 have E4:Ext σ (σ.put H.nx l):=Mp.put_ext l (h.fresh (Zz _))
 have get: ∀c x,((H.t.del b).set H.nx o').get c=some x->(c=H.nx∧x=o')∨(c≠H.nx∧c≠b∧H.t.get c=some x):=by
  intro c x hx
  rw[T.get_set] at hx
  by_cases e:H.nx=c
  ·rw[if_pos e] at hx;cases hx;exact .inl ⟨e.symm,rfl⟩
  ·rw[if_neg e,T.get_del] at hx
   by_cases e2:b=c
   ·rw[if_pos e2] at hx;cases hx
   ·rw[if_neg e2] at hx;exact .inr ⟨λz=>e z.symm,λz=>e2 z.symm,hx⟩
 refine⟨E4,⟨?_,?_,?_,?_,?_,?_⟩,by omega,?_,?_,Vr _,rfl,?_,ht,hos,hout,λc hc hn=>⟨by show((H.t.del b).set H.nx o').get c=H.t.get c;rw[T.get_set,if_neg (by omega),T.get_del,if_neg (λe=>by subst e;rw[hl] at hn;cases hn)],by unfold Mp.put;rw[if_neg (by omega)];exact hn⟩⟩
 ·intro c m hm
  show c<H.nx+1
  unfold Mp.put at hm
  by_cases e:c=H.nx
  ·omega
  ·rw[if_neg e] at hm;have:=h.dom c m hm;omega
 ·intro c x hx
  show c<H.nx+1
  rcases get c x hx with⟨rfl,_⟩|⟨h1,h2,h3⟩
  ·omega
  ·have:=h.low c x h3;omega
 ·intro c x l1 hx hl1
  rcases get c x hx with⟨rfl,rfl⟩|⟨h1,h2,h3⟩
  ·rw[Mp.put_same] at hl1;cases hl1
   exact⟨c',hnew,ho⟩
  ·rw[Mp.put_old h1] at hl1
   obtain⟨c1,hc1,hr⟩:=h.alive c x l1 h3 hl1
   refine⟨c1,?_,hr.mono E4⟩
   rw[hold l1.blk ?_];exact hc1
   intro e
   exact h2 (h.alone h3 hb hl1 hl e λs=>hw.hard hb s.2)
 ·intro c1 c2 x1 x2 l1 l2 h1 h2 k1 k2 e
  rcases get c1 x1 h1 with⟨rfl,rfl⟩|⟨p1,p2,p3⟩<;>rcases get c2 x2 h2 with⟨q0,rfl⟩|⟨q1,q2,q3⟩
  ·exact .inl q0.symm
  ·exfalso
   rw[Mp.put_same] at k1;cases k1
   rw[Mp.put_old q1] at k2
   exact q2 (h.alone q3 hb k2 hl e.symm λs=>hw.hard hb s.2)
  ·exfalso
   rw[q0,Mp.put_same] at k2;cases k2
   rw[Mp.put_old p1] at k1
   exact p2 (h.alone p3 hb k1 hl e λs=>hw.hard hb s.2)
  ·rw[Mp.put_old p1] at k1
   rw[Mp.put_old q1] at k2
   exact h.inj c1 c2 x1 x2 l1 l2 p3 q3 k1 k2 e
 ·intro g hg
  obtain⟨lg,h1,h2⟩:=h.glob g hg
  exact⟨lg,E4 g lg h1,h2⟩
 ·show H.ro<=H.nx+1;omega
 ·intro k hk hn
  exact hold k λe=>hn b l hw hl e.symm
 ·intro c m hwc hlc hlt'
  obtain⟨r1,x,r2,r3⟩:=hwc
  rcases get c x r2 with⟨rfl,rfl⟩|⟨p1,p2,p3⟩
  ·rw[Mp.put_same] at hlc;cases hlc
   exact⟨b,l,hw,hl,rfl⟩
  ·rw[Mp.put_old p1] at hlc
   exact⟨c,m,⟨r1,x,p3,r3⟩,hlc,rfl⟩
 ·intro c hc
  have hc:c<H.ro:=hc
  show((H.t.del b).set H.nx o').get c=H.t.get c
  rw[T.get_set,if_neg (by omega),T.get_del,if_neg (by have:=hw.1;omega)]
theorem Nm{z:Array Value}(hone: ∀v∈z.toList,v.oneCell'=true)(k:Nat):(Builtin.zeroCells z k).size=k*z.size∧ ∀v∈(Builtin.zeroCells z k).toList,v.oneCell'=true:=by
 constructor
 ·simp[Builtin.zeroCells]
 ·intro v hv
  simp only[Builtin.zeroCells,Re,Array.toList_range,Xq,Tc] at hv
  obtain⟨i,hi,rfl⟩:=hv
  have hz:0<z.size:=by
   rcases Nat.eq_zero_or_pos z.size with h|h
   ·rw[h,Nat.mul_zero] at hi;omega
   ·exact h
  rw[getElem!_pos z _ (X7 _ hz)]
  exact hone _ (Array.getElem_mem_toList _)
theorem FT{e:TypeId}{i:TypeInfo}{z:Value}{base:Option Addr}{sLen sCap n:Nat}{news:Sem (Array Value)}{vo vn:List Value}
  (hone: ∀v∈z.cells.toList,v.oneCell'=true)(hg: ¬(sLen+n<=sCap))
  (ho: ∀w':World,w'.heap=w.heap->(Builtin.firstCells i.size sLen (.slice base sLen sCap)).run P w'=.ok ⟨vo⟩ w')(hn: ∀w':World,w'.heap=w.heap->news.run P w'=.ok ⟨vn⟩ w'):
  ∃k rest,(app e i z base sLen sCap n news).run P w=.ok (.slice (some ⟨w.heap.size,0,none⟩) (sLen+n) (sLen+n+k)) (w.drew.alloc (.cells ⟨(vo++vn)++rest⟩ e))∧
   rest.length=k*z.cells.size∧ ∀v∈rest,v.oneCell'=true:=by
 obtain⟨k,hk⟩:=KU (P:=P) (sLen+n) sCap e w
 obtain⟨h1,h2⟩:=Nm hone k
 refine⟨k,(Builtin.zeroCells z.cells k).toList,?_,by simpa using h1,h2⟩
 unfold app
 rw[if_neg hg]
 simp only[Sem.run_bind,hk,Result.andThen_ok,ho w.drew rfl,hn w.drew rfl,XU,newRow,run_newObj,Sem.run_pure,World.alloc_eq]
 congr 3
 have e1:(⟨vo⟩:Array Value)++⟨vn⟩++Builtin.zeroCells z.cells k=⟨(vo++vn)++(Builtin.zeroCells z.cells k).toList⟩:=by
  apply Array.ext'
  simp
 rw[e1]
theorem M4{r:Result Next}(hs:WL P σ H w){e sz need k:Nat}{as:List AV}{vs rest:List Value}(hr:r=.ok (.value (.slice (some ⟨w.heap.size,0,none⟩) need (need+k))) (w.drew.alloc (.cells ⟨vs++rest⟩ e)))
  (hrel:Xj σ as vs)(hone: ∀v∈vs,v.oneCell'=true)(hrest: ∀v∈rest,v.oneCell'=true)(hsz:1<=sz)(hlen:vs.length=need*sz)(hrl:rest.length=k*sz):
  Xx P σ H w r (.val (.slice H.nx 0 need none) (H.newRow e sz as false)):=by
 have hl:=hrel.length
 refine VP ((Tr.drew hs).trans (Tr.alloc hs.drew _ _ ⟨w.heap.size,0,need+k,sz⟩ rfl ⟨_,(0,0),rfl,?_⟩)) hr (Sk (l:=⟨w.heap.size,0,need+k,sz⟩) rfl)
 refine Jf (hrel.mono (Mp.put_ext _ (hs.drew.fresh (Zz _)))) (λv hv=>?_) hsz ?_ ?_ (λh=>by cases h) rfl
 ·rcases ZD.1 hv with hv|hv
  ·exact hone v hv
  ·exact hrest v hv
 ·rw[hl,hlen,WH];omega
 ·rw[Zk,hlen,hrl,WH];omega
theorem TZ(r:Row): ∀(n o j:Nat),j<n->(W9 r o n)[j]? =some (r.get (o+j))
 |0,o,j,h=>by omega
 |n+1,o,0,_=>rfl
 |n+1,o,j+1,h=>by
  show(W9 r (o+1) n)[j]? =_
  rw[TZ r n (o+1) j (by omega)]
  congr 2;omega
theorem tG(r:Row)(sz size o:Nat)(as:List AV){j:Nat}(hj:j<o+as.length):
  (j<o∧(⟨r.elem,sz,size,WO r.cells o as,r.dflt,r.fz,r.sm,true,false⟩:Row).get j=r.get j)∨
  (∃a,o<=j∧as[j - o]? =some a∧(⟨r.elem,sz,size,WO r.cells o as,r.dflt,r.fz,r.sm,true,false⟩:Row).get j=a):=by
 by_cases h:j<o
 ·refine .inl ⟨h,?_⟩
  rw[Row.get_eq,Row.get_eq]
  show((WO r.cells o as).get j).getD r.dflt=_
  rw[Qa,if_neg (by omega)]
 ·refine .inr ⟨as[j - o]'(by omega),by omega,Zp (by omega),?_⟩
  rw[Row.get_eq]
  show((WO r.cells o as).get j).getD r.dflt=_
  rw[Qa,if_pos (by omega),Zp (by omega)]
  rfl
structure Zdp(P:Program)(σ:Mp)(w:World)(sz n:Nat)(news:Sem (Array Value))(as:List AV)(vs:List Value):Prop where
 rel:Xj σ as vs
 one: ∀u∈vs,u.oneCell'=true
 len:vs.length=n*sz
 run: ∀w':World,w'.heap=w.heap->news.run P w'=.ok ⟨vs⟩ w'
theorem qV(hs:WL P σ H w){va:AV}{x:Value}(g:YU σ va x){e n:Nat}{i:TypeInfo}{z:Value}{news:Sem (Array Value)}{as:List AV}{vs:List Value}{q:Result Next}
  (hsz:1<=i.size)(Lj: ∀v∈z.cells.toList,v.oneCell'=true)(Ns:z.cells.size=i.size)(hf:Zdp P σ w i.size n news as vs)
  (run: ∀{base:Option Addr} {sLen sCap:Nat} {v:Value} {w':World},x=.slice base sLen sCap->((sLen+n)*i.bytes<=140737488355328∨sLen+n<=sCap)->(app e i z base sLen sCap n news).run P w=.ok v w'->q=.ok (.value v) w'):
  Xx P σ H w q (PS va e i.size i.bytes H n as):=by
 refine JS (λhx=>?_) (Se (λhx=>?_) λb off len cap hx=>?_)
 ·rw[hx] at g
  obtain⟨a,g⟩: ∃a,x=.slice (some a) 0 0:=by simpa only[YU] using g
  refine Ul (λh0=>?_) λh0=>YS λhfit=>?_
  ·rw[YZ] at h0
   have h0:n=0:=Zm h0
   subst h0
   have hv:vs=[]:=by have:=hf.len;rw[Vi] at this;exact XH.1 this
   refine YI hs (x:=.slice (some a) 0 0) (run g (.inr (Zz _)) ?_) (by simp[YU])
   simp[app,hf.run w rfl,hv,storeCells]
  ·rw[YZ] at h0
   rw[XF] at hfit
   have h0:n≠0:=of_decide_eq_false h0
   have hfit:n*i.bytes<=140737488355328:=Zm hfit
   obtain⟨k,rest,k1,k2,k3⟩:=FT (P:=P) (w:=w) (e:=e) (i:=i) (z:=z) (base:=some a) (sLen:=0) (sCap:=0) (n:=n) (vo:=[]) (vn:=vs) Lj (by omega) (λw' _=>by simp only[Builtin.firstCells,Vi];rfl) hf.run
   rw[Zb] at k1
   exact M4 hs (run g (.inl (by rw[Zb];exact hfit)) k1) hf.rel hf.one k3 hsz hf.len (by rw[k2,Ns])
 ·rw[hx] at g
  have g:x=.slice none 0 0:=by simpa only[YU] using g
  refine Ul (λh0=>?_) λh0=>YS λhfit=>?_
  ·rw[YZ] at h0
   have h0:n=0:=Zm h0
   subst h0
   refine YI hs (x:=.slice none 0 0) (run g (.inr (Zz _)) ?_) (by simp[YU])
   simp[app,hf.run w rfl]
  ·rw[YZ] at h0
   rw[XF] at hfit
   have h0:n≠0:=of_decide_eq_false h0
   have hfit:n*i.bytes<=140737488355328:=Zm hfit
   obtain⟨k,rest,k1,k2,k3⟩:=FT (P:=P) (w:=w) (e:=e) (i:=i) (z:=z) (base:=none) (sLen:=0) (sCap:=0) (n:=n) (vo:=[]) (vn:=vs) Lj (by omega) (λw' _=>by rfl) hf.run
   rw[Zb] at k1
   exact M4 hs (run g (.inl (by rw[Zb];exact hfit)) k1) hf.rel hf.one k3 hsz hf.len (by rw[k2,Ns])
 ·rw[hx] at g
  have g0:=g
  obtain⟨l,hl,e1⟩:=Uo g
  refine Ty λr hr=>YS λZew=>?_
  obtain⟨cs',fr,hc,hrr⟩:=hs.row hr hl
  have hcap:=Ew hrr off cap
  refine Ul (λhin=>?_) λhout=>?_
  ·rw[XF] at hin
   have hin:len+n<=VO r off cap:=Zm hin
   have hin':len+n<=cap.getD (l.tot - off/l.sz):=YR hin hcap
   refine Ul (λh0=>?_) λh0=>YS λPe=>YS λhle=>YS λhfz=>?_
   ·rw[YZ] at h0
    have h0:n=0:=Zm h0
    subst h0
    have hv:vs=[]:=by have:=hf.len;rw[Vi] at this;exact XH.1 this
    refine YI hs (x:=x) (run e1 (.inr hin') ?_) (by rw[hx];exact g0)
    simp only[app,if_pos hin',Sem.run_bind,hf.run w rfl,Result.andThen_ok,hv]
    rw[e1]
    simp[storeCells]
   ·rw[XF] at hle hfz
    have hle:off+(len+n)*i.size<=r.size:=Zm hle
    have hfz:r.fz<=off+len*i.size:=Zm hfz
    obtain⟨w',hrun,htr⟩:=HZ hs hr hl Pe hf.rel hf.one (o:=off+len*i.size) (by rw[hf.len];rw[WH] at hle;omega) hfz
    refine VP htr (run e1 (.inr hin') ?_) (S3 hl)
    simp only[app,if_pos hin',Sem.run_bind,hf.run w rfl,Result.andThen_ok,Ry]
    rw[X9,hrun]
    rfl
  ·rw[XF] at hout
   have hout: ¬(len+n<=VO r off cap):=of_decide_eq_false hout
   refine YS λhfit=>YS λhle=>?_
   rw[XF] at hfit hle
   have hfit:(len+n)*i.bytes<=140737488355328:=Zm hfit
   have hle:off+len*i.size<=r.size:=Zm hle
   obtain⟨vo,o2,o3,o4,o5⟩:=Pj hrr (len*i.size) off hle
   have hfo: ∀c,∀w':World,w'.heap=w.heap->(Builtin.firstCells i.size len (.slice (some ⟨l.blk,l.base+off,none⟩) len c)).run P w'=.ok ⟨vo⟩ w':=by
    intro c w' hw
    have hc':w'.heap[l.blk]? =some (.cells cs' r.elem fr):=by rw[hw];exact hc
    have:=S5 (P:=P) hc' vo (o:=l.base+off) o4
    rw[o3] at this
    exact this
   have grown: ¬(len+n<=cap.getD (l.tot - off/l.sz))->Xx P σ H w q (.val (.slice H.nx 0 (len+n) none) (H.newRow e i.size (W9 r off (len*i.size)++as) false)):=by
    intro hg
    obtain⟨k,rest,k1,k2,k3⟩:=FT (P:=P) (w:=w) (e:=e) (i:=i) (z:=z) Lj hg (hfo _) hf.run
    refine M4 hs (run e1 (.inl hfit) k1) (o2.append hf.rel) (λv hv=>?_) k3 hsz (by rw[Zk,o3,hf.len,WH]) (by rw[k2,Ns])
    rcases ZD.1 hv with hv|hv
    ·exact o5 v hv
    ·exact hf.one v hv
   cases cap with
   |some c=>exact grown hout
   |none=>
    have Zex:r.sz=i.size:=by
     have:Nat.beq r.sz i.size=true:=Zew
     rw[YZ] at this
     exact Zm this
    refine Ul (λhex=>YS λhmod=>?_) λhex=>?_
    ·rw[YZ] at hmod
     have hmod:off % i.size=0:=Zm hmod
     refine grown ?_
     rw[Gw hrr hex (by rw[hrr.sz,Zex];exact hmod)] at hout
     exact hout
    ·refine YS λhel=>YS λPe=>YS λhfz=>YS λhsize=>YS λh0=>?_
     rw[YZ] at hel hsize h0
     rw[XF] at hfz
     have hel:r.elem=e:=Zm hel
     have hsize:len*i.size=r.size:=Zm hsize
     have h0:off=0:=Zm h0
     have hfz:r.fz<=len*i.size:=Zm hfz
     subst h0
     obtain⟨hwr,hown⟩:=Wr.of_may Pe hr
     have eQ:l.sz=i.size:=by rw[hrr.sz,Zex]
     have hal:as.length=n*i.size:=by rw[hf.rel.length];exact hf.len
     have hvl:=hf.len
     have hsum:(len+n)*i.size=len*i.size+n*i.size:=WH _ _ _
     have hcell:=λj (hj:j<len*i.size+as.length)=>tG r i.size ((len+n)*i.size) (len*i.size) as hj
     by_cases hin:len+n<=l.tot
     ·have hin':len+n<=(none:Option Nat).getD (l.tot - 0/l.sz):=by rw[Qs];exact hin
      have hmul:(len+n)*i.size<=l.tot*i.size:=W7 _ hin
      have q1:=hrr.room
      rw[eQ] at q1
      obtain⟨w',hrun,hw⟩:=P0 (P:=P) (o:=l.base+len*i.size) vs 0 w cs' hc (by omega) hf.one (λj hj=>by
       have:=hrr.frz hown (len*i.size+j) (by omega) (by rw[eQ];omega)
       rwa [show l.base+len*i.size+0+j=l.base+(len*i.size+j) by omega])
      refine VP (Tr.move hs hr hl hwr hw.size hw.new hw.old ⟨_,fr,rfl,?_⟩ hw.tape hw.os hw.out) (run e1 (.inr hin') ?_) (by simp only[YU];exact⟨l,Mp.put_same _ _ _,rfl⟩)
      ·have ext:=Mp.put_ext l (hs.fresh (Zz H.nx))
       refine⟨eQ,by omega,by rw[eQ];exact hmul,by rw[Pv];exact hrr.room,(λh=>by cases h),?_,?_,λ_=>hrr.frz hown,λ_=>hrr.frs hown⟩
       ·intro j hj
        have hj:j<(len+n)*i.size:=hj
        show ∃v,_∧YU _ ((⟨r.elem,i.size,(len+n)*i.size,WO r.cells (len*i.size) as,r.dflt,r.fz,r.sm,true,false⟩:Row).get j) v
        rw[QQ _ _ _ _ (by omega)]
        rcases hcell j (by omega) with⟨h1,h2⟩|⟨a,h1,h2,h3⟩
        ·rw[h2,if_neg (by omega)]
         obtain⟨v,hv,hrel⟩:=hrr.cell j (by omega)
         exact⟨v,hv,hrel.mono ext⟩
        ·obtain⟨v,hv,hrel⟩:=hf.rel.get h2
         rw[h3,if_pos (by omega)]
         refine⟨v,?_,hrel.mono ext⟩
         rw[show l.base+j - (l.base+len*i.size+0)=j - len*i.size by omega];exact hv
       ·intro j v hj hv
        have hj:j<(len+n)*i.size:=hj
        rw[QQ _ _ _ _ (by omega)] at hv
        split at hv
        ·exact hf.one v (VG hv)
        ·exact hrr.one j v (by omega) hv
      ·simp only[app,if_pos hin',Sem.run_bind,hf.run w rfl,Result.andThen_ok,Ry]
       rw[Zd,hrun]
       rfl
     ·have hg: ¬(len+n<=(none:Option Nat).getD (l.tot - 0/l.sz)):=by rw[Qs];exact hin
      obtain⟨k,rest,k1,k2,k3⟩:=FT (P:=P) (w:=w) (e:=e) (i:=i) (z:=z) Lj hg (hfo _) hf.run
      have td:=Tr.del (P:=P) (b:=b) hs.drew hl hwr.1
      refine VP (((Tr.drew hs).trans td).trans (Tr.alloc td.sim (.row ⟨r.elem,i.size,(len+n)*i.size,WO r.cells (len*i.size) as,r.dflt,r.fz,r.sm,true,false⟩) _ ⟨w.heap.size,0,len+n+k,i.size⟩ rfl ⟨_,(0,0),by rw[hel],?_⟩)) (run e1 (.inl hfit) k1) (Sk (l:=⟨w.heap.size,0,len+n+k,i.size⟩) rfl)
      have ext:=Mp.put_ext ⟨w.heap.size,0,len+n+k,i.size⟩ (hs.fresh (Zz H.nx))
      rw[Ns] at k2
      have aT:(len+n+k)*i.size=(len+n)*i.size+k*i.size:=WH _ _ _
      refine⟨rfl,hsz,by rw[aT];exact Nat.le_add_right _ _,?_,(λh=>by cases h),?_,?_,?_,λ_ _=>.inl rfl⟩
      ·simp only[List.size_toArray,Zk,o3,hvl,k2]
       rw[aT];omega
      ·intro j hj
       have hj:j<(len+n)*i.size:=hj
       simp only[Zb,Wq]
       rcases hcell j (by omega) with⟨h1,h2⟩|⟨a,h1,h2,h3⟩
       ·rw[h2]
        obtain⟨v,hv,hrel⟩:=o2.get (TZ r (len*i.size) 0 j h1)
        rw[Zb] at hrel
        refine⟨v,?_,hrel.mono ext⟩
        rw[YN (by rw[Zk];omega),YN (by omega)]
        exact hv
       ·obtain⟨v,hv,hrel⟩:=hf.rel.get h2
        rw[h3]
        refine⟨v,?_,hrel.mono ext⟩
        rw[YN (by rw[Zk];omega),YY (by omega),o3]
        exact hv
      ·intro j v _ hv
       simp only[Zb,Wq] at hv
       have:=VG hv
       rcases ZD.1 this with h|h
       ·rcases ZD.1 h with h|h
        ·exact o5 v h
        ·exact hf.one v h
       ·exact k3 v h
      ·intro _ j _ _
       simp only;omega
theorem oj(hs:WL P σ H w)(hρ:Rc P σ tm ρ){o:Oper}{xs:List Operand}{ts:List TypeId}(ho:o.op=.call ⟨.builtin .append,⟨xs⟩,⟨ts⟩⟩):XX P σ H w tm ρ o:=by
 refine UX ho λcs=>?_
 rcases xs with _|⟨x,_|⟨y,_|⟨_,_⟩⟩⟩<;>try exact trivial
 rcases ts with _|⟨t,_|⟨t2,_|⟨_,_⟩⟩⟩<;>try exact trivial
 refine XO λd hu=>Nc λe hd=>Wa λi hi=>Ur λz hz=>WX (λhzl=>XO λd2 hu2=>?_) λ_=>TY
 subst hd
 have happ: ∀{n:Nat} {news:Sem (Array Value)} {as:List AV} {vs:List Value} (_:1<=i.size) (hf:Zdp P σ w i.size n news as vs)
   (h: ∀{base:Option Addr} {sLen sCap:Nat},ρ x=.slice base sLen sCap->((sLen+n)*i.bytes<=140737488355328∨sLen+n<=sCap)->(Builtin.append_ ⟨[t,t2]⟩ o.type ⟨[.slice base sLen sCap,ρ y]⟩).run P w=(app e i z base sLen sCap n news).run P w),
   Xx P σ H w ((builtin .append ⟨[t,t2]⟩ o.type cs ⟨[ρ x,ρ y]⟩).run P w) (PS (Xo P x tm) e i.size i.bytes H n as):=by
  intro n news as vs hsz hf h
  rw[YZ,Y6] at hzl
  have hzl:(W0 z).cells.length=i.size:=Zm hzl
  obtain⟨hzr,Lj⟩:=SR (σ:=σ) z (by omega)
  have Ns:z.cells.size=i.size:=by rw[<-hzl,hzr.length];simp
  refine qV hs (hρ x) hsz Lj Ns hf λ{base sLen sCap v w'} e1 e2 e3=>Va ?_
  rw[e1]
  exact(h e1 e2).trans e3
 have hd2:(∃k,d2=.int k)∨ ∀k,d2≠.int k:=by
  cases d2<;>first
   |exact .inl ⟨_,rfl⟩
   |exact .inr (λk h=>by cases h)
 rcases hd2 with⟨k,rfl⟩|hd2
 ·refine YS λhsz=>YS λhb=>Sr λk' n hy=>YS λhn=>?_
  rw[XF] at hsz hb hn
  have hsz:1<=i.size:=Zm hsz
  have hb:1<=i.bytes:=Zm hb
  have hn:n*i.bytes<=140737488355328:=Zm hn
  have hy2:ρ y=.int k' (n:Nat):=by
   have:=hρ y
   rw[hy] at this
   have this:ρ y=.int k' (Int.ofNat n):=by simpa only[YU] using this
   rw[this];rfl
  rw[YZ,Y6] at hzl
  have Zez:(W0 z).cells.length=i.size:=Zm hzl
  obtain⟨hzr,Lj⟩:=SR (σ:=σ) z (by omega)
  have Ns:z.cells.size=i.size:=by rw[<-Zez,hzr.length];simp
  refine happ (vs:=(Builtin.zeroCells z.cells n).toList) (news:=rB i z n) hsz ⟨?_,(Nm Lj n).2,by simpa [Ns] using (Nm Lj n).1,λw' _=>?_⟩ λ{base sLen sCap} e1 e2=>?_
  ·have:=(Gt (σ:=σ) hzr (λv hv=>Lj v hv) (by omega) n).1
   rw[Zez,<-Ns] at this
   exact this
  ·unfold rB
   split
   ·next h0=>
    have:Builtin.zeroCells z.cells n= #[]:=by
     apply Array.ext'
     have:=(Nm Lj n).1
     rw[Ns,h0] at this
     exact XH.1 (by simpa using this)
    simp[this]
   ·simp
  ·rw[hy2]
   exact iz hu hu2 hi hz hb hn e2
 have hno:qa (NQ (Xo P x) (Xo P y) e i.size i.bytes (W0 z).cells) (W5 (Xo P x) (Xo P y) e i.size i.bytes) d2=W5 (Xo P x) (Xo P y) e i.size i.bytes:=by
  cases d2<;>first|rfl|exact absurd rfl (hd2 _)
 rw[hno]
 refine YS λhsz=>YS λhb=>Bn λn hn=>Kx hs (hρ y) hn (Zz _) λas vs hf=>?_
 rw[XF] at hsz hb
 have hsz:1<=i.size:=Zm hsz
 have hb:1<=i.bytes:=Zm hb
 have hlenOf:=Aa (P:=P) hn (hρ y) w
 exact happ hsz ⟨hf.rel,hf.one,hf.len,hf.run⟩ λe1 e2=>bm hu hu2 hd2 hi hz hlenOf hb e2
def mm(mx:Bool):Value->Value->Sem Value:=if mx then Builtin.max2 else Builtin.min2
theorem Bo{r:Result Next}(hs:WL P σ H w){mx:Bool}{k:IntKind}: ∀(as:List AV) (vs:List Value) (a:Int),Xj σ as vs->
  (∀v,(vs.foldlM (mm mx) (.int k a):Sem Value).run P w=.ok v w->r=.ok (.value v) w)->Xx P σ H w r (min2 mx k a H as)
 |[],vs,a,h,g=>by
  rw[h.nil_inv] at g
  exact YI hs (x:=.int k a) (g _ rfl) (by simp[YU])
 |x::as,vs,a,h,g=>by
  obtain⟨v,vs',h1,h2,rfl⟩:=h.cons_inv
  unfold min2
  split
  ·rename_i j b
   refine YS λhk=>?_
   have:=SS hk;subst this
   have h1:=X3 h1
   subst h1
   refine Bo hs as vs' _ h2 λv hv=>g v ?_
   rw[List.foldlM_cons]
   cases mx with
   |true=>
    simp only[mm,if_true,Builtin.max2,Sem.run_bind,Sem.run_pure,Result.andThen_ok]
    rw[<-hv]
    congr 2
    by_cases hh:a<b
    ·simp[hh,Nt]
    ·simp[hh,Nt]
   |false=>
    simp only[mm,XW,if_false,Builtin.min2,Sem.run_bind,Sem.run_pure,Result.andThen_ok]
    rw[<-hv]
    congr 2
    by_cases hh:b<a
    ·simp[hh,Nt]
    ·simp[hh,Nt]
  ·trivial
theorem B0(hs:WL P σ H w)(hρ:Rc P σ tm ρ){o:Oper}{mx:Bool}{xs:List Operand}{ts:List TypeId}(ho:o.op=.call ⟨.builtin (if mx then .max else .min),⟨xs⟩,⟨ts⟩⟩):XX P σ H w tm ρ o:=by
 refine UX ho λcs=>?_
 have key: ∀r,(∀v,(match xs.map ρ with|[]=>.halt (.stuck "")|x::rest=>rest.foldlM (mm mx) x:Sem Value).run P w=.ok v w->r=.ok (.value v) w)->Xx P σ H w r (Si mx (xs.map (Xo P)) tm H):=by
  intro r hrr
  unfold Si
  have hr:=LH hρ xs
  split
  ·rename_i k a l he
   rw[he] at hr
   obtain⟨v,vs,h1,h2,h3⟩:=hr.cons_inv
   have h1:=X3 h1
   subst h1
   exact Bo hs l vs a h2 λv hv=>hrr v (by rw[h3];exact hv)
  ·trivial
 cases mx with
 |true=>
  refine key _ λv hv=>Va (s:=Builtin.max_ ⟨ts⟩ o.type ⟨xs.map ρ⟩) ?_
  simp only[Builtin.max_]
  cases hl:xs.map ρ with
  |nil=>rw[hl] at hv;cases hv
  |cons x l=>rw[hl] at hv;exact hv
 |false=>
  refine key _ λv hv=>Va (s:=Builtin.min_ ⟨ts⟩ o.type ⟨xs.map ρ⟩) ?_
  simp only[Builtin.min_]
  cases hl:xs.map ρ with
  |nil=>rw[hl] at hv;cases hv
  |cons x l=>rw[hl] at hv;exact hv
theorem KF{g:Nat}{cs:Array Value}{t:TypeId}{fr:Nat×Nat}(h:w.heap[g]? =some (.cells cs t fr)): ∀(ns:List Int) (o:Nat) (acc:ByteArray),
  (∀(j:Nat) (v:Value),(ns.map (Value.int .u8))[j]? =some v->cs[o+j]? =some v)->(loadBytes ⟨g,o,none⟩ acc ns.length).run P w=.ok (ns.foldl (λr n=>r.push (UInt8.ofNat n.toNat)) acc) w
 |[],o,acc,_=>rfl
 |n::ns,o,acc,hv=>by
  have h0:=hv 0 (.int .u8 n) rfl
  simp only[Zl,loadBytes,Sem.run_bind,run_load,JF h,Zd] at h0 ⊢
  rw[h0]
  simp only[Result.andThen_ok,Ry]
  exact KF h ns (o+1) _ λj v hj=>by
   have:=hv (j+1) v (by simpa using hj)
   rw[<-this];congr 1;omega
theorem A4{w:World}{g o n:Nat}{cs:Array Value}{t:TypeId}{fr:Nat×Nat}(h:w.heap[g]? =some (.cells cs t fr))(hn:n≠0):
  CL w (w.freeze ⟨g,o,none⟩ n) g (.cells cs t (if fr.1=fr.2 then(o,o+n) else(min fr.1 o,max fr.2 (o+n)))):=by
 obtain⟨a,b⟩:=fr
 refine⟨by simp[World.freeze,hn],?_,λk hk=>?_,by simp[World.freeze,hn],by simp[World.freeze,hn],by simp[World.freeze,hn]⟩
 ·simp only[World.freeze,hn,if_false,WG]
  rw[h];simp
 ·simp only[World.freeze,hn,if_false,WG]
  rw[if_neg (λe=>hk e.symm)]
theorem B9(k:IntKind)(n:Int):(asInt (.int k n)).run P w=.ok n w:=rfl
theorem nH(pt ty:TypeId)(rest:List TypeId)(k:IntKind)(p:Option Addr):(Builtin.unsafeString_ ⟨pt::rest⟩ ty #[.pointer p,.int k 0]).run P w=.ok (.string .empty) w:=by
 show((asInt (.int k 0))>>=_:Sem Value).run P w=_
 rw[Sem.run_bind,B9]
 cases p<;>rfl
theorem nG{pt ty e:TypeId}(rest:List TypeId){k:IntKind}{n:Nat}{a:Addr}{s:ByteArray}(hu:P.underlying pt=some (.pointer e))(h0:n≠0)(hn:n<=140737488355328)
  (hv:(variablesAt a e n).run P w=.ok true w)(hl:(loadBytes a .empty n).run P w=.ok s w):
  (Builtin.unsafeString_ ⟨pt::rest⟩ ty #[.pointer (some a),.int k (n:Int)]).run P w=.ok (.string s) (w.freeze a n):=by
 show((asInt (.int k (n:Int)))>>=_:Sem Value).run P w=_
 have p1: ¬((n:Int)<0):=by omega
 have p2: ¬((n:Int)>IntKind.i64.max):=by
  have:IntKind.i64.max=9223372036854775807:=by decide
  omega
 have p3: ¬((n:Int)=0):=by omega
 rw[Sem.run_bind,B9]
 simp only[Result.andThen_ok,Wq,Uc,p1,if_false,p2,p3,Sem.run_bind,elemOf,run_underlying hu,Sem.run_pure,Vp,hv,if_true,hl,run_freeze]
theorem cK(hs:WL P σ H w)(hρ:Rc P σ tm ρ){o:Oper}{xs:List Operand}{ts:List TypeId}(ho:o.op=.call ⟨.builtin .unsafeString,⟨xs⟩,⟨ts⟩⟩):XX P σ H w tm ρ o:=by
 refine UX ho λcs=>?_
 rcases xs with _|⟨x,_|⟨y,_|⟨_,_⟩⟩⟩<;>try exact trivial
 rcases ts with _|⟨t,_|⟨t2,_|⟨_,_⟩⟩⟩<;>try exact trivial
 refine XO λd hu=>qX λe hd=>Wa λi hi=>WX (λhsz=>?_) λ_=>TY
 subst hd
 rw[YZ] at hsz
 have hsz:i.size=1:=Zm hsz
 refine Sr λk n hn=>?_
 have g1:=hρ x
 have g2:=hρ y
 rw[hn] at g2
 have g2:=X3 g2
 refine Ul (λh0=>?_) λh0=>YS λhmax=>Qy λb off hx=>Ty λr hr=>YS λhel=>YS λPe=>YS λhle=>?_
 ·rw[YZ] at h0
  have h0:n=0:=Zm h0
  subst h0
  have fin: ∀p,ρ x=.pointer p->Xx P σ H w ((builtin .unsafeString ⟨[t,t2]⟩ o.type cs ⟨[ρ x,ρ y]⟩).run P w) (.val (.str []) H):=by
   intro p e1
   refine YI hs (x:=.string .empty) ?_ (by simp only[YU];rfl)
   refine Va (s:=Builtin.unsafeString_ ⟨[t,t2]⟩ o.type #[ρ x,ρ y]) ?_
   rw[e1,g2]
   exact nH _ _ _ _ _
  split
  ·rename_i hx
   rw[hx] at g1
   exact fin none (by simpa only[YU] using g1)
  ·rename_i b off hx
   rw[hx] at g1
   obtain⟨l,_,e1⟩:=Ut g1
   exact fin _ e1
  ·trivial
 ·rw[hx] at g1
  obtain⟨l,hl,e1⟩:=Ut g1
  obtain⟨cs',fr,hc,hrr⟩:=hs.row hr hl
  have BI:r.sm=false∧H.may r b=true:=by
   cases hsm:r.sm with
   |true=>rw[hsm] at Pe;cases Pe
   |false=>rw[hsm] at Pe;exact⟨rfl,Pe⟩
  obtain⟨hwr,hown⟩:=Wr.of_may BI.2 hr
  rw[YZ] at h0 hel
  rw[XF] at hmax hle
  have h0:n≠0:=of_decide_eq_false h0
  have hel:r.elem=e:=Zm hel
  have hmax:n<=140737488355328:=Zm hmax
  have hle:off+n<=r.size:=Zm hle
  have q1:=hrr.fits
  have q2:=hrr.room
  obtain⟨vs,h2,h3,h4,h5⟩:=Pj hrr n off hle
  refine N7 _ vs h2 λns hns=>?_
  subst hns
  have hnl:ns.length=n:=by simpa using h3
  have hcell:P.cellsOf e=1:=by simp[Program.cellsOf,hi,hsz]
  have hw:=A4 (o:=l.base+off) (n:=n) hc h0
  refine VP (Tr.write hs hr hl hwr hw.size hw.new hw.old ⟨_,_,rfl,?_⟩ hw.tape hw.os hw.out) (x:=.string ⟨(ns.map yF).toArray⟩) ?_ (by simp[YU])
  ·have hfz:(cond (Nat.ble r.fz (Nat.add off n)) (Nat.add off n) r.fz)=max r.fz (off+n):=by
    rw[XF]
    show cond _ (off+n) r.fz=_
    by_cases hh:r.fz<=off+n
    ·rw[show decide (r.fz<=Nat.add off n)=true from Zi hh];simp only[cond_true];omega
    ·rw[show decide (r.fz<=Nat.add off n)=false from Ze hh];simp only[cond_false];omega
   rw[hfz]
   refine⟨hrr.sz,hrr.sz1,hrr.fits,hrr.room,hrr.exact,hrr.cell,hrr.one,?_,?_⟩
   ·intro _ j hj hj2
    have hj:max r.fz (off+n)<=j:=hj
    have:=hrr.frs hown BI.1
    split
    ·simp only;omega
    ·simp only;omega
   ·intro _ _
    have:=hrr.frs hown BI.1
    right
    split
    ·simp only;omega
    ·simp only;omega
  ·refine Va (s:=Builtin.unsafeString_ ⟨[t,t2]⟩ o.type #[ρ x,ρ y]) ?_
   rw[e1,g2]
   have hsh:=IC hc
   have hlies:liesAt P P.depth r.elem (cs'.size/P.cellsOf r.elem) (l.base+off) e n=true:=by
    rw[hel]
    refine rp (by omega) (by rw[hcell];omega) ?_
    rw[hcell,Qb,Qb];omega
   have hld:=KF (P:=P) hc ns (l.base+off) .empty h4
   rw[hnl,Hj] at hld
   exact nG _ hu h0 hmax (by simp only[variablesAt,Sem.run_bind,run_program,Result.andThen_ok,run_shape,hsh,hlies,Sem.run_pure]) (by simpa using hld)
def Jr(P:Program)(σ:Mp)(D:Nat)(t:Nat)(f:AV->AV->Option Bool):Prop:=
 ∀(a b:AV) (x y:Value) (r:Bool) (w:World),YU σ a x->YU σ b y->f a b=some r->(Op.equalIn D t x y).run P w=.ok r w
theorem mU{t D:Nat}(hu:P.underlying t=some .bool):Jr P σ (D+1) t nN:=by
 intro a b x y r w ha hb h
 unfold nN at h
 split at h
 ·cases h
  rw[TE ha,TE hb,run_equalIn_bool w D t _ _ hu]
  rename_i p q
  cases p<;>cases q<;>rfl
 ·cases h
theorem Zbt{t D:Nat}{k':IntKind}(hu:P.underlying t=some (.int k')):Jr P σ (D+1) t VU:=by
 intro a b x y r w ha hb h
 unfold VU at h
 split at h
 ·rename_i j p k q
  cases hk:PR j k with
  |false=>rw[hk] at h;cases h
  |true=>
   rw[hk] at h
   have:=SS hk;subst this
   cases h
   rw[X3 ha,X3 hb,run_equalIn_int w D t _ _ _ _ hu,Pf]
 ·cases h
theorem Zbu{t D:Nat}(hu:P.underlying t=some .string):Jr P σ (D+1) t Mw:=by
 intro a b x y r w ha hb h
 unfold Mw at h
 split at h
 ·cases h
  rw[V3 ha,V3 hb,run_equalIn_string w D t _ _ hu,S9,Ki,Ki]
 ·cases h
theorem NV{v:Value}(h:YU σ .nilp v):v=.pointer none:=by simpa [YU] using h
theorem QL{v:Value}(h:YU σ .nils v):v=.slice none 0 0:=by simpa [YU] using h
theorem PN{v:Value}(h:YU σ .nilm v):v=.map none:=by simpa [YU] using h
theorem NU{v:Value}(h:YU σ .nilf v):v=.nilFunc:=by simpa [YU] using h
theorem QK{v:Value}(h:YU σ .nili v):v=.nilIface:=by simpa [YU] using h
theorem Kb{b:Nat}{v:Value}(h:YU σ (.map b) v): ∃l,σ b=some l∧v=.map (some l.blk):=by simpa only[YU] using h
theorem OI{f:Nat}{a b:List AV}{v:Value}(h:YU σ (.func f a b) v): ∃x y,Xj σ a x∧Xj σ b y∧v=.func (.func f) ⟨x⟩ ⟨y⟩:=by simpa only[YU] using h
theorem Tw{t:Nat}{a:AV}{v:Value}(h:YU σ (.iface t a) v): ∃x,YU σ a x∧v=.iface t x:=by simpa only[YU] using h
theorem Ml{cs:List AV}{v:Value}(h:YU σ (.agg cs) v): ∃vs,Xj σ cs vs∧(∀x∈vs,x.oneCell'=true)∧v=.agg ⟨vs⟩:=by simpa only[YU] using h
theorem mZ{t D e:Nat}{i:TypeInfo}(hu:P.underlying t=some (.pointer e))(hi:P.info? e=some i)(h0:i.size≠0):Jr P σ (D+1) t yS:=by
 intro a b x y r w ha hb h
 unfold yS at h
 split at h
 ·cases h;rw[NV ha,NV hb];simp[Op.equalIn,run_underlying hu]
 ·cases h;obtain⟨l,_,e1⟩:=Ut hb;rw[NV ha,e1];simp[Op.equalIn,run_underlying hu]
 ·cases h;obtain⟨l,_,e1⟩:=Ut ha;rw[NV hb,e1];simp[Op.equalIn,run_underlying hu]
 ·rename_i b o c p
  rw[YZ,YZ] at h
  by_cases hbc:b=c
  ·subst hbc
   rw[Zi rfl] at h
   cases h
   obtain⟨l,hl,e1⟩:=Ut ha
   obtain⟨l2,hl2,e2⟩:=Ut hb
   rw[hl] at hl2;cases hl2
   rw[e1,e2]
   simp only[Op.equalIn,Sem.run_bind,run_underlying hu,Result.andThen_ok,WK hi,sameAddr]
   rw[if_pos h0]
   simp only[beq_self_eq_true,if_true,Sem.run_pure,Result.ok.injEq,and_true]
   by_cases hop:o=p
   ·subst hop;simp
   ·rw[Ze hop]
    rw[beq_eq_false_iff_ne]
    intro he
    have:=congrArg Addr.off he
    simp only at this
    omega
  ·rw[Ze hbc] at h;cases h
 ·cases h
theorem mW{t D e:Nat}(hu:P.underlying t=some (.slice e)):Jr P σ (D+1) t qG:=by
 intro a b x y r w ha hb h
 unfold qG at h
 split at h
 ·cases h;rw[QL ha,QL hb];simp[Op.equalIn,run_underlying hu]
 ·cases h;obtain⟨l,_,e1⟩:=Uo hb;rw[QL ha,e1];simp[Op.equalIn,run_underlying hu]
 ·cases h;obtain⟨l,_,e1⟩:=Uo ha;rw[QL hb,e1];simp[Op.equalIn,run_underlying hu]
 ·cases h;obtain⟨l,e1⟩:=(by simpa only[YU] using hb: ∃a,y=.slice (some a) 0 0);rw[QL ha,e1];simp[Op.equalIn,run_underlying hu]
 ·cases h;obtain⟨l,e1⟩:=(by simpa only[YU] using ha: ∃a,x=.slice (some a) 0 0);rw[QL hb,e1];simp[Op.equalIn,run_underlying hu]
 ·cases h
theorem mX{t D k e:Nat}(hu:P.underlying t=some (.map k e)):Jr P σ (D+1) t eqM:=by
 intro a b x y r w ha hb h
 unfold eqM at h
 split at h
 ·cases h;rw[PN ha,PN hb];simp[Op.equalIn,run_underlying hu]
 ·cases h;obtain⟨l,_,e1⟩:=Kb hb;rw[PN ha,e1];simp[Op.equalIn,run_underlying hu]
 ·cases h;obtain⟨l,_,e1⟩:=Kb ha;rw[PN hb,e1];simp[Op.equalIn,run_underlying hu]
 ·cases h
theorem mY{t D:Nat}{p q:Array TypeId}{v:Bool}(hu:P.underlying t=some (.func p q v)):Jr P σ (D+1) t eqN:=by
 intro a b x y r w ha hb h
 unfold eqN at h
 split at h
 ·cases h;rw[NU ha,NU hb];simp[Op.equalIn,run_underlying hu]
 ·cases h;obtain⟨_,_,_,_,e1⟩:=OI hb;rw[NU ha,e1];simp[Op.equalIn,run_underlying hu]
 ·cases h;obtain⟨_,_,_,_,e1⟩:=OI ha;rw[NU hb,e1];simp[Op.equalIn,run_underlying hu]
 ·cases h
theorem mV{t D:Nat}{ms:Array (String×TypeId)}{lit:Bool}{g:Nat->AV->AV->Option Bool}(hu:P.underlying t=some (.interface ms))(hg: ∀t,Jr P σ D t (g t)):Jr P σ (D+1) t (qF lit (eqC P g)):=by
 intro a b x y r w ha hb h
 unfold qF at h
 split at h
 ·cases lit
  ·cases h
  ·cases h;rw[QK ha,QK hb];simp[Op.equalIn,run_underlying hu]
 ·cases h;obtain⟨_,_,e1⟩:=Tw hb;rw[QK ha,e1];simp[Op.equalIn,run_underlying hu]
 ·cases h;obtain⟨_,_,e1⟩:=Tw ha;rw[QK hb,e1];simp[Op.equalIn,run_underlying hu]
 ·rename_i t1 v1 t2 v2
  obtain⟨x1,h1,e1⟩:=Tw ha
  obtain⟨y1,h2,e2⟩:=Tw hb
  rw[e1,e2]
  rw[YZ] at h
  by_cases ht:t1=t2
  ·subst ht
   rw[Zi rfl] at h
   have h:eqC P g t1 v1 v2=some r:=h
   unfold eqC at h
   split at h
   ·rename_i i hi
    cases hc:i.comparable with
    |false=>rw[hc] at h;cases h
    |true=>
     rw[hc] at h
     have hti:(typeInfo t1).run P w=.ok i w:=by simp[typeInfo,hi]
     simp only[Op.equalIn,Sem.run_bind,run_underlying hu,Result.andThen_ok,ne_eq,not_true_eq_false,if_false,hti,hc,ZN,XW]
     exact hg t1 v1 v2 x1 y1 r w h1 h2 h
   ·cases h
  ·rw[Ze ht] at h
   cases h
   simp[Op.equalIn,run_underlying hu,ht]
 ·cases h
theorem gU{t:Nat}{ag:Bool}(h:ZaL P t=some ag): ∃d,P.underlying t=some d∧Nu P t=ag:=by
 unfold ZaL at h
 unfold Nu
 split at h<;>rename_i e<;>cases h
 ·rw[e];exact⟨_,rfl,rfl⟩
 ·rw[e];exact⟨_,rfl,rfl⟩
 ·rename_i d h1 h2
  rw[e]
  refine⟨d,rfl,?_⟩
  cases d<;>first|rfl|exact absurd rfl (h1 _)|exact absurd rfl (h2 _ _)
theorem Il{t:Nat}{cs:List AV}{vs:List Value}{off:Nat}{k:AV->Option Bool}{r:Bool}(hr:Xj σ cs vs)(hone: ∀x∈vs,x.oneCell'=true)(h:B1 P t cs off k=some r):
  ∃a x,YU σ a x∧k a=some r∧ ∀w:World,(part t ⟨vs⟩ off).run P w=.ok x w:=by
 unfold B1 at h
 split at h
 ·rename_i i ag hi hag
  obtain⟨d,hu,hia⟩:=gU hag
  cases ag with
  |true=>
   have h:k (.agg (PQ i.size (QY off cs)))=some r:=h
   rw[NX,NC] at h
   refine⟨_,.agg ⟨(vs.drop off).take i.size⟩,?_,h,λw=>?_⟩
   ·simp only[YU]
    exact⟨_,(hr.drop _).take _,λy hy=>hone y (Tb (Ui hy)),rfl⟩
   ·simp only[part,Sem.run_bind,Pp (w:=w) hu,hia,Result.andThen_ok,if_true,WK hi,Sem.run_pure]
    congr 2
    apply Array.ext'
    simp[W3]
  |false=>
   have h:(match Ib cs off with|some v=>k v|none=>none)=some r:=h
   rw[L6] at h
   split at h
   ·rename_i v hv
    obtain⟨x,hx,hrel⟩:=hr.get hv
    refine⟨v,x,hrel,h,λw=>?_⟩
    simp only[part,Sem.run_bind,Pp (w:=w) hu,hia,Result.andThen_ok,XW,if_false]
    simp[hx]
   ·cases h
 ·cases h
theorem GG{e c D:Nat}{f:AV->AV->Option Bool}(hf:Jr P σ D e f){l m:List AV}{xs ys:List Value}(hl:Xj σ l xs)(hm:Xj σ m ys)(hlo: ∀x∈xs,x.oneCell'=true)(hmo: ∀x∈ys,x.oneCell'=true):
  ∀(is:List Nat) (r:Bool) (w:World),JL P f e c l m is=some r->(Op.eqItems D e c ⟨xs⟩ ⟨ys⟩ is).run P w=.ok r w
 |[],r,w,h=>by cases h;rfl
 |i::is,r,w,h=>by
  unfold JL at h
  obtain⟨a,x,h1,h2,h3⟩:=Il hl hlo h
  obtain⟨b,y,g1,g2,g3⟩:=Il hm hmo h2
  unfold gZ at g2
  split at g2
  ·rename_i t ht
   have he:=hf a b x y t w h1 g1 ht
   simp only[Op.eqItems,Sem.run_bind,h3 w,g3 w,he,Result.andThen_ok]
   cases t with
   |true=>simpa using GG hf hl hm hlo hmo is r w g2
   |false=>cases g2;simp
  ·cases g2
theorem N4{D:Nat}{g:Nat->AV->AV->Option Bool}(hf: ∀t,Jr P σ D t (g t)){l m:List AV}{xs ys:List Value}(hl:Xj σ l xs)(hm:Xj σ m ys)(hlo: ∀x∈xs,x.oneCell'=true)(hmo: ∀x∈ys,x.oneCell'=true):
  ∀(fs:List Field) (r:Bool) (w:World),Oi P g l m fs=some r->(Op.eqFields D ⟨xs⟩ ⟨ys⟩ fs).run P w=.ok r w
 |[],r,w,h=>by cases h;rfl
 |f::fs,r,w,h=>by
  unfold Oi at h
  unfold Op.eqFields
  cases hn:f.name== "_" with
  |true=>
   rw[hn] at h
   rw[if_neg (by simpa using hn)]
   exact N4 hf hl hm hlo hmo fs r w h
  |false=>
   rw[hn] at h
   simp only[cond_false] at h
   rw[if_pos (by simpa using hn)]
   obtain⟨a,x,h1,h2,h3⟩:=Il hl hlo h
   obtain⟨b,y,g1,g2,g3⟩:=Il hm hmo h2
   unfold gZ at g2
   split at g2
   ·rename_i t ht
    have he:=hf f.type a b x y t w h1 g1 ht
    simp only[Sem.run_bind,h3 w,g3 w,he,Result.andThen_ok]
    cases t with
    |true=>simpa using N4 hf hl hm hlo hmo fs r w g2
    |false=>cases g2;simp
   ·cases g2
theorem Zbp{t D:Nat}{lit:Bool}{g:Nat->AV->AV->Option Bool}{d:TypeDesc}(hu:P.underlying t=some d)(hg: ∀t,Jr P σ D t (g t)):Jr P σ (D+1) t (λa b=>eqD P lit g t a b d):=by
 intro a b x y r w ha hb h
 cases d<;>simp only[eqD] at h<;>first
  |cases h;done
  |exact mU hu a b x y r w ha hb h
  |exact Zbt hu a b x y r w ha hb h
  |exact Zbu hu a b x y r w ha hb h
  |exact mW hu a b x y r w ha hb h
  |exact mX hu a b x y r w ha hb h
  |exact mY hu a b x y r w ha hb h
  |exact mV hu hg a b x y r w ha hb h
  |skip
 case pointer e=>
  split at h
  ·rename_i i hi
   rw[YZ] at h
   by_cases h0:i.size=0
   ·rw[Zi h0] at h;cases h
   ·rw[Ze h0] at h
    exact mZ hu hi h0 a b x y r w ha hb h
  ·cases h
 case array n e=>
  unfold vp at h
  split at h
  ·split at h
   ·rename_i i hi
    obtain⟨xs,h1,h2,e1⟩:=Ml ha
    obtain⟨ys,g1,g2,e2⟩:=Ml hb
    have:=GG (hg e) h1 g1 h2 g2 (List.range n) r w h
    rw[e1,e2,run_equalIn_array w D ⟨xs⟩ ⟨ys⟩ hu hi]
    rw[show P.cellsOf e=i.size by simp[Program.cellsOf,hi]]
    exact this
   ·cases h
  ·cases h
 case struct fs=>
  cases hst:P.stoodInHeld t with
  |true=>rw[hst] at h;cases h
  |false=>
   rw[hst] at h
   have h:vp a b (λl m=>Oi P g l m fs.toList)=some r:=h
   unfold vp at h
   split at h
   ·obtain⟨xs,h1,h2,e1⟩:=Ml ha
    obtain⟨ys,g1,g2,e2⟩:=Ml hb
    have:=N4 hg h1 g1 h2 g2 fs.toList r w h
    have hfs:P.fieldsOf t=fs:=by simp[Program.fieldsOf,hu]
    rw[e1,e2,run_equalIn_struct w D t ⟨xs⟩ ⟨ys⟩ (by rw[hfs];exact hu) hst,hfs]
    exact this
   ·cases h
theorem vP: ∀(d D t:Nat),d<=D->Jr P σ D t (gG P d t)
 |0,D,t,_=>by intro a b x y r w ha hb h;cases h
 |d+1,D,t,hD=>by
  obtain⟨D',rfl⟩: ∃D',D=D'+1:=⟨D - 1,by omega⟩
  intro a b x y r w ha hb h
  unfold gG at h
  split at h
  ·rename_i u hu
   exact Zbp (lit:=true) hu (λt=>vP d D' t (by omega)) a b x y r w ha hb h
  ·cases h
def Kp(P:Program)(σ:Mp)(t:Nat)(X Y:Operand)(f:AV->AV->Option Bool):Prop:=
 ∀(a b:AV) (x y:Value) (r:Bool) (w:World),YU σ a x->YU σ b y->f a b=some r->
  (∀op,(eqGuard op t X Y x y).run P w=.ok () w)∧(binOp .eql t x y).run P w=.ok (.bool r) w∧(binOp .neq t x y).run P w=.ok (.bool (!r)) w
def uE(v:Value):Bool:=match v with|.int .. |.float .. |.complex .. |.string _=>false|_=>true
theorem fw{t:TypeId}{x y:Value}(h:uE x=true):binOp .eql t x y=(do pure (.bool (<-Op.equal t x y))):=by
 cases x<;>first|(cases h;done)|(unfold binOp;rfl)
theorem fx{t:TypeId}{x y:Value}(h:uE x=true):binOp .neq t x y=(do pure (.bool (!(<-Op.equal t x y)))):=by
 cases x<;>first|(cases h;done)|(unfold binOp;rfl)
theorem OQ{t:TypeId}{X Y:Operand}{x y:Value}{r:Bool}(h:uE x=true)(hg: ∀op,(eqGuard op t X Y x y).run P w=.ok () w)(he:(Op.equalIn 10000 t x y).run P w=.ok r w):
  (∀op,(eqGuard op t X Y x y).run P w=.ok () w)∧(binOp .eql t x y).run P w=.ok (.bool r) w∧(binOp .neq t x y).run P w=.ok (.bool (!r)) w:=by
 have he:(Op.equal t x y).run P w=.ok r w:=he
 refine⟨hg,?_,?_⟩
 ·rw[fw h];simp[he]
 ·rw[fx h];simp[he]
theorem UA{t:TypeId}{X Y:Operand}{x y:Value}(h1: ∀v,x≠.agg v)(h2:x≠.nilIface∨y≠.nilIface)(op:BinOp):(eqGuard op t X Y x y).run P w=.ok () w:=by
 cases op<;>simp only[eqGuard]<;>first
  |rfl
  |(cases x<;>first
    |rfl
    |exact absurd rfl (h1 _)
    |(cases y<;>first
      |rfl
      |(rcases h2 with h2|h2<;>exact absurd rfl h2)))
theorem Zjk{t:TypeId}{X Y:Operand}(hu:P.underlying t=some .bool):Kp P σ t X Y nN:=by
 intro a b x y r w ha hb h
 have he:=mU (D:=9999) hu a b x y r w ha hb h
 unfold nN at h
 split at h
 ·have ha:=TE ha;subst ha
  exact OQ rfl (UA (λ_ h=>by cases h) (.inl λh=>by cases h)) he
 ·cases h
theorem Zjq{t e:TypeId}{X Y:Operand}{i:TypeInfo}(hu:P.underlying t=some (.pointer e))(hi:P.info? e=some i)(h0:i.size≠0):Kp P σ t X Y yS:=by
 intro a b x y r w ha hb h
 have he:=mZ (D:=9999) hu hi h0 a b x y r w ha hb h
 have: ∃p,x=.pointer p:=by
  unfold yS at h
  split at h
  ·exact⟨_,NV ha⟩
  ·exact⟨_,NV ha⟩
  ·obtain⟨_,_,e1⟩:=Ut ha;exact⟨_,e1⟩
  ·obtain⟨_,_,e1⟩:=Ut ha;exact⟨_,e1⟩
  ·cases h
 obtain⟨p,rfl⟩:=this
 exact OQ rfl (UA (λ_ h=>by cases h) (.inl λh=>by cases h)) he
theorem Zjn{t e:TypeId}{X Y:Operand}(hu:P.underlying t=some (.slice e)):Kp P σ t X Y qG:=by
 intro a b x y r w ha hb h
 have he:=mW (D:=9999) hu a b x y r w ha hb h
 have: ∃p n c,x=.slice p n c:=by
  unfold qG at h
  split at h
  ·exact⟨_,_,_,QL ha⟩
  ·exact⟨_,_,_,QL ha⟩
  ·obtain⟨_,_,e1⟩:=Uo ha;exact⟨_,_,_,e1⟩
  ·exact⟨_,_,_,QL ha⟩
  ·obtain⟨_,e1⟩:=(by simpa only[YU] using ha: ∃a,x=.slice (some a) 0 0);exact⟨_,_,_,e1⟩
  ·cases h
 obtain⟨p,n,c,rfl⟩:=this
 exact OQ rfl (UA (λ_ h=>by cases h) (.inl λh=>by cases h)) he
theorem Zjo{t k e:TypeId}{X Y:Operand}(hu:P.underlying t=some (.map k e)):Kp P σ t X Y eqM:=by
 intro a b x y r w ha hb h
 have he:=mX (D:=9999) hu a b x y r w ha hb h
 have: ∃p,x=.map p:=by
  unfold eqM at h
  split at h
  ·exact⟨_,PN ha⟩
  ·exact⟨_,PN ha⟩
  ·obtain⟨_,_,e1⟩:=Kb ha;exact⟨_,e1⟩
  ·cases h
 obtain⟨p,rfl⟩:=this
 exact OQ rfl (UA (λ_ h=>by cases h) (.inl λh=>by cases h)) he
theorem Zjp{t:TypeId}{p q:Array TypeId}{v:Bool}{X Y:Operand}(hu:P.underlying t=some (.func p q v)):Kp P σ t X Y eqN:=by
 intro a b x y r w ha hb h
 have he:=mY (D:=9999) hu a b x y r w ha hb h
 have:x=.nilFunc∨ ∃f m n,x=.func f m n:=by
  unfold eqN at h
  split at h
  ·exact .inl (NU ha)
  ·exact .inl (NU ha)
  ·obtain⟨_,_,_,_,e1⟩:=OI ha;exact .inr ⟨_,_,_,e1⟩
  ·cases h
 rcases this with rfl|⟨f,m,n,rfl⟩
 ·exact OQ rfl (UA (λ_ h=>by cases h) (.inl λh=>by cases h)) he
 ·exact OQ rfl (UA (λ_ h=>by cases h) (.inl λh=>by cases h)) he
theorem pb{t:TypeId}{X Y:Operand}(h:(MA X||MA Y)=true)(op:BinOp):(eqGuard op t X Y .nilIface .nilIface).run P w=.ok () w:=by
 have hc:((X matches .const _)||(Y matches .const _))=true:=by
  cases X<;>cases Y<;>first|rfl|cases h
 cases op<;>simp only[eqGuard]<;>first
  |rfl
  |(cases X<;>cases Y<;>first|rfl|cases h)
theorem Zjl{t:TypeId}{ms:Array (String×TypeId)}{X Y:Operand}(hu:P.underlying t=some (.interface ms)):Kp P σ t X Y (qF (MA X||MA Y) (eqC P (gG P 9))):=by
 intro a b x y r w ha hb h
 have he:=mV (D:=9999) hu (λt=>vP 9 9999 t (by omega)) a b x y r w ha hb h
 unfold qF at h
 split at h
 ·cases hl:(MA X||MA Y) with
  |false=>rw[hl] at h;cases h
  |true=>
   have ha:=QK ha;subst ha
   have hb:=QK hb;subst hb
   exact OQ rfl (pb hl) he
 ·have ha:=QK ha;subst ha
  obtain⟨_,_,rfl⟩:=Tw hb
  exact OQ rfl (UA (λ_ h=>by cases h) (.inr λh=>by cases h)) he
 ·obtain⟨_,_,rfl⟩:=Tw ha
  exact OQ rfl (UA (λ_ h=>by cases h) (.inl λh=>by cases h)) he
 ·obtain⟨_,_,rfl⟩:=Tw ha
  exact OQ rfl (UA (λ_ h=>by cases h) (.inl λh=>by cases h)) he
 ·cases h
theorem Zfu{t:TypeId}{X Y:Operand}(hag:(∃n e,P.underlying t=some (.array n e))∨ ∃fs,P.underlying t=some (.struct fs))(hg:P.eqGuardType P.depth t=false):Kp P σ t X Y (gG P 10 t):=by
 intro a b x y r w ha hb h
 have he:=vP 10 10000 t (by omega) a b x y r w ha hb h
 have hab:(∃l,a=.agg l)∧ ∃m,b=.agg m:=by
  unfold gG at h
  have agg: ∀{k:List AV->List AV->Option Bool},vp a b k=some r->(∃l,a=.agg l)∧ ∃m,b=.agg m:=by
   intro k h
   unfold vp at h
   split at h
   ·exact⟨⟨_,rfl⟩,⟨_,rfl⟩⟩
   ·cases h
  rcases hag with⟨n,e,hu⟩|⟨fs,hu⟩
  ·rw[hu] at h
   exact agg h
  ·rw[hu] at h
   simp only[eqD] at h
   cases hst:P.stoodInHeld t with
   |true=>rw[hst] at h;cases h
   |false=>rw[hst] at h;exact agg h
 obtain⟨⟨l,rfl⟩,⟨m,rfl⟩⟩:=hab
 obtain⟨xs,_,_,rfl⟩:=Ml ha
 obtain⟨ys,_,_,rfl⟩:=Ml hb
 exact OQ rfl (λop=>run_eqGuard_agg w op t X Y _ _ hg) he
theorem Zjm{t:TypeId}{X Y:Operand}:Kp P σ t X Y VU:=by
 intro a b x y r w ha hb h
 unfold VU at h
 split at h
 ·rename_i j p k q
  cases hk:PR j k with
  |false=>rw[hk] at h;cases h
  |true=>
   rw[hk] at h
   have:=SS hk;subst this
   have h:some (GW p q)=some r:=h
   cases h
   have ha:=X3 ha;subst ha
   have hb:=X3 hb;subst hb
   rw[Pf]
   exact⟨UA (λ_ h=>by cases h) (.inl λh=>by cases h),by simp[binOp,Op.intCmp],by simp[binOp,Op.intCmp,bne]⟩
 ·cases h
theorem Zjr{t:TypeId}{X Y:Operand}:Kp P σ t X Y Mw:=by
 intro a b x y r w ha hb h
 unfold Mw at h
 split at h
 ·rename_i p q
  cases h
  have ha:=V3 ha;subst ha
  have hb:=V3 hb;subst hb
  refine⟨UA (λ_ h=>by cases h) (.inl λh=>by cases h),?_,?_⟩
  ·simp[binOp,Op.stringOp,S9]
  ·simp[binOp,Op.stringOp,bne,S9]
 ·cases h
theorem Nv(hs:WL P σ H w)(hρ:Rc P σ tm ρ){o:Oper}{neg:Bool}{t u:TypeId}{x y:Operand}{f:AV->AV->Option Bool}(ho:o.op=.binOp (if neg then .neq else .eql) t x y u)(hf:Kp P σ t x y f):
  Xx P σ H w ((execOp ρ o).run P w) (VD (Xo P x) (Xo P y) f neg tm H):=by
 refine Qf λr hr=>?_
 obtain⟨h1,h2,h3⟩:=hf _ _ _ _ r w (hρ x) (hρ y) hr
 refine KZ hs ?_
 simp only[execOp,ho]
 refine Va ?_
 rw[Sem.run_bind,h1]
 cases neg
 ·exact h2
 ·simp only[Result.andThen_ok]
  refine h3.trans ?_
  cases r<;>rfl
theorem jD(hs:WL P σ H w)(hρ:Rc P σ tm ρ){o:Oper}{neg:Bool}{t u:TypeId}{x y:Operand}(ho:o.op=.binOp (if neg then .neq else .eql) t x y u):
  Xx P σ H w ((execOp ρ o).run P w) (V0 P t (eqK P t (MA x||MA y) neg (Xo P x) (Xo P y)) tm H):=by
 refine XO λd hu=>?_
 cases d<;>try exact trivial
 case bool=>exact Nv hs hρ ho (Zjk hu)
 case int k=>exact Nv hs hρ ho Zjm
 case string=>exact Nv hs hρ ho Zjr
 case pointer e=>
  show Xx P σ H w _ ((match P.info? e with|some i=>cond (Nat.beq i.size 0) VZ (VD (Xo P x) (Xo P y) yS neg)|none=>VZ) tm H)
  cases hi:P.info? e with
  |none=>exact trivial
  |some i=>
   refine WX (λ_=>TY) λh0=>?_
   rw[YZ] at h0
   exact Nv hs hρ ho (Zjq hu hi (of_decide_eq_false h0))
 case slice e=>exact Nv hs hρ ho (Zjn hu)
 case map k e=>exact Nv hs hρ ho (Zjo hu)
 case func p q v=>exact Nv hs hρ ho (Zjp hu)
 case interface ms=>exact Nv hs hρ ho (Zjl hu)
 case array n e=>exact WX (λ_=>TY) λh0=>Nv hs hρ ho (Zfu (.inl ⟨n,e,hu⟩) h0)
 case struct fs=>exact WX (λ_=>TY) λh0=>Nv hs hρ ho (Zfu (.inr ⟨fs,hu⟩) h0)
theorem Zco(hs:WL P σ H w)(hρ:Rc P σ tm ρ){o:Oper}{t u:TypeId}{x y:Operand}(ho:o.op=.binOp .eql t x y u):XX P σ H w tm ρ o:=by
 unfold XX
 have:=jD (neg:=false) hs hρ ho
 rw[ho]
 exact this
theorem Zcv(hs:WL P σ H w)(hρ:Rc P σ tm ρ){o:Oper}{t u:TypeId}{x y:Operand}(ho:o.op=.binOp .neq t x y u):XX P σ H w tm ρ o:=by
 unfold XX
 have:=jD (neg:=true) hs hρ ho
 rw[ho]
 exact this
theorem Y3.length: ∀{es:List Sy} {l:List MapEntry},Y3 σ es l->es.length=l.length
 |[],l,h=>by simp only[Y3] at h;subst h;rfl
 |a::es,l,h=>by simp only[Y3] at h;obtain⟨e,es',_,h2,rfl⟩:=h;simp[h2.length]
theorem Na:Y3 σ [] []:=by simp[Y3]
theorem Ob{a:Sy}{as:List Sy}{e:MapEntry}{es:List MapEntry}(h:Nn σ a e)(h':Y3 σ as es):Y3 σ (a::as) (e::es):=by
 simp only[Y3];exact⟨e,es,h,h',rfl⟩
theorem Y3.cons_inv{a:Sy}{as:List Sy}{l:List MapEntry}(h:Y3 σ (a::as) l): ∃e es,Nn σ a e∧Y3 σ as es∧l=e::es:=by simpa [Y3] using h
structure Gu(P:Program)(σ:Mp)(kt:TypeId)(kd:TypeDesc)(eq:AV->AV->Option Bool):Prop where
 und:P.underlying kt=some kd
 check: ∀(b:Bool) (x:Value) (w:World),(Instr.checkKey b 10000 kt x).run P w=.ok () w
 now: ∀(a b:AV) (x y:Value) (r:Bool),YU σ a x->YU σ b y->eq a b=some r->Instr.sameNow kd x y=some r
 bits: ∀(a b:AV) (x y:Value),YU σ a x->YU σ b y->eq a b=some true->Instr.sameBits 10000 y x=true
 apart: ∀(k a b:AV) (t:Bool),MX a b=true->eq k a=some t-> ∃u,eq k b=some u∧(t=true->u=false)
theorem M0{kt:TypeId}{kd:TypeDesc}(hu:P.underlying kt=some kd)(hk:(match kd with|.string|.int _|.bool=>true|_=>false)=true)(b:Bool)(x:Value)(w:World):(Instr.checkKey b 10000 kt x).run P w=.ok () w:=by
 cases kd<;>first|(cases hk;done)|skip
 all_goals
  unfold Instr.checkKey
  simp[run_underlying hu]
theorem ZiD{kt:TypeId}(hu:P.underlying kt=some .string):Gu P σ kt .string Mw:=by
 refine⟨hu,λb x w=>M0 hu rfl b x w,?_,?_,?_⟩
 ·intro a b x y r ha hb h
  unfold Mw at h
  split at h
  ·cases h
   rw[V3 ha,V3 hb,S9]
   show some (ByteArray.mk _==ByteArray.mk _)=_
   rw[beq_toListBytes,Ki,Ki]
  ·cases h
 ·intro a b x y ha hb h
  unfold Mw at h
  split at h
  ·rename_i p q
   rw[S9] at h
   have h:p=q:=by simpa using h
   subst h
   rw[V3 ha,V3 hb]
   show(ByteArray.mk _==ByteArray.mk _)=true
   rw[beq_toListBytes]
   simp
  ·cases h
 ·intro k a b t hab h
  unfold MX at hab
  split at hab
  ·rename_i p q
   cases k<;>try (cases h;done)
   rename_i s
   refine⟨LU s q,rfl,λht=>?_⟩
   subst ht
   have h:some (LU s p)=some true:=h
   rw[S9] at h hab ⊢
   have h:s=p:=by simpa using h
   subst h
   simpa using hab
  ·cases k<;>cases h
  ·cases hab
theorem ZiC{kt:TypeId}{k:IntKind}(hu:P.underlying kt=some (.int k)):Gu P σ kt (.int k) VU:=by
 refine⟨hu,λb x w=>M0 hu rfl b x w,?_,?_,?_⟩
 ·intro a b x y r ha hb h
  unfold VU at h
  split at h
  ·rename_i j p k q
   cases hk:PR j k with
   |false=>rw[hk] at h;cases h
   |true=>
    rw[hk] at h
    have:=SS hk;subst this
    cases h
    rw[X3 ha,X3 hb,Pf]
    simp[Instr.sameNow]
  ·cases h
 ·intro a b x y ha hb h
  unfold VU at h
  split at h
  ·rename_i j p k q
   cases hk:PR j k with
   |false=>rw[hk] at h;cases h
   |true=>
    rw[hk] at h
    have:=SS hk;subst this
    have h:some (GW p q)=some true:=h
    rw[Pf] at h
    have h:p=q:=by simpa using h
    subst h
    rw[X3 ha,X3 hb]
    simp[Instr.sameBits]
  ·cases h
 ·intro k a b t hab h
  unfold MX at hab
  split at hab
  ·cases k<;>cases h
  ·rename_i j1 p j2 q
   cases k<;>try (cases h;done)
   rename_i j3 s
   obtain⟨h1,h2⟩:=RR.1 hab
   have:=SS h1;subst this
   unfold VU at h ⊢
   cases hk:PR j3 j1 with
   |false=>simp[hk] at h
   |true=>
    simp only[hk,cond_true,Option.some.injEq] at h ⊢
    refine⟨_,rfl,λht=>?_⟩
    subst ht
    rw[Pf] at h h2 ⊢
    have h:s=p:=by simpa using h
    subst h
    simpa using h2
  ·cases hab
theorem ZiB{kt:TypeId}(hu:P.underlying kt=some .bool):Gu P σ kt .bool nN:=by
 refine⟨hu,λb x w=>M0 hu rfl b x w,?_,?_,?_⟩
 ·intro a b x y r ha hb h
  unfold nN at h
  split at h
  ·rename_i p q
   cases h
   rw[TE ha,TE hb]
   cases p<;>cases q<;>rfl
  ·cases h
 ·intro a b x y ha hb h
  unfold nN at h
  split at h
  ·rename_i p q
   rw[TE ha,TE hb]
   cases p<;>cases q<;>first|rfl|cases h
  ·cases h
 ·intro k a b t hab h
  unfold MX at hab
  split at hab
  ·cases k<;>cases h
  ·cases k<;>cases h
  ·cases hab
theorem Bm{r:Result Next}{kt:TypeId}{f:(AV->AV->Option Bool)->Vu}(h: ∀kd eq,Gu P σ kt kd eq->Xx P σ H w r (f eq tm H)):Xx P σ H w r (V0 P kt (kD f) tm H):=by
 refine XO λd hu=>?_
 cases d<;>try exact trivial
 case string=>exact h _ _ (ZiD hu)
 case int k=>exact h _ _ (ZiC hu)
 case bool=>exact h _ _ (ZiB hu)
theorem Hm{r:Result Next}{kt:TypeId}{kd:TypeDesc}{eq:AV->AV->Option Bool}(hk:Gu P σ kt kd eq){k:AV}{kv:Value}(hkr:YU σ k kv){no:OR}{yes:AV->OR}: ∀(es:List Sy) (l:List MapEntry) (i:Nat),Y3 σ es l->
  (Instr.findNow kd kv l i=some none->Xx P σ H w r no)->(∀j a v,YU σ a v->Instr.findNow kd kv l i=some (some (j,v))->Xx P σ H w r (yes a))->Xx P σ H w r (Ua eq k no yes es)
 |[],l,i,h,h1,h2=>by
  simp only[Y3] at h;subst h
  exact h1 rfl
 |e::es,l,i,h,h1,h2=>by
  obtain⟨m,ms,g1,g2,rfl⟩:=h.cons_inv
  unfold Ua
  cases he:eq k e.key with
  |none=>exact trivial
  |some t=>
   have hn:=hk.now _ _ _ _ t hkr g1.1 he
   cases t with
   |true=>exact h2 i e.val m.val g1.2.1 (by simp only[Instr.findNow,hn])
   |false=>
    refine Hm hk hkr es ms (i+1) g2 (λq=>h1 ?_) (λj a v ha q=>h2 j a v ha ?_)
    ·simp only[Instr.findNow,hn];exact q
    ·simp only[Instr.findNow,hn];exact q
theorem KC{eq:AV->AV->Option Bool}{k:AV}{no:OR}{yes:AV->OR}: ∀{es fs:List Sy},es.map T9=fs.map T9->Ua eq k no yes es=Ua eq k no yes fs
 |[],[],_=>rfl
 |[],_::_,h=>by cases h
 |_::_,[],h=>by cases h
 |e::es,f::fs,h=>by
  simp only[ZB,List.cons.injEq] at h
  obtain⟨h1,h2⟩:=h
  simp only[T9,Prod.mk.injEq] at h1
  unfold Ua
  rw[h1.1,h1.2,KC h2]
noncomputable def Bf(eq:AV->AV->Option Bool)(k:AV)(no:OR)(yes:AV->OR)(l:List (AV×AV)):OR:=Ua eq k no yes (l.map λp=>⟨p.1,p.2,0⟩)
theorem Bg{eq:AV->AV->Option Bool}{k:AV}{no:OR}{yes:AV->OR}(es:List Sy):Bf eq k no yes (es.map T9)=Ua eq k no yes es:=by
 unfold Bf
 refine KC ?_
 rw[Sc,Sc]
 rfl
theorem Q9{eq:AV->AV->Option Bool}{k:AV}{no:OR}{yes:AV->OR}(p:AV×AV)(l:List (AV×AV)){t:Bool}(h:eq k p.1=some t):Bf eq k no yes (p::l)=cond t (yes p.2) (Bf eq k no yes l):=by
 show Ua eq k no yes (⟨p.1,p.2,0⟩::l.map λp=>⟨p.1,p.2,0⟩)=_
 unfold Ua
 rw[show eq k (⟨p.1,p.2,0⟩:Sy).key=some t from h]
 rfl
theorem vU{eq:AV->AV->Option Bool}{k:AV}{no:OR}{yes:AV->OR}{l m:List (AV×AV)}(hp:l.Perm m)(ha: ∀p∈l,∃t,eq k p.1=some t)(hu:l.Pairwise λp q=>eq k p.1=some true->eq k q.1=some true->False):
  Bf eq k no yes l=Bf eq k no yes m:=by
 induction hp with
 |nil=>rfl
 |cons p _ ih=>
  obtain⟨t,ht⟩:=ha p (ZE ..)
  rw[Q9 _ _ ht,Q9 _ _ ht,ih (λq hq=>ha q (ZQ _ hq)) (Sd.1 hu).2]
 |swap p q l=>
  obtain⟨t,ht⟩:=ha q (ZE ..)
  obtain⟨u,hu'⟩:=ha p (ZQ _ (ZE ..))
  rw[Q9 _ _ ht,Q9 _ _ hu',Q9 _ _ hu',Q9 _ _ ht]
  cases t<;>cases u<;>try rfl
  exact((Sd.1 hu).1 p (ZE ..) ht hu').elim
 |trans h1 _ ih1 ih2=>
  rw[ih1 ha hu]
  exact ih2 (λq hq=>ha q (h1.mem_iff.2 hq)) ((h1.pairwise_iff (λh a b=>h b a)).1 hu)
theorem zA{kt:TypeId}{kd:TypeDesc}{eq:AV->AV->Option Bool}(hk:Gu P σ kt kd eq){k:AV}{no:OR}{yes:AV->OR}{es fs:List Sy}(hp:(fs.map T9).Perm (es.map T9))(ha:es.Pairwise AM):
  Ua eq k no yes es=.fail∨Ua eq k no yes es=Ua eq k no yes fs:=by
 cases es with
 |nil=>
  rw[ZG] at hp
  have:=List.Perm.eq_nil hp
  cases fs with
  |nil=>exact .inr rfl
  |cons f fs=>cases this
 |cons e es=>
  cases he:eq k e.key with
  |none=>
   left
   unfold Ua
   rw[he]
  |some t=>
   right
   have hall: ∀f∈e::es,∃u,eq k f.key=some u:=by
    intro f hf
    rcases Ys.1 hf with rfl|hf
    ·exact⟨t,he⟩
    ·obtain⟨u,hu,_⟩:=hk.apart k e.key f.key t ((Sd.1 ha).1 f hf).1 he
     exact⟨u,hu⟩
   rw[<-Bg (e::es),<-Bg fs]
   refine(vU hp.symm (λp hp=>?_) ?_)
   ·obtain⟨f,hf,rfl⟩:=Xq.1 hp
    exact hall f hf
   ·rw[List.pairwise_map]
    refine ha.imp λ{a b} hab h1 h2=>?_
    obtain⟨u,h3,h4⟩:=hk.apart k a.key b.key true hab.1 h1
    have h2:eq k b.key=some true:=h2
    rw[h3,h4 rfl] at h2
    cases h2
theorem S4{kt:TypeId}{kd:TypeDesc}(hu:P.underlying kt=some kd){kv:Value}{l:List MapEntry}{r:Option (Nat×Value)}(h:Instr.findNow kd kv l 0=some r):(Instr.findKey kt kv l).run P w=.ok r w:=by
 simp only[Instr.findKey,Sem.run_bind,run_underlying hu,Result.andThen_ok,h,Sem.run_pure]
theorem oq(hs:WL P σ H w)(hρ:Rc P σ tm ρ){o:Oper}{t:TypeId}{m k:Operand}{ok:Bool}(ho:o.op=.lookup t m k ok):XX P σ H w tm ρ o:=by
 unfold XX;rw[ho]
 refine XO λd hu=>?_
 cases d<;>try exact trivial
 case map kt e=>
  refine Bm λkd eq hk=>Wa λi hi=>Ur λz hz=>?_
  have g:=hρ m
  have E5: ∀{a:AV} {v:Value} {b:Bool},YU σ a v->(execOp ρ o).run P w=.ok (.value (if ok then .tuple #[v,.bool b] else v)) w->Xx P σ H w ((execOp ρ o).run P w) (Kw ok H a b):=by
   intro a v b ha hr
   unfold Kw
   cases ok with
   |true=>
    refine YI hs hr ?_
    simp only[YU]
    exact⟨[v,.bool b],WB ha (V2 (by simp[YU])),rfl⟩
   |false=>exact YI hs hr ha
  have xi: ∀{v:Value},(Instr.lookup t (ρ m) (ρ k) ok).run P w=.ok v w->(execOp ρ o).run P w=.ok (.value v) w:=λh=>by
   simp only[execOp,ho];exact Va h
  refine JR (λhx=>?_) λb hx=>OC λob IX=>?_
  ·rw[hx] at g
   refine E5 (Q6 σ z) (xi ?_)
   rw[PN g]
   have hf:=S4 (w:=w) (kv:=ρ k) (l:=(#[]:Array MapEntry).toList) hk.und (r:=none) rfl
   simp only[Instr.lookup,Sem.run_bind,run_underlying hu,Result.andThen_ok,Sem.run_pure,hk.check,hf,T2 hi hz]
  ·rw[hx] at g
   obtain⟨l,hl,e1⟩:=Kb g
   cases ob<;>try exact trivial
   case map es clock=>
    obtain⟨c,hc,ho'⟩:=hs.alive b _ l IX hl
    obtain⟨ents,rfl,hr,_⟩:=ho'
    refine Hm hk (hρ k) es ents.toList 0 hr (λq=>?_) λj a v ha q=>?_
    ·refine E5 (Q6 σ z) (xi ?_)
     rw[e1]
     have hf:=S4 (w:=w) hk.und q
     simp only[Instr.lookup,Sem.run_bind,run_underlying hu,Result.andThen_ok,QM hc,Sem.run_pure,hk.check,hf,T2 hi hz]
    ·refine E5 ha (xi ?_)
     rw[e1]
     have hf:=S4 (w:=w) hk.und q
     simp only[Instr.lookup,Sem.run_bind,run_underlying hu,Result.andThen_ok,QM hc,Sem.run_pure,hk.check,hf]
   case cmap es=>
    obtain⟨c,hc,ho'⟩:=hs.alive b _ l IX hl
    obtain⟨ents,clock,fs,rfl,hr,hp,ha⟩:=ho'
    show Xx P σ H w _ (Ua _ _ _ _ es)
    rcases zA hk hp ha with hx2|hx2
    ·rw[hx2];exact trivial
    rw[hx2]
    refine Hm hk (hρ k) fs ents.toList 0 hr (λq=>?_) λj a v ha q=>?_
    ·refine E5 (Q6 σ z) (xi ?_)
     rw[e1]
     have hf:=S4 (w:=w) hk.und q
     simp only[Instr.lookup,Sem.run_bind,run_underlying hu,Result.andThen_ok,QM hc,Sem.run_pure,hk.check,hf,T2 hi hz]
    ·refine E5 ha (xi ?_)
     rw[e1]
     have hf:=S4 (w:=w) hk.und q
     simp only[Instr.lookup,Sem.run_bind,run_underlying hu,Result.andThen_ok,QM hc,Sem.run_pure,hk.check,hf]
theorem uP(hs:WL P σ H w){o:Oper}{t:TypeId}{r:Option Operand}(ho:o.op=.makeMap t r):XX P σ H w tm ρ o:=by
 unfold XX;rw[ho]
 cases r with
 |some r=>exact trivial
 |none=>
  refine VP (Tr.alloc hs (.map [] 0) (.map #[] 0) ⟨w.heap.size,0,0,1⟩ rfl ⟨#[],rfl,Na,by simp[IY]⟩) (x:=.map (some w.heap.size)) ?_ ?_
  ·simp only[execOp,ho]
   refine Va ?_
   simp[Instr.makeMap]
  ·simp only[YU];exact⟨_,Mp.put_same _ _ _,rfl⟩
theorem y3{r:Result Next}{kt:TypeId}{kd:TypeDesc}{eq:AV->AV->Option Bool}(hk:Gu P σ kt kd eq){k v:AV}{kv vv:Value}(hkr:YU σ k kv)(hvr:YU σ v vv){clock:Nat}: ∀(es:List Sy) (l:List MapEntry) (i:Nat) (done:List Sy->Nat->OR),Y3 σ es l->
  (Instr.findNow kd kv l i=some none->(∀e∈es,True)->Xx P σ H w r (done (es++[⟨k,v,clock⟩]) (clock+1)))->
  (∀j a m u,es[j]? =some a->l[j]? =some m->Nn σ a m->Instr.sameBits 10000 m.key kv=true->Instr.findNow kd kv l i=some (some (i+j,u))->Xx P σ H w r (done (es.set j ⟨k,v,a.born⟩) clock))->
  Xx P σ H w r (zB eq k v clock done es)
 |[],l,i,done,h,h1,h2=>by
  simp only[Y3] at h;subst h
  exact h1 rfl (by simp)
 |e::es,l,i,done,h,h1,h2=>by
  obtain⟨m,ms,g1,g2,rfl⟩:=h.cons_inv
  unfold zB
  cases he:eq k e.key with
  |none=>exact trivial
  |some t=>
   have hn:=hk.now _ _ _ _ t hkr g1.1 he
   cases t with
   |true=>
    have hb:=hk.bits _ _ _ _ hkr g1.1 he
    exact h2 0 e m m.val rfl rfl g1 hb (by simp only[Instr.findNow,hn,Zd])
   |false=>
    refine y3 hk hkr hvr es ms (i+1) (λl' c=>done (e::l') c) g2 (λq _=>h1 ?_ (by simp)) (λj a m' u q1 q2 q3 q4 q5=>h2 (j+1) a m' u (by simpa using q1) (by simpa using q2) q3 q4 ?_)
    ·simp only[Instr.findNow,hn];exact q
    ·simp only[Instr.findNow,hn];rw[q5,show i+1+j=i+(j+1) by omega]
theorem Y3.append: ∀{es es2:List Sy} {l l2:List MapEntry},Y3 σ es l->Y3 σ es2 l2->Y3 σ (es++es2) (l++l2)
 |[],es2,l,l2,h,h'=>by simp only[Y3] at h;subst h;exact h'
 |a::es,es2,l,l2,h,h'=>by
  obtain⟨m,ms,g1,g2,rfl⟩:=h.cons_inv
  exact Ob g1 (g2.append h')
theorem Y3.set{a:Sy}{m:MapEntry}(hm:Nn σ a m): ∀{es:List Sy} {l:List MapEntry} (j:Nat),Y3 σ es l->Y3 σ (es.set j a) (l.set j m)
 |[],l,j,h=>by simp only[Y3] at h;subst h;simpa using Na
 |e::es,l,0,h=>by
  obtain⟨m',ms,g1,g2,rfl⟩:=h.cons_inv
  exact Ob hm g2
 |e::es,l,j+1,h=>by
  obtain⟨m',ms,g1,g2,rfl⟩:=h.cons_inv
  exact Ob g1 (g2.set hm j)
theorem tn{es:List Sy}{c j:Nat}{a:Sy}{k v:AV}(h:IY es c)(ha:es[j]? =some a):IY (es.set j ⟨k,v,a.born⟩) c:=by
 have key:(es.set j ⟨k,v,a.born⟩).map (·.born)=es.map (·.born):=by
  apply XP
  intro i
  simp only[Xb,List.getElem?_set]
  by_cases hij:j=i
  ·subst hij
   have hlt:j<es.length:=by
    rcases Nat.lt_or_ge j es.length with h|h
    ·exact h
    ·rw[Y5 h] at ha;cases ha
   rw[if_pos rfl,if_pos hlt,ha]
   rfl
  ·simp[hij]
 obtain⟨h1,h2⟩:=h
 constructor
 ·have:((es.set j ⟨k,v,a.born⟩).map (·.born)).Pairwise (· < ·):=by rw[key];exact List.pairwise_map.2 h1
  exact List.pairwise_map.1 this
 ·intro e he
  have:e.born∈(es.set j ⟨k,v,a.born⟩).map (·.born):=Tx he
  rw[key] at this
  obtain⟨e',he',h3⟩:=Xq.1 this
  rw[<-h3];exact h2 e' he'
theorem wi{es:List Sy}{c:Nat}{k v:AV}(h:IY es c):IY (es++[⟨k,v,c⟩]) (c+1):=by
 obtain⟨h1,h2⟩:=h
 constructor
 ·rw[List.pairwise_append]
  refine⟨h1,by simp,λa ha b hb=>?_⟩
  rw[Zv] at hb;subst hb
  exact h2 a ha
 ·intro e he
  rcases ZD.1 he with he|he
  ·have:=h2 e he;omega
  ·rw[Zv] at he;subst he;exact YP c
theorem IB{g:Nat}{es:Array MapEntry}{c:Nat}(ob:Go.Obj)(h:w.heap[g]? =some (.map es c)): ∃w',(setObj g ob).run P w=.ok () w'∧CL w w' g ob:=by
 refine⟨{w with heap:=w.heap.setIfInBounds g ob},by simp[setObj,Sem.run,h],⟨by simp,?_,λk hk=>?_,rfl,rfl,rfl⟩⟩
 ·have:g<w.heap.size:=(Ym.1 h).1
  simp[Xp,this]
 ·simp only[Xp]
  rw[if_neg (λe=>hk e.symm)]
theorem y2(hs:WL P σ H w)(hρ:Rc P σ tm ρ){o:Oper}{t kt e:TypeId}{m k x:Operand}{kd:TypeDesc}{eq:AV->AV->Option Bool}(hu:P.underlying t=some (.map kt e))(hk:Gu P σ kt kd eq)
  (hex: ∀w',(Instr.mapUpdate t (ρ m) (ρ k) (ρ x)).run P w=.ok () w'->(execOp ρ o).run P w=.ok .skip w'):
  Xx P σ H w ((execOp ρ o).run P w) (FZ eq (Xo P m) (Xo P k) (Xo P x) tm H):=by
 have g:=hρ m
 refine JR (λ_=>trivial) λb hx=>OC λob IX=>?_
 rw[hx] at g
 obtain⟨l,hl,e1⟩:=Kb g
 cases ob<;>try exact trivial
 case map es clock=>
  refine YS λhro=>?_
  have hwr:Wr H b:=⟨Yn hro,_,IX,(λr h=>by cases h),λh=>by cases h⟩
  obtain⟨c,hc,ho'⟩:=hs.alive b _ l IX hl
  obtain⟨ents,rfl,hr,hris⟩:=ho'
  refine y3 hk (hρ k) (hρ x) es ents.toList 0 _ hr (λq _=>?_) λj a mm u q1 q2 q3 q4 q5=>?_
  ·obtain⟨w',hrun,hw⟩:=IB (P:=P) (.map (ents.push {key:=ρ k,val:=ρ x,born:=clock}) (clock+1)) hc
   refine⟨σ,w',undef,.inr ⟨hex w' ?_,rfl⟩,by simp[XL,undef,YU,Xj],Tr.write hs IX hl hwr hw.size hw.new hw.old ⟨_,rfl,?_,wi hris⟩ hw.tape hw.os hw.out⟩
   ·rw[e1]
    have hf:=S4 (w:=w) hk.und q
    simp only[Instr.mapUpdate,Sem.run_bind,run_underlying hu,Result.andThen_ok,QM hc,hk.check,hf,hrun]
   ·rw[Array.toList_push]
    exact hr.append (Ob ⟨hρ k,hρ x,rfl⟩ Na)
  ·obtain⟨w',hrun,hw⟩:=IB (P:=P) (.map (ents.modify j λe=>{e with key:=ρ k,val:=ρ x}) clock) hc
   refine⟨σ,w',undef,.inr ⟨hex w' ?_,rfl⟩,by simp[XL,undef,YU,Xj],Tr.write hs IX hl hwr hw.size hw.new hw.old ⟨_,rfl,?_,tn hris q1⟩ hw.tape hw.os hw.out⟩
   ·rw[e1]
    have hf:=S4 (w:=w) hk.und q5
    rw[Zb] at hf
    have hej:ents[j]? =some mm:=by rw[<-YE];exact q2
    simp only[Instr.mapUpdate,Sem.run_bind,run_underlying hu,Result.andThen_ok,QM hc,hk.check,hf,hej,XI,Option.getD_some,Instr.keyThatStays,q4,if_true,Sem.run_pure,hrun]
   ·have e2:(ents.modify j λe=>{e with key:=ρ k,val:=ρ x}).toList=ents.toList.set j {mm with key:=ρ k,val:=ρ x}:=by
     apply XP
     intro i
     rw[YE,WG,List.getElem?_set]
     by_cases hij:j=i
     ·subst hij
      have hlt:j<ents.toList.length:=by
       rcases Nat.lt_or_ge j ents.toList.length with h|h
       ·exact h
       ·rw[Y5 h] at q2;cases q2
      have hej:ents[j]? =some mm:=by rw[<-YE];exact q2
      rw[if_pos rfl,if_pos rfl,if_pos hlt,hej];rfl
     ·rw[if_neg hij,if_neg hij,YE]
    rw[e2]
    exact Y3.set (a:=⟨Xo P k tm,Xo P x tm,a.born⟩) (m:={mm with key:=ρ k,val:=ρ x}) ⟨hρ k,hρ x,q3.2.2⟩ j hr
theorem Ij(hs:WL P σ H w)(hρ:Rc P σ tm ρ){o:Oper}{t:TypeId}{m k x:Operand}(ho:o.op=.mapUpdate t m k x∨o.op=.insert t m k x):XX P σ H w tm ρ o:=by
 have hex: ∀w',(Instr.mapUpdate t (ρ m) (ρ k) (ρ x)).run P w=.ok () w'->(execOp ρ o).run P w=.ok .skip w':=by
  intro w' h
  rcases ho with ho|ho<;>simp[execOp,ho,h]
 have key:Xx P σ H w ((execOp ρ o).run P w) (V0 P t (λd=>match d with|.map kt _=>V0 P kt<|kD λeq=>FZ eq (Xo P m) (Xo P k) (Xo P x)|_=>VZ) tm H):=by
  refine XO λd hu=>?_
  cases d<;>try exact trivial
  case map kt e=>exact Bm λkd eq hk=>y2 hs hρ hu hk hex
 unfold XX
 rcases ho with ho|ho
 ·rw[ho];exact key
 ·rw[ho];exact key
theorem jH(hs:WL P σ H w)(hρ:Rc P σ tm ρ){o:Oper}{t:TypeId}{x:Operand}(ho:o.op=.range t x):XX P σ H w tm ρ o:=by
 unfold XX;rw[ho]
 refine XO λd hu=>?_
 have g:=hρ x
 have hex: ∀{v:Value} {w':World},(Instr.range t (ρ x)).run P w=.ok v w'->(execOp ρ o).run P w=.ok (.value v) w':=λh=>by
  simp only[execOp,ho];exact Va h
 cases d<;>try exact trivial
 case string=>
  refine PB λs hx=>?_
  rw[hx] at g
  refine VP (Tr.alloc hs (.siter s 0) (.stringIter ⟨s.toArray⟩ 0) ⟨w.heap.size,0,0,1⟩ rfl ⟨rfl,rfl⟩) (hex ?_) (Kc rfl)
  rw[V3 g]
  simp[Instr.range,run_underlying hu]
 case map kt e=>
  refine JR (λhx=>?_) λb hx=>OC λob IX=>?_
  ·rw[hx] at g
   refine VP (Tr.alloc hs (.miter none 0 none) (.mapIter none 0 #[] 0) ⟨w.heap.size,0,0,1⟩ rfl ⟨#[],0,rfl,(λ_ h=>by cases h),rfl,rfl,rfl⟩) (hex ?_) (Kc rfl)
   rw[PN g]
   simp[Instr.range,run_underlying hu]
  ·rw[hx] at g
   obtain⟨l,hl,e1⟩:=Kb g
   cases ob<;>try exact trivial
   case map es clock=>
    obtain⟨c,hc,ho'⟩:=hs.alive b _ l IX hl
    obtain⟨ents,rfl,hr,_⟩:=ho'
    have hlt:=hs.dom b l hl
    have hput:(σ.put H.nx ⟨w.heap.size,0,0,1⟩) b=some l:=by rw[Mp.put_old (by omega)];exact hl
    refine VP (Tr.alloc hs (.miter (some b) clock none) (.mapIter (some l.blk) clock #[] clock) ⟨w.heap.size,0,0,1⟩ rfl ⟨#[],clock,?_,?_,rfl,rfl,rfl⟩) (hex ?_) (Kc rfl)
    ·simp[hput]
    ·intro b' hb';cases hb';rw[hput];rfl
    ·rw[e1]
     simp[Instr.range,run_underlying hu,QM hc]
theorem wn{b:Nat}{s:ByteArray}{c:Nat}(h:w.heap[b]? =some (.stringIter s c)):(getObj b).run P w=.ok (.stringIter s c) w:=by simp[getObj,Sem.run,h]
theorem DI{b:Nat}{m:Option Nat}{a:Nat}{s:Array Nat}{c:Nat}(h:w.heap[b]? =some (.mapIter m a s c)):(getObj b).run P w=.ok (.mapIter m a s c) w:=by simp[getObj,Sem.run,h]
theorem Cv{g:Nat}{s:ByteArray}{c:Nat}(ob:Go.Obj)(h:w.heap[g]? =some (.stringIter s c)): ∃w',(setObj g ob).run P w=.ok () w'∧CL w w' g ob:=by
 refine⟨{w with heap:=w.heap.setIfInBounds g ob},by simp[setObj,Sem.run,h],⟨by simp,?_,λk hk=>?_,rfl,rfl,rfl⟩⟩
 ·have:g<w.heap.size:=(Ym.1 h).1
  simp[Xp,this]
 ·simp only[Xp]
  rw[if_neg (λe=>hk e.symm)]
theorem cI(hs:WL P σ H w)(hρ:Rc P σ tm ρ){o:Oper}{x:Operand}{b:Bool}(ho:o.op=.next x b):XX P σ H w tm ρ o:=by
 unfold XX;rw[ho]
 refine WX (λhb=>?_) λ_=>TY
 subst hb
 have g:=hρ x
 refine Qy λb off hx=>YS λh0=>YS λhro=>OC λob IX=>?_
 rw[hx] at g
 obtain⟨l,hl,e1⟩:=Ut g
 rw[YZ] at h0
 have h0:off=0:=Zm h0
 subst h0
 cases ob<;>try exact trivial
 case siter s pos=>
  have hwr:Wr H b:=⟨Yn hro,_,IX,(λr h=>by cases h),λh=>by cases h⟩
  obtain⟨c,hc,ho'⟩:=hs.alive b _ l IX hl
  obtain⟨rfl,hbase⟩:=ho'
  rw[hbase] at e1
  have hex: ∀{v:Value} {w':World},(Instr.next (ρ x) true o.type).run P w=.ok v w'->(execOp ρ o).run P w=.ok (.value v) w':=λh=>by
   simp only[execOp,ho];exact Va h
  have hsz:(ByteArray.mk s.toArray).size=s.length:=Nk s
  refine Ul (λhlt=>?_) λhlt=>?_
  ·rw[XF,Y6] at hlt
   have hlt:pos<s.length:=Zm hlt
   cases hdec:Utf8.decode ⟨s.toArray⟩ pos with
   |mk ch wd=>
   obtain⟨w',hrun,hw⟩:=Cv (P:=P) (.stringIter ⟨s.toArray⟩ (pos+wd)) hc
   refine VP (Tr.write hs IX hl hwr hw.size hw.new hw.old ⟨rfl,hbase⟩ hw.tape hw.os hw.out) (x:=.tuple #[.bool true,goInt pos,.int .i32 ch]) (hex ?_) ?_
   ·rw[e1]
    simp only[Instr.next,Zb,Sem.run_bind,wn hc,Result.andThen_ok,hsz,if_pos hlt,hdec,hrun,Sem.run_pure]
   ·simp only[YU]
    exact⟨[.bool true,goInt pos,.int .i32 ch],WB (by simp[YU]) (WB (by simp[YU,goInt]) (V2 (by simp[YU]))),rfl⟩
  ·rw[XF,Y6] at hlt
   have hlt: ¬(pos<s.length):=of_decide_eq_false hlt
   refine YI hs (x:=.tuple #[.bool false]) (hex ?_) ?_
   ·rw[e1]
    simp only[Instr.next,Zb,Sem.run_bind,wn hc,Result.andThen_ok,hsz,if_neg hlt,Sem.run_pure]
   ·simp only[YU]
    exact⟨[.bool false],V2 (by simp[YU]),rfl⟩
theorem Bl{r:Result Next}{n:Nat}{k:Sy->OR}: ∀(es:List Sy) (l:List MapEntry),Y3 σ es l->(∀a m,Nn σ a m->l.find? (·.born==n)=some m->Xx P σ H w r (k a))->Xx P σ H w r (A1 n k es)
 |[],l,h,g=>trivial
 |a::es,l,h,g=>by
  obtain⟨m,ms,h1,h2,rfl⟩:=h.cons_inv
  refine Ul (λhe=>g a m h1 ?_) λhe=>Bl es ms h2 λa' m' h3 h4=>g a' m' h3 ?_
  ·rw[YZ] at he
   have he:a.born=n:=Zm he
   rw[List.find?_cons_of_pos (by simp[<-h1.2.2,he])]
  ·rw[YZ] at he
   have he: ¬a.born=n:=of_decide_eq_false he
   rw[List.find?_cons_of_neg (by simp[<-h1.2.2,he])]
   exact h4
theorem jC(hs:WL P σ H w)(hρ:Rc P σ tm ρ){o:Oper}{x:Operand}(ho:o.op=.entry x):XX P σ H w tm ρ o:=by
 unfold XX;rw[ho]
 have g:=hρ x
 refine Qy λb off hx=>YS λh0=>OC λob IX=>?_
 rw[hx] at g
 obtain⟨l,hl,e1⟩:=Ut g
 rw[YZ] at h0
 have h0:off=0:=Zm h0
 subst h0
 show Xx P σ H w _ (AN ob _)
 unfold AN
 split
 ·rename_i m since n st
  obtain⟨c,hc,ho'⟩:=hs.alive b _ l IX hl
  obtain⟨seen,st',rfl,hm,hbase,hback,rfl⟩:=ho'
  rw[hbase] at e1
  refine OC λom hom=>?_
  cases om<;>try exact trivial
  case map es clock=>
   refine YS λhcl=>?_
   rw[YZ] at hcl
   have hcl:clock=st':=Zm hcl
   subst hcl
   obtain⟨lm,hlm⟩:=VM.1 (hm m rfl)
   obtain⟨cm,hcm,Zid⟩:=hs.alive m _ lm hom hlm
   obtain⟨ents,rfl,hr,_⟩:=Zid
   refine Bl es ents.toList hr λa me hae hf=>?_
   refine YI hs (x:=.tuple #[me.key,me.val]) ?_ ?_
   ·simp only[execOp,ho]
    refine Va ?_
    rw[e1]
    have hf':ents.find? (λx=>x.born==n)=some me:=by rw[<-Array.find?_toList];exact hf
    simp only[Option.bind_some,hlm,XI] at hc
    simp only[Instr.entry,Zb,Sem.run_bind,DI hc,Result.andThen_ok,hback,QM hcm,bne_self_eq_false,XW,if_false,hf',Sem.run_pure]
   ·simp only[YU]
    exact⟨[me.key,me.val],WB hae.1 (V2 hae.2.1),rfl⟩
 ·trivial
theorem uM(hs:WL P σ H w)(hρ:Rc P σ tm ρ){o:Oper}{x:Operand}{xt t:TypeId}{ok:Bool}(ho:o.op=.typeAssert x xt t ok):XX P σ H w tm ρ o:=by
 unfold XX;rw[ho]
 refine Wa λi hi=>Ur λz hz=>XO λd hu=>?_
 have g:=hρ x
 have hex: ∀{v:Value} {w':World},(Instr.typeAssert (ρ x) xt t ok).run P w=.ok v w'->(execOp ρ o).run P w=.ok (.value v) w':=λh=>by
  simp only[execOp,ho];exact Va h
 have sV:=T2 (w:=w) hi hz
 have no:(∀(h:ok=true),(Instr.typeAssert (ρ x) xt t ok).run P w=.ok (.tuple #[z,.bool false]) w)->Xx P σ H w ((execOp ρ o).run P w) (Qt (W0 z) ok H none):=by
  intro h
  cases ok with
  |false=>exact trivial
  |true=>
   refine YI hs (hex (h rfl)) ?_
   simp only[YU]
   exact⟨[z,.bool false],WB (Q6 σ z) (V2 (by simp[YU])),rfl⟩
 have yes: ∀{a:AV} {v:Value},YU σ a v->(Instr.typeAssert (ρ x) xt t ok).run P w=.ok (if ok then .tuple #[v,.bool true] else v) w->Xx P σ H w ((execOp ρ o).run P w) (Qt (W0 z) ok H (some a)):=by
  intro a v ha h
  cases ok with
  |false=>exact YI hs (hex h) ha
  |true=>
   refine YI hs (hex h) ?_
   simp only[YU]
   exact⟨[v,.bool true],WB ha (V2 (by simp[YU])),rfl⟩
 by_cases hd: ∃ms,d=.interface ms
 ·obtain⟨ms,rfl⟩:=hd
  show Xx P σ H w _ (xN (Xo P x) P (dY P t) (W0 z) ok tm H)
  have hms:dY P t=ms:=by unfold dY;rw[hu]
  rw[hms]
  refine OA (λhx=>?_) λu v hx=>Qf λiu hiu=>?_
  ·rw[hx] at g
   have g:=QK g
   refine no λh=>?_
   rw[g]
   simp[Instr.typeAssert,run_underlying hu,h,sV]
  ·rw[hx] at g
   obtain⟨y,hy,e1⟩:=Tw g
   have hti:(typeInfo u).run P w=.ok iu w:=by simp[typeInfo,hiu]
   cases hmm:Instr.missingMethod ms iu.methods with
   |none=>
    refine yes (v:=ρ x) (by rw[<-hx];exact hρ x) ?_
    rw[e1]
    simp[Instr.typeAssert,run_underlying hu,hti,hmm]
   |some m=>
    refine no λh=>?_
    rw[e1]
    simp[Instr.typeAssert,run_underlying hu,hti,hmm,h,sV]
 ·have hd: ∀ms,d≠.interface ms:=λms h=>hd ⟨ms,h⟩
  have key:Xx P σ H w ((execOp ρ o).run P w) (Ic (Xo P x) t (W0 z) ok tm H):=by
   refine OA (λhx=>?_) λu v hx=>?_
   ·rw[hx] at g
    have g:=QK g
    refine no λh=>?_
    rw[g]
    cases d<;>first
     |exact absurd rfl (hd _)
     |simp[Instr.typeAssert,run_underlying hu,h,sV]
   ·rw[hx] at g
    obtain⟨y,hy,e1⟩:=Tw g
    rw[YZ]
    by_cases hut:u=t
    ·rw[Zi hut]
     refine yes hy ?_
     rw[e1]
     cases d<;>first
      |exact absurd rfl (hd _)
      |simp[Instr.typeAssert,run_underlying hu,hut]
    ·rw[Ze hut]
     refine no λh=>?_
     rw[e1]
     cases d<;>first
      |exact absurd rfl (hd _)
      |simp[Instr.typeAssert,run_underlying hu,hut,h,sV]
  cases d<;>first
   |exact absurd rfl (hd _)
   |exact key
theorem B4(hρ:Rc P σ tm ρ)(l:Array Operand):Xj σ (evs tm (args P l)) (l.map ρ).toList:=by
 have:=LH hρ l.toList
 unfold args
 simpa using this
theorem KY{r:Result Next}{f:Nat}{as:List AV}{vs:List Value}(hr:Xj σ as vs)(h:r=(callFunc f ⟨vs⟩).run P w):Xx P σ H w r (.oth (.call f as H)):=⟨rfl,vs,hr,h⟩
theorem A7{r:Result Next}{name:String}{u:Nat}{k:Nat->OR}
  (h: ∀g,(∀(n:Nat) (v:Value),(method (n+1) u v name).run P w=.ok (g,v) w)->Xx P σ H w r (k g)):Xx P σ H w r (J9 P name u k):=by
 refine Qf λi hi=>Qf λm hm=>YS λhp=>?_
 have hti:(typeInfo u).run P w=.ok i w:=by simp[typeInfo,hi]
 have hpl:m.path.toList=[]:=by
  have:m.path= #[]:=by simpa using hp
  rw[this]
 cases hf:m.func with
 |none=>exact trivial
 |some q=>
  obtain⟨g,ptr⟩:=q
  show Xx P σ H w r (match P.underlying u with
   |some (.pointer _)=>Yb ptr (k g)
   |some _=>cond ptr .fail (k g)
   |none=>.fail)
  cases hu:P.underlying u with
  |none=>exact trivial
  |some d=>
   have base: ∀(n:Nat) (v:Value),(method (n+1) u v name).run P w=(do pure (g,<-receiverAt u (.val v) ptr (if m.path.isEmpty then some ((name.splitOn ".").getLastD name) else none)):Sem (FuncId×Value)).run P w:=by
    intro n v
    simp only[method,Sem.run_bind,hti,Result.andThen_ok,hm,hpl,follow,Sem.run_pure,hf]
   cases d<;>first
    |(refine YS λZig=>h g λn v=>?_
      subst Zig
      rw[base]
      simp[receiverAt,run_underlying hu,Place.get]
      done)
    |(cases ptr with
      |true=>exact trivial
      |false=>
       refine h g λn v=>?_
       rw[base]
       simp[receiverAt,run_underlying hu,Place.get])
theorem DH{name:String}{u g:Nat}{v:Value}{args:Array Value}(h: ∀(n:Nat) (v:Value),(method (n+1) u v name).run P w=.ok (g,v) w):(callMethod (.iface u v) name args).run P w=(callFunc g (#[v]++args)).run P w:=by
 have:(P.types.size+Made.depth)=(P.types.size+Made.depth - 1)+1:=by
  have:0<Made.depth:=by decide
  omega
 simp only[callMethod,Sem.run_bind,run_program,Result.andThen_ok]
 rw[this,h]
 rfl
theorem GL{r:Result Next}{n:String}{u:Nat}{a:AV}{x:Value}{as:List AV}{vs:List Value}(ha:YU σ a x)(hr:Xj σ as vs)(h:r=(callMethod (.iface u x) n ⟨vs⟩).run P w):
  Xx P σ H w r (J9 P n u λg=>.oth (.call g (a::as) H)):=by
 refine A7 λg hm=>KY (vs:=x::vs) (WB ha hr) ?_
 rw[h,DH hm]
 congr 2
 apply Array.ext'
 simp
theorem GX(name:String)(cap:Array Value)(r:Value)(as:Array Value):invoke (.fn (.method name) cap) (#[r]++as)=callMethod r name ⟨as.toList⟩:=by
 have h1:(#[r]++as)[0]? =some r:=by rw[Array.getElem?_append_left (by simp)];rfl
 have h2:(#[r]++as).extract 1 (#[r]++as).size=⟨as.toList⟩:=by
  apply Array.ext'
  simp[W3]
 simp only[invoke,h1,h2]
theorem cD(hs:WL P σ H w)(hρ:Rc P σ tm ρ){o:Oper}{c:Call}(ho:o.op=.call c)(hb: ∀b,c.callee≠.builtin b):XX P σ H w tm ρ o:=by
 unfold XX;rw[ho]
 have hargs:=B4 hρ c.args
 have hex:(execOp ρ o).run P w=(do let d<-resolve ρ c o.type;invoke d.target d.args:Sem Next).run P w:=by simp only[execOp,ho]
 rw[hex]
 show Xx P σ H w _ (mu P c tm H)
 unfold mu
 cases hc:c.callee with
 |builtin b=>exact absurd hc (hb b)
 |invoke rv name=>
  have g:=hρ rv
  refine OA (λ_=>trivial) λu a hx=>?_
  rw[hx] at g
  obtain⟨x,hx',e1⟩:=Tw g
  refine GL hx' hargs ?_
  simp only[resolve,hc,Sem.run_bind,Sem.run_pure,Result.andThen_ok,GX,e1]
 |value f=>
  have gen:Xx P σ H w ((do let d<-resolve ρ c o.type;invoke d.target d.args:Sem Next).run P w) (OG (Xo P f) P (args P c.args) tm H):=by
   have g:=hρ f
   unfold OG
   split
   ·rename_i fn a b hx
    rw[hx] at g
    obtain⟨x,y,h1,h2,e1⟩:=OI g
    refine KY (h1.append (hargs.append h2)) ?_
    simp only[resolve,hc,e1,Deferred.ofValue,Sem.run_bind,Sem.run_pure,Result.andThen_ok,invoke]
    congr 2
    apply Array.ext'
    simp
   ·rename_i n rv hx
    rw[hx] at g
    simp only[YU] at g
    obtain⟨x,h1,e1⟩:=g
    refine OA (λ_=>trivial) λu a hrv=>?_
    rw[hrv] at h1
    obtain⟨y,hy,e2⟩:=Tw h1
    refine GL hy hargs ?_
    simp only[resolve,hc,e1,Deferred.ofValue,Sem.run_bind,Sem.run_pure,Result.andThen_ok,e2]
    exact congrArg (λs=>s.run P w) (GX n #[] (.iface u y) (Array.map ρ c.args))
   ·rename_i b hx
    rw[hx] at g
    simp only[YU] at g
    obtain⟨l,hl,e1⟩:=g
    refine⟨rfl,l,_,hl,hargs,?_⟩
    simp only[resolve,hc,e1,Deferred.ofValue,Sem.run_bind,Sem.run_pure,Result.andThen_ok,invoke]
    congr 2
    apply Array.ext'
    simp
   ·trivial
  cases f with
  |func fn=>
   have g:=hρ (.func fn)
   have g:YU σ (.func fn [] []) (ρ (.func fn)):=g
   obtain⟨x,y,h1,h2,e1⟩:=OI g
   have h1:=h1.nil_inv
   have h2:=h2.nil_inv
   subst h1;subst h2
   refine KY hargs ?_
   simp only[resolve,hc,e1,Deferred.ofValue,Sem.run_bind,Sem.run_pure,Result.andThen_ok,invoke]
   congr 2
   apply Array.ext'
   simp
  |tmp t=>exact gen
  |const v=>exact gen
  |global v=>exact gen
theorem ER{r:Result Next}{a:AV}{x:Value}(ha:YU σ a x)(h: ∀v,(Instr.panic x).run P w=.halt v w->r=.halt v w):Xx P σ H w r (QI a .fail λ_ _=>.oth (.pan a H)):=by
 refine OA (λ_=>trivial) λu b hx=>?_
 rw[hx] at ha
 obtain⟨y,hy,e1⟩:=Tw ha
 refine⟨rfl,x,by rw[hx];exact ha,h _ ?_⟩
 rw[e1]
 rfl
theorem jG(hs:WL P σ H w)(hρ:Rc P σ tm ρ){o:Oper}{x:Operand}(ho:o.op=.panic x):XX P σ H w tm ρ o:=by
 unfold XX;rw[ho]
 refine ER (hρ x) λv h=>?_
 simp only[execOp,ho]
 simp[h]
theorem ou(hs:WL P σ H w)(hρ:Rc P σ tm ρ){o:Oper}{xs:List Operand}{ts:List TypeId}(ho:o.op=.call ⟨.builtin .panic,⟨xs⟩,⟨ts⟩⟩):XX P σ H w tm ρ o:=by
 refine UX ho λcs=>?_
 rcases xs with _|⟨x,_|⟨_,_⟩⟩<;>try exact trivial
 refine ER (hρ x) λv h=>?_
 show((do pure (Next.value (<-Instr.panic (ρ x)))):Sem Next).run P w=_
 simp[h]
theorem uR(hs:WL P σ H w)(hρ:Rc P σ tm ρ){o:Oper}{xs:List Operand}{ts:List TypeId}(ho:o.op=.call ⟨.builtin .recover,⟨xs⟩,⟨ts⟩⟩):XX P σ H w tm ρ o:=by
 refine UX ho λcs=>?_
 rfl
theorem jB(hs:WL P σ H w)(hρ:Rc P σ tm ρ){o:Oper}{c:Call}(ho:o.op=.defer c):XX P σ H w tm ρ o:=by
 unfold XX;rw[ho]
 show Xx P σ H w _ ((match c.callee with|.value f=>HJ (Xo P f) (args P c.args)|_=>VZ) tm H)
 cases hc:c.callee with
 |builtin b=>exact trivial
 |invoke rv name=>exact trivial
 |value f=>
  intro g a b hx
  have g1:=hρ f
  rw[hx] at g1
  obtain⟨x,y,h1,h2,e1⟩:=OI g1
  refine⟨x,_,y,h1,B4 hρ c.args,h2,?_⟩
  simp only[execOp,ho,resolve,hc,e1,Deferred.ofValue,Sem.run_bind,Sem.run_pure,Result.andThen_ok]
  congr 3
  apply Array.ext'
  simp
theorem NB(hs:WL P σ H w)(hρ:Rc P σ tm ρ)(o:Oper):XX P σ H w tm ρ o:=by
 cases ho:o.op with
 |move x=>exact cH hs hρ ho
 |assign x=>exact ol hs hρ ho
 |pick c a b=>exact cJ hs hρ ho
 |alloc t=>exact jz hs ho
 |box t x=>exact Zcm hs hρ ho
 |build t ps=>exact jA hs hρ ho
 |buildSlice t n ps=>exact oo hs hρ ho
 |load t a=>exact cF hs hρ ho
 |store t a x=>exact jJ hs hρ ho
 |nilCheck x=>exact Zcw hs hρ ho
 |binOp op t x y u=>cases op with
  |add=>exact Zcl hs hρ ho
  |sub=>exact ZcB hs hρ ho
  |mul=>exact Zcu hs hρ ho
  |quo=>exact Zcx hs hρ ho
  |rem=>exact Zcy hs hρ ho
  |and=>unfold XX;have h:=F5 (f:=Ro) hs hρ ho (.inl ⟨rfl,rfl⟩);rw[ho];exact h
  |or=>unfold XX;have h:=F5 (f:=Cp) hs hρ ho (.inr (.inl ⟨rfl,rfl⟩));rw[ho];exact h
  |xor=>unfold XX;have h:=F5 (f:=CI) hs hρ ho (.inr (.inr (.inl ⟨rfl,rfl⟩)));rw[ho];exact h
  |andNot=>unfold XX;have h:=F5 (f:=Jv) hs hρ ho (.inr (.inr (.inr ⟨rfl,rfl⟩)));rw[ho];exact h
  |shl=>exact Zcz hs hρ ho
  |shr=>exact ZcA hs hρ ho
  |eql=>exact Zco hs hρ ho
  |neq=>exact Zcv hs hρ ho
  |lss=>exact Zct hs hρ ho
  |gtr=>exact Zcq hs hρ ho
  |leq=>exact Zcs hs hρ ho
  |geq=>exact Zcp hs hρ ho
 |unOp op t x=>exact ZeY hs hρ ho
 |convert s d x=>exact uN hs hρ ho
 |makeInterface t x=>
  unfold XX;rw[ho]
  refine XO λd hu=>?_
  have h:=λhd=>cG hs hρ ho hu hd
  cases d<;>first
   |exact trivial
   |exact h rfl
 |makeFunc fn a b=>exact ot hs hρ ho
 |makeMap t r=>exact uP hs ho
 |mapUpdate t m k x=>exact Ij hs hρ (.inl ho)
 |insert t m k x=>exact Ij hs hρ (.inr ho)
 |lookup t m k ok=>exact oq hs hρ ho
 |makeSlice t l c=>exact uQ hs hρ ho
 |slice t x lo hi mx=>exact jI hs hρ ho
 |fieldAddr t x f=>exact zT hs hρ ho
 |field t x f=>exact jE hs hρ ho
 |indexAddr t x i=>exact zU hs hρ ho
 |index t x i=>exact jF hs hρ ho
 |typeAssert x xt t ok=>exact uM hs hρ ho
 |extract x i=>exact uO hs hρ ho
 |call c=>
  by_cases hb: ∃b,c.callee=.builtin b
  ·obtain⟨b,hb⟩:=hb
   obtain⟨callee,⟨xs⟩,⟨ts⟩⟩:=c
   subst hb
   cases b with
   |append=>exact oj hs hρ ho
   |copy=>exact cE hs hρ ho
   |len=>exact Zcr hs hρ ho
   |cap=>exact Zcn hs hρ ho
   |min=>exact B0 (mx:=false) hs hρ ho
   |max=>exact B0 (mx:=true) hs hρ ho
   |unsafeString=>exact cK hs hρ ho
   |unsafeSliceData=>exact ow hs hρ ho
   |panic=>exact ou hs hρ ho
   |recover=>exact uR hs hρ ho
   |_=>unfold XX;rw[ho];exact trivial
  ·exact cD hs hρ ho λb h=>hb ⟨b,h⟩
 |defer c=>exact jB hs hρ ho
 |panic x=>exact jG hs hρ ho
 |range t x=>exact jH hs hρ ho
 |next x b=>exact cI hs hρ ho
 |entry x=>exact jC hs hρ ho
 |_=>unfold XX;rw[ho];exact trivial
end
end
end Go.AI
