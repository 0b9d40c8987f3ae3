/- Every operation does what the model's does: proved for every world that is told. -/
import Derived.Test.YtfkkljjgkopkfaaGreatDoorP2
import Derived.Laws.BytesString
import Derived.Laws.Append
import Derived.Laws.StructEq
set_option maxRecDepth 1000000
set_option maxHeartbeats 0
set_option linter.all false
namespace Go.AI
open Go
noncomputable section
section
variable {P:Program} {σ:Mp} {H:Heap} {w:World} {tm:TM} {ρ:Operand->Value}
theorem Fj: ∀s:Zd,Hz s=s.map λb=>AV.int .u8 (.ofNat b.toNat)
 |[]=>rfl
 |b::s=>by simp[Hz,Fj s]
theorem Ao(σ:Mp): ∀s:Zd,YR σ (Hz s) (s.map λb=>Value.int .u8 b.toNat)
 |[]=>Ux
 |b::s=>Vr (by simp[Ym]) (Ao σ s)
def ql(s:Zd): ∀v∈s.map (λb=>Value.int .u8 b.toNat),v.oneCell'=true:=by
 intro v hv;obtain⟨b,_,rfl⟩:=YC.1 hv;rfl
def tR(n:Int):UInt8:=UInt8.ofNat n.toNat
theorem LC{r:Result Next}{f:Zd->OR}: ∀(as:List AV) (vs:List Value),YR σ as vs->(∀ns:List Int,vs=ns.map (Value.int .u8)->Xa P σ H w r (f (ns.map tR)))->Xa P σ H w r (Pn f as)
 |[],vs,h,g=>g [] (by rw[h.nil_inv];rfl)
 |a::as,vs,h,g=>by
  obtain⟨v,vs',h1,h2,rfl⟩:=h.cons_inv;unfold Pn
  split
  ·rename_i n
   have h1:=XX h1;subst h1;exact LC as vs' h2 λns hs=>g (.ofNat n::ns) (by rw[hs];rfl)
  ·trivial
theorem Eh: ∀(ns:List Int) (s:ByteArray),ns.foldl (λr n=>r.push (UInt8.ofNat n.toNat)) s=⟨(s.data.toList++ns.map tR).toArray⟩
 |[],s=>by
  apply ByteArray.ext;apply Array.ext';simp
 |n::ns,s=>by
  rw[Vz,Eh ns];simp[tR]
def Tr.drew(hs:WW P σ H w):Tr P σ H w σ H w.drew:=
 ⟨Ext.refl σ,⟨hs.dom,hs.low,hs.alive,hs.inj,hs.glob,hs.ro⟩,Zs _,λ_ _ _=>rfl,λb l hw hl _=>⟨b,l,hw,hl,rfl⟩,Zs _,rfl,λ_ _=>rfl,rfl,rfl,rfl,λ_ _ h=>⟨rfl,h⟩⟩
def WW.drew(hs:WW P σ H w):WW P σ H w.drew:=(Tr.drew hs).sim
def nH(w:World)(c:Array Value)(e n:Nat):(w.alloc (.cells c e)).freeze ⟨w.heap.size,n,none⟩ 1=w.alloc (.cells c e (n,n+1)):=by
 unfold World.freeze;rw[if_neg (by decide)];have:(w.alloc (.cells c e)).heap.modify w.heap.size (λ
   |.cells c elem (lo,hi)=>.cells c elem (if lo==hi then(n,n+1) else(min lo n,max hi (n+1)))
   |o=>o)=(w.alloc (.cells c e (n,n+1))).heap:=by
  apply Array.ext_getElem?;intro i;rw[Wl]
  by_cases h:w.heap.size=i
  ·subst h;rw[if_pos rfl,Oc,Oc];rfl
  ·rw[if_neg h]
   by_cases h2:i<w.heap.size
   ·rw[Od h2,Od h2]
   ·rw[Array.getElem?_eq_none (by simp;omega),Array.getElem?_eq_none (by simp;omega)]
 exact(congrArg (λhp=>({heap:=hp,tape:=w.tape,drawn:=w.drawn,os:=w.os,output:=w.output}:World)) this).trans rfl
def fd{w:World}{g n:Nat}{cs:Array Value}{t:TypeId}{fr:Nat×Nat}(h:w.heap[g]? =some (.cells cs t fr))(hf:fr.1=fr.2):
  yk w (w.freeze ⟨g,n,none⟩ 1) g (.cells cs t (n,n+1)):=by
 obtain⟨a,b⟩:=fr;simp only at hf;subst hf;refine⟨by simp[World.freeze],?_,λk hk=>?_,rfl,rfl,rfl⟩
 ·simp only[World.freeze,Nat.one_ne_zero,if_false,Wl]
  rw[h];simp
 ·simp only[World.freeze,Nat.one_ne_zero,if_false,Wl]
  rw[if_neg (λe=>hk e.symm)]
def Zjj{f:TypeId->Bool}{e count off n d:Nat}(h1:1<=P.cellsOf e)(h2:off % P.cellsOf e=0)(h3:off/P.cellsOf e+n<=count)(hf:f e=true):rowAt P f (d+1) e count off n=true:=by
 unfold rowAt;have q4: ¬(P.cellsOf e=0):=by omega
 simp only[if_neg q4,h2,beq_self_eq_true,S0,hf,Bool.and_true,Zi h3,Bool.true_or]
def dK(d u:Nat):sameLayout P (d+1) u u=true:=by unfold sameLayout;simp
def jJ{e count off n:Nat}(h1:1<=P.cellsOf e)(h2:off % P.cellsOf e=0)(h3:off/P.cellsOf e+n<=count):liesAt P P.depth e count off e n=true:=by
 have hd: ∃d,P.depth=d+1:=⟨2*(P.types.size+Made.depth)+1,rfl⟩;obtain⟨d,hd⟩:=hd;rw[hd];unfold liesAt;rw[hd,Zjj (f:=λx=>sameLayout P (d+1) x e) h1 h2 h3 (dK d e)];rfl
def Hm(need old e:Nat)(w:World): ∃k,(choose (.appendCap need old e)).run P w=.ok (need+k) w.drew:=by
 refine⟨w.tape w.drawn (.appendCap need old e) % (2^63 - need),?_⟩;simp[Question.forced,Question.cut]
def FM{w:World}{g:Nat}{cs:Array Value}{t:TypeId}{fr:Nat×Nat}(h:w.heap[g]? =some (.cells cs t fr)):w.shape? g=some (t,cs.size):=by
 unfold World.shape?;rw[h]
def mG(hs:WW P σ H w)(hρ:RG P σ tm ρ){o:Oper}{s d:TypeId}{x:Operand}(ho:o.op=.convert s d x):XI P σ H w tm ρ o:=by
 unfold XI;rw[ho];refine Xm λds fG=>Xm λdd hud=>?_;have h1:=hρ x;have hr: ∀{v:Value} {w':World},(convert s d (ρ x)).run P w=.ok v w'->(execOp ρ o).run P w=.ok (.value v) w':=λh=>by
  simp only[execOp,ho];exact Vn h
 show Xa P σ H w _ (ZfC P s d (YZ P x) ds dd tm H);cases ds<;>cases dd<;>try exact trivial
 case int.int k1 k=>
  refine Qk λj n hx=>?_;rw[hx] at h1;have h1:=XX h1;refine RN hs (hr ?_);rw[h1];simp[convert,run_underlying fG,run_underlying hud,Conv.intToInt]
 case int.string k1=>
  refine Qk λj n hx=>?_;rw[hx] at h1;have h1:=XX h1;refine Z9 hs (x:=.string (Utf8.encode n)) (hr ?_) (by simp[Ym]);rw[h1];simp[convert,run_underlying fG,run_underlying hud,Conv.intToString]
 case string.string=>
  refine Oo λt hx=>?_;rw[hx] at h1;have h0:=h1;have h1:=Uy h1;refine Z9 hs (x:=ρ x) (hr ?_) h0;rw[h1];simp[convert,run_underlying fG,run_underlying hud]
 case string.slice e=>
  refine Xm λde hue=>BK λhde=>Oo λt hx=>?_;subst hde;rw[hx] at h1;have h1:=Uy h1;obtain⟨k,hk⟩:=Hm (P:=P) t.length 0 e w;have hrun:(execOp ρ o).run P w=.ok (.value (.slice (some ⟨w.heap.size,0,none⟩) t.length (t.length+k))) (w.drew.alloc (.cells ⟨t.map (λb=>Value.int .u8 b.toNat)++List.replicate k (.int .u8 0)⟩ e (t.length+k,t.length+k+1))):=by
   refine hr ?_;rw[h1];simp only[convert,Sem.run_bind,run_underlying fG,run_underlying hud,run_underlying hue,Result.andThen_ok,Conv.stringToBytes,MH,hk];have hc:((t.toArray.map λb=>Value.int .u8 b.toNat)++Array.replicate (t.length+k - t.length) (Value.int .u8 0))=⟨t.map (λb=>Value.int .u8 b.toNat)++List.replicate k (.int .u8 0)⟩:=by
    apply Array.ext';simp
   simp only[hc,newRow,Sem.run_bind,run_newObj,Result.andThen_ok,World.alloc_eq,Sem.run_pure,markStringish,run_shape];have hsh:(w.drew.alloc (.cells ⟨t.map (λb=>Value.int .u8 b.toNat)++List.replicate k (.int .u8 0)⟩ e)).shape? w.drew.heap.size=some (e,t.length+k):=by
    unfold World.shape?;rw[Oc];simp
   simp only[hsh,run_freeze,Result.andThen_ok];rw[nH];rfl
  refine VZ ((Tr.drew hs).trans (Tr.alloc hs.drew (.row ⟨e,1,YN t,T.ofList (Hz t),.unk,0,true,true,false⟩) _ ⟨w.heap.size,0,t.length+k,1⟩ rfl ⟨_,_,rfl,?_⟩)) hrun ?_
  ·have hl:(Hz t).length=t.length:=by rw[Fj];simp
   have:=Gb (σ:=σ.put H.nx ⟨w.heap.size,0,t.length+k,1⟩) (e:=e) (sz:=1) (tot:=t.length+k) (sm:=true) (exact:=false) (blk:=w.heap.size) (fr:=(t.length+k,t.length+k+1)) (rest:=List.replicate k (.int .u8 0)) (Ao _ t)
    (λv hv=>by
     rcases Zt.1 hv with hv|hv
     ·exact ql t v hv
     ·rw[List.eq_of_mem_replicate hv];rfl) (Zs _) (by rw[hl];omega) (by simp) (λh=>by cases h) (by simp)
   have e1:YN (Hz t)=YN t:=by rw[Yw,Yw,hl]
   rw[e1] at this;exact this
  ·rw[Yw];exact SL (l:=⟨w.heap.size,0,t.length+k,1⟩) rfl
 case slice.string e=>
  refine Xm λde hue=>BK λhde=>?_;subst hde;refine KW (λhx=>?_) (T9 (λhx=>?_) λb off len cap hx=>UP (λhn=>?_) λhn=>TF λr hr'=>Yi λhle=>?_)
  ·rw[hx] at h1
   obtain⟨a,h1⟩: ∃a,ρ x=.slice (some a) 0 0:=by simpa only[Ym] using h1
   refine Z9 hs (x:=.string .empty) (hr ?_) (by simp only[Ym];rfl);rw[h1,run_convert_bytes_string w s d e _ _ _ fG hue hud,run_bytesToString w _ _ _ [] (by rfl)];rfl
  ·rw[hx] at h1
   have h1:ρ x=.slice none 0 0:=by simpa only[Ym] using h1
   refine Z9 hs (x:=.string .empty) (hr ?_) (by simp only[Ym];rfl);rw[h1,run_convert_bytes_string w s d e none 0 0 fG hue hud];simp[Conv.bytesToString]
  ·rw[hx] at h1
   obtain⟨l,hl,e1⟩:=Ui h1;rw[Yl] at hn;have hn:len=0:=Zr hn;refine Z9 hs (x:=.string .empty) (hr ?_) (by simp only[Ym];rfl);rw[e1,run_convert_bytes_string w s d e _ _ _ fG hue hud,run_bytesToString w _ _ _ [] (by rw[hn];rfl)];rfl
  ·rw[hx] at h1
   obtain⟨l,hl,e1⟩:=Ui h1;obtain⟨cs,fr,hc,hrr⟩:=hs.row hr' hl;rw[Xb] at hle;have hle:off+len<=r.size:=Zr hle;obtain⟨vs,h2,h3,h4,h5⟩:=P1 hrr len off hle;refine LC _ vs h2 λns hns=>?_;have hload:=Ry (P:=P) hc vs (o:=l.base+off) h4;rw[h3,hns] at hload;refine Z9 hs (hr (v:=.string ⟨(ns.map tR).toArray⟩) ?_) (by simp[Ym]);rw[e1,run_convert_bytes_string w s d e _ _ _ fG hue hud,run_bytesToString w _ _ _ ns hload,Eh];simp
 case pointer.unsafePointer u=>
  refine XW λi hi=>WY (λh3=>?_) λ_=>T3;rw[Xb] at h3;have h3:1<=i.size:=Zr h3;show Xa P σ H w _ (qI (YZ P x) tm H);unfold qI
  split
  ·rename_i hx
   rw[hx] at h1;have h1:ρ x=.pointer none:=by simpa only[Ym] using h1
   refine Z9 hs (x:=.pointer none) (hr ?_) (by simp[Ym]);rw[h1];simp[convert,run_underlying fG,run_underlying hud,Conv.unsafePointer]
  ·rename_i b off hx
   refine TF λr hr'=>Yi λhle=>?_;rw[hx] at h1;obtain⟨l,hl,e1⟩:=TK h1;obtain⟨cs,fr,hc,hrr⟩:=hs.row hr' hl;rw[Xb] at hle;have hle:off+1<=r.size:=Zr hle;have q1:=hrr.fits;have q2:=hrr.room;refine Z9 hs (hr ?_) (Lh hl);rw[e1];have hsh:=FM hc;simp only[convert,Sem.run_bind,run_underlying fG,run_underlying hud,Result.andThen_ok,Conv.unsafePointer,Conv.seenAt,viewAt,run_shape,hsh,Option.isSome_some,if_true,Sem.run_pure,cellsIn,WV hi];have q3: ¬(l.base+off≥cs.size):=by omega
   have q4: ¬(i.size=0):=by omega
   simp[q3,q4]
  ·trivial
 case unsafePointer.pointer u=>
  refine XW λi hi=>WY (λh3=>?_) λ_=>T3;rw[Xb] at h3;have h3:1<=i.size:=Zr h3;show Xa P σ H w _ (qH (YZ P x) u i.size tm H);unfold qH
  split
  ·rename_i hx
   rw[hx] at h1;have h1:ρ x=.pointer none:=by simpa only[Ym] using h1
   refine Z9 hs (x:=.pointer none) (hr ?_) (by simp[Ym]);rw[h1];simp[convert,run_underlying fG,run_underlying hud,Conv.unsafePointer]
  ·rename_i b off hx
   refine TF λr hr'=>Yi λhex=>Yi λhel=>Yi λh0=>Yi λhle=>?_;rw[hx] at h1;obtain⟨l,hl,e1⟩:=TK h1;obtain⟨cs,fr,hc,hrr⟩:=hs.row hr' hl;rw[Xb] at hle;rw[Yl] at hel h0;have hle:i.size<=r.size:=Zr hle;have hel:r.elem=u:=Zr hel;have h0:off=0:=Zr h0;obtain⟨x1,x2,x3⟩:=hrr.exact hex;refine Z9 hs (hr ?_) (Lh hl);rw[e1];have hsh:=FM hc;have q4: ¬(i.size=0):=by omega
   have hcell:P.cellsOf u=i.size:=by simp[Program.cellsOf,hi]
   have hlies:liesAt P P.depth r.elem (cs.size/P.cellsOf r.elem) (l.base+off) u 1=true:=by
    rw[hel,hcell,x2,h0];refine jJ (by rw[hcell];omega) (by rw[hcell];rfl) ?_;rw[hcell,Q4,Zl,Nat.le_div_iff_mul_le (by omega)];omega
   simp only[convert,Sem.run_bind,run_underlying fG,run_underlying hud,Result.andThen_ok,Conv.unsafePointer,Conv.seenAt,viewAt,run_shape,hsh,Option.isSome_some,if_true,Sem.run_pure,WV hi,variablesAt,run_program,hlies];simp[hlies]
  ·trivial
 case slice.slice e1 e2=>
  refine WY (λhsd=>Xm λde hue=>BK λhde=>?_) λ_=>T3;subst hde;rw[Yl] at hsd;have hsd:s=d:=Zr hsd;refine T9 (λ_=>trivial) λb off len cap hx=>TF λr hr'=>Yi λS5=>Yi λhfz=>?_;have h0:=h1;rw[hx] at h1;obtain⟨l,hl,e3⟩:=Ui h1;obtain⟨cs,fr,hc,hrr⟩:=hs.row hr' hl;have xf:r.sm=false∧H.may r b=true:=by
   cases hsm:r.sm with
   |true=>rw[hsm] at S5;cases S5
   |false=>rw[hsm] at S5;exact⟨rfl,S5⟩
  obtain⟨hwr,hown⟩:=Wr.of_may xf.2 hr';rw[Yl] at hfz;have hfz:r.fz=0:=Zr hfz;have hfr:fr.1=fr.2:=by
   rcases hrr.frs hown xf.1 with h|h
   ·exact h
   ·omega
  have hrun:(execOp ρ o).run P w=.ok (.value (ρ x)) (w.freeze ⟨l.blk,cs.size,none⟩ 1):=by
   refine hr ?_;rw[e3];have ZpD:(s==d)=true:=by simp[hsd]
   have hsh:=FM hc;simp only[convert,Sem.run_bind,run_underlying fG,run_underlying hud,run_underlying hue,Result.andThen_ok,ZpD,markStringish,run_shape,hsh,run_freeze,Sem.run_pure]
  have hfz':=fd (n:=cs.size) hc hfr;refine VZ (Tr.write hs hr' hl hwr hfz'.size hfz'.new hfz'.old ⟨cs,_,rfl,?_⟩ hfz'.tape hfz'.os hfz'.out) hrun (by rw[hx];rw[hx] at h0;exact h0);have q1:=hrr.room;refine⟨hrr.sz,hrr.sz1,hrr.fits,hrr.room,hrr.exact,?_,hrr.one,?_,λ_ h=>by cases h⟩
  ·intro i hi
   exact hrr.cell i hi
  ·intro _ i _ hi
   simp only;omega
def px{o:Oper}{c:Call}{b:Builtin}(ho:o.op=.call c)(hc:c.callee=.builtin b):
  ∃cs,(execOp ρ o).run P w=(builtin b c.argTypes o.type cs (c.args.map ρ)).run P w:=by
 refine⟨c.args.map λ|.const _=>true|_=>false,?_⟩;simp only[execOp,ho,resolve,hc,Sem.run_bind,Sem.run_pure,Result.andThen_ok,invoke];rfl
def UT{o:Oper}{xs:List Operand}{ts:List TypeId}{b:Builtin}(ho:o.op=.call ⟨.builtin b,⟨xs⟩,⟨ts⟩⟩)
  (h: ∀cs,Xa P σ H w ((builtin b ⟨ts⟩ o.type cs ⟨xs.map ρ⟩).run P w) (bj P b xs ts tm H)):XI P σ H w tm ρ o:=by
 unfold XI;obtain⟨cs,h2⟩:=px (P:=P) (w:=w) (ρ:=ρ) ho rfl;rw[h2,ho];have h3:=h cs;have e:Array.map ρ ⟨xs⟩=⟨xs.map ρ⟩:=by simp
 show Xa P σ H w ((builtin b ⟨ts⟩ o.type cs (Array.map ρ ⟨xs⟩)).run P w) (bj P b xs ts tm H);rw[e];exact h3
def E8{r:Row}{l:Loc}{cs:Array Value}{fr:Nat×Nat}(hr:PG σ r l cs fr)(hex:r.exact=true){o:Nat}(ho:o % l.sz=0):Wa r o none=l.tot - o/l.sz:=by
 show cond (Nat.beq r.sz 1) (r.size - o) ((r.size - o)/r.sz)=_;obtain⟨h1,_,_⟩:=hr.exact hex;have h2:=hr.sz;have h3:=hr.sz1;have key:(r.size - o)/l.sz=l.tot - o/l.sz:=by
  have hd:=Rh o l.sz;rw[ho,Zo] at hd;have e:r.size - o=(l.tot - o/l.sz)*l.sz:=by rw[Nat.sub_mul,<-h1,VE (o/l.sz),hd]
  rw[e,Nat.mul_div_cancel _ (by omega)]
 rw[Yl]
 by_cases e:r.sz=1
 ·rw[Zi e]
  have e2:l.sz=1:=by omega
  rw[e2] at key ⊢
  simpa using key
 ·rw[Zc e,<-h2];exact key
def OH{b:Nat}{es:Array MapEntry}{c:Nat}(h:w.heap[b]? =some (.map es c)):(getObj b).run P w=.ok (.map es c) w:=by simp[getObj,Sem.run,h]
def J8{t:TypeId}{x:Value}{d:TypeDesc}{y:Value}{cs:Array Bool}{ty:TypeId}(hu:P.underlying t=some d)(h:(Builtin.len_ #[t] ty #[x]).run P w=.ok y w):
  (builtin .len ⟨[t]⟩ ty cs ⟨[x]⟩).run P w=.ok (.value y) w:=Vn h
def ZiY(hs:WW P σ H w)(hρ:RG P σ tm ρ){o:Oper}{xs:List Operand}{ts:List TypeId}(ho:o.op=.call ⟨.builtin .len,⟨xs⟩,⟨ts⟩⟩):XI P σ H w tm ρ o:=by
 refine UT ho λcs=>?_;rcases xs with _|⟨x,_|⟨_,_⟩⟩<;>try exact trivial
 rcases ts with _|⟨t,_|⟨_,_⟩⟩<;>try exact trivial
 refine Xm λd hu=>?_;have g:=hρ x;cases d<;>try exact trivial
 case string=>
  refine Oo λs hx=>Om ?_;rw[hx] at g;have g:=Uy g;refine Z9 hs (x:=.int .i64 s.length) (J8 hu ?_) (by rw[Yw];simp[Ym]);rw[g];simp[Builtin.len_,run_underlying hu,goInt,MH]
 case slice e=>
  refine KW (λhx=>?_) (T9 (λhx=>?_) λb off n c hx=>Om ?_)
  ·rw[hx] at g
   obtain⟨l,e1⟩: ∃l,ρ x=.slice (some l) 0 0:=by simpa only[Ym] using g
   refine Z9 hs (x:=.int .i64 0) (J8 hu ?_) (by simp[Ym]);rw[e1];simp[Builtin.len_,run_underlying hu,goInt]
  ·rw[hx] at g
   have g:ρ x=.slice none 0 0:=by simpa only[Ym] using g
   refine Z9 hs (x:=.int .i64 0) (J8 hu ?_) (by simp[Ym]);rw[g];simp[Builtin.len_,run_underlying hu,goInt]
  ·rw[hx] at g
   obtain⟨l,hl,e1⟩:=Ui g;refine Z9 hs (x:=.int .i64 n) (J8 hu ?_) (by simp[Ym]);rw[e1];simp[Builtin.len_,run_underlying hu,goInt]
 case map kt e=>
  refine GW (λhx=>?_) λb hx=>KV λob xg=>?_
  ·rw[hx] at g
   have g:ρ x=.map none:=by simpa only[Ym] using g
   refine Z9 hs (x:=.int .i64 0) (J8 hu ?_) (by simp[Ym]);rw[g];simp[Builtin.len_,run_underlying hu,goInt]
  ·rw[hx] at g
   have g: ∃l,σ b=some l∧ρ x=.map (some l.blk):=by simpa only[Ym] using g
   obtain⟨l,hl,e1⟩:=g;cases ob<;>try exact trivial
   case map es clock=>
    obtain⟨c,hc,ho'⟩:=hs.alive b _ l xg hl;obtain⟨ents,rfl,hr,_⟩:=ho';have hlen:es.length=ents.size:=by
     have: ∀(es:List Ss) (l:List MapEntry),YE σ es l->es.length=l.length:=by
      intro es
      induction es with
      |nil=>intro l h;simp only[YE] at h;subst h;rfl
      |cons a es ih=>intro l h;simp only[YE] at h;obtain⟨e,es',_,h2,rfl⟩:=h;simp[ih _ h2]
     rw[this _ _ hr];simp
    refine Z9 hs (x:=.int .i64 ents.size) (J8 hu ?_) (by rw[Yw,hlen];simp[Ym]);rw[e1];simp[Builtin.len_,run_underlying hu,goInt,OH hc]
def ZiU(hs:WW P σ H w)(hρ:RG P σ tm ρ){o:Oper}{xs:List Operand}{ts:List TypeId}(ho:o.op=.call ⟨.builtin .cap,⟨xs⟩,⟨ts⟩⟩):XI P σ H w tm ρ o:=by
 refine UT ho λcs=>?_;rcases xs with _|⟨x,_|⟨_,_⟩⟩<;>try exact trivial
 rcases ts with _|⟨t,_|⟨_,_⟩⟩<;>try exact trivial
 refine Xm λd hu=>?_;have g:=hρ x;have hr: ∀{y:Value},(Builtin.cap_ #[t] o.type #[ρ x]).run P w=.ok y w->(builtin .cap ⟨[t]⟩ o.type cs ⟨[ρ x]⟩).run P w=.ok (.value y) w:=λh=>Vn h;cases d<;>try exact trivial
 case slice e=>
  refine T9 (λhx=>?_) λb off n c hx=>?_
  ·rw[hx] at g
   have g:ρ x=.slice none 0 0:=by simpa only[Ym] using g
   refine Z9 hs (x:=.int .i64 0) (hr ?_) (by simp[Ym]);rw[g];simp[Builtin.cap_,run_underlying hu,goInt]
  ·rw[hx] at g
   obtain⟨l,hl,e1⟩:=Ui g;cases c with
   |some c=>
    refine Z9 hs (x:=.int .i64 c) (hr ?_) (by simp[Ym]);rw[e1];simp[Builtin.cap_,run_underlying hu,goInt]
   |none=>
    refine TF λr hr'=>Yi λhex=>Yi λhmod=>?_;rw[Yl] at hmod;have hmod:off % r.sz=0:=Zr hmod;obtain⟨cs',fr,hc,hrr⟩:=hs.row hr' hl;refine Z9 hs (x:=.int .i64 (l.tot - off/l.sz:Nat)) (hr ?_) ?_
    ·rw[e1]
     simp[Builtin.cap_,run_underlying hu,goInt]
    ·simp only[Ym]
     congr 1
     have:=E8 hrr hex (o:=off) (by rw[hrr.sz];exact hmod);simp[this]
def Zfq(ts:Array TypeId)(t:TypeId)(n c:Nat):Builtin.unsafeSliceData_ ts t #[.slice none n c]=pure (.pointer none):=rfl
def Zcr(ts:Array TypeId)(t:TypeId)(a:Addr)(n c:Nat)(h:c≠0):(Builtin.unsafeSliceData_ ts t #[.slice (some a) n c]).run P w=.ok (.pointer (some a)) w:=by
 show(if c≠0 then pure (Value.pointer (some a)) else _:Sem Value).run P w=_;rw[if_pos h];rfl
def db(hs:WW P σ H w)(hρ:RG P σ tm ρ){o:Oper}{xs:List Operand}{ts:List TypeId}(ho:o.op=.call ⟨.builtin .unsafeSliceData,⟨xs⟩,⟨ts⟩⟩):XI P σ H w tm ρ o:=by
 refine UT ho λcs=>?_;rcases xs with _|⟨x,_|⟨_,_⟩⟩<;>try exact trivial
 have g:=hρ x;refine T9 (λhx=>?_) λb off n c hx=>?_
 ·rw[hx] at g
  have g:ρ x=.slice none 0 0:=by simpa only[Ym] using g
  refine Z9 hs (x:=.pointer none) ?_ (by simp[Ym]);refine Vn ?_;show(Builtin.unsafeSliceData_ ⟨ts⟩ o.type #[ρ x]).run P w=_;rw[g];exact congrArg (λs=>s.run P w) (Zfq _ _ _ _)
 ·rw[hx] at g
  obtain⟨l,hl,e1⟩:=Ui g;have fin:c.getD (l.tot - off/l.sz)≠0->Xa P σ H w ((builtin .unsafeSliceData ⟨ts⟩ o.type cs ⟨[ρ x]⟩).run P w) (.val (.ptr b off) H):=λh=>by
   refine Z9 hs ?_ (Lh hl);refine Vn ?_;show(Builtin.unsafeSliceData_ ⟨ts⟩ o.type #[ρ x]).run P w=_;rw[e1];exact Zcr _ _ _ _ _ h
  cases c with
  |some c=>
   refine Yi λh=>fin ?_;rw[Xb] at h;have h:1<=c:=Zr h;simp only[RM];omega
  |none=>
   refine TF λr hr'=>Yi λh=>fin ?_;obtain⟨cs',fr,hc,hrr⟩:=hs.row hr' hl;rw[Xb] at h;have h:off+1<=r.size:=Zr h;have h1:=hrr.fits;have h2:=hrr.sz1;simp only[Option.getD_none];have:off/l.sz<l.tot:=by rw[Qz (by omega)];omega
   omega
def lV(v:AV)(m:Nat):Prop:=((v=.nils∨v=.slice0)∧m=0)∨(∃b o c,v=.slice b o m c)∨ ∃s,v=.str s∧m=s.length
def yV{r:Result Next}{v:AV}{k:Nat->OR}(h: ∀m,lV v m->Xa P σ H w r (k m)):Xa P σ H w r (ub v k):=by
 unfold ub
 split
 ·exact h 0 (.inl ⟨.inl rfl,rfl⟩)
 ·exact h 0 (.inl ⟨.inr rfl,rfl⟩)
 ·exact h _ (.inr (.inl ⟨_,_,_,rfl⟩))
 ·rw[Yw];exact h _ (.inr (.inr ⟨_,rfl,rfl⟩))
 ·trivial
def wF{v:AV}{m:Nat}{x:Value}(h:lV v m)(hr:Ym σ v x)(w':World):(Builtin.lenOf x).run P w'=.ok m w':=by
 rcases h with⟨rfl|rfl,rfl⟩|⟨b,o,c,rfl⟩|⟨s,rfl,rfl⟩
 ·have:x=.slice none 0 0:=by simpa only[Ym] using hr
  rw[this];rfl
 ·obtain⟨a,this⟩: ∃a,x=.slice (some a) 0 0:=by simpa only[Ym] using hr
  rw[this];rfl
 ·obtain⟨l,_,rfl⟩:=Ui hr;rfl
 ·rw[Uy hr];simp[Builtin.lenOf,MH]
structure Zfv(P:Program)(σ:Mp)(w:World)(sz n:Nat)(x:Value)(as:List AV)(vs:List Value):Prop where
 rel:YR σ as vs
 one: ∀u∈vs,u.oneCell'=true
 len:vs.length=n*sz
 run: ∀w':World,w'.heap=w.heap->(Builtin.firstCells sz n x).run P w'=.ok ⟨vs⟩ w'
def BE{v:AV}{x:Value}(hx:Ym σ v x){sz m:Nat}(hm:lV v m):Zfv P σ w sz 0 x [] []:=by
 refine⟨Ux,by simp,by simp,λw' _=>?_⟩;rcases hm with⟨rfl|rfl,rfl⟩|⟨b,o,c,rfl⟩|⟨s,rfl,rfl⟩
 ·have:x=.slice none 0 0:=by simpa only[Ym] using hx
  rw[this];rfl
 ·obtain⟨a,this⟩: ∃a,x=.slice (some a) 0 0:=by simpa only[Ym] using hx
  rw[this];simp only[Builtin.firstCells,Vl];rfl
 ·obtain⟨l,_,rfl⟩:=Ui hx
  simp only[Builtin.firstCells,Vl];rfl
 ·rw[Uy hx]
  simp[Builtin.firstCells]
def Iz{r:Result Next}(hs:WW P σ H w){v:AV}{x:Value}(hx:Ym σ v x){sz n m:Nat}{k:List AV->OR}(hm:lV v m)(hn:n<=m)
  (h: ∀as vs,Zfv P σ w sz n x as vs->Xa P σ H w r (k as)):Xa P σ H w r (Ww H sz v n k):=by
 unfold Ww;refine UP (λh0=>?_) λ_=>?_
 ·rw[Yl] at h0
  have h0:n=0:=Zr h0;subst h0;exact h [] [] (BE hx hm)
 ·rcases hm with⟨rfl|rfl,rfl⟩|⟨b,o,c,rfl⟩|⟨s,rfl,rfl⟩
  ·trivial
  ·trivial
  ·refine TF λrr hrr=>Yi λhle=>?_
   rw[Xb] at hle;have hle:o+n*sz<=rr.size:=Zr hle;obtain⟨l,hl,rfl⟩:=Ui hx;obtain⟨cs,fr,hc,hrow⟩:=hs.row hrr hl;obtain⟨vs,h2,h3,h4,h5⟩:=P1 hrow (n*sz) o hle;refine h _ vs ⟨h2,h5,h3,λw' hw=>?_⟩;have hc':w'.heap[l.blk]? =some (.cells cs rr.elem fr):=by rw[hw];exact hc
   have:=Ry (P:=P) hc' vs (o:=l.base+o) h4;rw[h3] at this;exact this
  ·refine Yi λh1=>?_
   rw[Yl] at h1;have h1:sz=1:=Zr h1;subst h1;rw[OP];refine h _ _ ⟨Ao σ _,ql _,by simp;omega,λw' _=>?_⟩;rw[Uy hx];simp only[Builtin.firstCells,Sem.run_pure,Result.ok.injEq,and_true];apply Array.ext';simp[Vp]
def Zer(a b:Nat):O3 a b=Nat.min a b:=by
 unfold O3;rw[Xb]
 by_cases h:a<=b
 ·rw[Zi h];exact(Xy h).symm
 ·rw[Zc h];exact(SP (QH (Nat.lt_of_not_le h))).symm
def ZeG(hs:WW P σ H w)(hρ:RG P σ tm ρ){o:Oper}{xs:List Operand}{ts:List TypeId}(ho:o.op=.call ⟨.builtin .copy,⟨xs⟩,⟨ts⟩⟩):XI P σ H w tm ρ o:=by
 refine UT ho λcs=>?_;rcases xs with _|⟨x,_|⟨y,_|⟨_,_⟩⟩⟩<;>try exact trivial
 rcases ts with _|⟨t,_|⟨t2,_|⟨_,_⟩⟩⟩<;>try exact trivial
 refine Xm λd hu=>Oq λe hd=>XW λi hi=>yV λsn hsn=>?_;subst hd;have g:=hρ x;have step: ∀(base:Option Addr) (dn cp:Nat) (vs:List Value),ρ x=.slice base dn cp->(Builtin.firstCells i.size (Nat.min dn sn) (ρ y)).run P w=.ok ⟨vs⟩ w->
   (Builtin.copy_ ⟨[t,t2]⟩ o.type ⟨[ρ x,ρ y]⟩).run P w=(do (match base with|some a=>storeCells a vs|none=>pure ());pure (goInt (Nat.min dn sn)):Sem Value).run P w:=by
  intro base dn cp vs e1 hr;have hl:=wF (P:=P) hsn (hρ y) w;rw[show Nat.min dn sn=Nat.min sn dn from Nat.min_comm _ _] at hr ⊢;simp only[Builtin.copy_,X3,Uf,Ue,Sem.run_bind,run_underlying hu,Result.andThen_ok,e1,hl,WV hi,hr];cases base with
  |none=>rfl
  |some a=>simp
 refine T9 (λhx=>?_) λb off dn c hx=>Om ?_
 ·rw[hx] at g
  have g:ρ x=.slice none 0 0:=by simpa only[Ym] using g
  refine Z9 hs (x:=.int .i64 0) ?_ (by simp[Ym]);refine Vn ?_;refine(step none 0 0 [] g ?_).trans ?_
  ·rw[show Nat.min 0 sn=0 from Nat.zero_min sn]
   exact(BE (w:=w) (hρ y) hsn).run w rfl
  ·rw[show Nat.min 0 sn=0 from Nat.zero_min sn];rfl
 ·rw[Zer]
  have hmin:Nat.min dn sn<=sn:=Nat.min_le_right _ _;rw[hx] at g;obtain⟨l,hl,e1⟩:=Ui g;refine Iz hs (hρ y) hsn hmin λas vs hf=>UP (λh0=>?_) λh0=>TF λr hr=>Yi λS5=>Yi λhfz=>Yi λhle=>?_
  ·rw[Yl] at h0
   have h0:Nat.min dn sn=0:=Zr h0;have hv:vs=[]:=by have:=hf.len;rw[h0,Vl] at this;exact YF.1 this
   refine Z9 hs (x:=.int .i64 0) ?_ (by simp[Ym]);refine Vn ?_;refine(step _ _ _ vs e1 (hf.run w rfl)).trans ?_;rw[hv,h0];simp[goInt,storeCells]
  ·rw[Xb] at hfz hle
   have hfz:r.fz<=off:=Zr hfz;have hle:off+Nat.min dn sn*i.size<=r.size:=Zr hle;obtain⟨w',hrun,htr⟩:=J7 hs hr hl S5 hf.rel hf.one (o:=off) (by rw[hf.len];exact hle) hfz;refine VZ htr (x:=.int .i64 (Nat.min dn sn:Nat)) ?_ (by simp[Ym]);refine Vn ?_;refine(step _ _ _ vs e1 (hf.run w rfl)).trans ?_;simp[hrun,goInt]
def app(e:TypeId)(i:TypeInfo)(z:Value)(base:Option Addr)(sLen sCap n:Nat)(news:Sem (Array Value)):Sem Value:=
 if sLen+n<=sCap then do
  let new<-news
  if let some a:=base then storeCells (a.add (sLen*i.size)) new.toList
  pure (.slice base (sLen+n) sCap)
 else do
  let newCap<-choose (.appendCap (sLen+n) sCap e)
  let old<-Builtin.firstCells i.size sLen (.slice base sLen sCap)
  let new<-news
  let a<-newRow e (old++new++Builtin.zeroCells z.cells (newCap - (sLen+n)))
  pure (.slice (some a) (sLen+n) newCap)
def jU(i:TypeInfo)(z:Value)(n:Nat):Sem (Array Value):=if n*i.size=0 then pure #[] else pure (Builtin.zeroCells z.cells n)
def Ze5{t u ty e:TypeId}{i:TypeInfo}{z x:Value}{d:TypeDesc}(ht:P.underlying t=some (.slice e))(hu:P.underlying u=some d)(hd: ∀k,d≠.int k)(hi:P.info? e=some i)(hz:i.zero=some z)
  {base:Option Addr}{sLen sCap n:Nat}(hn:(Builtin.lenOf x).run P w=.ok n w)(hb:1<=i.bytes)(hfit:(sLen+n)*i.bytes<=140737488355328∨sLen+n<=sCap):
  (Builtin.append_ ⟨[t,u]⟩ ty ⟨[.slice base sLen sCap,x]⟩).run P w=(app e i z base sLen sCap n (Builtin.firstCells i.size n x)).run P w:=by
 unfold app;simp only[Builtin.append_,Sem.run_bind,X3,Uf,Ue,run_underlying ht,run_underlying hu,Result.andThen_ok,WV hi,Sem.run_pure,Xp,if_false,hn,YX,if_true]
 by_cases h:sLen+n<=sCap
 ·rw[if_pos h,if_pos h]
  simp only[Sem.run_bind]
  congr 1
 ·rw[if_neg h,if_neg h]
  have h5:sLen+n<=140737488355328:=by
   rcases hfit with h1|h1
   ·exact Yb (Rj _ hb) h1
   ·exact absurd h1 h
  have h3:Builtin.nextslicecap (sLen+n) sCap*i.bytes<=281474976710656:=growslice_fits (Nat.lt_of_not_le h) (by rcases hfit with h1|h1;exact h1;exact absurd h1 h);have h4: ¬(Builtin.nextslicecap (sLen+n) sCap*i.bytes>2^48):=Nat.not_lt.2 h3;have h6: ¬(((sLen+n:Nat):Int)>IntKind.i64.max∧(False∨i.bytes=0)):=λq=>by
   rcases q.2 with q|q
   ·exact q
   ·rw[q] at hb;exact absurd hb (by decide)
  have hti: ∀w':World,(typeInfo e).run P w'=.ok i w':=λw'=>by simp[typeInfo,hi]
  have hzv: ∀w':World,(zeroValue e).run P w'=.ok z w':=λw'=>TX hi hz;simp only[Sem.run_bind,hti,hzv,run_askRoom,Result.andThen_ok,if_neg h6,if_neg h4,Sem.run_pure]
def ZbS{t u ty e:TypeId}{i:TypeInfo}{z:Value}{k k':IntKind}(ht:P.underlying t=some (.slice e))(hu:P.underlying u=some (.int k))(hi:P.info? e=some i)(hz:i.zero=some z)
  {base:Option Addr}{sLen sCap n:Nat}(hb:1<=i.bytes)(hn:n*i.bytes<=140737488355328)(hfit:(sLen+n)*i.bytes<=140737488355328∨sLen+n<=sCap):
  (Builtin.append_ ⟨[t,u]⟩ ty ⟨[.slice base sLen sCap,.int k' (n:Nat)]⟩).run P w=(app e i z base sLen sCap n (jU i z n)).run P w:=by
 unfold app jU;have hn1:n<=140737488355328:=Yb (Rj _ hb) hn;have hw:IntKind.i64.wrap (n:Int)=n:=by
  exact E2 (by omega) (by omega)
 have hti: ∀w':World,(typeInfo e).run P w'=.ok i w':=λw'=>by simp[typeInfo,hi]
 have hzv: ∀w':World,(zeroValue e).run P w'=.ok z w':=λw'=>TX hi hz;have q1: ¬((n:Int)<0):=by omega
 have q2: ¬((n:Int)*(i.bytes:Int)>2^48):=by
  have h7:((n*i.bytes:Nat):Int)<=((140737488355328:Nat):Int):=Int.ofNat_le.2 hn;rw[Int.natCast_mul] at h7;have h8:(2:Int)^48=281474976710656:=by decide
  rw[h8];omega
 simp only[Builtin.append_,Sem.run_bind,X3,Uf,Ue,run_underlying ht,run_underlying hu,Result.andThen_ok,WV hi,Sem.run_pure,if_true,asInt,asIntOf,hw,if_neg q1,hti,if_neg q2,VP,YI,Xp,if_false]
 by_cases h:sLen+n<=sCap
 ·rw[if_pos h,if_pos h]
  simp only[Sem.run_bind]
  by_cases h0:n*i.size=0
  ·rw[if_pos h0,if_pos h0]
   cases base<;>rfl
  ·rw[if_neg h0,if_neg h0]
   simp only[Sem.run_bind,hzv,Result.andThen_ok,Sem.run_pure];cases base<;>rfl
 ·rw[if_neg h,if_neg h]
  have h5:sLen+n<=140737488355328:=by
   rcases hfit with h1|h1
   ·exact Yb (Rj _ hb) h1
   ·exact absurd h1 h
  have h3:Builtin.nextslicecap (sLen+n) sCap*i.bytes<=281474976710656:=growslice_fits (Nat.lt_of_not_le h) (by rcases hfit with h1|h1;exact h1;exact absurd h1 h);have h4: ¬(Builtin.nextslicecap (sLen+n) sCap*i.bytes>2^48):=Nat.not_lt.2 h3;have h6: ¬(((sLen+n:Nat):Int)>IntKind.i64.max∧(True∨i.bytes=0)):=λq=>by
   have h7:=q.1;have h8:IntKind.i64.max=9223372036854775807:=by decide
   rw[h8] at h7;omega
  by_cases h0:n*i.size=0
  ·simp only[Sem.run_bind,hti,hzv,run_askRoom,Result.andThen_ok,if_neg h6,if_neg h4,Sem.run_pure,if_pos h0]
  ·simp only[Sem.run_bind,hti,hzv,run_askRoom,Result.andThen_ok,if_neg h6,if_neg h4,Sem.run_pure,if_neg h0]
def Tr.del(hs:WW P σ H w){b:Nat}{lb:Loc}(hlb:σ b=some lb)(hb:H.ro<=b):Tr P σ H w σ ⟨H.nx,H.t.del b,H.ro⟩ w:=by
 have g: ∀c o,(H.t.del b).get c=some o->H.t.get c=some o:=by
  intro c o h;rw[T.get_del] at h
  by_cases e:b=c
  ·rw[if_pos e] at h;cases h
  ·rw[if_neg e] at h;exact h
 refine⟨Ext.refl σ,⟨hs.dom,λc o h=>hs.low c o (g c o h),λc o l h hl=>hs.alive c o l (g c o h) hl,λc c' o o' l l' h h'=>hs.inj c c' o o' l l' (g _ _ h) (g _ _ h'),hs.glob,hs.ro⟩,Zs _,λ_ _ _=>rfl,?_,Zs _,rfl,?_,rfl,rfl,rfl,λc _ hn=>⟨by show(H.t.del b).get c=H.t.get c;rw[T.get_del,if_neg (λe=>by subst e;rw[hlb] at hn;cases hn)],hn⟩⟩
 ·intro c l hw hl _
  obtain⟨h1,o,h2,h3⟩:=hw;exact⟨c,l,⟨h1,o,g c o h2,h3⟩,hl,rfl⟩
 ·intro c hc
  show(H.t.del b).get c=H.t.get c;have hc:c<H.ro:=hc;rw[T.get_del,if_neg (by omega)]
def Tr.move{w':World}(h:WW P σ H w){b:Nat}{o o':Obj}{l:Loc}{c':Go.Obj}
  (hb:H.t.get b=some o)(hl:σ b=some l)(hw:Wr H b)
  (hsize:w'.heap.size=w.heap.size)(hnew:w'.heap[l.blk]? =some c')(hold: ∀k,k≠l.blk->w'.heap[k]? =w.heap[k]?)
  (ho:Tq (σ.put H.nx l) o' l c')(ht:w'.tape=w.tape)(hos:w'.os=w.os)(hout:w'.output=w.output):
  Tr P σ H w (σ.put H.nx l) ⟨Nat.succ H.nx,(H.t.del b).set H.nx o',H.ro⟩ w':=by
 have hlt:b<H.nx:=h.dom b l hl;have hro:=h.ro;have B1:Ext σ (σ.put H.nx l):=Mp.put_ext l (h.fresh (Zs _));have get: ∀c x,((H.t.del b).set H.nx o').get c=some x->(c=H.nx∧x=o')∨(c≠H.nx∧c≠b∧H.t.get c=some x):=by
  intro c x hx;rw[T.get_set] at hx
  by_cases e:H.nx=c
  ·rw[if_pos e] at hx;cases hx;exact .inl ⟨e.symm,rfl⟩
  ·rw[if_neg e,T.get_del] at hx
   by_cases e2:b=c
   ·rw[if_pos e2] at hx;cases hx
   ·rw[if_neg e2] at hx;exact .inr ⟨λz=>e z.symm,λz=>e2 z.symm,hx⟩
 refine⟨B1,⟨?_,?_,?_,?_,?_,?_⟩,by omega,?_,?_,Ve _,rfl,?_,ht,hos,hout,λc hc hn=>⟨by show((H.t.del b).set H.nx o').get c=H.t.get c;rw[T.get_set,if_neg (by omega),T.get_del,if_neg (λe=>by subst e;rw[hl] at hn;cases hn)],by unfold Mp.put;rw[if_neg (by omega)];exact hn⟩⟩
 ·intro c m hm
  show c<H.nx+1;unfold Mp.put at hm
  by_cases e:c=H.nx
  ·omega
  ·rw[if_neg e] at hm;have:=h.dom c m hm;omega
 ·intro c x hx
  show c<H.nx+1;rcases get c x hx with⟨rfl,_⟩|⟨h1,h2,h3⟩
  ·omega
  ·have:=h.low c x h3;omega
 ·intro c x l1 hx hl1
  rcases get c x hx with⟨rfl,rfl⟩|⟨h1,h2,h3⟩
  ·rw[Mp.put_same] at hl1;cases hl1
   exact⟨c',hnew,ho⟩
  ·rw[Mp.put_old h1] at hl1
   obtain⟨c1,hc1,hr⟩:=h.alive c x l1 h3 hl1;refine⟨c1,?_,hr.mono B1⟩;rw[hold l1.blk ?_];exact hc1;intro e;exact h2 (h.alone h3 hb hl1 hl e λs=>hw.hard hb s.2)
 ·intro c1 c2 x1 x2 l1 l2 h1 h2 k1 k2 e
  rcases get c1 x1 h1 with⟨rfl,rfl⟩|⟨p1,p2,p3⟩<;>rcases get c2 x2 h2 with⟨q0,rfl⟩|⟨q1,q2,q3⟩
  ·exact .inl q0.symm
  ·exfalso
   rw[Mp.put_same] at k1;cases k1;rw[Mp.put_old q1] at k2;exact q2 (h.alone q3 hb k2 hl e.symm λs=>hw.hard hb s.2)
  ·exfalso
   rw[q0,Mp.put_same] at k2;cases k2;rw[Mp.put_old p1] at k1;exact p2 (h.alone p3 hb k1 hl e λs=>hw.hard hb s.2)
  ·rw[Mp.put_old p1] at k1
   rw[Mp.put_old q1] at k2;exact h.inj c1 c2 x1 x2 l1 l2 p3 q3 k1 k2 e
 ·intro g hg
  obtain⟨lg,h1,h2⟩:=h.glob g hg;exact⟨lg,B1 g lg h1,h2⟩
 ·show H.ro<=H.nx+1;omega
 ·intro k hk hn
  exact hold k λe=>hn b l hw hl e.symm
 ·intro c m hwc hlc hlt'
  obtain⟨r1,x,r2,r3⟩:=hwc;rcases get c x r2 with⟨rfl,rfl⟩|⟨p1,p2,p3⟩
  ·rw[Mp.put_same] at hlc;cases hlc
   exact⟨b,l,hw,hl,rfl⟩
  ·rw[Mp.put_old p1] at hlc
   exact⟨c,m,⟨r1,x,p3,r3⟩,hlc,rfl⟩
 ·intro c hc
  have hc:c<H.ro:=hc;show((H.t.del b).set H.nx o').get c=H.t.get c;rw[T.get_set,if_neg (by omega),T.get_del,if_neg (by have:=hw.1;omega)]
def QU{z:Array Value}(hone: ∀v∈z.toList,v.oneCell'=true)(k:Nat):(Builtin.zeroCells z k).size=k*z.size∧ ∀v∈(Builtin.zeroCells z k).toList,v.oneCell'=true:=by
 constructor
 ·simp[Builtin.zeroCells]
 ·intro v hv
  simp only[Builtin.zeroCells,RH,Array.toList_range,YC,XM] at hv;obtain⟨i,hi,rfl⟩:=hv;have hz:0<z.size:=by
   rcases Nat.eq_zero_or_pos z.size with h|h
   ·rw[h,Nat.mul_zero] at hi;omega
   ·exact h
  rw[getElem!_pos z _ (Wh _ hz)];exact hone _ (Array.getElem_mem_toList _)
def Cq{e:TypeId}{i:TypeInfo}{z:Value}{base:Option Addr}{sLen sCap n:Nat}{news:Sem (Array Value)}{vo vn:List Value}
  (hone: ∀v∈z.cells.toList,v.oneCell'=true)(hg: ¬(sLen+n<=sCap))
  (ho: ∀w':World,w'.heap=w.heap->(Builtin.firstCells i.size sLen (.slice base sLen sCap)).run P w'=.ok ⟨vo⟩ w')(hn: ∀w':World,w'.heap=w.heap->news.run P w'=.ok ⟨vn⟩ w'):
  ∃k rest,(app e i z base sLen sCap n news).run P w=.ok (.slice (some ⟨w.heap.size,0,none⟩) (sLen+n) (sLen+n+k)) (w.drew.alloc (.cells ⟨(vo++vn)++rest⟩ e))∧
   rest.length=k*z.cells.size∧ ∀v∈rest,v.oneCell'=true:=by
 obtain⟨k,hk⟩:=Hm (P:=P) (sLen+n) sCap e w;obtain⟨h1,h2⟩:=QU hone k;refine⟨k,(Builtin.zeroCells z.cells k).toList,?_,by simpa using h1,h2⟩;unfold app;rw[if_neg hg];simp only[Sem.run_bind,hk,Result.andThen_ok,ho w.drew rfl,hn w.drew rfl,WA,newRow,run_newObj,Sem.run_pure,World.alloc_eq]
 congr 3
 have e1:(⟨vo⟩:Array Value)++⟨vn⟩++Builtin.zeroCells z.cells k=⟨(vo++vn)++(Builtin.zeroCells z.cells k).toList⟩:=by
  apply Array.ext';simp
 rw[e1]
def KT{r:Result Next}(hs:WW P σ H w){e sz need k:Nat}{as:List AV}{vs rest:List Value}(hr:r=.ok (.value (.slice (some ⟨w.heap.size,0,none⟩) need (need+k))) (w.drew.alloc (.cells ⟨vs++rest⟩ e)))
  (hrel:YR σ as vs)(hone: ∀v∈vs,v.oneCell'=true)(hrest: ∀v∈rest,v.oneCell'=true)(hsz:1<=sz)(hlen:vs.length=need*sz)(hrl:rest.length=k*sz):
  Xa P σ H w r (.val (.slice H.nx 0 need none) (H.newRow e sz as false)):=by
 have hl:=hrel.length;refine VZ ((Tr.drew hs).trans (Tr.alloc hs.drew _ _ ⟨w.heap.size,0,need+k,sz⟩ rfl ⟨_,(0,0),rfl,?_⟩)) hr (SL (l:=⟨w.heap.size,0,need+k,sz⟩) rfl);refine Gb (hrel.mono (Mp.put_ext _ (hs.drew.fresh (Zs _)))) (λv hv=>?_) hsz ?_ ?_ (λh=>by cases h) rfl
 ·rcases Zt.1 hv with hv|hv
  ·exact hone v hv
  ·exact hrest v hv
 ·rw[hl,hlen,WR];omega
 ·rw[Zh,hlen,hrl,WR];omega
theorem Sp(r:Row): ∀(n o j:Nat),j<n->(Vw r o n)[j]? =some (r.get (o+j))
 |0,o,j,h=>by omega
 |n+1,o,0,_=>rfl
 |n+1,o,j+1,h=>by
  show(Vw r (o+1) n)[j]? =_;rw[Sp r n (o+1) j (by omega)]
  congr 2;omega
def lH(r:Row)(sz size o:Nat)(as:List AV){j:Nat}(hj:j<o+as.length):
  (j<o∧(⟨r.elem,sz,size,XV r.cells o as,r.dflt,r.fz,r.sm,true,false⟩:Row).get j=r.get j)∨
  (∃a,o<=j∧as[j - o]? =some a∧(⟨r.elem,sz,size,XV r.cells o as,r.dflt,r.fz,r.sm,true,false⟩:Row).get j=a):=by
 by_cases h:j<o
 ·refine .inl ⟨h,?_⟩
  rw[Row.get_eq,Row.get_eq];show((XV r.cells o as).get j).getD r.dflt=_;rw[SM,if_neg (by omega)]
 ·refine .inr ⟨as[j - o]'(by omega),by omega,Zm (by omega),?_⟩
  rw[Row.get_eq];show((XV r.cells o as).get j).getD r.dflt=_;rw[SM,if_pos (by omega),Zm (by omega)];rfl
structure Zj7(P:Program)(σ:Mp)(w:World)(sz n:Nat)(news:Sem (Array Value))(as:List AV)(vs:List Value):Prop where
 rel:YR σ as vs
 one: ∀u∈vs,u.oneCell'=true
 len:vs.length=n*sz
 run: ∀w':World,w'.heap=w.heap->news.run P w'=.ok ⟨vs⟩ w'
def fq(hs:WW P σ H w){va:AV}{x:Value}(g:Ym σ va x){e n:Nat}{i:TypeInfo}{z:Value}{news:Sem (Array Value)}{as:List AV}{vs:List Value}{q:Result Next}
  (hsz:1<=i.size)(NX: ∀v∈z.cells.toList,v.oneCell'=true)(PS:z.cells.size=i.size)(hf:Zj7 P σ w i.size n news as vs)
  (run: ∀{base:Option Addr} {sLen sCap:Nat} {v:Value} {w':World},x=.slice base sLen sCap->((sLen+n)*i.bytes<=140737488355328∨sLen+n<=sCap)->(app e i z base sLen sCap n news).run P w=.ok v w'->q=.ok (.value v) w'):
  Xa P σ H w q (Oh va e i.size i.bytes H n as):=by
 refine KW (λhx=>?_) (T9 (λhx=>?_) λb off len cap hx=>?_)
 ·rw[hx] at g
  obtain⟨a,g⟩: ∃a,x=.slice (some a) 0 0:=by simpa only[Ym] using g
  refine UP (λh0=>?_) λh0=>Yi λhfit=>?_
  ·rw[Yl] at h0
   have h0:n=0:=Zr h0;subst h0;have hv:vs=[]:=by have:=hf.len;rw[Vl] at this;exact YF.1 this
   refine Z9 hs (x:=.slice (some a) 0 0) (run g (.inr (Zs _)) ?_) (by simp[Ym]);simp[app,hf.run w rfl,hv,storeCells]
  ·rw[Yl] at h0
   rw[Xb] at hfit;have h0:n≠0:=of_decide_eq_false h0;have hfit:n*i.bytes<=140737488355328:=Zr hfit;obtain⟨k,rest,k1,k2,k3⟩:=Cq (P:=P) (w:=w) (e:=e) (i:=i) (z:=z) (base:=some a) (sLen:=0) (sCap:=0) (n:=n) (vo:=[]) (vn:=vs) NX (by omega) (λw' _=>by simp only[Builtin.firstCells,Vl];rfl) hf.run;rw[Zl] at k1;exact KT hs (run g (.inl (by rw[Zl];exact hfit)) k1) hf.rel hf.one k3 hsz hf.len (by rw[k2,PS])
 ·rw[hx] at g
  have g:x=.slice none 0 0:=by simpa only[Ym] using g
  refine UP (λh0=>?_) λh0=>Yi λhfit=>?_
  ·rw[Yl] at h0
   have h0:n=0:=Zr h0;subst h0;refine Z9 hs (x:=.slice none 0 0) (run g (.inr (Zs _)) ?_) (by simp[Ym]);simp[app,hf.run w rfl]
  ·rw[Yl] at h0
   rw[Xb] at hfit;have h0:n≠0:=of_decide_eq_false h0;have hfit:n*i.bytes<=140737488355328:=Zr hfit;obtain⟨k,rest,k1,k2,k3⟩:=Cq (P:=P) (w:=w) (e:=e) (i:=i) (z:=z) (base:=none) (sLen:=0) (sCap:=0) (n:=n) (vo:=[]) (vn:=vs) NX (by omega) (λw' _=>by rfl) hf.run;rw[Zl] at k1;exact KT hs (run g (.inl (by rw[Zl];exact hfit)) k1) hf.rel hf.one k3 hsz hf.len (by rw[k2,PS])
 ·rw[hx] at g
  have g0:=g;obtain⟨l,hl,e1⟩:=Ui g;refine TF λr hr=>Yi λZll=>?_;obtain⟨cs',fr,hc,hrr⟩:=hs.row hr hl;have hcap:=Bp hrr off cap;refine UP (λhin=>?_) λhout=>?_
  ·rw[Xb] at hin
   have hin:len+n<=Wa r off cap:=Zr hin;have hin':len+n<=cap.getD (l.tot - off/l.sz):=Yb hin hcap;refine UP (λh0=>?_) λh0=>Yi λS5=>Yi λhle=>Yi λhfz=>?_
   ·rw[Yl] at h0
    have h0:n=0:=Zr h0;subst h0;have hv:vs=[]:=by have:=hf.len;rw[Vl] at this;exact YF.1 this
    refine Z9 hs (x:=x) (run e1 (.inr hin') ?_) (by rw[hx];exact g0);simp only[app,if_pos hin',Sem.run_bind,hf.run w rfl,Result.andThen_ok,hv];rw[e1];simp[storeCells]
   ·rw[Xb] at hle hfz
    have hle:off+(len+n)*i.size<=r.size:=Zr hle;have hfz:r.fz<=off+len*i.size:=Zr hfz;obtain⟨w',hrun,htr⟩:=J7 hs hr hl S5 hf.rel hf.one (o:=off+len*i.size) (by rw[hf.len];rw[WR] at hle;omega) hfz;refine VZ htr (run e1 (.inr hin') ?_) (Rw hl);simp only[app,if_pos hin',Sem.run_bind,hf.run w rfl,Result.andThen_ok,Qf];rw[XT,hrun];rfl
  ·rw[Xb] at hout
   have hout: ¬(len+n<=Wa r off cap):=of_decide_eq_false hout;refine Yi λhfit=>Yi λhle=>?_;rw[Xb] at hfit hle;have hfit:(len+n)*i.bytes<=140737488355328:=Zr hfit;have hle:off+len*i.size<=r.size:=Zr hle;obtain⟨vo,o2,o3,o4,o5⟩:=P1 hrr (len*i.size) off hle;have hfo: ∀c,∀w':World,w'.heap=w.heap->(Builtin.firstCells i.size len (.slice (some ⟨l.blk,l.base+off,none⟩) len c)).run P w'=.ok ⟨vo⟩ w':=by
    intro c w' hw;have hc':w'.heap[l.blk]? =some (.cells cs' r.elem fr):=by rw[hw];exact hc
    have:=Ry (P:=P) hc' vo (o:=l.base+off) o4;rw[o3] at this;exact this
   have grown: ¬(len+n<=cap.getD (l.tot - off/l.sz))->Xa P σ H w q (.val (.slice H.nx 0 (len+n) none) (H.newRow e i.size (Vw r off (len*i.size)++as) false)):=by
    intro hg;obtain⟨k,rest,k1,k2,k3⟩:=Cq (P:=P) (w:=w) (e:=e) (i:=i) (z:=z) NX hg (hfo _) hf.run;refine KT hs (run e1 (.inl hfit) k1) (o2.append hf.rel) (λv hv=>?_) k3 hsz (by rw[Zh,o3,hf.len,WR]) (by rw[k2,PS]);rcases Zt.1 hv with hv|hv
    ·exact o5 v hv
    ·exact hf.one v hv
   cases cap with
   |some c=>exact grown hout
   |none=>
    have Zlm:r.sz=i.size:=by
     have:Nat.beq r.sz i.size=true:=Zll;rw[Yl] at this;exact Zr this
    refine UP (λhex=>Yi λhmod=>?_) λhex=>?_
    ·rw[Yl] at hmod
     have hmod:off % i.size=0:=Zr hmod;refine grown ?_;rw[E8 hrr hex (by rw[hrr.sz,Zlm];exact hmod)] at hout;exact hout
    ·refine Yi λhel=>Yi λS5=>Yi λhfz=>Yi λhsize=>Yi λh0=>?_
     rw[Yl] at hel hsize h0;rw[Xb] at hfz;have hel:r.elem=e:=Zr hel;have hsize:len*i.size=r.size:=Zr hsize;have h0:off=0:=Zr h0;have hfz:r.fz<=len*i.size:=Zr hfz;subst h0;obtain⟨hwr,hown⟩:=Wr.of_may S5 hr;have ZdK:l.sz=i.size:=by rw[hrr.sz,Zlm]
     have hal:as.length=n*i.size:=by rw[hf.rel.length];exact hf.len
     have hvl:=hf.len;have hsum:(len+n)*i.size=len*i.size+n*i.size:=WR _ _ _;have hcell:=λj (hj:j<len*i.size+as.length)=>lH r i.size ((len+n)*i.size) (len*i.size) as hj
     by_cases hin:len+n<=l.tot
     ·have hin':len+n<=(none:Option Nat).getD (l.tot - 0/l.sz):=by rw[Q4];exact hin
      have hmul:(len+n)*i.size<=l.tot*i.size:=Ub _ hin;have q1:=hrr.room;rw[ZdK] at q1;obtain⟨w',hrun,hw⟩:=O4 (P:=P) (o:=l.base+len*i.size) vs 0 w cs' hc (by omega) hf.one (λj hj=>by
       have:=hrr.frz hown (len*i.size+j) (by omega) (by rw[ZdK];omega)
       rwa [show l.base+len*i.size+0+j=l.base+(len*i.size+j) by omega])
      refine VZ (Tr.move hs hr hl hwr hw.size hw.new hw.old ⟨_,fr,rfl,?_⟩ hw.tape hw.os hw.out) (run e1 (.inr hin') ?_) (by simp only[Ym];exact⟨l,Mp.put_same _ _ _,rfl⟩)
      ·have ext:=Mp.put_ext l (hs.fresh (Zs H.nx))
       refine⟨ZdK,by omega,by rw[ZdK];exact hmul,by rw[Oe];exact hrr.room,(λh=>by cases h),?_,?_,λ_=>hrr.frz hown,λ_=>hrr.frs hown⟩
       ·intro j hj
        have hj:j<(len+n)*i.size:=hj;show ∃v,_∧Ym _ ((⟨r.elem,i.size,(len+n)*i.size,XV r.cells (len*i.size) as,r.dflt,r.fz,r.sm,true,false⟩:Row).get j) v;rw[Po _ _ _ _ (by omega)];rcases hcell j (by omega) with⟨h1,h2⟩|⟨a,h1,h2,h3⟩
        ·rw[h2,if_neg (by omega)]
         obtain⟨v,hv,hrel⟩:=hrr.cell j (by omega);exact⟨v,hv,hrel.mono ext⟩
        ·obtain⟨v,hv,hrel⟩:=hf.rel.get h2
         rw[h3,if_pos (by omega)];refine⟨v,?_,hrel.mono ext⟩;rw[show l.base+j - (l.base+len*i.size+0)=j - len*i.size by omega];exact hv
       ·intro j v hj hv
        have hj:j<(len+n)*i.size:=hj;rw[Po _ _ _ _ (by omega)] at hv
        split at hv
        ·exact hf.one v (Vt hv)
        ·exact hrr.one j v (by omega) hv
      ·simp only[app,if_pos hin',Sem.run_bind,hf.run w rfl,Result.andThen_ok,Qf]
       rw[Zo,hrun];rfl
     ·have hg: ¬(len+n<=(none:Option Nat).getD (l.tot - 0/l.sz)):=by rw[Q4];exact hin
      obtain⟨k,rest,k1,k2,k3⟩:=Cq (P:=P) (w:=w) (e:=e) (i:=i) (z:=z) NX hg (hfo _) hf.run;have td:=Tr.del (P:=P) (b:=b) hs.drew hl hwr.1;refine VZ (((Tr.drew hs).trans td).trans (Tr.alloc td.sim (.row ⟨r.elem,i.size,(len+n)*i.size,XV r.cells (len*i.size) as,r.dflt,r.fz,r.sm,true,false⟩) _ ⟨w.heap.size,0,len+n+k,i.size⟩ rfl ⟨_,(0,0),by rw[hel],?_⟩)) (run e1 (.inl hfit) k1) (SL (l:=⟨w.heap.size,0,len+n+k,i.size⟩) rfl);have ext:=Mp.put_ext ⟨w.heap.size,0,len+n+k,i.size⟩ (hs.fresh (Zs H.nx));rw[PS] at k2;have Zf6:(len+n+k)*i.size=(len+n)*i.size+k*i.size:=WR _ _ _;refine⟨rfl,hsz,by rw[Zf6];exact Nat.le_add_right _ _,?_,(λh=>by cases h),?_,?_,?_,λ_ _=>.inl rfl⟩
      ·simp only[List.size_toArray,Zh,o3,hvl,k2]
       rw[Zf6];omega
      ·intro j hj
       have hj:j<(len+n)*i.size:=hj;simp only[Zl,X3];rcases hcell j (by omega) with⟨h1,h2⟩|⟨a,h1,h2,h3⟩
       ·rw[h2]
        obtain⟨v,hv,hrel⟩:=o2.get (Sp r (len*i.size) 0 j h1);rw[Zl] at hrel;refine⟨v,?_,hrel.mono ext⟩;rw[ZW (by rw[Zh];omega),ZW (by omega)];exact hv
       ·obtain⟨v,hv,hrel⟩:=hf.rel.get h2
        rw[h3];refine⟨v,?_,hrel.mono ext⟩;rw[ZW (by rw[Zh];omega),Z0 (by omega),o3];exact hv
      ·intro j v _ hv
       simp only[Zl,X3] at hv;have:=Vt hv;rcases Zt.1 this with h|h
       ·rcases Zt.1 h with h|h
        ·exact o5 v h
        ·exact hf.one v h
       ·exact k3 v h
      ·intro _ j _ _
       simp only;omega
def eU(hs:WW P σ H w)(hρ:RG P σ tm ρ){o:Oper}{xs:List Operand}{ts:List TypeId}(ho:o.op=.call ⟨.builtin .append,⟨xs⟩,⟨ts⟩⟩):XI P σ H w tm ρ o:=by
 refine UT ho λcs=>?_;rcases xs with _|⟨x,_|⟨y,_|⟨_,_⟩⟩⟩<;>try exact trivial
 rcases ts with _|⟨t,_|⟨t2,_|⟨_,_⟩⟩⟩<;>try exact trivial
 refine Xm λd hu=>Oq λe hd=>XW λi hi=>Uu λz hz=>WY (λhzl=>Xm λd2 hu2=>?_) λ_=>T3;subst hd;have happ: ∀{n:Nat} {news:Sem (Array Value)} {as:List AV} {vs:List Value} (_:1<=i.size) (hf:Zj7 P σ w i.size n news as vs)
   (h: ∀{base:Option Addr} {sLen sCap:Nat},ρ x=.slice base sLen sCap->((sLen+n)*i.bytes<=140737488355328∨sLen+n<=sCap)->(Builtin.append_ ⟨[t,t2]⟩ o.type ⟨[.slice base sLen sCap,ρ y]⟩).run P w=(app e i z base sLen sCap n news).run P w),
   Xa P σ H w ((builtin .append ⟨[t,t2]⟩ o.type cs ⟨[ρ x,ρ y]⟩).run P w) (Oh (YZ P x tm) e i.size i.bytes H n as):=by
  intro n news as vs hsz hf h;rw[Yl,Yw] at hzl;have hzl:(WO z).cells.length=i.size:=Zr hzl;obtain⟨hzr,NX⟩:=Sv (σ:=σ) z (by omega);have PS:z.cells.size=i.size:=by rw[<-hzl,hzr.length];simp
  refine fq hs (hρ x) hsz NX PS hf λ{base sLen sCap v w'} e1 e2 e3=>Vn ?_;rw[e1];exact(h e1 e2).trans e3
 have hd2:(∃k,d2=.int k)∨ ∀k,d2≠.int k:=by
  cases d2<;>first
   |exact .inl ⟨_,rfl⟩
   |exact .inr (λk h=>by cases h)
 rcases hd2 with⟨k,rfl⟩|hd2
 ·refine Yi λhsz=>Yi λhb=>SQ λk' n hy=>Yi λhn=>?_
  rw[Xb] at hsz hb hn;have hsz:1<=i.size:=Zr hsz;have hb:1<=i.bytes:=Zr hb;have hn:n*i.bytes<=140737488355328:=Zr hn;have hy2:ρ y=.int k' (n:Nat):=by
   have:=hρ y;rw[hy] at this;have this:ρ y=.int k' (Int.ofNat n):=by simpa only[Ym] using this
   rw[this];rfl
  rw[Yl,Yw] at hzl;have Zlo:(WO z).cells.length=i.size:=Zr hzl;obtain⟨hzr,NX⟩:=Sv (σ:=σ) z (by omega);have PS:z.cells.size=i.size:=by rw[<-Zlo,hzr.length];simp
  refine happ (vs:=(Builtin.zeroCells z.cells n).toList) (news:=jU i z n) hsz ⟨?_,(QU NX n).2,by simpa [PS] using (QU NX n).1,λw' _=>?_⟩ λ{base sLen sCap} e1 e2=>?_
  ·have:=(Ie (σ:=σ) hzr (λv hv=>NX v hv) (by omega) n).1
   rw[Zlo,<-PS] at this;exact this
  ·unfold jU
   split
   ·next h0=>
    have:Builtin.zeroCells z.cells n= #[]:=by
     apply Array.ext';have:=(QU NX n).1;rw[PS,h0] at this;exact YF.1 (by simpa using this)
    simp[this]
   ·simp
  ·rw[hy2]
   exact ZbS hu hu2 hi hz hb hn e2
 have hno:iL (Oy (YZ P x) (YZ P y) e i.size i.bytes (WO z).cells) (WM (YZ P x) (YZ P y) e i.size i.bytes) d2=WM (YZ P x) (YZ P y) e i.size i.bytes:=by
  cases d2<;>first|rfl|exact absurd rfl (hd2 _)
 rw[hno];refine Yi λhsz=>Yi λhb=>yV λn hn=>Iz hs (hρ y) hn (Zs _) λas vs hf=>?_;rw[Xb] at hsz hb;have hsz:1<=i.size:=Zr hsz;have hb:1<=i.bytes:=Zr hb;have hlenOf:=wF (P:=P) hn (hρ y) w;exact happ hsz ⟨hf.rel,hf.one,hf.len,hf.run⟩ λe1 e2=>Ze5 hu hu2 hd2 hi hz hlenOf hb e2
def Zbh(hs:WW P σ H w)(hρ:RG P σ tm ρ){o:Oper}{xs:List Operand}{ts:List TypeId}(ho:o.op=.call ⟨.builtin .clear,⟨xs⟩,⟨ts⟩⟩):XI P σ H w tm ρ o:=by
 refine UT ho λcs=>?_;rcases xs with _|⟨x,_|⟨_,_⟩⟩<;>try exact trivial
 rcases ts with _|⟨t,_|⟨_,_⟩⟩<;>try exact trivial
 refine Xm λd hu=>Oq λe hd=>XW λi hi=>Uu λz hz=>WY (λhzl=>Yi λhsz=>?_) λ_=>T3;subst hd;rw[Xb] at hsz;rw[Yl,Yw] at hzl;have hsz:1<=i.size:=Zr hsz;have hzl:(WO z).cells.length=i.size:=Zr hzl;obtain⟨hzr,NX⟩:=Sv (σ:=σ) z (by omega);have PS:z.cells.size=i.size:=by rw[<-hzl,hzr.length];simp
 have hzv:(zeroValue e).run P w=.ok z w:=TX hi hz;have g:=hρ x;have none_: ∀a cp,ρ x=.slice a 0 cp->(Builtin.clear_ ⟨[t]⟩ o.type ⟨[ρ x]⟩).run P w=.ok (.tuple #[]) w:=by
  intro a cp e1;rw[e1];cases a<;>simp[Builtin.clear_,run_underlying hu]
 have Zfk:Ym σ (.tup []) (.tuple #[]):=by simp[Ym,YR]
 refine KW (λhx=>?_) (T9 (λhx=>?_) λb off n c hx=>Om (UP (λh0=>?_) λh0=>TF λr hr=>Yi λS5=>Yi λhfz=>Yi λhle=>?_))
 ·rw[hx] at g
  obtain⟨a,g⟩: ∃a,ρ x=.slice (some a) 0 0:=by simpa only[Ym] using g
  exact Z9 hs (x:=.tuple #[]) (Vn (none_ _ _ g)) Zfk
 ·rw[hx] at g
  have g:ρ x=.slice none 0 0:=by simpa only[Ym] using g
  exact Z9 hs (x:=.tuple #[]) (Vn (none_ _ _ g)) Zfk
 ·rw[hx] at g
  obtain⟨l,hl,e1⟩:=Ui g;rw[Yl] at h0;have h0:n=0:=Zr h0;subst h0;exact Z9 hs (x:=.tuple #[]) (Vn (none_ _ _ e1)) Zfk
 ·rw[hx] at g
  obtain⟨l,hl,e1⟩:=Ui g;rw[Xb] at hfz hle;rw[Yl] at h0;have h0: ¬n=0:=of_decide_eq_false h0;have hfz:r.fz<=off:=Zr hfz;have hle:off+n*i.size<=r.size:=Zr hle;have hrel:YR σ (List.replicate n (WO z).cells).flatten (Builtin.zeroCells z.cells n).toList:=by
   have:=(Ie (σ:=σ) hzr (λv hv=>NX v hv) (by omega) n).1;rw[hzl,<-PS] at this;exact this
  have hlen:(Builtin.zeroCells z.cells n).toList.length=n*i.size:=by have:=(QU NX n).1;rw[PS] at this;simpa using this
  obtain⟨w',hrun,htr⟩:=J7 hs hr hl S5 hrel (QU NX n).2 (o:=off) (by rw[hlen];exact hle) hfz;refine VZ htr (x:=.tuple #[]) ?_ Zfk;refine Vn ?_;obtain⟨m,rfl⟩: ∃m,n=m+1:=⟨n - 1,by omega⟩;show(Builtin.clear_ ⟨[t]⟩ o.type ⟨[ρ x]⟩).run P w=_;rw[e1];simp[Builtin.clear_,run_underlying hu,hzv,hrun]
def mm(mx:Bool):Value->Value->Sem Value:=if mx then Builtin.max2 else Builtin.min2
theorem yW{r:Result Next}(hs:WW P σ H w){mx:Bool}{k:IntKind}: ∀(as:List AV) (vs:List Value) (a:Int),YR σ as vs->
  (∀v,(vs.foldlM (mm mx) (.int k a):Sem Value).run P w=.ok v w->r=.ok (.value v) w)->Xa P σ H w r (min2 mx k a H as)
 |[],vs,a,h,g=>by
  rw[h.nil_inv] at g;exact Z9 hs (x:=.int k a) (g _ rfl) (by simp[Ym])
 |x::as,vs,a,h,g=>by
  obtain⟨v,vs',h1,h2,rfl⟩:=h.cons_inv;unfold min2
  split
  ·rename_i j b
   refine Yi λhk=>?_;have:=Rq hk;subst this;have h1:=XX h1;subst h1;refine yW hs as vs' _ h2 λv hv=>g v ?_;rw[List.foldlM_cons];cases mx with
   |true=>
    simp only[mm,if_true,Builtin.max2,Sem.run_bind,Sem.run_pure,Result.andThen_ok];rw[<-hv]
    congr 2
    by_cases hh:a<b
    ·simp[hh,MN]
    ·simp[hh,MN]
   |false=>
    simp only[mm,Xp,if_false,Builtin.min2,Sem.run_bind,Sem.run_pure,Result.andThen_ok];rw[<-hv]
    congr 2
    by_cases hh:b<a
    ·simp[hh,MN]
    ·simp[hh,MN]
  ·trivial
def xV(hs:WW P σ H w)(hρ:RG P σ tm ρ){o:Oper}{mx:Bool}{xs:List Operand}{ts:List TypeId}(ho:o.op=.call ⟨.builtin (if mx then .max else .min),⟨xs⟩,⟨ts⟩⟩):XI P σ H w tm ρ o:=by
 refine UT ho λcs=>?_;have key: ∀r,(∀v,(match xs.map ρ with|[]=>.halt (.stuck "")|x::rest=>rest.foldlM (mm mx) x:Sem Value).run P w=.ok v w->r=.ok (.value v) w)->Xa P σ H w r (SJ mx (xs.map (YZ P)) tm H):=by
  intro r hrr;unfold SJ;have hr:=Jk hρ xs
  split
  ·rename_i k a l he
   rw[he] at hr;obtain⟨v,vs,h1,h2,h3⟩:=hr.cons_inv;have h1:=XX h1;subst h1;exact yW hs l vs a h2 λv hv=>hrr v (by rw[h3];exact hv)
  ·trivial
 cases mx with
 |true=>
  refine key _ λv hv=>Vn (s:=Builtin.max_ ⟨ts⟩ o.type ⟨xs.map ρ⟩) ?_;simp only[Builtin.max_];cases hl:xs.map ρ with
  |nil=>rw[hl] at hv;cases hv
  |cons x l=>rw[hl] at hv;exact hv
 |false=>
  refine key _ λv hv=>Vn (s:=Builtin.min_ ⟨ts⟩ o.type ⟨xs.map ρ⟩) ?_;simp only[Builtin.min_];cases hl:xs.map ρ with
  |nil=>rw[hl] at hv;cases hv
  |cons x l=>rw[hl] at hv;exact hv
theorem IM{g:Nat}{cs:Array Value}{t:TypeId}{fr:Nat×Nat}(h:w.heap[g]? =some (.cells cs t fr)): ∀(ns:List Int) (o:Nat) (acc:ByteArray),
  (∀(j:Nat) (v:Value),(ns.map (Value.int .u8))[j]? =some v->cs[o+j]? =some v)->(loadBytes ⟨g,o,none⟩ acc ns.length).run P w=.ok (ns.foldl (λr n=>r.push (UInt8.ofNat n.toNat)) acc) w
 |[],o,acc,_=>rfl
 |n::ns,o,acc,hv=>by
  have h0:=hv 0 (.int .u8 n) rfl;simp only[ZL,loadBytes,Sem.run_bind,run_load,Lt h,Zo] at h0 ⊢;rw[h0];simp only[Result.andThen_ok,Qf];exact IM h ns (o+1) _ λj v hj=>by
   have:=hv (j+1) v (by simpa using hj);rw[<-this];congr 1;omega
def vP{w:World}{g o n:Nat}{cs:Array Value}{t:TypeId}{fr:Nat×Nat}(h:w.heap[g]? =some (.cells cs t fr))(hn:n≠0):
  yk w (w.freeze ⟨g,o,none⟩ n) g (.cells cs t (if fr.1=fr.2 then(o,o+n) else(min fr.1 o,max fr.2 (o+n)))):=by
 obtain⟨a,b⟩:=fr;refine⟨by simp[World.freeze,hn],?_,λk hk=>?_,by simp[World.freeze,hn],by simp[World.freeze,hn],by simp[World.freeze,hn]⟩
 ·simp only[World.freeze,hn,if_false,Wl]
  rw[h];simp
 ·simp only[World.freeze,hn,if_false,Wl]
  rw[if_neg (λe=>hk e.symm)]
def wC(k:IntKind)(n:Int):(asInt (.int k n)).run P w=.ok n w:=rfl
def cz(pt ty:TypeId)(rest:List TypeId)(k:IntKind)(p:Option Addr):(Builtin.unsafeString_ ⟨pt::rest⟩ ty #[.pointer p,.int k 0]).run P w=.ok (.string .empty) w:=by
 show((asInt (.int k 0))>>=_:Sem Value).run P w=_;rw[Sem.run_bind,wC];cases p<;>rfl
def cy{pt ty e:TypeId}(rest:List TypeId){k:IntKind}{n:Nat}{a:Addr}{s:ByteArray}(hu:P.underlying pt=some (.pointer e))(h0:n≠0)(hn:n<=140737488355328)
  (hv:(variablesAt a e n).run P w=.ok true w)(hl:(loadBytes a .empty n).run P w=.ok s w):
  (Builtin.unsafeString_ ⟨pt::rest⟩ ty #[.pointer (some a),.int k (n:Int)]).run P w=.ok (.string s) (w.freeze a n):=by
 show((asInt (.int k (n:Int)))>>=_:Sem Value).run P w=_;have p1: ¬((n:Int)<0):=by omega
 have p2: ¬((n:Int)>IntKind.i64.max):=by
  have:IntKind.i64.max=9223372036854775807:=by decide
  omega
 have p3: ¬((n:Int)=0):=by omega
 rw[Sem.run_bind,wC];simp only[Result.andThen_ok,X3,Uf,p1,if_false,p2,p3,Sem.run_bind,elemOf,run_underlying hu,Sem.run_pure,VP,hv,if_true,hl,run_freeze]
def ZeM(hs:WW P σ H w)(hρ:RG P σ tm ρ){o:Oper}{xs:List Operand}{ts:List TypeId}(ho:o.op=.call ⟨.builtin .unsafeString,⟨xs⟩,⟨ts⟩⟩):XI P σ H w tm ρ o:=by
 refine UT ho λcs=>?_;rcases xs with _|⟨x,_|⟨y,_|⟨_,_⟩⟩⟩<;>try exact trivial
 rcases ts with _|⟨t,_|⟨t2,_|⟨_,_⟩⟩⟩<;>try exact trivial
 refine Xm λd hu=>fw λe hd=>XW λi hi=>WY (λhsz=>?_) λ_=>T3;subst hd;rw[Yl] at hsz;have hsz:i.size=1:=Zr hsz;refine SQ λk n hn=>?_;have g1:=hρ x;have g2:=hρ y;rw[hn] at g2;have g2:=XX g2;refine UP (λh0=>?_) λh0=>Yi λhmax=>On λb off hx=>TF λr hr=>Yi λhel=>Yi λS5=>Yi λhle=>?_
 ·rw[Yl] at h0
  have h0:n=0:=Zr h0;subst h0;have fin: ∀p,ρ x=.pointer p->Xa P σ H w ((builtin .unsafeString ⟨[t,t2]⟩ o.type cs ⟨[ρ x,ρ y]⟩).run P w) (.val (.str []) H):=by
   intro p e1;refine Z9 hs (x:=.string .empty) ?_ (by simp only[Ym];rfl);refine Vn (s:=Builtin.unsafeString_ ⟨[t,t2]⟩ o.type #[ρ x,ρ y]) ?_;rw[e1,g2];exact cz _ _ _ _ _
  split
  ·rename_i hx
   rw[hx] at g1;exact fin none (by simpa only[Ym] using g1)
  ·rename_i b off hx
   rw[hx] at g1;obtain⟨l,_,e1⟩:=TK g1;exact fin _ e1
  ·trivial
 ·rw[hx] at g1
  obtain⟨l,hl,e1⟩:=TK g1;obtain⟨cs',fr,hc,hrr⟩:=hs.row hr hl;have xf:r.sm=false∧H.may r b=true:=by
   cases hsm:r.sm with
   |true=>rw[hsm] at S5;cases S5
   |false=>rw[hsm] at S5;exact⟨rfl,S5⟩
  obtain⟨hwr,hown⟩:=Wr.of_may xf.2 hr;rw[Yl] at h0 hel;rw[Xb] at hmax hle;have h0:n≠0:=of_decide_eq_false h0;have hel:r.elem=e:=Zr hel;have hmax:n<=140737488355328:=Zr hmax;have hle:off+n<=r.size:=Zr hle;have q1:=hrr.fits;have q2:=hrr.room;obtain⟨vs,h2,h3,h4,h5⟩:=P1 hrr n off hle;refine LC _ vs h2 λns hns=>?_;subst hns;have hnl:ns.length=n:=by simpa using h3
  have hcell:P.cellsOf e=1:=by simp[Program.cellsOf,hi,hsz]
  have hw:=vP (o:=l.base+off) (n:=n) hc h0;refine VZ (Tr.write hs hr hl hwr hw.size hw.new hw.old ⟨_,_,rfl,?_⟩ hw.tape hw.os hw.out) (x:=.string ⟨(ns.map tR).toArray⟩) ?_ (by simp[Ym])
  ·have hfz:(cond (Nat.ble r.fz (Nat.add off n)) (Nat.add off n) r.fz)=max r.fz (off+n):=by
    rw[Xb];show cond _ (off+n) r.fz=_
    by_cases hh:r.fz<=off+n
    ·rw[show decide (r.fz<=Nat.add off n)=true from Zi hh];simp only[cond_true];omega
    ·rw[show decide (r.fz<=Nat.add off n)=false from Zc hh];simp only[cond_false];omega
   rw[hfz];refine⟨hrr.sz,hrr.sz1,hrr.fits,hrr.room,hrr.exact,hrr.cell,hrr.one,?_,?_⟩
   ·intro _ j hj hj2
    have hj:max r.fz (off+n)<=j:=hj;have:=hrr.frs hown xf.1
    split
    ·simp only;omega
    ·simp only;omega
   ·intro _ _
    have:=hrr.frs hown xf.1;right
    split
    ·simp only;omega
    ·simp only;omega
  ·refine Vn (s:=Builtin.unsafeString_ ⟨[t,t2]⟩ o.type #[ρ x,ρ y]) ?_
   rw[e1,g2];have hsh:=FM hc;have hlies:liesAt P P.depth r.elem (cs'.size/P.cellsOf r.elem) (l.base+off) e n=true:=by
    rw[hel];refine jJ (by omega) (by rw[hcell];omega) ?_;rw[hcell,QG,QG];omega
   have hld:=IM (P:=P) hc ns (l.base+off) .empty h4;rw[hnl,Eh] at hld;exact cy _ hu h0 hmax (by simp only[variablesAt,Sem.run_bind,run_program,Result.andThen_ok,run_shape,hsh,hlies,Sem.run_pure]) (by simpa using hld)
def Gn(P:Program)(σ:Mp)(D:Nat)(t:Nat)(f:AV->AV->Option Bool):Prop:=
 ∀(a b:AV) (x y:Value) (r:Bool) (w:World),Ym σ a x->Ym σ b y->f a b=some r->(Op.equalIn D t x y).run P w=.ok r w
def bZ{t D:Nat}(hu:P.underlying t=some .bool):Gn P σ (D+1) t gX:=by
 intro a b x y r w ha hb h;unfold gX at h
 split at h
 ·cases h
  rw[T7 ha,T7 hb,run_equalIn_bool w D t _ _ hu];rename_i p q;cases p<;>cases q<;>rfl
 ·cases h
def ZhM{t D:Nat}{k':IntKind}(hu:P.underlying t=some (.int k')):Gn P σ (D+1) t WX:=by
 intro a b x y r w ha hb h;unfold WX at h
 split at h
 ·rename_i j p k q
  cases hk:PV j k with
  |false=>rw[hk] at h;cases h
  |true=>
   rw[hk] at h;have:=Rq hk;subst this;cases h;rw[XX ha,XX hb,run_equalIn_int w D t _ _ _ _ hu,Pc]
 ·cases h
def ZhN{t D:Nat}(hu:P.underlying t=some .string):Gn P σ (D+1) t QJ:=by
 intro a b x y r w ha hb h;unfold QJ at h
 split at h
 ·cases h
  rw[Uy ha,Uy hb,run_equalIn_string w D t _ _ hu,SZ,Ic,Ic]
 ·cases h
def Lg{v:Value}(h:Ym σ .nilp v):v=.pointer none:=by simpa [Ym] using h
def Ph{v:Value}(h:Ym σ .nils v):v=.slice none 0 0:=by simpa [Ym] using h
def OF{v:Value}(h:Ym σ .nilm v):v=.map none:=by simpa [Ym] using h
def Lf{v:Value}(h:Ym σ .nilf v):v=.nilFunc:=by simpa [Ym] using h
def Pg{v:Value}(h:Ym σ .nili v):v=.nilIface:=by simpa [Ym] using h
def J5{b:Nat}{v:Value}(h:Ym σ (.map b) v): ∃l,σ b=some l∧v=.map (some l.blk):=by simpa only[Ym] using h
def Mb{f:Nat}{a b:List AV}{v:Value}(h:Ym σ (.func f a b) v): ∃x y,YR σ a x∧YR σ b y∧v=.func (.func f) ⟨x⟩ ⟨y⟩:=by simpa only[Ym] using h
def TW{t:Nat}{a:AV}{v:Value}(h:Ym σ (.iface t a) v): ∃x,Ym σ a x∧v=.iface t x:=by simpa only[Ym] using h
def LV{cs:List AV}{v:Value}(h:Ym σ (.agg cs) v): ∃vs,YR σ cs vs∧(∀x∈vs,x.oneCell'=true)∧v=.agg ⟨vs⟩:=by simpa only[Ym] using h
def am{t D e:Nat}{i:TypeInfo}(hu:P.underlying t=some (.pointer e))(hi:P.info? e=some i)(h0:i.size≠0):Gn P σ (D+1) t zT:=by
 intro a b x y r w ha hb h;unfold zT at h
 split at h
 ·cases h;rw[Lg ha,Lg hb];simp[Op.equalIn,run_underlying hu]
 ·cases h;obtain⟨l,_,e1⟩:=TK hb;rw[Lg ha,e1];simp[Op.equalIn,run_underlying hu]
 ·cases h;obtain⟨l,_,e1⟩:=TK ha;rw[Lg hb,e1];simp[Op.equalIn,run_underlying hu]
 ·rename_i b o c p
  rw[Yl,Yl] at h
  by_cases hbc:b=c
  ·subst hbc
   rw[Zi rfl] at h;cases h;obtain⟨l,hl,e1⟩:=TK ha;obtain⟨l2,hl2,e2⟩:=TK hb;rw[hl] at hl2;cases hl2;rw[e1,e2];simp only[Op.equalIn,Sem.run_bind,run_underlying hu,Result.andThen_ok,WV hi,sameAddr];rw[if_pos h0];simp only[beq_self_eq_true,if_true,Sem.run_pure,Result.ok.injEq,and_true]
   by_cases hop:o=p
   ·subst hop;simp
   ·rw[Zc hop]
    rw[beq_eq_false_iff_ne];intro he;have:=congrArg Addr.off he;simp only at this;omega
  ·rw[Zc hbc] at h;cases h
 ·cases h
def ah{t D e:Nat}(hu:P.underlying t=some (.slice e)):Gn P σ (D+1) t kV:=by
 intro a b x y r w ha hb h;unfold kV at h
 split at h
 ·cases h;rw[Ph ha,Ph hb];simp[Op.equalIn,run_underlying hu]
 ·cases h;obtain⟨l,_,e1⟩:=Ui hb;rw[Ph ha,e1];simp[Op.equalIn,run_underlying hu]
 ·cases h;obtain⟨l,_,e1⟩:=Ui ha;rw[Ph hb,e1];simp[Op.equalIn,run_underlying hu]
 ·cases h;obtain⟨l,e1⟩:=(by simpa only[Ym] using hb: ∃a,y=.slice (some a) 0 0);rw[Ph ha,e1];simp[Op.equalIn,run_underlying hu]
 ·cases h;obtain⟨l,e1⟩:=(by simpa only[Ym] using ha: ∃a,x=.slice (some a) 0 0);rw[Ph hb,e1];simp[Op.equalIn,run_underlying hu]
 ·cases h
def ai{t D k e:Nat}(hu:P.underlying t=some (.map k e)):Gn P σ (D+1) t eqM:=by
 intro a b x y r w ha hb h;unfold eqM at h
 split at h
 ·cases h;rw[OF ha,OF hb];simp[Op.equalIn,run_underlying hu]
 ·cases h;obtain⟨l,_,e1⟩:=J5 hb;rw[OF ha,e1];simp[Op.equalIn,run_underlying hu]
 ·cases h;obtain⟨l,_,e1⟩:=J5 ha;rw[OF hb,e1];simp[Op.equalIn,run_underlying hu]
 ·cases h
def aj{t D:Nat}{p q:Array TypeId}{v:Bool}(hu:P.underlying t=some (.func p q v)):Gn P σ (D+1) t eqN:=by
 intro a b x y r w ha hb h;unfold eqN at h
 split at h
 ·cases h;rw[Lf ha,Lf hb];simp[Op.equalIn,run_underlying hu]
 ·cases h;obtain⟨_,_,_,_,e1⟩:=Mb hb;rw[Lf ha,e1];simp[Op.equalIn,run_underlying hu]
 ·cases h;obtain⟨_,_,_,_,e1⟩:=Mb ha;rw[Lf hb,e1];simp[Op.equalIn,run_underlying hu]
 ·cases h
def af{t D:Nat}{ms:Array (String×TypeId)}{lit:Bool}{g:Nat->AV->AV->Option Bool}(hu:P.underlying t=some (.interface ms))(hg: ∀t,Gn P σ D t (g t)):Gn P σ (D+1) t (zS lit (vK P g)):=by
 intro a b x y r w ha hb h;unfold zS at h
 split at h
 ·cases lit
  ·cases h
  ·cases h;rw[Pg ha,Pg hb];simp[Op.equalIn,run_underlying hu]
 ·cases h;obtain⟨_,_,e1⟩:=TW hb;rw[Pg ha,e1];simp[Op.equalIn,run_underlying hu]
 ·cases h;obtain⟨_,_,e1⟩:=TW ha;rw[Pg hb,e1];simp[Op.equalIn,run_underlying hu]
 ·rename_i t1 v1 t2 v2
  obtain⟨x1,h1,e1⟩:=TW ha;obtain⟨y1,h2,e2⟩:=TW hb;rw[e1,e2];rw[Yl] at h
  by_cases ht:t1=t2
  ·subst ht
   rw[Zi rfl] at h;have h:vK P g t1 v1 v2=some r:=h;unfold vK at h
   split at h
   ·rename_i i hi
    cases hc:i.comparable with
    |false=>rw[hc] at h;cases h
    |true=>
     rw[hc] at h;have hti:(typeInfo t1).run P w=.ok i w:=by simp[typeInfo,hi]
     simp only[Op.equalIn,Sem.run_bind,run_underlying hu,Result.andThen_ok,ne_eq,not_true_eq_false,if_false,hti,hc,YI,Xp];exact hg t1 v1 v2 x1 y1 r w h1 h2 h
   ·cases h
  ·rw[Zc ht] at h
   cases h;simp[Op.equalIn,run_underlying hu,ht]
 ·cases h
def ZcK{t:Nat}{ag:Bool}(h:ZgV P t=some ag): ∃d,P.underlying t=some d∧MO P t=ag:=by
 unfold ZgV at h;unfold MO
 split at h<;>rename_i e<;>cases h
 ·rw[e];exact⟨_,rfl,rfl⟩
 ·rw[e];exact⟨_,rfl,rfl⟩
 ·rename_i d h1 h2
  rw[e];refine⟨d,rfl,?_⟩;cases d<;>first|rfl|exact absurd rfl (h1 _)|exact absurd rfl (h2 _ _)
def Fy{t:Nat}{cs:List AV}{vs:List Value}{off:Nat}{k:AV->Option Bool}{r:Bool}(hr:YR σ cs vs)(hone: ∀x∈vs,x.oneCell'=true)(h:x9 P t cs off k=some r):
  ∃a x,Ym σ a x∧k a=some r∧ ∀w:World,(part t ⟨vs⟩ off).run P w=.ok x w:=by
 unfold x9 at h
 split at h
 ·rename_i i ag hi hag
  obtain⟨d,hu,hia⟩:=ZcK hag;cases ag with
  |true=>
   have h:k (.agg (OQ i.size (Py off cs)))=some r:=h;rw[Lk,MY] at h;refine⟨_,.agg ⟨(vs.drop off).take i.size⟩,?_,h,λw=>?_⟩
   ·simp only[Ym]
    exact⟨_,(hr.drop _).take _,λy hy=>hone y (Ua (Vu hy)),rfl⟩
   ·simp only[part,Sem.run_bind,P7 (w:=w) hu,hia,Result.andThen_ok,if_true,WV hi,Sem.run_pure]
    congr 2
    apply Array.ext';simp[Vp]
  |false=>
   have h:(match HN cs off with|some v=>k v|none=>none)=some r:=h;rw[JX] at h
   split at h
   ·rename_i v hv
    obtain⟨x,hx,hrel⟩:=hr.get hv;refine⟨v,x,hrel,h,λw=>?_⟩;simp only[part,Sem.run_bind,P7 (w:=w) hu,hia,Result.andThen_ok,Xp,if_false];simp[hx]
   ·cases h
 ·cases h
theorem Df{e c D:Nat}{f:AV->AV->Option Bool}(hf:Gn P σ D e f){l m:List AV}{xs ys:List Value}(hl:YR σ l xs)(hm:YR σ m ys)(hlo: ∀x∈xs,x.oneCell'=true)(hmo: ∀x∈ys,x.oneCell'=true):
  ∀(is:List Nat) (r:Bool) (w:World),GN P f e c l m is=some r->(Op.eqItems D e c ⟨xs⟩ ⟨ys⟩ is).run P w=.ok r w
 |[],r,w,h=>by cases h;rfl
 |i::is,r,w,h=>by
  unfold GN at h;obtain⟨a,x,h1,h2,h3⟩:=Fy hl hlo h;obtain⟨b,y,g1,g2,g3⟩:=Fy hm hmo h2;unfold i7 at g2
  split at g2
  ·rename_i t ht
   have he:=hf a b x y t w h1 g1 ht;simp only[Op.eqItems,Sem.run_bind,h3 w,g3 w,he,Result.andThen_ok];cases t with
   |true=>simpa using Df hf hl hm hlo hmo is r w g2
   |false=>cases g2;simp
  ·cases g2
theorem Lz{D:Nat}{g:Nat->AV->AV->Option Bool}(hf: ∀t,Gn P σ D t (g t)){l m:List AV}{xs ys:List Value}(hl:YR σ l xs)(hm:YR σ m ys)(hlo: ∀x∈xs,x.oneCell'=true)(hmo: ∀x∈ys,x.oneCell'=true):
  ∀(fs:List Field) (r:Bool) (w:World),Nv P g l m fs=some r->(Op.eqFields D ⟨xs⟩ ⟨ys⟩ fs).run P w=.ok r w
 |[],r,w,h=>by cases h;rfl
 |f::fs,r,w,h=>by
  unfold Nv at h;unfold Op.eqFields;cases hn:f.name== "_" with
  |true=>
   rw[hn] at h;rw[if_neg (by simpa using hn)];exact Lz hf hl hm hlo hmo fs r w h
  |false=>
   rw[hn] at h;simp only[cond_false] at h;rw[if_pos (by simpa using hn)];obtain⟨a,x,h1,h2,h3⟩:=Fy hl hlo h;obtain⟨b,y,g1,g2,g3⟩:=Fy hm hmo h2;unfold i7 at g2
   split at g2
   ·rename_i t ht
    have he:=hf f.type a b x y t w h1 g1 ht;simp only[Sem.run_bind,h3 w,g3 w,he,Result.andThen_ok];cases t with
    |true=>simpa using Lz hf hl hm hlo hmo fs r w g2
    |false=>cases g2;simp
   ·cases g2
def ZhL{t D:Nat}{lit:Bool}{g:Nat->AV->AV->Option Bool}{d:TypeDesc}(hu:P.underlying t=some d)(hg: ∀t,Gn P σ D t (g t)):Gn P σ (D+1) t (λa b=>eqD P lit g t a b d):=by
 intro a b x y r w ha hb h;cases d<;>simp only[eqD] at h<;>first
  |cases h;done
  |exact bZ hu a b x y r w ha hb h
  |exact ZhM hu a b x y r w ha hb h
  |exact ZhN hu a b x y r w ha hb h
  |exact ah hu a b x y r w ha hb h
  |exact ai hu a b x y r w ha hb h
  |exact aj hu a b x y r w ha hb h
  |exact af hu hg a b x y r w ha hb h
  |skip
 case pointer e=>
  split at h
  ·rename_i i hi
   rw[Yl] at h
   by_cases h0:i.size=0
   ·rw[Zi h0] at h;cases h
   ·rw[Zc h0] at h
    exact am hu hi h0 a b x y r w ha hb h
  ·cases h
 case array n e=>
  unfold oL at h
  split at h
  ·split at h
   ·rename_i i hi
    obtain⟨xs,h1,h2,e1⟩:=LV ha;obtain⟨ys,g1,g2,e2⟩:=LV hb;have:=Df (hg e) h1 g1 h2 g2 (List.range n) r w h;rw[e1,e2,run_equalIn_array w D ⟨xs⟩ ⟨ys⟩ hu hi];rw[show P.cellsOf e=i.size by simp[Program.cellsOf,hi]];exact this
   ·cases h
  ·cases h
 case struct fs=>
  cases hst:P.stoodInHeld t with
  |true=>rw[hst] at h;cases h
  |false=>
   rw[hst] at h;have h:oL a b (λl m=>Nv P g l m fs.toList)=some r:=h;unfold oL at h
   split at h
   ·obtain⟨xs,h1,h2,e1⟩:=LV ha
    obtain⟨ys,g1,g2,e2⟩:=LV hb;have:=Lz hg h1 g1 h2 g2 fs.toList r w h;have hfs:P.fieldsOf t=fs:=by simp[Program.fieldsOf,hu]
    rw[e1,e2,run_equalIn_struct w D t ⟨xs⟩ ⟨ys⟩ (by rw[hfs];exact hu) hst,hfs];exact this
   ·cases h
theorem nw: ∀(d D t:Nat),d<=D->Gn P σ D t (Dg P d t)
 |0,D,t,_=>by intro a b x y r w ha hb h;cases h
 |d+1,D,t,hD=>by
  obtain⟨D',rfl⟩: ∃D',D=D'+1:=⟨D - 1,by omega⟩;intro a b x y r w ha hb h;unfold Dg at h
  split at h
  ·rename_i u hu
   exact ZhL (lit:=true) hu (λt=>nw d D' t (by omega)) a b x y r w ha hb h
  ·cases h
def It(P:Program)(σ:Mp)(t:Nat)(X Y:Operand)(f:AV->AV->Option Bool):Prop:=
 ∀(a b:AV) (x y:Value) (r:Bool) (w:World),Ym σ a x->Ym σ b y->f a b=some r->
  (∀op,(eqGuard op t X Y x y).run P w=.ok () w)∧(binOp .eql t x y).run P w=.ok (.bool r) w∧(binOp .neq t x y).run P w=.ok (.bool (!r)) w
def mu(v:Value):Bool:=match v with|.int .. |.float .. |.complex .. |.string _=>false|_=>true
def ZcV{t:TypeId}{x y:Value}(h:mu x=true):binOp .eql t x y=(do pure (.bool (<-Op.equal t x y))):=by
 cases x<;>first|(cases h;done)|(unfold binOp;rfl)
def ZcW{t:TypeId}{x y:Value}(h:mu x=true):binOp .neq t x y=(do pure (.bool (!(<-Op.equal t x y)))):=by
 cases x<;>first|(cases h;done)|(unfold binOp;rfl)
def Mi{t:TypeId}{X Y:Operand}{x y:Value}{r:Bool}(h:mu x=true)(hg: ∀op,(eqGuard op t X Y x y).run P w=.ok () w)(he:(Op.equalIn 10000 t x y).run P w=.ok r w):
  (∀op,(eqGuard op t X Y x y).run P w=.ok () w)∧(binOp .eql t x y).run P w=.ok (.bool r) w∧(binOp .neq t x y).run P w=.ok (.bool (!r)) w:=by
 have he:(Op.equal t x y).run P w=.ok r w:=he;refine⟨hg,?_,?_⟩
 ·rw[ZcV h];simp[he]
 ·rw[ZcW h];simp[he]
def U3{t:TypeId}{X Y:Operand}{x y:Value}(h1: ∀v,x≠.agg v)(h2:x≠.nilIface∨y≠.nilIface)(op:BinOp):(eqGuard op t X Y x y).run P w=.ok () w:=by
 cases op<;>simp only[eqGuard]<;>first
  |rfl
  |(cases x<;>first
    |rfl
    |exact absurd rfl (h1 _)
    |(cases y<;>first
      |rfl
      |(rcases h2 with h2|h2<;>exact absurd rfl h2)))
def ZqJ{t:TypeId}{X Y:Operand}(hu:P.underlying t=some .bool):It P σ t X Y gX:=by
 intro a b x y r w ha hb h;have he:=bZ (D:=9999) hu a b x y r w ha hb h;unfold gX at h
 split at h
 ·have ha:=T7 ha;subst ha
  exact Mi rfl (U3 (λ_ h=>by cases h) (.inl λh=>by cases h)) he
 ·cases h
def ZqP{t e:TypeId}{X Y:Operand}{i:TypeInfo}(hu:P.underlying t=some (.pointer e))(hi:P.info? e=some i)(h0:i.size≠0):It P σ t X Y zT:=by
 intro a b x y r w ha hb h;have he:=am (D:=9999) hu hi h0 a b x y r w ha hb h;have: ∃p,x=.pointer p:=by
  unfold zT at h
  split at h
  ·exact⟨_,Lg ha⟩
  ·exact⟨_,Lg ha⟩
  ·obtain⟨_,_,e1⟩:=TK ha;exact⟨_,e1⟩
  ·obtain⟨_,_,e1⟩:=TK ha;exact⟨_,e1⟩
  ·cases h
 obtain⟨p,rfl⟩:=this;exact Mi rfl (U3 (λ_ h=>by cases h) (.inl λh=>by cases h)) he
def ZqM{t e:TypeId}{X Y:Operand}(hu:P.underlying t=some (.slice e)):It P σ t X Y kV:=by
 intro a b x y r w ha hb h;have he:=ah (D:=9999) hu a b x y r w ha hb h;have: ∃p n c,x=.slice p n c:=by
  unfold kV at h
  split at h
  ·exact⟨_,_,_,Ph ha⟩
  ·exact⟨_,_,_,Ph ha⟩
  ·obtain⟨_,_,e1⟩:=Ui ha;exact⟨_,_,_,e1⟩
  ·exact⟨_,_,_,Ph ha⟩
  ·obtain⟨_,e1⟩:=(by simpa only[Ym] using ha: ∃a,x=.slice (some a) 0 0);exact⟨_,_,_,e1⟩
  ·cases h
 obtain⟨p,n,c,rfl⟩:=this;exact Mi rfl (U3 (λ_ h=>by cases h) (.inl λh=>by cases h)) he
def ZqN{t k e:TypeId}{X Y:Operand}(hu:P.underlying t=some (.map k e)):It P σ t X Y eqM:=by
 intro a b x y r w ha hb h;have he:=ai (D:=9999) hu a b x y r w ha hb h;have: ∃p,x=.map p:=by
  unfold eqM at h
  split at h
  ·exact⟨_,OF ha⟩
  ·exact⟨_,OF ha⟩
  ·obtain⟨_,_,e1⟩:=J5 ha;exact⟨_,e1⟩
  ·cases h
 obtain⟨p,rfl⟩:=this;exact Mi rfl (U3 (λ_ h=>by cases h) (.inl λh=>by cases h)) he
def ZqO{t:TypeId}{p q:Array TypeId}{v:Bool}{X Y:Operand}(hu:P.underlying t=some (.func p q v)):It P σ t X Y eqN:=by
 intro a b x y r w ha hb h;have he:=aj (D:=9999) hu a b x y r w ha hb h;have:x=.nilFunc∨ ∃f m n,x=.func f m n:=by
  unfold eqN at h
  split at h
  ·exact .inl (Lf ha)
  ·exact .inl (Lf ha)
  ·obtain⟨_,_,_,_,e1⟩:=Mb ha;exact .inr ⟨_,_,_,e1⟩
  ·cases h
 rcases this with rfl|⟨f,m,n,rfl⟩
 ·exact Mi rfl (U3 (λ_ h=>by cases h) (.inl λh=>by cases h)) he
 ·exact Mi rfl (U3 (λ_ h=>by cases h) (.inl λh=>by cases h)) he
def fy{t:TypeId}{X Y:Operand}(h:(Ke X||Ke Y)=true)(op:BinOp):(eqGuard op t X Y .nilIface .nilIface).run P w=.ok () w:=by
 have hc:((X matches .const _)||(Y matches .const _))=true:=by
  cases X<;>cases Y<;>first|rfl|cases h
 cases op<;>simp only[eqGuard]<;>first
  |rfl
  |(cases X<;>cases Y<;>first|rfl|cases h)
def ZqK{t:TypeId}{ms:Array (String×TypeId)}{X Y:Operand}(hu:P.underlying t=some (.interface ms)):It P σ t X Y (zS (Ke X||Ke Y) (vK P (Dg P 9))):=by
 intro a b x y r w ha hb h;have he:=af (D:=9999) hu (λt=>nw 9 9999 t (by omega)) a b x y r w ha hb h;unfold zS at h
 split at h
 ·cases hl:(Ke X||Ke Y) with
  |false=>rw[hl] at h;cases h
  |true=>
   have ha:=Pg ha;subst ha;have hb:=Pg hb;subst hb;exact Mi rfl (fy hl) he
 ·have ha:=Pg ha;subst ha
  obtain⟨_,_,rfl⟩:=TW hb;exact Mi rfl (U3 (λ_ h=>by cases h) (.inr λh=>by cases h)) he
 ·obtain⟨_,_,rfl⟩:=TW ha
  exact Mi rfl (U3 (λ_ h=>by cases h) (.inl λh=>by cases h)) he
 ·obtain⟨_,_,rfl⟩:=TW ha
  exact Mi rfl (U3 (λ_ h=>by cases h) (.inl λh=>by cases h)) he
 ·cases h
def Zmq{t:TypeId}{X Y:Operand}(hag:(∃n e,P.underlying t=some (.array n e))∨ ∃fs,P.underlying t=some (.struct fs))(hg:P.eqGuardType P.depth t=false):It P σ t X Y (Dg P 10 t):=by
 intro a b x y r w ha hb h;have he:=nw 10 10000 t (by omega) a b x y r w ha hb h;have hab:(∃l,a=.agg l)∧ ∃m,b=.agg m:=by
  unfold Dg at h;have agg: ∀{k:List AV->List AV->Option Bool},oL a b k=some r->(∃l,a=.agg l)∧ ∃m,b=.agg m:=by
   intro k h;unfold oL at h
   split at h
   ·exact⟨⟨_,rfl⟩,⟨_,rfl⟩⟩
   ·cases h
  rcases hag with⟨n,e,hu⟩|⟨fs,hu⟩
  ·rw[hu] at h
   exact agg h
  ·rw[hu] at h
   simp only[eqD] at h;cases hst:P.stoodInHeld t with
   |true=>rw[hst] at h;cases h
   |false=>rw[hst] at h;exact agg h
 obtain⟨⟨l,rfl⟩,⟨m,rfl⟩⟩:=hab;obtain⟨xs,_,_,rfl⟩:=LV ha;obtain⟨ys,_,_,rfl⟩:=LV hb;exact Mi rfl (λop=>run_eqGuard_agg w op t X Y _ _ hg) he
def ZqL{t:TypeId}{X Y:Operand}:It P σ t X Y WX:=by
 intro a b x y r w ha hb h;unfold WX at h
 split at h
 ·rename_i j p k q
  cases hk:PV j k with
  |false=>rw[hk] at h;cases h
  |true=>
   rw[hk] at h;have:=Rq hk;subst this;have h:some (Dw p q)=some r:=h;cases h;have ha:=XX ha;subst ha;have hb:=XX hb;subst hb;rw[Pc];exact⟨U3 (λ_ h=>by cases h) (.inl λh=>by cases h),by simp[binOp,Op.intCmp],by simp[binOp,Op.intCmp,bne]⟩
 ·cases h
def ZqQ{t:TypeId}{X Y:Operand}:It P σ t X Y QJ:=by
 intro a b x y r w ha hb h;unfold QJ at h
 split at h
 ·rename_i p q
  cases h;have ha:=Uy ha;subst ha;have hb:=Uy hb;subst hb;refine⟨U3 (λ_ h=>by cases h) (.inl λh=>by cases h),?_,?_⟩
  ·simp[binOp,Op.stringOp,SZ]
  ·simp[binOp,Op.stringOp,bne,SZ]
 ·cases h
def MP(hs:WW P σ H w)(hρ:RG P σ tm ρ){o:Oper}{neg:Bool}{t u:TypeId}{x y:Operand}{f:AV->AV->Option Bool}(ho:o.op=.binOp (if neg then .neq else .eql) t x y u)(hf:It P σ t x y f):
  Xa P σ H w ((execOp ρ o).run P w) (Wf (YZ P x) (YZ P y) f neg tm H):=by
 refine QK λr hr=>?_;obtain⟨h1,h2,h3⟩:=hf _ _ _ _ r w (hρ x) (hρ y) hr;refine Hq hs ?_;simp only[execOp,ho];refine Vn ?_;rw[Sem.run_bind,h1];cases neg
 ·exact h2
 ·simp only[Result.andThen_ok]
  refine h3.trans ?_;cases r<;>rfl
def Zbj(hs:WW P σ H w)(hρ:RG P σ tm ρ){o:Oper}{neg:Bool}{t u:TypeId}{x y:Operand}(ho:o.op=.binOp (if neg then .neq else .eql) t x y u):
  Xa P σ H w ((execOp ρ o).run P w) (Up P t (eqK P t (Ke x||Ke y) neg (YZ P x) (YZ P y)) tm H):=by
 refine Xm λd hu=>?_;cases d<;>try exact trivial
 case bool=>exact MP hs hρ ho (ZqJ hu)
 case int k=>exact MP hs hρ ho ZqL
 case string=>exact MP hs hρ ho ZqQ
 case pointer e=>
  show Xa P σ H w _ ((match P.info? e with|some i=>cond (Nat.beq i.size 0) Ul (Wf (YZ P x) (YZ P y) zT neg)|none=>Ul) tm H);cases hi:P.info? e with
  |none=>exact trivial
  |some i=>
   refine WY (λ_=>T3) λh0=>?_;rw[Yl] at h0;exact MP hs hρ ho (ZqP hu hi (of_decide_eq_false h0))
 case slice e=>exact MP hs hρ ho (ZqM hu)
 case map k e=>exact MP hs hρ ho (ZqN hu)
 case func p q v=>exact MP hs hρ ho (ZqO hu)
 case interface ms=>exact MP hs hρ ho (ZqK hu)
 case array n e=>exact WY (λ_=>T3) λh0=>MP hs hρ ho (Zmq (.inl ⟨n,e,hu⟩) h0)
 case struct fs=>exact WY (λ_=>T3) λh0=>MP hs hρ ho (Zmq (.inr ⟨fs,hu⟩) h0)
def ZiV(hs:WW P σ H w)(hρ:RG P σ tm ρ){o:Oper}{t u:TypeId}{x y:Operand}(ho:o.op=.binOp .eql t x y u):XI P σ H w tm ρ o:=by
 unfold XI;have:=Zbj (neg:=false) hs hρ ho;rw[ho];exact this
def Zi2(hs:WW P σ H w)(hρ:RG P σ tm ρ){o:Oper}{t u:TypeId}{x y:Operand}(ho:o.op=.binOp .neq t x y u):XI P σ H w tm ρ o:=by
 unfold XI;have:=Zbj (neg:=true) hs hρ ho;rw[ho];exact this
theorem YE.length: ∀{es:List Ss} {l:List MapEntry},YE σ es l->es.length=l.length
 |[],l,h=>by simp only[YE] at h;subst h;rfl
 |a::es,l,h=>by simp only[YE] at h;obtain⟨e,es',_,h2,rfl⟩:=h;simp[h2.length]
def Mw:YE σ [] []:=by simp[YE]
def Ng{a:Ss}{as:List Ss}{e:MapEntry}{es:List MapEntry}(h:KD σ a e)(h':YE σ as es):YE σ (a::as) (e::es):=by
 simp only[YE];exact⟨e,es,h,h',rfl⟩
def YE.cons_inv{a:Ss}{as:List Ss}{l:List MapEntry}(h:YE σ (a::as) l): ∃e es,KD σ a e∧YE σ as es∧l=e::es:=by simpa [YE] using h
structure E5(P:Program)(σ:Mp)(kt:TypeId)(kd:TypeDesc)(eq:AV->AV->Option Bool):Prop where
 und:P.underlying kt=some kd
 check: ∀(b:Bool) (x:Value) (w:World),(Instr.checkKey b 10000 kt x).run P w=.ok () w
 now: ∀(a b:AV) (x y:Value) (r:Bool),Ym σ a x->Ym σ b y->eq a b=some r->Instr.sameNow kd x y=some r
 bits: ∀(a b:AV) (x y:Value),Ym σ a x->Ym σ b y->eq a b=some true->Instr.sameBits 10000 y x=true
 apart: ∀(k a b:AV) (t:Bool),KF a b=true->eq k a=some t-> ∃u,eq k b=some u∧(t=true->u=false)
def KK{kt:TypeId}{kd:TypeDesc}(hu:P.underlying kt=some kd)(hk:(match kd with|.string|.int _|.bool=>true|_=>false)=true)(b:Bool)(x:Value)(w:World):(Instr.checkKey b 10000 kt x).run P w=.ok () w:=by
 cases kd<;>first|(cases hk;done)|skip
 all_goals
  unfold Instr.checkKey;simp[run_underlying hu]
def ZpR{kt:TypeId}(hu:P.underlying kt=some .string):E5 P σ kt .string QJ:=by
 refine⟨hu,λb x w=>KK hu rfl b x w,?_,?_,?_⟩
 ·intro a b x y r ha hb h
  unfold QJ at h
  split at h
  ·cases h
   rw[Uy ha,Uy hb,SZ];show some (ByteArray.mk _==ByteArray.mk _)=_;rw[beq_toListBytes,Ic,Ic]
  ·cases h
 ·intro a b x y ha hb h
  unfold QJ at h
  split at h
  ·rename_i p q
   rw[SZ] at h;have h:p=q:=by simpa using h
   subst h;rw[Uy ha,Uy hb];show(ByteArray.mk _==ByteArray.mk _)=true;rw[beq_toListBytes];simp
  ·cases h
 ·intro k a b t hab h
  unfold KF at hab
  split at hab
  ·rename_i p q
   cases k<;>try (cases h;done)
   rename_i s;refine⟨Mf s q,rfl,λht=>?_⟩;subst ht;have h:some (Mf s p)=some true:=h;rw[SZ] at h hab ⊢;have h:s=p:=by simpa using h
   subst h
   simpa using hab
  ·cases k<;>cases h
  ·cases hab
def ZpQ{kt:TypeId}{k:IntKind}(hu:P.underlying kt=some (.int k)):E5 P σ kt (.int k) WX:=by
 refine⟨hu,λb x w=>KK hu rfl b x w,?_,?_,?_⟩
 ·intro a b x y r ha hb h
  unfold WX at h
  split at h
  ·rename_i j p k q
   cases hk:PV j k with
   |false=>rw[hk] at h;cases h
   |true=>
    rw[hk] at h;have:=Rq hk;subst this;cases h;rw[XX ha,XX hb,Pc];simp[Instr.sameNow]
  ·cases h
 ·intro a b x y ha hb h
  unfold WX at h
  split at h
  ·rename_i j p k q
   cases hk:PV j k with
   |false=>rw[hk] at h;cases h
   |true=>
    rw[hk] at h;have:=Rq hk;subst this;have h:some (Dw p q)=some true:=h;rw[Pc] at h;have h:p=q:=by simpa using h
    subst h;rw[XX ha,XX hb];simp[Instr.sameBits]
  ·cases h
 ·intro k a b t hab h
  unfold KF at hab
  split at hab
  ·cases k<;>cases h
  ·rename_i j1 p j2 q
   cases k<;>try (cases h;done)
   rename_i j3 s;obtain⟨h1,h2⟩:=Qx.1 hab;have:=Rq h1;subst this;unfold WX at h ⊢;cases hk:PV j3 j1 with
   |false=>simp[hk] at h
   |true=>
    simp only[hk,cond_true,Option.some.injEq] at h ⊢;refine⟨_,rfl,λht=>?_⟩;subst ht;rw[Pc] at h h2 ⊢;have h:s=p:=by simpa using h
    subst h
    simpa using h2
  ·cases hab
def ZpP{kt:TypeId}(hu:P.underlying kt=some .bool):E5 P σ kt .bool gX:=by
 refine⟨hu,λb x w=>KK hu rfl b x w,?_,?_,?_⟩
 ·intro a b x y r ha hb h
  unfold gX at h
  split at h
  ·rename_i p q
   cases h;rw[T7 ha,T7 hb];cases p<;>cases q<;>rfl
  ·cases h
 ·intro a b x y ha hb h
  unfold gX at h
  split at h
  ·rename_i p q
   rw[T7 ha,T7 hb];cases p<;>cases q<;>first|rfl|cases h
  ·cases h
 ·intro k a b t hab h
  unfold KF at hab
  split at hab
  ·cases k<;>cases h
  ·cases k<;>cases h
  ·cases hab
def yU{r:Result Next}{kt:TypeId}{f:(AV->AV->Option Bool)->Us}(h: ∀kd eq,E5 P σ kt kd eq->Xa P σ H w r (f eq tm H)):Xa P σ H w r (Up P kt (Zat f) tm H):=by
 refine Xm λd hu=>?_;cases d<;>try exact trivial
 case string=>exact h _ _ (ZpR hu)
 case int k=>exact h _ _ (ZpQ hu)
 case bool=>exact h _ _ (ZpP hu)
theorem El{r:Result Next}{kt:TypeId}{kd:TypeDesc}{eq:AV->AV->Option Bool}(hk:E5 P σ kt kd eq){k:AV}{kv:Value}(hkr:Ym σ k kv){no:OR}{yes:AV->OR}: ∀(es:List Ss) (l:List MapEntry) (i:Nat),YE σ es l->
  (Instr.findNow kd kv l i=some none->Xa P σ H w r no)->(∀j a v,Ym σ a v->Instr.findNow kd kv l i=some (some (j,v))->Xa P σ H w r (yes a))->Xa P σ H w r (V4 eq k no yes es)
 |[],l,i,h,h1,h2=>by
  simp only[YE] at h;subst h;exact h1 rfl
 |e::es,l,i,h,h1,h2=>by
  obtain⟨m,ms,g1,g2,rfl⟩:=h.cons_inv;unfold V4;cases he:eq k e.key with
  |none=>exact trivial
  |some t=>
   have hn:=hk.now _ _ _ _ t hkr g1.1 he;cases t with
   |true=>exact h2 i e.val m.val g1.2.1 (by simp only[Instr.findNow,hn])
   |false=>
    refine El hk hkr es ms (i+1) g2 (λq=>h1 ?_) (λj a v ha q=>h2 j a v ha ?_)
    ·simp only[Instr.findNow,hn];exact q
    ·simp only[Instr.findNow,hn];exact q
theorem IK{eq:AV->AV->Option Bool}{k:AV}{no:OR}{yes:AV->OR}: ∀{es fs:List Ss},es.map SB=fs.map SB->V4 eq k no yes es=V4 eq k no yes fs
 |[],[],_=>rfl
 |[],_::_,h=>by cases h
 |_::_,[],h=>by cases h
 |e::es,f::fs,h=>by
  simp only[ZD,List.cons.injEq] at h;obtain⟨h1,h2⟩:=h;simp only[SB,Prod.mk.injEq] at h1;unfold V4;rw[h1.1,h1.2,IK h2]
noncomputable def yN(eq:AV->AV->Option Bool)(k:AV)(no:OR)(yes:AV->OR)(l:List (AV×AV)):OR:=V4 eq k no yes (l.map λp=>⟨p.1,p.2,0⟩)
def yO{eq:AV->AV->Option Bool}{k:AV}{no:OR}{yes:AV->OR}(es:List Ss):yN eq k no yes (es.map SB)=V4 eq k no yes es:=by
 unfold yN;refine IK ?_;rw[RI,RI];rfl
def PO{eq:AV->AV->Option Bool}{k:AV}{no:OR}{yes:AV->OR}(p:AV×AV)(l:List (AV×AV)){t:Bool}(h:eq k p.1=some t):yN eq k no yes (p::l)=cond t (yes p.2) (yN eq k no yes l):=by
 show V4 eq k no yes (⟨p.1,p.2,0⟩::l.map λp=>⟨p.1,p.2,0⟩)=_;unfold V4;rw[show eq k (⟨p.1,p.2,0⟩:Ss).key=some t from h];rfl
def nF{eq:AV->AV->Option Bool}{k:AV}{no:OR}{yes:AV->OR}{l m:List (AV×AV)}(hp:l.Perm m)(ha: ∀p∈l,∃t,eq k p.1=some t)(hu:l.Pairwise λp q=>eq k p.1=some true->eq k q.1=some true->False):
  yN eq k no yes l=yN eq k no yes m:=by
 induction hp with
 |nil=>rfl
 |cons p _ ih=>
  obtain⟨t,ht⟩:=ha p (Zw ..);rw[PO _ _ ht,PO _ _ ht,ih (λq hq=>ha q (ZC _ hq)) (TC.1 hu).2]
 |swap p q l=>
  obtain⟨t,ht⟩:=ha q (Zw ..);obtain⟨u,hu'⟩:=ha p (ZC _ (Zw ..));rw[PO _ _ ht,PO _ _ hu',PO _ _ hu',PO _ _ ht];cases t<;>cases u<;>try rfl
  exact((TC.1 hu).1 p (Zw ..) ht hu').elim
 |trans h1 _ ih1 ih2=>
  rw[ih1 ha hu];exact ih2 (λq hq=>ha q (h1.mem_iff.2 hq)) ((h1.pairwise_iff (λh a b=>h b a)).1 hu)
def uh{kt:TypeId}{kd:TypeDesc}{eq:AV->AV->Option Bool}(hk:E5 P σ kt kd eq){k:AV}{no:OR}{yes:AV->OR}{es fs:List Ss}(hp:(fs.map SB).Perm (es.map SB))(ha:es.Pairwise vz):
  V4 eq k no yes es=.fail∨V4 eq k no yes es=V4 eq k no yes fs:=by
 cases es with
 |nil=>
  rw[ZO] at hp;have:=List.Perm.eq_nil hp;cases fs with
  |nil=>exact .inr rfl
  |cons f fs=>cases this
 |cons e es=>
  cases he:eq k e.key with
  |none=>
   left;unfold V4;rw[he]
  |some t=>
   right;have hall: ∀f∈e::es,∃u,eq k f.key=some u:=by
    intro f hf;rcases ZY.1 hf with rfl|hf
    ·exact⟨t,he⟩
    ·obtain⟨u,hu,_⟩:=hk.apart k e.key f.key t ((TC.1 ha).1 f hf).1 he
     exact⟨u,hu⟩
   rw[<-yO (e::es),<-yO fs];refine(nF hp.symm (λp hp=>?_) ?_)
   ·obtain⟨f,hf,rfl⟩:=YC.1 hp
    exact hall f hf
   ·rw[T1]
    refine ha.imp λ{a b} hab h1 h2=>?_;obtain⟨u,h3,h4⟩:=hk.apart k a.key b.key true hab.1 h1;have h2:eq k b.key=some true:=h2;rw[h3,h4 rfl] at h2;cases h2
def Rx{kt:TypeId}{kd:TypeDesc}(hu:P.underlying kt=some kd){kv:Value}{l:List MapEntry}{r:Option (Nat×Value)}(h:Instr.findNow kd kv l 0=some r):(Instr.findKey kt kv l).run P w=.ok r w:=by
 simp only[Instr.findKey,Sem.run_bind,run_underlying hu,Result.andThen_ok,h,Sem.run_pure]
def eX(hs:WW P σ H w)(hρ:RG P σ tm ρ){o:Oper}{t:TypeId}{m k:Operand}{ok:Bool}(ho:o.op=.lookup t m k ok):XI P σ H w tm ρ o:=by
 unfold XI;rw[ho];refine Xm λd hu=>?_;cases d<;>try exact trivial
 case map kt e=>
  refine yU λkd eq hk=>XW λi hi=>Uu λz hz=>?_;have g:=hρ m;have B2: ∀{a:AV} {v:Value} {b:Bool},Ym σ a v->(execOp ρ o).run P w=.ok (.value (if ok then .tuple #[v,.bool b] else v)) w->Xa P σ H w ((execOp ρ o).run P w) (found ok H a b):=by
   intro a v b ha hr;unfold found;cases ok with
   |true=>
    refine Z9 hs hr ?_;simp only[Ym];exact⟨[v,.bool b],Vr ha (U4 (by simp[Ym])),rfl⟩
   |false=>exact Z9 hs hr ha
  have rl: ∀{v:Value},(Instr.lookup t (ρ m) (ρ k) ok).run P w=.ok v w->(execOp ρ o).run P w=.ok (.value v) w:=λh=>by
   simp only[execOp,ho];exact Vn h
  refine GW (λhx=>?_) λb hx=>KV λob xg=>?_
  ·rw[hx] at g
   refine B2 (PL σ z) (rl ?_);rw[OF g];have hf:=Rx (w:=w) (kv:=ρ k) (l:=(#[]:Array MapEntry).toList) hk.und (r:=none) rfl;simp only[Instr.lookup,Sem.run_bind,run_underlying hu,Result.andThen_ok,Sem.run_pure,hk.check,hf,TX hi hz]
  ·rw[hx] at g
   obtain⟨l,hl,e1⟩:=J5 g;cases ob<;>try exact trivial
   case map es clock=>
    obtain⟨c,hc,ho'⟩:=hs.alive b _ l xg hl;obtain⟨ents,rfl,hr,_⟩:=ho';refine El hk (hρ k) es ents.toList 0 hr (λq=>?_) λj a v ha q=>?_
    ·refine B2 (PL σ z) (rl ?_)
     rw[e1];have hf:=Rx (w:=w) hk.und q;simp only[Instr.lookup,Sem.run_bind,run_underlying hu,Result.andThen_ok,OH hc,Sem.run_pure,hk.check,hf,TX hi hz]
    ·refine B2 ha (rl ?_)
     rw[e1];have hf:=Rx (w:=w) hk.und q;simp only[Instr.lookup,Sem.run_bind,run_underlying hu,Result.andThen_ok,OH hc,Sem.run_pure,hk.check,hf]
   case cmap es=>
    obtain⟨c,hc,ho'⟩:=hs.alive b _ l xg hl;obtain⟨ents,clock,fs,rfl,hr,hp,ha⟩:=ho';show Xa P σ H w _ (V4 _ _ _ _ es);rcases uh hk hp ha with hx2|hx2
    ·rw[hx2];exact trivial
    rw[hx2];refine El hk (hρ k) fs ents.toList 0 hr (λq=>?_) λj a v ha q=>?_
    ·refine B2 (PL σ z) (rl ?_)
     rw[e1];have hf:=Rx (w:=w) hk.und q;simp only[Instr.lookup,Sem.run_bind,run_underlying hu,Result.andThen_ok,OH hc,Sem.run_pure,hk.check,hf,TX hi hz]
    ·refine B2 ha (rl ?_)
     rw[e1];have hf:=Rx (w:=w) hk.und q;simp only[Instr.lookup,Sem.run_bind,run_underlying hu,Result.andThen_ok,OH hc,Sem.run_pure,hk.check,hf]
def mJ(hs:WW P σ H w){o:Oper}{t:TypeId}{r:Option Operand}(ho:o.op=.makeMap t r):XI P σ H w tm ρ o:=by
 unfold XI;rw[ho];cases r with
 |some r=>exact trivial
 |none=>
  refine VZ (Tr.alloc hs (.map [] 0) (.map #[] 0) ⟨w.heap.size,0,0,1⟩ rfl ⟨#[],rfl,Mw,by simp[F4]⟩) (x:=.map (some w.heap.size)) ?_ ?_
  ·simp only[execOp,ho]
   refine Vn ?_;simp[Instr.makeMap]
  ·simp only[Ym];exact⟨_,Mp.put_same _ _ _,rfl⟩
theorem sW{r:Result Next}{kt:TypeId}{kd:TypeDesc}{eq:AV->AV->Option Bool}(hk:E5 P σ kt kd eq){k v:AV}{kv vv:Value}(hkr:Ym σ k kv)(hvr:Ym σ v vv){clock:Nat}: ∀(es:List Ss) (l:List MapEntry) (i:Nat) (done:List Ss->Nat->OR),YE σ es l->
  (Instr.findNow kd kv l i=some none->(∀e∈es,True)->Xa P σ H w r (done (es++[⟨k,v,clock⟩]) (clock+1)))->
  (∀j a m u,es[j]? =some a->l[j]? =some m->KD σ a m->Instr.sameBits 10000 m.key kv=true->Instr.findNow kd kv l i=some (some (i+j,u))->Xa P σ H w r (done (es.set j ⟨k,v,a.born⟩) clock))->
  Xa P σ H w r (N1 eq k v clock done es)
 |[],l,i,done,h,h1,h2=>by
  simp only[YE] at h;subst h;exact h1 rfl (by simp)
 |e::es,l,i,done,h,h1,h2=>by
  obtain⟨m,ms,g1,g2,rfl⟩:=h.cons_inv;unfold N1;cases he:eq k e.key with
  |none=>exact trivial
  |some t=>
   have hn:=hk.now _ _ _ _ t hkr g1.1 he;cases t with
   |true=>
    have hb:=hk.bits _ _ _ _ hkr g1.1 he;exact h2 0 e m m.val rfl rfl g1 hb (by simp only[Instr.findNow,hn,Zo])
   |false=>
    refine sW hk hkr hvr es ms (i+1) (λl' c=>done (e::l') c) g2 (λq _=>h1 ?_ (by simp)) (λj a m' u q1 q2 q3 q4 q5=>h2 (j+1) a m' u (by simpa using q1) (by simpa using q2) q3 q4 ?_)
    ·simp only[Instr.findNow,hn];exact q
    ·simp only[Instr.findNow,hn];rw[q5,show i+1+j=i+(j+1) by omega]
theorem YE.append: ∀{es es2:List Ss} {l l2:List MapEntry},YE σ es l->YE σ es2 l2->YE σ (es++es2) (l++l2)
 |[],es2,l,l2,h,h'=>by simp only[YE] at h;subst h;exact h'
 |a::es,es2,l,l2,h,h'=>by
  obtain⟨m,ms,g1,g2,rfl⟩:=h.cons_inv;exact Ng g1 (g2.append h')
theorem YE.set{a:Ss}{m:MapEntry}(hm:KD σ a m): ∀{es:List Ss} {l:List MapEntry} (j:Nat),YE σ es l->YE σ (es.set j a) (l.set j m)
 |[],l,j,h=>by simp only[YE] at h;subst h;simpa using Mw
 |e::es,l,0,h=>by
  obtain⟨m',ms,g1,g2,rfl⟩:=h.cons_inv;exact Ng hm g2
 |e::es,l,j+1,h=>by
  obtain⟨m',ms,g1,g2,rfl⟩:=h.cons_inv;exact Ng g1 (g2.set hm j)
def m8{es:List Ss}{c j:Nat}{a:Ss}{k v:AV}(h:F4 es c)(ha:es[j]? =some a):F4 (es.set j ⟨k,v,a.born⟩) c:=by
 have key:(es.set j ⟨k,v,a.born⟩).map (·.born)=es.map (·.born):=by
  apply Y7;intro i;simp only[Z3,List.getElem?_set]
  by_cases hij:j=i
  ·subst hij
   have hlt:j<es.length:=by
    rcases Nat.lt_or_ge j es.length with h|h
    ·exact h
    ·rw[Z8 h] at ha;cases ha
   rw[if_pos rfl,if_pos hlt,ha];rfl
  ·simp[hij]
 obtain⟨h1,h2⟩:=h;constructor
 ·have:((es.set j ⟨k,v,a.born⟩).map (·.born)).Pairwise (· < ·):=by rw[key];exact T1.2 h1
  exact T1.1 this
 ·intro e he
  have:e.born∈(es.set j ⟨k,v,a.born⟩).map (·.born):=VQ he
  rw[key] at this;obtain⟨e',he',h3⟩:=YC.1 this;rw[<-h3];exact h2 e' he'
def pp{es:List Ss}{c:Nat}{k v:AV}(h:F4 es c):F4 (es++[⟨k,v,c⟩]) (c+1):=by
 obtain⟨h1,h2⟩:=h;constructor
 ·rw[List.pairwise_append]
  refine⟨h1,by simp,λa ha b hb=>?_⟩;rw[Zn] at hb;subst hb;exact h2 a ha
 ·intro e he
  rcases Zt.1 he with he|he
  ·have:=h2 e he;omega
  ·rw[Zn] at he;subst he;exact ZU c
def FK{g:Nat}{es:Array MapEntry}{c:Nat}(ob:Go.Obj)(h:w.heap[g]? =some (.map es c)): ∃w',(setObj g ob).run P w=.ok () w'∧yk w w' g ob:=by
 refine⟨{w with heap:=w.heap.setIfInBounds g ob},by simp[setObj,Sem.run,h],⟨by simp,?_,λk hk=>?_,rfl,rfl,rfl⟩⟩
 ·have:g<w.heap.size:=(ZX.1 h).1
  simp[YK,this]
 ·simp only[YK]
  rw[if_neg (λe=>hk e.symm)]
def sV(hs:WW P σ H w)(hρ:RG P σ tm ρ){o:Oper}{t kt e:TypeId}{m k x:Operand}{kd:TypeDesc}{eq:AV->AV->Option Bool}(hu:P.underlying t=some (.map kt e))(hk:E5 P σ kt kd eq)
  (hex: ∀w',(Instr.mapUpdate t (ρ m) (ρ k) (ρ x)).run P w=.ok () w'->(execOp ρ o).run P w=.ok .skip w'):
  Xa P σ H w ((execOp ρ o).run P w) (J2 eq (YZ P m) (YZ P k) (YZ P x) tm H):=by
 have g:=hρ m;refine GW (λ_=>trivial) λb hx=>KV λob xg=>?_;rw[hx] at g;obtain⟨l,hl,e1⟩:=J5 g;cases ob<;>try exact trivial
 case map es clock=>
  refine Yi λhro=>?_;have hwr:Wr H b:=⟨ZS hro,_,xg,(λr h=>by cases h),λh=>by cases h⟩;obtain⟨c,hc,ho'⟩:=hs.alive b _ l xg hl;obtain⟨ents,rfl,hr,hris⟩:=ho';refine sW hk (hρ k) (hρ x) es ents.toList 0 _ hr (λq _=>?_) λj a mm u q1 q2 q3 q4 q5=>?_
  ·obtain⟨w',hrun,hw⟩:=FK (P:=P) (.map (ents.push {key:=ρ k,val:=ρ x,born:=clock}) (clock+1)) hc
   refine⟨σ,w',undef,.inr ⟨hex w' ?_,rfl⟩,by simp[Y9,undef,Ym,YR],Tr.write hs xg hl hwr hw.size hw.new hw.old ⟨_,rfl,?_,pp hris⟩ hw.tape hw.os hw.out⟩
   ·rw[e1]
    have hf:=Rx (w:=w) hk.und q;simp only[Instr.mapUpdate,Sem.run_bind,run_underlying hu,Result.andThen_ok,OH hc,hk.check,hf,hrun]
   ·rw[Array.toList_push]
    exact hr.append (Ng ⟨hρ k,hρ x,rfl⟩ Mw)
  ·obtain⟨w',hrun,hw⟩:=FK (P:=P) (.map (ents.modify j λe=>{e with key:=ρ k,val:=ρ x}) clock) hc
   refine⟨σ,w',undef,.inr ⟨hex w' ?_,rfl⟩,by simp[Y9,undef,Ym,YR],Tr.write hs xg hl hwr hw.size hw.new hw.old ⟨_,rfl,?_,m8 hris q1⟩ hw.tape hw.os hw.out⟩
   ·rw[e1]
    have hf:=Rx (w:=w) hk.und q5;rw[Zl] at hf;have hej:ents[j]? =some mm:=by rw[<-Z7];exact q2
    simp only[Instr.mapUpdate,Sem.run_bind,run_underlying hu,Result.andThen_ok,OH hc,hk.check,hf,hej,YY,RM,Instr.keyThatStays,q4,if_true,Sem.run_pure,hrun]
   ·have e2:(ents.modify j λe=>{e with key:=ρ k,val:=ρ x}).toList=ents.toList.set j {mm with key:=ρ k,val:=ρ x}:=by
     apply Y7;intro i;rw[Z7,Wl,List.getElem?_set]
     by_cases hij:j=i
     ·subst hij
      have hlt:j<ents.toList.length:=by
       rcases Nat.lt_or_ge j ents.toList.length with h|h
       ·exact h
       ·rw[Z8 h] at q2;cases q2
      have hej:ents[j]? =some mm:=by rw[<-Z7];exact q2
      rw[if_pos rfl,if_pos rfl,if_pos hlt,hej];rfl
     ·rw[if_neg hij,if_neg hij,Z7]
    rw[e2];exact YE.set (a:=⟨YZ P k tm,YZ P x tm,a.born⟩) (m:={mm with key:=ρ k,val:=ρ x}) ⟨hρ k,hρ x,q3.2.2⟩ j hr
def Ft(hs:WW P σ H w)(hρ:RG P σ tm ρ){o:Oper}{t:TypeId}{m k x:Operand}(ho:o.op=.mapUpdate t m k x∨o.op=.insert t m k x):XI P σ H w tm ρ o:=by
 have hex: ∀w',(Instr.mapUpdate t (ρ m) (ρ k) (ρ x)).run P w=.ok () w'->(execOp ρ o).run P w=.ok .skip w':=by
  intro w' h;rcases ho with ho|ho<;>simp[execOp,ho,h]
 have key:Xa P σ H w ((execOp ρ o).run P w) (Up P t (λd=>match d with|.map kt _=>Up P kt<|Zat λeq=>J2 eq (YZ P m) (YZ P k) (YZ P x)|_=>Ul) tm H):=by
  refine Xm λd hu=>?_;cases d<;>try exact trivial
  case map kt e=>exact yU λkd eq hk=>sV hs hρ hu hk hex
 unfold XI;rcases ho with ho|ho
 ·rw[ho];exact key
 ·rw[ho];exact key
def Zbn(hs:WW P σ H w)(hρ:RG P σ tm ρ){o:Oper}{t:TypeId}{x:Operand}(ho:o.op=.range t x):XI P σ H w tm ρ o:=by
 unfold XI;rw[ho];refine Xm λd hu=>?_;have g:=hρ x;have hex: ∀{v:Value} {w':World},(Instr.range t (ρ x)).run P w=.ok v w'->(execOp ρ o).run P w=.ok (.value v) w':=λh=>by
  simp only[execOp,ho];exact Vn h
 cases d<;>try exact trivial
 case string=>
  refine Oo λs hx=>?_;rw[hx] at g;refine VZ (Tr.alloc hs (.siter s 0) (.stringIter ⟨s.toArray⟩ 0) ⟨w.heap.size,0,0,1⟩ rfl ⟨rfl,rfl⟩) (hex ?_) (J6 rfl);rw[Uy g];simp[Instr.range,run_underlying hu]
 case map kt e=>
  refine GW (λhx=>?_) λb hx=>KV λob xg=>?_
  ·rw[hx] at g
   refine VZ (Tr.alloc hs (.miter none 0 none) (.mapIter none 0 #[] 0) ⟨w.heap.size,0,0,1⟩ rfl ⟨#[],0,rfl,(λ_ h=>by cases h),rfl,rfl,rfl⟩) (hex ?_) (J6 rfl);rw[OF g];simp[Instr.range,run_underlying hu]
  ·rw[hx] at g
   obtain⟨l,hl,e1⟩:=J5 g;cases ob<;>try exact trivial
   case map es clock=>
    obtain⟨c,hc,ho'⟩:=hs.alive b _ l xg hl;obtain⟨ents,rfl,hr,_⟩:=ho';have hlt:=hs.dom b l hl;have hput:(σ.put H.nx ⟨w.heap.size,0,0,1⟩) b=some l:=by rw[Mp.put_old (by omega)];exact hl
    refine VZ (Tr.alloc hs (.miter (some b) clock none) (.mapIter (some l.blk) clock #[] clock) ⟨w.heap.size,0,0,1⟩ rfl ⟨#[],clock,?_,?_,rfl,rfl,rfl⟩) (hex ?_) (J6 rfl)
    ·simp[hput]
    ·intro b' hb';cases hb';rw[hput];rfl
    ·rw[e1]
     simp[Instr.range,run_underlying hu,OH hc]
def pC{b:Nat}{s:ByteArray}{c:Nat}(h:w.heap[b]? =some (.stringIter s c)):(getObj b).run P w=.ok (.stringIter s c) w:=by simp[getObj,Sem.run,h]
def ye{g:Nat}{s:ByteArray}{c:Nat}(ob:Go.Obj)(h:w.heap[g]? =some (.stringIter s c)): ∃w',(setObj g ob).run P w=.ok () w'∧yk w w' g ob:=by
 refine⟨{w with heap:=w.heap.setIfInBounds g ob},by simp[setObj,Sem.run,h],⟨by simp,?_,λk hk=>?_,rfl,rfl,rfl⟩⟩
 ·have:g<w.heap.size:=(ZX.1 h).1
  simp[YK,this]
 ·simp only[YK]
  rw[if_neg (λe=>hk e.symm)]
def ZeK(hs:WW P σ H w)(hρ:RG P σ tm ρ){o:Oper}{x:Operand}{b:Bool}(ho:o.op=.next x b):XI P σ H w tm ρ o:=by
 unfold XI;rw[ho];refine WY (λhb=>?_) λ_=>T3;subst hb;have g:=hρ x;refine On λb off hx=>Yi λh0=>Yi λhro=>KV λob xg=>?_;rw[hx] at g;obtain⟨l,hl,e1⟩:=TK g;rw[Yl] at h0;have h0:off=0:=Zr h0;subst h0;cases ob<;>try exact trivial
 case siter s pos=>
  have hwr:Wr H b:=⟨ZS hro,_,xg,(λr h=>by cases h),λh=>by cases h⟩;obtain⟨c,hc,ho'⟩:=hs.alive b _ l xg hl;obtain⟨rfl,hbase⟩:=ho';rw[hbase] at e1;have hex: ∀{v:Value} {w':World},(Instr.next (ρ x) true o.type).run P w=.ok v w'->(execOp ρ o).run P w=.ok (.value v) w':=λh=>by
   simp only[execOp,ho];exact Vn h
  have hsz:(ByteArray.mk s.toArray).size=s.length:=MH s;refine UP (λhlt=>?_) λhlt=>?_
  ·rw[Xb,Yw] at hlt
   have hlt:pos<s.length:=Zr hlt;cases hdec:Utf8.decode ⟨s.toArray⟩ pos with
   |mk ch wd=>
   obtain⟨w',hrun,hw⟩:=ye (P:=P) (.stringIter ⟨s.toArray⟩ (pos+wd)) hc;refine VZ (Tr.write hs xg hl hwr hw.size hw.new hw.old ⟨rfl,hbase⟩ hw.tape hw.os hw.out) (x:=.tuple #[.bool true,goInt pos,.int .i32 ch]) (hex ?_) ?_
   ·rw[e1]
    simp only[Instr.next,Zl,Sem.run_bind,pC hc,Result.andThen_ok,hsz,if_pos hlt,hdec,hrun,Sem.run_pure]
   ·simp only[Ym]
    exact⟨[.bool true,goInt pos,.int .i32 ch],Vr (by simp[Ym]) (Vr (by simp[Ym,goInt]) (U4 (by simp[Ym]))),rfl⟩
  ·rw[Xb,Yw] at hlt
   have hlt: ¬(pos<s.length):=of_decide_eq_false hlt;refine Z9 hs (x:=.tuple #[.bool false]) (hex ?_) ?_
   ·rw[e1]
    simp only[Instr.next,Zl,Sem.run_bind,pC hc,Result.andThen_ok,hsz,if_neg hlt,Sem.run_pure]
   ·simp only[Ym]
    exact⟨[.bool false],U4 (by simp[Ym]),rfl⟩
def mF(hs:WW P σ H w)(hρ:RG P σ tm ρ){o:Oper}{x:Operand}{xt t:TypeId}{ok:Bool}(ho:o.op=.typeAssert x xt t ok):XI P σ H w tm ρ o:=by
 unfold XI;rw[ho];refine XW λi hi=>Uu λz hz=>Xm λd hu=>?_;have g:=hρ x;have hex: ∀{v:Value} {w':World},(Instr.typeAssert (ρ x) xt t ok).run P w=.ok v w'->(execOp ρ o).run P w=.ok (.value v) w':=λh=>by
  simp only[execOp,ho];exact Vn h
 have jz:=TX (w:=w) hi hz;have no:(∀(h:ok=true),(Instr.typeAssert (ρ x) xt t ok).run P w=.ok (.tuple #[z,.bool false]) w)->Xa P σ H w ((execOp ρ o).run P w) (Q5 (WO z) ok H none):=by
  intro h;cases ok with
  |false=>exact trivial
  |true=>
   refine Z9 hs (hex (h rfl)) ?_;simp only[Ym];exact⟨[z,.bool false],Vr (PL σ z) (U4 (by simp[Ym])),rfl⟩
 have yes: ∀{a:AV} {v:Value},Ym σ a v->(Instr.typeAssert (ρ x) xt t ok).run P w=.ok (if ok then .tuple #[v,.bool true] else v) w->Xa P σ H w ((execOp ρ o).run P w) (Q5 (WO z) ok H (some a)):=by
  intro a v ha h;cases ok with
  |false=>exact Z9 hs (hex h) ha
  |true=>
   refine Z9 hs (hex h) ?_;simp only[Ym];exact⟨[v,.bool true],Vr ha (U4 (by simp[Ym])),rfl⟩
 by_cases hd: ∃ms,d=.interface ms
 ·obtain⟨ms,rfl⟩:=hd
  show Xa P σ H w _ (qy (YZ P x) P (Zet P t) (WO z) ok tm H);have hms:Zet P t=ms:=by unfold Zet;rw[hu]
  rw[hms];refine NO (λhx=>?_) λu v hx=>QK λiu hiu=>?_
  ·rw[hx] at g
   have g:=Pg g;refine no λh=>?_;rw[g];simp[Instr.typeAssert,run_underlying hu,h,jz]
  ·rw[hx] at g
   obtain⟨y,hy,e1⟩:=TW g;have hti:(typeInfo u).run P w=.ok iu w:=by simp[typeInfo,hiu]
   cases hmm:Instr.missingMethod ms iu.methods with
   |none=>
    refine yes (v:=ρ x) (by rw[<-hx];exact hρ x) ?_;rw[e1];simp[Instr.typeAssert,run_underlying hu,hti,hmm]
   |some m=>
    refine no λh=>?_;rw[e1];simp[Instr.typeAssert,run_underlying hu,hti,hmm,h,jz]
 ·have hd: ∀ms,d≠.interface ms:=λms h=>hd ⟨ms,h⟩
  have key:Xa P σ H w ((execOp ρ o).run P w) (Cz (YZ P x) t (WO z) ok tm H):=by
   refine NO (λhx=>?_) λu v hx=>?_
   ·rw[hx] at g
    have g:=Pg g;refine no λh=>?_;rw[g];cases d<;>first
     |exact absurd rfl (hd _)
     |simp[Instr.typeAssert,run_underlying hu,h,jz]
   ·rw[hx] at g
    obtain⟨y,hy,e1⟩:=TW g;rw[Yl]
    by_cases hut:u=t
    ·rw[Zi hut]
     refine yes hy ?_;rw[e1];cases d<;>first
      |exact absurd rfl (hd _)
      |simp[Instr.typeAssert,run_underlying hu,hut]
    ·rw[Zc hut]
     refine no λh=>?_;rw[e1];cases d<;>first
      |exact absurd rfl (hd _)
      |simp[Instr.typeAssert,run_underlying hu,hut,h,jz]
  cases d<;>first
   |exact absurd rfl (hd _)
   |exact key
def wu(hρ:RG P σ tm ρ)(l:Array Operand):YR σ (evs tm (args P l)) (l.map ρ).toList:=by
 have:=Jk hρ l.toList;unfold args
 simpa using this
def Hp{r:Result Next}{f:Nat}{as:List AV}{vs:List Value}(hr:YR σ as vs)(h:r=(callFunc f ⟨vs⟩).run P w):Xa P σ H w r (.oth (.call f as H)):=⟨rfl,vs,hr,h⟩
def vT{r:Result Next}{name:String}{u:Nat}{k:Nat->OR}
  (h: ∀g,(∀(n:Nat) (v:Value),(method (n+1) u v name).run P w=.ok (g,v) w)->Xa P σ H w r (k g)):Xa P σ H w r (Fk P name u k):=by
 refine QK λi hi=>QK λm hm=>Yi λhp=>?_;have hti:(typeInfo u).run P w=.ok i w:=by simp[typeInfo,hi]
 have hpl:m.path.toList=[]:=by
  have:m.path= #[]:=by simpa using hp
  rw[this]
 cases hf:m.func with
 |none=>exact trivial
 |some q=>
  obtain⟨g,ptr⟩:=q;show Xa P σ H w r (match P.underlying u with
   |some (.pointer _)=>ZJ ptr (k g)
   |some _=>cond ptr .fail (k g)
   |none=>.fail)
  cases hu:P.underlying u with
  |none=>exact trivial
  |some d=>
   have base: ∀(n:Nat) (v:Value),(method (n+1) u v name).run P w=(do pure (g,<-receiverAt u (.val v) ptr (if m.path.isEmpty then some ((name.splitOn ".").getLastD name) else none)):Sem (FuncId×Value)).run P w:=by
    intro n v;simp only[method,Sem.run_bind,hti,Result.andThen_ok,hm,hpl,follow,Sem.run_pure,hf]
   cases d<;>first
    |(refine Yi λZpz=>h g λn v=>?_
      subst Zpz
      rw[base]
      simp[receiverAt,run_underlying hu,Place.get]
      done)
    |(cases ptr with
      |true=>exact trivial
      |false=>
       refine h g λn v=>?_
       rw[base]
       simp[receiverAt,run_underlying hu,Place.get])
def A4{name:String}{u g:Nat}{v:Value}{args:Array Value}(h: ∀(n:Nat) (v:Value),(method (n+1) u v name).run P w=.ok (g,v) w):(callMethod (.iface u v) name args).run P w=(callFunc g (#[v]++args)).run P w:=by
 have:(P.types.size+Made.depth)=(P.types.size+Made.depth - 1)+1:=by
  have:0<Made.depth:=by decide
  omega
 simp only[callMethod,Sem.run_bind,run_program,Result.andThen_ok];rw[this,h];rfl
def Dn{r:Result Next}{n:String}{u:Nat}{a:AV}{x:Value}{as:List AV}{vs:List Value}(ha:Ym σ a x)(hr:YR σ as vs)(h:r=(callMethod (.iface u x) n ⟨vs⟩).run P w):
  Xa P σ H w r (Fk P n u λg=>.oth (.call g (a::as) H)):=by
 refine vT λg hm=>Hp (vs:=x::vs) (Vr ha hr) ?_;rw[h,A4 hm]
 congr 2
 apply Array.ext';simp
def Dx(name:String)(cap:Array Value)(r:Value)(as:Array Value):invoke (.fn (.method name) cap) (#[r]++as)=callMethod r name ⟨as.toList⟩:=by
 have h1:(#[r]++as)[0]? =some r:=by rw[Array.getElem?_append_left (by simp)];rfl
 have h2:(#[r]++as).extract 1 (#[r]++as).size=⟨as.toList⟩:=by
  apply Array.ext';simp[Vp]
 simp only[invoke,h1,h2]
def ZeF(hs:WW P σ H w)(hρ:RG P σ tm ρ){o:Oper}{c:Call}(ho:o.op=.call c)(hb: ∀b,c.callee≠.builtin b):XI P σ H w tm ρ o:=by
 unfold XI;rw[ho];have hargs:=wu hρ c.args;have hex:(execOp ρ o).run P w=(do let d<-resolve ρ c o.type;invoke d.target d.args:Sem Next).run P w:=by simp only[execOp,ho]
 rw[hex];show Xa P σ H w _ (bm P c tm H);unfold bm;cases hc:c.callee with
 |builtin b=>exact absurd hc (hb b)
 |invoke rv name=>
  have g:=hρ rv;refine NO (λ_=>trivial) λu a hx=>?_;rw[hx] at g;obtain⟨x,hx',e1⟩:=TW g;refine Dn hx' hargs ?_;simp only[resolve,hc,Sem.run_bind,Sem.run_pure,Result.andThen_ok,Dx,e1]
 |value f=>
  have gen:Xa P σ H w ((do let d<-resolve ρ c o.type;invoke d.target d.args:Sem Next).run P w) (N6 (YZ P f) P (args P c.args) tm H):=by
   have g:=hρ f;unfold N6
   split
   ·rename_i fn a b hx
    rw[hx] at g;obtain⟨x,y,h1,h2,e1⟩:=Mb g;refine Hp (h1.append (hargs.append h2)) ?_;simp only[resolve,hc,e1,Deferred.ofValue,Sem.run_bind,Sem.run_pure,Result.andThen_ok,invoke]
    congr 2
    apply Array.ext';simp
   ·rename_i n rv hx
    rw[hx] at g;simp only[Ym] at g;obtain⟨x,h1,e1⟩:=g;refine NO (λ_=>trivial) λu a hrv=>?_;rw[hrv] at h1;obtain⟨y,hy,e2⟩:=TW h1;refine Dn hy hargs ?_;simp only[resolve,hc,e1,Deferred.ofValue,Sem.run_bind,Sem.run_pure,Result.andThen_ok,e2];exact congrArg (λs=>s.run P w) (Dx n #[] (.iface u y) (Array.map ρ c.args))
   ·rename_i b hx
    rw[hx] at g;simp only[Ym] at g;obtain⟨l,hl,e1⟩:=g;refine⟨rfl,l,_,hl,hargs,?_⟩;simp only[resolve,hc,e1,Deferred.ofValue,Sem.run_bind,Sem.run_pure,Result.andThen_ok,invoke]
    congr 2
    apply Array.ext';simp
   ·trivial
  cases f with
  |func fn=>
   have g:=hρ (.func fn);have g:Ym σ (.func fn [] []) (ρ (.func fn)):=g;obtain⟨x,y,h1,h2,e1⟩:=Mb g;have h1:=h1.nil_inv;have h2:=h2.nil_inv;subst h1;subst h2;refine Hp hargs ?_;simp only[resolve,hc,e1,Deferred.ofValue,Sem.run_bind,Sem.run_pure,Result.andThen_ok,invoke]
   congr 2
   apply Array.ext';simp
  |tmp t=>exact gen
  |const v=>exact gen
  |global v=>exact gen
def BJ{r:Result Next}{a:AV}{x:Value}(ha:Ym σ a x)(h: ∀v,(Instr.panic x).run P w=.halt v w->r=.halt v w):Xa P σ H w r (Pf a .fail λ_ _=>.oth (.pan a H)):=by
 refine NO (λ_=>trivial) λu b hx=>?_;rw[hx] at ha;obtain⟨y,hy,e1⟩:=TW ha;refine⟨rfl,x,by rw[hx];exact ha,h _ ?_⟩;rw[e1];rfl
def Zbm(hs:WW P σ H w)(hρ:RG P σ tm ρ){o:Oper}{x:Operand}(ho:o.op=.panic x):XI P σ H w tm ρ o:=by
 unfold XI;rw[ho];refine BJ (hρ x) λv h=>?_;simp only[execOp,ho];simp[h]
def eZ(hs:WW P σ H w)(hρ:RG P σ tm ρ){o:Oper}{xs:List Operand}{ts:List TypeId}(ho:o.op=.call ⟨.builtin .panic,⟨xs⟩,⟨ts⟩⟩):XI P σ H w tm ρ o:=by
 refine UT ho λcs=>?_;rcases xs with _|⟨x,_|⟨_,_⟩⟩<;>try exact trivial
 refine BJ (hρ x) λv h=>?_;show((do pure (Next.value (<-Instr.panic (ρ x)))):Sem Next).run P w=_;simp[h]
def mL(hs:WW P σ H w)(hρ:RG P σ tm ρ){o:Oper}{xs:List Operand}{ts:List TypeId}(ho:o.op=.call ⟨.builtin .recover,⟨xs⟩,⟨ts⟩⟩):XI P σ H w tm ρ o:=by
 refine UT ho λcs=>?_;rfl
def Zbi(hs:WW P σ H w)(hρ:RG P σ tm ρ){o:Oper}{c:Call}(ho:o.op=.defer c):XI P σ H w tm ρ o:=by
 unfold XI;rw[ho];show Xa P σ H w _ ((match c.callee with|.value f=>AA (YZ P f) (args P c.args)|_=>Ul) tm H);cases hc:c.callee with
 |builtin b=>exact trivial
 |invoke rv name=>exact trivial
 |value f=>
  intro g a b hx;have g1:=hρ f;rw[hx] at g1;obtain⟨x,y,h1,h2,e1⟩:=Mb g1;refine⟨x,_,y,h1,wu hρ c.args,h2,?_⟩;simp only[execOp,ho,resolve,hc,e1,Deferred.ofValue,Sem.run_bind,Sem.run_pure,Result.andThen_ok]
  congr 3
  apply Array.ext';simp
def MX(hs:WW P σ H w)(hρ:RG P σ tm ρ)(o:Oper):XI P σ H w tm ρ o:=by
 cases ho:o.op with
 |move x=>exact ZeJ hs hρ ho
 |assign x=>exact eV hs hρ ho
 |pick c a b=>exact ZeL hs hρ ho
 |alloc t=>exact Zbf hs ho
 |box t x=>exact ZiT hs hρ ho
 |build t ps=>exact Zbg hs hρ ho
 |buildSlice t n ps=>exact eW hs hρ ho
 |load t a=>exact ZeH hs hρ ho
 |store t a x=>exact Zbp hs hρ ho
 |nilCheck x=>exact Zi3 hs hρ ho
 |binOp op t x y u=>cases op with
  |add=>exact ZiS hs hρ ho
  |sub=>exact Zi8 hs hρ ho
  |mul=>exact Zi1 hs hρ ho
  |quo=>exact Zi4 hs hρ ho
  |rem=>exact Zi5 hs hρ ho
  |and=>unfold XI;have h:=CG (f:=SU) hs hρ ho (.inl ⟨rfl,rfl⟩);rw[ho];exact h
  |or=>unfold XI;have h:=CG (f:=zW) hs hρ ho (.inr (.inl ⟨rfl,rfl⟩));rw[ho];exact h
  |xor=>unfold XI;have h:=CG (f:=Zcv) hs hρ ho (.inr (.inr (.inl ⟨rfl,rfl⟩)));rw[ho];exact h
  |andNot=>unfold XI;have h:=CG (f:=Gp) hs hρ ho (.inr (.inr (.inr ⟨rfl,rfl⟩)));rw[ho];exact h
  |shl=>exact Zi6 hs hρ ho
  |shr=>exact Zi7 hs hρ ho
  |eql=>exact ZiV hs hρ ho
  |neq=>exact Zi2 hs hρ ho
  |lss=>exact Zi0 hs hρ ho
  |gtr=>exact ZiX hs hρ ho
  |leq=>exact ZiZ hs hρ ho
  |geq=>exact ZiW hs hρ ho
 |unOp op t x=>exact ZlQ hs hρ ho
 |convert s d x=>exact mG hs hρ ho
 |makeInterface t x=>
  unfold XI;rw[ho];refine Xm λd hu=>?_;have h:=λhd=>ZeI hs hρ ho hu hd;cases d<;>first
   |exact trivial
   |exact h rfl
 |makeFunc fn a b=>exact eY hs hρ ho
 |makeMap t r=>exact mJ hs ho
 |mapUpdate t m k x=>exact Ft hs hρ (.inl ho)
 |insert t m k x=>exact Ft hs hρ (.inr ho)
 |lookup t m k ok=>exact eX hs hρ ho
 |makeSlice t l c=>exact mK hs hρ ho
 |slice t x lo hi mx=>exact Zbo hs hρ ho
 |fieldAddr t x f=>exact uC hs hρ ho
 |field t x f=>exact Zbk hs hρ ho
 |indexAddr t x i=>exact uD hs hρ ho
 |index t x i=>exact Zbl hs hρ ho
 |typeAssert x xt t ok=>exact mF hs hρ ho
 |extract x i=>exact mH hs hρ ho
 |call c=>
  by_cases hb: ∃b,c.callee=.builtin b
  ·obtain⟨b,hb⟩:=hb
   obtain⟨callee,⟨xs⟩,⟨ts⟩⟩:=c;subst hb;cases b with
   |append=>exact eU hs hρ ho
   |copy=>exact ZeG hs hρ ho
   |clear=>exact Zbh hs hρ ho
   |len=>exact ZiY hs hρ ho
   |cap=>exact ZiU hs hρ ho
   |min=>exact xV (mx:=false) hs hρ ho
   |max=>exact xV (mx:=true) hs hρ ho
   |unsafeString=>exact ZeM hs hρ ho
   |unsafeSliceData=>exact db hs hρ ho
   |panic=>exact eZ hs hρ ho
   |recover=>exact mL hs hρ ho
   |_=>unfold XI;rw[ho];exact trivial
  ·exact ZeF hs hρ ho λb h=>hb ⟨b,h⟩
 |defer c=>exact Zbi hs hρ ho
 |panic x=>exact Zbm hs hρ ho
 |range t x=>exact Zbn hs hρ ho
 |next x b=>exact ZeK hs hρ ho
 |_=>unfold XI;rw[ho];exact trivial
end
end
end Go.AI
