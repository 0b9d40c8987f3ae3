/- Code of the interpreter's does what the machine does, in every order that the tape may choose: proved for every world that is told. -/
import Derived.Test.YtobbpmaeiiblaaaGreatDoorP3
import Derived.AtR
import Derived.Recover
import Derived.Orders
set_option maxRecDepth 1000000
set_option maxHeartbeats 0
set_option linter.unusedVariables false
set_option linter.unusedSimpArgs false
namespace Go.AI
open Go
def EndK(K KP:Value→World→Prop):Ending→World→Prop
 | .returned v,w=>K v w
 | .panicked c,w=> ∃v,c=[{v,recovered:=false}]∧KP v w
 | .outgrown,_=>False
def ZCj(P:Program)(l:Nat)(f:FuncId)(tmps:Array Value)(assign body:Code)(w:World)(K:Value→World→Prop):Prop:=
 ∀(fr:Frame) (cs:List Frame),∃v w',K v w'∧Steps P (lone (Frame.round l f tmps assign body .normal) (fr::cs) w) (lone (fr.finish v) cs w')
def Ends(P:Program)(K KP:Value→World→Prop)(r:Result Next):Prop:=match r with
 | .ok (.value v) w=>K v w
 | .ok .skip w=>K undef w
 | .ok (.enter f args) w=>Calls P f args w (EndK K KP)
 | .ok (.round l f tmps assign body) w=>ZCj P l f tmps assign body w K
 | .halt (.panic v) w=>KP v w
 |_=>False
theorem EndK.mono{K KP K' KP':Value→World→Prop}(h: ∀v w,K v w→K' v w)(h': ∀v w,KP v w→KP' v w)(e:Ending)(w:World)(x:EndK K KP e w):EndK K' KP' e w:=by
 cases e with
 |returned v=>exact h v w x
 |panicked c=>obtain⟨v,h1,h2⟩:=x;exact⟨v,h1,h' v w h2⟩
 |outgrown=>exact x
theorem Ends.mono{P:Program}{K KP K' KP':Value→World→Prop}(h: ∀v w,K v w→K' v w)(h': ∀v w,KP v w→KP' v w){r:Result Next}(x:Ends P K KP r):Ends P K' KP' r:=by
 unfold Ends at*
 split
 ·exact h _ _ x
 ·exact h _ _ x
 ·exact Calls.mono x fun e w he=>he.mono h h'
 ·intro fr cs;obtain⟨v,w',h1,h2⟩:=x fr cs;exact⟨v,w',h _ _ h1,h2⟩
 ·exact h' _ _ x
 ·rename_i q1 q2 q3 q4 q5
  split at x
  ·exact absurd rfl (q1 _ _)
  ·exact absurd rfl (q2 _)
  ·exact absurd rfl (q3 _ _ _)
  ·exact absurd rfl (q4 _ _ _ _ _ _)
  ·exact absurd rfl (q5 _ _)
  ·exact x.elim
section
variable {P:Program} {b:Frame} {a:Act} {k:List Item} {cs:List Frame} {w:World} {ops:Array Oper}
theorem Zbq{i:Nat}{rest:List Nat}{o:Oper}(ho:ops[i]? =some o)(hw:Region.wanted o (yielded ops a.tmps)=true)
  (hd: ∀c,o.op≠ .defer c){K KP:Value→World→Prop}(h:Ends P K KP ((execOp a.eval o).run P w)):
  (∃v w',K v w'∧Steps P (lone (b.atR a (.inRegion ops (i::rest)::k)) cs w) (lone (b.atR (a.put o.dst v) (.inRegion ops rest::k)) cs w'))∨
  (∃v w',KP v w'∧Steps P (lone (b.atR a (.inRegion ops (i::rest)::k)) cs w)
   (lone {b.atR a (.inRegion ops (i::rest)::k) with mode:= .panicking [{v,recovered:=false}]} cs w')):=by
 have hg:=stepGR_op (P:=P) (b:=b) (k:=k) (cs:=cs) (w:=w) (rest:=rest) ho hw
 rw[Oper.semAt_eq _ _ _ hd] at hg
 have hfin: ∀v,(b.atR a (.inRegion ops (i::rest)::k)).finish v=b.atR (a.put o.dst v) (.inRegion ops rest::k):=by
  intro v;rw[Frame.finish_atR,ho];rfl
 unfold Ends at h
 split at h
 ·rename_i v w' hr
  refine .inl ⟨v,w',h, .one (step_lone_go ?_)⟩
  rw[hg,←hfin];simp[stepG.apply,hr]
 ·rename_i w' hr
  refine .inl ⟨undef,w',h, .one (step_lone_go ?_)⟩
  rw[hg,←hfin];simp[stepG.apply,hr]
 ·rename_i f args w' hr
  obtain⟨e,w'',fr,hR,hsteps,_,hleave⟩:=h (b.atR a (.inRegion ops (i::rest)::k)::cs)
  have henter:step P (lone (b.atR a (.inRegion ops (i::rest)::k)) cs w)=
    .next (lone (Frame.enter P f args .normal) (b.atR a (.inRegion ops (i::rest)::k)::cs) w'):=
   step_lone_go (by rw[hg];simp[stepG.apply,hr,Frame.atR])
  cases e with
  |returned v=>
   refine .inl ⟨v,w'',hR, .head henter (hsteps.trans (.one ?_))⟩
   rw[←hfin];exact step_leave_returned hleave
  |panicked chain=>
   obtain⟨v,rfl,hR⟩:=hR
   refine .inr ⟨v,w'',hR, .head henter (hsteps.trans (.one ?_))⟩
   rw[←Frame.raise_atR];exact step_leave_panicked hleave
  |outgrown=>exact hR.elim
 ·rename_i l f tmps assign body w' hr
  obtain⟨v,w'',hR,hsteps⟩:=h (b.atR a (.inRegion ops (i::rest)::k)) cs
  have henter:step P (lone (b.atR a (.inRegion ops (i::rest)::k)) cs w)=
    .next (lone (Frame.round l f tmps assign body .normal) (b.atR a (.inRegion ops (i::rest)::k)::cs) w'):=
   step_lone_go (by rw[hg];simp[stepG.apply,hr,Frame.atR])
  refine .inl ⟨v,w'',hR, .head henter ?_⟩
  rw[←hfin];exact hsteps
 ·rename_i v w' hr
  refine .inr ⟨v,w',h, .one (step_lone_go ?_)⟩
  rw[hg,←Frame.raise_atR];simp[stepG.apply,hr]
 ·exact h.elim
theorem ZwB{i:Nat}{rest:List Nat}{o:Oper}(ho:ops[i]? =some o)(hw:Region.wanted o (yielded ops a.tmps)=true)
  (hb:b.roundOf=none){d:Deferred}{w':World}(h:(execOp a.eval o).run P w= .ok (.defer d) w'):
  Steps P (lone (b.atR a (.inRegion ops (i::rest)::k)) cs w) (lone (b.atR ({a with defers:=d::a.defers}.put o.dst undef) (.inRegion ops rest::k)) cs w'):=by
 have hg:=stepGR_op (P:=P) (b:=b) (k:=k) (cs:=cs) (w:=w) (rest:=rest) ho hw
 rw[hb,Oper.semAt_none] at hg
 have hfin:=Frame.finish_atR b {a with defers:=d::a.defers} ops i rest k undef
 rw[ho] at hfin
 refine .one (step_lone_go ?_)
 rw[hg];simp only[stepG.apply,Sem.runT_eq,h,GStep.bare_after]
 exact congrArg (fun fr=>GStep.go {frame:=fr,callers:=cs,status:= .running,dying:=none} w') hfin
theorem Zk5{i:Nat}{rest:List Nat}{o:Oper}(ho:ops[i]? =some o)(hw:Region.wanted o (yielded ops a.tmps)=true)
  (hb:b.roundOf=none){w':World}(h:(execOp a.eval o).run P w= .ok .recover w'){v:Value}{cs':List Frame}
  (hr:(∀fr:Frame,fr.kind=b.kind→tryRecover fr cs=some (v,cs'))∨((∀fr:Frame,fr.kind=b.kind→tryRecover fr cs=none)∧v= .nilIface∧cs'=cs)):
  Steps P (lone (b.atR a (.inRegion ops (i::rest)::k)) cs w) (lone (b.atR (a.put o.dst v) (.inRegion ops rest::k)) cs' w'):=by
 have hg:=stepGR_op (P:=P) (b:=b) (k:=k) (cs:=cs) (w:=w) (rest:=rest) ho hw
 rw[hb,Oper.semAt_none] at hg
 have hfin: ∀v,(b.atR a (.inRegion ops (i::rest)::k)).finish v=b.atR (a.put o.dst v) (.inRegion ops rest::k):=by
  intro v;rw[Frame.finish_atR,ho];rfl
 refine .one (step_lone_go ?_)
 rw[hg,←hfin]
 have hro:(b.atR a (.inRegion ops (i::rest)::k)).roundOf=none:=hb
 rcases hr with hr|⟨hr,rfl,rfl⟩
 ·have:=hr (b.atR a (.inRegion ops (i::rest)::k)) rfl
  simp only[stepG.apply,Sem.runT_eq,h,GStep.bare_after,hro,this];rfl
 ·have:=hr (b.atR a (.inRegion ops (i::rest)::k)) rfl
  simp only[stepG.apply,Sem.runT_eq,h,GStep.bare_after,hro,this];rfl
end
section
variable (P:Program)
def dark(c:Go.Obj):Prop:=match c with| .loop _=>True| .deferred _=>True|_=>False
variable {P}
theorem Tr.dark{σ σ':Mp}{H H':Heap}{w w':World}(hs:Sim P σ H w)(h:Tr P σ H w σ' H' w'){r:Nat}{c:Go.Obj}(hr:w.heap[r]? =some c)(hc:dark c):w'.heap[r]? =some c:=by
 rw[h.frame r (Array.getElem?_eq_some_iff.1 hr).1 ?_];exact hr
 intro b l hw hl e
 obtain⟨_,o,ho,hown,hlp⟩:=hw
 obtain⟨c',hc',hrel⟩:=hs.alive b o l ho hl
 rw[e,hr] at hc'
 cases hc'
 cases o with
 |row r=>obtain⟨cs,fr,rfl,_⟩:=hrel;exact hc
 |map es cl=>obtain⟨en,rfl,_⟩:=hrel;exact hc
 |siter s p=>obtain⟨rfl,_⟩:=hrel;exact hc
 |cmap es=>obtain⟨en,cl,fs,rfl,_⟩:=hrel;exact hc
 |miter m s q=>obtain⟨se,st,rfl,_⟩:=hrel;exact hc
 |loop=>exact hlp rfl
inductive DefRel(σ:Mp)(w:World)(lo:Nat):List (AV×List AV)→List Deferred→Prop
 |nil:DefRel σ w lo [] []
 |call {g:Nat} {p q args:List AV} {x y z:List Value} {l:List (AV×List AV)} {ds:List Deferred}:RelL σ p x→RelL σ args y→RelL σ q z→DefRel σ w lo l ds→
   DefRel σ w lo ((.func g p q,args)::l) ({target:= .fn (.func g) ⟨z⟩,args:=⟨x++y⟩}::ds)
 |mark {r:Nat} {l:List (AV×List AV)} {ds:List Deferred}:lo≤r→w.heap[r]? =some (.deferred (some []))→(∀d∈ds,∀r',d.target= .collected r'→r'≠r)→DefRel σ w lo l ds→
   DefRel σ w lo l ({target:= .collected r,args:= #[]}::ds)
theorem DefRel.mono{σ σ':Mp}{w w':World}{lo:Nat}(he:Ext σ σ')(hd: ∀(r:Nat) (x:Option (List Deferred)),w.heap[r]? =some (.deferred x)→w'.heap[r]? =some (.deferred x)){l:List (AV×List AV)}{ds:List Deferred}(h:DefRel σ w lo l ds):DefRel σ' w' lo l ds:=by
 induction h with
 |nil=>exact .nil
 |call h1 h2 h3 _ ih=>exact .call (h1.mono he) (h2.mono he) (h3.mono he) ih
 |mark h1 h2 h3 _ ih=>exact .mark h1 (hd _ _ h2) h3 ih
theorem DefRel.tr{σ σ':Mp}{H H':Heap}{w w':World}{lo:Nat}(hs:Sim P σ H w)(h:Tr P σ H w σ' H' w'){l:List (AV×List AV)}{ds:List Deferred}(d:DefRel σ w lo l ds):DefRel σ' w' lo l ds:=
 d.mono h.ext fun _ _ hr=>h.dark hs hr trivial
structure RcRel(σ:Mp)(kd:CallKind)(K:Bool→List Frame)(rc:Option AV):Prop where
 no: ∀fr:Frame,fr.kind=kd→tryRecover fr (K false)=none
 yes: ∀v,rc=some v→ ∃u,Rel σ v u∧ ∀fr:Frame,fr.kind=kd→tryRecover fr (K true)=some (u,K false)
theorem RcRel.mono{σ σ':Mp}(he:Ext σ σ'){kd:CallKind}{K:Bool→List Frame}{rc:Option AV}(h:RcRel σ kd K rc):RcRel σ' kd K rc:=
 ⟨h.no,fun v hv=>let ⟨u,h1,h2⟩:=h.yes v hv;⟨u,h1.mono he,h2⟩⟩
structure St(P:Program)(σ:Mp)(b:Frame)(K:Bool→List Frame)(N lo:Nat)(tm:TM)(H:Heap)(x:X)(a:Act)(w:World):Prop where
 sim:Sim P σ H w
 tm:TRel σ N tm a.tmps
 df:DefRel σ w lo x.df a.defers
 rc:RcRel σ b.kind K x.rc
 lo:lo≤w.heap.size
theorem St.step{σ σ':Mp}{b:Frame}{K:Bool→List Frame}{N lo:Nat}{tm tm':TM}{H H':Heap}{x:X}{a a':Act}{w w':World}
  (h:St P σ b K N lo tm H x a w)(t:Tr P σ H w σ' H' w')(ht:TRel σ' N tm' a'.tmps)(hd:a'.defers=a.defers):St P σ' b K N lo tm' H' x a' w':=
 ⟨t.sim,ht,by rw[hd];exact h.df.tr h.sim t,h.rc.mono t.ext,Z6 h.lo t.size⟩
theorem ZhM(a:Act)(d:Option Tmp)(v:Value):(a.put d v).tmps=(match d with|some t=>a.tmps.setIfInBounds t v|none=>a.tmps):=by cases d<;>rfl
theorem Qu(a:Act)(d:Option Tmp)(v:Value):(a.put d v).defers=a.defers:=by cases d<;>rfl
theorem put_old(a:Act)(d:Option Tmp)(v:Value){n:Nat}(h: ∀t,d=some t→n≠t):(a.put d v).tmps[n]? =a.tmps[n]? :=by
 cases d with
 |none=>rfl
 |some t=>exact Array.getElem?_setIfInBounds_ne (fun e=>h t rfl e.symm)
theorem TRel.put{σ:Mp}{N:Nat}{tm:TM}{a:Act}(h:TRel σ N tm a.tmps){d:Option Nat}{v:AV}{u:Value}(hd:okT N d=true)(hr:Rel σ v u):TRel σ N (YZ d tm v) (a.put d u).tmps:=by
 cases d with
 |none=>exact h
 |some t=>exact h.set (ZO hd) hr
def Zdw(P:Program)(σ:Mp)(H:Heap)(w:World)(r:CR)(res:Result Next):Prop:=match r with
 | .fail=>True
 | .ret v H'=>Ends P (fun u w'=> ∃σ',Rel σ' v u∧Tr P σ H w σ' H' w') (fun _ _=>False) res
 | .pan v H'=>Ends P (fun _ _=>False) (fun u w'=> ∃σ',Rel σ' v u∧Tr P σ H w σ' H' w') res
def Qd(P:Program)(call:Nat→List AV→Heap→CR):Prop:=
 ∀f args H σ w vs,Sim P σ H w→RelL σ args vs→Zdw P σ H w (call f args H) ((callFunc f ⟨vs⟩).run P w)
def YldOk(P:Program)(yld:Nat→List AV→Heap→CR)(σ0:Mp)(H0:Heap)(w0:World):Prop:=
 ∀bk args H σ w l vs,Tr P σ0 H0 w0 σ H w→σ bk=some l→RelL σ args vs→Zdw P σ H w (yld bk args H) ((Instr.yield l.blk ⟨vs⟩).run P w)
theorem YldOk.tr{yld:Nat→List AV→Heap→CR}{σ σ':Mp}{H H':Heap}{w w':World}(h:YldOk P yld σ H w)(t:Tr P σ H w σ' H' w'):YldOk P yld σ' H' w':=
 fun bk args H σ w l vs t' h1 h2=>h bk args H σ w l vs (t.trans t') h1 h2
theorem Zk6(σ:Mp)(H:Heap)(w:World):YldOk P Wk σ H w:=fun _ _ _ _ _ _ _ _ _ _=>trivial
def Arr(P:Program)(m:Machine)(b:Frame)(k:List Item)(cs:List Frame)(σ:Mp)(o:Out)(a:Act)(w:World):Prop:=match o with
 | .normal=>Steps P m (lone (b.atR a k) cs w)
 | .exit id=> ∀k',exitTo id k=some k'→Steps P m (lone (b.atR a k') cs w)
 | .ret=>b.roundOf=none→ ∃todo,Steps P m (lone {b.atR a todo with mode:= .returning} cs w)
 | .pan v=> ∃todo u,Rel σ v u∧Steps P m (lone {b.atR a todo with mode:= .panicking [{v:=u,recovered:=false}]} cs w)
theorem Arr.of_steps{m m1:Machine}{b:Frame}{k:List Item}{cs:List Frame}{σ:Mp}{o:Out}{a:Act}{w:World}(h:Steps P m m1)(x:Arr P m1 b k cs σ o a w):Arr P m b k cs σ o a w:=by
 cases o with
 |normal=>exact h.trans x
 |exit id=>exact fun k' hk=>h.trans (x k' hk)
 |ret=>exact fun hb=>let ⟨todo,hs⟩:=x hb;⟨todo,h.trans hs⟩
 |pan v=>obtain⟨todo,u,hu,hs⟩:=x;exact⟨todo,u,hu,h.trans hs⟩
theorem Arr.pass{m:Machine}{b:Frame}{y:Item}{k:List Item}{cs:List Frame}{σ:Mp}{o:Out}{a:Act}{w:World}(hy:y.plain=true)(ho:o≠ .normal)(x:Arr P m b (y::k) cs σ o a w):Arr P m b k cs σ o a w:=by
 cases o with
 |normal=>exact absurd rfl ho
 |exit id=>exact fun k' hk=>x k' (by cases y<;>simp_all [exitTo,Item.plain])
 |ret=>exact x
 |pan v=>exact x
end
end Go.AI
namespace Go.AI
open Go
def ZpC(P:Program)(rng:AV→(List AV→Heap→CR)→TM→Heap→X→Res):Prop:=
 ∀(f:AV) (round:List AV→Heap→CR) (tm:TM) (H:Heap) (x:X) (o:Out) (tm':TM) (H':Heap) (x':X),rng f round tm H x= .ok o tm' H' x'→
 ∀(σ:Mp) (w:World) (b:Frame) (K:Bool→List Frame) (N lo:Nat) (a:Act) (k:List Item) (g:Operand) (ps:Array Tmp) (asg body:Code),
  St P σ b K N lo tm H x a w→b.roundOf=none→Rel σ f (a.eval g)→
  (∀(σ1:Mp) (H1:Heap) (w1:World) (l:Nat) (df:Nat) (ys:List AV) (vs:List Value),Ext σ σ1→Sim P σ1 H1 w1→
   w1.heap[l]? =some (.loop {state:= .ready,pending:=none,fn:=b.fn,tmps:=a.tmps,params:=ps,assign:=asg,body:=body,defers:=df})→RelL σ1 ys vs→
   Zdw P σ1 H1 w1 (round ys H1) ((Instr.yield l ⟨vs⟩).run P w1))→
  ∃σ' a' w',Tr P σ H w σ' H' w'∧St P σ' b K N lo tm' H' x' a' w'∧a'.tmps=a.tmps∧
   Arr P (lone (b.atR a (.code (.rangeFunc g ps asg body)::k)) (K x.rc.isSome) w) b k (K x'.rc.isSome) σ' o a' w'
theorem ZhN(P:Program):ZpC P Vc:=fun _ _ _ _ _ _ _ _ _ h=>by cases h
structure CtxOk(P:Program)(c:Ctx)(b:Frame)(σ:Mp)(H:Heap)(w:World):Prop where
 call:Qd P c.call
 yld:YldOk P c.yld σ H w
 rnd:c.rnd=false→b.roundOf=none
 rng:ZpC P c.rng
 rngN:b.roundOf≠none→c.rng=Vc
theorem CtxOk.tr{P:Program}{c:Ctx}{b:Frame}{σ σ':Mp}{H H':Heap}{w w':World}(h:CtxOk P c b σ H w)(t:Tr P σ H w σ' H' w'):CtxOk P c b σ' H' w':=⟨h.call,h.yld.tr t,h.rnd,h.rng,h.rngN⟩
def Sound(P:Program)(N:Nat)(d:D)(its:List Item)(ds:List Nat):Prop:=
 ∀(c:Ctx) (b:Frame) (K:Bool→List Frame) (lo:Nat) (σ:Mp) (tm:TM) (H:Heap) (x:X) (a:Act) (w:World) (k:List Item) (o:Out) (tm':TM) (H':Heap) (x':X),
  CtxOk P c b σ H w→St P σ b K N lo tm H x a w→d c tm H x= .ok o tm' H' x'→
  ∃σ' a' w',Tr P σ H w σ' H' w'∧St P σ' b K N lo tm' H' x' a' w'∧(∀n,n∉ds→a'.tmps[n]? =a.tmps[n]?)∧
   Arr P (lone (b.atR a (its++k)) (K x.rc.isSome) w) b k (K x'.rc.isSome) σ' o a' w'
section
variable {P:Program} {N:Nat}
theorem Sound.steps{d:D}{its its':List Item}{ds:List Nat}(h:Sound P N d its ds)
  (hs: ∀(b:Frame) (a:Act) (k:List Item) (cs:List Frame) (w:World),Steps P (lone (b.atR a (its'++k)) cs w) (lone (b.atR a (its++k)) cs w)):Sound P N d its' ds:=by
 intro c b K lo σ tm H x a w k o tm' H' x' hc hst he
 obtain⟨σ',a',w',h1,h2,h3,h4⟩:=h c b K lo σ tm H x a w k o tm' H' x' hc hst he
 exact⟨σ',a',w',h1,h2,h3, .of_steps (hs b a k _ w) h4⟩
theorem Zah(its:List Item)(ds:List Nat):Sound P N ZaU its ds:=by
 intro c b K lo σ tm H x a w k o tm' H' x' _ _ he
 cases he
theorem ZgN(ds:List Nat):Sound P N Zb [] ds:=by
 intro c b K lo σ tm H x a w k o tm' H' x' hc hs he
 cases he
 exact⟨σ,a,w,Tr.refl hs.sim,hs,fun _ _=>rfl,Steps.refl P _⟩
theorem Zk7{r:Res}{kk:TM→Heap→X→Res}{o:Out}{tm:TM}{H:Heap}{x:X}(h:ZaP r kk= .ok o tm H x):
  ∃o1 tm1 H1 x1,r= .ok o1 tm1 H1 x1∧((o1= .normal∧kk tm1 H1 x1= .ok o tm H x)∨(o1≠ .normal∧o1=o∧tm1=tm∧H1=H∧x1=x)):=by
 cases r with
 |fail=>cases h
 |ok o1 tm1 H1 x1=>
  refine⟨o1,tm1,H1,x1,rfl,?_⟩
  cases o1 with
  |normal=>exact .inl ⟨rfl,h⟩
  |exit i=>cases h;exact .inr ⟨by simp,rfl,rfl,rfl,rfl⟩
  |ret=>cases h;exact .inr ⟨by simp,rfl,rfl,rfl,rfl⟩
  |pan v=>cases h;exact .inr ⟨by simp,rfl,rfl,rfl,rfl⟩
theorem Arr.passL{m:Machine}{b:Frame}{k:List Item}{cs:List Frame}{σ:Mp}{o:Out}{a:Act}{w:World}(ho:o≠ .normal): ∀{l:List Item},(∀y∈l,Item.plain y=true)→Arr P m b (l++k) cs σ o a w→Arr P m b k cs σ o a w
 |[],_,x=>x
 |y::l,hp,x=>Arr.passL ho (fun z hz=>hp z (ZB _ hz)) (Arr.pass (hp y (Zy ..)) ho x)
theorem ZmW{d e:D}{i1 i2:List Item}{ds es:List Nat}(hp: ∀y∈i2,Item.plain y=true)(h:Sound P N d i1 ds)(h':Sound P N e i2 es):Sound P N (Zg d e) (i1++i2) (ds++es):=by
 intro c b K lo σ tm H x a w k o tm' H' x' hc hs he
 obtain⟨o1,tm1,H1,x1,h1,h2⟩:=Zk7 he
 obtain⟨σ1,a1,w1,t1,s1,u1,arr1⟩:=h c b K lo σ tm H x a w (i2++k) o1 tm1 H1 x1 hc hs h1
 rw[VE]
 rcases h2 with⟨rfl,h2⟩|⟨hne,rfl,rfl,rfl,rfl⟩
 ·obtain⟨σ2,a2,w2,t2,s2,u2,arr2⟩:=h' c b K lo σ1 tm1 H1 x1 a1 w1 k o tm' H' x' (hc.tr t1) s1 h2
  refine⟨σ2,a2,w2,t1.trans t2,s2,fun n hn=>?_, .of_steps arr1 arr2⟩
  rw[ZjX] at hn
  rw[u2 n fun z=>hn (.inr z),u1 n fun z=>hn (.inl z)]
 ·refine⟨σ1,a1,w1,t1,s1,fun n hn=>u1 n fun z=>hn (List.mem_append.2 (.inl z)),?_⟩
  exact Arr.passL hne hp arr1
theorem Zzy{v:AV}{kk:Bool→Res}{o:Out}{tm:TM}{H:Heap}{x:X}(h:ZnV v kk= .ok o tm H x): ∃q,v= .bool q∧kk q= .ok o tm H x:=by
 unfold ZnV at h
 split at h
 ·exact⟨_,rfl,h⟩
 ·cases h
theorem Zrj{q:Operand}{d e:D}{x y:Code}{ds es:List Nat}(h:Sound P N d [.code x] ds)(h':Sound P N e [.code y] es):
  Sound P N (ZD (Yq P q) d e) [.code (.cond q x y)] (ds++es):=by
 intro c b K lo σ tm H X0 a w k o tm' H' x' hc hs he
 obtain⟨t,ht,he⟩:=Zzy he
 have hq:a.eval q= .bool t:=by
  have:=Ze5 hs.sim hs.tm q
  rw[ht] at this
  exact Ul this
 have hst:Steps P (lone (b.atR a ([.code (.cond q x y)]++k)) (K X0.rc.isSome) w) (lone (b.atR a ([.code (if t then x else y)]++k)) (K X0.rc.isSome) w):= .one (stepR_cond hq)
 cases t with
 |true=>
  obtain⟨σ1,a1,w1,t1,s1,u1,arr1⟩:=h c b K lo σ tm H X0 a w k o tm' H' x' hc hs he
  exact⟨σ1,a1,w1,t1,s1,fun n hn=>u1 n fun z=>hn (List.mem_append.2 (.inl z)), .of_steps hst arr1⟩
 |false=>
  obtain⟨σ1,a1,w1,t1,s1,u1,arr1⟩:=h' c b K lo σ tm H X0 a w k o tm' H' x' hc hs he
  exact⟨σ1,a1,w1,t1,s1,fun n hn=>u1 n fun z=>hn (List.mem_append.2 (.inr z)), .of_steps hst arr1⟩
theorem Zt9{id:Nat}{r:Res}{o:Out}{tm:TM}{H:Heap}{x:X}(h:Zaw id r= .ok o tm H x):
  ∃o1,r= .ok o1 tm H x∧((o1= .normal∧o= .normal)∨(∃i,o1= .exit i∧((i=id∧o= .normal)∨(i≠id∧o= .exit i)))∨(o1=o∧(o1= .ret∨ ∃v,o1= .pan v))):=by
 cases r with
 |fail=>cases h
 |ok o1 tm1 H1 x1=>
  cases o1 with
  |normal=>cases h;exact⟨.normal,rfl, .inl ⟨rfl,rfl⟩⟩
  |exit i=>
   change @Bool.rec (fun _=>Res) (.ok (.exit i) tm1 H1 x1) (.ok .normal tm1 H1 x1) (Nat.beq i id)=_ at h
   rw[Ye] at h
   by_cases e:i=id
   ·rw[Zh e] at h;cases h;exact⟨.exit i,rfl, .inr (.inl ⟨i,rfl, .inl ⟨e,rfl⟩⟩)⟩
   ·rw[Zc e] at h;cases h;exact⟨.exit i,rfl, .inr (.inl ⟨i,rfl, .inr ⟨e,rfl⟩⟩)⟩
  |ret=>cases h;exact⟨.ret,rfl, .inr (.inr ⟨rfl, .inl rfl⟩)⟩
  |pan v=>cases h;exact⟨.pan v,rfl, .inr (.inr ⟨rfl, .inr ⟨v,rfl⟩⟩)⟩
theorem ZpD{id:Nat}{d:D}{x:Code}{ds:List Nat}(h:Sound P N d [.code x] ds):Sound P N (Z4 id d) [.code (.block id x)] ds:=by
 intro c b K lo σ tm H X0 a w k o tm' H' x' hc hs he
 obtain⟨o1,h1,h2⟩:=Zt9 he
 obtain⟨σ1,a1,w1,t1,s1,u1,arr1⟩:=h c b K lo σ tm H X0 a w (.inBlock id::k) o1 tm' H' x' hc hs h1
 refine⟨σ1,a1,w1,t1,s1,u1, .of_steps (.one stepR_block) ?_⟩
 rcases h2 with⟨rfl,rfl⟩|⟨i,rfl,⟨rfl,rfl⟩|⟨hi,rfl⟩⟩|⟨rfl,rfl|⟨v,rfl⟩⟩
 ·exact Steps.trans arr1 (.one stepR_inBlock)
 ·exact arr1 k (by simp[exitTo])
 ·refine fun k' hk=>arr1 k' ?_
  have:(id==i)=false:=by simp;exact fun z=>hi z.symm
  simp[exitTo,this,hk]
 ·exact arr1
 ·exact arr1
theorem ZpE{d:D}{x:Code}{ds:List Nat}(h:Sound P N d [.code x] ds): ∀n,Sound P N (fun c tm H y=>WI (d c) n tm H y) [.code x, .inLoop x] ds:=by
 intro n
 induction n with
 |zero=>intro c b K lo σ tm H X0 a w k o tm' H' x' hc hs he;cases he
 |succ n ih=>
  intro c b K lo σ tm H X0 a w k o tm' H' x' hc hs he
  obtain⟨o1,tm1,H1,x1,h1,h2⟩:=Zk7 he
  obtain⟨σ1,a1,w1,t1,s1,u1,arr1⟩:=h c b K lo σ tm H X0 a w (.inLoop x::k) o1 tm1 H1 x1 hc hs h1
  rcases h2 with⟨rfl,h2⟩|⟨hne,rfl,rfl,rfl,rfl⟩
  ·obtain⟨σ2,a2,w2,t2,s2,u2,arr2⟩:=ih c b K lo σ1 tm1 H1 x1 a1 w1 k o tm' H' x' (hc.tr t1) s1 h2
   exact⟨σ2,a2,w2,t1.trans t2,s2,fun n hn=>by rw[u2 n hn,u1 n hn], .of_steps (Steps.trans arr1 (.one stepR_inLoop)) arr2⟩
  ·exact⟨σ1,a1,w1,t1,s1,u1,Arr.pass (y:= .inLoop x) rfl hne arr1⟩
theorem Zrk{d:D}{x:Code}{ds:List Nat}(h:Sound P N d [.code x] ds):Sound P N (Wx d) [.code (.loop x)] ds:=by
 intro c b K lo σ tm H X0 a w k o tm' H' x' hc hs he
 obtain⟨σ1,a1,w1,t1,s1,u1,arr1⟩:=ZpE h c.fuel c b K lo σ tm H X0 a w k o tm' H' x' hc hs he
 exact⟨σ1,a1,w1,t1,s1,u1, .of_steps (.one stepR_loop) arr1⟩
theorem Zrl{id:Nat}(ds:List Nat):Sound P N (WF id) [.code (.exit id)] ds:=by
 intro c b K lo σ tm H X0 a w k o tm' H' x' hc hs he
 cases he
 exact⟨σ,a,w,Tr.refl hs.sim,hs,fun _ _=>rfl,fun _ hk=> .one (stepR_exit hk)⟩
theorem Zua(ds:List Nat):Sound P N Z9 [.code .ret] ds:=by
 intro c b K lo σ tm H X0 a w k o tm' H' x' hc hs he
 cases he
 exact⟨σ,a,w,Tr.refl hs.sim,hs,fun _ _=>rfl,fun hb=>⟨_, .one (stepR_ret hb)⟩⟩
theorem Zrm(ds:List Nat):Sound P N Zb [.code .skip] ds:=(ZgN ds).steps fun _ _ _ _ _=> .one stepR_skip
theorem ZpF(l:Nat)(ds:List Nat):Sound P N Zb [.code (.label l)] ds:=(ZgN ds).steps fun _ _ _ _ _=> .one stepR_label
theorem Zrn{d e:D}{x y:Code}{ds es:List Nat}(h:Sound P N d [.code x] ds)(h':Sound P N e [.code y] es):Sound P N (Zg d e) [.code (.seq x y)] (ds++es):=
 (ZmW (i1:=[.code x]) (i2:=[.code y]) (by simp[Item.plain]) h h').steps fun _ _ _ _ _=> .one stepR_seq
theorem ZpG{b:Frame}{a:Act}{k:List Item}{cs:List Frame}{w:World}{x:Code}:step P (lone (b.atR a (.code (.scope x)::k)) cs w)= .next (lone (b.atR a (.code x:: .inScope x::k)) cs w):=
 step_lone_go (by simp[stepG,stepG.exec,Frame.atR])
theorem Zl3{b:Frame}{a:Act}{k:List Item}{cs:List Frame}{w:World}{x:Code}:step P (lone (b.atR a (.inScope x::k)) cs w)= .next (lone (b.atR a k) cs w):=
 step_lone_go (by simp[stepG,stepG.exec,Frame.atR])
theorem ZpH{d:D}{x:Code}{ds:List Nat}(h:Sound P N d [.code x] ds):Sound P N d [.code (.scope x)] ds:=by
 intro c b K lo σ tm H X0 a w k o tm' H' x' hc hs he
 obtain⟨σ1,a1,w1,t1,s1,u1,arr1⟩:=h c b K lo σ tm H X0 a w (.inScope x::k) o tm' H' x' hc hs he
 refine⟨σ1,a1,w1,t1,s1,u1, .of_steps (.one ZpG) ?_⟩
 cases o with
 |normal=>exact Steps.trans arr1 (.one Zl3)
 |exit id=>exact fun k' hk=>arr1 k' (by simp[exitTo,hk])
 |ret=>exact arr1
 |pan v=>exact arr1
theorem Zod{σ:Mp}{tm:TM}{a:Act}(hρ:Ops P σ tm a.eval){ops:Array Oper}{o:Oper}{e:EvF}{q:Bool}(hg:Ur P ops o=some (e,q)){yes no r:Res}
  (h:VS (e tm) q yes no=r)(hr:r≠ .fail):(Region.wanted o (yielded ops a.tmps)=true∧yes=r)∨(Region.wanted o (yielded ops a.tmps)=false∧no=r):=by
 unfold Ur at hg
 cases ho:o.guard with
 |none=>rw[ho] at hg;cases hg
 |some jb=>
  obtain⟨j,bb⟩:=jb
  rw[ho] at hg
  cases hd:(ops[j]?).bind (·.dst) with
  |none=>simp only[hd,Option.some.injEq,Prod.mk.injEq] at hg;obtain⟨rfl,rfl⟩:=hg;exact absurd h.symm hr
  |some d=>
   simp only[hd,Option.some.injEq,Prod.mk.injEq] at hg
   obtain⟨rfl,rfl⟩:=hg
   have h1:=hρ (.tmp d)
   unfold Region.wanted yielded
   simp only[ho,hd,Option.bind_some]
   generalize Yq P (.tmp d) tm=v at h h1
   unfold VS at h
   split at h
   ·rename_i cv
    have h2:a.tmps.getD d undef= .bool cv:=Ul h1
    have h3:a.tmps[d]? =some (.bool cv):=by
     rw[ZQ] at h2
     cases h4:a.tmps[d]? with
     |none=>rw[h4] at h2;cases h2
     |some u=>rw[h4] at h2;exact congrArg some h2
    rw[h3]
    cases cv<;>cases bb
    ·exact .inl ⟨rfl,h⟩
    ·exact .inr ⟨rfl,h⟩
    ·exact .inr ⟨rfl,h⟩
    ·exact .inl ⟨rfl,h⟩
   ·rename_i vs
    refine .inr ⟨?_,h⟩
    simp only[Rel] at h1
    obtain⟨us,_,h2⟩:=h1
    have h2:a.tmps.getD d undef= .tuple ⟨us⟩:=h2
    rw[ZQ] at h2
    cases h4:a.tmps[d]? with
    |none=>rfl
    |some u=>rw[h4] at h2;have h2:u=_:=h2;subst h2;rfl
   ·exact absurd h.symm hr
theorem Zk8{ops:Array Oper}{o:Oper}(hg:Ur P ops o=none)(y:Nat→Option Bool):Region.wanted o y=true:=by
 unfold Ur at hg
 cases ho:o.guard with
 |none=>unfold Region.wanted;rw[ho]
 |some jb=>
  obtain⟨j,bb⟩:=jb
  rw[ho] at hg
  cases hd:(ops[j]?).bind (·.dst)<;>simp only[hd] at hg<;>cases hg
end
end Go.AI
namespace Go.AI
open Go
section
variable {P:Program} {N:Nat}
theorem Zfc{o:Oper}{tm:TM}{H:Heap}(h: ∀f args,WS P o.op tm H≠ .oth (.defer f args))(h':WS P o.op tm H≠ .oth .fail): ∀c,o.op≠ .defer c:=by
 intro c hc
 rw[hc] at h h'
 cases hcal:c.callee with
 |value f=>exact h (Yq P f tm) (evs tm (args P c.args)) (by simp[WS,hcal,Zix])
 |invoke r m=>exact h' (by simp[WS,hcal,WY])
 |builtin b=>exact h' (by simp[WS,hcal,WY])
theorem ZwC(K:Bool→List Frame){rc:Option AV}{v:AV}(h:rc=some v):K rc.isSome=K true:=by rw[h];rfl
theorem ZpI{ops:Array Oper}{i:Nat}{rest:List Nat}{o:Oper}{next:D}{ds:List Nat}(ho:ops[i]? =some o)(hN:okT N o.dst=true)(hds: ∀t,o.dst=some t→t∈ds)
  (hnext:Sound P N next [.inRegion ops rest] ds){c:Ctx}{b:Frame}{K:Bool→List Frame}{lo:Nat}{σ:Mp}{tm:TM}{H:Heap}{x:X}{a:Act}{w:World}{k:List Item}{out:Out}{tm':TM}{H':Heap}{x':X}
  (hc:CtxOk P c b σ H w)(hs:St P σ b K N lo tm H x a w)(hw:Region.wanted o (yielded ops a.tmps)=true)
  (he:ZaT (next c) (YZ o.dst) c tm H x (WS P o.op tm H)= .ok out tm' H' x'):
  ∃σ' a' w',Tr P σ H w σ' H' w'∧St P σ' b K N lo tm' H' x' a' w'∧(∀n,n∉ds→a'.tmps[n]? =a.tmps[n]?)∧
   Arr P (lone (b.atR a (.inRegion ops (i::rest)::k)) (K x.rc.isSome) w) b k (K x'.rc.isSome) σ' out a' w':=by
 have hok:=Zc6 hs.sim (Ze5 hs.sim hs.tm) o
 unfold YG at hok
 have hnd:=Zfc (P:=P) (o:=o) (tm:=tm) (H:=H)
 have old: ∀(u:Value) (n:Nat),n∉ds→(a.put o.dst u).tmps[n]? =a.tmps[n]? :=fun u n hn=>put_old a o.dst u fun t ht e=>hn (e▸hds t ht)
 have val: ∀(σ1:Mp) (H1:Heap) (w1:World) (v:AV) (u:Value),Tr P σ H w σ1 H1 w1→Rel σ1 v u→next c (YZ o.dst tm v) H1 x= .ok out tm' H' x'→
   Steps P (lone (b.atR a (.inRegion ops (i::rest)::k)) (K x.rc.isSome) w) (lone (b.atR (a.put o.dst u) (.inRegion ops rest::k)) (K x.rc.isSome) w1)→
   ∃σ' a' w',Tr P σ H w σ' H' w'∧St P σ' b K N lo tm' H' x' a' w'∧(∀n,n∉ds→a'.tmps[n]? =a.tmps[n]?)∧
   Arr P (lone (b.atR a (.inRegion ops (i::rest)::k)) (K x.rc.isSome) w) b k (K x'.rc.isSome) σ' out a' w':=by
  intro σ1 H1 w1 v u t1 hr hn hst
  have s1:St P σ1 b K N lo (YZ o.dst tm v) H1 x (a.put o.dst u) w1:=hs.step t1 ((hs.tm.mono t1.ext).put hN hr) (Qu a o.dst u)
  obtain⟨σ2,a2,w2,t2,s2,u2,arr2⟩:=hnext c b K lo σ1 _ H1 x _ w1 k out tm' H' x' (hc.tr t1) s1 hn
  exact⟨σ2,a2,w2,t1.trans t2,s2,fun n hn=>by rw[u2 n hn,old u n hn], .of_steps hst arr2⟩
 have pan: ∀(σ1:Mp) (H1:Heap) (w1:World) (v:AV) (u:Value),Tr P σ H w σ1 H1 w1→Rel σ1 v u→Res.ok (.pan v) tm H1 x= .ok out tm' H' x'→
   Steps P (lone (b.atR a (.inRegion ops (i::rest)::k)) (K x.rc.isSome) w) (lone {b.atR a (.inRegion ops (i::rest)::k) with mode:= .panicking [{v:=u,recovered:=false}]} (K x.rc.isSome) w1)→
   ∃σ' a' w',Tr P σ H w σ' H' w'∧St P σ' b K N lo tm' H' x' a' w'∧(∀n,n∉ds→a'.tmps[n]? =a.tmps[n]?)∧
   Arr P (lone (b.atR a (.inRegion ops (i::rest)::k)) (K x.rc.isSome) w) b k (K x'.rc.isSome) σ' out a' w':=by
  intro σ1 H1 w1 v u t1 hr hn hst
  cases hn
  exact⟨σ1,a,w1,t1,hs.step t1 (hs.tm.mono t1.ext) rfl,fun _ _=>rfl,_,u,hr,hst⟩
 have cro: ∀(r:CR),Zdw P σ H w r ((execOp a.eval o).run P w)→(∀c,o.op≠ .defer c)→ZjZ (next c) (YZ o.dst) tm x r= .ok out tm' H' x'→
   ∃σ' a' w',Tr P σ H w σ' H' w'∧St P σ' b K N lo tm' H' x' a' w'∧(∀n,n∉ds→a'.tmps[n]? =a.tmps[n]?)∧
   Arr P (lone (b.atR a (.inRegion ops (i::rest)::k)) (K x.rc.isSome) w) b k (K x'.rc.isSome) σ' out a' w':=by
  intro r hr hnd he
  cases r with
  |fail=>cases he
  |ret v H1=>
   rcases Zbq (b:=b) (k:=k) (cs:=K x.rc.isSome) (rest:=rest) ho hw hnd hr with⟨u,w1,⟨σ1,h1,h2⟩,hst⟩|⟨u,w1,h1,_⟩
   ·exact val σ1 H1 w1 v u h2 h1 he hst
   ·exact h1.elim
  |pan v H1=>
   rcases Zbq (b:=b) (k:=k) (cs:=K x.rc.isSome) (rest:=rest) ho hw hnd hr with⟨u,w1,h1,_⟩|⟨u,w1,⟨σ1,h1,h2⟩,hst⟩
   ·exact h1.elim
   ·exact pan σ1 H1 w1 v u h2 h1 he hst
 generalize hr:WS P o.op tm H=r at hok he hnd
 cases r with
 |val v H1=>
  obtain⟨σ1,w1,u,hrun,h1,t1⟩:=hok
  have hE:Ends P (fun y w2=>y=u∧w2=w1) (fun _ _=>False) ((execOp a.eval o).run P w):=by
   rcases hrun with hrun|⟨hrun,hu⟩
   ·rw[hrun];exact⟨rfl,rfl⟩
   ·rw[hrun];exact⟨hu.symm,rfl⟩
  rcases Zbq (b:=b) (k:=k) (cs:=K x.rc.isSome) (rest:=rest) ho hw (hnd (fun _ _ h=>by cases h) (fun h=>by cases h)) hE with⟨u',w',⟨rfl,rfl⟩,hst⟩|⟨_,_,h,_⟩
  ·exact val σ1 H1 _ v _ t1 h1 he hst
  ·exact h.elim
 |oth q=>
  cases q with
  |fail=>cases he
  |call f ar H1=>
   obtain⟨rfl,vs,hvs,hrun⟩:=hok
   refine cro _ ?_ (hnd (fun _ _ h=>by cases h) (fun h=>by cases h)) he
   rw[hrun]
   exact hc.call f ar H1 σ w vs hs.sim hvs
  |yield bk ar H1=>
   obtain⟨rfl,l,vs,hl,hvs,hrun⟩:=hok
   refine cro _ ?_ (hnd (fun _ _ h=>by cases h) (fun h=>by cases h)) he
   rw[hrun]
   exact hc.yld bk ar H1 σ w l vs (Tr.refl hs.sim) hl hvs
  |pan v H1=>
   obtain⟨rfl,u,hu,hrun⟩:=hok
   have hE:Ends P (fun _ _=>False) (fun y w2=>y=u∧w2=w) ((execOp a.eval o).run P w):=by rw[hrun];exact⟨rfl,rfl⟩
   rcases Zbq (b:=b) (k:=k) (cs:=K x.rc.isSome) (rest:=rest) ho hw (hnd (fun _ _ h=>by cases h) (fun h=>by cases h)) hE with⟨_,_,h,_⟩|⟨u',w',⟨rfl,rfl⟩,hst⟩
   ·exact h.elim
   ·exact pan σ H1 _ v _ (Tr.refl hs.sim) hu he hst
  |recov=>
   have hok:(execOp a.eval o).run P w= .ok .recover w:=hok
   cases hrnd:c.rnd with
   |true=>simp only[ZaT,ZtN,hrnd] at he;cases he
   |false=>
    have hb:=hc.rnd hrnd
    simp only[ZaT,ZtN,hrnd] at he
    cases hrc:x.rc with
    |some v=>
     rw[hrc] at he
     obtain⟨u,hu,htr⟩:=hs.rc.yes v hrc
     have hst:=Zk5 (P:=P) (k:=k) (cs:=K x.rc.isSome) (rest:=rest) ho hw hb hok (v:=u) (cs':=K false) (.inl (by rw[ZwC K hrc];exact htr))
     have s1:St P σ b K N lo (YZ o.dst tm v) H ⟨x.df,none⟩ (a.put o.dst u) w:=
      ⟨hs.sim,hs.tm.put hN hu,by rw[Qu];exact hs.df,⟨hs.rc.no,fun _ h=>by cases h⟩,hs.lo⟩
     obtain⟨σ2,a2,w2,t2,s2,u2,arr2⟩:=hnext c b K lo σ _ H ⟨x.df,none⟩ _ w k out tm' H' x' hc s1 he
     rw[hrc] at hst
     exact⟨σ2,a2,w2,t2,s2,fun n hn=>by rw[u2 n hn,old u n hn], .of_steps hst arr2⟩
    |none=>
     rw[hrc] at he
     have hst:=Zk5 (P:=P) (k:=k) (cs:=K x.rc.isSome) (rest:=rest) ho hw hb hok (v:= .nilIface) (cs':=K x.rc.isSome) (.inr ⟨by rw[hrc];exact hs.rc.no,rfl,rfl⟩)
     rw[←hrc]
     exact val σ H w .nili .nilIface (Tr.refl hs.sim) (by simp[Rel]) he hst
  |defer f ar=>
   cases hrnd:c.rnd with
   |true=>simp only[ZaT,ZtN,hrnd] at he;split at he<;>cases he
   |false=>
    have hb:=hc.rnd hrnd
    cases f with
    |func g p q=>
     simp only[ZaT,ZtN,hrnd] at he
     obtain⟨xs,ys,zs,h1,h2,h3,hrun⟩:=hok g p q rfl
     have hst:=ZwB (P:=P) (k:=k) (cs:=K x.rc.isSome) (rest:=rest) ho hw hb hrun
     have s1:St P σ b K N lo (YZ o.dst tm Yx) H ⟨(.func g p q,ar)::x.df,x.rc⟩ ({a with defers:={target:= .fn (.func g) ⟨zs⟩,args:=⟨xs++ys⟩}::a.defers}.put o.dst undef) w:=by
      refine⟨hs.sim,?_,?_,hs.rc,hs.lo⟩
      ·have:=hs.tm.put (v:=Yx) (u:=undef) hN (by simp[Yx,undef,Rel,RelL])
       rw[ZhM] at this ⊢
       exact this
      ·rw[Qu];exact .call h1 h2 h3 hs.df
     obtain⟨σ2,a2,w2,t2,s2,u2,arr2⟩:=hnext c b K lo σ _ H ⟨(.func g p q,ar)::x.df,x.rc⟩ _ w k out tm' H' x' hc s1 he
     refine⟨σ2,a2,w2,t2,s2,fun n hn=>?_, .of_steps hst arr2⟩
     rw[u2 n hn]
     have:=old undef n hn
     rw[ZhM] at this ⊢
     exact this
    |_=>simp only[ZaT,ZtN] at he;cases he
theorem ZiS{σ:Mp}:Rel σ Yx undef:=by simp[Yx,undef,Rel,RelL]
theorem ZmX{ops:Array Oper}{ds:List Nat}: ∀(l:List Oper) (j:Nat),(∀i,l[i]? =ops[j+i]?)→(∀o∈l,okT N o.dst=true∧ ∀t,o.dst=some t→t∈ds)→
  Sound P N (Zo8 P ops l) [.inRegion ops (List.range' j l.length)] ds:=by
 intro l
 induction l with
 |nil=>intro j _ _;exact(ZgN ds).steps fun _ _ _ _ _=> .one stepR_region_end
 |cons o l ih=>
  intro j hl hd
  have hnext:=ih (j+1) (fun i=>by have:=hl (i+1);rw[show j+(i+1)=j+1+i by omega] at this;simpa using this) fun o' h=>hd o' (ZB _ h)
  have ho:ops[j]? =some o:=by simpa using (hl 0).symm
  obtain⟨hN,hds⟩:=hd o (Zy ..)
  intro c b K lo σ tm H x a w k out tm' H' x' hc hs he
  show ∃σ' a' w',_∧_∧_∧Arr P (lone (b.atR a (.inRegion ops (List.range' j (l.length+1))::k)) (K x.rc.isSome) w) b k (K x'.rc.isSome) σ' out a' w'
  rw[List.range'_succ]
  unfold Zo8 at he
  cases hg:Ur P ops o with
  |none=>simp only[hg] at he;exact ZpI ho hN hds hnext hc hs (Zk8 hg _) he
  |some gq=>
   obtain⟨g,q⟩:=gq
   simp only[hg] at he
   rcases Zod (Ze5 hs.sim hs.tm) hg he (by simp) with⟨hw,he⟩|⟨hw,he⟩
   ·exact ZpI ho hN hds hnext hc hs hw he
   ·have hst:=stepR_op_skip (P:=P) (b:=b) (a:=a) (k:=k) (cs:=K x.rc.isSome) (w:=w) (ops:=ops) (i:=j) (rest:=List.range' (j+1) l.length) (by rw[ho];exact hw)
    have s1:St P σ b K N lo (YZ o.dst tm Yx) H x (a.put o.dst undef) w:=hs.step (Tr.refl hs.sim) (hs.tm.put hN ZiS) (Qu a o.dst undef)
    obtain⟨σ2,a2,w2,t2,s2,u2,arr2⟩:=hnext c b K lo σ _ H x _ w k out tm' H' x' hc s1 he
    rw[ho] at hst
    exact⟨σ2,a2,w2,t2,s2,fun n hn=>(u2 n hn).trans (put_old a o.dst undef (fun t ht e=>hn (by rw[e];exact hds t ht))), .of_steps (.one hst) arr2⟩
theorem Zoe{id:Nat}{ops:Array Oper}(h:ops.toList.all (fun o=>okT N o.dst)=true):Sound P N (Zo8 P ops ops.toList) [.code (.region id ops false)] (ops.toList.filterMap (·.dst)):=by
 have:=ZmX (P:=P) (N:=N) (ops:=ops) (ds:=ops.toList.filterMap (·.dst)) ops.toList 0 (fun i=>by simp) (fun o ho=>⟨List.all_eq_true.1 h o ho,fun t ht=>List.mem_filterMap.2 ⟨o,ho,ht⟩⟩)
 refine this.steps fun b a k cs w=> .one ?_
 have hr:List.range' 0 ops.toList.length=List.range ops.size:=by rw[List.range_eq_range'];simp
 rw[hr]
 exact stepR_region
end
end Go.AI
namespace Go.AI
open Go
section
theorem Zai(n m:Nat):Nat.testBit (bit n) m=decide (n=m):=Nat.testBit_two_pow
theorem WJ(a b k:Nat):Nat.testBit (Nat.lor a b) k=(Nat.testBit a k||Nat.testBit b k):=Nat.testBit_or a b k
theorem Zj5{a b k:Nat}(h:Nat.beq (Nat.land a b) b=true)(hk:Nat.testBit b k=true):Nat.testBit a k=true:=by
 have h:=ZG h
 have:Nat.testBit (Nat.land a b) k=(Nat.testBit a k&&Nat.testBit b k):=Nat.testBit_and a b k
 rw[h,hk] at this
 simpa using this.symm
theorem ZhO{l:List Nat}{t:Nat}(h:t∈l):Nat.testBit (Zez l) t=true:=by
 induction l with
 |nil=>cases h
 |cons x l ih=>
  show Nat.testBit (Nat.lor (bit x) (Zez l)) t=true
  rw[WJ,Zai]
  rcases List.mem_cons.1 h with e|e
  ·simp[e]
  ·simp[ih e]
def New(q:SI)(pre:List SI):Prop:=
 (∀t,q.d=some t→(∀p∈pre,t∉p.lk∧p.d≠some t)∧t∉q.lk)∨(q.eff=true∧ ∀p∈pre,Nat.testBit q.bef p.i=true∨ ∀t,q.d=some t→t∉p.lk∧p.d≠some t)
def UE:List SI→List SI→Prop
 |_,[]=>True
 |pre,q::l=>(q.eff=true→ ∀r∈l,Nat.testBit r.bef q.i=true)∧New q pre∧(∀t∈q.lk,∀p∈pre,p.d=some t→Nat.testBit q.bef p.i=true)∧
   (∀p∈pre,p.i≠q.i)∧UE (pre++[q]) l
theorem Zub{p:SI}{d:Option Nat}{t:Nat}(h:Zv8 p d=true)(ht:d=some t):t∉p.lk∧p.d≠some t:=by
 subst ht
 unfold Zv8 at h
 have h:cond (p.lk.all fun s=>cond (Nat.beq s t) false true) (match p.d with|some s=>cond (Nat.beq s t) false true|none=>true) false=true:=h
 cases h1:(p.lk.all fun s=>cond (Nat.beq s t) false true) with
 |false=>rw[h1] at h;cases h
 |true=>
  rw[h1] at h
  refine⟨fun hm=>?_,fun hd=>?_⟩
  ·have:=List.all_eq_true.1 h1 t hm
   rw[Yc] at this;cases this
  ·have h:(match p.d with|some s=>cond (Nat.beq s t) false true|none=>true)=true:=h
   rw[hd] at h
   have h:cond (Nat.beq t t) false true=true:=h
   rw[Yc] at h;cases h
theorem Zk9{ws:List (Nat×Nat)}{l0:List SI}: ∀{l:List SI} {em sm im all:Nat},Zd3 ws l0 l em sm im all=true→ ∀r∈l,∀k,Nat.testBit em k=true→Nat.testBit r.bef k=true
 |[],_,_,_,_,_,r,hr,_,_=>by cases hr
 |q::l,em,sm,im,all,h,r,hr,k,hk=>by
  unfold Zd3 at h
  cases h1:Nat.beq (Nat.land q.bef em) em with
  |false=>rw[h1] at h;cases h
  |true=>
   rw[h1] at h
   rcases List.mem_cons.1 hr with e|e
   ·subst e;exact Zj5 h1 hk
   ·cases h2:ZsR l0 q sm im with
    |false=>rw[h2] at h;cases h
    |true=>
     rw[h2] at h
     cases h3:q.lk.all (Zzf ws im q.bef) with
     |false=>rw[h3] at h;cases h
     |true=>
      rw[h3] at h
      cases h4:Nat.testBit im q.i with
      |true=>rw[h4] at h;cases h
      |false=>
       rw[h4] at h
       refine Zk9 h r e k ?_
       cases q.eff
       ·exact hk
       ·show Nat.testBit (Nat.lor em (bit q.i)) k=true
        rw[WJ,hk];rfl
theorem ZhP{ws:List (Nat×Nat)}{l0:List SI}: ∀{l:List SI} {pre:List SI} {em sm im all:Nat},Zd3 ws l0 l em sm im all=true→
  (∀p∈pre++l,p∈l0)→(∀p∈pre++l,∀t,p.d=some t→(t,p.i)∈ws)→(∀p∈pre,(∀t∈p.lk,Nat.testBit sm t=true)∧ ∀t,p.d=some t→Nat.testBit sm t=true)→
  (∀i,Nat.testBit im i=true↔ ∃p∈pre,p.i=i)→UE pre l∧ ∀i,Nat.testBit all i=true↔ ∃p∈pre++l,p.i=i
 |[],pre,em,sm,im,all,h,_,_,_,him=>by
  have h:im=all:=ZG h
  subst h
  exact⟨trivial,by simpa using him⟩
 |q::l,pre,em,sm,im,all,h,hl0,hws,hsm,him=>by
  have hem:=Zk9 h
  unfold Zd3 at h
  cases h1:Nat.beq (Nat.land q.bef em) em with
  |false=>rw[h1] at h;cases h
  |true=>
   rw[h1] at h
   cases h2:ZsR l0 q sm im with
   |false=>rw[h2] at h;cases h
   |true=>
    rw[h2] at h
    cases h3:q.lk.all (Zzf ws im q.bef) with
    |false=>rw[h3] at h;cases h
    |true=>
     rw[h3] at h
     cases h4:Nat.testBit im q.i with
     |true=>rw[h4] at h;cases h
     |false=>
      rw[h4] at h
      have h:Zd3 ws l0 l (cond q.eff (Nat.lor em (bit q.i)) em) (Nat.lor (Nat.lor sm (Zez q.lk)) (ZBV q.d)) (Nat.lor im (bit q.i)) all=true:=h
      have hrec:=ZhP (pre:=pre++[q]) h (by simpa using hl0) (by simpa using hws) ?_ ?_
      ·refine⟨⟨?_,?_,?_,?_,hrec.1⟩,by simpa using hrec.2⟩
       ·intro he r hr
        refine Zk9 h r hr q.i ?_
        rw[he]
        show Nat.testBit (Nat.lor em (bit q.i)) q.i=true
        rw[WJ,Zai];simp
       ·unfold ZsR at h2
        cases h5:dOk q.d (Nat.lor sm (Zez q.lk)) with
        |true=>
         refine .inl fun t ht=>?_
         rw[ht] at h5
         unfold dOk at h5
         have h6:Nat.testBit (Nat.lor sm (Zez q.lk)) t=false:=by
          cases h7:Nat.testBit (Nat.lor sm (Zez q.lk)) t with
          |false=>rfl
          |true=>simp only[h7] at h5;cases h5
         rw[WJ,Bool.or_eq_false_iff] at h6
         refine⟨fun p hp=>⟨fun hm=>?_,fun hm=>?_⟩,fun hm=>?_⟩
         ·rw[(hsm p hp).1 t hm] at h6;exact absurd h6.1 (by decide)
         ·rw[(hsm p hp).2 t hm] at h6;exact absurd h6.1 (by decide)
         ·rw[ZhO hm] at h6;exact absurd h6.2 (by decide)
        |false=>
         rw[h5] at h2
         cases h6:q.eff with
         |false=>rw[h6] at h2;cases h2
         |true=>
          rw[h6] at h2
          refine .inr ⟨by simp[h6],fun p hp=>?_⟩
          have h7:=List.all_eq_true.1 h2 p (hl0 p (List.mem_append.2 (.inl hp)))
          rw[(him p.i).2 ⟨p,hp,rfl⟩] at h7
          cases h8:Nat.testBit q.bef p.i with
          |true=>exact .inl rfl
          |false=>
           rw[h8] at h7
           exact .inr fun t ht=>Zub h7 ht
       ·intro t ht p hp hd
        have h5:=List.all_eq_true.1 h3 t ht
        unfold Zzf at h5
        have h6:=List.all_eq_true.1 h5 (t,p.i) (hws p (List.mem_append.2 (.inl hp)) t hd)
        have h7:Nat.beq t t=true:=Yc t
        have h8:Nat.testBit im p.i=true:=(him p.i).2 ⟨p,hp,rfl⟩
        simp only[h7,h8,cond_true] at h6
        exact h6
       ·intro p hp e
        have:Nat.testBit im q.i=true:=(him q.i).2 ⟨p,hp,e⟩
        rw[h4] at this;cases this
      ·intro p hp
       rcases List.mem_append.1 hp with hp|hp
       ·refine⟨fun t ht=>?_,fun t ht=>?_⟩
        ·rw[WJ,WJ,(hsm p hp).1 t ht];rfl
        ·rw[WJ,WJ,(hsm p hp).2 t ht];rfl
       ·obtain rfl:p=q:=by simpa using hp
        refine⟨fun t ht=>?_,fun t ht=>?_⟩
        ·rw[WJ,WJ,ZhO ht];simp
        ·rw[WJ,ht]
         have:Nat.testBit (ZBV (some t)) t=true:=by show Nat.testBit (bit t) t=true;rw[Zai];simp
         rw[this];simp
      ·intro i
       rw[WJ,Zai,Bool.or_eq_true,him i]
       constructor
       ·rintro (⟨p,hp,e⟩|e)
        ·exact⟨p,List.mem_append.2 (.inl hp),e⟩
        ·exact⟨q,by simp,by simpa using e⟩
       ·rintro ⟨p,hp,e⟩
        rcases List.mem_append.1 hp with hp|hp
        ·exact .inl ⟨p,hp,e⟩
        ·obtain rfl:p=q:=by simpa using hp
         exact .inr (by simpa using e)
theorem Qv: ∀(l:List Oper) (i:Nat) (acc:List (Nat×Nat)) (x:Oper×Nat×Nat),x∈ZnZ l i acc→
  (∃j,l[j]? =some x.1∧x.2.1=i+j)∧ ∃acc',x.2.2=Zgq acc' x.1∧ ∀y∈acc',y∈acc∨ ∃z∈ZnZ l i acc,z.2=y
 |[],_,_,_,h=>by cases h
 |o::l,i,acc,x,h=>by
  unfold ZnZ at h
  rcases List.mem_cons.1 h with e|e
  ·subst e
   exact⟨⟨0,rfl,rfl⟩,acc,rfl,fun y hy=> .inl hy⟩
  ·obtain⟨⟨j,h1,h2⟩,acc',h3,h4⟩:=Qv l (i+1) ((i,Zgq acc o)::acc) x e
   refine⟨⟨j+1,by simpa using h1,by omega⟩,acc',h3,fun y hy=>?_⟩
   unfold ZnZ
   rcases h4 y hy with h5|⟨z,h5,h6⟩
   ·rcases List.mem_cons.1 h5 with h5|h5
    ·exact .inr ⟨(o,i,Zgq acc o),Zy ..,h5.symm⟩
    ·exact .inl h5
   ·exact .inr ⟨z,ZB _ h5,h6⟩
theorem Zro{l:List (Nat×Nat)}{k b:Nat}(h:l.lookup k=some b):(k,b)∈l:=by
 induction l with
 |nil=>cases h
 |cons x l ih=>
  obtain⟨i,c⟩:=x
  rw[List.lookup_cons] at h
  by_cases e:k=i
  ·subst e
   simp at h
   subst h
   exact Zy ..
  ·have:(k==i)=false:=by simpa using e
   rw[this] at h
   exact ZB _ (ih h)
theorem Zrp{acc:List (Nat×Nat)}{o:Oper}{k:Nat}(h:Nat.testBit (Zgq acc o) k=true):
  ∃e∈o.after.toList,Region.binds .any e=true∧(k=e.on∨ ∃b,(e.on,b)∈acc∧Nat.testBit b k=true):=by
 unfold Zgq at h
 have key: ∀(l:List Edge) (s:Nat),Nat.testBit (l.foldl (fun s e=>cond (Region.binds .any e) (Nat.lor (Nat.lor s (Nat.pow 2 e.on)) ((acc.lookup e.on).getD 0)) s) s) k=true→
   Nat.testBit s k=true∨ ∃e∈l,Region.binds .any e=true∧(k=e.on∨ ∃b,(e.on,b)∈acc∧Nat.testBit b k=true):=by
  intro l
  induction l with
  |nil=>intro s h;exact .inl h
  |cons e l ih=>
   intro s h
   rw[List.foldl_cons] at h
   rcases ih _ h with h1|⟨e',h1,h2⟩
   ·cases hb:Region.binds .any e with
    |false=>rw[hb] at h1;exact .inl h1
    |true=>
     rw[hb] at h1
     have h1:Nat.testBit (Nat.lor (Nat.lor s (bit e.on)) ((acc.lookup e.on).getD 0)) k=true:=h1
     rw[WJ,WJ,Zai,Bool.or_eq_true,Bool.or_eq_true] at h1
     rcases h1 with(h1|h1)|h1
     ·exact .inl h1
     ·exact .inr ⟨e,Zy ..,hb, .inl (by simpa using h1|>Zo|>Eq.symm)⟩
     ·cases hl:acc.lookup e.on with
      |none=>rw[hl] at h1;simp at h1
      |some b=>
       rw[hl] at h1
       exact .inr ⟨e,Zy ..,hb, .inr ⟨b,Zro hl,h1⟩⟩
   ·exact .inr ⟨e',ZB _ h1,h2⟩
 rcases key _ 0 h with h1|h1
 ·simp at h1
 ·exact h1
theorem ZgO{l:List Oper}{x:Oper×Nat×Nat}(h:x∈ZnZ l 0 []){k:Nat}(hk:Nat.testBit x.2.2 k=true):
  ∃e∈x.1.after.toList,Region.binds .any e=true∧(k=e.on∨ ∃y∈ZnZ l 0 [],y.2.1=e.on∧Nat.testBit y.2.2 k=true):=by
 obtain⟨_,acc,h1,h2⟩:=Qv l 0 [] x h
 rw[h1] at hk
 obtain⟨e,he,hb,h3⟩:=Zrp hk
 refine⟨e,he,hb,?_⟩
 rcases h3 with h3|⟨b,h3,h4⟩
 ·exact .inl h3
 ·rcases h2 _ h3 with h5|⟨z,h5,h6⟩
  ·cases h5
  ·exact .inr ⟨z,h5,by rw[h6],by rw[h6];exact h4⟩
theorem ZgP: ∀(f:Nat) (l:List SI) (done:Nat),∀q∈ZkD f l done,q∈l
 |0,_,_,q,h=>by cases h
 |f+1,l,done,q,h=>by
  unfold ZkD at h
  dsimp only at h
  split at h
  ·rename_i p hp
   have hp1:p∈l:=(List.mem_filter.1 (List.mem_of_find?_eq_some hp)).1
   rcases List.mem_cons.1 h with e|e
   ·subst e;exact hp1
   ·exact(List.mem_filter.1 (ZgP f _ _ q e)).1
  ·split at h
   ·rename_i p r hp
    have hp1:p∈l:=(List.mem_filter.1 (by rw[hp];exact Zy ..)).1
    rcases List.mem_cons.1 h with e|e
    ·subst e;exact hp1
    ·exact(List.mem_filter.1 (ZgP f _ _ q e)).1
   ·cases h
variable {P:Program}
def Zj6(o:Oper):List Nat:=(Zn0 o.op.operands.toList).filter (fun t=>Nat.ble t 511)
theorem Zfd(o:Oper):W6 o=(Zj6 o).map fun t=>(ZaS t,evT t):=by
 unfold W6 Zj6
 induction Zn0 o.op.operands.toList with
 |nil=>rfl
 |cons t l ih=>
  cases h:Nat.ble t 511 with
  |true=>simp only[List.filterMap_cons,List.filter_cons,h,cond_true,if_true,List.map_cons,ih]
  |false=>simp only[List.filterMap_cons,List.filter_cons,h,cond_false,ih];simp
theorem ZbO{o:Oper}{t:Nat}(h:t∈Zj6 o):t<512:=Nat.lt_succ_of_le (ZO (List.mem_filter.1 h).2)
theorem Zcy{ops:Array Oper}{o:Oper}{t:Nat}(h:t∈Zj6 o):t∈Ql ops o:=List.mem_append.2 (.inl (List.mem_filter.1 h).1)
theorem Zs3: ∀(l:List Nat) (tm:TM) (n:Nat),n<512→(∀t∈l,t<512)→evT n (rsF tm (l.map fun t=>(ZaS t,evT t)))=if n∈l then evT n tm else .unk
 |[],tm,n,hn,_=>by simpa [rsF] using ZsV n
 |t::l,tm,n,hn,hl=>by
  show evT n (ZaS t (rsF tm (l.map fun t=>(ZaS t,evT t))) (evT t tm))=_
  rw[Zhy n t hn (hl t (Zy ..)),Zs3 l tm n hn fun t h=>hl t (ZB _ h)]
  by_cases e:n=t
  ·subst e;simp
  ·simp[e]
theorem ZmY{o:Oper}{tm tm':TM}(h: ∀t∈Zj6 o,evT t tm'=evT t tm):rsF tm' (W6 o)=rsF tm (W6 o):=by
 rw[Zfd]
 generalize Zj6 o=l at h
 induction l with
 |nil=>rfl
 |cons t l ih=>
  show ZaS t (rsF tm' (l.map fun t=>(ZaS t,evT t))) (evT t tm')=ZaS t (rsF tm (l.map fun t=>(ZaS t,evT t))) (evT t tm)
  rw[ih fun t h'=>h t (ZB _ h'),h t (Zy ..)]
theorem ZmZ{n:Nat}{tm:TM}: ∀{l:List Nat},QP n tm (l.map fun t=>(ZaS t,evT t))=true→ ∀t∈l,YA n (evT t tm)=true
 |[],_,t,ht=>by cases ht
 |t'::l,h,t,ht=>by
  have h:cond (YA n (evT t' tm)) (QP n tm (l.map fun t=>(ZaS t,evT t))) false=true:=h
  cases h1:YA n (evT t' tm) with
  |false=>rw[h1] at h;cases h
  |true=>
   rw[h1] at h
   rcases List.mem_cons.1 ht with e|e
   ·subst e;exact h1
   ·exact ZmZ h t e
theorem ZhQ{σ:Mp}{H:Heap}{w:World}(hs:Sim P σ H w){o:Oper}{tm:TM}{a:Act}(h: ∀t∈Zj6 o,Rel σ (evT t tm) (a.tmps.getD t undef)):Ops P σ (rsF tm (W6 o)) a.eval:=by
 refine Ze5 (N:=0) hs ⟨ZX _,fun n hn=>?_⟩
 rw[Zfd,Zs3 _ _ _ hn fun t ht=>ZbO ht]
 by_cases e:n∈Zj6 o
 ·rw[if_pos e];exact h n e
 ·rw[if_neg e];simp[Rel]
end
end Go.AI
namespace Go.AI
open Go
theorem ZM{a b:Bool}(h:cond a b false=true):a=true∧b=true:=by cases a<;>cases b<;>first|exact⟨rfl,rfl⟩|cases h
theorem ZfF{b n:Nat}(h:Nat.ble (Nat.succ b) n=true):b<n:=ZO h
def Mp.cut(σ:Mp)(n:Nat):Mp:=fun b=>if b<n then σ b else none
theorem Mp.cut_lt{σ:Mp}{n b:Nat}(h:b<n):σ.cut n b=σ b:=by unfold Mp.cut;rw[if_pos h]
theorem Mp.cut_some{σ:Mp}{n b:Nat}{l:Loc}(h:σ.cut n b=some l):b<n∧σ b=some l:=by
 unfold Mp.cut at h
 split at h
 ·exact⟨by assumption,h⟩
 ·cases h
mutual
theorem Rel.cut{σ:Mp}{n:Nat}: ∀{a:AV} {v:Value},YA n a=true→Rel σ a v→Rel (σ.cut n) a v
 | .unk,_,_,_=>by simp[Rel]
 | .bool b,v,_,r=>by simpa [Rel] using r
 | .int k n,v,_,r=>by simpa [Rel] using r
 | .str s,v,_,r=>by simpa [Rel] using r
 | .nilp,v,_,r=>by simpa [Rel] using r
 | .ptr b o,v,h,r=>by
  simp only[Rel] at r ⊢
  obtain⟨l,hl,hv⟩:=r
  exact⟨l,by rw[Mp.cut_lt (ZfF h)];exact hl,hv⟩
 | .nils,v,_,r=>by simpa [Rel] using r
 | .slice b o n cap,v,h,r=>by
  simp only[Rel] at r ⊢
  obtain⟨l,hl,hv⟩:=r
  exact⟨l,by rw[Mp.cut_lt (ZfF h)];exact hl,hv⟩
 | .nilm,v,_,r=>by simpa [Rel] using r
 | .map b,v,h,r=>by
  simp only[Rel] at r ⊢
  obtain⟨l,hl,hv⟩:=r
  exact⟨l,by rw[Mp.cut_lt (ZfF h)];exact hl,hv⟩
 | .func f a b,v,h,r=>by
  have h:=ZM h
  simp only[Rel] at r ⊢
  obtain⟨x,y,hx,hy,hv⟩:=r
  exact⟨x,y,RelL.cut h.1 hx,RelL.cut h.2 hy,hv⟩
 | .meth m a,v,h,r=>by
  simp only[Rel] at r ⊢
  obtain⟨x,hx,hv⟩:=r
  exact⟨x,Rel.cut (a:=a) h hx,hv⟩
 | .yield b,v,h,r=>by
  simp only[Rel] at r ⊢
  obtain⟨l,hl,hv⟩:=r
  exact⟨l,by rw[Mp.cut_lt (ZfF h)];exact hl,hv⟩
 | .nilf,v,_,r=>by simpa [Rel] using r
 | .iface t x,v,h,r=>by
  simp only[Rel] at r ⊢
  obtain⟨y,hy,hv⟩:=r
  exact⟨y,Rel.cut (a:=x) h hy,hv⟩
 | .nili,v,_,r=>by simpa [Rel] using r
 | .agg cs,v,h,r=>by
  simp only[Rel] at r ⊢
  obtain⟨vs,hx,h1,hv⟩:=r
  exact⟨vs,RelL.cut (as:=cs) h hx,h1,hv⟩
 | .tup cs,v,h,r=>by
  simp only[Rel] at r ⊢
  obtain⟨vs,hx,hv⟩:=r
  exact⟨vs,RelL.cut (as:=cs) h hx,hv⟩
theorem RelL.cut{σ:Mp}{n:Nat}: ∀{as:List AV} {l:List Value},Zan n as=true→RelL σ as l→RelL (σ.cut n) as l
 |[],l,_,r=>by simpa [RelL] using r
 |a::as,l,h,r=>by
  have h:=ZM h
  simp only[RelL] at r ⊢
  obtain⟨v,vs,h1,h2,h3⟩:=r
  exact⟨v,vs,Rel.cut h.1 h1,RelL.cut h.2 h2,h3⟩
end
section
variable {P:Program}
theorem Sim.cut{σ:Mp}{H:Heap}{w:World}(hs:Sim P σ H w){n:Nat}(hn:P.globals.size≤n):Sim P (σ.cut n) ⟨n, .leaf,n⟩ w:=by
 refine⟨fun b l h=>(Mp.cut_some h).1,fun b o h=>?_,fun b o l h _=>?_,fun b b' o o' l l' h _ _ _ _=>?_,fun g hg=>?_,Zk _⟩
 ·rw[T.get_leaf] at h;cases h
 ·rw[T.get_leaf] at h;cases h
 ·rw[T.get_leaf] at h;cases h
 ·obtain⟨l,h1,h2⟩:=hs.glob g hg
  exact⟨l,by rw[Mp.cut_lt (by omega)];exact h1,h2⟩
theorem Sim.grow{σ:Mp}{H:Heap}{w w1:World}(hs:Sim P σ H w)(h: ∀k,k<w.heap.size→w1.heap[k]? =w.heap[k]?):Sim P σ H w1:=by
 refine⟨hs.dom,hs.low,fun b o l hb hl=>?_,hs.inj,hs.glob,hs.ro⟩
 obtain⟨c,hc,hr⟩:=hs.alive b o l hb hl
 exact⟨c,by rw[h _ (Array.getElem?_eq_some_iff.1 hc).1];exact hc,hr⟩
theorem Sim.ro'{σ:Mp}{H:Heap}{w:World}(hs:Sim P σ H w):Sim P σ ⟨H.nx,H.t,H.nx⟩ w:=⟨hs.dom,hs.low,hs.alive,hs.inj,hs.glob,Zk _⟩
theorem Sim.pendNew{σ:Mp}{H:Heap}{w:World}(hs:Sim P σ H w)(o:Obj):Sim P σ (H.new o) w:=by
 have hf:=hs.fresh (Zk H.nx)
 refine⟨fun b l h=>Nat.lt_succ_of_lt (hs.dom b l h),fun b o' h=>?_,fun b o' l h hl=>?_,fun b b' o1 o2 l l' h h' hl hl'=>?_,hs.glob,Nat.le_succ_of_le hs.ro⟩
 ·rw[Heap.get_new] at h
  show b<H.nx+1
  by_cases e:H.nx=b
  ·omega
  ·rw[if_neg e] at h;exact Nat.lt_succ_of_lt (hs.low b o' h)
 ·rw[Heap.get_new] at h
  by_cases e:H.nx=b
  ·subst e;rw[hf] at hl;cases hl
  ·rw[if_neg e] at h;exact hs.alive b o' l h hl
 ·rw[Heap.get_new] at h h'
  by_cases e:H.nx=b
  ·subst e;rw[hf] at hl;cases hl
  ·by_cases e':H.nx=b'
   ·subst e';rw[hf] at hl';cases hl'
   ·rw[if_neg e] at h;rw[if_neg e'] at h';exact hs.inj b b' o1 o2 l l' h h' hl hl'
structure TrW(σ:Mp)(H:Heap)(w:World)(σ':Mp)(H':Heap)(w':World):Prop where
 ext:Ext σ σ'
 size:w.heap.size≤w'.heap.size
 frame: ∀k,k<w.heap.size→(∀b l,Wr H b→σ b=some l→l.blk≠k)→w'.heap[k]? =w.heap[k]?
 wr: ∀b l,Wr H' b→σ' b=some l→l.blk<w.heap.size→ ∃b0 l0,Wr H b0∧σ b0=some l0∧l0.blk=l.blk
 nx:H.nx≤H'.nx
 ro:H'.ro=H.ro
 low: ∀b,b<H.ro→H'.t.get b=H.t.get b
 tape:w'.tape=w.tape
 os:w'.os=w.os
 out:w'.output=w.output
theorem Tr.toW{σ σ':Mp}{H H':Heap}{w w':World}(h:Tr P σ H w σ' H' w'):TrW σ H w σ' H' w':=⟨h.ext,h.size,h.frame,h.wr,h.nx,h.ro,h.low,h.tape,h.os,h.out⟩
theorem TrW.trans{σ σ' σ'':Mp}{H H' H'':Heap}{w w' w'':World}(h:TrW σ H w σ' H' w')(h':TrW σ' H' w' σ'' H'' w''):TrW σ H w σ'' H'' w'':=by
 refine⟨h.ext.trans h'.ext,Z6 h.size h'.size,?_,?_,Z6 h.nx h'.nx,h'.ro.trans h.ro,?_,h'.tape.trans h.tape,h'.os.trans h.os,h'.out.trans h.out⟩
 ·intro k hk hn
  rw[h'.frame k (ZF hk h.size) ?_,h.frame k hk hn]
  intro b l hw hl e
  obtain⟨b0,l0,hw0,hl0,e0⟩:=h.wr b l hw hl (by rw[e];exact hk)
  exact hn b0 l0 hw0 hl0 (e0.trans e)
 ·intro b l hw hl hlt
  obtain⟨b1,l1,hw1,hl1,e1⟩:=h'.wr b l hw hl (ZF hlt h.size)
  obtain⟨b0,l0,hw0,hl0,e0⟩:=h.wr b1 l1 hw1 hl1 (by rw[e1];exact hlt)
  exact⟨b0,l0,hw0,hl0,e0.trans e1⟩
 ·intro b hb
  rw[h'.low b (by rw[h.ro];exact hb),h.low b hb]
theorem TrW.refl(σ:Mp)(H:Heap)(w:World):TrW σ H w σ H w:=
 ⟨Ext.refl σ,Zk _,fun _ _ _=>rfl,fun b l hw hl _=>⟨b,l,hw,hl,rfl⟩,Zk _,rfl,fun _ _=>rfl,rfl,rfl,rfl⟩
theorem TrW.full{σ σ':Mp}{H H':Heap}{w w':World}(h:TrW σ H w σ' H' w')(hs:Sim P σ' H' w')(hp: ∀b,b<H.nx→σ b=none→H'.t.get b=H.t.get b∧σ' b=none):Tr P σ H w σ' H' w':=
 ⟨h.ext,hs,h.size,h.frame,h.wr,h.nx,h.ro,h.low,h.tape,h.os,h.out,hp⟩
theorem TrW.mem{σ σ':Mp}{H:Heap}{w w':World}(he:Ext σ σ')(hz:w.heap.size≤w'.heap.size)(hf: ∀k,k<w.heap.size→w'.heap[k]? =w.heap[k]?)
  (hnew: ∀b l o,H.t.get b=some o→σ' b=some l→l.blk<w.heap.size→σ b=some l)(ht:w'.tape=w.tape)(hos:w'.os=w.os)(hout:w'.output=w.output):TrW σ H w σ' H w':=
 ⟨he,hz,fun k hk _=>hf k hk,fun b l hw hl hlt=>⟨b,l,hw,let ⟨_,o,ho,_⟩:=hw;hnew b l o ho hl hlt,rfl⟩,Zk _,rfl,fun _ _=>rfl,ht,hos,hout⟩
theorem TrW.pendNew{σ:Mp}{H:Heap}{w:World}(hs:Sim P σ H w)(o:Obj):TrW σ H w σ (H.new o) w:=by
 have hf:=hs.fresh (Zk H.nx)
 refine⟨Ext.refl σ,Zk _,fun _ _ _=>rfl,fun b l hw hl _=>⟨b,l,?_,hl,rfl⟩,Nat.le_succ _,rfl,fun b hb=>?_,rfl,rfl,rfl⟩
 ·obtain⟨h1,o',h2,h3⟩:=hw
  rw[Heap.get_new] at h2
  by_cases e:H.nx=b
  ·subst e;rw[hf] at hl;cases hl
  ·rw[if_neg e] at h2;exact⟨h1,o',h2,h3⟩
 ·have hro:=hs.ro
  show(H.new o).t.get b=_
  rw[Heap.get_new,if_neg (by omega)]
def Wanted(P:Program)(ops:Array Oper)(o:Oper)(tm:TM):Prop:=Ur P ops o=none∨ ∃g q,Ur P ops o=some (g,q)∧g tm= .bool q
def Unwanted(P:Program)(ops:Array Oper)(o:Oper)(tm:TM):Prop:= ∃g q,Ur P ops o=some (g,q)∧(g tm= .bool (!q)∨ ∃vs,g tm= .tup vs)
theorem ZiT{ops:Array Oper}{o:Oper}{tm:TM}{yes no r:Res}(h:ZcH (Ur P ops o) tm yes no=r)(hr:r≠ .fail):(Wanted P ops o tm∧yes=r)∨(Unwanted P ops o tm∧no=r):=by
 unfold ZcH at h
 split at h
 ·rename_i hg;exact .inl ⟨.inl hg,h⟩
 ·rename_i g q hg
  unfold VS at h
  split at h
  ·rename_i cv hv
   cases cv<;>cases q
   ·exact .inl ⟨.inr ⟨g,_,hg,hv⟩,h⟩
   ·exact .inr ⟨⟨g,_,hg, .inl hv⟩,h⟩
   ·exact .inr ⟨⟨g,_,hg, .inl hv⟩,h⟩
   ·exact .inl ⟨.inr ⟨g,_,hg,hv⟩,h⟩
  ·rename_i vs hv
   exact .inr ⟨⟨g,q,hg, .inr ⟨vs,hv⟩⟩,h⟩
  ·exact absurd h.symm hr
theorem Zfe{ops:Array Oper}{o:Oper}{g:EvF}{q:Bool}(h:Ur P ops o=some (g,q)):
  ∃j,o.guard=some (j,q)∧(((ops[j]?).bind (·.dst)=none∧g=k .unk)∨ ∃d,(ops[j]?).bind (·.dst)=some d∧d∈Ql ops o∧((d<512∧g=evT d)∨g=k .unk)):=by
 unfold Ur at h
 cases ho:o.guard with
 |none=>rw[ho] at h;cases h
 |some jb=>
  obtain⟨j,bb⟩:=jb
  rw[ho] at h
  cases hd:(ops[j]?).bind (·.dst) with
  |none=>simp only[hd,Option.some.injEq,Prod.mk.injEq] at h;obtain⟨rfl,rfl⟩:=h;exact⟨j,rfl, .inl ⟨hd,rfl⟩⟩
  |some d=>
   simp only[hd,Option.some.injEq,Prod.mk.injEq] at h
   obtain⟨rfl,rfl⟩:=h
   refine⟨j,rfl, .inr ⟨d,hd,?_,?_⟩⟩
   ·unfold Ql;rw[ho];exact List.mem_append.2 (.inr (by simp[hd]))
   ·show(d<512∧(cond (Nat.ble d 511) (evT d) (k .unk))=evT d)∨(cond (Nat.ble d 511) (evT d) (k .unk))=k .unk
    cases hb:Nat.ble d 511 with
    |true=>exact .inl ⟨Nat.lt_succ_of_le (ZO hb),rfl⟩
    |false=>exact .inr rfl
theorem ZhR{ops:Array Oper}{o:Oper}{g:EvF}{q:Bool}(h:Ur P ops o=some (g,q)){tm tm':TM}(he: ∀t∈Ql ops o,t<512→evT t tm'=evT t tm):g tm'=g tm:=by
 obtain⟨j,_,h1⟩:=Zfe h
 rcases h1 with⟨_,rfl⟩|⟨d,_,hd,⟨hlt,rfl⟩|rfl⟩
 ·rfl
 ·exact he d hd hlt
 ·rfl
theorem Wanted.congr{ops:Array Oper}{o:Oper}{tm tm':TM}(he: ∀t∈Ql ops o,t<512→evT t tm'=evT t tm)(h:Wanted P ops o tm):Wanted P ops o tm':=by
 rcases h with h|⟨g,q,h,h1⟩
 ·exact .inl h
 ·exact .inr ⟨g,q,h,by rw[ZhR h he];exact h1⟩
theorem Unwanted.congr{ops:Array Oper}{o:Oper}{tm tm':TM}(he: ∀t∈Ql ops o,t<512→evT t tm'=evT t tm)(h:Unwanted P ops o tm):Unwanted P ops o tm':=by
 obtain⟨g,q,h,h1⟩:=h
 exact⟨g,q,h,by rw[ZhR h he];exact h1⟩
theorem getD_some{t:Array Value}{d:Nat}{v:Value}(h:t.getD d undef=v)(hv:v≠undef):t[d]? =some v:=by
 rw[ZQ] at h
 cases h4:t[d]? with
 |none=>rw[h4] at h;exact absurd h.symm hv
 |some u=>rw[h4] at h;exact congrArg some h
theorem Wanted.run{ops:Array Oper}{o:Oper}{tm:TM}{σ:Mp}{a:Act}(h:Wanted P ops o tm)(hr: ∀t∈Ql ops o,t<512→Rel σ (evT t tm) (a.tmps.getD t undef)):Region.wanted o (yielded ops a.tmps)=true:=by
 rcases h with h|⟨g,q,h,h1⟩
 ·exact Zk8 h _
 ·obtain⟨j,h2,h3⟩:=Zfe h
  rcases h3 with⟨_,rfl⟩|⟨d,hd,hd1,⟨hlt,rfl⟩|rfl⟩
  ·cases h1
  ·have h4:=hr d hd1 hlt
   rw[h1] at h4
   have h5:=getD_some (Ul h4) (by simp[undef])
   unfold Region.wanted yielded
   rw[h2]
   simp[hd,h5]
  ·cases h1
theorem Unwanted.run{ops:Array Oper}{o:Oper}{tm:TM}{σ:Mp}{a:Act}(h:Unwanted P ops o tm)(hr: ∀t∈Ql ops o,t<512→Rel σ (evT t tm) (a.tmps.getD t undef)):Region.wanted o (yielded ops a.tmps)=false:=by
 obtain⟨g,q,h,h1⟩:=h
 obtain⟨j,h2,h3⟩:=Zfe h
 rcases h3 with⟨_,rfl⟩|⟨d,hd,hd1,⟨hlt,rfl⟩|rfl⟩
 ·rcases h1 with h1|⟨vs,h1⟩<;>cases h1
 ·have h4:=hr d hd1 hlt
  unfold Region.wanted yielded
  rw[h2]
  rcases h1 with h1|⟨vs,h1⟩
  ·rw[h1] at h4
   have h5:=getD_some (Ul h4) (by simp[undef])
   simp[hd,h5]
  ·rw[h1] at h4
   simp only[Rel] at h4
   obtain⟨us,_,h4⟩:=h4
   rw[ZQ] at h4
   simp only[hd,Option.bind_some]
   cases h6:a.tmps[d]? with
   |none=>simp
   |some u=>rw[h6] at h4;have h4:u=_:=h4;subst h4;simp
 ·rcases h1 with h1|⟨vs,h1⟩<;>cases h1
end
end Go.AI
namespace Go.AI
open Go
def Ls(listed:Array Bool)(j:Nat):Prop:=listed.getD j false=true
theorem Ls.set{listed:Array Bool}{i j:Nat}(hi:i<listed.size):Ls (listed.setIfInBounds i true) j↔(j=i∨Ls listed j):=by
 unfold Ls
 by_cases e:i=j
 ·subst e;simp[ZQ,Array.getElem?_setIfInBounds,hi]
 ·rw[ZQ,Array.getElem?_setIfInBounds_ne e,←ZQ]
  constructor
  ·exact .inr
  ·rintro (h|h)
   ·exact absurd h.symm e
   ·exact h
section
variable (P:Program) (ops:Array Oper)
def evD(q:SI)(tm:TM)(v:AV):Prop:= ∀t,q.d=some t→t<512→evT t tm=v
abbrev BS:List (Oper×Nat×Nat):=ZnZ ops.toList 0 []
def DelM(σ:Mp)(n0:Nat)(H:Heap)(A:Nat→Option Nat)(rs:List RD)(tm:TM)(q:SI):Prop:=
 (Unwanted P ops q.x.1 tm∧evD q tm Yx∧A q.i=none)∨
 (Wanted P ops q.x.1 tm∧ ∃n v H1,QP n tm (W6 q.x.1)=true∧n0≤n∧n≤H.nx∧WS P q.x.1.op (rsF tm (W6 q.x.1)) ⟨n, .leaf,n⟩= .val v H1∧evD q tm v∧
  ((A q.i=none∧H1.nx=n)∨(A q.i=some n∧H1.nx=n+1∧σ n=none∧ ∃ob,H1.t.get n=some ob∧wrO ob=true∧H.t.get n=some ob)))∨
 (Wanted P ops q.x.1 tm∧A q.i=none∧ ∃v,(⟨Wf P ops q.x,v⟩:RD)∈rs∧evD q tm v)
structure MS(N:Nat)(ds:List Nat)(σ0:Mp)(H0:Heap)(w0:World)(pre:List SI)(rs:List RD)(tm:TM)(H:Heap)(A:Nat→Option Nat)(σ:Mp)(a0 a:Act)(w:World)(listed:Array Bool):Prop where
 size:listed.size=ops.size
 sub: ∀j,Ls listed j→ ∃q∈pre,q.i=j
 bs: ∀q∈pre,q.x∈BS ops∧q=Zby P ops q.x
 closed: ∀x∈BS ops,Ls listed x.2.1→ ∀k,Nat.testBit x.2.2 k=true→Ls listed k
 effs: ∀q∈pre,q.eff=true→Ls listed q.i
 lk: ∀q∈pre,∀t∈q.lk,∀p∈pre,p.d=some t→Nat.testBit q.bef p.i=true∨p.eff=true∨p.i=q.i
 own: ∀q∈pre,q.eff=false→ ∀t,q.d=some t→t∉q.lk
 idx: ∀q∈pre,∀p∈pre,q.i=p.i→q=p
 glob:P.globals.size≤H0.nx
 sim:Sim P σ H w
 tr:TrW σ0 H0 w0 σ H w
 pend: ∀b,b<H0.nx→σ0 b=none→H.t.get b=H0.t.get b∧σ b=none
 tsz:N≤a.tmps.size
 tmps: ∀n,n<512→(∃q∈pre,¬Ls listed q.i∧q.d=some n)∨Rel σ (evT n tm) (a.tmps.getD n undef)
 old: ∀n,n∉ds→a.tmps[n]? =a0.tmps[n]?
 defers:a.defers=a0.defers
 del: ∀q∈pre,¬Ls listed q.i→DelM P ops σ H0.nx H A rs tm q
 ainj: ∀i j n,A i=some n→A j=some n→i=j
 alow: ∀i n,A i=some n→H0.nx≤n∧n<H.nx
end
section
variable {P:Program} {ops:Array Oper} {N:Nat} {ds:List Nat} {σ0:Mp} {H0:Heap} {w0:World} {pre:List SI} {rs:List RD} {tm:TM} {H:Heap} {A:Nat→Option Nat} {σ:Mp} {a0 a:Act} {w:World} {listed:Array Bool}
theorem MS.before(m:MS P ops N ds σ0 H0 w0 pre rs tm H A σ a0 a w listed){q:SI}(hq:q.x∈BS ops)(hqi:q=Zby P ops q.x)(hr:q.i∈Region.ready .any ops listed):
  ∀k,Nat.testBit q.bef k=true→Ls listed k:=by
 intro k hk
 obtain⟨hn,o,ho,hall⟩:=mem_ready.1 hr
 have hb:q.bef=q.x.2.2:=by rw[hqi];rfl
 have hi:q.i=q.x.2.1:=by rw[hqi];rfl
 rw[hb] at hk
 obtain⟨e,he,hbind,h⟩:=ZgO hq hk
 obtain⟨⟨j,h1,h2⟩,_⟩:=Qv _ _ _ _ hq
 have ho':q.x.1=o:=by
  rw[hi,h2,Zi] at ho
  rw[Z1,ho] at h1
  exact(Option.some.inj h1).symm
 have hl:Ls listed e.on:=hall e (by rw[←ho'];exact Array.mem_toList_iff.1 he) hbind
 rcases h with rfl|⟨y,hy,h3,h4⟩
 ·exact hl
 ·exact m.closed y hy (by rw[h3];exact hl) k h4
theorem MS.oper(m:MS P ops N ds σ0 H0 w0 pre rs tm H A σ a0 a w listed){q:SI}(hq:q∈pre):ops[q.i]? =some q.x.1:=by
 obtain⟨h1,h2⟩:=m.bs q hq
 obtain⟨⟨j,h3,h4⟩,_⟩:=Qv _ _ _ _ h1
 have:q.i=q.x.2.1:=by rw[h2];rfl
 rw[this,h4,Zi,←Z1]
 exact h3
theorem MS.looks(m:MS P ops N ds σ0 H0 w0 pre rs tm H A σ a0 a w listed){q:SI}(hb: ∀k,Nat.testBit q.bef k=true→Ls listed k)
  (hlk: ∀t∈q.lk,∀p∈pre,p.d=some t→Nat.testBit q.bef p.i=true∨p.eff=true∨Ls listed p.i): ∀t∈q.lk,t<512→Rel σ (evT t tm) (a.tmps.getD t undef):=by
 intro t ht hlt
 rcases m.tmps t hlt with⟨p,hp,hnl,hpd⟩|h
 ·rcases hlk t ht p hp hpd with h|h|h
  ·exact absurd (hb _ h) hnl
  ·exact absurd (m.effs p hp h) hnl
  ·exact absurd h hnl
 ·exact h
theorem MS.exec(m:MS P ops N ds σ0 H0 w0 pre rs tm H A σ a0 a w listed){q:SI}(hq:q∈pre)(hr:q.i∈Region.ready .any ops listed)(hd: ∀t,q.d=some t→t∈ds)(hN:okT N q.d=true)
  {σ2:Mp}{w1:World}{u:Value}(he:Ext σ σ2)(hs2:Sim P σ2 H w1)(hz:w.heap.size≤w1.heap.size)(hf: ∀k,k<w.heap.size→w1.heap[k]? =w.heap[k]?)
  (hnew: ∀b l o,H.t.get b=some o→σ2 b=some l→l.blk<w.heap.size→σ b=some l)(ht:w1.tape=w.tape)(hos:w1.os=w.os)(hout:w1.output=w.output)
  (hp: ∀b,b<H.nx→σ b=none→A q.i≠some b→σ2 b=none)(hv: ∀t,q.d=some t→t<512→Rel σ2 (evT t tm) u):
  MS P ops N ds σ0 H0 w0 pre rs tm H A σ2 a0 (a.put q.d u) w1 (listed.setIfInBounds q.i true):=by
 have hi:q.i<listed.size:=by
  rw[m.size]
  exact(Array.getElem?_eq_some_iff.1 (m.oper hq)).1
 have hbef:=m.before (m.bs q hq).1 (m.bs q hq).2 hr
 have hqi:q.i=q.x.2.1:=by have:=(m.bs q hq).2;rw[this];rfl
 have hqb:q.bef=q.x.2.2:=by have:=(m.bs q hq).2;rw[this];rfl
 refine⟨by simpa using m.size,fun j hj=>?_,m.bs,fun x hx hl k hk=>?_,fun p hp' he'=>(Ls.set hi).2 (.inr (m.effs p hp' he')),m.lk,m.own,m.idx,m.glob,hs2,m.tr.trans (TrW.mem he hz hf hnew ht hos hout),?_,?_,?_,?_,?_,?_,m.ainj,m.alow⟩
 ·rcases(Ls.set hi).1 hj with rfl|hj
  ·exact⟨q,hq,rfl⟩
  ·exact m.sub j hj
 ·refine(Ls.set hi).2 (.inr ?_)
  rcases(Ls.set hi).1 hl with e|hl
  ·
   obtain⟨⟨j,h1,h2⟩,acc,h3,h4⟩:=Qv _ _ _ _ hx
   have:q.i∈Region.ready .any ops listed:=hr
   obtain⟨hn,o,ho,hall⟩:=mem_ready.1 hr
   obtain⟨e1,he1,hb1,h5⟩:=ZgO hx hk
   have ho':x.1=o:=by
    rw[←e,h2,Zi] at ho
    rw[Z1,ho] at h1
    exact(Option.some.inj h1).symm
   have hl1:Ls listed e1.on:=hall e1 (by rw[←ho'];exact Array.mem_toList_iff.1 he1) hb1
   rcases h5 with rfl|⟨y,hy,h6,h7⟩
   ·exact hl1
   ·exact m.closed y hy (by rw[h6];exact hl1) k h7
  ·exact m.closed x hx hl k hk
 ·intro b hb hn
  obtain⟨h1,h2⟩:=m.pend b hb hn
  refine⟨h1,hp b (ZF hb m.tr.nx) h2 fun e=>?_⟩
  have:=(m.alow _ _ e).1
  omega
 ·rw[ZhM]
  cases q.d with
  |none=>exact m.tsz
  |some t=>simpa using m.tsz
 ·intro n hn
  by_cases e:q.d=some n
  ·refine .inr ?_
   have hsz:n<a.tmps.size:=by
    rw[e] at hN
    exact ZF (ZO hN) m.tsz
   rw[e]
   show Rel σ2 (evT n tm) ((a.tmps.setIfInBounds n u).getD n undef)
   rw[ZQ,Array.getElem?_setIfInBounds]
   simp only[hsz,if_true]
   exact hv n e hn
  ·have hget:(a.put q.d u).tmps.getD n undef=a.tmps.getD n undef:=by
    rw[ZQ,ZQ,put_old a q.d u fun t ht' e'=>e (by rw[ht',e'])]
   rcases m.tmps n hn with⟨p,hp',hnl,hpd⟩|h
   ·refine .inl ⟨p,hp',fun hl=>?_,hpd⟩
    rcases(Ls.set hi).1 hl with e'|hl
    ·have:p=q:=m.idx p hp' q hq e'
     subst this;exact e hpd
    ·exact hnl hl
   ·exact .inr (by rw[hget];exact h.mono he)
 ·intro n hn
  rw[put_old a q.d u fun t ht' e'=>hn (by rw[e'];exact hd t ht')]
  exact m.old n hn
 ·rw[Qu];exact m.defers
 ·intro p hp' hnl
  have hnl0: ¬Ls listed p.i:=fun h=>hnl ((Ls.set hi).2 (.inr h))
  have hne:p.i≠q.i:=fun h=>hnl ((Ls.set hi).2 (.inl h))
  rcases m.del p hp' hnl0 with h|⟨h1,n,v,H1,h2,h3,h4,h5,h6,h7⟩|h
  ·exact .inl h
  ·refine .inr (.inl ⟨h1,n,v,H1,h2,h3,h4,h5,h6,?_⟩)
   rcases h7 with h7|⟨h7,h8,h9,h10⟩
   ·exact .inl h7
   ·refine .inr ⟨h7,h8,hp n (m.alow _ _ h7).2 h9 fun e=>hne (m.ainj _ _ _ h7 e),h10⟩
  ·exact .inr (.inr h)
theorem Zs4(n:Nat)(b:Nat): ¬Wr ⟨n, .leaf,n⟩ b:=fun h=>by obtain⟨_,o,h,_⟩:=h;rw[T.get_leaf] at h;cases h
theorem ZEz{σ:Mp}{H:Heap}{w:World}(hs:Sim P σ H w)(b:Nat): ¬Wr ⟨H.nx,H.t,H.nx⟩ b:=fun h=>by
 obtain⟨h0,o,h,_⟩:=h
 have h:H.t.get b=some o:=h
 have h0:H.nx≤b:=h0
 have:=hs.low b o h
 omega
theorem Zla{H:Heap}{b:Nat}{o:Obj}(hb:H.t.get b=some o)(hro:H.ro≤b)(h:wrO o=true):Wr H b:=by
 refine⟨hro,o,hb,fun r e=>?_,fun e=>?_⟩
 ·subst e;exact h
 ·subst e;cases h
theorem ZpJ{tm:TM}{H:Heap}: ∀{rs:List RD},still tm H rs=true→ ∀r∈rs,Zo7 r tm H=true
 |[],_,r,hr=>by cases hr
 |r'::rs,h,r,hr=>by
  have h:=ZM (a:=Zo7 r' tm H) (b:=still tm H rs) h
  rcases List.mem_cons.1 hr with e|e
  ·subst e;exact h.1
  ·exact ZpJ h.2 r e
end
end Go.AI
namespace Go.AI
open Go
mutual
theorem Zcz: ∀(a b:AV),same a b=true→a=b
 | .unk,b,h=>by cases b<;>(simp[same] at h)
 | .bool x,b,h=>by
  cases b<;>try (simp[same] at h;done)
  rename_i y;cases x<;>cases y<;>first|rfl|(simp[same] at h)
 | .int k n,b,h=>by
  cases b<;>try (simp[same] at h;done)
  rename_i j m
  have h:cond (kEq k j) (ieq n m) false=true:=by simpa only[same] using h
  obtain⟨h1,h2⟩:=ZM h
  rw[Qo h1]
  rw[ZbB] at h2
  rw[eq_of_beq h2]
 | .str s,b,h=>by
  cases b<;>try (simp[same] at h;done)
  rename_i t
  have h:Zd1 s t=true:=by simpa only[same] using h
  rw[U5] at h
  rw[eq_of_beq h]
 | .nilp,b,h=>by cases b<;>first|rfl|(simp[same] at h)
 | .ptr x o,b,h=>by
  cases b<;>try (simp[same] at h;done)
  rename_i y p
  have h:cond (Nat.beq x y) (Nat.beq o p) false=true:=by simpa only[same] using h
  obtain⟨h1,h2⟩:=ZM h
  rw[ZG h1,ZG h2]
 | .nils,b,h=>by cases b<;>first|rfl|(simp[same] at h)
 | .slice x o n c,b,h=>by
  cases b<;>try (simp[same] at h;done)
  rename_i y p m d
  simp only[same] at h
  obtain⟨h1,h2⟩:=ZM h
  obtain⟨h2,h3⟩:=ZM h2
  obtain⟨h3,h4⟩:=ZM h3
  rw[ZG h1,ZG h2,ZG h3]
  cases c<;>cases d<;>first|rfl|(cases h4;done)|(rw[ZG h4])
 | .nilm,b,h=>by cases b<;>first|rfl|(simp[same] at h)
 | .map x,b,h=>by
  cases b<;>try (simp[same] at h;done)
  rename_i y
  have h:Nat.beq x y=true:=by simpa only[same] using h
  rw[ZG h]
 | .func f x y,b,h=>by
  cases b<;>try (simp[same] at h;done)
  rename_i g z u
  simp only[same] at h
  obtain⟨h1,h2⟩:=ZM h
  obtain⟨h2,h3⟩:=ZM h2
  rw[ZG h1,Zcb x z h2,Zcb y u h3]
 | .meth n r,b,h=>by cases b<;>(simp[same] at h)
 | .yield x,b,h=>by cases b<;>(simp[same] at h)
 | .nilf,b,h=>by cases b<;>first|rfl|(simp[same] at h)
 | .iface t v,b,h=>by
  cases b<;>try (simp[same] at h;done)
  rename_i u y
  simp only[same] at h
  obtain⟨h1,h2⟩:=ZM h
  rw[ZG h1,Zcz v y h2]
 | .nili,b,h=>by cases b<;>first|rfl|(simp[same] at h)
 | .agg x,b,h=>by
  cases b<;>try (simp[same] at h;done)
  rename_i y
  simp only[same] at h
  rw[Zcb x y h]
 | .tup x,b,h=>by
  cases b<;>try (simp[same] at h;done)
  rename_i y
  simp only[same] at h
  rw[Zcb x y h]
theorem Zcb: ∀(a b:List AV),UM a b=true→a=b
 |[],b,h=>by cases b<;>first|rfl|(simp[UM] at h)
 |x::a,b,h=>by
  cases b with
  |nil=>simp[UM] at h
  |cons y b=>
   simp only[UM] at h
   obtain⟨h1,h2⟩:=ZM h
   rw[Zcz x y h1,Zcb a b h2]
end
section
variable {P:Program} {ops:Array Oper} {N:Nat} {ds:List Nat} {σ0:Mp} {H0:Heap} {w0:World} {pre:List SI} {rs:List RD} {tm:TM} {H:Heap} {A:Nat→Option Nat} {σ:Mp} {a0 a:Act} {w:World} {listed:Array Bool}
theorem Zaj{b:Frame}{k:List Item}{cs:List Frame}{i:Nat}{rest:List Nat}{o:Oper}(ho:ops[i]? =some o)(hw:Region.wanted o (yielded ops a.tmps)=true)(hnd: ∀c,o.op≠ .defer c){u:Value}{w1:World}
  (hrun:(execOp a.eval o).run P w= .ok (.value u) w1∨((execOp a.eval o).run P w= .ok .skip w1∧u=undef)):
  Steps P (lone (b.atR a (.inRegion ops (i::rest)::k)) cs w) (lone (b.atR (a.put o.dst u) (.inRegion ops rest::k)) cs w1):=by
 have hE:Ends P (fun y w2=>y=u∧w2=w1) (fun _ _=>False) ((execOp a.eval o).run P w):=by
  rcases hrun with hrun|⟨hrun,hu⟩
  ·rw[hrun];exact⟨rfl,rfl⟩
  ·rw[hrun];exact⟨hu.symm,rfl⟩
 rcases Zbq (b:=b) (k:=k) (cs:=cs) (rest:=rest) ho hw hnd hE with⟨u',w',⟨rfl,rfl⟩,hst⟩|⟨_,_,h,_⟩
 ·exact hst
 ·exact h.elim
theorem Zdx{o:Oper}{tm:TM}{H:Heap}{v:AV}{H1:Heap}(h:WS P o.op tm H= .val v H1): ∀c,o.op≠ .defer c:=
 Zfc (P:=P) (o:=o) (tm:=tm) (H:=H) (fun f ar e=>by rw[h] at e;cases e) (fun e=>by rw[h] at e;cases e)
theorem MS.late(m:MS P ops N ds σ0 H0 w0 pre rs tm H A σ a0 a w listed)(hst:still tm H rs=true){q:SI}(hq:q∈pre)(hnl: ¬Ls listed q.i)(hr:q.i∈Region.ready .any ops listed)
  (hd: ∀t,q.d=some t→t∈ds)(hN:okT N q.d=true)(b:Frame)(k:List Item)(cs:List Frame)(rest:List Nat):
  ∃σ2 a2 w2,MS P ops N ds σ0 H0 w0 pre rs tm H A σ2 a0 a2 w2 (listed.setIfInBounds q.i true)∧
   Steps P (lone (b.atR a (.inRegion ops (q.i::rest)::k)) cs w) (lone (b.atR a2 (.inRegion ops rest::k)) cs w2):=by
 have ho:=m.oper hq
 have hqd:q.d=q.x.1.dst:=by have:=(m.bs q hq).2;rw[this];rfl
 have hqlk:q.lk=Ql ops q.x.1:=by have:=(m.bs q hq).2;rw[this];rfl
 have hbef:=m.before (m.bs q hq).1 (m.bs q hq).2 hr
 have hneff:q.eff=false:=by
  cases e:q.eff with
  |false=>rfl
  |true=>exact absurd (m.effs q hq e) hnl
 have hlook: ∀t∈Ql ops q.x.1,t<512→Rel σ (evT t tm) (a.tmps.getD t undef):=by
  rw[←hqlk]
  refine m.looks hbef fun t ht p hp hpd=>?_
  rcases m.lk q hq t ht p hp hpd with h|h|h
  ·exact .inl h
  ·exact .inr (.inl h)
  ·have:p=q:=m.idx p hp q hq h
   subst this
   exact absurd ht (m.own p hp hneff t hpd)
 have hglobn: ∀n,H0.nx≤n→P.globals.size≤n:=fun n hn=>Z6 m.glob hn
 rcases m.del q hq hnl with⟨hu,hv,hA⟩|⟨hw,n,v,H1,hlow,h0n,hnH,hf,hv,hcase⟩|⟨hw,hA,v,hmem,hv⟩
 ·
  refine⟨σ,a.put q.d undef,w,m.exec hq hr hd hN (Ext.refl σ) m.sim (Zk _) (fun _ _=>rfl) (fun _ _ _ _ h _=>h) rfl rfl rfl (fun _ _ h _=>h) fun t ht hlt=>by rw[hv t ht hlt];exact ZiS,?_⟩
  have hun:=hu.run (a:=a) (σ:=σ) hlook
  have hst:=stepR_op_skip (P:=P) (b:=b) (a:=a) (k:=k) (cs:=cs) (w:=w) (ops:=ops) (i:=q.i) (rest:=rest) (by rw[ho];exact hun)
  rw[ho] at hst
  rw[hqd]
  exact .one hst
 ·
  have hwr:=hw.run (a:=a) (σ:=σ) hlook
  have hsc:=m.sim.cut (hglobn n h0n)
  have hops:Ops P (σ.cut n) (rsF tm (W6 q.x.1)) a.eval:=ZhQ hsc fun t ht=>by
   rw[Zfd] at hlow
   exact(hlook t (Zcy ht) (ZbO ht)).cut (ZmZ hlow t ht)
  have hok:=Zc6 hsc hops q.x.1
  unfold YG at hok
  rw[hf] at hok
  obtain⟨σ1,w1,u,hrun,hrel,t1⟩:=hok
  have hstep:=Zaj (b:=b) (k:=k) (cs:=cs) (rest:=rest) ho hwr (Zdx hf) hrun
  have hfr: ∀j,j<w.heap.size→w1.heap[j]? =w.heap[j]? :=fun j hj=>t1.frame j hj fun c l hc _=>absurd hc (Zs4 n c)
  have hlt: ∀c l,c<n→σ1 c=some l→σ c=some l:=by
   intro c l hc hl
   cases e:σ c with
   |none=>
    have:=(t1.pend c hc (by rw[Mp.cut_lt hc];exact e)).2
    rw[this] at hl;cases hl
   |some l'=>
    have:=t1.ext c l' (by rw[Mp.cut_lt hc];exact e)
    rw[this] at hl
    rw[←hl]
  rcases hcase with⟨hA,hnx⟩|⟨hA,hnx,hσn,ob,hob,hwro,hHob⟩
  ·have hext:Ext σ1 σ:=fun c l hl=>hlt c l (by have:=t1.sim.dom c l hl;rw[hnx] at this;exact this) hl
   refine⟨σ,a.put q.d u,w1,m.exec hq hr hd hN (Ext.refl σ) (m.sim.grow hfr) t1.size hfr (fun _ _ _ _ h _=>h) t1.tape t1.os t1.out (fun _ _ h _=>h) (fun t ht hlt'=>by rw[hv t ht hlt'];exact hrel.mono hext),?_⟩
   rw[hqd];exact hstep
  ·
   let σ2:Mp:=fun c=>if c=n then σ1 n else σ c
   have e2: ∀c,c≠n→σ2 c=σ c:=fun c hc=>if_neg hc
   have e2n:σ2 n=σ1 n:=if_pos rfl
   have hext1:Ext σ1 σ2:=by
    intro c l hl
    by_cases e:c=n
    ·subst e;rw[e2n];exact hl
    ·rw[e2 c e]
     refine hlt c l ?_ hl
     have:=t1.sim.dom c l hl
     rw[hnx] at this
     omega
   have hext:Ext σ σ2:=by
    intro c l hl
    rw[e2 c fun e=>by rw[e,hσn] at hl;cases hl]
    exact hl
   have hnl1:n<H.nx:=(m.alow _ _ hA).2
   have hro1:H1.ro=n:=t1.ro
   have hblk: ∀l,σ1 n=some l→w.heap.size≤l.blk:=by
    intro l hl
    refine Nat.le_of_not_lt fun hlt'=>?_
    obtain⟨b0,l0,h,_⟩:=t1.wr n l (Zla hob (by rw[hro1];exact Zk _) hwro) hl hlt'
    exact Zs4 n b0 h
   have hs2:Sim P σ2 H w1:=by
    refine⟨fun c l hl=>?_,m.sim.low,fun c o l hc hl=>?_,fun c c' o o' l l' hc hc' hl hl' e=>?_,fun g hg=>?_,m.sim.ro⟩
    ·by_cases e:c=n
     ·subst e;exact hnl1
     ·rw[e2 c e] at hl;exact m.sim.dom c l hl
    ·by_cases e:c=n
     ·subst e
      rw[hHob] at hc;cases hc
      rw[e2n] at hl
      obtain⟨co,h1,h2⟩:=t1.sim.alive c _ l hob hl
      exact⟨co,h1,h2.mono hext1⟩
     ·rw[e2 c e] at hl
      obtain⟨co,h1,h2⟩:=m.sim.alive c o l hc hl
      exact⟨co,by rw[hfr _ (Array.getElem?_eq_some_iff.1 h1).1];exact h1,h2.mono hext⟩
    ·by_cases e1:c=n<;>by_cases e3:c'=n
     ·exact .inl (by rw[e1,e3])
     ·subst e1
      rw[e2n] at hl
      rw[e2 c' e3] at hl'
      have h1:=m.sim.blk_lt hc' hl'
      have h2:=hblk l hl
      omega
     ·subst e3
      rw[e2n] at hl'
      rw[e2 c e1] at hl
      have h1:=m.sim.blk_lt hc hl
      have h2:=hblk l' hl'
      omega
     ·rw[e2 c e1] at hl
      rw[e2 c' e3] at hl'
      exact m.sim.inj c c' o o' l l' hc hc' hl hl' e
    ·obtain⟨l,h1,h2⟩:=m.sim.glob g hg
     exact⟨l,hext g l h1,h2⟩
   refine⟨σ2,a.put q.d u,w1,m.exec hq hr hd hN hext hs2 t1.size hfr (fun c l o hc hl hlt'=>?_) t1.tape t1.os t1.out (fun c _ hn hA'=>?_) (fun t ht hlt'=>by rw[hv t ht hlt'];exact hrel.mono hext1),?_⟩
   ·by_cases e:c=n
    ·subst e
     rw[e2n] at hl
     have:=hblk l hl
     omega
    ·rw[e2 c e] at hl;exact hl
   ·rw[e2 c fun e=>hA' (by rw[hA,e])];exact hn
   ·rw[hqd];exact hstep
 ·
  have hwr:=hw.run (a:=a) (σ:=σ) hlook
  have hops:Ops P σ (rsF tm (W6 q.x.1)) a.eval:=ZhQ m.sim fun t ht=>hlook t (Zcy ht) (ZbO ht)
  have hrd:=ZpJ hst _ hmem
  unfold Zo7 at hrd
  have hpf:(⟨Wf P ops q.x,v⟩:RD).p.f (rsF tm (⟨Wf P ops q.x,v⟩:RD).p.os) ⟨H.nx,H.t,H.nx⟩=WS P q.x.1.op (rsF tm (W6 q.x.1)) ⟨H.nx,H.t,H.nx⟩:=rfl
  rw[hpf] at hrd
  have hok:=Zc6 m.sim.ro' hops q.x.1
  unfold YG at hok
  generalize hf:WS P q.x.1.op (rsF tm (W6 q.x.1)) ⟨H.nx,H.t,H.nx⟩=r at hrd hok
  cases r with
  |oth _=>cases hrd
  |val v' H1=>
   have hrd:cond (Nat.beq H1.nx H.nx) (same v' v) false=true:=hrd
   obtain⟨h1,h2⟩:=ZM hrd
   have hnx:H1.nx=H.nx:=ZG h1
   have:=Zcz _ _ h2
   subst this
   obtain⟨σ1,w1,u,hrun,hrel,t1⟩:=hok
   have hstep:=Zaj (b:=b) (k:=k) (cs:=cs) (rest:=rest) ho hwr (Zdx hf) hrun
   have hfr: ∀j,j<w.heap.size→w1.heap[j]? =w.heap[j]? :=fun j hj=>t1.frame j hj fun c l hc _=>absurd hc (ZEz m.sim c)
   have hext:Ext σ1 σ:=by
    intro c l hl
    have hc:c<H.nx:=by have:=t1.sim.dom c l hl;rw[hnx] at this;exact this
    cases e:σ c with
    |none=>
     have:=(t1.pend c hc e).2
     rw[this] at hl;cases hl
    |some l'=>
     have:=t1.ext c l' e
     rw[this] at hl
     rw[←hl]
   refine⟨σ,a.put q.d u,w1,m.exec hq hr hd hN (Ext.refl σ) (m.sim.grow hfr) t1.size hfr (fun _ _ _ _ h _=>h) t1.tape t1.os t1.out (fun _ _ h _=>h) (fun t ht hlt'=>by rw[hv t ht hlt'];exact hrel.mono hext),?_⟩
   rw[hqd];exact hstep
end
end Go.AI
namespace Go.AI
open Go
theorem Q1(d:Option Nat)(tm:TM)(v:AV){n:Nat}(hn:n<512):evT n (YZ d tm v)=if d=some n then v else evT n tm:=by
 cases d with
 |none=>simp[YZ,d0]
 |some t=>
  show evT n ((cond (Nat.ble t 511) (ZaS t) d0) tm v)=_
  cases hb:Nat.ble t 511 with
  |true=>
   have:t<512:=Nat.lt_succ_of_le (ZO hb)
   show evT n (ZaS t tm v)=_
   rw[Zhy n t hn this]
   by_cases e:n=t
   ·subst e;simp
   ·rw[if_neg e,if_neg (fun h=>e (Option.some.inj h).symm)]
  |false=>
   show evT n tm=_
   rw[if_neg]
   intro e
   cases e
   rw[show Nat.ble n 511=true from Zl (by omega)] at hb
   cases hb
theorem ZiU{bef:Nat}{r:RD}: ∀{rs:List RD},r∈rs→Nat.testBit bef r.p.i=false→r∈Vt bef rs
 |[],h,_=>by cases h
 |r'::rs,h,hb=>by
  show r∈cond (Nat.testBit bef r'.p.i) (Vt bef rs) (r'::Vt bef rs)
  rcases List.mem_cons.1 h with e|e
  ·subst e;rw[hb];exact Zy ..
  ·cases Nat.testBit bef r'.p.i with
   |true=>exact ZiU e hb
   |false=>exact ZB _ (ZiU e hb)
section
variable {P:Program} {ops:Array Oper} {N:Nat} {ds:List Nat} {σ0:Mp} {H0:Heap} {w0:World} {pre:List SI} {rs:List RD} {tm:TM} {H:Heap} {A:Nat→Option Nat} {σ:Mp} {a0 a:Act} {w:World} {listed:Array Bool}
theorem DelM.move{n0:Nat}{q:SI}{σ':Mp}{H':Heap}{A':Nat→Option Nat}{rs':List RD}{tm':TM}(h:DelM P ops σ n0 H A rs tm q)(hq:q.lk=Ql ops q.x.1)
  (h1: ∀t∈q.lk,t<512→evT t tm'=evT t tm)(h2: ∀t,q.d=some t→t<512→evT t tm'=evT t tm)(hn:H.nx≤H'.nx)
  (hrs: ∀v,(⟨Wf P ops q.x,v⟩:RD)∈rs→(⟨Wf P ops q.x,v⟩:RD)∈rs')(hA:A' q.i=A q.i)(hget: ∀n,A q.i=some n→σ n=none→H'.t.get n=H.t.get n∧σ' n=none):
  DelM P ops σ' n0 H' A' rs' tm' q:=by
 have hl: ∀t∈Ql ops q.x.1,t<512→evT t tm'=evT t tm:=by rw[←hq];exact h1
 have hrsF:rsF tm' (W6 q.x.1)=rsF tm (W6 q.x.1):=ZmY fun t ht=>hl t (Zcy ht) (ZbO ht)
 have hev: ∀v,evD q tm v→evD q tm' v:=fun v hv t ht hlt=>by rw[h2 t ht hlt];exact hv t ht hlt
 have hlow: ∀n,QP n tm' (W6 q.x.1)=QP n tm (W6 q.x.1):=by
  intro n
  have hs: ∀t∈Zj6 q.x.1,evT t tm'=evT t tm:=fun t ht=>hl t (Zcy ht) (ZbO ht)
  rw[Zfd]
  generalize Zj6 q.x.1=l at hs
  induction l with
  |nil=>rfl
  |cons t l ih=>
   show cond (YA n (evT t tm')) (QP n tm' (l.map fun t=>(ZaS t,evT t))) false=cond (YA n (evT t tm)) (QP n tm (l.map fun t=>(ZaS t,evT t))) false
   rw[ih fun t h=>hs t (ZB _ h),hs t (Zy ..)]
 rcases h with⟨u1,u2,u3⟩|⟨u1,n,v,H1,u2,u3,u4,u5,u6,u7⟩|⟨u1,u2,v,u3,u4⟩
 ·exact .inl ⟨u1.congr hl,hev _ u2,by rw[hA];exact u3⟩
 ·refine .inr (.inl ⟨u1.congr hl,n,v,H1,by rw[hlow];exact u2,u3,Z6 u4 hn,by rw[hrsF];exact u5,hev _ u6,?_⟩)
  rcases u7 with⟨u7,u8⟩|⟨u7,u8,u9,ob,u10,u11,u12⟩
  ·exact .inl ⟨by rw[hA];exact u7,u8⟩
  ·obtain⟨g1,g2⟩:=hget n u7 u9
   exact .inr ⟨by rw[hA];exact u7,u8,g2,ob,u10,u11,by rw[g1];exact u12⟩
 ·exact .inr (.inr ⟨u1.congr hl,by rw[hA];exact u2,v,hrs v u3,hev _ u4⟩)
theorem ZpK{q:SI}(h:q=Zby P ops q.x):q.lk=Ql ops q.x.1:=by rw[h];rfl
theorem ZhS{q:SI}(h:q=Zby P ops q.x):q.d=q.x.1.dst:=by rw[h];rfl
theorem Zof{q:SI}(h:q=Zby P ops q.x):q.eff=Zo9 (ZaW P q.x.1.op):=by rw[h];rfl
theorem ZG4{q:SI}(h:q=Zby P ops q.x):q.i=(Wf P ops q.x).i:=by rw[h];rfl
theorem ZiV{q:SI}(h:q=Zby P ops q.x):q.bef=(Wf P ops q.x).bef:=by rw[h];rfl
theorem MS.plan(m:MS P ops N ds σ0 H0 w0 pre rs tm H A σ a0 a w listed){q:SI}{l:List SI}(hpl:UE pre (q::l))(hq:q.x∈BS ops)(hqx:q=Zby P ops q.x)(hne:q.eff=false)
  {rs':List RD}{v:AV}{H':Heap}{A':Nat→Option Nat}(hH:H'=H∨ ∃o,H'=H.new o)(hrs: ∀r∈rs,r∈rs')(hA: ∀i,i≠q.i→A' i=A i)
  (hA2:A' q.i=none∨(A' q.i=some H.nx∧ ∃o,H'=H.new o))(hnew:DelM P ops σ H0.nx H' A' rs' (YZ q.d tm v) q):
  MS P ops N ds σ0 H0 w0 (pre++[q]) rs' (YZ q.d tm v) H' A' σ a0 a w listed:=by
 obtain⟨_,hnw,hlk,hidx,_⟩:=hpl
 have hnw: ∀t,q.d=some t→(∀p∈pre,t∉p.lk∧p.d≠some t)∧t∉q.lk:=by
  rcases hnw with h|⟨h,_⟩
  ·exact h
  ·rw[hne] at h;cases h
 have hnx:H.nx≤H'.nx:=by rcases hH with rfl|⟨o,rfl⟩;exact Zk _;exact Nat.le_succ _
 have hold: ∀b,b<H.nx→H'.t.get b=H.t.get b:=by
  intro b hb
  rcases hH with rfl|⟨o,rfl⟩
  ·rfl
  ·rw[Heap.get_new,if_neg (by omega)]
 have hsim:Sim P σ H' w:=by rcases hH with rfl|⟨o,rfl⟩;exact m.sim;exact m.sim.pendNew o
 have htr:TrW σ0 H0 w0 σ H' w:=by rcases hH with rfl|⟨o,rfl⟩;exact m.tr;exact m.tr.trans (TrW.pendNew m.sim o)
 have hmem: ∀{p:SI},p∈pre++[q]→p∈pre∨p=q:=fun{p} h=>by rcases List.mem_append.1 h with h|h;exact .inl h;exact .inr (by simpa using h)
 have hinq:q∈pre++[q]:=List.mem_append.2 (.inr (by simp))
 have hnlq: ¬Ls listed q.i:=fun h=>by obtain⟨p,hp,e⟩:=m.sub _ h;exact hidx p hp e
 refine⟨m.size,fun j hj=>?_,fun p hp=>?_,m.closed,fun p hp he=>?_,fun q1 hq1 t ht p hp hpd=>?_,fun p hp he t ht=>?_,fun q1 hq1 p hp e=>?_,m.glob,hsim,htr,fun b hb hn=>?_,m.tsz,fun n hn=>?_,m.old,m.defers,fun p hp hnl=>?_,fun i j n hi hj=>?_,fun i n hi=>?_⟩
 ·obtain⟨p,hp,e⟩:=m.sub j hj
  exact⟨p,List.mem_append.2 (.inl hp),e⟩
 ·rcases hmem hp with hp|rfl
  ·exact m.bs p hp
  ·exact⟨hq,hqx⟩
 ·rcases hmem hp with hp|rfl
  ·exact m.effs p hp he
  ·rw[hne] at he;cases he
 ·rcases hmem hq1 with hq2|rfl<;>rcases hmem hp with hp2|rfl
  ·exact m.lk q1 hq2 t ht p hp2 hpd
  ·exact absurd ht ((hnw t hpd).1 q1 hq2).1
  ·exact .inl (hlk t ht p hp2 hpd)
  ·exact .inr (.inr rfl)
 ·rcases hmem hp with hp|rfl
  ·exact m.own p hp he t ht
  ·exact(hnw t ht).2
 ·rcases hmem hq1 with hq2|rfl<;>rcases hmem hp with hp2|rfl
  ·exact m.idx q1 hq2 p hp2 e
  ·exact absurd e (hidx q1 hq2)
  ·exact absurd e.symm (hidx p hp2)
  ·rfl
 ·obtain⟨h1,h2⟩:=m.pend b hb hn
  exact⟨by rw[hold b (ZF hb m.tr.nx)];exact h1,h2⟩
 ·by_cases e:q.d=some n
  ·exact .inl ⟨q,hinq,hnlq,e⟩
  ·rw[Q1 _ _ _ hn,if_neg e]
   rcases m.tmps n hn with⟨p,hp,h1,h2⟩|h
   ·exact .inl ⟨p,List.mem_append.2 (.inl hp),h1,h2⟩
   ·exact .inr h
 ·rcases hmem hp with hp|rfl
  ·refine(m.del p hp hnl).move (ZpK (m.bs p hp).2) (fun t ht hlt=>?_) (fun t ht hlt=>?_) hnx (fun v hv=>hrs _ hv) (hA p.i (hidx p hp)) (fun n hn hσ=>⟨hold n (m.alow _ _ hn).2,hσ⟩)
   ·rw[Q1 _ _ _ hlt,if_neg fun e=>((hnw t e).1 p hp).1 ht]
   ·rw[Q1 _ _ _ hlt,if_neg fun e=>((hnw t e).1 p hp).2 ht]
  ·exact hnew
 ·by_cases e1:i=q.i<;>by_cases e2:j=q.i
  ·rw[e1,e2]
  ·subst e1
   rw[hA j e2] at hj
   rcases hA2 with h|⟨h,_⟩
   ·rw[h] at hi;cases hi
   ·rw[h] at hi;cases hi;have:=(m.alow _ _ hj).2;omega
  ·subst e2
   rw[hA i e1] at hi
   rcases hA2 with h|⟨h,_⟩
   ·rw[h] at hj;cases hj
   ·rw[h] at hj;cases hj;have:=(m.alow _ _ hi).2;omega
  ·rw[hA i e1] at hi;rw[hA j e2] at hj
   exact m.ainj i j n hi hj
 ·by_cases e:i=q.i
  ·subst e
   rcases hA2 with h|⟨h,o,rfl⟩
   ·rw[h] at hi;cases hi
   ·rw[h] at hi;cases hi;exact⟨m.tr.nx,Ys _⟩
  ·rw[hA i e] at hi
   have:=m.alow i n hi
   exact⟨this.1,ZF this.2 hnx⟩
theorem MS.eff(m:MS P ops N ds σ0 H0 w0 pre rs tm H A σ a0 a w listed){q:SI}{l:List SI}(hpl:UE pre (q::l))(hq:q.x∈BS ops)(hqx:q=Zby P ops q.x)
  (hr:q.i∈Region.ready .any ops listed)(hd: ∀t,q.d=some t→t∈ds)(hN:okT N q.d=true)
  {σ':Mp}{H':Heap}{w':World}{v:AV}{u:Value}(t:Tr P σ H w σ' H' w')(hv:Rel σ' v u):
  MS P ops N ds σ0 H0 w0 (pre++[q]) (Vt q.bef rs) (YZ q.d tm v) H' A σ' a0 (a.put q.d u) w' (listed.setIfInBounds q.i true):=by
 obtain⟨_,hnw,hlk,hidx,_⟩:=hpl
 have hbef:=m.before hq hqx hr
 have hi:q.i<listed.size:=by
  obtain⟨_,o,ho,_⟩:=mem_ready.1 hr
  rw[m.size];exact(Array.getElem?_eq_some_iff.1 ho).1
 have hmem: ∀{p:SI},p∈pre++[q]→p∈pre∨p=q:=fun{p} h=>by rcases List.mem_append.1 h with h|h;exact .inl h;exact .inr (by simpa using h)
 have hnw: ∀p∈pre,¬Ls listed p.i→ ∀t,q.d=some t→t∉p.lk∧p.d≠some t:=by
  intro p hp hnl t ht
  rcases hnw with h|⟨_,h⟩
  ·exact(h t ht).1 p hp
  ·rcases h p hp with h|h
   ·exact absurd (hbef _ h) hnl
   ·exact h t ht
 have hqi:q.i=q.x.2.1:=by rw[hqx];rfl
 refine⟨by simpa using m.size,fun j hj=>?_,fun p hp=>?_,fun x hx hl k hk=>?_,fun p hp he=>?_,fun q1 hq1 t ht p hp hpd=>?_,fun p hp he t ht=>?_,fun q1 hq1 p hp e=>?_,m.glob,t.sim,m.tr.trans t.toW,fun b hb hn=>?_,?_,fun n hn=>?_,fun n hn=>?_,by rw[Qu];exact m.defers,fun p hp hnl=>?_,m.ainj,fun i n hin=>?_⟩
 ·rcases(Ls.set hi).1 hj with rfl|hj
  ·exact⟨q,List.mem_append.2 (.inr (by simp)),rfl⟩
  ·obtain⟨p,hp,e⟩:=m.sub j hj
   exact⟨p,List.mem_append.2 (.inl hp),e⟩
 ·rcases hmem hp with hp|rfl
  ·exact m.bs p hp
  ·exact⟨hq,hqx⟩
 ·refine(Ls.set hi).2 (.inr ?_)
  rcases(Ls.set hi).1 hl with e|hl
  ·obtain⟨⟨j,h1,h2⟩,acc,h3,h4⟩:=Qv _ _ _ _ hx
   obtain⟨hn,o,ho,hall⟩:=mem_ready.1 hr
   obtain⟨e1,he1,hb1,h5⟩:=ZgO hx hk
   have ho':x.1=o:=by
    rw[←e,h2,Zi] at ho
    rw[Z1,ho] at h1
    exact(Option.some.inj h1).symm
   have hl1:Ls listed e1.on:=hall e1 (by rw[←ho'];exact Array.mem_toList_iff.1 he1) hb1
   rcases h5 with rfl|⟨y,hy,h6,h7⟩
   ·exact hl1
   ·exact m.closed y hy (by rw[h6];exact hl1) k h7
  ·exact m.closed x hx hl k hk
 ·rcases hmem hp with hp|rfl
  ·exact(Ls.set hi).2 (.inr (m.effs p hp he))
  ·exact(Ls.set hi).2 (.inl rfl)
 ·rcases hmem hq1 with hq2|rfl<;>rcases hmem hp with hp2|rfl
  ·exact m.lk q1 hq2 t ht p hp2 hpd
  ·by_cases hnl:Ls listed q1.i
   ·rcases ‹New p pre› with h|⟨h,_⟩
    ·exact absurd ht ((h t hpd).1 q1 hq2).1
    ·exact .inr (.inl h)
   ·exact absurd ht (hnw q1 hq2 hnl t hpd).1
  ·exact .inl (hlk t ht p hp2 hpd)
  ·exact .inr (.inr rfl)
 ·rcases hmem hp with hp|rfl
  ·exact m.own p hp he t ht
  ·rcases ‹New p pre› with h|⟨h,_⟩
   ·exact(h t ht).2
   ·rw[he] at h;cases h
 ·rcases hmem hq1 with hq2|rfl<;>rcases hmem hp with hp2|rfl
  ·exact m.idx q1 hq2 p hp2 e
  ·exact absurd e (hidx q1 hq2)
  ·exact absurd e.symm (hidx p hp2)
  ·rfl
 ·obtain⟨h1,h2⟩:=m.pend b hb hn
  obtain⟨h3,h4⟩:=t.pend b (ZF hb m.tr.nx) h2
  exact⟨h3.trans h1,h4⟩
 ·rw[ZhM]
  cases q.d with
  |none=>exact m.tsz
  |some t=>simpa using m.tsz
 ·by_cases e:q.d=some n
  ·refine .inr ?_
   have hsz:n<a.tmps.size:=by
    rw[e] at hN
    exact ZF (ZO hN) m.tsz
   rw[Q1 _ _ _ hn,if_pos e,e]
   show Rel σ' v ((a.tmps.setIfInBounds n u).getD n undef)
   rw[ZQ,Array.getElem?_setIfInBounds]
   simp only[hsz,if_true]
   exact hv
  ·have hget:(a.put q.d u).tmps.getD n undef=a.tmps.getD n undef:=by
    rw[ZQ,ZQ,put_old a q.d u fun t ht' e'=>e (by rw[ht',e'])]
   rw[Q1 _ _ _ hn,if_neg e,hget]
   rcases m.tmps n hn with⟨p,hp,h1,h2⟩|h
   ·refine .inl ⟨p,List.mem_append.2 (.inl hp),fun hl=>?_,h2⟩
    rcases(Ls.set hi).1 hl with e'|hl
    ·exact hidx p hp e'
    ·exact h1 hl
   ·exact .inr (h.mono t.ext)
 ·rw[put_old a q.d u fun t ht' e'=>hn (by rw[e'];exact hd t ht')]
  exact m.old n hn
 ·rcases hmem hp with hp|rfl
  ·have hnl0: ¬Ls listed p.i:=fun h=>hnl ((Ls.set hi).2 (.inr h))
   refine(m.del p hp hnl0).move (ZpK (m.bs p hp).2) (fun t ht hlt=>?_) (fun t ht hlt=>?_) t.nx (fun v hv=>?_) rfl (fun n hn hσ=>t.pend n (m.alow _ _ hn).2 hσ)
   ·rw[Q1 _ _ _ hlt,if_neg fun e=>(hnw p hp hnl0 t e).1 ht]
   ·rw[Q1 _ _ _ hlt,if_neg fun e=>(hnw p hp hnl0 t e).2 ht]
   ·refine ZiU hv ?_
    cases hb:Nat.testBit q.bef (Wf P ops p.x).i with
    |false=>rfl
    |true=>
     rw[←ZG4 (m.bs p hp).2] at hb
     exact absurd (hbef _ hb) hnl0
  ·exact absurd ((Ls.set hi).2 (.inl rfl)) hnl
 ·have:=m.alow i n hin
  exact⟨this.1,ZF this.2 t.nx⟩
end
end Go.AI
namespace Go.AI
open Go
section
variable {P:Program} {ops:Array Oper} {N:Nat} {ds:List Nat} {σ0:Mp} {H0:Heap} {w0:World} {a0:Act}
theorem MS.advance{dl:List ZE}{fin:PK}{c:Ctx}{x:X}{out:Out}{tmO:TM}{HO:Heap}{xO:X}{a:Act}{w:World}{listed:Array Bool}{σ:Mp}: ∀(rest pre:List SI) (rs:List RD) (tm:TM) (H:Heap) (A:Nat→Option Nat),
  MS P ops N ds σ0 H0 w0 pre rs tm H A σ a0 a w listed→UE pre rest→(∀q∈rest,q.x∈BS ops∧q=Zby P ops q.x)→
  W5 dl fin (rest.map fun q=>Wf P ops q.x) c rs tm H x= .ok out tmO HO xO→
  ∃pre' rest' rs' tm' H' A',pre++rest=pre'++rest'∧(rest'=[]∨ ∃e l,rest'=e::l∧e.eff=true)∧
   MS P ops N ds σ0 H0 w0 pre' rs' tm' H' A' σ a0 a w listed∧UE pre' rest'∧(∀q∈rest',q.x∈BS ops∧q=Zby P ops q.x)∧
   W5 dl fin (rest'.map fun q=>Wf P ops q.x) c rs' tm' H' x= .ok out tmO HO xO
 |[],pre,rs,tm,H,A,m,hp,hb,he=>⟨pre,[],rs,tm,H,A,rfl, .inl rfl,m,hp,hb,he⟩
 |q::l,pre,rs,tm,H,A,m,hp,hb,he=>by
  cases hqe:q.eff with
  |true=>exact⟨pre,q::l,rs,tm,H,A,rfl, .inr ⟨q,l,rfl,hqe⟩,m,hp,hb,he⟩
  |false=>
   obtain⟨hq,hqx⟩:=hb q (Zy ..)
   have hnext: ∀(rs':List RD) (v:AV) (H':Heap) (A':Nat→Option Nat),MS P ops N ds σ0 H0 w0 (pre++[q]) rs' (YZ q.d tm v) H' A' σ a0 a w listed→
     W5 dl fin (l.map fun q=>Wf P ops q.x) c rs' (YZ q.d tm v) H' x= .ok out tmO HO xO→
     ∃pre' rest' rs' tm' H' A',pre++(q::l)=pre'++rest'∧(rest'=[]∨ ∃e l,rest'=e::l∧e.eff=true)∧
      MS P ops N ds σ0 H0 w0 pre' rs' tm' H' A' σ a0 a w listed∧UE pre' rest'∧(∀q∈rest',q.x∈BS ops∧q=Zby P ops q.x)∧
      W5 dl fin (rest'.map fun q=>Wf P ops q.x) c rs' tm' H' x= .ok out tmO HO xO:=by
    intro rs' v H' A' m' he'
    obtain⟨pre',rest',rs2,tm2,H2,A2,h1,h2⟩:=MS.advance l (pre++[q]) rs' (YZ q.d tm v) H' A' m' hp.2.2.2.2 (fun p h=>hb p (ZB _ h)) he'
    exact⟨pre',rest',rs2,tm2,H2,A2,by rw[←h1];simp,h2⟩
   have hnw: ∀t,q.d=some t→t∉q.lk:=by
    rcases hp.2.1 with h|⟨h,_⟩
    ·exact fun t ht=>(h t ht).2
    ·rw[hqe] at h;cases h
   have hqlk:=ZpK hqx
   have hqd:=ZhS hqx
   have hsame: ∀v,∀t∈Ql ops q.x.1,t<512→evT t (YZ q.d tm v)=evT t tm:=fun v t ht hlt=>by
    rw[Q1 _ _ _ hlt,if_neg fun e=>hnw t e (by rw[hqlk];exact ht)]
   have hev: ∀v,evD q (YZ q.d tm v) v:=fun v t ht hlt=>by rw[Q1 _ _ _ hlt,if_pos ht]
   have hrsF: ∀v,rsF (YZ q.d tm v) (W6 q.x.1)=rsF tm (W6 q.x.1):=fun v=>ZmY fun t ht=>hsame v t (Zcy ht) (ZbO ht)
   let A':Nat→Option Nat:=fun i=>if i=q.i then none else A i
   have hA': ∀i,i≠q.i→A' i=A i:=fun i hi=>if_neg hi
   have hA'q:A' q.i=none:=if_pos rfl
   have hun:Unwanted P ops q.x.1 tm→W5 dl fin (l.map fun q=>Wf P ops q.x) c rs (YZ q.d tm Yx) H x= .ok out tmO HO xO→_:=fun hu he'=>
    hnext rs Yx H A' (m.plan hp hq hqx hqe (.inl rfl) (fun r h=>h) hA' (.inl hA'q) (.inl ⟨hu.congr (hsame _),hev _,hA'q⟩)) he'
   have hkind:Zo9 (ZaW P q.x.1.op)=false:=by rw[←Zof hqx];exact hqe
   have he:U2 dl (Wf P ops q.x) (W5 dl fin (l.map fun q=>Wf P ops q.x) c) c rs tm H x= .ok out tmO HO xO:=he
   cases hk:ZaW P q.x.1.op with
   |eff=>rw[hk] at hkind;cases hkind
   |free=>
    have hkk:(Wf P ops q.x).kind= .free:=hk
    unfold U2 at he
    rw[hkk] at he
    have he:ZcH (Ur P ops q.x.1) tm (Zv3 (Wf P ops q.x) (W5 dl fin (l.map fun q=>Wf P ops q.x) c) rs tm H x) (W5 dl fin (l.map fun q=>Wf P ops q.x) c rs (YZ q.x.1.dst tm Yx) H x)= .ok out tmO HO xO:=he
    rw[←hqd] at he
    rcases ZiT he (by simp) with⟨hw,he⟩|⟨hu,he⟩
    ·unfold Zv3 at he
     have hos:(Wf P ops q.x).os=W6 q.x.1:=rfl
     have hff:(Wf P ops q.x).f=WS P q.x.1.op:=rfl
     rw[hos,hff] at he
     cases hlow:QP H.nx tm (W6 q.x.1) with
     |false=>rw[hlow] at he;cases he
     |true=>
      rw[hlow] at he
      generalize hr:WS P q.x.1.op (rsF tm (W6 q.x.1)) ⟨H.nx, .leaf,H.nx⟩=r at he
      cases r with
      |oth _=>cases he
      |val v H1=>
       have he:cond (Nat.beq H1.nx H.nx) (W5 dl fin (l.map fun q=>Wf P ops q.x) c rs (YZ q.x.1.dst tm v) H x) (cond (Nat.beq H1.nx (Nat.succ H.nx)) (Zv2 (H1.t.get H.nx) fun o=>W5 dl fin (l.map fun q=>Wf P ops q.x) c rs (YZ q.x.1.dst tm v) (H.new o) x) .fail)= .ok out tmO HO xO:=he
       rw[←hqd] at he
       have hlow':QP H.nx (YZ q.d tm v) (W6 q.x.1)=true:=by
        rw[←hlow]
        have hs: ∀t∈Zj6 q.x.1,evT t (YZ q.d tm v)=evT t tm:=fun t ht=>hsame v t (Zcy ht) (ZbO ht)
        rw[Zfd]
        generalize Zj6 q.x.1=l at hs
        induction l with
        |nil=>rfl
        |cons t l ih=>
         show cond (YA H.nx (evT t (YZ q.d tm v))) (QP H.nx (YZ q.d tm v) (l.map fun t=>(ZaS t,evT t))) false=cond (YA H.nx (evT t tm)) (QP H.nx tm (l.map fun t=>(ZaS t,evT t))) false
         rw[ih fun t h=>hs t (ZB _ h),hs t (Zy ..)]
       cases h1:Nat.beq H1.nx H.nx with
       |true=>
        rw[h1] at he
        refine hnext rs v H A' (m.plan hp hq hqx hqe (.inl rfl) (fun r h=>h) hA' (.inl hA'q) (.inr (.inl ⟨hw.congr (hsame _),H.nx,v,H1,hlow',m.tr.nx,Zk _,?_,hev _, .inl ⟨hA'q,ZG h1⟩⟩))) he
        rw[hrsF];exact hr
       |false=>
        rw[h1] at he
        cases h2:Nat.beq H1.nx (Nat.succ H.nx) with
        |false=>rw[h2] at he;cases he
        |true=>
         rw[h2] at he
         cases h3:H1.t.get H.nx with
         |none=>rw[h3] at he;cases he
         |some ob=>
          rw[h3] at he
          have he:cond (wrO ob) (W5 dl fin (l.map fun q=>Wf P ops q.x) c rs (YZ q.d tm v) (H.new ob) x) .fail= .ok out tmO HO xO:=he
          cases h4:wrO ob with
          |false=>rw[h4] at he;cases he
          |true=>
           rw[h4] at he
           let A2:Nat→Option Nat:=fun i=>if i=q.i then some H.nx else A i
           have hA2: ∀i,i≠q.i→A2 i=A i:=fun i hi=>if_neg hi
           have hA2q:A2 q.i=some H.nx:=if_pos rfl
           refine hnext rs v (H.new ob) A2 (m.plan hp hq hqx hqe (.inr ⟨ob,rfl⟩) (fun r h=>h) hA2 (.inr ⟨hA2q,ob,rfl⟩) (.inr (.inl ⟨hw.congr (hsame _),H.nx,v,H1,hlow',m.tr.nx,Nat.le_succ _,?_,hev _, .inr ⟨hA2q,ZG h2,m.sim.fresh (Zk _),ob,h3,h4,?_⟩⟩))) he
           ·rw[hrsF];exact hr
           ·rw[Heap.get_new,if_pos rfl]
    ·exact hun hu he
   |read=>
    have hkk:(Wf P ops q.x).kind= .read:=hk
    unfold U2 at he
    rw[hkk] at he
    have he:ZcH (Ur P ops q.x.1) tm (Zha (Wf P ops q.x) (W5 dl fin (l.map fun q=>Wf P ops q.x) c) rs tm H x (WS P q.x.1.op (rsF tm (W6 q.x.1)) ⟨H.nx,H.t,H.nx⟩)) (W5 dl fin (l.map fun q=>Wf P ops q.x) c rs (YZ q.x.1.dst tm Yx) H x)= .ok out tmO HO xO:=he
    rw[←hqd] at he
    rcases ZiT he (by simp) with⟨hw,he⟩|⟨hu,he⟩
    ·generalize hr:WS P q.x.1.op (rsF tm (W6 q.x.1)) ⟨H.nx,H.t,H.nx⟩=r at he
     cases r with
     |oth _=>cases he
     |val v H1=>
      have he:cond (Nat.beq H1.nx H.nx) (W5 dl fin (l.map fun q=>Wf P ops q.x) c (⟨Wf P ops q.x,v⟩::rs) (YZ q.x.1.dst tm v) H x) .fail= .ok out tmO HO xO:=he
      rw[←hqd] at he
      cases h1:Nat.beq H1.nx H.nx with
      |false=>rw[h1] at he;cases he
      |true=>
       rw[h1] at he
       exact hnext (⟨Wf P ops q.x,v⟩::rs) v H A' (m.plan hp hq hqx hqe (.inl rfl) (fun r h=>ZB _ h) hA' (.inl hA'q) (.inr (.inr ⟨hw.congr (hsame _),hA'q,v,Zy ..,hev _⟩))) he
    ·exact hun hu he
end
end Go.AI
namespace Go.AI
open Go
def unl(listed:Array Bool):Nat→Nat
 |0=>0
 |n+1=>unl listed n+(if listed.getD n false=true then 0 else 1)
theorem Zlb{listed:Array Bool}: ∀{n:Nat},unl listed n=0→ ∀j,j<n→Ls listed j
 |0,_,j,hj=>by omega
 |n+1,h,j,hj=>by
  unfold unl at h
  by_cases e:listed.getD n false=true
  ·rw[if_pos e] at h
   by_cases ej:j=n
   ·subst ej;exact e
   ·exact Zlb (by omega) j (by omega)
  ·rw[if_neg e] at h;omega
theorem Zkj{listed:Array Bool}{i:Nat}(hi:i<listed.size)(hn: ¬Ls listed i): ∀n,(i<n→unl (listed.setIfInBounds i true) n+1=unl listed n)∧(n≤i→unl (listed.setIfInBounds i true) n=unl listed n)
 |0=>⟨fun h=>by omega,fun _=>rfl⟩
 |n+1=>by
  obtain⟨h1,h2⟩:=Zkj hi hn n
  have hs:=Ls.set (j:=n) hi
  unfold Ls at hs hn
  unfold unl
  by_cases e:i=n
  ·subst e
   refine⟨fun _=>?_,fun h=>by omega⟩
   rw[if_pos (hs.2 (.inl rfl)),if_neg hn,h2 (Zk _)]
  ·have hh:((listed.setIfInBounds i true).getD n false=true)=(listed.getD n false=true):=propext ⟨fun h=>by rcases hs.1 h with h|h;exact absurd h.symm e;exact h,fun h=>hs.2 (.inr h)⟩
   simp only[hh]
   exact⟨fun h=>by have:=h1 (by omega);omega,fun h=>by have:=h2 (by omega);omega⟩
theorem Zdy{n:Nat}(hn:n<512): ∀(l:List (Option Nat)) (tm:TM),evT n (Zax tm (l.map YZ))=if some n∈l then .unk else evT n tm
 |[],tm=>by simp[Zax]
 |d::l,tm=>by
  show evT n (Zax (YZ d tm .unk) (l.map YZ))=_
  rw[Zdy hn l,Q1 _ _ _ hn]
  by_cases e:some n∈l
  ·rw[if_pos e,if_pos (ZB _ e)]
  ·rw[if_neg e]
   by_cases e2:d=some n
   ·rw[if_pos e2,if_pos (by rw[e2];exact Zy ..)]
   ·rw[if_neg e2,if_neg]
    intro h
    rcases List.mem_cons.1 h with h|h
    ·exact e2 h.symm
    ·exact e h
section
variable {P:Program} {ops:Array Oper} {N:Nat} {ds:List Nat} {σ0:Mp} {H0:Heap} {w0:World} {a0:Act}
theorem MS.full{pre:List SI}{rs:List RD}{tm:TM}{H:Heap}{A:Nat→Option Nat}{σ:Mp}{a:Act}{w:World}{listed:Array Bool}(m:MS P ops N ds σ0 H0 w0 pre rs tm H A σ a0 a w listed):Tr P σ0 H0 w0 σ H w:=m.tr.full m.sim m.pend
def ZwD(ops:Array Oper):Prop:= ∀(j:Nat) (o:Oper),ops[j]? =some o→ ∀e∈o.after,Region.binds .any e=true→e.on<j
theorem Zlc(hE:ZwD ops){listed:Array Bool}(hz:listed.size=ops.size)(hr:Region.ready .any ops listed=[]): ∀j,j<ops.size→Ls listed j:=by
 intro j
 induction j using Nat.strongRecOn with
 |_ j ih=>
  intro hj
  cases e:listed.getD j false with
  |true=>exact e
  |false=>
   have ho:ops[j]? =some ops[j]:=Array.getElem?_eq_getElem hj
   have:j∈Region.ready .any ops listed:=by
    refine mem_ready.2 ⟨?_,ops[j],ho,fun x hx hb=>?_⟩
    ·rw[ZQ] at e ⊢
     have:listed[j]? =some listed[j]:=Array.getElem?_eq_getElem (by omega)
     rw[this] at e ⊢
     exact e
    ·have:=hE j _ ho x hx hb
     exact ih x.on this (by omega)
   rw[hr] at this;cases this
theorem ZiW{listed:Array Bool}{i:Nat}(h:i∈Region.ready .any ops listed)(hz:listed.size=ops.size):i<ops.size∧ ¬Ls listed i:=by
 obtain⟨h1,o,h2,_⟩:=mem_ready.1 h
 have hi:i<ops.size:=(Array.getElem?_eq_some_iff.1 h2).1
 refine⟨hi,fun hl=>?_⟩
 unfold Ls at hl
 rw[ZQ] at h1 hl
 have:listed[i]? =some listed[i]:=Array.getElem?_eq_getElem (by omega)
 rw[this] at h1 hl
 have h1:listed[i]=false:=h1
 have hl:listed[i]=true:=hl
 rw[h1] at hl;cases hl
def Done(P:Program)(N:Nat)(ds:List Nat)(σ0:Mp)(H0:Heap)(w0:World)(a0:Act)(m:Machine)(b:Frame)(k:List Item)(cs:List Frame)(out:Out)(tmO:TM)(HO:Heap):Prop:=
 ∃σ' a' w',Tr P σ0 H0 w0 σ' HO w'∧TRel σ' N tmO a'.tmps∧a'.defers=a0.defers∧(∀n,n∉ds→a'.tmps[n]? =a0.tmps[n]?)∧Arr P m b k cs σ' out a' w'
theorem Done.of_steps{m m1:Machine}{b:Frame}{k:List Item}{cs:List Frame}{out:Out}{tmO:TM}{HO:Heap}(h:Steps P m m1)(d:Done P N ds σ0 H0 w0 a0 m1 b k cs out tmO HO):Done P N ds σ0 H0 w0 a0 m b k cs out tmO HO:=by
 obtain⟨σ',a',w',h1,h2,h3,h4,h5⟩:=d
 exact⟨σ',a',w',h1,h2,h3,h4, .of_steps h h5⟩
structure At(P:Program)(ops:Array Oper)(N:Nat)(ds:List Nat)(σ0:Mp)(H0:Heap)(w0:World)(a0:Act)(dl:List ZE)(fin:PK)(c:Ctx)(x:X)(L:List SI)(out:Out)(tmO:TM)(HO:Heap)(xO:X)
  (pre rest:List SI)(rs:List RD)(tm:TM)(H:Heap)(A:Nat→Option Nat)(σ:Mp)(a:Act)(w:World)(listed:Array Bool):Prop where
 m:MS P ops N ds σ0 H0 w0 pre rs tm H A σ a0 a w listed
 pl:UE pre rest
 hd:rest=[]∨ ∃e l,rest=e::l∧e.eff=true
 bs: ∀q∈rest,q.x∈BS ops∧q=Zby P ops q.x
 all:pre++rest=L
 run:W5 dl fin (rest.map fun q=>Wf P ops q.x) c rs tm H x= .ok out tmO HO xO
theorem At.still{dl:List ZE}{fin:PK}{c:Ctx}{x:X}{L:List SI}{out:Out}{tmO:TM}{HO:Heap}{xO:X}{pre rest:List SI}{rs:List RD}{tm:TM}{H:Heap}{A:Nat→Option Nat}{σ:Mp}{a:Act}{w:World}{listed:Array Bool}
  (t:At P ops N ds σ0 H0 w0 a0 dl fin c x L out tmO HO xO pre rest rs tm H A σ a w listed):AI.still tm H rs=true:=by
 have hrun:=t.run
 rcases t.hd with e|⟨e,l,he,hee⟩
 ·rw[e] at hrun
  have hrun:cond (AI.still tm H rs) (fin rs tm H x) .fail= .ok out tmO HO xO:=hrun
  cases h:AI.still tm H rs with
  |true=>rfl
  |false=>rw[h] at hrun;cases hrun
 ·subst he
  have hk:Zo9 (ZaW P e.x.1.op)=true:=by rw[←Zof (t.bs e (Zy ..)).2];exact hee
  have hk:(Wf P ops e.x).kind= .eff:=by
   show ZaW P e.x.1.op= .eff
   cases h:ZaW P e.x.1.op<;>rw[h] at hk<;>first|rfl|cases hk
  have hrun:U2 dl (Wf P ops e.x) (W5 dl fin (l.map fun q=>Wf P ops q.x) c) c rs tm H x= .ok out tmO HO xO:=hrun
  unfold U2 at hrun
  rw[hk] at hrun
  have hrun:cond (AI.still tm H rs) _ .fail=Res.ok out tmO HO xO:=hrun
  cases h:AI.still tm H rs with
  |true=>rfl
  |false=>rw[h] at hrun;cases hrun
theorem At.trel{dl:List ZE}{fin:PK}{c:Ctx}{x:X}{L:List SI}{out:Out}{tmO:TM}{HO:Heap}{xO:X}{pre rest:List SI}{rs:List RD}{tm:TM}{H:Heap}{A:Nat→Option Nat}{σ:Mp}{a:Act}{w:World}{listed:Array Bool}
  (t:At P ops N ds σ0 H0 w0 a0 dl fin c x L out tmO HO xO pre rest rs tm H A σ a w listed)(h: ∀q∈pre,Ls listed q.i):TRel σ N tm a.tmps:=by
 refine⟨t.m.tsz,fun n hn=>?_⟩
 rcases t.m.tmps n hn with⟨q,hq,h1,_⟩|h1
 ·exact absurd (h q hq) h1
 ·exact h1
theorem At.trelD{dl:List ZE}{fin:PK}{c:Ctx}{x:X}{L:List SI}{out:Out}{tmO:TM}{HO:Heap}{xO:X}{pre rest:List SI}{rs:List RD}{tm:TM}{H:Heap}{A:Nat→Option Nat}{σ:Mp}{a:Act}{w:World}{listed:Array Bool}
  (t:At P ops N ds σ0 H0 w0 a0 dl fin c x L out tmO HO xO pre rest rs tm H A σ a w listed)(hdl:dl=L.map fun q=>YZ q.d):TRel σ N (Zax tm dl) a.tmps:=by
 refine⟨t.m.tsz,fun n hn=>?_⟩
 have e:dl=(L.map (·.d)).map YZ:=by rw[hdl,List.map_map];rfl
 rw[e,Zdy hn]
 by_cases h:some n∈L.map (·.d)
 ·rw[if_pos h];simp[Rel]
 ·rw[if_neg h]
  rcases t.m.tmps n hn with⟨q,hq,_,h1⟩|h1
  ·exact absurd (List.mem_map.2 ⟨q,by rw[←t.all];exact List.mem_append.2 (.inl hq),h1⟩) h
  ·exact h1
theorem At.eff{dl:List ZE}{fin:PK}{c:Ctx}{x:X}{L:List SI}{out:Out}{tmO:TM}{HO:Heap}{xO:X}{pre l:List SI}{e:SI}{rs:List RD}{tm:TM}{H:Heap}{A:Nat→Option Nat}{σ:Mp}{a:Act}{w:World}{listed:Array Bool}
  (hN: ∀o∈ops,okT N o.dst=true∧ ∀t,o.dst=some t→t∈ds)(hdl:dl=L.map fun q=>YZ q.d){b:Frame}(hc:CtxOk P c b σ0 H0 w0)
  (t:At P ops N ds σ0 H0 w0 a0 dl fin c x L out tmO HO xO pre (e::l) rs tm H A σ a w listed)(hee:e.eff=true)(hr:e.i∈Region.ready .any ops listed)(k:List Item)(cs:List Frame)(rest:List Nat)
  (hgo: ∀(pre' rest':List SI) (rs':List RD) (tm':TM) (H':Heap) (A':Nat→Option Nat) (σ':Mp) (a':Act) (w':World),At P ops N ds σ0 H0 w0 a0 dl fin c x L out tmO HO xO pre' rest' rs' tm' H' A' σ' a' w' (listed.setIfInBounds e.i true)→
   (xO=x∧Done P N ds σ0 H0 w0 a0 (lone (b.atR a' (.inRegion ops rest::k)) cs w') b k cs out tmO HO)):
  xO=x∧Done P N ds σ0 H0 w0 a0 (lone (b.atR a (.inRegion ops (e.i::rest)::k)) cs w) b k cs out tmO HO:=by
 have m:=t.m
 obtain⟨hq,hqx⟩:=t.bs e (Zy ..)
 have hst:=t.still
 have hrun:=t.run
 have hk:Zo9 (ZaW P e.x.1.op)=true:=by rw[←Zof hqx];exact hee
 have hk:(Wf P ops e.x).kind= .eff:=by
  show ZaW P e.x.1.op= .eff
  cases h:ZaW P e.x.1.op<;>rw[h] at hk<;>first|rfl|cases hk
 have hrun:U2 dl (Wf P ops e.x) (W5 dl fin (l.map fun q=>Wf P ops q.x) c) c rs tm H x= .ok out tmO HO xO:=hrun
 unfold U2 at hrun
 rw[hk] at hrun
 have hrun:cond (AI.still tm H rs) (ZcH (Ur P ops e.x.1) tm (Zhb dl (Wf P ops e.x) (W5 dl fin (l.map fun q=>Wf P ops q.x) c) rs c tm x (WS P e.x.1.op (rsF tm (W6 e.x.1)) H))
  (W5 dl fin (l.map fun q=>Wf P ops q.x) c (Vt (Wf P ops e.x).bef rs) (YZ e.x.1.dst tm Yx) H x)) .fail=Res.ok out tmO HO xO:=hrun
 rw[hst,←ZhS hqx,←ZiV hqx] at hrun
 have hrun:ZcH (Ur P ops e.x.1) tm (Zhb dl (Wf P ops e.x) (W5 dl fin (l.map fun q=>Wf P ops q.x) c) rs c tm x (WS P e.x.1.op (rsF tm (W6 e.x.1)) H))
  (W5 dl fin (l.map fun q=>Wf P ops q.x) c (Vt e.bef rs) (YZ e.d tm Yx) H x)=Res.ok out tmO HO xO:=hrun
 have ho:ops[e.i]? =some e.x.1:=by
  obtain⟨⟨j,h3,h4⟩,_⟩:=Qv _ _ _ _ hq
  have:e.i=e.x.2.1:=by rw[hqx];rfl
  rw[this,h4,Zi,←Z1]
  exact h3
 obtain⟨hNe,hdse⟩:=hN _ (Array.mem_of_getElem? ho)
 rw[←ZhS hqx] at hNe hdse
 have hlook: ∀t∈Ql ops e.x.1,t<512→Rel σ (evT t tm) (a.tmps.getD t undef):=by
  rw[←ZpK hqx]
  exact m.looks (m.before hq hqx hr) fun t' ht p hp hpd=> .inl (t.pl.2.2.1 t' ht p hp hpd)
 have after: ∀(σ':Mp) (H':Heap) (w':World) (v:AV) (u:Value),Tr P σ H w σ' H' w'→Rel σ' v u→W5 dl fin (l.map fun q=>Wf P ops q.x) c (Vt e.bef rs) (YZ e.d tm v) H' x= .ok out tmO HO xO→
   (xO=x∧Done P N ds σ0 H0 w0 a0 (lone (b.atR (a.put e.d u) (.inRegion ops rest::k)) cs w') b k cs out tmO HO):=by
  intro σ' H' w' v u tr hv hrun
  have m':=m.eff t.pl hq hqx hr hdse hNe tr hv
  obtain⟨pre',rest',rs',tm',H2,A',h1,h2,h3,h4,h5,h6⟩:=MS.advance l (pre++[e]) _ _ _ _ m' t.pl.2.2.2.2 (fun p h=>t.bs p (ZB _ h)) hrun
  refine hgo pre' rest' rs' tm' H2 A' σ' _ w' ⟨h3,h4,h2,h5,?_,h6⟩
  rw[←h1,←t.all];simp
 rcases ZiT hrun (by simp) with⟨hw,hin⟩|⟨hu,hrun⟩
 ·have hwr:=hw.run (a:=a) (σ:=σ) hlook
  have hops:Ops P σ (rsF tm (W6 e.x.1)) a.eval:=ZhQ m.sim fun t ht=>hlook t (Zcy ht) (ZbO ht)
  have hok:=Zc6 m.sim hops e.x.1
  unfold YG at hok
  have hnd:=Zfc (P:=P) (o:=e.x.1) (tm:=rsF tm (W6 e.x.1)) (H:=H)
  have hcc:=hc.tr m.full
  have pan: ∀(σ':Mp) (H':Heap) (w':World) (v:AV) (u:Value),Tr P σ H w σ' H' w'→Rel σ' v u→ZBT dl v tm H' x= .ok out tmO HO xO→
    Steps P (lone (b.atR a (.inRegion ops (e.i::rest)::k)) cs w) (lone {b.atR a (.inRegion ops (e.i::rest)::k) with mode:= .panicking [{v:=u,recovered:=false}]} cs w')→
    (xO=x∧Done P N ds σ0 H0 w0 a0 (lone (b.atR a (.inRegion ops (e.i::rest)::k)) cs w) b k cs out tmO HO):=by
   intro σ' H' w' v u tr hv he hs
   have he:Res.ok (.pan v) (Zax tm dl) H' x= .ok out tmO HO xO:=he
   cases he
   exact⟨rfl,σ',a,w',m.full.trans tr,(t.trelD hdl).mono tr.ext,m.defers,m.old,_,u,hv,hs⟩
  have cro: ∀(r:CR),Zdw P σ H w r ((execOp a.eval e.x.1).run P w)→(∀c,e.x.1.op≠ .defer c)→ZkB dl (Wf P ops e.x) (W5 dl fin (l.map fun q=>Wf P ops q.x) c) rs tm x r= .ok out tmO HO xO→
    (xO=x∧Done P N ds σ0 H0 w0 a0 (lone (b.atR a (.inRegion ops (e.i::rest)::k)) cs w) b k cs out tmO HO):=by
   intro r hr' hnd he
   cases r with
   |fail=>cases he
   |ret v H1=>
    have he:W5 dl fin (l.map fun q=>Wf P ops q.x) c (Vt (Wf P ops e.x).bef rs) (YZ e.x.1.dst tm v) H1 x= .ok out tmO HO xO:=he
    rw[←ZhS hqx,←ZiV hqx] at he
    rcases Zbq (b:=b) (k:=k) (cs:=cs) (rest:=rest) ho hwr hnd hr' with⟨u,w1,⟨σ1,h1,h2⟩,hs⟩|⟨u,w1,h1,_⟩
    ·rw[←ZhS hqx] at hs
     obtain⟨g1,g2⟩:=after σ1 H1 w1 v u h2 h1 he
     exact⟨g1,g2.of_steps hs⟩
    ·exact h1.elim
   |pan v H1=>
    rcases Zbq (b:=b) (k:=k) (cs:=cs) (rest:=rest) ho hwr hnd hr' with⟨u,w1,h1,_⟩|⟨u,w1,⟨σ1,h1,h2⟩,hs⟩
    ·exact h1.elim
    ·exact pan σ1 H1 w1 v u h2 h1 he hs
  generalize hr2:WS P e.x.1.op (rsF tm (W6 e.x.1)) H=r at hin hok hnd
  cases r with
  |val v H1=>
   obtain⟨σ1,w1,u,hrn,hrel,t1⟩:=hok
   have hs:=Zaj (b:=b) (k:=k) (cs:=cs) (rest:=rest) ho hwr (hnd (fun _ _ h=>by cases h) (fun h=>by cases h)) hrn
   have hrun:W5 dl fin (l.map fun q=>Wf P ops q.x) c (Vt (Wf P ops e.x).bef rs) (YZ e.x.1.dst tm v) H1 x= .ok out tmO HO xO:=hin
   rw[←ZhS hqx,←ZiV hqx] at hrun
   rw[←ZhS hqx] at hs
   obtain⟨g1,g2⟩:=after σ1 H1 w1 v u t1 hrel hrun
   exact⟨g1,g2.of_steps hs⟩
  |oth q=>
   cases q with
   |fail=>cases hin
   |recov=>cases hin
   |defer f ar=>cases hin
   |call f ar H1=>
    obtain⟨rfl,vs,hvs,hrn⟩:=hok
    refine cro _ ?_ (hnd (fun _ _ h=>by cases h) (fun h=>by cases h)) hin
    rw[hrn]
    exact hc.call f ar H1 σ w vs m.sim hvs
   |yield bk ar H1=>
    obtain⟨rfl,ll,vs,hl,hvs,hrn⟩:=hok
    refine cro _ ?_ (hnd (fun _ _ h=>by cases h) (fun h=>by cases h)) hin
    rw[hrn]
    exact hcc.yld bk ar H1 σ w ll vs (Tr.refl m.sim) hl hvs
   |pan v H1=>
    obtain⟨rfl,u,hu,hrn⟩:=hok
    have hE:Ends P (fun _ _=>False) (fun y w2=>y=u∧w2=w) ((execOp a.eval e.x.1).run P w):=by rw[hrn];exact⟨rfl,rfl⟩
    rcases Zbq (b:=b) (k:=k) (cs:=cs) (rest:=rest) ho hwr (hnd (fun _ _ h=>by cases h) (fun h=>by cases h)) hE with⟨_,_,h,_⟩|⟨u',w',⟨rfl,rfl⟩,hs⟩
    ·exact h.elim
    ·exact pan σ H1 _ v _ (Tr.refl m.sim) hu hin hs
 ·have hun:=hu.run (a:=a) (σ:=σ) hlook
  have hs:=stepR_op_skip (P:=P) (b:=b) (a:=a) (k:=k) (cs:=cs) (w:=w) (ops:=ops) (i:=e.i) (rest:=rest) (by rw[ho];exact hun)
  have hs:step P (lone (b.atR a (.inRegion ops (e.i::rest)::k)) cs w)= .next (lone (b.atR (a.put e.d undef) (.inRegion ops rest::k)) cs w):=by
   rw[ho] at hs;rw[ZhS hqx];exact hs
  obtain⟨g1,g2⟩:=after σ H w Yx undef (Tr.refl m.sim) ZiS hrun
  exact⟨g1,g2.of_steps (.one hs)⟩
theorem At.next{dl:List ZE}{fin:PK}{c:Ctx}{x:X}{L:List SI}{out:Out}{tmO:TM}{HO:Heap}{xO:X}{pre rest:List SI}{rs:List RD}{tm:TM}{H:Heap}{A:Nat→Option Nat}{σ:Mp}{a:Act}{w:World}{listed:Array Bool}
  (t:At P ops N ds σ0 H0 w0 a0 dl fin c x L out tmO HO xO pre rest rs tm H A σ a w listed){q:SI}(hq:q∈rest)(hr:q.i∈Region.ready .any ops listed): ∃l,rest=q::l∧q.eff=true:=by
 rcases t.hd with e|⟨e,l,he,hee⟩
 ·rw[e] at hq;cases hq
 ·subst he
  rcases List.mem_cons.1 hq with rfl|hq'
  ·exact⟨l,rfl,hee⟩
  ·exfalso
   obtain⟨h1,h2⟩:=t.bs q hq
   have h3:=t.m.before h1 h2 hr e.i (t.pl.1 hee q hq')
   obtain⟨p,hp,h4⟩:=t.m.sub _ h3
   exact t.pl.2.2.2.1 p hp h4
theorem ZpL(fuel t:Nat)(listed:Array Bool):Region.linearise.go .any ops (fuel+1) t listed []=
  match(Region.ready .any ops listed)[t % (Region.ready .any ops listed).length]? with
   |some i=>i::Region.linearise.go .any ops fuel (t/(Region.ready .any ops listed).length) (listed.setIfInBounds i true) []
   |none=>[]:=by
 simp only[Region.linearise.go]
 change (match(Region.ready .any ops listed)[t % (Region.ready .any ops listed).length]? with
   |some i=>Region.linearise.go .any ops fuel (t/(Region.ready .any ops listed).length) (listed.setIfInBounds i true) [i]
   |none=>[].reverse)=_
 cases(Region.ready .any ops listed)[t % (Region.ready .any ops listed).length]? with
 |none=>rfl
 |some i=>simp only[];rw[linearise_go_acc];rfl
theorem Zm0{t:Nat}{l:List Nat}(h:l[t % l.length]? =none):l=[]:=by
 cases l with
 |nil=>rfl
 |cons x xs=>
  have hlt:t % (x::xs).length<(x::xs).length:=Vh _ (by simp)
  rw[List.getElem?_eq_none_iff] at h
  omega
theorem ZpM(hE:ZwD ops)(hN: ∀o∈ops,okT N o.dst=true∧ ∀t,o.dst=some t→t∈ds){dl:List ZE}{c:Ctx}{x:X}{L:List SI}{out:Out}{tmO:TM}{HO:Heap}{xO:X}(hdl:dl=L.map fun q=>YZ q.d)
  (hall: ∀j,j<ops.size→ ∃q∈L,q.i=j){b:Frame}(hc:CtxOk P c b σ0 H0 w0)(k:List Item)(cs:List Frame): ∀(fuel t:Nat) (pre rest:List SI) (rs:List RD) (tm:TM) (H:Heap) (A:Nat→Option Nat) (σ:Mp) (a:Act) (w:World) (listed:Array Bool),
  At P ops N ds σ0 H0 w0 a0 dl Zey c x L out tmO HO xO pre rest rs tm H A σ a w listed→unl listed ops.size≤fuel→
  xO=x∧Done P N ds σ0 H0 w0 a0 (lone (b.atR a (.inRegion ops (Region.linearise.go .any ops fuel t listed [])::k)) cs w) b k cs out tmO HO:=by
 have fin: ∀(pre rest:List SI) (rs:List RD) (tm:TM) (H:Heap) (A:Nat→Option Nat) (σ:Mp) (a:Act) (w:World) (listed:Array Bool),
   At P ops N ds σ0 H0 w0 a0 dl Zey c x L out tmO HO xO pre rest rs tm H A σ a w listed→(∀j,j<ops.size→Ls listed j)→
   xO=x∧Done P N ds σ0 H0 w0 a0 (lone (b.atR a (.inRegion ops []::k)) cs w) b k cs out tmO HO:=by
  intro pre rest rs tm H A σ a w listed t hl
  have hidx: ∀q∈L,q.i<ops.size→Ls listed q.i:=fun q _ h=>hl q.i h
  have hrest:rest=[]:=by
   rcases t.hd with e|⟨e,l,he,_⟩
   ·exact e
   ·exfalso
    subst he
    obtain⟨h1,h2⟩:=t.bs e (Zy ..)
    have hlt:e.i<ops.size:=by
     obtain⟨⟨j,h3,h4⟩,_⟩:=Qv _ _ _ _ h1
     have:e.i=e.x.2.1:=by rw[h2];rfl
     rw[this,h4,Zi]
     rw[Z1] at h3
     exact(Array.getElem?_eq_some_iff.1 h3).1
    obtain⟨p,hp,h4⟩:=t.m.sub _ (hl e.i hlt)
    exact t.pl.2.2.2.1 p hp h4
  have hrun:=t.run
  have hst:=t.still
  subst hrest
  have hrun:cond (still tm H rs) (Res.ok .normal tm H x) .fail= .ok out tmO HO xO:=hrun
  rw[hst] at hrun
  cases hrun
  refine⟨rfl,σ,a,w,t.m.full,t.trel fun q hq=>?_,t.m.defers,t.m.old, .one stepR_region_end⟩
  exact hl q.i (Array.getElem?_eq_some_iff.1 (t.m.oper hq)).1
 intro fuel
 induction fuel with
 |zero=>
  intro t pre rest rs tm H A σ a w listed hat hu
  exact fin pre rest rs tm H A σ a w listed hat (Zlb (by omega))
 |succ fuel ih=>
  intro t pre rest rs tm H A σ a w listed hat hu
  rw[ZpL]
  cases hi:(Region.ready .any ops listed)[t % (Region.ready .any ops listed).length]? with
  |none=>exact fin pre rest rs tm H A σ a w listed hat (Zlc hE hat.m.size (Zm0 hi))
  |some i=>
   have hr:i∈Region.ready .any ops listed:=List.mem_of_getElem? hi
   obtain⟨hilt,hinl⟩:=ZiW hr hat.m.size
   have hu':unl (listed.setIfInBounds i true) ops.size≤fuel:=by
    have:=(Zkj (by rw[hat.m.size];exact hilt) hinl ops.size).1 hilt
    omega
   obtain⟨q,hq,hqi⟩:=hall i hilt
   subst hqi
   rw[←hat.all] at hq
   rcases List.mem_append.1 hq with hq|hq
   ·have ho:=hat.m.oper hq
    obtain⟨h1,h2⟩:=hN _ (Array.mem_of_getElem? ho)
    rw[←ZhS (hat.m.bs q hq).2] at h1 h2
    obtain⟨σ2,a2,w2,m2,hs⟩:=hat.m.late hat.still hq hinl hr h2 h1 b k cs (Region.linearise.go .any ops fuel (t/(Region.ready .any ops listed).length) (listed.setIfInBounds q.i true) [])
    obtain⟨g1,g2⟩:=ih (t/(Region.ready .any ops listed).length) pre rest rs tm H A σ2 a2 w2 _ ⟨m2,hat.pl,hat.hd,hat.bs,hat.all,hat.run⟩ hu'
    exact⟨g1,g2.of_steps hs⟩
   ·obtain⟨l,rfl,hee⟩:=hat.next hq hr
    exact hat.eff hN hdl hc hee hr k cs _ fun pre' rest' rs' tm' H' A' σ' a' w' hat'=>ih _ pre' rest' rs' tm' H' A' σ' a' w' _ hat' hu'
end
end Go.AI
namespace Go.AI
open Go
section
variable {P:Program} {ops:Array Oper} {N:Nat} {ds:List Nat} {σ0:Mp} {H0:Heap} {w0:World} {a0:Act}
theorem ZbP: ∀{l1 pre l2:List SI},UE pre (l1++l2)→UE (pre++l1) l2
 |[],pre,l2,h=>by simpa using h
 |q::l1,pre,l2,h=>by
  have:=ZbP (l1:=l1) (pre:=pre++[q]) h.2.2.2.2
  simpa using this
theorem ZjG: ∀{l1 pre l2:List SI},UE pre (l1++l2)→UE pre l1
 |[],_,_,_=>trivial
 |q::l1,pre,l2,h=>⟨fun he r hr=>h.1 he r (List.mem_append.2 (.inl hr)),h.2.1,h.2.2.1,h.2.2.2.1,ZjG h.2.2.2.2⟩
theorem Tr.congr{σ σ':Mp}{H H' H'':Heap}{w w':World}(t:Tr P σ H w σ' H' w')(hg: ∀b,H''.t.get b=H'.t.get b)(hn:H''.nx=H'.nx)(hr:H''.ro=H'.ro):Tr P σ H w σ' H'' w':=by
 have hw: ∀b,Wr H'' b→Wr H' b:=fun b ⟨h1,o,h2,h3⟩=>⟨by rw[←hr];exact h1,o,by rw[←hg];exact h2,h3⟩
 exact⟨t.ext,⟨fun b l h=>by rw[hn];exact t.sim.dom b l h,fun b o h=>by rw[hn];exact t.sim.low b o (by rw[←hg];exact h),fun b o l h=>t.sim.alive b o l (by rw[←hg];exact h),
  fun b b' o o' l l' h h'=>t.sim.inj b b' o o' l l' (by rw[←hg];exact h) (by rw[←hg];exact h'),t.sim.glob,by rw[hn,hr];exact t.sim.ro⟩,t.size,t.frame,fun b l h=>t.wr b l (hw b h),
  by rw[hn];exact t.nx,by rw[hr];exact t.ro,fun b hb=>by rw[hg];exact t.low b hb,t.tape,t.os,t.out,fun b hb h=>by rw[hg];exact t.pend b hb h⟩
theorem Done.congr{m:Machine}{b:Frame}{k:List Item}{cs:List Frame}{out:Out}{tmO:TM}{HO H':Heap}(d:Done P N ds σ0 H0 w0 a0 m b k cs out tmO HO)(hg: ∀b,H'.t.get b=HO.t.get b)(hn:H'.nx=HO.nx)(hr:H'.ro=HO.ro):
  Done P N ds σ0 H0 w0 a0 m b k cs out tmO H':=by
 obtain⟨σ',a',w',h1,h⟩:=d
 exact⟨σ',a',w',h1.congr hg hn hr,h⟩
theorem Qw{o:Oper}{e:EvF}(h:Qm P o=some e):o.dst=none∧o.guard=none∧ZaW P o.op= .eff∧
  ∀tm H v H',WS P o.op tm H= .val v H'→ ∃b i ob,e tm= .ptr b i∧H'=H.put b ob∧ ∀H2,H2.t.get b=H.t.get b→H2.ro=H.ro→WS P o.op tm H2= .val v (H2.put b ob):=by
 unfold Qm at h
 split at h
 ·rename_i t a x hop hg hd
  cases h
  refine⟨hd,hg,by rw[hop];rfl,fun tm H v H' he=>?_⟩
  rw[hop] at he ⊢
  simp only[WS,VT] at he ⊢
  cases hi:P.info? t with
  |none=>rw[hi] at he;cases he
  |some i=>
   rw[hi] at he
   simp only[Z2,Zas] at he ⊢
   cases hp:Yq P a tm with
   |ptr b j=>
    rw[hp] at he
    simp only[YH] at he ⊢
    cases hb:H.t.get b with
    |none=>rw[hb] at he;cases he
    |some ob=>
     rw[hb] at he
     cases ob with
     |row r=>
      simp only[ZS] at he ⊢
      cases c1:Nat.ble 1 i.size with
      |false=>rw[c1] at he;cases he
      |true=>
      rw[c1] at he
      cases c2:H.may r b with
      |false=>rw[c2] at he;cases he
      |true=>
      rw[c2] at he
      cases c3:Nat.ble (Nat.add j i.size) r.size with
      |false=>rw[c3] at he;cases he
      |true=>
      rw[c3] at he
      cases c4:Nat.ble r.fz j with
      |false=>rw[c4] at he;cases he
      |true=>
      rw[c4] at he
      cases c5:Nat.beq (Yt (Yq P x tm).cells) i.size with
      |false=>rw[c5] at he;cases he
      |true=>
      rw[c5] at he
      cases he
      refine⟨b,j,_,rfl,rfl,fun H2 hg2 hr2=>?_⟩
      have c2':H2.may r b=true:=by unfold Heap.may at c2 ⊢;rw[hr2];exact c2
      simp only[hg2,hb,c2',c3,c4,c5,cond_true]
     |_=>cases he
   |_=>rw[hp] at he;cases he
 ·cases h
theorem Zs5{l:List RD}{r s:Res}(h:ZtO l r=s)(hs:s≠ .fail):l=[]∧r=s:=by
 cases l with
 |nil=>exact⟨rfl,h⟩
 |cons a l=>exact absurd h.symm hs
theorem ZpN{o:Oper}{e:EvF}(h:Qm P o=some e){q:SI}(hq:q=Zby P ops q.x)(hqo:q.x.1=o){dl:List ZE}{nx:PK}{c:Ctx}{rs:List RD}{tm:TM}{H:Heap}{x:X}{v:AV}{H':Heap}
  (hst:still tm H rs=true)(hf:WS P o.op (rsF tm (W6 o)) H= .val v H'):U2 dl (Wf P ops q.x) nx c rs tm H x=nx (Vt q.bef rs) tm H' x:=by
 obtain⟨h1,h2,h3,_⟩:=Qw h
 have hk:(Wf P ops q.x).kind= .eff:=by show ZaW P q.x.1.op=_;rw[hqo];exact h3
 unfold U2
 rw[hk]
 show cond (still tm H rs) (ZcH (Ur P ops q.x.1) tm (Zhb dl (Wf P ops q.x) nx rs c tm x (WS P q.x.1.op (rsF tm (W6 q.x.1)) H)) _) .fail=_
 have hg:Ur P ops q.x.1=none:=by unfold Ur;rw[hqo,h2]
 rw[hst,hg,hqo,hf]
 show nx (Vt (Wf P ops q.x).bef rs) (YZ q.x.1.dst tm v) H' x=_
 rw[hqo,h1,←ZiV hq]
 rfl
theorem Zld(hE:ZwD ops)(hN: ∀o∈ops,okT N o.dst=true∧ ∀t,o.dst=some t→t∈ds){c:Ctx}{x:X}{L:List SI}{s1 s2:SI}{e1 e2:EvF}
  (hs1:Qm P s1.x.1=some e1)(hs2:Qm P s2.x.1=some e2)(hb1:s1.x∈BS ops∧s1=Zby P ops s1.x)(hb2:s2.x∈BS ops∧s2=Zby P ops s2.x)(h12:s1.i≠s2.i)
  (hp1:UE L [s1])(hp2:UE L [s2])(hall: ∀j,j<ops.size→(∃q∈L,q.i=j)∨j=s1.i∨j=s2.i)
  {b:Frame}(hc:CtxOk P c b σ0 H0 w0)(k:List Item)(cs:List Frame){fuel t:Nat}{rs:List RD}{tm:TM}{H:Heap}{A:Nat→Option Nat}{σ:Mp}{a:Act}{w:World}{listed:Array Bool}
  (m:MS P ops N ds σ0 H0 w0 L rs tm H A σ a0 a w listed)(hst:still tm H rs=true)(hr:s1.i∈Region.ready .any ops listed)(hu:unl listed ops.size≤fuel+1)
  {v1 v2:AV}{H1 H2:Heap}(hf1:WS P s1.x.1.op (rsF tm (W6 s1.x.1)) H= .val v1 H1)(hf2:WS P s2.x.1.op (rsF tm (W6 s2.x.1)) H1= .val v2 H2)(hk1:Vt s1.bef rs=[]):
  Done P N ds σ0 H0 w0 a0 (lone (b.atR a (.inRegion ops (s1.i::Region.linearise.go .any ops fuel t (listed.setIfInBounds s1.i true) [])::k)) cs w) b k cs .normal tm H2:=by
 obtain⟨hilt,hinl⟩:=ZiW hr m.size
 have hu':unl (listed.setIfInBounds s1.i true) ops.size≤fuel:=by
  have:=(Zkj (by rw[m.size];exact hilt) hinl ops.size).1 hilt
  omega
 let L2:List SI:=(L++[s1])++[s2]
 let dl2:List ZE:=L2.map fun q=>YZ q.d
 have hee2:s2.eff=true:=by rw[Zof hb2.2,(Qw hs2).2.2.1];rfl
 have hd1:s1.d=none:=by rw[ZhS hb1.2];exact(Qw hs1).1
 have hd2:s2.d=none:=by rw[ZhS hb2.2];exact(Qw hs2).1
 have run2:W5 dl2 Zey [Wf P ops s2.x] c [] tm H1 x= .ok .normal tm H2 x:=by
  show U2 dl2 (Wf P ops s2.x) (W5 dl2 Zey [] c) c [] tm H1 x=_
  rw[ZpN hs2 hb2.2 rfl rfl hf2]
  rfl
 have ho:ops[s1.i]? =some s1.x.1:=by
  obtain⟨⟨j,h3,h4⟩,_⟩:=Qv _ _ _ _ hb1.1
  have:s1.i=s1.x.2.1:=by have:=hb1.2;rw[this];rfl
  rw[this,h4,Zi,←Z1]
  exact h3
 obtain⟨hNe,hdse⟩:=hN _ (Array.mem_of_getElem? ho)
 rw[←ZhS hb1.2] at hNe hdse
 have hlook: ∀t∈Ql ops s1.x.1,t<512→Rel σ (evT t tm) (a.tmps.getD t undef):=by
  rw[←ZpK hb1.2]
  exact m.looks (m.before hb1.1 hb1.2 hr) fun t' ht p hp hpd=> .inl (hp1.2.2.1 t' ht p hp hpd)
 have hwr:Region.wanted s1.x.1 (yielded ops a.tmps)=true:=by unfold Region.wanted;rw[(Qw hs1).2.1]
 have hops:Ops P σ (rsF tm (W6 s1.x.1)) a.eval:=ZhQ m.sim fun t ht=>hlook t (Zcy ht) (ZbO ht)
 have hok:=Zc6 m.sim hops s1.x.1
 unfold YG at hok
 rw[hf1] at hok
 obtain⟨σ1,w1,u,hrn,hrel,t1⟩:=hok
 have hs:=Zaj (b:=b) (k:=k) (cs:=cs) (rest:=Region.linearise.go .any ops fuel t (listed.setIfInBounds s1.i true) []) ho hwr (Zdx hf1) hrn
 have m':=m.eff hp1 hb1.1 hb1.2 hr hdse hNe t1 hrel
 rw[hk1,hd1] at m'
 have htm:YZ none tm v1=tm:=rfl
 rw[htm] at m'
 have hpl2:UE (L++[s1]) [s2]:=by
  refine⟨fun _ r hr=>(by cases hr), .inl (fun t ht=>by rw[hd2] at ht;cases ht),fun t ht p hp hpd=>?_,fun p hp=>?_,trivial⟩
  ·rcases List.mem_append.1 hp with hp|hp
   ·exact hp2.2.2.1 t ht p hp hpd
   ·obtain rfl:p=s1:=by simpa using hp
    rw[hd1] at hpd;cases hpd
  ·rcases List.mem_append.1 hp with hp|hp
   ·exact hp2.2.2.2.1 p hp
   ·obtain rfl:p=s1:=by simpa using hp
    exact h12
 have hat:At P ops N ds σ0 H0 w0 a0 dl2 Zey c x L2 .normal tm H2 x (L++[s1]) [s2] [] tm H1 A σ1 (a.put none u) w1 (listed.setIfInBounds s1.i true):=
  ⟨m',hpl2, .inr ⟨s2,[],rfl,hee2⟩,fun q hq=>(by have e:q=s2:=(by simpa using hq);rw[e];exact hb2),rfl,run2⟩
 obtain⟨_,g⟩:=ZpM hE hN (dl:=dl2) (L:=L2) rfl (fun j hj=>by
  rcases hall j hj with⟨q,hq,e⟩|e|e
  ·exact⟨q,List.mem_append.2 (.inl (List.mem_append.2 (.inl hq))),e⟩
  ·exact⟨s1,List.mem_append.2 (.inl (List.mem_append.2 (.inr (by simp)))),e.symm⟩
  ·exact⟨s2,List.mem_append.2 (.inr (by simp)),e.symm⟩) hc k cs fuel t _ _ _ _ _ _ _ _ _ _ hat hu'
 refine g.of_steps ?_
 have:s1.x.1.dst=none:=(Qw hs1).1
 rw[this] at hs
 exact hs
theorem ZwE{u v:AV}{r s:Res}(h:apart u v r=s)(hs:s≠ .fail): ∃b i b' i',u= .ptr b i∧v= .ptr b' i'∧b≠b'∧r=s:=by
 unfold apart at h
 split at h
 ·rename_i b i b' i'
  cases e:Nat.beq b b' with
  |true=>rw[e] at h;exact absurd h.symm hs
  |false=>
   rw[e] at h
   refine⟨b,i,b',i',rfl,rfl,fun e'=>?_,h⟩
   subst e'
   rw[Yc] at e;cases e
 ·exact absurd h.symm hs
theorem ZwF{r:OR}{k:Heap→Res}{s:Res}(h:onV r k=s)(hs:s≠ .fail): ∃v H',r= .val v H'∧k H'=s:=by
 cases r with
 |val v H'=>exact⟨v,H',rfl,h⟩
 |oth q=>exact absurd h.symm hs
theorem ZwG(hE:ZwD ops)(hN: ∀o∈ops,okT N o.dst=true∧ ∀t,o.dst=some t→t∈ds){dl:List ZE}{c:Ctx}{x:X}{L:List SI}{s1 s2:SI}{e1 e2:EvF}{out:Out}{tmO:TM}{HO:Heap}{xO:X}(hdl:dl=L.map fun q=>YZ q.d)
  (hs1:Qm P s1.x.1=some e1)(hs2:Qm P s2.x.1=some e2)(hb1:s1.x∈BS ops∧s1=Zby P ops s1.x)(hb2:s2.x∈BS ops∧s2=Zby P ops s2.x)(h12:s1.i≠s2.i)
  (hp1:UE [] (L++[s1]))(hp2:UE [] (L++[s2]))(hall: ∀j,j<ops.size→(∃q∈L,q.i=j)∨j=s1.i∨j=s2.i)
  {b:Frame}(hc:CtxOk P c b σ0 H0 w0)(k:List Item)(cs:List Frame): ∀(fuel t:Nat) (pre rest:List SI) (rs:List RD) (tm:TM) (H:Heap) (A:Nat→Option Nat) (σ:Mp) (a:Act) (w:World) (listed:Array Bool),
  At P ops N ds σ0 H0 w0 a0 dl (Zf2 (Wf P ops s1.x) (Wf P ops s2.x) e1 e2) c x L out tmO HO xO pre rest rs tm H A σ a w listed→unl listed ops.size≤fuel→
  xO=x∧Done P N ds σ0 H0 w0 a0 (lone (b.atR a (.inRegion ops (Region.linearise.go .any ops fuel t listed [])::k)) cs w) b k cs out tmO HO:=by
 have last: ∀(s:SI),(s=s1∨s=s2)→ ∀(pre rest:List SI) (rs:List RD) (tm:TM) (H:Heap) (A:Nat→Option Nat) (σ:Mp) (a:Act) (w:World) (listed:Array Bool),
   At P ops N ds σ0 H0 w0 a0 dl (Zf2 (Wf P ops s1.x) (Wf P ops s2.x) e1 e2) c x L out tmO HO xO pre rest rs tm H A σ a w listed→s.i∈Region.ready .any ops listed→rest=[]∧pre=L:=by
  intro s hs pre rest rs tm H A σ a w listed hat hr
  have hbs:s.x∈BS ops∧s=Zby P ops s.x:=by rcases hs with rfl|rfl;exact hb1;exact hb2
  have hps:UE [] (L++[s]):=by rcases hs with rfl|rfl;exact hp1;exact hp2
  have hall':=hat.all
  rcases hat.hd with e|⟨e,l,he,hee⟩
  ·subst e;exact⟨rfl,by simpa using hall'⟩
  ·exfalso
   subst he
   rw[←hall'] at hps
   have h1:=ZbP (l1:=pre) (pre:=[]) (l2:=(e::l)++[s]) (by simpa using hps)
   have h2:Nat.testBit s.bef e.i=true:=h1.1 hee s (by simp)
   have h3:=hat.m.before hbs.1 hbs.2 hr e.i h2
   obtain⟨p,hp,h4⟩:=hat.m.sub _ h3
   exact hat.pl.2.2.2.1 p hp h4
 have hpL1:UE L [s1]:=by simpa using ZbP (l1:=L) (pre:=[]) hp1
 have hpL2:UE L [s2]:=by simpa using ZbP (l1:=L) (pre:=[]) hp2
 have open1: ∀(pre rest:List SI) (rs:List RD) (tm:TM) (H:Heap) (A:Nat→Option Nat) (σ:Mp) (a:Act) (w:World) (listed:Array Bool),
   At P ops N ds σ0 H0 w0 a0 dl (Zf2 (Wf P ops s1.x) (Wf P ops s2.x) e1 e2) c x L out tmO HO xO pre rest rs tm H A σ a w listed→ ¬Ls listed s1.i:=by
  intro pre rest rs tm H A σ a w listed hat hl
  obtain⟨p,hp,e⟩:=hat.m.sub _ hl
  exact hpL1.2.2.2.1 p (by rw[←hat.all];exact List.mem_append.2 (.inl hp)) e
 have hi1:s1.i<ops.size:=by
  obtain⟨⟨j,h3,h4⟩,_⟩:=Qv _ _ _ _ hb1.1
  have:s1.i=s1.x.2.1:=by have:=hb1.2;rw[this];rfl
  rw[this,h4,Zi]
  rw[Z1] at h3
  exact(Array.getElem?_eq_some_iff.1 h3).1
 intro fuel
 induction fuel with
 |zero=>
  intro t pre rest rs tm H A σ a w listed hat hu
  exact absurd (Zlb (by omega) s1.i hi1) (open1 pre rest rs tm H A σ a w listed hat)
 |succ fuel ih=>
  intro t pre rest rs tm H A σ a w listed hat hu
  rw[ZpL]
  cases hi:(Region.ready .any ops listed)[t % (Region.ready .any ops listed).length]? with
  |none=>exact absurd (Zlc hE hat.m.size (Zm0 hi) s1.i hi1) (open1 pre rest rs tm H A σ a w listed hat)
  |some i=>
   have hr:i∈Region.ready .any ops listed:=List.mem_of_getElem? hi
   obtain⟨hilt,hinl⟩:=ZiW hr hat.m.size
   have hu':unl (listed.setIfInBounds i true) ops.size≤fuel:=by
    have:=(Zkj (by rw[hat.m.size];exact hilt) hinl ops.size).1 hilt
    omega
   have ends: ∀s:SI,(s=s1∨s=s2)→s.i∈Region.ready .any ops listed→pre=L∧ ∃v1 H1 v2 H2,Vt s1.bef rs=[]∧Vt s2.bef rs=[]∧
     WS P s1.x.1.op (rsF tm (W6 s1.x.1)) H= .val v1 H1∧WS P s2.x.1.op (rsF tm (W6 s2.x.1)) H1= .val v2 H2∧
     (∃b i b' i',e1 (rsF tm (W6 s1.x.1))= .ptr b i∧e2 (rsF tm (W6 s2.x.1))= .ptr b' i'∧b≠b')∧out= .normal∧tmO=tm∧HO=H2∧xO=x:=by
    intro s hs hrs
    obtain⟨rfl,hpre⟩:=last s hs pre rest rs tm H A σ a w listed hat hrs
    have hrun:=hat.run
    have hst:=hat.still
    have hrun:cond (still tm H rs) (Zf2 (Wf P ops s1.x) (Wf P ops s2.x) e1 e2 rs tm H x) .fail= .ok out tmO HO xO:=hrun
    rw[hst] at hrun
    have hrun:Zf2 (Wf P ops s1.x) (Wf P ops s2.x) e1 e2 rs tm H x= .ok out tmO HO xO:=hrun
    unfold Zf2 at hrun
    obtain⟨k1,hrun⟩:=Zs5 hrun (by simp)
    obtain⟨k2,hrun⟩:=Zs5 hrun (by simp)
    obtain⟨b1,i1,b2,i2,g1,g2,g3,hrun⟩:=ZwE hrun (by simp)
    obtain⟨v1,H1,f1,hrun⟩:=ZwF hrun (by simp)
    obtain⟨v2,H2,f2,hrun⟩:=ZwF hrun (by simp)
    cases hrun
    rw[←ZiV hb1.2] at k1
    rw[←ZiV hb2.2] at k2
    exact⟨hpre,v1,H1,v2,HO,k1,k2,f1,f2,⟨b1,i1,b2,i2,g1,g2,g3⟩,rfl,rfl,rfl,rfl⟩
   rcases hall i hilt with⟨q,hq,hqi⟩|e|e
   ·subst hqi
    rw[←hat.all] at hq
    rcases List.mem_append.1 hq with hq|hq
    ·have ho:=hat.m.oper hq
     obtain⟨h1,h2⟩:=hN _ (Array.mem_of_getElem? ho)
     rw[←ZhS (hat.m.bs q hq).2] at h1 h2
     obtain⟨σ2,a2,w2,m2,hs⟩:=hat.m.late hat.still hq hinl hr h2 h1 b k cs (Region.linearise.go .any ops fuel (t/(Region.ready .any ops listed).length) (listed.setIfInBounds q.i true) [])
     obtain⟨g1,g2⟩:=ih (t/(Region.ready .any ops listed).length) pre rest rs tm H A σ2 a2 w2 _ ⟨m2,hat.pl,hat.hd,hat.bs,hat.all,hat.run⟩ hu'
     exact⟨g1,g2.of_steps hs⟩
    ·obtain⟨l,rfl,hee⟩:=hat.next hq hr
     exact hat.eff hN hdl hc hee hr k cs _ fun pre' rest' rs' tm' H' A' σ' a' w' hat'=>ih _ pre' rest' rs' tm' H' A' σ' a' w' _ hat' hu'
   ·subst e
    obtain⟨rfl,v1,H1,v2,H2,k1,k2,f1,f2,_,rfl,rfl,rfl,rfl⟩:=ends s1 (.inl rfl) hr
    exact⟨rfl,Zld (x:=by assumption) hE hN hs1 hs2 hb1 hb2 h12 hpL1 hpL2 hall hc k cs hat.m hat.still hr hu f1 f2 k1⟩
   ·subst e
    obtain⟨rfl,v1,H1,v2,H2,k1,k2,f1,f2,⟨b1,i1,b2,i2,g1,g2,g3⟩,rfl,rfl,rfl,rfl⟩:=ends s2 (.inr rfl) hr
    obtain⟨c1,j1,o1,q1,rfl,q3⟩:=(Qw hs1).2.2.2 _ _ _ _ f1
    obtain⟨c2,j2,o2,q4,rfl,q6⟩:=(Qw hs2).2.2.2 _ _ _ _ f2
    rw[g1] at q1;cases q1
    rw[g2] at q4;cases q4
    have f2':=q6 H (by rw[Heap.get_put,if_neg g3]) rfl
    have f1':=q3 (H.put b2 o2) (by rw[Heap.get_put,if_neg fun e=>g3 e.symm]) rfl
    refine⟨rfl,(Zld (x:=by assumption) hE hN hs2 hs1 hb2 hb1 (fun e=>h12 e.symm) hpL2 hpL1 (fun j hj=>?_) hc k cs hat.m hat.still hr hu f2' f1' k2).congr (fun y=>?_) rfl rfl⟩
    ·rcases hall j hj with h|h|h
     ·exact .inl h
     ·exact .inr (.inr h)
     ·exact .inr (.inl h)
    ·rw[Heap.get_put,Heap.get_put,Heap.get_put,Heap.get_put]
     by_cases h1:b2=y<;>by_cases h2:b1=y
     ·exact absurd (h2.trans h1.symm) g3
     ·simp only[if_pos h1,if_neg h2]
     ·simp only[if_neg h1,if_pos h2]
     ·simp only[if_neg h1,if_neg h2]
end
end Go.AI
namespace Go.AI
open Go
section
variable {P:Program} {N:Nat}
theorem Zzz{ops:Array Oper}(h:(ops.toList.zipIdx.all fun x=>Zn1 x.2 x.1)=true):ZwD ops:=by
 intro j o ho e he hb
 have h1:=List.all_eq_true.1 h (o,j) (by rw[List.mk_mem_zipIdx_iff_getElem?,Z1];exact ho)
 have h2:=List.all_eq_true.1 h1 e (Array.mem_toList_iff.2 he)
 rw[hb] at h2
 exact ZO h2
theorem Zle{n i:Nat}:Nat.testBit (Nat.sub (bit n) 1) i=true↔i<n:=by
 have:Nat.testBit (2^n - 1) i=decide (i<n):=Nat.testBit_two_pow_sub_one n i
 show Nat.testBit (2^n - 1) i=true↔_
 rw[this];simp
theorem Zlf{l:List SI}{q:SI}(hq:q∈l){t:Nat}(ht:q.d=some t):(t,q.i)∈Zaz l:=by
 unfold Zaz
 exact List.mem_filterMap.2 ⟨q,hq,by rw[ht]⟩
theorem Zrq{ops:Array Oper}{q:SI}(h:q∈ZkE P ops):q.x∈BS ops∧q=Zby P ops q.x:=by
 have h:=ZgP _ _ _ q h
 obtain⟨x,hx,rfl⟩:=List.mem_map.1 h
 exact⟨hx,rfl⟩
theorem ZEA{ops:Array Oper}{q:SI}(h:q.x∈BS ops∧q=Zby P ops q.x):q.i<ops.size:=by
 obtain⟨⟨j,h3,h4⟩,_⟩:=Qv _ _ _ _ h.1
 have:q.i=q.x.2.1:=by have:=h.2;rw[this];rfl
 rw[this,h4,Zi]
 rw[Z1] at h3
 exact(Array.getElem?_eq_some_iff.1 h3).1
theorem ZwH{ops:Array Oper}{ds:List Nat}{σ:Mp}{b:Frame}{K:Bool→List Frame}{lo:Nat}{tm:TM}{H:Heap}{x:X}{a:Act}{w:World}(hs:St P σ b K N lo tm H x a w):
  MS P ops N ds σ H w [] [] tm H (fun _=>none) σ a a w (Array.replicate ops.size false):=by
 have hl: ∀j,¬Ls (Array.replicate ops.size false) j:=by
  intro j h
  unfold Ls at h
  rw[ZQ] at h
  by_cases e:j<ops.size
  ·simp[Array.getElem?_replicate,e] at h
  ·simp[Array.getElem?_replicate,e] at h
 refine⟨by simp,fun j h=>absurd h (hl j),fun q h=>(by cases h),fun x _ h=>absurd h (hl _),fun q h=>(by cases h),fun q h=>(by cases h),fun q h=>(by cases h),fun q h=>(by cases h),?_,hs.sim,TrW.refl σ H w,fun _ _ h=>⟨rfl,h⟩,hs.tm.size,fun n hn=> .inr (hs.tm.get n hn),fun _ _=>rfl,rfl,fun q h=>(by cases h),fun i j n h=>(by cases h),fun i n h=>(by cases h)⟩
 refine Nat.le_of_not_lt fun h=>?_
 obtain⟨l,h1,_⟩:=hs.sim.glob H.nx h
 have:=hs.sim.dom _ _ h1
 omega
theorem St.drew{σ:Mp}{b:Frame}{K:Bool→List Frame}{lo:Nat}{tm:TM}{H:Heap}{x:X}{a:Act}{w:World}(hs:St P σ b K N lo tm H x a w):St P σ b K N lo tm H x a w.drew:=
 hs.step (Tr.drew hs.sim) hs.tm rfl
theorem Zgl{ops:Array Oper}{id:Nat}{d:D}{ds:List Nat}(hm:P.follows .mixedOrders=true)
  (h: ∀(c:Ctx) (b:Frame) (σ:Mp) (tm:TM) (H:Heap) (x:X) (a:Act) (w:World) (k:List Item) (cs:List Frame) (t:Nat) (out:Out) (tmO:TM) (HO:Heap) (xO:X),CtxOk P c b σ H w→
   MS P ops N ds σ H w [] [] tm H (fun _=>none) σ a a w (Array.replicate ops.size false)→d c tm H x= .ok out tmO HO xO→
   xO=x∧Done P N ds σ H w a (lone (b.atR a (.inRegion ops (Region.linearise.go .any ops ops.size t (Array.replicate ops.size false) [])::k)) cs w) b k cs out tmO HO):
  Sound P N d [.code (.region id ops true)] ds:=by
 intro c b K lo σ tm H x a w k o tm' H' x' hc hs he
 have td:=Tr.drew (P:=P) hs.sim
 obtain⟨rfl,σ',a',w',t1,h2,h3,h4,h5⟩:=h c b σ tm H x a w.drew k (K x.rc.isSome) (w.tape w.drawn (.order b.fn id)) o tm' H' x' (hc.tr td) (ZwH hs.drew) he
 refine⟨σ',a',w',td.trans t1,hs.step (td.trans t1) h2 h3,h4, .of_steps (.one ?_) h5⟩
 have:=stepR_region_draw (P:=P) (b:=b) (a:=a) (k:=k) (cs:=K x'.rc.isSome) (w:=w) (ops:=ops) (id:=id)
 simp only[Region.schedule,hm,Bool.true_or,if_true] at this
 exact this
theorem Zm1(ops:Array Oper):unl (Array.replicate ops.size false) ops.size≤ops.size:=by
 have: ∀(l:Array Bool) n,unl l n≤n:=by
  intro l n
  induction n with
  |zero=>exact Zk _
  |succ n ih=>unfold unl;split<;>omega
 exact this _ _
theorem ZpO(ops:Array Oper)(l:List SI)(h: ∀q∈l,q=Zby P ops q.x):(l.map fun q=>Wf P ops q.x).map (·.dst)=l.map fun q=>YZ q.d:=by
 rw[List.map_map]
 refine List.map_congr_left fun q hq=>?_
 show YZ q.x.1.dst=YZ q.d
 rw[ZhS (h q hq)]
theorem ZpP(hm:P.follows .mixedOrders=true){id:Nat}{ops:Array Oper}(hN:ops.toList.all (fun o=>okT N o.dst)=true):Sound P N (Zq4 P ops) [.code (.region id ops true)] (ops.toList.filterMap (·.dst)):=by
 have hN': ∀o∈ops,okT N o.dst=true∧ ∀t,o.dst=some t→t∈ops.toList.filterMap (·.dst):=fun o ho=>
  ⟨List.all_eq_true.1 hN o (Array.mem_toList_iff.2 ho),fun t ht=>List.mem_filterMap.2 ⟨o,Array.mem_toList_iff.2 ho,ht⟩⟩
 unfold Zq4
 cases hE:(ops.toList.zipIdx.all fun x=>Zn1 x.2 x.1) with
 |false=>exact Zah _ _
 |true=>
 have hE:=Zzz hE
 show Sound P N (Zn2 P ops (ZkE P ops)) _ _
 have hbs: ∀q∈ZkE P ops,q.x∈BS ops∧q=Zby P ops q.x:=fun q hq=>Zrq hq
 generalize ZkE P ops=l at hbs
 unfold Zn2
 cases hB:Zd3 (Zaz l) l l 0 0 0 (Nat.sub (bit ops.size) 1) with
 |true=>
  show Sound P N (YK (l.map fun q=>Wf P ops q.x)) _ _
  obtain⟨h1,h2⟩:=ZhP (pre:=[]) hB (fun p hp=>by simpa using hp) (fun p hp t ht=>Zlf (by simpa using hp) ht) (fun p hp=>by cases hp) (fun i=>by simp)
  refine Zgl hm fun c b σ tm H x a w k cs t out tmO HO xO hc m he=>?_
  obtain⟨pre',rest',rs',tm',H',A',g1,g2,g3,g4,g5,g6⟩:=MS.advance (dl:=(List.map (fun q:SI=>Wf P ops q.x) l).map (fun p:PI=>p.dst)) (fin:=Zey) (c:=c) (x:=x) (out:=out) (tmO:=tmO) (HO:=HO) (xO:=xO) l [] [] tm H _ m h1 hbs he
  exact ZpM hE hN' (ZpO ops l fun q hq=>(hbs q hq).2) (L:=l) (fun j hj=>by
   obtain⟨p,hp,e⟩:=(h2 j).1 (Zle.2 hj)
   exact⟨p,by simpa using hp,e⟩) hc k cs ops.size t pre' rest' rs' tm' H' A' σ a w _ ⟨g3,g4,g2,g5,by rw[←g1];simp,g6⟩ (Zm1 ops)
 |false=>
  show Sound P N (Zq3 P ops (Zaz l) l (Nat.sub (bit ops.size) 1) (Zkg l)) _ _
  cases hl:Zkg l with
  |none=>exact Zah _ _
  |some y=>
   obtain⟨r,s1,s2⟩:=y
   have hlr:l=r++[s1,s2]:=by
    unfold Zkg at hl
    split at hl
    ·rename_i b' a' r' hrev
     cases hl
     have:=congrArg List.reverse hrev
     simpa using this
    ·cases hl
   subst hlr
   unfold Zq3
   cases hs1:Qm P s1.x.1 with
   |none=>simp only[hs1];exact Zah _ _
   |some e1=>
   cases hs2:Qm P s2.x.1 with
   |none=>simp only[hs1,hs2];exact Zah _ _
   |some e2=>
   simp only[hs1,hs2]
   cases hB1:Zd3 (Zaz (r++[s1,s2])) (r++[s1,s2]) (r++[s1]) 0 0 0 (Nat.xor (Nat.sub (bit ops.size) 1) (bit s2.i)) with
   |false=>exact Zah _ _
   |true=>
   cases hB2:Zd3 (Zaz (r++[s1,s2])) (r++[s1,s2]) (r++[s2]) 0 0 0 (Nat.xor (Nat.sub (bit ops.size) 1) (bit s1.i)) with
   |false=>exact Zah _ _
   |true=>
   have hb1:=hbs s1 (by simp)
   have hb2:=hbs s2 (by simp)
   have hw: ∀s,s=s1∨s=s2→ ∀p∈[]++(r++[s]),∀t,p.d=some t→(t,p.i)∈Zaz (r++[s1,s2]):=by
    intro s hs p hp t ht
    refine Zlf ?_ ht
    rw[List.nil_append] at hp
    rcases List.mem_append.1 hp with h|h
    ·exact List.mem_append.2 (.inl h)
    ·have e:p=s:=by simpa using h
     rw[e]
     rcases hs with rfl|rfl<;>simp
   obtain⟨h1,h2⟩:=ZhP (pre:=[]) hB1 (fun p hp=>by simp at hp ⊢;rcases hp with h|h<;>simp[h]) (hw s1 (.inl rfl)) (fun p hp=>by cases hp) (fun i=>by simp)
   obtain⟨h3,h4⟩:=ZhP (pre:=[]) hB2 (fun p hp=>by simp at hp ⊢;rcases hp with h|h<;>simp[h]) (hw s2 (.inr rfl)) (fun p hp=>by cases hp) (fun i=>by simp)
   show Sound P N (Ziy (r.map fun q=>Wf P ops q.x) (Wf P ops s1.x) (Wf P ops s2.x) e1 e2) _ _
   have hx: ∀(s:SI) (i:Nat),Nat.testBit (Nat.xor (Nat.sub (bit ops.size) 1) (bit s.i)) i=(Nat.testBit (Nat.sub (bit ops.size) 1) i !=decide (s.i=i)):=by
    intro s i
    have:Nat.testBit (Nat.xor (Nat.sub (bit ops.size) 1) (bit s.i)) i=(Nat.testBit (Nat.sub (bit ops.size) 1) i^^Nat.testBit (bit s.i) i):=Nat.testBit_xor _ _ _
    rw[this,Zai]
   have h12:s1.i≠s2.i:=by
    intro e
    have h5:=(h2 s1.i).2 ⟨s1,by simp,rfl⟩
    rw[hx,Zle.2 (ZEA hb1),Zh e.symm] at h5
    cases h5
   refine Zgl hm fun c b σ tm H x a w k cs t out tmO HO xO hc m he=>?_
   have hbr: ∀q∈r,q.x∈BS ops∧q=Zby P ops q.x:=fun q hq=>hbs q (List.mem_append.2 (.inl hq))
   obtain⟨pre',rest',rs',tm',H',A',g1,g2,g3,g4,g5,g6⟩:=MS.advance (dl:=(List.map (fun q:SI=>Wf P ops q.x) r).map (fun p:PI=>p.dst)) (fin:=Zf2 (Wf P ops s1.x) (Wf P ops s2.x) e1 e2) (c:=c) (x:=x) (out:=out) (tmO:=tmO) (HO:=HO) (xO:=xO) r [] [] tm H _ m (ZjG h1) hbr he
   exact ZwG hE hN' (ZpO ops r fun q hq=>(hbr q hq).2) hs1 hs2 hb1 hb2 h12 h1 h3 (L:=r) (fun j hj=>by
    by_cases e:j=s2.i
    ·exact .inr (.inr e)
    ·have h5:Nat.testBit (Nat.xor (Nat.sub (bit ops.size) 1) (bit s2.i)) j=true:=by
      rw[hx,Zle.2 hj,Zc (fun h=>e h.symm)];rfl
     obtain⟨p,hp,e2⟩:=(h2 j).1 h5
     have hp:p∈r++[s1]:=by simpa using hp
     rcases List.mem_append.1 hp with hp|hp
     ·exact .inl ⟨p,hp,e2⟩
     ·have:p=s1:=by simpa using hp
      subst this
      exact .inr (.inl e2.symm)) hc k cs ops.size t pre' rest' rs' tm' H' A' σ a w _ ⟨g3,g4,g2,g5,by rw[←g1];simp,g6⟩ (Zm1 ops)
end
end Go.AI
