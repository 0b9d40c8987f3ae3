/- Code does what the machine does, in every order: proved for told worlds. -/
import Derived.Test.YtmnmknjlgpjcbaaGreatDoorP3
import Derived.AtR
import Derived.Recover
import Derived.Orders
set_option maxRecDepth 1000000
set_option maxHeartbeats 0
set_option linter.unusedVariables false
set_option linter.unusedSimpArgs false
namespace Go.AI
open Go
noncomputable section
def Zay(K KP:Value->World->Prop):Ending->World->Prop
 |.returned v,w=>K v w
 |.panicked c,w=> ∃v,c=[{v,recovered:=false}]∧KP v w
 |.outgrown,_=>False
def ZeI(P:Program)(l:Nat)(f:FuncId)(tmps:Array Value)(assign body:Code)(w:World)(K:Value->World->Prop):Prop:=
 ∀(fr:Frame) (cs:List Frame),∃v w',K v w'∧Steps P (lone (Frame.round l f tmps assign body .normal) (fr::cs) w) (lone (fr.finish v) cs w')
def Ends(P:Program)(K KP:Value->World->Prop)(r:Result Next):Prop:=match r with
 |.ok (.value v) w=>K v w
 |.ok .skip w=>K undef w
 |.ok (.enter f args) w=>Calls P f args w (Zay K KP)
 |.ok (.round l f tmps assign body) w=>ZeI P l f tmps assign body w K
 |.halt (.panic v) w=>KP v w
 |_=>False
theorem Zay.mono{K KP K' KP':Value->World->Prop}(h: ∀v w,K v w->K' v w)(h': ∀v w,KP v w->KP' v w)(e:Ending)(w:World)(x:Zay K KP e w):Zay K' KP' e w:=by
 cases e with
 |returned v=>exact h v w x
 |panicked c=>obtain⟨v,h1,h2⟩:=x;exact⟨v,h1,h' v w h2⟩
 |outgrown=>exact x
theorem Ends.mono{P:Program}{K KP K' KP':Value->World->Prop}(h: ∀v w,K v w->K' v w)(h': ∀v w,KP v w->KP' v w){r:Result Next}(x:Ends P K KP r):Ends P K' KP' r:=by
 unfold Ends at*
 split
 ·exact h _ _ x
 ·exact h _ _ x
 ·exact Calls.mono x λe w he=>he.mono h h'
 ·intro fr cs;obtain⟨v,w',h1,h2⟩:=x fr cs;exact⟨v,w',h _ _ h1,h2⟩
 ·exact h' _ _ x
 ·rename_i q1 q2 q3 q4 q5
  split at x
  ·exact absurd rfl (q1 _ _)
  ·exact absurd rfl (q2 _)
  ·exact absurd rfl (q3 _ _ _)
  ·exact absurd rfl (q4 _ _ _ _ _ _)
  ·exact absurd rfl (q5 _ _)
  ·exact x.elim
section
variable {P:Program} {b:Frame} {a:Act} {k:List Item} {cs:List Frame} {w:World} {ops:Array Oper}
theorem PT{i:Nat}{rest:List Nat}{o:Oper}(ho:ops[i]? =some o)(hw:Region.wanted o (yielded ops a.tmps)=true)
  (hd: ∀c,o.op≠.defer c){K KP:Value->World->Prop}(h:Ends P K KP ((execOp a.eval o).run P w)):
  (∃v w',K v w'∧Steps P (lone (b.atR a (.inRegion ops (i::rest)::k)) cs w) (lone (b.atR (a.put o.dst v) (.inRegion ops rest::k)) cs w'))∨
  (∃v w',KP v w'∧Steps P (lone (b.atR a (.inRegion ops (i::rest)::k)) cs w)
   (lone {b.atR a (.inRegion ops (i::rest)::k) with mode:=.panicking [{v,recovered:=false}]} cs w')):=by
 have hg:=stepGR_op (P:=P) (b:=b) (k:=k) (cs:=cs) (w:=w) (rest:=rest) ho hw
 rw[Oper.semAt_eq _ _ _ hd] at hg
 have GY: ∀v,(b.atR a (.inRegion ops (i::rest)::k)).finish v=b.atR (a.put o.dst v) (.inRegion ops rest::k):=by
  intro v;rw[Frame.finish_atR,ho];rfl
 unfold Ends at h
 split at h
 ·rename_i v w' hr
  refine .inl ⟨v,w',h,.one (step_lone_go ?_)⟩
  rw[hg,<-GY];simp[stepG.apply,hr]
 ·rename_i w' hr
  refine .inl ⟨undef,w',h,.one (step_lone_go ?_)⟩
  rw[hg,<-GY];simp[stepG.apply,hr]
 ·rename_i f args w' hr
  obtain⟨e,w'',fr,hR,P9,_,G1⟩:=h (b.atR a (.inRegion ops (i::rest)::k)::cs)
  have Kc:step P (lone (b.atR a (.inRegion ops (i::rest)::k)) cs w)=
    .next (lone (Frame.enter P f args .normal) (b.atR a (.inRegion ops (i::rest)::k)::cs) w'):=
   step_lone_go (by rw[hg];simp[stepG.apply,hr,Frame.atR])
  cases e with
  |returned v=>
   refine .inl ⟨v,w'',hR,.head Kc (P9.trans (.one ?_))⟩
   rw[<-GY];exact step_leave_returned G1
  |panicked chain=>
   obtain⟨v,rfl,hR⟩:=hR
   refine .inr ⟨v,w'',hR,.head Kc (P9.trans (.one ?_))⟩
   rw[<-Frame.raise_atR];exact step_leave_panicked G1
  |outgrown=>exact hR.elim
 ·rename_i l f tmps assign body w' hr
  obtain⟨v,w'',hR,P9⟩:=h (b.atR a (.inRegion ops (i::rest)::k)) cs
  have Kc:step P (lone (b.atR a (.inRegion ops (i::rest)::k)) cs w)=
    .next (lone (Frame.round l f tmps assign body .normal) (b.atR a (.inRegion ops (i::rest)::k)::cs) w'):=
   step_lone_go (by rw[hg];simp[stepG.apply,hr,Frame.atR])
  refine .inl ⟨v,w'',hR,.head Kc ?_⟩
  rw[<-GY];exact P9
 ·rename_i v w' hr
  refine .inr ⟨v,w',h,.one (step_lone_go ?_)⟩
  rw[hg,<-Frame.raise_atR];simp[stepG.apply,hr]
 ·exact h.elim
theorem bg{i:Nat}{rest:List Nat}{o:Oper}(ho:ops[i]? =some o)(hw:Region.wanted o (yielded ops a.tmps)=true)
  (hb:b.roundOf=none){d:Deferred}{w':World}(h:(execOp a.eval o).run P w=.ok (.defer d) w'):
  Steps P (lone (b.atR a (.inRegion ops (i::rest)::k)) cs w) (lone (b.atR ({a with defers:=d::a.defers}.put o.dst undef) (.inRegion ops rest::k)) cs w'):=by
 have hg:=stepGR_op (P:=P) (b:=b) (k:=k) (cs:=cs) (w:=w) (rest:=rest) ho hw
 rw[hb,Oper.semAt_none] at hg
 have GY:=Frame.finish_atR b {a with defers:=d::a.defers} ops i rest k undef
 rw[ho] at GY
 refine .one (step_lone_go ?_)
 rw[hg];simp only[stepG.apply,Sem.runT_eq,h,GStep.bare_after]
 exact congrArg (λfr=>GStep.go {frame:=fr,callers:=cs,status:=.running,dying:=none} w') GY
theorem C0{i:Nat}{rest:List Nat}{o:Oper}(ho:ops[i]? =some o)(hw:Region.wanted o (yielded ops a.tmps)=true)
  (hb:b.roundOf=none){w':World}(h:(execOp a.eval o).run P w=.ok .recover w'){v:Value}{Jm:List Frame}
  (hr:(∀fr:Frame,fr.kind=b.kind->tryRecover fr cs=some (v,Jm))∨((∀fr:Frame,fr.kind=b.kind->tryRecover fr cs=none)∧v=.nilIface∧Jm=cs)):
  Steps P (lone (b.atR a (.inRegion ops (i::rest)::k)) cs w) (lone (b.atR (a.put o.dst v) (.inRegion ops rest::k)) Jm w'):=by
 have hg:=stepGR_op (P:=P) (b:=b) (k:=k) (cs:=cs) (w:=w) (rest:=rest) ho hw
 rw[hb,Oper.semAt_none] at hg
 have GY: ∀v,(b.atR a (.inRegion ops (i::rest)::k)).finish v=b.atR (a.put o.dst v) (.inRegion ops rest::k):=by
  intro v;rw[Frame.finish_atR,ho];rfl
 refine .one (step_lone_go ?_)
 rw[hg,<-GY]
 have YL:(b.atR a (.inRegion ops (i::rest)::k)).roundOf=none:=hb
 rcases hr with hr|⟨hr,rfl,rfl⟩
 ·have:=hr (b.atR a (.inRegion ops (i::rest)::k)) rfl
  simp only[stepG.apply,Sem.runT_eq,h,GStep.bare_after,YL,this];rfl
 ·have:=hr (b.atR a (.inRegion ops (i::rest)::k)) rfl
  simp only[stepG.apply,Sem.runT_eq,h,GStep.bare_after,YL,this];rfl
end
section
variable (P:Program)
def dark(c:Go.Obj):Prop:=match c with|.loop _=>True|.deferred _=>True|_=>False
variable {P}
theorem Tr.dark{σ σ':Mp}{H H':Zc}{w w':World}(hs:Wh P σ H w)(h:Tr P σ H w σ' H' w'){r:Nat}{c:Go.Obj}(hr:w.heap[r]? =some c)(hc:dark c):w'.heap[r]? =some c:=by
 rw[h.frame r (ZW.1 hr).1 ?_];exact hr
 intro b l hw hl e
 obtain⟨_,o,ho,Kf,hlp⟩:=hw
 obtain⟨c',rD,U5⟩:=hs.alive b o l ho hl
 rw[e,hr] at rD
 cases rD
 cases o with
 |row r=>obtain⟨cs,fr,rfl,_⟩:=U5;exact hc
 |map es cl=>obtain⟨en,rfl,_⟩:=U5;exact hc
 |siter s p=>obtain⟨rfl,_⟩:=U5;exact hc
 |cmap es=>obtain⟨en,cl,fs,rfl,_⟩:=U5;exact hc
 |miter m s q=>obtain⟨se,st,rfl,_⟩:=U5;exact hc
 |loop=>exact hlp rfl
inductive VZ(σ:Mp)(w:World)(lo:Nat):List (AV×List AV)->List Deferred->Prop
 |nil:VZ σ w lo [] []
 |call {g:Nat} {p q args:List AV} {x y z:List Value} {l:List (AV×List AV)} {ds:List Deferred}:YM σ p x->YM σ args y->YM σ q z->VZ σ w lo l ds->
   VZ σ w lo ((.func g p q,args)::l) ({target:=.fn (.func g) ⟨z⟩,args:=⟨x++y⟩}::ds)
 |mark {r:Nat} {l:List (AV×List AV)} {ds:List Deferred}:lo<=r->w.heap[r]? =some (.deferred (some []))->(∀d∈ds,∀r',d.target=.collected r'->r'≠r)->VZ σ w lo l ds->
   VZ σ w lo l ({target:=.collected r,args:= #[]}::ds)
theorem VZ.mono{σ σ':Mp}{w w':World}{lo:Nat}(he:Oq σ σ')(hd: ∀(r:Nat) (x:Option (List Deferred)),w.heap[r]? =some (.deferred x)->w'.heap[r]? =some (.deferred x)){l:List (AV×List AV)}{ds:List Deferred}(h:VZ σ w lo l ds):VZ σ' w' lo l ds:=by
 induction h with
 |nil=>exact .nil
 |call h1 h2 h3 _ ih=>exact .call (h1.mono he) (h2.mono he) (h3.mono he) ih
 |mark h1 h2 h3 _ ih=>exact .mark h1 (hd _ _ h2) h3 ih
theorem VZ.tr{σ σ':Mp}{H H':Zc}{w w':World}{lo:Nat}(hs:Wh P σ H w)(h:Tr P σ H w σ' H' w'){l:List (AV×List AV)}{ds:List Deferred}(d:VZ σ w lo l ds):VZ σ' w' lo l ds:=
 d.mono h.ext λ_ _ hr=>h.dark hs hr trivial
structure Iv(σ:Mp)(kd:CallKind)(K:Bool->List Frame)(rc:Option AV):Prop where
 no: ∀fr:Frame,fr.kind=kd->tryRecover fr (K false)=none
 yes: ∀v,rc=some v-> ∃u,Ys σ v u∧ ∀fr:Frame,fr.kind=kd->tryRecover fr (K true)=some (u,K false)
theorem Iv.mono{σ σ':Mp}(he:Oq σ σ'){kd:CallKind}{K:Bool->List Frame}{rc:Option AV}(h:Iv σ kd K rc):Iv σ' kd K rc:=
 ⟨h.no,λv hv=>let ⟨u,h1,h2⟩:=h.yes v hv;⟨u,h1.mono he,h2⟩⟩
structure St(P:Program)(σ:Mp)(b:Frame)(K:Bool->List Frame)(N lo:Nat)(tm:TM)(H:Zc)(x:X)(a:Act)(w:World):Prop where
 sim:Wh P σ H w
 tm:Qv σ N tm a.tmps
 df:VZ σ w lo x.df a.defers
 rc:Iv σ b.kind K x.rc
 lo:lo<=w.heap.size
theorem St.step{σ σ':Mp}{b:Frame}{K:Bool->List Frame}{N lo:Nat}{tm Yp:TM}{H H':Zc}{x:X}{a a':Act}{w w':World}
  (h:St P σ b K N lo tm H x a w)(t:Tr P σ H w σ' H' w')(ht:Qv σ' N Yp a'.tmps)(hd:a'.defers=a.defers):St P σ' b K N lo Yp H' x a' w':=
 ⟨t.sim,ht,by rw[hd];exact h.df.tr h.sim t,h.rc.mono t.ext,Yt h.lo t.size⟩
theorem Hz(a:Act)(d:Option Tmp)(v:Value):(a.put d v).tmps=(match d with|some t=>a.tmps.setIfInBounds t v|none=>a.tmps):=by cases d<;>rfl
theorem Rh(a:Act)(d:Option Tmp)(v:Value):(a.put d v).defers=a.defers:=by cases d<;>rfl
theorem put_old(a:Act)(d:Option Tmp)(v:Value){n:Nat}(h: ∀t,d=some t->n≠t):(a.put d v).tmps[n]? =a.tmps[n]? :=by
 cases d with
 |none=>rfl
 |some t=>exact Uj (λe=>h t rfl e.symm)
theorem Qv.put{σ:Mp}{N:Nat}{tm:TM}{a:Act}(h:Qv σ N tm a.tmps){d:Option Nat}{v:AV}{u:Value}(hd:CX N d=true)(hr:Ys σ v u):Qv σ N (XR d tm v) (a.put d u).tmps:=by
 cases d with
 |none=>exact h
 |some t=>exact h.set (ZN hd) hr
def Lq(P:Program)(σ:Mp)(H:Zc)(w:World)(r:CR)(res:Result Next):Prop:=match r with
 |.fail=>True
 |.ret v H'=>Ends P (λu w'=> ∃σ',Ys σ' v u∧Tr P σ H w σ' H' w') (λ_ _=>False) res
 |.pan v H'=>Ends P (λ_ _=>False) (λu w'=> ∃σ',Ys σ' v u∧Tr P σ H w σ' H' w') res
def SL(P:Program)(call:Nat->List AV->Zc->CR):Prop:=
 ∀f args H σ w vs,Wh P σ H w->YM σ args vs->Lq P σ H w (call f args H) ((callFunc f ⟨vs⟩).run P w)
def wV(P:Program)(yld:Nat->List AV->Zc->CR)(σ0:Mp)(H0:Zc)(w0:World):Prop:=
 ∀bk args H σ w l vs,Tr P σ0 H0 w0 σ H w->σ bk=some l->YM σ args vs->Lq P σ H w (yld bk args H) ((Instr.yield l.blk ⟨vs⟩).run P w)
theorem wV.tr{yld:Nat->List AV->Zc->CR}{σ σ':Mp}{H H':Zc}{w w':World}(h:wV P yld σ H w)(t:Tr P σ H w σ' H' w'):wV P yld σ' H' w':=
 λbk args H σ w l vs t' h1 h2=>h bk args H σ w l vs (t.trans t') h1 h2
theorem BZ(σ:Mp)(H:Zc)(w:World):wV P Vt σ H w:=λ_ _ _ _ _ _ _ _ _ _=>trivial
def Dn(P:Program)(m:Machine)(b:Frame)(k:List Item)(cs:List Frame)(σ:Mp)(o:Out)(a:Act)(w:World):Prop:=match o with
 |.normal=>Steps P m (lone (b.atR a k) cs w)
 |.exit id=> ∀k',exitTo id k=some k'->Steps P m (lone (b.atR a k') cs w)
 |.ret=>b.roundOf=none-> ∃todo,Steps P m (lone {b.atR a todo with mode:=.returning} cs w)
 |.pan v=> ∃todo u,Ys σ v u∧Steps P m (lone {b.atR a todo with mode:=.panicking [{v:=u,recovered:=false}]} cs w)
theorem Dn.of_steps{m m1:Machine}{b:Frame}{k:List Item}{cs:List Frame}{σ:Mp}{o:Out}{a:Act}{w:World}(h:Steps P m m1)(x:Dn P m1 b k cs σ o a w):Dn P m b k cs σ o a w:=by
 cases o with
 |normal=>exact h.trans x
 |exit id=>exact λk' hk=>h.trans (x k' hk)
 |ret=>exact λhb=>let ⟨todo,hs⟩:=x hb;⟨todo,h.trans hs⟩
 |pan v=>obtain⟨todo,u,hu,hs⟩:=x;exact⟨todo,u,hu,h.trans hs⟩
theorem Dn.pass{m:Machine}{b:Frame}{y:Item}{k:List Item}{cs:List Frame}{σ:Mp}{o:Out}{a:Act}{w:World}(hy:y.plain=true)(ho:o≠.normal)(x:Dn P m b (y::k) cs σ o a w):Dn P m b k cs σ o a w:=by
 cases o with
 |normal=>exact absurd rfl ho
 |exit id=>exact λk' hk=>x k' (by cases y<;>simp_all [exitTo,Item.plain])
 |ret=>exact x
 |pan v=>exact x
end
def wU(P:Program)(rng:AV->(List AV->Zc->CR)->TM->Zc->X->X6):Prop:=
 ∀(f:AV) (round:List AV->Zc->CR) (tm:TM) (H:Zc) (x:X) (o:Out) (Yp:TM) (H':Zc) (x':X),rng f round tm H x=.ok o Yp H' x'->
 ∀(σ:Mp) (w:World) (b:Frame) (K:Bool->List Frame) (N lo:Nat) (a:Act) (k:List Item) (g:Operand) (ps:Array Tmp) (asg body:Code),
  St P σ b K N lo tm H x a w->b.roundOf=none->Ys σ f (a.eval g)->
  (∀(σ1:Mp) (H1:Zc) (w1:World) (l:Nat) (df:Nat) (ys:List AV) (vs:List Value),Oq σ σ1->Wh P σ1 H1 w1->
   w1.heap[l]? =some (.loop {state:=.ready,pending:=none,fn:=b.fn,tmps:=a.tmps,params:=ps,assign:=asg,body:=body,defers:=df})->YM σ1 ys vs->
   Lq P σ1 H1 w1 (round ys H1) ((Instr.yield l ⟨vs⟩).run P w1))->
  ∃σ' a' w',Tr P σ H w σ' H' w'∧St P σ' b K N lo Yp H' x' a' w'∧a'.tmps=a.tmps∧
   Dn P (lone (b.atR a (.code (.rangeFunc g ps asg body)::k)) (K x.rc.isSome) w) b k (K x'.rc.isSome) σ' o a' w'
theorem HM(P:Program):wU P VB:=λ_ _ _ _ _ _ _ _ _ h=>by cases h
structure OQ(P:Program)(c:Ctx)(b:Frame)(σ:Mp)(H:Zc)(w:World):Prop where
 call:SL P c.call
 yld:wV P c.yld σ H w
 rnd:c.rnd=false->b.roundOf=none
 rng:wU P c.rng
 rngN:b.roundOf≠none->c.rng=VB
theorem OQ.tr{P:Program}{c:Ctx}{b:Frame}{σ σ':Mp}{H H':Zc}{w w':World}(h:OQ P c b σ H w)(t:Tr P σ H w σ' H' w'):OQ P c b σ' H' w':=⟨h.call,h.yld.tr t,h.rnd,h.rng,h.rngN⟩
def WH(P:Program)(N:Nat)(d:D)(its:List Item)(ds:List Nat):Prop:=
 ∀(c:Ctx) (b:Frame) (K:Bool->List Frame) (lo:Nat) (σ:Mp) (tm:TM) (H:Zc) (x:X) (a:Act) (w:World) (k:List Item) (o:Out) (Yp:TM) (H':Zc) (x':X),
  OQ P c b σ H w->St P σ b K N lo tm H x a w->d c tm H x=.ok o Yp H' x'->
  ∃σ' a' w',Tr P σ H w σ' H' w'∧St P σ' b K N lo Yp H' x' a' w'∧(∀n,n∉ds->a'.tmps[n]? =a.tmps[n]?)∧
   Dn P (lone (b.atR a (its++k)) (K x.rc.isSome) w) b k (K x'.rc.isSome) σ' o a' w'
section
variable {P:Program} {N:Nat}
theorem WH.steps{d:D}{its Zks:List Item}{ds:List Nat}(h:WH P N d its ds)
  (hs: ∀(b:Frame) (a:Act) (k:List Item) (cs:List Frame) (w:World),Steps P (lone (b.atR a (Zks++k)) cs w) (lone (b.atR a (its++k)) cs w)):WH P N d Zks ds:=by
 intro c b K lo σ tm H x a w k o Yp H' x' hc Ut he
 obtain⟨σ',a',w',h1,h2,h3,h4⟩:=h c b K lo σ tm H x a w k o Yp H' x' hc Ut he
 exact⟨σ',a',w',h1,h2,h3,.of_steps (hs b a k _ w) h4⟩
theorem Qp(its:List Item)(ds:List Nat):WH P N Q9 its ds:=by
 intro c b K lo σ tm H x a w k o Yp H' x' _ _ he
 cases he
theorem Ik(ds:List Nat):WH P N Zd [] ds:=by
 intro c b K lo σ tm H x a w k o Yp H' x' hc hs he
 cases he
 exact⟨σ,a,w,Tr.refl hs.sim,hs,λ_ _=>rfl,Steps.refl P _⟩
theorem BN{r:X6}{kk:TM->Zc->X->X6}{o:Out}{tm:TM}{H:Zc}{x:X}(h:QV r kk=.ok o tm H x):
  ∃o1 SY H1 x1,r=.ok o1 SY H1 x1∧((o1=.normal∧kk SY H1 x1=.ok o tm H x)∨(o1≠.normal∧o1=o∧SY=tm∧H1=H∧x1=x)):=by
 cases r with
 |fail=>cases h
 |ok o1 SY H1 x1=>
  refine⟨o1,SY,H1,x1,rfl,?_⟩
  cases o1 with
  |normal=>exact .inl ⟨rfl,h⟩
  |exit i=>cases h;exact .inr ⟨by simp,rfl,rfl,rfl,rfl⟩
  |ret=>cases h;exact .inr ⟨by simp,rfl,rfl,rfl,rfl⟩
  |pan v=>cases h;exact .inr ⟨by simp,rfl,rfl,rfl,rfl⟩
theorem Dn.passL{m:Machine}{b:Frame}{k:List Item}{cs:List Frame}{σ:Mp}{o:Out}{a:Act}{w:World}(ho:o≠.normal): ∀{l:List Item},(∀y∈l,Item.plain y=true)->Dn P m b (l++k) cs σ o a w->Dn P m b k cs σ o a w
 |[],_,x=>x
 |y::l,hp,x=>Dn.passL ho (λz hz=>hp z (ZI _ hz)) (Dn.pass (hp y (Zx ..)) ho x)
theorem yp{d e:D}{i1 i2:List Item}{ds es:List Nat}(hp: ∀y∈i2,Item.plain y=true)(h:WH P N d i1 ds)(h':WH P N e i2 es):WH P N (Zh d e) (i1++i2) (ds++es):=by
 intro c b K lo σ tm H x a w k o Yp H' x' hc hs he
 obtain⟨o1,SY,H1,x1,h1,h2⟩:=BN he
 obtain⟨σ1,a1,w1,t1,s1,u1,arr1⟩:=h c b K lo σ tm H x a w (i2++k) o1 SY H1 x1 hc hs h1
 rw[Yl]
 rcases h2 with⟨rfl,h2⟩|⟨VY,rfl,rfl,rfl,rfl⟩
 ·obtain⟨σ2,a2,w2,t2,s2,u2,JT⟩:=h' c b K lo σ1 SY H1 x1 a1 w1 k o Yp H' x' (hc.tr t1) s1 h2
  refine⟨σ2,a2,w2,t1.trans t2,s2,λn hn=>?_,.of_steps arr1 JT⟩
  rw[Zs] at hn
  rw[u2 n λz=>hn (.inr z),u1 n λz=>hn (.inl z)]
 ·refine⟨σ1,a1,w1,t1,s1,λn hn=>u1 n λz=>hn (Zs.2 (.inl z)),?_⟩
  exact Dn.passL VY hp arr1
theorem Zca{v:AV}{kk:Bool->X6}{o:Out}{tm:TM}{H:Zc}{x:X}(h:xE v kk=.ok o tm H x): ∃q,v=.bool q∧kk q=.ok o tm H x:=by
 unfold xE at h
 split at h
 ·exact⟨_,rfl,h⟩
 ·cases h
theorem pL{q:Operand}{d e:D}{x y:Code}{ds es:List Nat}(h:WH P N d [.code x] ds)(h':WH P N e [.code y] es):
  WH P N (ZR (YN P q) d e) [.code (.cond q x y)] (ds++es):=by
 intro c b K lo σ tm H X0 a w k o Yp H' x' hc hs he
 obtain⟨t,ht,he⟩:=Zca he
 have hq:a.eval q=.bool t:=by
  have:=KD hs.sim hs.tm q
  rw[ht] at this
  exact TI this
 have Ut:Steps P (lone (b.atR a ([.code (.cond q x y)]++k)) (K X0.rc.isSome) w) (lone (b.atR a ([.code (if t then x else y)]++k)) (K X0.rc.isSome) w):=.one (stepR_cond hq)
 cases t with
 |true=>
  obtain⟨σ1,a1,w1,t1,s1,u1,arr1⟩:=h c b K lo σ tm H X0 a w k o Yp H' x' hc hs he
  exact⟨σ1,a1,w1,t1,s1,λn hn=>u1 n λz=>hn (Zs.2 (.inl z)),.of_steps Ut arr1⟩
 |false=>
  obtain⟨σ1,a1,w1,t1,s1,u1,arr1⟩:=h' c b K lo σ tm H X0 a w k o Yp H' x' hc hs he
  exact⟨σ1,a1,w1,t1,s1,λn hn=>u1 n λz=>hn (Zs.2 (.inr z)),.of_steps Ut arr1⟩
theorem km{id:Nat}{r:X6}{o:Out}{tm:TM}{H:Zc}{x:X}(h:QJ id r=.ok o tm H x):
  ∃o1,r=.ok o1 tm H x∧((o1=.normal∧o=.normal)∨(∃i,o1=.exit i∧((i=id∧o=.normal)∨(i≠id∧o=.exit i)))∨(o1=o∧(o1=.ret∨ ∃v,o1=.pan v))):=by
 cases r with
 |fail=>cases h
 |ok o1 SY H1 x1=>
  cases o1 with
  |normal=>cases h;exact⟨.normal,rfl,.inl ⟨rfl,rfl⟩⟩
  |exit i=>
   change @Bool.rec (λ_=>X6) (.ok (.exit i) SY H1 x1) (.ok .normal SY H1 x1) (Nat.beq i id)=_ at h
   rw[Ym] at h
   by_cases e:i=id
   ·rw[Ze e] at h;cases h;exact⟨.exit i,rfl,.inr (.inl ⟨i,rfl,.inl ⟨e,rfl⟩⟩)⟩
   ·rw[Za e] at h;cases h;exact⟨.exit i,rfl,.inr (.inl ⟨i,rfl,.inr ⟨e,rfl⟩⟩)⟩
  |ret=>cases h;exact⟨.ret,rfl,.inr (.inr ⟨rfl,.inl rfl⟩)⟩
  |pan v=>cases h;exact⟨.pan v,rfl,.inr (.inr ⟨rfl,.inr ⟨v,rfl⟩⟩)⟩
theorem tG{id:Nat}{d:D}{x:Code}{ds:List Nat}(h:WH P N d [.code x] ds):WH P N (Yy id d) [.code (.block id x)] ds:=by
 intro c b K lo σ tm H X0 a w k o Yp H' x' hc hs he
 obtain⟨o1,h1,h2⟩:=km he
 obtain⟨σ1,a1,w1,t1,s1,u1,arr1⟩:=h c b K lo σ tm H X0 a w (.inBlock id::k) o1 Yp H' x' hc hs h1
 refine⟨σ1,a1,w1,t1,s1,u1,.of_steps (.one stepR_block) ?_⟩
 rcases h2 with⟨rfl,rfl⟩|⟨i,rfl,⟨rfl,rfl⟩|⟨hi,rfl⟩⟩|⟨rfl,rfl|⟨v,rfl⟩⟩
 ·exact Steps.trans arr1 (.one stepR_inBlock)
 ·exact arr1 k (by simp[exitTo])
 ·refine λk' hk=>arr1 k' ?_
  have:(id==i)=false:=by simp;exact λz=>hi z.symm
  simp[exitTo,this,hk]
 ·exact arr1
 ·exact arr1
theorem tJ{d:D}{x:Code}{ds:List Nat}(h:WH P N d [.code x] ds): ∀n,WH P N (λc tm H y=>WR (d c) n tm H y) [.code x,.inLoop x] ds:=by
 intro n
 induction n with
 |zero=>intro c b K lo σ tm H X0 a w k o Yp H' x' hc hs he;cases he
 |succ n ih=>
  intro c b K lo σ tm H X0 a w k o Yp H' x' hc hs he
  obtain⟨o1,SY,H1,x1,h1,h2⟩:=BN he
  obtain⟨σ1,a1,w1,t1,s1,u1,arr1⟩:=h c b K lo σ tm H X0 a w (.inLoop x::k) o1 SY H1 x1 hc hs h1
  rcases h2 with⟨rfl,h2⟩|⟨VY,rfl,rfl,rfl,rfl⟩
  ·obtain⟨σ2,a2,w2,t2,s2,u2,JT⟩:=ih c b K lo σ1 SY H1 x1 a1 w1 k o Yp H' x' (hc.tr t1) s1 h2
   exact⟨σ2,a2,w2,t1.trans t2,s2,λn hn=>by rw[u2 n hn,u1 n hn],.of_steps (Steps.trans arr1 (.one stepR_inLoop)) JT⟩
  ·exact⟨σ1,a1,w1,t1,s1,u1,Dn.pass (y:=.inLoop x) rfl VY arr1⟩
theorem pN{d:D}{x:Code}{ds:List Nat}(h:WH P N d [.code x] ds):WH P N (Ua d) [.code (.loop x)] ds:=by
 intro c b K lo σ tm H X0 a w k o Yp H' x' hc hs he
 obtain⟨σ1,a1,w1,t1,s1,u1,arr1⟩:=tJ h c.fuel c b K lo σ tm H X0 a w k o Yp H' x' hc hs he
 exact⟨σ1,a1,w1,t1,s1,u1,.of_steps (.one stepR_loop) arr1⟩
theorem pM{id:Nat}(ds:List Nat):WH P N (VK id) [.code (.exit id)] ds:=by
 intro c b K lo σ tm H X0 a w k o Yp H' x' hc hs he
 cases he
 exact⟨σ,a,w,Tr.refl hs.sim,hs,λ_ _=>rfl,λ_ hk=>.one (stepR_exit hk)⟩
theorem ik(ds:List Nat):WH P N Yw [.code .ret] ds:=by
 intro c b K lo σ tm H X0 a w k o Yp H' x' hc hs he
 cases he
 exact⟨σ,a,w,Tr.refl hs.sim,hs,λ_ _=>rfl,λhb=>⟨_,.one (stepR_ret hb)⟩⟩
theorem pP(ds:List Nat):WH P N Zd [.code .skip] ds:=(Ik ds).steps λ_ _ _ _ _=>.one stepR_skip
theorem tI(l:Nat)(ds:List Nat):WH P N Zd [.code (.label l)] ds:=(Ik ds).steps λ_ _ _ _ _=>.one stepR_label
theorem pO{d e:D}{x y:Code}{ds es:List Nat}(h:WH P N d [.code x] ds)(h':WH P N e [.code y] es):WH P N (Zh d e) [.code (.seq x y)] (ds++es):=
 (yp (i1:=[.code x]) (i2:=[.code y]) (by simp[Item.plain]) h h').steps λ_ _ _ _ _=>.one stepR_seq
theorem tY{b:Frame}{a:Act}{k:List Item}{cs:List Frame}{w:World}{x:Code}:step P (lone (b.atR a (.code (.scope x)::k)) cs w)=.next (lone (b.atR a (.code x::.inScope x::k)) cs w):=
 step_lone_go (by simp[stepG,stepG.exec,Frame.atR])
theorem Ay{b:Frame}{a:Act}{k:List Item}{cs:List Frame}{w:World}{x:Code}:step P (lone (b.atR a (.inScope x::k)) cs w)=.next (lone (b.atR a k) cs w):=
 step_lone_go (by simp[stepG,stepG.exec,Frame.atR])
theorem tM{d:D}{x:Code}{ds:List Nat}(h:WH P N d [.code x] ds):WH P N d [.code (.scope x)] ds:=by
 intro c b K lo σ tm H X0 a w k o Yp H' x' hc hs he
 obtain⟨σ1,a1,w1,t1,s1,u1,arr1⟩:=h c b K lo σ tm H X0 a w (.inScope x::k) o Yp H' x' hc hs he
 refine⟨σ1,a1,w1,t1,s1,u1,.of_steps (.one tY) ?_⟩
 cases o with
 |normal=>exact Steps.trans arr1 (.one Ay)
 |exit id=>exact λk' hk=>arr1 k' (by simp[exitTo,hk])
 |ret=>exact arr1
 |pan v=>exact arr1
theorem xq{σ:Mp}{tm:TM}{a:Act}(hρ:Rp P σ tm a.eval){ops:Array Oper}{o:Oper}{e:Yc}{q:Bool}(hg:TL P ops o=some (e,q)){yes no r:X6}
  (h:UT (e tm) q yes no=r)(hr:r≠.fail):(Region.wanted o (yielded ops a.tmps)=true∧yes=r)∨(Region.wanted o (yielded ops a.tmps)=false∧no=r):=by
 unfold TL at hg
 cases ho:o.guard with
 |none=>rw[ho] at hg;cases hg
 |some jb=>
  obtain⟨j,bb⟩:=jb
  rw[ho] at hg
  cases hd:(ops[j]?).bind (·.dst) with
  |none=>simp only[hd,Option.some.injEq,Prod.mk.injEq] at hg;obtain⟨rfl,rfl⟩:=hg;exact absurd h.symm hr
  |some d=>
   simp only[hd,Option.some.injEq,Prod.mk.injEq] at hg
   obtain⟨rfl,rfl⟩:=hg
   have h1:=hρ (.tmp d)
   unfold Region.wanted yielded
   simp only[ho,hd,Option.bind_some]
   generalize YN P (.tmp d) tm=v at h h1
   unfold UT at h
   split at h
   ·rename_i cv
    have h2:a.tmps.getD d undef=.bool cv:=TI h1
    have h3:a.tmps[d]? =some (.bool cv):=by
     rw[Z0] at h2
     cases h4:a.tmps[d]? with
     |none=>rw[h4] at h2;cases h2
     |some u=>rw[h4] at h2;exact congrArg some h2
    rw[h3]
    cases cv<;>cases bb
    ·exact .inl ⟨rfl,h⟩
    ·exact .inr ⟨rfl,h⟩
    ·exact .inr ⟨rfl,h⟩
    ·exact .inl ⟨rfl,h⟩
   ·rename_i vs
    refine .inr ⟨?_,h⟩
    simp only[Ys] at h1
    obtain⟨us,_,h2⟩:=h1
    have h2:a.tmps.getD d undef=.tuple ⟨us⟩:=h2
    rw[Z0] at h2
    cases h4:a.tmps[d]? with
    |none=>rfl
    |some u=>rw[h4] at h2;have h2:u=_:=h2;subst h2;rfl
   ·exact absurd h.symm hr
theorem Cu{ops:Array Oper}{o:Oper}(hg:TL P ops o=none)(y:Nat->Option Bool):Region.wanted o y=true:=by
 unfold TL at hg
 cases ho:o.guard with
 |none=>unfold Region.wanted;rw[ho]
 |some jb=>
  obtain⟨j,bb⟩:=jb
  rw[ho] at hg
  cases hd:(ops[j]?).bind (·.dst)<;>simp only[hd] at hg<;>cases hg
end
section
variable {P:Program} {N:Nat}
theorem Kw{o:Oper}{tm:TM}{H:Zc}(h: ∀f args,Vh P o.op tm H≠.oth (.defer f args))(h':Vh P o.op tm H≠.oth .fail): ∀c,o.op≠.defer c:=by
 intro c hc
 rw[hc] at h h'
 cases hcal:c.callee with
 |value f=>exact h (YN P f tm) (evs tm (args P c.args)) (by simp[Vh,hcal,Ff])
 |invoke r m=>exact h' (by simp[Vh,hcal,VC])
 |builtin b=>exact h' (by simp[Vh,hcal,VC])
theorem hU(K:Bool->List Frame){rc:Option AV}{v:AV}(h:rc=some v):K rc.isSome=K true:=by rw[h];rfl
theorem uP{ops:Array Oper}{i:Nat}{rest:List Nat}{o:Oper}{next:D}{ds:List Nat}(ho:ops[i]? =some o)(hN:CX N o.dst=true)(wP: ∀t,o.dst=some t->t∈ds)
  (Lj:WH P N next [.inRegion ops rest] ds){c:Ctx}{b:Frame}{K:Bool->List Frame}{lo:Nat}{σ:Mp}{tm:TM}{H:Zc}{x:X}{a:Act}{w:World}{k:List Item}{out:Out}{Yp:TM}{H':Zc}{x':X}
  (hc:OQ P c b σ H w)(hs:St P σ b K N lo tm H x a w)(hw:Region.wanted o (yielded ops a.tmps)=true)
  (he:Pf (next c) (XR o.dst) c tm H x (Vh P o.op tm H)=.ok out Yp H' x'):
  ∃σ' a' w',Tr P σ H w σ' H' w'∧St P σ' b K N lo Yp H' x' a' w'∧(∀n,n∉ds->a'.tmps[n]? =a.tmps[n]?)∧
   Dn P (lone (b.atR a (.inRegion ops (i::rest)::k)) (K x.rc.isSome) w) b k (K x'.rc.isSome) σ' out a' w':=by
 have OL:=N1 hs.sim (KD hs.sim hs.tm) o
 unfold Xm at OL
 have Ke:=Kw (P:=P) (o:=o) (tm:=tm) (H:=H)
 have old: ∀(u:Value) (n:Nat),n∉ds->(a.put o.dst u).tmps[n]? =a.tmps[n]? :=λu n hn=>put_old a o.dst u λt ht e=>hn (e▸wP t ht)
 have val: ∀(σ1:Mp) (H1:Zc) (w1:World) (v:AV) (u:Value),Tr P σ H w σ1 H1 w1->Ys σ1 v u->next c (XR o.dst tm v) H1 x=.ok out Yp H' x'->
   Steps P (lone (b.atR a (.inRegion ops (i::rest)::k)) (K x.rc.isSome) w) (lone (b.atR (a.put o.dst u) (.inRegion ops rest::k)) (K x.rc.isSome) w1)->
   ∃σ' a' w',Tr P σ H w σ' H' w'∧St P σ' b K N lo Yp H' x' a' w'∧(∀n,n∉ds->a'.tmps[n]? =a.tmps[n]?)∧
   Dn P (lone (b.atR a (.inRegion ops (i::rest)::k)) (K x.rc.isSome) w) b k (K x'.rc.isSome) σ' out a' w':=by
  intro σ1 H1 w1 v u t1 hr hn Ut
  have s1:St P σ1 b K N lo (XR o.dst tm v) H1 x (a.put o.dst u) w1:=hs.step t1 ((hs.tm.mono t1.ext).put hN hr) (Rh a o.dst u)
  obtain⟨σ2,a2,w2,t2,s2,u2,JT⟩:=Lj c b K lo σ1 _ H1 x _ w1 k out Yp H' x' (hc.tr t1) s1 hn
  exact⟨σ2,a2,w2,t1.trans t2,s2,λn hn=>by rw[u2 n hn,old u n hn],.of_steps Ut JT⟩
 have pan: ∀(σ1:Mp) (H1:Zc) (w1:World) (v:AV) (u:Value),Tr P σ H w σ1 H1 w1->Ys σ1 v u->X6.ok (.pan v) tm H1 x=.ok out Yp H' x'->
   Steps P (lone (b.atR a (.inRegion ops (i::rest)::k)) (K x.rc.isSome) w) (lone {b.atR a (.inRegion ops (i::rest)::k) with mode:=.panicking [{v:=u,recovered:=false}]} (K x.rc.isSome) w1)->
   ∃σ' a' w',Tr P σ H w σ' H' w'∧St P σ' b K N lo Yp H' x' a' w'∧(∀n,n∉ds->a'.tmps[n]? =a.tmps[n]?)∧
   Dn P (lone (b.atR a (.inRegion ops (i::rest)::k)) (K x.rc.isSome) w) b k (K x'.rc.isSome) σ' out a' w':=by
  intro σ1 H1 w1 v u t1 hr hn Ut
  cases hn
  exact⟨σ1,a,w1,t1,hs.step t1 (hs.tm.mono t1.ext) rfl,λ_ _=>rfl,_,u,hr,Ut⟩
 have cro: ∀(r:CR),Lq P σ H w r ((execOp a.eval o).run P w)->(∀c,o.op≠.defer c)->E3 (next c) (XR o.dst) tm x r=.ok out Yp H' x'->
   ∃σ' a' w',Tr P σ H w σ' H' w'∧St P σ' b K N lo Yp H' x' a' w'∧(∀n,n∉ds->a'.tmps[n]? =a.tmps[n]?)∧
   Dn P (lone (b.atR a (.inRegion ops (i::rest)::k)) (K x.rc.isSome) w) b k (K x'.rc.isSome) σ' out a' w':=by
  intro r hr Ke he
  cases r with
  |fail=>cases he
  |ret v H1=>
   rcases PT (b:=b) (k:=k) (cs:=K x.rc.isSome) (rest:=rest) ho hw Ke hr with⟨u,w1,⟨σ1,h1,h2⟩,Ut⟩|⟨u,w1,h1,_⟩
   ·exact val σ1 H1 w1 v u h2 h1 he Ut
   ·exact h1.elim
  |pan v H1=>
   rcases PT (b:=b) (k:=k) (cs:=K x.rc.isSome) (rest:=rest) ho hw Ke hr with⟨u,w1,h1,_⟩|⟨u,w1,⟨σ1,h1,h2⟩,Ut⟩
   ·exact h1.elim
   ·exact pan σ1 H1 w1 v u h2 h1 he Ut
 generalize hr:Vh P o.op tm H=r at OL he Ke
 cases r with
 |val v H1=>
  obtain⟨σ1,w1,u,YX,h1,t1⟩:=OL
  have hE:Ends P (λy w2=>y=u∧w2=w1) (λ_ _=>False) ((execOp a.eval o).run P w):=by
   rcases YX with YX|⟨YX,hu⟩
   ·rw[YX];exact⟨rfl,rfl⟩
   ·rw[YX];exact⟨hu.symm,rfl⟩
  rcases PT (b:=b) (k:=k) (cs:=K x.rc.isSome) (rest:=rest) ho hw (Ke (λ_ _ h=>by cases h) (λh=>by cases h)) hE with⟨u',w',⟨rfl,rfl⟩,Ut⟩|⟨_,_,h,_⟩
  ·exact val σ1 H1 _ v _ t1 h1 he Ut
  ·exact h.elim
 |oth q=>
  cases q with
  |fail=>cases he
  |call f ar H1=>
   obtain⟨rfl,vs,xA,YX⟩:=OL
   refine cro _ ?_ (Ke (λ_ _ h=>by cases h) (λh=>by cases h)) he
   rw[YX]
   exact hc.call f ar H1 σ w vs hs.sim xA
  |yield bk ar H1=>
   obtain⟨rfl,l,vs,hl,xA,YX⟩:=OL
   refine cro _ ?_ (Ke (λ_ _ h=>by cases h) (λh=>by cases h)) he
   rw[YX]
   exact hc.yld bk ar H1 σ w l vs (Tr.refl hs.sim) hl xA
  |pan v H1=>
   obtain⟨rfl,u,hu,YX⟩:=OL
   have hE:Ends P (λ_ _=>False) (λy w2=>y=u∧w2=w) ((execOp a.eval o).run P w):=by rw[YX];exact⟨rfl,rfl⟩
   rcases PT (b:=b) (k:=k) (cs:=K x.rc.isSome) (rest:=rest) ho hw (Ke (λ_ _ h=>by cases h) (λh=>by cases h)) hE with⟨_,_,h,_⟩|⟨u',w',⟨rfl,rfl⟩,Ut⟩
   ·exact h.elim
   ·exact pan σ H1 _ v _ (Tr.refl hs.sim) hu he Ut
  |recov=>
   have OL:(execOp a.eval o).run P w=.ok .recover w:=OL
   cases hrnd:c.rnd with
   |true=>simp only[Pf,jU,hrnd] at he;cases he
   |false=>
    have hb:=hc.rnd hrnd
    simp only[Pf,jU,hrnd] at he
    cases hrc:x.rc with
    |some v=>
     rw[hrc] at he
     obtain⟨u,hu,htr⟩:=hs.rc.yes v hrc
     have Ut:=C0 (P:=P) (k:=k) (cs:=K x.rc.isSome) (rest:=rest) ho hw hb OL (v:=u) (Jm:=K false) (.inl (by rw[hU K hrc];exact htr))
     have s1:St P σ b K N lo (XR o.dst tm v) H ⟨x.df,none⟩ (a.put o.dst u) w:=
      ⟨hs.sim,hs.tm.put hN hu,by rw[Rh];exact hs.df,⟨hs.rc.no,λ_ h=>by cases h⟩,hs.lo⟩
     obtain⟨σ2,a2,w2,t2,s2,u2,JT⟩:=Lj c b K lo σ _ H ⟨x.df,none⟩ _ w k out Yp H' x' hc s1 he
     rw[hrc] at Ut
     exact⟨σ2,a2,w2,t2,s2,λn hn=>by rw[u2 n hn,old u n hn],.of_steps Ut JT⟩
    |none=>
     rw[hrc] at he
     have Ut:=C0 (P:=P) (k:=k) (cs:=K x.rc.isSome) (rest:=rest) ho hw hb OL (v:=.nilIface) (Jm:=K x.rc.isSome) (.inr ⟨by rw[hrc];exact hs.rc.no,rfl,rfl⟩)
     rw[<-hrc]
     exact val σ H w .nili .nilIface (Tr.refl hs.sim) (by simp[Ys]) he Ut
  |defer f ar=>
   cases hrnd:c.rnd with
   |true=>simp only[Pf,jU,hrnd] at he;split at he<;>cases he
   |false=>
    have hb:=hc.rnd hrnd
    cases f with
    |func g p q=>
     simp only[Pf,jU,hrnd] at he
     obtain⟨xs,ys,zs,h1,h2,h3,YX⟩:=OL g p q rfl
     have Ut:=bg (P:=P) (k:=k) (cs:=K x.rc.isSome) (rest:=rest) ho hw hb YX
     have s1:St P σ b K N lo (XR o.dst tm YS) H ⟨(.func g p q,ar)::x.df,x.rc⟩ ({a with defers:={target:=.fn (.func g) ⟨zs⟩,args:=⟨xs++ys⟩}::a.defers}.put o.dst undef) w:=by
      refine⟨hs.sim,?_,?_,hs.rc,hs.lo⟩
      ·have:=hs.tm.put (v:=YS) (u:=undef) hN (by simp[YS,undef,Ys,YM])
       rw[Hz] at this ⊢
       exact this
      ·rw[Rh];exact .call h1 h2 h3 hs.df
     obtain⟨σ2,a2,w2,t2,s2,u2,JT⟩:=Lj c b K lo σ _ H ⟨(.func g p q,ar)::x.df,x.rc⟩ _ w k out Yp H' x' hc s1 he
     refine⟨σ2,a2,w2,t2,s2,λn hn=>?_,.of_steps Ut JT⟩
     rw[u2 n hn]
     have:=old undef n hn
     rw[Hz] at this ⊢
     exact this
    |_=>simp only[Pf,jU] at he;cases he
theorem Fj{σ:Mp}:Ys σ YS undef:=by simp[YS,undef,Ys,YM]
theorem yo{ops:Array Oper}{ds:List Nat}: ∀(l:List Oper) (j:Nat),(∀i,l[i]? =ops[j+i]?)->(∀o∈l,CX N o.dst=true∧ ∀t,o.dst=some t->t∈ds)->
  WH P N (uQ P ops l) [.inRegion ops (List.range' j l.length)] ds:=by
 intro l
 induction l with
 |nil=>intro j _ _;exact(Ik ds).steps λ_ _ _ _ _=>.one stepR_region_end
 |cons o l ih=>
  intro j hl hd
  have Lj:=ih (j+1) (λi=>by have:=hl (i+1);rw[show j+(i+1)=j+1+i by omega] at this;simpa using this) λo' h=>hd o' (ZI _ h)
  have ho:ops[j]? =some o:=by simpa using (hl 0).symm
  obtain⟨hN,wP⟩:=hd o (Zx ..)
  intro c b K lo σ tm H x a w k out Yp H' x' hc hs he
  show ∃σ' a' w',_∧_∧_∧Dn P (lone (b.atR a (.inRegion ops (List.range' j (l.length+1))::k)) (K x.rc.isSome) w) b k (K x'.rc.isSome) σ' out a' w'
  rw[TV]
  unfold uQ at he
  cases hg:TL P ops o with
  |none=>simp only[hg] at he;exact uP ho hN wP Lj hc hs (Cu hg _) he
  |some gq=>
   obtain⟨g,q⟩:=gq
   simp only[hg] at he
   rcases xq (KD hs.sim hs.tm) hg he (by simp) with⟨hw,he⟩|⟨hw,he⟩
   ·exact uP ho hN wP Lj hc hs hw he
   ·have Ut:=stepR_op_skip (P:=P) (b:=b) (a:=a) (k:=k) (cs:=K x.rc.isSome) (w:=w) (ops:=ops) (i:=j) (rest:=List.range' (j+1) l.length) (by rw[ho];exact hw)
    have s1:St P σ b K N lo (XR o.dst tm YS) H x (a.put o.dst undef) w:=hs.step (Tr.refl hs.sim) (hs.tm.put hN Fj) (Rh a o.dst undef)
    obtain⟨σ2,a2,w2,t2,s2,u2,JT⟩:=Lj c b K lo σ _ H x _ w k out Yp H' x' hc s1 he
    rw[ho] at Ut
    exact⟨σ2,a2,w2,t2,s2,λn hn=>(u2 n hn).trans (put_old a o.dst undef (λt ht e=>hn (by rw[e];exact wP t ht))),.of_steps (.one Ut) JT⟩
theorem wD{id:Nat}{ops:Array Oper}(h:ops.toList.all (λo=>CX N o.dst)=true):WH P N (uQ P ops ops.toList) [.code (.region id ops false)] (ops.toList.filterMap (·.dst)):=by
 have:=yo (P:=P) (N:=N) (ops:=ops) (ds:=ops.toList.filterMap (·.dst)) ops.toList 0 (λi=>by simp) (λo ho=>⟨Y7.1 h o ho,λt ht=>Ta.2 ⟨o,ho,ht⟩⟩)
 refine this.steps λb a k cs w=>.one ?_
 have hr:List.range' 0 ops.toList.length=List.range ops.size:=by rw[RK];simp
 rw[hr]
 exact stepR_region
end
section
theorem Qq(n m:Nat):Nat.testBit (bit n) m=decide (n=m):=Nat.testBit_two_pow
theorem W5(a b k:Nat):Nat.testBit (Nat.lor a b) k=(Nat.testBit a k||Nat.testBit b k):=Nat.testBit_or a b k
theorem Dk{a b k:Nat}(h:Nat.beq (Nat.land a b) b=true)(hk:Nat.testBit b k=true):Nat.testBit a k=true:=by
 have h:=ZT h
 have:Nat.testBit (Nat.land a b) k=(Nat.testBit a k&&Nat.testBit b k):=Nat.testBit_and a b k
 rw[h,hk] at this
 simpa using this.symm
theorem Gk{l:List Nat}{t:Nat}(h:t∈l):Nat.testBit (Ks l) t=true:=by
 induction l with
 |nil=>cases h
 |cons x l ih=>
  show Nat.testBit (Nat.lor (bit x) (Ks l)) t=true
  rw[W5,Qq]
  rcases Ya.1 h with e|e
  ·simp[e]
  ·simp[ih e]
def New(q:SI)(pre:List SI):Prop:=
 (∀t,q.d=some t->(∀p∈pre,t∉p.lk∧p.d≠some t)∧t∉q.lk)∨(q.eff=true∧ ∀p∈pre,Nat.testBit q.bef p.i=true∨ ∀t,q.d=some t->t∉p.lk∧p.d≠some t)
def TU:List SI->List SI->Prop
 |_,[]=>True
 |pre,q::l=>(q.eff=true-> ∀r∈l,Nat.testBit r.bef q.i=true)∧New q pre∧(∀t∈q.lk,∀p∈pre,p.d=some t->Nat.testBit q.bef p.i=true)∧
   (∀p∈pre,p.i≠q.i)∧TU (pre++[q]) l
theorem jq{p:SI}{d:Option Nat}{t:Nat}(h:cL p d=true)(ht:d=some t):t∉p.lk∧p.d≠some t:=by
 subst ht
 unfold cL at h
 have h:cond (p.lk.all λs=>cond (Nat.beq s t) false true) (match p.d with|some s=>cond (Nat.beq s t) false true|none=>true) false=true:=h
 cases h1:(p.lk.all λs=>cond (Nat.beq s t) false true) with
 |false=>rw[h1] at h;cases h
 |true=>
  rw[h1] at h
  refine⟨λhm=>?_,λhd=>?_⟩
  ·have:=Y7.1 h1 t hm
   rw[Yb] at this;cases this
  ·have h:(match p.d with|some s=>cond (Nat.beq s t) false true|none=>true)=true:=h
   rw[hd] at h
   have h:cond (Nat.beq t t) false true=true:=h
   rw[Yb] at h;cases h
theorem uT{ws:List (Nat×Nat)}{l0:List SI}: ∀{l:List SI} {em sm im all:Nat},Ll ws l0 l em sm im all=true-> ∀r∈l,∀k,Nat.testBit em k=true->Nat.testBit r.bef k=true
 |[],_,_,_,_,_,r,hr,_,_=>by cases hr
 |q::l,em,sm,im,all,h,r,hr,k,hk=>by
  unfold Ll at h
  cases h1:Nat.beq (Nat.land q.bef em) em with
  |false=>rw[h1] at h;cases h
  |true=>
   rw[h1] at h
   rcases Ya.1 hr with e|e
   ·subst e;exact Dk h1 hk
   ·cases h2:nD l0 q sm im with
    |false=>rw[h2] at h;cases h
    |true=>
     rw[h2] at h
     cases h3:q.lk.all (Zcp ws im q.bef) with
     |false=>rw[h3] at h;cases h
     |true=>
      rw[h3] at h
      cases h4:Nat.testBit im q.i with
      |true=>rw[h4] at h;cases h
      |false=>
       rw[h4] at h
       refine uT h r e k ?_
       cases q.eff
       ·exact hk
       ·show Nat.testBit (Nat.lor em (bit q.i)) k=true
        rw[W5,hk];rfl
theorem Hw{ws:List (Nat×Nat)}{l0:List SI}: ∀{l:List SI} {pre:List SI} {em sm im all:Nat},Ll ws l0 l em sm im all=true->
  (∀p∈pre++l,p∈l0)->(∀p∈pre++l,∀t,p.d=some t->(t,p.i)∈ws)->(∀p∈pre,(∀t∈p.lk,Nat.testBit sm t=true)∧ ∀t,p.d=some t->Nat.testBit sm t=true)->
  (∀i,Nat.testBit im i=true↔ ∃p∈pre,p.i=i)->TU pre l∧ ∀i,Nat.testBit all i=true↔ ∃p∈pre++l,p.i=i
 |[],pre,em,sm,im,all,h,_,_,_,him=>by
  have h:im=all:=ZT h
  subst h
  exact⟨trivial,by simpa using him⟩
 |q::l,pre,em,sm,im,all,h,Aj,hws,sE,him=>by
  unfold Ll at h
  cases h1:Nat.beq (Nat.land q.bef em) em with
  |false=>rw[h1] at h;cases h
  |true=>
   rw[h1] at h
   cases h2:nD l0 q sm im with
   |false=>rw[h2] at h;cases h
   |true=>
    rw[h2] at h
    cases h3:q.lk.all (Zcp ws im q.bef) with
    |false=>rw[h3] at h;cases h
    |true=>
     rw[h3] at h
     cases h4:Nat.testBit im q.i with
     |true=>rw[h4] at h;cases h
     |false=>
      rw[h4] at h
      have h:Ll ws l0 l (cond q.eff (Nat.lor em (bit q.i)) em) (Nat.lor (Nat.lor sm (Ks q.lk)) (Zfx q.d)) (Nat.lor im (bit q.i)) all=true:=h
      have ZbS:=Hw (pre:=pre++[q]) h (by simpa using Aj) (by simpa using hws) ?_ ?_
      ·refine⟨⟨?_,?_,?_,?_,ZbS.1⟩,by simpa using ZbS.2⟩
       ·intro he r hr
        refine uT h r hr q.i ?_
        rw[he]
        show Nat.testBit (Nat.lor em (bit q.i)) q.i=true
        rw[W5,Qq];simp
       ·unfold nD at h2
        cases h5:dOk q.d (Nat.lor sm (Ks q.lk)) with
        |true=>
         refine .inl λt ht=>?_
         rw[ht] at h5
         unfold dOk at h5
         have h6:Nat.testBit (Nat.lor sm (Ks q.lk)) t=false:=by
          cases h7:Nat.testBit (Nat.lor sm (Ks q.lk)) t with
          |false=>rfl
          |true=>simp only[h7] at h5;cases h5
         rw[W5,XI] at h6
         refine⟨λp hp=>⟨λhm=>?_,λhm=>?_⟩,λhm=>?_⟩
         ·rw[(sE p hp).1 t hm] at h6;exact absurd h6.1 (by decide)
         ·rw[(sE p hp).2 t hm] at h6;exact absurd h6.1 (by decide)
         ·rw[Gk hm] at h6;exact absurd h6.2 (by decide)
        |false=>
         rw[h5] at h2
         cases h6:q.eff with
         |false=>rw[h6] at h2;cases h2
         |true=>
          rw[h6] at h2
          refine .inr ⟨by simp[h6],λp hp=>?_⟩
          have h7:=Y7.1 h2 p (Aj p (Zs.2 (.inl hp)))
          rw[(him p.i).2 ⟨p,hp,rfl⟩] at h7
          cases h8:Nat.testBit q.bef p.i with
          |true=>exact .inl rfl
          |false=>
           rw[h8] at h7
           exact .inr λt ht=>jq h7 ht
       ·intro t ht p hp hd
        have h5:=Y7.1 h3 t ht
        unfold Zcp at h5
        have h6:=Y7.1 h5 (t,p.i) (hws p (Zs.2 (.inl hp)) t hd)
        have h7:Nat.beq t t=true:=Yb t
        have h8:Nat.testBit im p.i=true:=(him p.i).2 ⟨p,hp,rfl⟩
        simp only[h7,h8,cond_true] at h6
        exact h6
       ·intro p hp e
        have:Nat.testBit im q.i=true:=(him q.i).2 ⟨p,hp,e⟩
        rw[h4] at this;cases this
      ·intro p hp
       rcases Zs.1 hp with hp|hp
       ·refine⟨λt ht=>?_,λt ht=>?_⟩
        ·rw[W5,W5,(sE p hp).1 t ht];rfl
        ·rw[W5,W5,(sE p hp).2 t ht];rfl
       ·obtain rfl:p=q:=by simpa using hp
        refine⟨λt ht=>?_,λt ht=>?_⟩
        ·rw[W5,W5,Gk ht];simp
        ·rw[W5,ht]
         have:Nat.testBit (Zfx (some t)) t=true:=by show Nat.testBit (bit t) t=true;rw[Qq];simp
         rw[this];simp
      ·intro i
       rw[W5,Qq,Vx,him i]
       constructor
       ·rintro (⟨p,hp,e⟩|e)
        ·exact⟨p,Zs.2 (.inl hp),e⟩
        ·exact⟨q,by simp,by simpa using e⟩
       ·rintro ⟨p,hp,e⟩
        rcases Zs.1 hp with hp|hp
        ·exact .inl ⟨p,hp,e⟩
        ·obtain rfl:p=q:=by simpa using hp
         exact .inr (by simpa using e)
theorem S8: ∀(l:List Oper) (i:Nat) (acc:List (Nat×Nat)) (x:Oper×Nat×Nat),x∈yY l i acc->
  (∃j,l[j]? =some x.1∧x.2.1=i+j)∧ ∃ZaD,x.2.2=JU ZaD x.1∧ ∀y∈ZaD,y∈acc∨ ∃z∈yY l i acc,z.2=y
 |[],_,_,_,h=>by cases h
 |o::l,i,acc,x,h=>by
  unfold yY at h
  rcases Ya.1 h with e|e
  ·subst e
   exact⟨⟨0,rfl,rfl⟩,acc,rfl,λy hy=>.inl hy⟩
  ·obtain⟨⟨j,h1,h2⟩,ZaD,h3,h4⟩:=S8 l (i+1) ((i,JU acc o)::acc) x e
   refine⟨⟨j+1,by simpa using h1,by omega⟩,ZaD,h3,λy hy=>?_⟩
   unfold yY
   rcases h4 y hy with h5|⟨z,h5,h6⟩
   ·rcases Ya.1 h5 with h5|h5
    ·exact .inr ⟨(o,i,JU acc o),Zx ..,h5.symm⟩
    ·exact .inl h5
   ·exact .inr ⟨z,ZI _ h5,h6⟩
theorem qp{l:List (Nat×Nat)}{k b:Nat}(h:l.lookup k=some b):(k,b)∈l:=by
 induction l with
 |nil=>cases h
 |cons x l ih=>
  obtain⟨i,c⟩:=x
  rw[List.lookup_cons] at h
  by_cases e:k=i
  ·subst e
   simp at h
   subst h
   exact Zx ..
  ·have:(k==i)=false:=by simpa using e
   rw[this] at h
   exact ZI _ (ih h)
theorem sO{acc:List (Nat×Nat)}{o:Oper}{k:Nat}(h:Nat.testBit (JU acc o) k=true):
  ∃e∈o.after.toList,Region.binds .any e=true∧(k=e.on∨ ∃b,(e.on,b)∈acc∧Nat.testBit b k=true):=by
 unfold JU at h
 have key: ∀(l:List Edge) (s:Nat),Nat.testBit (l.foldl (λs e=>cond (Region.binds .any e) (Nat.lor (Nat.lor s (Nat.pow 2 e.on)) ((acc.lookup e.on).getD 0)) s) s) k=true->
   Nat.testBit s k=true∨ ∃e∈l,Region.binds .any e=true∧(k=e.on∨ ∃b,(e.on,b)∈acc∧Nat.testBit b k=true):=by
  intro l
  induction l with
  |nil=>intro s h;exact .inl h
  |cons e l ih=>
   intro s h
   rw[List.foldl_cons] at h
   rcases ih _ h with h1|⟨e',h1,h2⟩
   ·cases hb:Region.binds .any e with
    |false=>rw[hb] at h1;exact .inl h1
    |true=>
     rw[hb] at h1
     have h1:Nat.testBit (Nat.lor (Nat.lor s (bit e.on)) ((acc.lookup e.on).getD 0)) k=true:=h1
     rw[W5,W5,Qq,Vx,Vx] at h1
     rcases h1 with(h1|h1)|h1
     ·exact .inl h1
     ·exact .inr ⟨e,Zx ..,hb,.inl (by simpa using h1|>Zn|>Eq.symm)⟩
     ·cases hl:acc.lookup e.on with
      |none=>rw[hl] at h1;simp at h1
      |some b=>
       rw[hl] at h1
       exact .inr ⟨e,Zx ..,hb,.inr ⟨b,qp hl,h1⟩⟩
   ·exact .inr ⟨e',ZI _ h1,h2⟩
 rcases key _ 0 h with h1|h1
 ·simp at h1
 ·exact h1
theorem JW{l:List Oper}{x:Oper×Nat×Nat}(h:x∈yY l 0 []){k:Nat}(hk:Nat.testBit x.2.2 k=true):
  ∃e∈x.1.after.toList,Region.binds .any e=true∧(k=e.on∨ ∃y∈yY l 0 [],y.2.1=e.on∧Nat.testBit y.2.2 k=true):=by
 obtain⟨_,acc,h1,h2⟩:=S8 l 0 [] x h
 rw[h1] at hk
 obtain⟨e,he,hb,h3⟩:=sO hk
 refine⟨e,he,hb,?_⟩
 rcases h3 with h3|⟨b,h3,h4⟩
 ·exact .inl h3
 ·rcases h2 _ h3 with h5|⟨z,h5,h6⟩
  ·cases h5
  ·exact .inr ⟨z,h5,by rw[h6],by rw[h6];exact h4⟩
theorem J5: ∀(f:Nat) (l:List SI) (done:Nat),∀q∈Ce f l done,q∈l
 |0,_,_,q,h=>by cases h
 |f+1,l,done,q,h=>by
  unfold Ce at h
  dsimp only at h
  split at h
  ·rename_i p hp
   have hp1:p∈l:=(Tu.1 (List.mem_of_find?_eq_some hp)).1
   rcases Ya.1 h with e|e
   ·subst e;exact hp1
   ·exact(Tu.1 (J5 f _ _ q e)).1
  ·split at h
   ·rename_i p r hp
    have hp1:p∈l:=(Tu.1 (by rw[hp];exact Zx ..)).1
    rcases Ya.1 h with e|e
    ·subst e;exact hp1
    ·exact(Tu.1 (J5 f _ _ q e)).1
   ·cases h
variable {P:Program}
def E4(o:Oper):List Nat:=(wH o.op.operands.toList).filter (λt=>Nat.ble t 511)
theorem KI(o:Oper):VM o=(E4 o).map λt=>(Pq t,Su t):=by
 unfold VM E4
 induction wH o.op.operands.toList with
 |nil=>rfl
 |cons t l ih=>
  cases h:Nat.ble t 511 with
  |true=>simp only[List.filterMap_cons,U3,h,cond_true,if_true,Y8,ih]
  |false=>simp only[List.filterMap_cons,U3,h,cond_false,ih];simp
theorem OE{o:Oper}{t:Nat}(h:t∈E4 o):t<512:=R8 (ZN (Tu.1 h).2)
theorem NC{ops:Array Oper}{o:Oper}{t:Nat}(h:t∈E4 o):t∈Rd ops o:=Zs.2 (.inl (Tu.1 h).1)
theorem oK: ∀(l:List Nat) (tm:TM) (n:Nat),n<512->(∀t∈l,t<512)->Su n (RP tm (l.map λt=>(Pq t,Su t)))=if n∈l then Su n tm else .unk
 |[],tm,n,hn,_=>by simpa [RP] using oL n
 |t::l,tm,n,hn,hl=>by
  show Su n (Pq t (RP tm (l.map λt=>(Pq t,Su t))) (Su t tm))=_
  rw[IQ n t hn (hl t (Zx ..)),oK l tm n hn λt h=>hl t (ZI _ h)]
  by_cases e:n=t
  ·subst e;simp
  ·simp[e]
theorem yg{o:Oper}{tm Yp:TM}(h: ∀t∈E4 o,Su t Yp=Su t tm):RP Yp (VM o)=RP tm (VM o):=by
 rw[KI]
 generalize E4 o=l at h
 induction l with
 |nil=>rfl
 |cons t l ih=>
  show Pq t (RP Yp (l.map λt=>(Pq t,Su t))) (Su t Yp)=Pq t (RP tm (l.map λt=>(Pq t,Su t))) (Su t tm)
  rw[ih λt h'=>h t (ZI _ h'),h t (Zx ..)]
theorem zQ{n:Nat}{tm:TM}: ∀{l:List Nat},RB n tm (l.map λt=>(Pq t,Su t))=true-> ∀t∈l,Xt n (Su t tm)=true
 |[],_,t,ht=>by cases ht
 |t'::l,h,t,ht=>by
  have h:cond (Xt n (Su t' tm)) (RB n tm (l.map λt=>(Pq t,Su t))) false=true:=h
  cases h1:Xt n (Su t' tm) with
  |false=>rw[h1] at h;cases h
  |true=>
   rw[h1] at h
   rcases Ya.1 ht with e|e
   ·subst e;exact h1
   ·exact zQ h t e
theorem Ht{σ:Mp}{H:Zc}{w:World}(hs:Wh P σ H w){o:Oper}{tm:TM}{a:Act}(h: ∀t∈E4 o,Ys σ (Su t tm) (a.tmps.getD t undef)):Rp P σ (RP tm (VM o)) a.eval:=by
 refine KD (N:=0) hs ⟨Z1 _,λn hn=>?_⟩
 rw[KI,oK _ _ _ hn λt ht=>OE ht]
 by_cases e:n∈E4 o
 ·rw[if_pos e];exact h n e
 ·rw[if_neg e];simp[Ys]
end
theorem ZU{a b:Bool}(h:cond a b false=true):a=true∧b=true:=by cases a<;>cases b<;>first|exact⟨rfl,rfl⟩|cases h
theorem K9{b n:Nat}(h:Nat.ble (Nat.succ b) n=true):b<n:=ZN h
def Mp.cut(σ:Mp)(n:Nat):Mp:=λb=>if b<n then σ b else none
theorem Mp.cut_lt{σ:Mp}{n b:Nat}(h:b<n):σ.cut n b=σ b:=by unfold Mp.cut;rw[if_pos h]
theorem Mp.cut_some{σ:Mp}{n b:Nat}{l:Loc}(h:σ.cut n b=some l):b<n∧σ b=some l:=by
 unfold Mp.cut at h
 split at h
 ·exact⟨by assumption,h⟩
 ·cases h
mutual
theorem Ys.cut{σ:Mp}{n:Nat}: ∀{a:AV} {v:Value},Xt n a=true->Ys σ a v->Ys (σ.cut n) a v
 |.unk,_,_,_=>by simp[Ys]
 |.bool b,v,_,r=>by simpa [Ys] using r
 |.int k n,v,_,r=>by simpa [Ys] using r
 |.str s,v,_,r=>by simpa [Ys] using r
 |.nilp,v,_,r=>by simpa [Ys] using r
 |.ptr b o,v,h,r=>by
  simp only[Ys] at r ⊢
  obtain⟨l,hl,hv⟩:=r
  exact⟨l,by rw[Mp.cut_lt (K9 h)];exact hl,hv⟩
 |.nils,v,_,r=>by simpa [Ys] using r
 |.slice b o n cap,v,h,r=>by
  simp only[Ys] at r ⊢
  obtain⟨l,hl,hv⟩:=r
  exact⟨l,by rw[Mp.cut_lt (K9 h)];exact hl,hv⟩
 |.nilm,v,_,r=>by simpa [Ys] using r
 |.map b,v,h,r=>by
  simp only[Ys] at r ⊢
  obtain⟨l,hl,hv⟩:=r
  exact⟨l,by rw[Mp.cut_lt (K9 h)];exact hl,hv⟩
 |.func f a b,v,h,r=>by
  have h:=ZU h
  simp only[Ys] at r ⊢
  obtain⟨x,y,hx,hy,hv⟩:=r
  exact⟨x,y,YM.cut h.1 hx,YM.cut h.2 hy,hv⟩
 |.meth m a,v,h,r=>by
  simp only[Ys] at r ⊢
  obtain⟨x,hx,hv⟩:=r
  exact⟨x,Ys.cut (a:=a) h hx,hv⟩
 |.yield b,v,h,r=>by
  simp only[Ys] at r ⊢
  obtain⟨l,hl,hv⟩:=r
  exact⟨l,by rw[Mp.cut_lt (K9 h)];exact hl,hv⟩
 |.nilf,v,_,r=>by simpa [Ys] using r
 |.iface t x,v,h,r=>by
  simp only[Ys] at r ⊢
  obtain⟨y,hy,hv⟩:=r
  exact⟨y,Ys.cut (a:=x) h hy,hv⟩
 |.nili,v,_,r=>by simpa [Ys] using r
 |.agg cs,v,h,r=>by
  simp only[Ys] at r ⊢
  obtain⟨vs,hx,h1,hv⟩:=r
  exact⟨vs,YM.cut (as:=cs) h hx,h1,hv⟩
 |.tup cs,v,h,r=>by
  simp only[Ys] at r ⊢
  obtain⟨vs,hx,hv⟩:=r
  exact⟨vs,YM.cut (as:=cs) h hx,hv⟩
theorem YM.cut{σ:Mp}{n:Nat}: ∀{as:List AV} {l:List Value},Ob n as=true->YM σ as l->YM (σ.cut n) as l
 |[],l,_,r=>by simpa [YM] using r
 |a::as,l,h,r=>by
  have h:=ZU h
  simp only[YM] at r ⊢
  obtain⟨v,vs,h1,h2,h3⟩:=r
  exact⟨v,vs,Ys.cut h.1 h1,YM.cut h.2 h2,h3⟩
end
section
variable {P:Program}
theorem Wh.cut{σ:Mp}{H:Zc}{w:World}(hs:Wh P σ H w){n:Nat}(hn:P.globals.size<=n):Wh P (σ.cut n) ⟨n,.leaf,n⟩ w:=by
 refine⟨λb l h=>(Mp.cut_some h).1,λb o h=>?_,λb o l h _=>?_,λb b' o o' l l' h _ _ _ _=>?_,λg hg=>?_,Zj _⟩
 ·rw[T.get_leaf] at h;cases h
 ·rw[T.get_leaf] at h;cases h
 ·rw[T.get_leaf] at h;cases h
 ·obtain⟨l,h1,h2⟩:=hs.glob g hg
  exact⟨l,by rw[Mp.cut_lt (by omega)];exact h1,h2⟩
theorem Wh.grow{σ:Mp}{H:Zc}{w w1:World}(hs:Wh P σ H w)(h: ∀k,k<w.heap.size->w1.heap[k]? =w.heap[k]?):Wh P σ H w1:=by
 refine⟨hs.dom,hs.low,λb o l hb hl=>?_,hs.inj,hs.glob,hs.ro⟩
 obtain⟨c,hc,hr⟩:=hs.alive b o l hb hl
 exact⟨c,by rw[h _ (ZW.1 hc).1];exact hc,hr⟩
theorem Wh.ro'{σ:Mp}{H:Zc}{w:World}(hs:Wh P σ H w):Wh P σ ⟨H.nx,H.t,H.nx⟩ w:=⟨hs.dom,hs.low,hs.alive,hs.inj,hs.glob,Zj _⟩
theorem Wh.pendNew{σ:Mp}{H:Zc}{w:World}(hs:Wh P σ H w)(o:Obj):Wh P σ (H.new o) w:=by
 have hf:=hs.fresh (Zj H.nx)
 refine⟨λb l h=>Nat.lt_succ_of_lt (hs.dom b l h),λb o' h=>?_,λb o' l h hl=>?_,λb b' o1 o2 l l' h h' hl SS=>?_,hs.glob,Nat.le_succ_of_le hs.ro⟩
 ·rw[Zc.get_new] at h
  show b<H.nx+1
  by_cases e:H.nx=b
  ·omega
  ·rw[if_neg e] at h;exact Nat.lt_succ_of_lt (hs.low b o' h)
 ·rw[Zc.get_new] at h
  by_cases e:H.nx=b
  ·subst e;rw[hf] at hl;cases hl
  ·rw[if_neg e] at h;exact hs.alive b o' l h hl
 ·rw[Zc.get_new] at h h'
  by_cases e:H.nx=b
  ·subst e;rw[hf] at hl;cases hl
  ·by_cases e':H.nx=b'
   ·subst e';rw[hf] at SS;cases SS
   ·rw[if_neg e] at h;rw[if_neg e'] at h';exact hs.inj b b' o1 o2 l l' h h' hl SS
structure yS(σ:Mp)(H:Zc)(w:World)(σ':Mp)(H':Zc)(w':World):Prop where
 ext:Oq σ σ'
 size:w.heap.size<=w'.heap.size
 frame: ∀k,k<w.heap.size->(∀b l,Wr H b->σ b=some l->l.blk≠k)->w'.heap[k]? =w.heap[k]?
 wr: ∀b l,Wr H' b->σ' b=some l->l.blk<w.heap.size-> ∃b0 l0,Wr H b0∧σ b0=some l0∧l0.blk=l.blk
 nx:H.nx<=H'.nx
 ro:H'.ro=H.ro
 low: ∀b,b<H.ro->H'.t.get b=H.t.get b
 tape:w'.tape=w.tape
 os:w'.os=w.os
 out:w'.output=w.output
theorem Tr.toW{σ σ':Mp}{H H':Zc}{w w':World}(h:Tr P σ H w σ' H' w'):yS σ H w σ' H' w':=⟨h.ext,h.size,h.frame,h.wr,h.nx,h.ro,h.low,h.tape,h.os,h.out⟩
theorem yS.trans{σ σ' σ'':Mp}{H H' H'':Zc}{w w' w'':World}(h:yS σ H w σ' H' w')(h':yS σ' H' w' σ'' H'' w''):yS σ H w σ'' H'' w'':=by
 refine⟨h.ext.trans h'.ext,Yt h.size h'.size,?_,?_,Yt h.nx h'.nx,h'.ro.trans h.ro,?_,h'.tape.trans h.tape,h'.os.trans h.os,h'.out.trans h.out⟩
 ·intro k hk hn
  rw[h'.frame k (ZH hk h.size) ?_,h.frame k hk hn]
  intro b l hw hl e
  obtain⟨b0,l0,i6,Aj,e0⟩:=h.wr b l hw hl (by rw[e];exact hk)
  exact hn b0 l0 i6 Aj (e0.trans e)
 ·intro b l hw hl Y6
  obtain⟨b1,l1,hw1,NX,e1⟩:=h'.wr b l hw hl (ZH Y6 h.size)
  obtain⟨b0,l0,i6,Aj,e0⟩:=h.wr b1 l1 hw1 NX (by rw[e1];exact Y6)
  exact⟨b0,l0,i6,Aj,e0.trans e1⟩
 ·intro b hb
  rw[h'.low b (by rw[h.ro];exact hb),h.low b hb]
theorem yS.refl(σ:Mp)(H:Zc)(w:World):yS σ H w σ H w:=
 ⟨Oq.refl σ,Zj _,λ_ _ _=>rfl,λb l hw hl _=>⟨b,l,hw,hl,rfl⟩,Zj _,rfl,λ_ _=>rfl,rfl,rfl,rfl⟩
theorem yS.full{σ σ':Mp}{H H':Zc}{w w':World}(h:yS σ H w σ' H' w')(hs:Wh P σ' H' w')(hp: ∀b,b<H.nx->σ b=none->H'.t.get b=H.t.get b∧σ' b=none):Tr P σ H w σ' H' w':=
 ⟨h.ext,hs,h.size,h.frame,h.wr,h.nx,h.ro,h.low,h.tape,h.os,h.out,hp⟩
theorem yS.mem{σ σ':Mp}{H:Zc}{w w':World}(he:Oq σ σ')(hz:w.heap.size<=w'.heap.size)(hf: ∀k,k<w.heap.size->w'.heap[k]? =w.heap[k]?)
  (Ia: ∀b l o,H.t.get b=some o->σ' b=some l->l.blk<w.heap.size->σ b=some l)(ht:w'.tape=w.tape)(hos:w'.os=w.os)(N9:w'.output=w.output):yS σ H w σ' H w':=
 ⟨he,hz,λk hk _=>hf k hk,λb l hw hl Y6=>⟨b,l,hw,let ⟨_,o,ho,_⟩:=hw;Ia b l o ho hl Y6,rfl⟩,Zj _,rfl,λ_ _=>rfl,ht,hos,N9⟩
theorem yS.pendNew{σ:Mp}{H:Zc}{w:World}(hs:Wh P σ H w)(o:Obj):yS σ H w σ (H.new o) w:=by
 have hf:=hs.fresh (Zj H.nx)
 refine⟨Oq.refl σ,Zj _,λ_ _ _=>rfl,λb l hw hl _=>⟨b,l,?_,hl,rfl⟩,XZ _,rfl,λb hb=>?_,rfl,rfl,rfl⟩
 ·obtain⟨h1,o',h2,h3⟩:=hw
  rw[Zc.get_new] at h2
  by_cases e:H.nx=b
  ·subst e;rw[hf] at hl;cases hl
  ·rw[if_neg e] at h2;exact⟨h1,o',h2,h3⟩
 ·have YL:=hs.ro
  show(H.new o).t.get b=_
  rw[Zc.get_new,if_neg (by omega)]
def LH(P:Program)(ops:Array Oper)(o:Oper)(tm:TM):Prop:=TL P ops o=none∨ ∃g q,TL P ops o=some (g,q)∧g tm=.bool q
def PF(P:Program)(ops:Array Oper)(o:Oper)(tm:TM):Prop:= ∃g q,TL P ops o=some (g,q)∧(g tm=.bool (!q)∨ ∃vs,g tm=.tup vs)
theorem GW{ops:Array Oper}{o:Oper}{tm:TM}{yes no r:X6}(h:NP (TL P ops o) tm yes no=r)(hr:r≠.fail):(LH P ops o tm∧yes=r)∨(PF P ops o tm∧no=r):=by
 unfold NP at h
 split at h
 ·rename_i hg;exact .inl ⟨.inl hg,h⟩
 ·rename_i g q hg
  unfold UT at h
  split at h
  ·rename_i cv hv
   cases cv<;>cases q
   ·exact .inl ⟨.inr ⟨g,_,hg,hv⟩,h⟩
   ·exact .inr ⟨⟨g,_,hg,.inl hv⟩,h⟩
   ·exact .inr ⟨⟨g,_,hg,.inl hv⟩,h⟩
   ·exact .inl ⟨.inr ⟨g,_,hg,hv⟩,h⟩
  ·rename_i vs hv
   exact .inr ⟨⟨g,q,hg,.inr ⟨vs,hv⟩⟩,h⟩
  ·exact absurd h.symm hr
theorem Ka{ops:Array Oper}{o:Oper}{g:Yc}{q:Bool}(h:TL P ops o=some (g,q)):
  ∃j,o.guard=some (j,q)∧(((ops[j]?).bind (·.dst)=none∧g=k .unk)∨ ∃d,(ops[j]?).bind (·.dst)=some d∧d∈Rd ops o∧((d<512∧g=Su d)∨g=k .unk)):=by
 unfold TL at h
 cases ho:o.guard with
 |none=>rw[ho] at h;cases h
 |some jb=>
  obtain⟨j,bb⟩:=jb
  rw[ho] at h
  cases hd:(ops[j]?).bind (·.dst) with
  |none=>simp only[hd,Option.some.injEq,Prod.mk.injEq] at h;obtain⟨rfl,rfl⟩:=h;exact⟨j,rfl,.inl ⟨hd,rfl⟩⟩
  |some d=>
   simp only[hd,Option.some.injEq,Prod.mk.injEq] at h
   obtain⟨rfl,rfl⟩:=h
   refine⟨j,rfl,.inr ⟨d,hd,?_,?_⟩⟩
   ·unfold Rd;rw[ho];exact Zs.2 (.inr (by simp[hd]))
   ·show(d<512∧(cond (Nat.ble d 511) (Su d) (k .unk))=Su d)∨(cond (Nat.ble d 511) (Su d) (k .unk))=k .unk
    cases hb:Nat.ble d 511 with
    |true=>exact .inl ⟨R8 (ZN hb),rfl⟩
    |false=>exact .inr rfl
theorem I7{ops:Array Oper}{o:Oper}{g:Yc}{q:Bool}(h:TL P ops o=some (g,q)){tm Yp:TM}(he: ∀t∈Rd ops o,t<512->Su t Yp=Su t tm):g Yp=g tm:=by
 obtain⟨j,_,h1⟩:=Ka h
 rcases h1 with⟨_,rfl⟩|⟨d,_,hd,⟨Y6,rfl⟩|rfl⟩
 ·rfl
 ·exact he d hd Y6
 ·rfl
theorem LH.congr{ops:Array Oper}{o:Oper}{tm Yp:TM}(he: ∀t∈Rd ops o,t<512->Su t Yp=Su t tm)(h:LH P ops o tm):LH P ops o Yp:=by
 rcases h with h|⟨g,q,h,h1⟩
 ·exact .inl h
 ·exact .inr ⟨g,q,h,by rw[I7 h he];exact h1⟩
theorem PF.congr{ops:Array Oper}{o:Oper}{tm Yp:TM}(he: ∀t∈Rd ops o,t<512->Su t Yp=Su t tm)(h:PF P ops o tm):PF P ops o Yp:=by
 obtain⟨g,q,h,h1⟩:=h
 exact⟨g,q,h,by rw[I7 h he];exact h1⟩
theorem getD_some{t:Array Value}{d:Nat}{v:Value}(h:t.getD d undef=v)(hv:v≠undef):t[d]? =some v:=by
 rw[Z0] at h
 cases h4:t[d]? with
 |none=>rw[h4] at h;exact absurd h.symm hv
 |some u=>rw[h4] at h;exact congrArg some h
theorem LH.run{ops:Array Oper}{o:Oper}{tm:TM}{σ:Mp}{a:Act}(h:LH P ops o tm)(hr: ∀t∈Rd ops o,t<512->Ys σ (Su t tm) (a.tmps.getD t undef)):Region.wanted o (yielded ops a.tmps)=true:=by
 rcases h with h|⟨g,q,h,h1⟩
 ·exact Cu h _
 ·obtain⟨j,h2,h3⟩:=Ka h
  rcases h3 with⟨_,rfl⟩|⟨d,hd,hd1,⟨Y6,rfl⟩|rfl⟩
  ·cases h1
  ·have h4:=hr d hd1 Y6
   rw[h1] at h4
   have h5:=getD_some (TI h4) (by simp[undef])
   unfold Region.wanted yielded
   rw[h2]
   simp[hd,h5]
  ·cases h1
theorem PF.run{ops:Array Oper}{o:Oper}{tm:TM}{σ:Mp}{a:Act}(h:PF P ops o tm)(hr: ∀t∈Rd ops o,t<512->Ys σ (Su t tm) (a.tmps.getD t undef)):Region.wanted o (yielded ops a.tmps)=false:=by
 obtain⟨g,q,h,h1⟩:=h
 obtain⟨j,h2,h3⟩:=Ka h
 rcases h3 with⟨_,rfl⟩|⟨d,hd,hd1,⟨Y6,rfl⟩|rfl⟩
 ·rcases h1 with h1|⟨vs,h1⟩<;>cases h1
 ·have h4:=hr d hd1 Y6
  unfold Region.wanted yielded
  rw[h2]
  rcases h1 with h1|⟨vs,h1⟩
  ·rw[h1] at h4
   have h5:=getD_some (TI h4) (by simp[undef])
   simp[hd,h5]
  ·rw[h1] at h4
   simp only[Ys] at h4
   obtain⟨us,_,h4⟩:=h4
   rw[Z0] at h4
   simp only[hd,Option.bind_some]
   cases h6:a.tmps[d]? with
   |none=>simp
   |some u=>rw[h6] at h4;have h4:u=_:=h4;subst h4;simp
 ·rcases h1 with h1|⟨vs,h1⟩<;>cases h1
end
def Ls(listed:Array Bool)(j:Nat):Prop:=listed.getD j false=true
theorem Ls.set{listed:Array Bool}{i j:Nat}(hi:i<listed.size):Ls (listed.setIfInBounds i true) j↔(j=i∨Ls listed j):=by
 unfold Ls
 by_cases e:i=j
 ·subst e;simp[Z0,hi]
 ·rw[Z0,Uj e,<-Z0]
  constructor
  ·exact .inr
  ·rintro (h|h)
   ·exact absurd h.symm e
   ·exact h
section
variable (P:Program) (ops:Array Oper)
def evD(q:SI)(tm:TM)(v:AV):Prop:= ∀t,q.d=some t->t<512->Su t tm=v
abbrev BS:List (Oper×Nat×Nat):=yY ops.toList 0 []
def hK(σ:Mp)(n0:Nat)(H:Zc)(A:Nat->Option Nat)(rs:List RD)(tm:TM)(q:SI):Prop:=
 (PF P ops q.x.1 tm∧evD q tm YS∧A q.i=none)∨
 (LH P ops q.x.1 tm∧ ∃n v H1,RB n tm (VM q.x.1)=true∧n0<=n∧n<=H.nx∧Vh P q.x.1.op (RP tm (VM q.x.1)) ⟨n,.leaf,n⟩=.val v H1∧evD q tm v∧
  ((A q.i=none∧H1.nx=n)∨(A q.i=some n∧H1.nx=n+1∧σ n=none∧ ∃ob,H1.t.get n=some ob∧wrO ob=true∧H.t.get n=some ob)))∨
 (LH P ops q.x.1 tm∧A q.i=none∧ ∃v,(⟨Wa P ops q.x,v⟩:RD)∈rs∧evD q tm v)
structure MS(N:Nat)(ds:List Nat)(σ0:Mp)(H0:Zc)(w0:World)(pre:List SI)(rs:List RD)(tm:TM)(H:Zc)(A:Nat->Option Nat)(σ:Mp)(a0 a:Act)(w:World)(listed:Array Bool):Prop where
 size:listed.size=ops.size
 sub: ∀j,Ls listed j-> ∃q∈pre,q.i=j
 bs: ∀q∈pre,q.x∈BS ops∧q=Oj P ops q.x
 closed: ∀x∈BS ops,Ls listed x.2.1-> ∀k,Nat.testBit x.2.2 k=true->Ls listed k
 effs: ∀q∈pre,q.eff=true->Ls listed q.i
 lk: ∀q∈pre,∀t∈q.lk,∀p∈pre,p.d=some t->Nat.testBit q.bef p.i=true∨p.eff=true∨p.i=q.i
 own: ∀q∈pre,q.eff=false-> ∀t,q.d=some t->t∉q.lk
 idx: ∀q∈pre,∀p∈pre,q.i=p.i->q=p
 glob:P.globals.size<=H0.nx
 sim:Wh P σ H w
 tr:yS σ0 H0 w0 σ H w
 pend: ∀b,b<H0.nx->σ0 b=none->H.t.get b=H0.t.get b∧σ b=none
 tsz:N<=a.tmps.size
 tmps: ∀n,n<512->(∃q∈pre,¬Ls listed q.i∧q.d=some n)∨Ys σ (Su n tm) (a.tmps.getD n undef)
 old: ∀n,n∉ds->a.tmps[n]? =a0.tmps[n]?
 defers:a.defers=a0.defers
 del: ∀q∈pre,¬Ls listed q.i->hK P ops σ H0.nx H A rs tm q
 ainj: ∀i j n,A i=some n->A j=some n->i=j
 alow: ∀i n,A i=some n->H0.nx<=n∧n<H.nx
end
section
variable {P:Program} {ops:Array Oper} {N:Nat} {ds:List Nat} {σ0:Mp} {H0:Zc} {w0:World} {pre:List SI} {rs:List RD} {tm:TM} {H:Zc} {A:Nat->Option Nat} {σ:Mp} {a0 a:Act} {w:World} {listed:Array Bool}
theorem MS.before(m:MS P ops N ds σ0 H0 w0 pre rs tm H A σ a0 a w listed){q:SI}(hq:q.x∈BS ops)(hqi:q=Oj P ops q.x)(hr:q.i∈Region.ready .any ops listed):
  ∀k,Nat.testBit q.bef k=true->Ls listed k:=by
 intro k hk
 obtain⟨hn,o,ho,MR⟩:=mem_ready.1 hr
 have hb:q.bef=q.x.2.2:=by rw[hqi];rfl
 have hi:q.i=q.x.2.1:=by rw[hqi];rfl
 rw[hb] at hk
 obtain⟨e,he,Zjs,h⟩:=JW hq hk
 obtain⟨⟨j,h1,h2⟩,_⟩:=S8 _ _ _ _ hq
 have Eh:q.x.1=o:=by
  rw[hi,h2,Zt] at ho
  rw[Yd,ho] at h1
  exact(Option.some.inj h1).symm
 have hl:Ls listed e.on:=MR e (by rw[<-Eh];exact Xn.1 he) Zjs
 rcases h with rfl|⟨y,hy,h3,h4⟩
 ·exact hl
 ·exact m.closed y hy (by rw[h3];exact hl) k h4
theorem MS.oper(m:MS P ops N ds σ0 H0 w0 pre rs tm H A σ a0 a w listed){q:SI}(hq:q∈pre):ops[q.i]? =some q.x.1:=by
 obtain⟨h1,h2⟩:=m.bs q hq
 obtain⟨⟨j,h3,h4⟩,_⟩:=S8 _ _ _ _ h1
 have:q.i=q.x.2.1:=by rw[h2];rfl
 rw[this,h4,Zt,<-Yd]
 exact h3
theorem MS.looks(m:MS P ops N ds σ0 H0 w0 pre rs tm H A σ a0 a w listed){q:SI}(hb: ∀k,Nat.testBit q.bef k=true->Ls listed k)
  (hlk: ∀t∈q.lk,∀p∈pre,p.d=some t->Nat.testBit q.bef p.i=true∨p.eff=true∨Ls listed p.i): ∀t∈q.lk,t<512->Ys σ (Su t tm) (a.tmps.getD t undef):=by
 intro t ht Y6
 rcases m.tmps t Y6 with⟨p,hp,Dp,Dq⟩|h
 ·rcases hlk t ht p hp Dq with h|h|h
  ·exact absurd (hb _ h) Dp
  ·exact absurd (m.effs p hp h) Dp
  ·exact absurd h Dp
 ·exact h
theorem MS.exec(m:MS P ops N ds σ0 H0 w0 pre rs tm H A σ a0 a w listed){q:SI}(hq:q∈pre)(hr:q.i∈Region.ready .any ops listed)(hd: ∀t,q.d=some t->t∈ds)(hN:CX N q.d=true)
  {σ2:Mp}{w1:World}{u:Value}(he:Oq σ σ2)(LD:Wh P σ2 H w1)(hz:w.heap.size<=w1.heap.size)(hf: ∀k,k<w.heap.size->w1.heap[k]? =w.heap[k]?)
  (Ia: ∀b l o,H.t.get b=some o->σ2 b=some l->l.blk<w.heap.size->σ b=some l)(ht:w1.tape=w.tape)(hos:w1.os=w.os)(N9:w1.output=w.output)
  (hp: ∀b,b<H.nx->σ b=none->A q.i≠some b->σ2 b=none)(hv: ∀t,q.d=some t->t<512->Ys σ2 (Su t tm) u):
  MS P ops N ds σ0 H0 w0 pre rs tm H A σ2 a0 (a.put q.d u) w1 (listed.setIfInBounds q.i true):=by
 have hi:q.i<listed.size:=by
  rw[m.size]
  exact(ZW.1 (m.oper hq)).1
 refine⟨by simpa using m.size,λj hj=>?_,m.bs,λx hx hl k hk=>?_,λp hp' he'=>(Ls.set hi).2 (.inr (m.effs p hp' he')),m.lk,m.own,m.idx,m.glob,LD,m.tr.trans (yS.mem he hz hf Ia ht hos N9),?_,?_,?_,?_,?_,?_,m.ainj,m.alow⟩
 ·rcases(Ls.set hi).1 hj with rfl|hj
  ·exact⟨q,hq,rfl⟩
  ·exact m.sub j hj
 ·refine(Ls.set hi).2 (.inr ?_)
  rcases(Ls.set hi).1 hl with e|hl
  ·
   obtain⟨⟨j,h1,h2⟩,acc,h3,h4⟩:=S8 _ _ _ _ hx
   obtain⟨hn,o,ho,MR⟩:=mem_ready.1 hr
   obtain⟨e1,he1,Q3,h5⟩:=JW hx hk
   have Eh:x.1=o:=by
    rw[<-e,h2,Zt] at ho
    rw[Yd,ho] at h1
    exact(Option.some.inj h1).symm
   have NX:Ls listed e1.on:=MR e1 (by rw[<-Eh];exact Xn.1 he1) Q3
   rcases h5 with rfl|⟨y,hy,h6,h7⟩
   ·exact NX
   ·exact m.closed y hy (by rw[h6];exact NX) k h7
  ·exact m.closed x hx hl k hk
 ·intro b hb hn
  obtain⟨h1,h2⟩:=m.pend b hb hn
  refine⟨h1,hp b (ZH hb m.tr.nx) h2 λe=>?_⟩
  have:=(m.alow _ _ e).1
  omega
 ·rw[Hz]
  cases q.d with
  |none=>exact m.tsz
  |some t=>simpa using m.tsz
 ·intro n hn
  by_cases e:q.d=some n
  ·refine .inr ?_
   have hsz:n<a.tmps.size:=by
    rw[e] at hN
    exact ZH (ZN hN) m.tsz
   rw[e]
   show Ys σ2 (Su n tm) ((a.tmps.setIfInBounds n u).getD n undef)
   rw[Z0,Xh]
   simp only[hsz,if_true]
   exact hv n e hn
  ·have Lz:(a.put q.d u).tmps.getD n undef=a.tmps.getD n undef:=by
    rw[Z0,Z0,put_old a q.d u λt ht' e'=>e (by rw[ht',e'])]
   rcases m.tmps n hn with⟨p,hp',Dp,Dq⟩|h
   ·refine .inl ⟨p,hp',λhl=>?_,Dq⟩
    rcases(Ls.set hi).1 hl with e'|hl
    ·have:p=q:=m.idx p hp' q hq e'
     subst this;exact e Dq
    ·exact Dp hl
   ·exact .inr (by rw[Lz];exact h.mono he)
 ·intro n hn
  rw[put_old a q.d u λt ht' e'=>hn (by rw[e'];exact hd t ht')]
  exact m.old n hn
 ·rw[Rh];exact m.defers
 ·intro p hp' Dp
  have lU: ¬Ls listed p.i:=λh=>Dp ((Ls.set hi).2 (.inr h))
  have VY:p.i≠q.i:=λh=>Dp ((Ls.set hi).2 (.inl h))
  rcases m.del p hp' lU with h|⟨h1,n,v,H1,h2,h3,h4,h5,h6,h7⟩|h
  ·exact .inl h
  ·refine .inr (.inl ⟨h1,n,v,H1,h2,h3,h4,h5,h6,?_⟩)
   rcases h7 with h7|⟨h7,h8,h9,h10⟩
   ·exact .inl h7
   ·refine .inr ⟨h7,h8,hp n (m.alow _ _ h7).2 h9 λe=>VY (m.ainj _ _ _ h7 e),h10⟩
  ·exact .inr (.inr h)
theorem mG(n:Nat)(b:Nat): ¬Wr ⟨n,.leaf,n⟩ b:=λh=>by obtain⟨_,o,h,_⟩:=h;rw[T.get_leaf] at h;cases h
theorem ZlF{σ:Mp}{H:Zc}{w:World}(hs:Wh P σ H w)(b:Nat): ¬Wr ⟨H.nx,H.t,H.nx⟩ b:=λh=>by
 obtain⟨h0,o,h,_⟩:=h
 have h:H.t.get b=some o:=h
 have h0:H.nx<=b:=h0
 have:=hs.low b o h
 omega
theorem BX{H:Zc}{b:Nat}{o:Obj}(hb:H.t.get b=some o)(YL:H.ro<=b)(h:wrO o=true):Wr H b:=by
 refine⟨YL,o,hb,λr e=>?_,λe=>?_⟩
 ·subst e;exact h
 ·subst e;cases h
theorem tZ{tm:TM}{H:Zc}: ∀{rs:List RD},still tm H rs=true-> ∀r∈rs,uZ r tm H=true
 |[],_,r,hr=>by cases hr
 |r'::rs,h,r,hr=>by
  have h:=ZU (a:=uZ r' tm H) (b:=still tm H rs) h
  rcases Ya.1 hr with e|e
  ·subst e;exact h.1
  ·exact tZ h.2 r e
end
mutual
theorem NA: ∀(a b:AV),same a b=true->a=b
 |.unk,b,h=>by cases b<;>(simp[same] at h)
 |.bool x,b,h=>by
  cases b<;>try (simp[same] at h;done)
  rename_i y;cases x<;>cases y<;>first|rfl|(simp[same] at h)
 |.int k n,b,h=>by
  cases b<;>try (simp[same] at h;done)
  rename_i j m
  have h:cond (Qd k j) (G5 n m) false=true:=by simpa only[same] using h
  obtain⟨h1,h2⟩:=ZU h
  rw[R1 h1]
  rw[Oa] at h2
  rw[eq_of_beq h2]
 |.str s,b,h=>by
  cases b<;>try (simp[same] at h;done)
  rename_i t
  have h:Lo s t=true:=by simpa only[same] using h
  rw[SD] at h
  rw[eq_of_beq h]
 |.nilp,b,h=>by cases b<;>first|rfl|(simp[same] at h)
 |.ptr x o,b,h=>by
  cases b<;>try (simp[same] at h;done)
  rename_i y p
  have h:cond (Nat.beq x y) (Nat.beq o p) false=true:=by simpa only[same] using h
  obtain⟨h1,h2⟩:=ZU h
  rw[ZT h1,ZT h2]
 |.nils,b,h=>by cases b<;>first|rfl|(simp[same] at h)
 |.slice x o n c,b,h=>by
  cases b<;>try (simp[same] at h;done)
  rename_i y p m d
  simp only[same] at h
  obtain⟨h1,h2⟩:=ZU h
  obtain⟨h2,h3⟩:=ZU h2
  obtain⟨h3,h4⟩:=ZU h3
  rw[ZT h1,ZT h2,ZT h3]
  cases c<;>cases d<;>first|rfl|(cases h4;done)|(rw[ZT h4])
 |.nilm,b,h=>by cases b<;>first|rfl|(simp[same] at h)
 |.map x,b,h=>by
  cases b<;>try (simp[same] at h;done)
  rename_i y
  have h:Nat.beq x y=true:=by simpa only[same] using h
  rw[ZT h]
 |.func f x y,b,h=>by
  cases b<;>try (simp[same] at h;done)
  rename_i g z u
  simp only[same] at h
  obtain⟨h1,h2⟩:=ZU h
  obtain⟨h2,h3⟩:=ZU h2
  rw[ZT h1,Nd x z h2,Nd y u h3]
 |.meth n r,b,h=>by cases b<;>(simp[same] at h)
 |.yield x,b,h=>by cases b<;>(simp[same] at h)
 |.nilf,b,h=>by cases b<;>first|rfl|(simp[same] at h)
 |.iface t v,b,h=>by
  cases b<;>try (simp[same] at h;done)
  rename_i u y
  simp only[same] at h
  obtain⟨h1,h2⟩:=ZU h
  rw[ZT h1,NA v y h2]
 |.nili,b,h=>by cases b<;>first|rfl|(simp[same] at h)
 |.agg x,b,h=>by
  cases b<;>try (simp[same] at h;done)
  rename_i y
  simp only[same] at h
  rw[Nd x y h]
 |.tup x,b,h=>by
  cases b<;>try (simp[same] at h;done)
  rename_i y
  simp only[same] at h
  rw[Nd x y h]
theorem Nd: ∀(a b:List AV),Sg a b=true->a=b
 |[],b,h=>by cases b<;>first|rfl|(simp[Sg] at h)
 |x::a,b,h=>by
  cases b with
  |nil=>simp[Sg] at h
  |cons y b=>
   simp only[Sg] at h
   obtain⟨h1,h2⟩:=ZU h
   rw[NA x y h1,Nd a b h2]
end
section
variable {P:Program} {ops:Array Oper} {N:Nat} {ds:List Nat} {σ0:Mp} {H0:Zc} {w0:World} {pre:List SI} {rs:List RD} {tm:TM} {H:Zc} {A:Nat->Option Nat} {σ:Mp} {a0 a:Act} {w:World} {listed:Array Bool}
theorem Qr{b:Frame}{k:List Item}{cs:List Frame}{i:Nat}{rest:List Nat}{o:Oper}(ho:ops[i]? =some o)(hw:Region.wanted o (yielded ops a.tmps)=true)(Ke: ∀c,o.op≠.defer c){u:Value}{w1:World}
  (YX:(execOp a.eval o).run P w=.ok (.value u) w1∨((execOp a.eval o).run P w=.ok .skip w1∧u=undef)):
  Steps P (lone (b.atR a (.inRegion ops (i::rest)::k)) cs w) (lone (b.atR (a.put o.dst u) (.inRegion ops rest::k)) cs w1):=by
 have hE:Ends P (λy w2=>y=u∧w2=w1) (λ_ _=>False) ((execOp a.eval o).run P w):=by
  rcases YX with YX|⟨YX,hu⟩
  ·rw[YX];exact⟨rfl,rfl⟩
  ·rw[YX];exact⟨hu.symm,rfl⟩
 rcases PT (b:=b) (k:=k) (cs:=cs) (rest:=rest) ho hw Ke hE with⟨u',w',⟨rfl,rfl⟩,Ut⟩|⟨_,_,h,_⟩
 ·exact Ut
 ·exact h.elim
theorem Lc{o:Oper}{tm:TM}{H:Zc}{v:AV}{H1:Zc}(h:Vh P o.op tm H=.val v H1): ∀c,o.op≠.defer c:=
 Kw (P:=P) (o:=o) (tm:=tm) (H:=H) (λf ar e=>by rw[h] at e;cases e) (λe=>by rw[h] at e;cases e)
theorem MS.late(m:MS P ops N ds σ0 H0 w0 pre rs tm H A σ a0 a w listed)(Ut:still tm H rs=true){q:SI}(hq:q∈pre)(Dp: ¬Ls listed q.i)(hr:q.i∈Region.ready .any ops listed)
  (hd: ∀t,q.d=some t->t∈ds)(hN:CX N q.d=true)(b:Frame)(k:List Item)(cs:List Frame)(rest:List Nat):
  ∃σ2 a2 w2,MS P ops N ds σ0 H0 w0 pre rs tm H A σ2 a0 a2 w2 (listed.setIfInBounds q.i true)∧
   Steps P (lone (b.atR a (.inRegion ops (q.i::rest)::k)) cs w) (lone (b.atR a2 (.inRegion ops rest::k)) cs w2):=by
 have ho:=m.oper hq
 have hqd:q.d=q.x.1.dst:=by have:=(m.bs q hq).2;rw[this];rfl
 have Zge:q.lk=Rd ops q.x.1:=by have:=(m.bs q hq).2;rw[this];rfl
 have ZbE:=m.before (m.bs q hq).1 (m.bs q hq).2 hr
 have ZjU:q.eff=false:=by
  cases e:q.eff with
  |false=>rfl
  |true=>exact absurd (m.effs q hq e) Dp
 have Kd: ∀t∈Rd ops q.x.1,t<512->Ys σ (Su t tm) (a.tmps.getD t undef):=by
  rw[<-Zge]
  refine m.looks ZbE λt ht p hp Dq=>?_
  rcases m.lk q hq t ht p hp Dq with h|h|h
  ·exact .inl h
  ·exact .inr (.inl h)
  ·have:p=q:=m.idx p hp q hq h
   subst this
   exact absurd ht (m.own p hp ZjU t Dq)
 have Zf1: ∀n,H0.nx<=n->P.globals.size<=n:=λn hn=>Yt m.glob hn
 rcases m.del q hq Dp with⟨hu,hv,hA⟩|⟨hw,n,v,H1,Oz,h0n,hnH,hf,hv,CA⟩|⟨hw,hA,v,QG,hv⟩
 ·
  refine⟨σ,a.put q.d undef,w,m.exec hq hr hd hN (Oq.refl σ) m.sim (Zj _) (λ_ _=>rfl) (λ_ _ _ _ h _=>h) rfl rfl rfl (λ_ _ h _=>h) λt ht Y6=>by rw[hv t ht Y6];exact Fj,?_⟩
  have hun:=hu.run (a:=a) (σ:=σ) Kd
  have Ut:=stepR_op_skip (P:=P) (b:=b) (a:=a) (k:=k) (cs:=cs) (w:=w) (ops:=ops) (i:=q.i) (rest:=rest) (by rw[ho];exact hun)
  rw[ho] at Ut
  rw[hqd]
  exact .one Ut
 ·
  have Dr:=hw.run (a:=a) (σ:=σ) Kd
  have hsc:=m.sim.cut (Zf1 n h0n)
  have rM:Rp P (σ.cut n) (RP tm (VM q.x.1)) a.eval:=Ht hsc λt ht=>by
   rw[KI] at Oz
   exact(Kd t (NC ht) (OE ht)).cut (zQ Oz t ht)
  have OL:=N1 hsc rM q.x.1
  unfold Xm at OL
  rw[hf] at OL
  obtain⟨σ1,w1,u,YX,U5,t1⟩:=OL
  have Kh:=Qr (b:=b) (k:=k) (cs:=cs) (rest:=rest) ho Dr (Lc hf) YX
  have GZ: ∀j,j<w.heap.size->w1.heap[j]? =w.heap[j]? :=λj hj=>t1.frame j hj λc l hc _=>absurd hc (mG n c)
  have Y6: ∀c l,c<n->σ1 c=some l->σ c=some l:=by
   intro c l hc hl
   cases e:σ c with
   |none=>
    have:=(t1.pend c hc (by rw[Mp.cut_lt hc];exact e)).2
    rw[this] at hl;cases hl
   |some l'=>
    have:=t1.ext c l' (by rw[Mp.cut_lt hc];exact e)
    rw[this] at hl
    rw[<-hl]
  rcases CA with⟨hA,B5⟩|⟨hA,B5,hσn,ob,Gs,ZoK,Znu⟩
  ·have CB:Oq σ1 σ:=λc l hl=>Y6 c l (by have:=t1.sim.dom c l hl;rw[B5] at this;exact this) hl
   refine⟨σ,a.put q.d u,w1,m.exec hq hr hd hN (Oq.refl σ) (m.sim.grow GZ) t1.size GZ (λ_ _ _ _ h _=>h) t1.tape t1.os t1.out (λ_ _ h _=>h) (λt ht G2=>by rw[hv t ht G2];exact U5.mono CB),?_⟩
   rw[hqd];exact Kh
  ·
   let σ2:Mp:=λc=>if c=n then σ1 n else σ c
   have e2: ∀c,c≠n->σ2 c=σ c:=λc hc=>if_neg hc
   have e2n:σ2 n=σ1 n:=if_pos rfl
   have Zd4:Oq σ1 σ2:=by
    intro c l hl
    by_cases e:c=n
    ·subst e;rw[e2n];exact hl
    ·rw[e2 c e]
     refine Y6 c l ?_ hl
     have:=t1.sim.dom c l hl
     rw[B5] at this
     omega
   have CB:Oq σ σ2:=by
    intro c l hl
    rw[e2 c λe=>by rw[e,hσn] at hl;cases hl]
    exact hl
   have Zoc:n<H.nx:=(m.alow _ _ hA).2
   have ZbW:H1.ro=n:=t1.ro
   have hblk: ∀l,σ1 n=some l->w.heap.size<=l.blk:=by
    intro l hl
    refine Nat.le_of_not_lt λG2=>?_
    obtain⟨b0,l0,h,_⟩:=t1.wr n l (BX Gs (by rw[ZbW];exact Zj _) ZoK) hl G2
    exact mG n b0 h
   have LD:Wh P σ2 H w1:=by
    refine⟨λc l hl=>?_,m.sim.low,λc o l hc hl=>?_,λc c' o o' l l' hc rD hl SS e=>?_,λg hg=>?_,m.sim.ro⟩
    ·by_cases e:c=n
     ·subst e;exact Zoc
     ·rw[e2 c e] at hl;exact m.sim.dom c l hl
    ·by_cases e:c=n
     ·subst e
      rw[Znu] at hc;cases hc
      rw[e2n] at hl
      obtain⟨co,h1,h2⟩:=t1.sim.alive c _ l Gs hl
      exact⟨co,h1,h2.mono Zd4⟩
     ·rw[e2 c e] at hl
      obtain⟨co,h1,h2⟩:=m.sim.alive c o l hc hl
      exact⟨co,by rw[GZ _ (ZW.1 h1).1];exact h1,h2.mono CB⟩
    ·by_cases e1:c=n<;>by_cases e3:c'=n
     ·exact .inl (by rw[e1,e3])
     ·subst e1
      rw[e2n] at hl
      rw[e2 c' e3] at SS
      have h1:=m.sim.blk_lt rD SS
      have h2:=hblk l hl
      omega
     ·subst e3
      rw[e2n] at SS
      rw[e2 c e1] at hl
      have h1:=m.sim.blk_lt hc hl
      have h2:=hblk l' SS
      omega
     ·rw[e2 c e1] at hl
      rw[e2 c' e3] at SS
      exact m.sim.inj c c' o o' l l' hc rD hl SS e
    ·obtain⟨l,h1,h2⟩:=m.sim.glob g hg
     exact⟨l,CB g l h1,h2⟩
   refine⟨σ2,a.put q.d u,w1,m.exec hq hr hd hN CB LD t1.size GZ (λc l o hc hl G2=>?_) t1.tape t1.os t1.out (λc _ hn hA'=>?_) (λt ht G2=>by rw[hv t ht G2];exact U5.mono Zd4),?_⟩
   ·by_cases e:c=n
    ·subst e
     rw[e2n] at hl
     have:=hblk l hl
     omega
    ·rw[e2 c e] at hl;exact hl
   ·rw[e2 c λe=>hA' (by rw[hA,e])];exact hn
   ·rw[hqd];exact Kh
 ·
  have Dr:=hw.run (a:=a) (σ:=σ) Kd
  have rM:Rp P σ (RP tm (VM q.x.1)) a.eval:=Ht m.sim λt ht=>Kd t (NC ht) (OE ht)
  have eT:=tZ Ut _ QG
  unfold uZ at eT
  have eQ:(⟨Wa P ops q.x,v⟩:RD).p.f (RP tm (⟨Wa P ops q.x,v⟩:RD).p.os) ⟨H.nx,H.t,H.nx⟩=Vh P q.x.1.op (RP tm (VM q.x.1)) ⟨H.nx,H.t,H.nx⟩:=rfl
  rw[eQ] at eT
  have OL:=N1 m.sim.ro' rM q.x.1
  unfold Xm at OL
  generalize hf:Vh P q.x.1.op (RP tm (VM q.x.1)) ⟨H.nx,H.t,H.nx⟩=r at eT OL
  cases r with
  |oth _=>cases eT
  |val v' H1=>
   have eT:cond (Nat.beq H1.nx H.nx) (same v' v) false=true:=eT
   obtain⟨h1,h2⟩:=ZU eT
   have B5:H1.nx=H.nx:=ZT h1
   have:=NA _ _ h2
   subst this
   obtain⟨σ1,w1,u,YX,U5,t1⟩:=OL
   have Kh:=Qr (b:=b) (k:=k) (cs:=cs) (rest:=rest) ho Dr (Lc hf) YX
   have GZ: ∀j,j<w.heap.size->w1.heap[j]? =w.heap[j]? :=λj hj=>t1.frame j hj λc l hc _=>absurd hc (ZlF m.sim c)
   have CB:Oq σ1 σ:=by
    intro c l hl
    have hc:c<H.nx:=by have:=t1.sim.dom c l hl;rw[B5] at this;exact this
    cases e:σ c with
    |none=>
     have:=(t1.pend c hc e).2
     rw[this] at hl;cases hl
    |some l'=>
     have:=t1.ext c l' e
     rw[this] at hl
     rw[<-hl]
   refine⟨σ,a.put q.d u,w1,m.exec hq hr hd hN (Oq.refl σ) (m.sim.grow GZ) t1.size GZ (λ_ _ _ _ h _=>h) t1.tape t1.os t1.out (λ_ _ h _=>h) (λt ht G2=>by rw[hv t ht G2];exact U5.mono CB),?_⟩
   rw[hqd];exact Kh
end
theorem RW(d:Option Nat)(tm:TM)(v:AV){n:Nat}(hn:n<512):Su n (XR d tm v)=if d=some n then v else Su n tm:=by
 cases d with
 |none=>simp[XR,d0]
 |some t=>
  show Su n ((cond (Nat.ble t 511) (Pq t) d0) tm v)=_
  cases hb:Nat.ble t 511 with
  |true=>
   have:t<512:=R8 (ZN hb)
   show Su n (Pq t tm v)=_
   rw[IQ n t hn this]
   by_cases e:n=t
   ·subst e;simp
   ·rw[if_neg e,if_neg (λh=>e (Option.some.inj h).symm)]
  |false=>
   show Su n tm=_
   rw[if_neg]
   intro e
   cases e
   rw[show Nat.ble n 511=true from Zg (by omega)] at hb
   cases hb
theorem Fd{bef:Nat}{r:RD}: ∀{rs:List RD},r∈rs->Nat.testBit bef r.p.i=false->r∈Uq bef rs
 |[],h,_=>by cases h
 |r'::rs,h,hb=>by
  show r∈cond (Nat.testBit bef r'.p.i) (Uq bef rs) (r'::Uq bef rs)
  rcases Ya.1 h with e|e
  ·subst e;rw[hb];exact Zx ..
  ·cases Nat.testBit bef r'.p.i with
   |true=>exact Fd e hb
   |false=>exact ZI _ (Fd e hb)
section
variable {P:Program} {ops:Array Oper} {N:Nat} {ds:List Nat} {σ0:Mp} {H0:Zc} {w0:World} {pre:List SI} {rs:List RD} {tm:TM} {H:Zc} {A:Nat->Option Nat} {σ:Mp} {a0 a:Act} {w:World} {listed:Array Bool}
theorem hK.move{n0:Nat}{q:SI}{σ':Mp}{H':Zc}{A':Nat->Option Nat}{HQ:List RD}{Yp:TM}(h:hK P ops σ n0 H A rs tm q)(hq:q.lk=Rd ops q.x.1)
  (h1: ∀t∈q.lk,t<512->Su t Yp=Su t tm)(h2: ∀t,q.d=some t->t<512->Su t Yp=Su t tm)(hn:H.nx<=H'.nx)
  (rQ: ∀v,(⟨Wa P ops q.x,v⟩:RD)∈rs->(⟨Wa P ops q.x,v⟩:RD)∈HQ)(hA:A' q.i=A q.i)(Lz: ∀n,A q.i=some n->σ n=none->H'.t.get n=H.t.get n∧σ' n=none):
  hK P ops σ' n0 H' A' HQ Yp q:=by
 have hl: ∀t∈Rd ops q.x.1,t<512->Su t Yp=Su t tm:=by rw[<-hq];exact h1
 have hrsF:RP Yp (VM q.x.1)=RP tm (VM q.x.1):=yg λt ht=>hl t (NC ht) (OE ht)
 have rE: ∀v,evD q tm v->evD q Yp v:=λv hv t ht Y6=>by rw[h2 t ht Y6];exact hv t ht Y6
 have Oz: ∀n,RB n Yp (VM q.x.1)=RB n tm (VM q.x.1):=by
  intro n
  have hs: ∀t∈E4 q.x.1,Su t Yp=Su t tm:=λt ht=>hl t (NC ht) (OE ht)
  rw[KI]
  generalize E4 q.x.1=l at hs
  induction l with
  |nil=>rfl
  |cons t l ih=>
   show cond (Xt n (Su t Yp)) (RB n Yp (l.map λt=>(Pq t,Su t))) false=cond (Xt n (Su t tm)) (RB n tm (l.map λt=>(Pq t,Su t))) false
   rw[ih λt h=>hs t (ZI _ h),hs t (Zx ..)]
 rcases h with⟨u1,u2,u3⟩|⟨u1,n,v,H1,u2,u3,u4,u5,u6,u7⟩|⟨u1,u2,v,u3,u4⟩
 ·exact .inl ⟨u1.congr hl,rE _ u2,by rw[hA];exact u3⟩
 ·refine .inr (.inl ⟨u1.congr hl,n,v,H1,by rw[Oz];exact u2,u3,Yt u4 hn,by rw[hrsF];exact u5,rE _ u6,?_⟩)
  rcases u7 with⟨u7,u8⟩|⟨u7,u8,u9,ob,u10,u11,u12⟩
  ·exact .inl ⟨by rw[hA];exact u7,u8⟩
  ·obtain⟨g1,g2⟩:=Lz n u7 u9
   exact .inr ⟨by rw[hA];exact u7,u8,g2,ob,u10,u11,by rw[g1];exact u12⟩
 ·exact .inr (.inr ⟨u1.congr hl,by rw[hA];exact u2,v,rQ v u3,rE _ u4⟩)
theorem tC{q:SI}(h:q=Oj P ops q.x):q.lk=Rd ops q.x.1:=by rw[h];rfl
theorem Ga{q:SI}(h:q=Oj P ops q.x):q.d=q.x.1.dst:=by rw[h];rfl
theorem wB{q:SI}(h:q=Oj P ops q.x):q.eff=uh (Pk P q.x.1.op):=by rw[h];rfl
theorem Zo7{q:SI}(h:q=Oj P ops q.x):q.i=(Wa P ops q.x).i:=by rw[h];rfl
theorem Fv{q:SI}(h:q=Oj P ops q.x):q.bef=(Wa P ops q.x).bef:=by rw[h];rfl
theorem MS.plan(m:MS P ops N ds σ0 H0 w0 pre rs tm H A σ a0 a w listed){q:SI}{l:List SI}(hpl:TU pre (q::l))(hq:q.x∈BS ops)(Gt:q=Oj P ops q.x)(VY:q.eff=false)
  {HQ:List RD}{v:AV}{H':Zc}{A':Nat->Option Nat}(hH:H'=H∨ ∃o,H'=H.new o)(rQ: ∀r∈rs,r∈HQ)(hA: ∀i,i≠q.i->A' i=A i)
  (hA2:A' q.i=none∨(A' q.i=some H.nx∧ ∃o,H'=H.new o))(Ia:hK P ops σ H0.nx H' A' HQ (XR q.d tm v) q):
  MS P ops N ds σ0 H0 w0 (pre++[q]) HQ (XR q.d tm v) H' A' σ a0 a w listed:=by
 obtain⟨_,oZ,hlk,v6,_⟩:=hpl
 have oZ: ∀t,q.d=some t->(∀p∈pre,t∉p.lk∧p.d≠some t)∧t∉q.lk:=by
  rcases oZ with h|⟨h,_⟩
  ·exact h
  ·rw[VY] at h;cases h
 have B5:H.nx<=H'.nx:=by rcases hH with rfl|⟨o,rfl⟩;exact Zj _;exact XZ _
 have hold: ∀b,b<H.nx->H'.t.get b=H.t.get b:=by
  intro b hb
  rcases hH with rfl|⟨o,rfl⟩
  ·rfl
  ·rw[Zc.get_new,if_neg (by omega)]
 have di:Wh P σ H' w:=by rcases hH with rfl|⟨o,rfl⟩;exact m.sim;exact m.sim.pendNew o
 have htr:yS σ0 H0 w0 σ H' w:=by rcases hH with rfl|⟨o,rfl⟩;exact m.tr;exact m.tr.trans (yS.pendNew m.sim o)
 have QG: ∀{p:SI},p∈pre++[q]->p∈pre∨p=q:=λ{p} h=>by rcases Zs.1 h with h|h;exact .inl h;exact .inr (by simpa using h)
 have ZnR:q∈pre++[q]:=Zs.2 (.inr (by simp))
 have Zod: ¬Ls listed q.i:=λh=>by obtain⟨p,hp,e⟩:=m.sub _ h;exact v6 p hp e
 refine⟨m.size,λj hj=>?_,λp hp=>?_,m.closed,λp hp he=>?_,λq1 o6 t ht p hp Dq=>?_,λp hp he t ht=>?_,λq1 o6 p hp e=>?_,m.glob,di,htr,λb hb hn=>?_,m.tsz,λn hn=>?_,m.old,m.defers,λp hp Dp=>?_,λi j n hi hj=>?_,λi n hi=>?_⟩
 ·obtain⟨p,hp,e⟩:=m.sub j hj
  exact⟨p,Zs.2 (.inl hp),e⟩
 ·rcases QG hp with hp|rfl
  ·exact m.bs p hp
  ·exact⟨hq,Gt⟩
 ·rcases QG hp with hp|rfl
  ·exact m.effs p hp he
  ·rw[VY] at he;cases he
 ·rcases QG o6 with wR|rfl<;>rcases QG hp with Ak|rfl
  ·exact m.lk q1 wR t ht p Ak Dq
  ·exact absurd ht ((oZ t Dq).1 q1 wR).1
  ·exact .inl (hlk t ht p Ak Dq)
  ·exact .inr (.inr rfl)
 ·rcases QG hp with hp|rfl
  ·exact m.own p hp he t ht
  ·exact(oZ t ht).2
 ·rcases QG o6 with wR|rfl<;>rcases QG hp with Ak|rfl
  ·exact m.idx q1 wR p Ak e
  ·exact absurd e (v6 q1 wR)
  ·exact absurd e.symm (v6 p Ak)
  ·rfl
 ·obtain⟨h1,h2⟩:=m.pend b hb hn
  exact⟨by rw[hold b (ZH hb m.tr.nx)];exact h1,h2⟩
 ·by_cases e:q.d=some n
  ·exact .inl ⟨q,ZnR,Zod,e⟩
  ·rw[RW _ _ _ hn,if_neg e]
   rcases m.tmps n hn with⟨p,hp,h1,h2⟩|h
   ·exact .inl ⟨p,Zs.2 (.inl hp),h1,h2⟩
   ·exact .inr h
 ·rcases QG hp with hp|rfl
  ·refine(m.del p hp Dp).move (tC (m.bs p hp).2) (λt ht Y6=>?_) (λt ht Y6=>?_) B5 (λv hv=>rQ _ hv) (hA p.i (v6 p hp)) (λn hn hσ=>⟨hold n (m.alow _ _ hn).2,hσ⟩)
   ·rw[RW _ _ _ Y6,if_neg λe=>((oZ t e).1 p hp).1 ht]
   ·rw[RW _ _ _ Y6,if_neg λe=>((oZ t e).1 p hp).2 ht]
  ·exact Ia
 ·by_cases e1:i=q.i<;>by_cases e2:j=q.i
  ·rw[e1,e2]
  ·subst e1
   rw[hA j e2] at hj
   rcases hA2 with h|⟨h,_⟩
   ·rw[h] at hi;cases hi
   ·rw[h] at hi;cases hi;have:=(m.alow _ _ hj).2;omega
  ·subst e2
   rw[hA i e1] at hi
   rcases hA2 with h|⟨h,_⟩
   ·rw[h] at hj;cases hj
   ·rw[h] at hj;cases hj;have:=(m.alow _ _ hi).2;omega
  ·rw[hA i e1] at hi;rw[hA j e2] at hj
   exact m.ainj i j n hi hj
 ·by_cases e:i=q.i
  ·subst e
   rcases hA2 with h|⟨h,o,rfl⟩
   ·rw[h] at hi;cases hi
   ·rw[h] at hi;cases hi;exact⟨m.tr.nx,YZ _⟩
  ·rw[hA i e] at hi
   have:=m.alow i n hi
   exact⟨this.1,ZH this.2 B5⟩
theorem MS.eff(m:MS P ops N ds σ0 H0 w0 pre rs tm H A σ a0 a w listed){q:SI}{l:List SI}(hpl:TU pre (q::l))(hq:q.x∈BS ops)(Gt:q=Oj P ops q.x)
  (hr:q.i∈Region.ready .any ops listed)(hd: ∀t,q.d=some t->t∈ds)(hN:CX N q.d=true)
  {σ':Mp}{H':Zc}{w':World}{v:AV}{u:Value}(t:Tr P σ H w σ' H' w')(hv:Ys σ' v u):
  MS P ops N ds σ0 H0 w0 (pre++[q]) (Uq q.bef rs) (XR q.d tm v) H' A σ' a0 (a.put q.d u) w' (listed.setIfInBounds q.i true):=by
 obtain⟨_,oZ,hlk,v6,_⟩:=hpl
 have ZbE:=m.before hq Gt hr
 have hi:q.i<listed.size:=by
  obtain⟨_,o,ho,_⟩:=mem_ready.1 hr
  rw[m.size];exact(ZW.1 ho).1
 have QG: ∀{p:SI},p∈pre++[q]->p∈pre∨p=q:=λ{p} h=>by rcases Zs.1 h with h|h;exact .inl h;exact .inr (by simpa using h)
 have oZ: ∀p∈pre,¬Ls listed p.i-> ∀t,q.d=some t->t∉p.lk∧p.d≠some t:=by
  intro p hp Dp t ht
  rcases oZ with h|⟨_,h⟩
  ·exact(h t ht).1 p hp
  ·rcases h p hp with h|h
   ·exact absurd (ZbE _ h) Dp
   ·exact h t ht
 refine⟨by simpa using m.size,λj hj=>?_,λp hp=>?_,λx hx hl k hk=>?_,λp hp he=>?_,λq1 o6 t ht p hp Dq=>?_,λp hp he t ht=>?_,λq1 o6 p hp e=>?_,m.glob,t.sim,m.tr.trans t.toW,λb hb hn=>?_,?_,λn hn=>?_,λn hn=>?_,by rw[Rh];exact m.defers,λp hp Dp=>?_,m.ainj,λi n Nk=>?_⟩
 ·rcases(Ls.set hi).1 hj with rfl|hj
  ·exact⟨q,Zs.2 (.inr (by simp)),rfl⟩
  ·obtain⟨p,hp,e⟩:=m.sub j hj
   exact⟨p,Zs.2 (.inl hp),e⟩
 ·rcases QG hp with hp|rfl
  ·exact m.bs p hp
  ·exact⟨hq,Gt⟩
 ·refine(Ls.set hi).2 (.inr ?_)
  rcases(Ls.set hi).1 hl with e|hl
  ·obtain⟨⟨j,h1,h2⟩,acc,h3,h4⟩:=S8 _ _ _ _ hx
   obtain⟨hn,o,ho,MR⟩:=mem_ready.1 hr
   obtain⟨e1,he1,Q3,h5⟩:=JW hx hk
   have Eh:x.1=o:=by
    rw[<-e,h2,Zt] at ho
    rw[Yd,ho] at h1
    exact(Option.some.inj h1).symm
   have NX:Ls listed e1.on:=MR e1 (by rw[<-Eh];exact Xn.1 he1) Q3
   rcases h5 with rfl|⟨y,hy,h6,h7⟩
   ·exact NX
   ·exact m.closed y hy (by rw[h6];exact NX) k h7
  ·exact m.closed x hx hl k hk
 ·rcases QG hp with hp|rfl
  ·exact(Ls.set hi).2 (.inr (m.effs p hp he))
  ·exact(Ls.set hi).2 (.inl rfl)
 ·rcases QG o6 with wR|rfl<;>rcases QG hp with Ak|rfl
  ·exact m.lk q1 wR t ht p Ak Dq
  ·by_cases Dp:Ls listed q1.i
   ·rcases ‹New p pre› with h|⟨h,_⟩
    ·exact absurd ht ((h t Dq).1 q1 wR).1
    ·exact .inr (.inl h)
   ·exact absurd ht (oZ q1 wR Dp t Dq).1
  ·exact .inl (hlk t ht p Ak Dq)
  ·exact .inr (.inr rfl)
 ·rcases QG hp with hp|rfl
  ·exact m.own p hp he t ht
  ·rcases ‹New p pre› with h|⟨h,_⟩
   ·exact(h t ht).2
   ·rw[he] at h;cases h
 ·rcases QG o6 with wR|rfl<;>rcases QG hp with Ak|rfl
  ·exact m.idx q1 wR p Ak e
  ·exact absurd e (v6 q1 wR)
  ·exact absurd e.symm (v6 p Ak)
  ·rfl
 ·obtain⟨h1,h2⟩:=m.pend b hb hn
  obtain⟨h3,h4⟩:=t.pend b (ZH hb m.tr.nx) h2
  exact⟨h3.trans h1,h4⟩
 ·rw[Hz]
  cases q.d with
  |none=>exact m.tsz
  |some t=>simpa using m.tsz
 ·by_cases e:q.d=some n
  ·refine .inr ?_
   have hsz:n<a.tmps.size:=by
    rw[e] at hN
    exact ZH (ZN hN) m.tsz
   rw[RW _ _ _ hn,if_pos e,e]
   show Ys σ' v ((a.tmps.setIfInBounds n u).getD n undef)
   rw[Z0,Xh]
   simp only[hsz,if_true]
   exact hv
  ·have Lz:(a.put q.d u).tmps.getD n undef=a.tmps.getD n undef:=by
    rw[Z0,Z0,put_old a q.d u λt ht' e'=>e (by rw[ht',e'])]
   rw[RW _ _ _ hn,if_neg e,Lz]
   rcases m.tmps n hn with⟨p,hp,h1,h2⟩|h
   ·refine .inl ⟨p,Zs.2 (.inl hp),λhl=>?_,h2⟩
    rcases(Ls.set hi).1 hl with e'|hl
    ·exact v6 p hp e'
    ·exact h1 hl
   ·exact .inr (h.mono t.ext)
 ·rw[put_old a q.d u λt ht' e'=>hn (by rw[e'];exact hd t ht')]
  exact m.old n hn
 ·rcases QG hp with hp|rfl
  ·have lU: ¬Ls listed p.i:=λh=>Dp ((Ls.set hi).2 (.inr h))
   refine(m.del p hp lU).move (tC (m.bs p hp).2) (λt ht Y6=>?_) (λt ht Y6=>?_) t.nx (λv hv=>?_) rfl (λn hn hσ=>t.pend n (m.alow _ _ hn).2 hσ)
   ·rw[RW _ _ _ Y6,if_neg λe=>(oZ p hp lU t e).1 ht]
   ·rw[RW _ _ _ Y6,if_neg λe=>(oZ p hp lU t e).2 ht]
   ·refine Fd hv ?_
    cases hb:Nat.testBit q.bef (Wa P ops p.x).i with
    |false=>rfl
    |true=>
     rw[<-Zo7 (m.bs p hp).2] at hb
     exact absurd (ZbE _ hb) lU
  ·exact absurd ((Ls.set hi).2 (.inl rfl)) Dp
 ·have:=m.alow i n Nk
  exact⟨this.1,ZH this.2 t.nx⟩
end
section
variable {P:Program} {ops:Array Oper} {N:Nat} {ds:List Nat} {σ0:Mp} {H0:Zc} {w0:World} {a0:Act}
theorem MS.advance{dl:List ZP}{fin:PK}{c:Ctx}{x:X}{out:Out}{S2:TM}{HO:Zc}{xO:X}{a:Act}{w:World}{listed:Array Bool}{σ:Mp}: ∀(rest pre:List SI) (rs:List RD) (tm:TM) (H:Zc) (A:Nat->Option Nat),
  MS P ops N ds σ0 H0 w0 pre rs tm H A σ a0 a w listed->TU pre rest->(∀q∈rest,q.x∈BS ops∧q=Oj P ops q.x)->
  VL dl fin (rest.map λq=>Wa P ops q.x) c rs tm H x=.ok out S2 HO xO->
  ∃NT rest' HQ Yp H' A',pre++rest=NT++rest'∧(rest'=[]∨ ∃e l,rest'=e::l∧e.eff=true)∧
   MS P ops N ds σ0 H0 w0 NT HQ Yp H' A' σ a0 a w listed∧TU NT rest'∧(∀q∈rest',q.x∈BS ops∧q=Oj P ops q.x)∧
   VL dl fin (rest'.map λq=>Wa P ops q.x) c HQ Yp H' x=.ok out S2 HO xO
 |[],pre,rs,tm,H,A,m,hp,hb,he=>⟨pre,[],rs,tm,H,A,rfl,.inl rfl,m,hp,hb,he⟩
 |q::l,pre,rs,tm,H,A,m,hp,hb,he=>by
  cases hqe:q.eff with
  |true=>exact⟨pre,q::l,rs,tm,H,A,rfl,.inr ⟨q,l,rfl,hqe⟩,m,hp,hb,he⟩
  |false=>
   obtain⟨hq,Gt⟩:=hb q (Zx ..)
   have Lj: ∀(HQ:List RD) (v:AV) (H':Zc) (A':Nat->Option Nat),MS P ops N ds σ0 H0 w0 (pre++[q]) HQ (XR q.d tm v) H' A' σ a0 a w listed->
     VL dl fin (l.map λq=>Wa P ops q.x) c HQ (XR q.d tm v) H' x=.ok out S2 HO xO->
     ∃NT rest' HQ Yp H' A',pre++(q::l)=NT++rest'∧(rest'=[]∨ ∃e l,rest'=e::l∧e.eff=true)∧
      MS P ops N ds σ0 H0 w0 NT HQ Yp H' A' σ a0 a w listed∧TU NT rest'∧(∀q∈rest',q.x∈BS ops∧q=Oj P ops q.x)∧
      VL dl fin (rest'.map λq=>Wa P ops q.x) c HQ Yp H' x=.ok out S2 HO xO:=by
    intro HQ v H' A' m' he'
    obtain⟨NT,rest',rs2,Dl,H2,A2,h1,h2⟩:=MS.advance l (pre++[q]) HQ (XR q.d tm v) H' A' m' hp.2.2.2.2 (λp h=>hb p (ZI _ h)) he'
    exact⟨NT,rest',rs2,Dl,H2,A2,by rw[<-h1];simp,h2⟩
   have oZ: ∀t,q.d=some t->t∉q.lk:=by
    rcases hp.2.1 with h|⟨h,_⟩
    ·exact λt ht=>(h t ht).2
    ·rw[hqe] at h;cases h
   have Zge:=tC Gt
   have hqd:=Ga Gt
   have Ei: ∀v,∀t∈Rd ops q.x.1,t<512->Su t (XR q.d tm v)=Su t tm:=λv t ht Y6=>by
    rw[RW _ _ _ Y6,if_neg λe=>oZ t e (by rw[Zge];exact ht)]
   have rE: ∀v,evD q (XR q.d tm v) v:=λv t ht Y6=>by rw[RW _ _ _ Y6,if_pos ht]
   have hrsF: ∀v,RP (XR q.d tm v) (VM q.x.1)=RP tm (VM q.x.1):=λv=>yg λt ht=>Ei v t (NC ht) (OE ht)
   let A':Nat->Option Nat:=λi=>if i=q.i then none else A i
   have hA': ∀i,i≠q.i->A' i=A i:=λi hi=>if_neg hi
   have hA'q:A' q.i=none:=if_pos rfl
   have hun:PF P ops q.x.1 tm->VL dl fin (l.map λq=>Wa P ops q.x) c rs (XR q.d tm YS) H x=.ok out S2 HO xO->_:=λhu he'=>
    Lj rs YS H A' (m.plan hp hq Gt hqe (.inl rfl) (λr h=>h) hA' (.inl hA'q) (.inl ⟨hu.congr (Ei _),rE _,hA'q⟩)) he'
   have Zd6:uh (Pk P q.x.1.op)=false:=by rw[<-wB Gt];exact hqe
   have he:SC dl (Wa P ops q.x) (VL dl fin (l.map λq=>Wa P ops q.x) c) c rs tm H x=.ok out S2 HO xO:=he
   cases hk:Pk P q.x.1.op with
   |eff=>rw[hk] at Zd6;cases Zd6
   |free=>
    have hkk:(Wa P ops q.x).kind=.free:=hk
    unfold SC at he
    rw[hkk] at he
    have he:NP (TL P ops q.x.1) tm (fP (Wa P ops q.x) (VL dl fin (l.map λq=>Wa P ops q.x) c) rs tm H x) (VL dl fin (l.map λq=>Wa P ops q.x) c rs (XR q.x.1.dst tm YS) H x)=.ok out S2 HO xO:=he
    rw[<-hqd] at he
    rcases GW he (by simp) with⟨hw,he⟩|⟨hu,he⟩
    ·unfold fP at he
     have hos:(Wa P ops q.x).os=VM q.x.1:=rfl
     have hff:(Wa P ops q.x).f=Vh P q.x.1.op:=rfl
     rw[hos,hff] at he
     cases Oz:RB H.nx tm (VM q.x.1) with
     |false=>rw[Oz] at he;cases he
     |true=>
      rw[Oz] at he
      generalize hr:Vh P q.x.1.op (RP tm (VM q.x.1)) ⟨H.nx,.leaf,H.nx⟩=r at he
      cases r with
      |oth _=>cases he
      |val v H1=>
       have he:cond (Nat.beq H1.nx H.nx) (VL dl fin (l.map λq=>Wa P ops q.x) c rs (XR q.x.1.dst tm v) H x) (cond (Nat.beq H1.nx (Nat.succ H.nx)) (bc (H1.t.get H.nx) λo=>VL dl fin (l.map λq=>Wa P ops q.x) c rs (XR q.x.1.dst tm v) (H.new o) x) .fail)=.ok out S2 HO xO:=he
       rw[<-hqd] at he
       have Zea:RB H.nx (XR q.d tm v) (VM q.x.1)=true:=by
        rw[<-Oz]
        have hs: ∀t∈E4 q.x.1,Su t (XR q.d tm v)=Su t tm:=λt ht=>Ei v t (NC ht) (OE ht)
        rw[KI]
        generalize E4 q.x.1=l at hs
        induction l with
        |nil=>rfl
        |cons t l ih=>
         show cond (Xt H.nx (Su t (XR q.d tm v))) (RB H.nx (XR q.d tm v) (l.map λt=>(Pq t,Su t))) false=cond (Xt H.nx (Su t tm)) (RB H.nx tm (l.map λt=>(Pq t,Su t))) false
         rw[ih λt h=>hs t (ZI _ h),hs t (Zx ..)]
       cases h1:Nat.beq H1.nx H.nx with
       |true=>
        rw[h1] at he
        refine Lj rs v H A' (m.plan hp hq Gt hqe (.inl rfl) (λr h=>h) hA' (.inl hA'q) (.inr (.inl ⟨hw.congr (Ei _),H.nx,v,H1,Zea,m.tr.nx,Zj _,?_,rE _,.inl ⟨hA'q,ZT h1⟩⟩))) he
        rw[hrsF];exact hr
       |false=>
        rw[h1] at he
        cases h2:Nat.beq H1.nx (Nat.succ H.nx) with
        |false=>rw[h2] at he;cases he
        |true=>
         rw[h2] at he
         cases h3:H1.t.get H.nx with
         |none=>rw[h3] at he;cases he
         |some ob=>
          rw[h3] at he
          have he:cond (wrO ob) (VL dl fin (l.map λq=>Wa P ops q.x) c rs (XR q.d tm v) (H.new ob) x) .fail=.ok out S2 HO xO:=he
          cases h4:wrO ob with
          |false=>rw[h4] at he;cases he
          |true=>
           rw[h4] at he
           let A2:Nat->Option Nat:=λi=>if i=q.i then some H.nx else A i
           have hA2: ∀i,i≠q.i->A2 i=A i:=λi hi=>if_neg hi
           have Zjj:A2 q.i=some H.nx:=if_pos rfl
           refine Lj rs v (H.new ob) A2 (m.plan hp hq Gt hqe (.inr ⟨ob,rfl⟩) (λr h=>h) hA2 (.inr ⟨Zjj,ob,rfl⟩) (.inr (.inl ⟨hw.congr (Ei _),H.nx,v,H1,Zea,m.tr.nx,XZ _,?_,rE _,.inr ⟨Zjj,ZT h2,m.sim.fresh (Zj _),ob,h3,h4,?_⟩⟩))) he
           ·rw[hrsF];exact hr
           ·rw[Zc.get_new,if_pos rfl]
    ·exact hun hu he
   |read=>
    have hkk:(Wa P ops q.x).kind=.read:=hk
    unfold SC at he
    rw[hkk] at he
    have he:NP (TL P ops q.x.1) tm (HJ (Wa P ops q.x) (VL dl fin (l.map λq=>Wa P ops q.x) c) rs tm H x (Vh P q.x.1.op (RP tm (VM q.x.1)) ⟨H.nx,H.t,H.nx⟩)) (VL dl fin (l.map λq=>Wa P ops q.x) c rs (XR q.x.1.dst tm YS) H x)=.ok out S2 HO xO:=he
    rw[<-hqd] at he
    rcases GW he (by simp) with⟨hw,he⟩|⟨hu,he⟩
    ·generalize hr:Vh P q.x.1.op (RP tm (VM q.x.1)) ⟨H.nx,H.t,H.nx⟩=r at he
     cases r with
     |oth _=>cases he
     |val v H1=>
      have he:cond (Nat.beq H1.nx H.nx) (VL dl fin (l.map λq=>Wa P ops q.x) c (⟨Wa P ops q.x,v⟩::rs) (XR q.x.1.dst tm v) H x) .fail=.ok out S2 HO xO:=he
      rw[<-hqd] at he
      cases h1:Nat.beq H1.nx H.nx with
      |false=>rw[h1] at he;cases he
      |true=>
       rw[h1] at he
       exact Lj (⟨Wa P ops q.x,v⟩::rs) v H A' (m.plan hp hq Gt hqe (.inl rfl) (λr h=>ZI _ h) hA' (.inl hA'q) (.inr (.inr ⟨hw.congr (Ei _),hA'q,v,Zx ..,rE _⟩))) he
    ·exact hun hu he
end
def sq(listed:Array Bool):Nat->Nat
 |0=>0
 |n+1=>sq listed n+(if listed.getD n false=true then 0 else 1)
theorem BQ{listed:Array Bool}: ∀{n:Nat},sq listed n=0-> ∀j,j<n->Ls listed j
 |0,_,j,hj=>by omega
 |n+1,h,j,hj=>by
  unfold sq at h
  by_cases e:listed.getD n false=true
  ·rw[if_pos e] at h
   by_cases ej:j=n
   ·subst ej;exact e
   ·exact BQ (by omega) j (by omega)
  ·rw[if_neg e] at h;omega
theorem DF{listed:Array Bool}{i:Nat}(hi:i<listed.size)(hn: ¬Ls listed i): ∀n,(i<n->sq (listed.setIfInBounds i true) n+1=sq listed n)∧(n<=i->sq (listed.setIfInBounds i true) n=sq listed n)
 |0=>⟨λh=>by omega,λ_=>rfl⟩
 |n+1=>by
  obtain⟨h1,h2⟩:=DF hi hn n
  have hs:=Ls.set (j:=n) hi
  unfold Ls at hs hn
  unfold sq
  by_cases e:i=n
  ·subst e
   refine⟨λ_=>?_,λh=>by omega⟩
   rw[if_pos (hs.2 (.inl rfl)),if_neg hn,h2 (Zj _)]
  ·have hh:((listed.setIfInBounds i true).getD n false=true)=(listed.getD n false=true):=propext ⟨λh=>by rcases hs.1 h with h|h;exact absurd h.symm e;exact h,λh=>hs.2 (.inr h)⟩
   simp only[hh]
   exact⟨λh=>by have:=h1 (by omega);omega,λh=>by have:=h2 (by omega);omega⟩
theorem ML{n:Nat}(hn:n<512): ∀(l:List (Option Nat)) (tm:TM),Su n (QA tm (l.map XR))=if some n∈l then .unk else Su n tm
 |[],tm=>by simp[QA]
 |d::l,tm=>by
  show Su n (QA (XR d tm .unk) (l.map XR))=_
  rw[ML hn l,RW _ _ _ hn]
  by_cases e:some n∈l
  ·rw[if_pos e,if_pos (ZI _ e)]
  ·rw[if_neg e]
   by_cases e2:d=some n
   ·rw[if_pos e2,if_pos (by rw[e2];exact Zx ..)]
   ·rw[if_neg e2,if_neg]
    intro h
    rcases Ya.1 h with h|h
    ·exact e2 h.symm
    ·exact e h
section
variable {P:Program} {ops:Array Oper} {N:Nat} {ds:List Nat} {σ0:Mp} {H0:Zc} {w0:World} {a0:Act}
theorem MS.full{pre:List SI}{rs:List RD}{tm:TM}{H:Zc}{A:Nat->Option Nat}{σ:Mp}{a:Act}{w:World}{listed:Array Bool}(m:MS P ops N ds σ0 H0 w0 pre rs tm H A σ a0 a w listed):Tr P σ0 H0 w0 σ H w:=m.tr.full m.sim m.pend
def hJ(ops:Array Oper):Prop:= ∀(j:Nat) (o:Oper),ops[j]? =some o-> ∀e∈o.after,Region.binds .any e=true->e.on<j
theorem DM(hE:hJ ops){listed:Array Bool}(hz:listed.size=ops.size)(hr:Region.ready .any ops listed=[]): ∀j,j<ops.size->Ls listed j:=by
 intro j
 induction j using Nat.strongRecOn with
 |_ j ih=>
  intro hj
  cases e:listed.getD j false with
  |true=>exact e
  |false=>
   have ho:ops[j]? =some ops[j]:=Wz hj
   have:j∈Region.ready .any ops listed:=by
    refine mem_ready.2 ⟨?_,ops[j],ho,λx hx hb=>?_⟩
    ·rw[Z0] at e ⊢
     have:listed[j]? =some listed[j]:=Wz (by omega)
     rw[this] at e ⊢
     exact e
    ·have:=hE j _ ho x hx hb
     exact ih x.on this (by omega)
   rw[hr] at this;cases this
theorem Fp{listed:Array Bool}{i:Nat}(h:i∈Region.ready .any ops listed)(hz:listed.size=ops.size):i<ops.size∧ ¬Ls listed i:=by
 obtain⟨h1,o,h2,_⟩:=mem_ready.1 h
 have hi:i<ops.size:=(ZW.1 h2).1
 refine⟨hi,λhl=>?_⟩
 unfold Ls at hl
 rw[Z0] at h1 hl
 have:listed[i]? =some listed[i]:=Wz (by omega)
 rw[this] at h1 hl
 have h1:listed[i]=false:=h1
 have hl:listed[i]=true:=hl
 rw[h1] at hl;cases hl
def Jk(P:Program)(N:Nat)(ds:List Nat)(σ0:Mp)(H0:Zc)(w0:World)(a0:Act)(m:Machine)(b:Frame)(k:List Item)(cs:List Frame)(out:Out)(S2:TM)(HO:Zc):Prop:=
 ∃σ' a' w',Tr P σ0 H0 w0 σ' HO w'∧Qv σ' N S2 a'.tmps∧a'.defers=a0.defers∧(∀n,n∉ds->a'.tmps[n]? =a0.tmps[n]?)∧Dn P m b k cs σ' out a' w'
theorem Jk.of_steps{m m1:Machine}{b:Frame}{k:List Item}{cs:List Frame}{out:Out}{S2:TM}{HO:Zc}(h:Steps P m m1)(d:Jk P N ds σ0 H0 w0 a0 m1 b k cs out S2 HO):Jk P N ds σ0 H0 w0 a0 m b k cs out S2 HO:=by
 obtain⟨σ',a',w',h1,h2,h3,h4,h5⟩:=d
 exact⟨σ',a',w',h1,h2,h3,h4,.of_steps h h5⟩
structure At(P:Program)(ops:Array Oper)(N:Nat)(ds:List Nat)(σ0:Mp)(H0:Zc)(w0:World)(a0:Act)(dl:List ZP)(fin:PK)(c:Ctx)(x:X)(L:List SI)(out:Out)(S2:TM)(HO:Zc)(xO:X)
  (pre rest:List SI)(rs:List RD)(tm:TM)(H:Zc)(A:Nat->Option Nat)(σ:Mp)(a:Act)(w:World)(listed:Array Bool):Prop where
 m:MS P ops N ds σ0 H0 w0 pre rs tm H A σ a0 a w listed
 pl:TU pre rest
 hd:rest=[]∨ ∃e l,rest=e::l∧e.eff=true
 bs: ∀q∈rest,q.x∈BS ops∧q=Oj P ops q.x
 all:pre++rest=L
 run:VL dl fin (rest.map λq=>Wa P ops q.x) c rs tm H x=.ok out S2 HO xO
theorem At.still{dl:List ZP}{fin:PK}{c:Ctx}{x:X}{L:List SI}{out:Out}{S2:TM}{HO:Zc}{xO:X}{pre rest:List SI}{rs:List RD}{tm:TM}{H:Zc}{A:Nat->Option Nat}{σ:Mp}{a:Act}{w:World}{listed:Array Bool}
  (t:At P ops N ds σ0 H0 w0 a0 dl fin c x L out S2 HO xO pre rest rs tm H A σ a w listed):AI.still tm H rs=true:=by
 have YX:=t.run
 rcases t.hd with e|⟨e,l,he,oU⟩
 ·rw[e] at YX
  have YX:cond (AI.still tm H rs) (fin rs tm H x) .fail=.ok out S2 HO xO:=YX
  cases h:AI.still tm H rs with
  |true=>rfl
  |false=>rw[h] at YX;cases YX
 ·subst he
  have hk:uh (Pk P e.x.1.op)=true:=by rw[<-wB (t.bs e (Zx ..)).2];exact oU
  have hk:(Wa P ops e.x).kind=.eff:=by
   show Pk P e.x.1.op=.eff
   cases h:Pk P e.x.1.op<;>rw[h] at hk<;>first|rfl|cases hk
  have YX:SC dl (Wa P ops e.x) (VL dl fin (l.map λq=>Wa P ops q.x) c) c rs tm H x=.ok out S2 HO xO:=YX
  unfold SC at YX
  rw[hk] at YX
  have YX:cond (AI.still tm H rs) _ .fail=X6.ok out S2 HO xO:=YX
  cases h:AI.still tm H rs with
  |true=>rfl
  |false=>rw[h] at YX;cases YX
theorem At.trel{dl:List ZP}{fin:PK}{c:Ctx}{x:X}{L:List SI}{out:Out}{S2:TM}{HO:Zc}{xO:X}{pre rest:List SI}{rs:List RD}{tm:TM}{H:Zc}{A:Nat->Option Nat}{σ:Mp}{a:Act}{w:World}{listed:Array Bool}
  (t:At P ops N ds σ0 H0 w0 a0 dl fin c x L out S2 HO xO pre rest rs tm H A σ a w listed)(h: ∀q∈pre,Ls listed q.i):Qv σ N tm a.tmps:=by
 refine⟨t.m.tsz,λn hn=>?_⟩
 rcases t.m.tmps n hn with⟨q,hq,h1,_⟩|h1
 ·exact absurd (h q hq) h1
 ·exact h1
theorem At.trelD{dl:List ZP}{fin:PK}{c:Ctx}{x:X}{L:List SI}{out:Out}{S2:TM}{HO:Zc}{xO:X}{pre rest:List SI}{rs:List RD}{tm:TM}{H:Zc}{A:Nat->Option Nat}{σ:Mp}{a:Act}{w:World}{listed:Array Bool}
  (t:At P ops N ds σ0 H0 w0 a0 dl fin c x L out S2 HO xO pre rest rs tm H A σ a w listed)(hdl:dl=L.map λq=>XR q.d):Qv σ N (QA tm dl) a.tmps:=by
 refine⟨t.m.tsz,λn hn=>?_⟩
 have e:dl=(L.map (·.d)).map XR:=by rw[hdl,UP];rfl
 rw[e,ML hn]
 by_cases h:some n∈L.map (·.d)
 ·rw[if_pos h];simp[Ys]
 ·rw[if_neg h]
  rcases t.m.tmps n hn with⟨q,hq,_,h1⟩|h1
  ·exact absurd (YV.2 ⟨q,by rw[<-t.all];exact Zs.2 (.inl hq),h1⟩) h
  ·exact h1
theorem At.eff{dl:List ZP}{fin:PK}{c:Ctx}{x:X}{L:List SI}{out:Out}{S2:TM}{HO:Zc}{xO:X}{pre l:List SI}{e:SI}{rs:List RD}{tm:TM}{H:Zc}{A:Nat->Option Nat}{σ:Mp}{a:Act}{w:World}{listed:Array Bool}
  (hN: ∀o∈ops,CX N o.dst=true∧ ∀t,o.dst=some t->t∈ds)(hdl:dl=L.map λq=>XR q.d){b:Frame}(hc:OQ P c b σ0 H0 w0)
  (t:At P ops N ds σ0 H0 w0 a0 dl fin c x L out S2 HO xO pre (e::l) rs tm H A σ a w listed)(oU:e.eff=true)(hr:e.i∈Region.ready .any ops listed)(k:List Item)(cs:List Frame)(rest:List Nat)
  (hgo: ∀(NT rest':List SI) (HQ:List RD) (Yp:TM) (H':Zc) (A':Nat->Option Nat) (σ':Mp) (a':Act) (w':World),At P ops N ds σ0 H0 w0 a0 dl fin c x L out S2 HO xO NT rest' HQ Yp H' A' σ' a' w' (listed.setIfInBounds e.i true)->
   (xO=x∧Jk P N ds σ0 H0 w0 a0 (lone (b.atR a' (.inRegion ops rest::k)) cs w') b k cs out S2 HO)):
  xO=x∧Jk P N ds σ0 H0 w0 a0 (lone (b.atR a (.inRegion ops (e.i::rest)::k)) cs w) b k cs out S2 HO:=by
 have m:=t.m
 obtain⟨hq,Gt⟩:=t.bs e (Zx ..)
 have Ut:=t.still
 have YX:=t.run
 have hk:uh (Pk P e.x.1.op)=true:=by rw[<-wB Gt];exact oU
 have hk:(Wa P ops e.x).kind=.eff:=by
  show Pk P e.x.1.op=.eff
  cases h:Pk P e.x.1.op<;>rw[h] at hk<;>first|rfl|cases hk
 have YX:SC dl (Wa P ops e.x) (VL dl fin (l.map λq=>Wa P ops q.x) c) c rs tm H x=.ok out S2 HO xO:=YX
 unfold SC at YX
 rw[hk] at YX
 have YX:cond (AI.still tm H rs) (NP (TL P ops e.x.1) tm (IN dl (Wa P ops e.x) (VL dl fin (l.map λq=>Wa P ops q.x) c) rs c tm x (Vh P e.x.1.op (RP tm (VM e.x.1)) H))
  (VL dl fin (l.map λq=>Wa P ops q.x) c (Uq (Wa P ops e.x).bef rs) (XR e.x.1.dst tm YS) H x)) .fail=X6.ok out S2 HO xO:=YX
 rw[Ut,<-Ga Gt,<-Fv Gt] at YX
 have YX:NP (TL P ops e.x.1) tm (IN dl (Wa P ops e.x) (VL dl fin (l.map λq=>Wa P ops q.x) c) rs c tm x (Vh P e.x.1.op (RP tm (VM e.x.1)) H))
  (VL dl fin (l.map λq=>Wa P ops q.x) c (Uq e.bef rs) (XR e.d tm YS) H x)=X6.ok out S2 HO xO:=YX
 have ho:ops[e.i]? =some e.x.1:=by
  obtain⟨⟨j,h3,h4⟩,_⟩:=S8 _ _ _ _ hq
  have:e.i=e.x.2.1:=by rw[Gt];rfl
  rw[this,h4,Zt,<-Yd]
  exact h3
 obtain⟨hNe,eG⟩:=hN _ (W0 ho)
 rw[<-Ga Gt] at hNe eG
 have Kd: ∀t∈Rd ops e.x.1,t<512->Ys σ (Su t tm) (a.tmps.getD t undef):=by
  rw[<-tC Gt]
  exact m.looks (m.before hq Gt hr) λt' ht p hp Dq=>.inl (t.pl.2.2.1 t' ht p hp Dq)
 have after: ∀(σ':Mp) (H':Zc) (w':World) (v:AV) (u:Value),Tr P σ H w σ' H' w'->Ys σ' v u->VL dl fin (l.map λq=>Wa P ops q.x) c (Uq e.bef rs) (XR e.d tm v) H' x=.ok out S2 HO xO->
   (xO=x∧Jk P N ds σ0 H0 w0 a0 (lone (b.atR (a.put e.d u) (.inRegion ops rest::k)) cs w') b k cs out S2 HO):=by
  intro σ' H' w' v u tr hv YX
  have m':=m.eff t.pl hq Gt hr eG hNe tr hv
  obtain⟨NT,rest',HQ,Yp,H2,A',h1,h2,h3,h4,h5,h6⟩:=MS.advance l (pre++[e]) _ _ _ _ m' t.pl.2.2.2.2 (λp h=>t.bs p (ZI _ h)) YX
  refine hgo NT rest' HQ Yp H2 A' σ' _ w' ⟨h3,h4,h2,h5,?_,h6⟩
  rw[<-h1,<-t.all];simp
 rcases GW YX (by simp) with⟨hw,Nk⟩|⟨hu,YX⟩
 ·have Dr:=hw.run (a:=a) (σ:=σ) Kd
  have rM:Rp P σ (RP tm (VM e.x.1)) a.eval:=Ht m.sim λt ht=>Kd t (NC ht) (OE ht)
  have OL:=N1 m.sim rM e.x.1
  unfold Xm at OL
  have Ke:=Kw (P:=P) (o:=e.x.1) (tm:=RP tm (VM e.x.1)) (H:=H)
  have hcc:=hc.tr m.full
  have pan: ∀(σ':Mp) (H':Zc) (w':World) (v:AV) (u:Value),Tr P σ H w σ' H' w'->Ys σ' v u->ZgU dl v tm H' x=.ok out S2 HO xO->
    Steps P (lone (b.atR a (.inRegion ops (e.i::rest)::k)) cs w) (lone {b.atR a (.inRegion ops (e.i::rest)::k) with mode:=.panicking [{v:=u,recovered:=false}]} cs w')->
    (xO=x∧Jk P N ds σ0 H0 w0 a0 (lone (b.atR a (.inRegion ops (e.i::rest)::k)) cs w) b k cs out S2 HO):=by
   intro σ' H' w' v u tr hv he hs
   have he:X6.ok (.pan v) (QA tm dl) H' x=.ok out S2 HO xO:=he
   cases he
   exact⟨rfl,σ',a,w',m.full.trans tr,(t.trelD hdl).mono tr.ext,m.defers,m.old,_,u,hv,hs⟩
  have cro: ∀(r:CR),Lq P σ H w r ((execOp a.eval e.x.1).run P w)->(∀c,e.x.1.op≠.defer c)->C8 dl (Wa P ops e.x) (VL dl fin (l.map λq=>Wa P ops q.x) c) rs tm x r=.ok out S2 HO xO->
    (xO=x∧Jk P N ds σ0 H0 w0 a0 (lone (b.atR a (.inRegion ops (e.i::rest)::k)) cs w) b k cs out S2 HO):=by
   intro r Kg Ke he
   cases r with
   |fail=>cases he
   |ret v H1=>
    have he:VL dl fin (l.map λq=>Wa P ops q.x) c (Uq (Wa P ops e.x).bef rs) (XR e.x.1.dst tm v) H1 x=.ok out S2 HO xO:=he
    rw[<-Ga Gt,<-Fv Gt] at he
    rcases PT (b:=b) (k:=k) (cs:=cs) (rest:=rest) ho Dr Ke Kg with⟨u,w1,⟨σ1,h1,h2⟩,hs⟩|⟨u,w1,h1,_⟩
    ·rw[<-Ga Gt] at hs
     obtain⟨g1,g2⟩:=after σ1 H1 w1 v u h2 h1 he
     exact⟨g1,g2.of_steps hs⟩
    ·exact h1.elim
   |pan v H1=>
    rcases PT (b:=b) (k:=k) (cs:=cs) (rest:=rest) ho Dr Ke Kg with⟨u,w1,h1,_⟩|⟨u,w1,⟨σ1,h1,h2⟩,hs⟩
    ·exact h1.elim
    ·exact pan σ1 H1 w1 v u h2 h1 he hs
  generalize o7:Vh P e.x.1.op (RP tm (VM e.x.1)) H=r at Nk OL Ke
  cases r with
  |val v H1=>
   obtain⟨σ1,w1,u,eX,U5,t1⟩:=OL
   have hs:=Qr (b:=b) (k:=k) (cs:=cs) (rest:=rest) ho Dr (Ke (λ_ _ h=>by cases h) (λh=>by cases h)) eX
   have YX:VL dl fin (l.map λq=>Wa P ops q.x) c (Uq (Wa P ops e.x).bef rs) (XR e.x.1.dst tm v) H1 x=.ok out S2 HO xO:=Nk
   rw[<-Ga Gt,<-Fv Gt] at YX
   rw[<-Ga Gt] at hs
   obtain⟨g1,g2⟩:=after σ1 H1 w1 v u t1 U5 YX
   exact⟨g1,g2.of_steps hs⟩
  |oth q=>
   cases q with
   |fail=>cases Nk
   |recov=>cases Nk
   |defer f ar=>cases Nk
   |call f ar H1=>
    obtain⟨rfl,vs,xA,eX⟩:=OL
    refine cro _ ?_ (Ke (λ_ _ h=>by cases h) (λh=>by cases h)) Nk
    rw[eX]
    exact hc.call f ar H1 σ w vs m.sim xA
   |yield bk ar H1=>
    obtain⟨rfl,ll,vs,hl,xA,eX⟩:=OL
    refine cro _ ?_ (Ke (λ_ _ h=>by cases h) (λh=>by cases h)) Nk
    rw[eX]
    exact hcc.yld bk ar H1 σ w ll vs (Tr.refl m.sim) hl xA
   |pan v H1=>
    obtain⟨rfl,u,hu,eX⟩:=OL
    have hE:Ends P (λ_ _=>False) (λy w2=>y=u∧w2=w) ((execOp a.eval e.x.1).run P w):=by rw[eX];exact⟨rfl,rfl⟩
    rcases PT (b:=b) (k:=k) (cs:=cs) (rest:=rest) ho Dr (Ke (λ_ _ h=>by cases h) (λh=>by cases h)) hE with⟨_,_,h,_⟩|⟨u',w',⟨rfl,rfl⟩,hs⟩
    ·exact h.elim
    ·exact pan σ H1 _ v _ (Tr.refl m.sim) hu Nk hs
 ·have hun:=hu.run (a:=a) (σ:=σ) Kd
  have hs:=stepR_op_skip (P:=P) (b:=b) (a:=a) (k:=k) (cs:=cs) (w:=w) (ops:=ops) (i:=e.i) (rest:=rest) (by rw[ho];exact hun)
  have hs:step P (lone (b.atR a (.inRegion ops (e.i::rest)::k)) cs w)=.next (lone (b.atR (a.put e.d undef) (.inRegion ops rest::k)) cs w):=by
   rw[ho] at hs;rw[Ga Gt];exact hs
  obtain⟨g1,g2⟩:=after σ H w YS undef (Tr.refl m.sim) Fj YX
  exact⟨g1,g2.of_steps (.one hs)⟩
theorem At.next{dl:List ZP}{fin:PK}{c:Ctx}{x:X}{L:List SI}{out:Out}{S2:TM}{HO:Zc}{xO:X}{pre rest:List SI}{rs:List RD}{tm:TM}{H:Zc}{A:Nat->Option Nat}{σ:Mp}{a:Act}{w:World}{listed:Array Bool}
  (t:At P ops N ds σ0 H0 w0 a0 dl fin c x L out S2 HO xO pre rest rs tm H A σ a w listed){q:SI}(hq:q∈rest)(hr:q.i∈Region.ready .any ops listed): ∃l,rest=q::l∧q.eff=true:=by
 rcases t.hd with e|⟨e,l,he,oU⟩
 ·rw[e] at hq;cases hq
 ·subst he
  rcases Ya.1 hq with rfl|hq'
  ·exact⟨l,rfl,oU⟩
  ·exfalso
   obtain⟨h1,h2⟩:=t.bs q hq
   have h3:=t.m.before h1 h2 hr e.i (t.pl.1 oU q hq')
   obtain⟨p,hp,h4⟩:=t.m.sub _ h3
   exact t.pl.2.2.2.1 p hp h4
theorem tc(fuel t:Nat)(listed:Array Bool):Region.linearise.go .any ops (fuel+1) t listed []=
  match(Region.ready .any ops listed)[t % (Region.ready .any ops listed).length]? with
   |some i=>i::Region.linearise.go .any ops fuel (t/(Region.ready .any ops listed).length) (listed.setIfInBounds i true) []
   |none=>[]:=by
 simp only[Region.linearise.go]
 change (match(Region.ready .any ops listed)[t % (Region.ready .any ops listed).length]? with
   |some i=>Region.linearise.go .any ops fuel (t/(Region.ready .any ops listed).length) (listed.setIfInBounds i true) [i]
   |none=>[].reverse)=_
 cases(Region.ready .any ops listed)[t % (Region.ready .any ops listed).length]? with
 |none=>rfl
 |some i=>simp only[];rw[linearise_go_acc];rfl
theorem yc{t:Nat}{l:List Nat}(h:l[t % l.length]? =none):l=[]:=by
 cases l with
 |nil=>rfl
 |cons x xs=>
  have Y6:t % (x::xs).length<(x::xs).length:=W1 _ (by simp)
  rw[List.getElem?_eq_none_iff] at h
  omega
theorem tp(hE:hJ ops)(hN: ∀o∈ops,CX N o.dst=true∧ ∀t,o.dst=some t->t∈ds){dl:List ZP}{c:Ctx}{x:X}{L:List SI}{out:Out}{S2:TM}{HO:Zc}{xO:X}(hdl:dl=L.map λq=>XR q.d)
  (MR: ∀j,j<ops.size-> ∃q∈L,q.i=j){b:Frame}(hc:OQ P c b σ0 H0 w0)(k:List Item)(cs:List Frame): ∀(fuel t:Nat) (pre rest:List SI) (rs:List RD) (tm:TM) (H:Zc) (A:Nat->Option Nat) (σ:Mp) (a:Act) (w:World) (listed:Array Bool),
  At P ops N ds σ0 H0 w0 a0 dl Kv c x L out S2 HO xO pre rest rs tm H A σ a w listed->sq listed ops.size<=fuel->
  xO=x∧Jk P N ds σ0 H0 w0 a0 (lone (b.atR a (.inRegion ops (Region.linearise.go .any ops fuel t listed [])::k)) cs w) b k cs out S2 HO:=by
 have fin: ∀(pre rest:List SI) (rs:List RD) (tm:TM) (H:Zc) (A:Nat->Option Nat) (σ:Mp) (a:Act) (w:World) (listed:Array Bool),
   At P ops N ds σ0 H0 w0 a0 dl Kv c x L out S2 HO xO pre rest rs tm H A σ a w listed->(∀j,j<ops.size->Ls listed j)->
   xO=x∧Jk P N ds σ0 H0 w0 a0 (lone (b.atR a (.inRegion ops []::k)) cs w) b k cs out S2 HO:=by
  intro pre rest rs tm H A σ a w listed t hl
  have eU:rest=[]:=by
   rcases t.hd with e|⟨e,l,he,_⟩
   ·exact e
   ·exfalso
    subst he
    obtain⟨h1,h2⟩:=t.bs e (Zx ..)
    have Y6:e.i<ops.size:=by
     obtain⟨⟨j,h3,h4⟩,_⟩:=S8 _ _ _ _ h1
     have:e.i=e.x.2.1:=by rw[h2];rfl
     rw[this,h4,Zt]
     rw[Yd] at h3
     exact(ZW.1 h3).1
    obtain⟨p,hp,h4⟩:=t.m.sub _ (hl e.i Y6)
    exact t.pl.2.2.2.1 p hp h4
  have YX:=t.run
  have Ut:=t.still
  subst eU
  have YX:cond (still tm H rs) (X6.ok .normal tm H x) .fail=.ok out S2 HO xO:=YX
  rw[Ut] at YX
  cases YX
  refine⟨rfl,σ,a,w,t.m.full,t.trel λq hq=>?_,t.m.defers,t.m.old,.one stepR_region_end⟩
  exact hl q.i (ZW.1 (t.m.oper hq)).1
 intro fuel
 induction fuel with
 |zero=>
  intro t pre rest rs tm H A σ a w listed Q2 hu
  exact fin pre rest rs tm H A σ a w listed Q2 (BQ (by omega))
 |succ fuel ih=>
  intro t pre rest rs tm H A σ a w listed Q2 hu
  rw[tc]
  cases hi:(Region.ready .any ops listed)[t % (Region.ready .any ops listed).length]? with
  |none=>exact fin pre rest rs tm H A σ a w listed Q2 (DM hE Q2.m.size (yc hi))
  |some i=>
   have hr:i∈Region.ready .any ops listed:=V2 hi
   obtain⟨G0,rK⟩:=Fp hr Q2.m.size
   have dj:sq (listed.setIfInBounds i true) ops.size<=fuel:=by
    have:=(DF (by rw[Q2.m.size];exact G0) rK ops.size).1 G0
    omega
   obtain⟨q,hq,hqi⟩:=MR i G0
   subst hqi
   rw[<-Q2.all] at hq
   rcases Zs.1 hq with hq|hq
   ·have ho:=Q2.m.oper hq
    obtain⟨h1,h2⟩:=hN _ (W0 ho)
    rw[<-Ga (Q2.m.bs q hq).2] at h1 h2
    obtain⟨σ2,a2,w2,m2,hs⟩:=Q2.m.late Q2.still hq rK hr h2 h1 b k cs (Region.linearise.go .any ops fuel (t/(Region.ready .any ops listed).length) (listed.setIfInBounds q.i true) [])
    obtain⟨g1,g2⟩:=ih (t/(Region.ready .any ops listed).length) pre rest rs tm H A σ2 a2 w2 _ ⟨m2,Q2.pl,Q2.hd,Q2.bs,Q2.all,Q2.run⟩ dj
    exact⟨g1,g2.of_steps hs⟩
   ·obtain⟨l,rfl,oU⟩:=Q2.next hq hr
    exact Q2.eff hN hdl hc oU hr k cs _ λNT rest' HQ Yp H' A' σ' a' w' ZfU=>ih _ NT rest' HQ Yp H' A' σ' a' w' _ ZfU dj
end
section
variable {P:Program} {ops:Array Oper} {N:Nat} {ds:List Nat} {σ0:Mp} {H0:Zc} {w0:World} {a0:Act}
theorem OC: ∀{l1 pre l2:List SI},TU pre (l1++l2)->TU (pre++l1) l2
 |[],pre,l2,h=>by simpa using h
 |q::l1,pre,l2,h=>by
  have:=OC (l1:=l1) (pre:=pre++[q]) h.2.2.2.2
  simpa using this
theorem Ev: ∀{l1 pre l2:List SI},TU pre (l1++l2)->TU pre l1
 |[],_,_,_=>trivial
 |q::l1,pre,l2,h=>⟨λhe r hr=>h.1 he r (Zs.2 (.inl hr)),h.2.1,h.2.2.1,h.2.2.2.1,Ev h.2.2.2.2⟩
theorem Tr.congr{σ σ':Mp}{H H' H'':Zc}{w w':World}(t:Tr P σ H w σ' H' w')(hg: ∀b,H''.t.get b=H'.t.get b)(hn:H''.nx=H'.nx)(hr:H''.ro=H'.ro):Tr P σ H w σ' H'' w':=by
 have hw: ∀b,Wr H'' b->Wr H' b:=λb ⟨h1,o,h2,h3⟩=>⟨by rw[<-hr];exact h1,o,by rw[<-hg];exact h2,h3⟩
 exact⟨t.ext,⟨λb l h=>by rw[hn];exact t.sim.dom b l h,λb o h=>by rw[hn];exact t.sim.low b o (by rw[<-hg];exact h),λb o l h=>t.sim.alive b o l (by rw[<-hg];exact h),
  λb b' o o' l l' h h'=>t.sim.inj b b' o o' l l' (by rw[<-hg];exact h) (by rw[<-hg];exact h'),t.sim.glob,by rw[hn,hr];exact t.sim.ro⟩,t.size,t.frame,λb l h=>t.wr b l (hw b h),
  by rw[hn];exact t.nx,by rw[hr];exact t.ro,λb hb=>by rw[hg];exact t.low b hb,t.tape,t.os,t.out,λb hb h=>by rw[hg];exact t.pend b hb h⟩
theorem Jk.congr{m:Machine}{b:Frame}{k:List Item}{cs:List Frame}{out:Out}{S2:TM}{HO H':Zc}(d:Jk P N ds σ0 H0 w0 a0 m b k cs out S2 HO)(hg: ∀b,H'.t.get b=HO.t.get b)(hn:H'.nx=HO.nx)(hr:H'.ro=HO.ro):
  Jk P N ds σ0 H0 w0 a0 m b k cs out S2 H':=by
 obtain⟨σ',a',w',h1,h⟩:=d
 exact⟨σ',a',w',h1.congr hg hn hr,h⟩
theorem Ro{o:Oper}{e:Yc}(h:Rn P o=some e):o.dst=none∧o.guard=none∧Pk P o.op=.eff∧
  ∀tm H v H',Vh P o.op tm H=.val v H'-> ∃b i ob,e tm=.ptr b i∧H'=H.put b ob∧ ∀H2,H2.t.get b=H.t.get b->H2.ro=H.ro->Vh P o.op tm H2=.val v (H2.put b ob):=by
 unfold Rn at h
 split at h
 ·rename_i t a x sD hg hd
  cases h
  refine⟨hd,hg,by rw[sD];rfl,λtm H v H' he=>?_⟩
  rw[sD] at he ⊢
  simp only[Vh,UV] at he ⊢
  cases hi:P.info? t with
  |none=>rw[hi] at he;cases he
  |some i=>
   rw[hi] at he
   simp only[Yi,QO] at he ⊢
   cases hp:YN P a tm with
   |ptr b j=>
    rw[hp] at he
    simp only[Y3] at he ⊢
    cases hb:H.t.get b with
    |none=>rw[hb] at he;cases he
    |some ob=>
     rw[hb] at he
     cases ob with
     |row r=>
      simp only[ZL] at he ⊢
      cases c1:Nat.ble 1 i.size with
      |false=>rw[c1] at he;cases he
      |true=>
      rw[c1] at he
      cases c2:H.may r b with
      |false=>rw[c2] at he;cases he
      |true=>
      rw[c2] at he
      cases c3:Nat.ble (Nat.add j i.size) r.size with
      |false=>rw[c3] at he;cases he
      |true=>
      rw[c3] at he
      cases c4:Nat.ble r.fz j with
      |false=>rw[c4] at he;cases he
      |true=>
      rw[c4] at he
      cases c5:Nat.beq (YH (YN P x tm).cells) i.size with
      |false=>rw[c5] at he;cases he
      |true=>
      rw[c5] at he
      cases he
      refine⟨b,j,_,rfl,rfl,λH2 hg2 o7=>?_⟩
      have c2':H2.may r b=true:=by unfold Zc.may at c2 ⊢;rw[o7];exact c2
      simp only[hg2,hb,c2',c3,c4,cond_true]
     |_=>cases he
   |_=>rw[hp] at he;cases he
 ·cases h
theorem nG{l:List RD}{r s:X6}(h:kM l r=s)(hs:s≠.fail):l=[]∧r=s:=by
 cases l with
 |nil=>exact⟨rfl,h⟩
 |cons a l=>exact absurd h.symm hs
theorem tX{o:Oper}{e:Yc}(h:Rn P o=some e){q:SI}(hq:q=Oj P ops q.x)(hqo:q.x.1=o){dl:List ZP}{nx:PK}{c:Ctx}{rs:List RD}{tm:TM}{H:Zc}{x:X}{v:AV}{H':Zc}
  (Ut:still tm H rs=true)(hf:Vh P o.op (RP tm (VM o)) H=.val v H'):SC dl (Wa P ops q.x) nx c rs tm H x=nx (Uq q.bef rs) tm H' x:=by
 obtain⟨h1,h2,h3,_⟩:=Ro h
 have hk:(Wa P ops q.x).kind=.eff:=by show Pk P q.x.1.op=_;rw[hqo];exact h3
 unfold SC
 rw[hk]
 show cond (still tm H rs) (NP (TL P ops q.x.1) tm (IN dl (Wa P ops q.x) nx rs c tm x (Vh P q.x.1.op (RP tm (VM q.x.1)) H)) _) .fail=_
 have hg:TL P ops q.x.1=none:=by unfold TL;rw[hqo,h2]
 rw[Ut,hg,hqo,hf]
 show nx (Uq (Wa P ops q.x).bef rs) (XR q.x.1.dst tm v) H' x=_
 rw[hqo,h1,<-Fv hq]
 rfl
theorem C1(hE:hJ ops)(hN: ∀o∈ops,CX N o.dst=true∧ ∀t,o.dst=some t->t∈ds){c:Ctx}{x:X}{L:List SI}{s1 s2:SI}{e1 e2:Yc}
  (Am:Rn P s1.x.1=some e1)(LD:Rn P s2.x.1=some e2)(Q3:s1.x∈BS ops∧s1=Oj P ops s1.x)(QY:s2.x∈BS ops∧s2=Oj P ops s2.x)(h12:s1.i≠s2.i)
  (hp1:TU L [s1])(Ak:TU L [s2])(MR: ∀j,j<ops.size->(∃q∈L,q.i=j)∨j=s1.i∨j=s2.i)
  {b:Frame}(hc:OQ P c b σ0 H0 w0)(k:List Item)(cs:List Frame){fuel t:Nat}{rs:List RD}{tm:TM}{H:Zc}{A:Nat->Option Nat}{σ:Mp}{a:Act}{w:World}{listed:Array Bool}
  (m:MS P ops N ds σ0 H0 w0 L rs tm H A σ a0 a w listed)(Ut:still tm H rs=true)(hr:s1.i∈Region.ready .any ops listed)(hu:sq listed ops.size<=fuel+1)
  {v1 v2:AV}{H1 H2:Zc}(hf1:Vh P s1.x.1.op (RP tm (VM s1.x.1)) H=.val v1 H1)(hf2:Vh P s2.x.1.op (RP tm (VM s2.x.1)) H1=.val v2 H2)(hk1:Uq s1.bef rs=[]):
  Jk P N ds σ0 H0 w0 a0 (lone (b.atR a (.inRegion ops (s1.i::Region.linearise.go .any ops fuel t (listed.setIfInBounds s1.i true) [])::k)) cs w) b k cs .normal tm H2:=by
 obtain⟨G0,rK⟩:=Fp hr m.size
 have dj:sq (listed.setIfInBounds s1.i true) ops.size<=fuel:=by
  have:=(DF (by rw[m.size];exact G0) rK ops.size).1 G0
  omega
 let L2:List SI:=(L++[s1])++[s2]
 let dl2:List ZP:=L2.map λq=>XR q.d
 have ZnJ:s2.eff=true:=by rw[wB QY.2,(Ro LD).2.2.1];rfl
 have hd1:s1.d=none:=by rw[Ga Q3.2];exact(Ro Am).1
 have iX:s2.d=none:=by rw[Ga QY.2];exact(Ro LD).1
 have Zo6:VL dl2 Kv [Wa P ops s2.x] c [] tm H1 x=.ok .normal tm H2 x:=by
  show SC dl2 (Wa P ops s2.x) (VL dl2 Kv [] c) c [] tm H1 x=_
  rw[tX LD QY.2 rfl rfl hf2]
  rfl
 have ho:ops[s1.i]? =some s1.x.1:=by
  obtain⟨⟨j,h3,h4⟩,_⟩:=S8 _ _ _ _ Q3.1
  have:s1.i=s1.x.2.1:=by have:=Q3.2;rw[this];rfl
  rw[this,h4,Zt,<-Yd]
  exact h3
 obtain⟨hNe,eG⟩:=hN _ (W0 ho)
 rw[<-Ga Q3.2] at hNe eG
 have Kd: ∀t∈Rd ops s1.x.1,t<512->Ys σ (Su t tm) (a.tmps.getD t undef):=by
  rw[<-tC Q3.2]
  exact m.looks (m.before Q3.1 Q3.2 hr) λt' ht p hp Dq=>.inl (hp1.2.2.1 t' ht p hp Dq)
 have Dr:Region.wanted s1.x.1 (yielded ops a.tmps)=true:=by unfold Region.wanted;rw[(Ro Am).2.1]
 have rM:Rp P σ (RP tm (VM s1.x.1)) a.eval:=Ht m.sim λt ht=>Kd t (NC ht) (OE ht)
 have OL:=N1 m.sim rM s1.x.1
 unfold Xm at OL
 rw[hf1] at OL
 obtain⟨σ1,w1,u,eX,U5,t1⟩:=OL
 have hs:=Qr (b:=b) (k:=k) (cs:=cs) (rest:=Region.linearise.go .any ops fuel t (listed.setIfInBounds s1.i true) []) ho Dr (Lc hf1) eX
 have m':=m.eff hp1 Q3.1 Q3.2 hr eG hNe t1 U5
 rw[hk1,hd1] at m'
 have htm:XR none tm v1=tm:=rfl
 rw[htm] at m'
 have Zol:TU (L++[s1]) [s2]:=by
  refine⟨λ_ r hr=>(by cases hr),.inl (λt ht=>by rw[iX] at ht;cases ht),λt ht p hp Dq=>?_,λp hp=>?_,trivial⟩
  ·rcases Zs.1 hp with hp|hp
   ·exact Ak.2.2.1 t ht p hp Dq
   ·obtain rfl:p=s1:=by simpa using hp
    rw[hd1] at Dq;cases Dq
  ·rcases Zs.1 hp with hp|hp
   ·exact Ak.2.2.2.1 p hp
   ·obtain rfl:p=s1:=by simpa using hp
    exact h12
 have Q2:At P ops N ds σ0 H0 w0 a0 dl2 Kv c x L2 .normal tm H2 x (L++[s1]) [s2] [] tm H1 A σ1 (a.put none u) w1 (listed.setIfInBounds s1.i true):=
  ⟨m',Zol,.inr ⟨s2,[],rfl,ZnJ⟩,λq hq=>(by have e:q=s2:=(by simpa using hq);rw[e];exact QY),rfl,Zo6⟩
 obtain⟨_,g⟩:=tp hE hN (dl:=dl2) (L:=L2) rfl (λj hj=>by
  rcases MR j hj with⟨q,hq,e⟩|e|e
  ·exact⟨q,Zs.2 (.inl (Zs.2 (.inl hq))),e⟩
  ·exact⟨s1,Zs.2 (.inl (Zs.2 (.inr (by simp)))),e.symm⟩
  ·exact⟨s2,Zs.2 (.inr (by simp)),e.symm⟩) hc k cs fuel t _ _ _ _ _ _ _ _ _ _ Q2 dj
 refine g.of_steps ?_
 have:s1.x.1.dst=none:=(Ro Am).1
 rw[this] at hs
 exact hs
theorem gj{u v:AV}{r s:X6}(h:apart u v r=s)(hs:s≠.fail): ∃b i b' i',u=.ptr b i∧v=.ptr b' i'∧b≠b'∧r=s:=by
 unfold apart at h
 split at h
 ·rename_i b i b' i'
  cases e:Nat.beq b b' with
  |true=>rw[e] at h;exact absurd h.symm hs
  |false=>
   rw[e] at h
   refine⟨b,i,b',i',rfl,rfl,λe'=>?_,h⟩
   subst e'
   rw[Yb] at e;cases e
 ·exact absurd h.symm hs
theorem bf{r:OR}{k:Zc->X6}{s:X6}(h:onV r k=s)(hs:s≠.fail): ∃v H',r=.val v H'∧k H'=s:=by
 cases r with
 |val v H'=>exact⟨v,H',rfl,h⟩
 |oth q=>exact absurd h.symm hs
theorem ac(hE:hJ ops)(hN: ∀o∈ops,CX N o.dst=true∧ ∀t,o.dst=some t->t∈ds){dl:List ZP}{c:Ctx}{x:X}{L:List SI}{s1 s2:SI}{e1 e2:Yc}{out:Out}{S2:TM}{HO:Zc}{xO:X}(hdl:dl=L.map λq=>XR q.d)
  (Am:Rn P s1.x.1=some e1)(LD:Rn P s2.x.1=some e2)(Q3:s1.x∈BS ops∧s1=Oj P ops s1.x)(QY:s2.x∈BS ops∧s2=Oj P ops s2.x)(h12:s1.i≠s2.i)
  (hp1:TU [] (L++[s1]))(Ak:TU [] (L++[s2]))(MR: ∀j,j<ops.size->(∃q∈L,q.i=j)∨j=s1.i∨j=s2.i)
  {b:Frame}(hc:OQ P c b σ0 H0 w0)(k:List Item)(cs:List Frame): ∀(fuel t:Nat) (pre rest:List SI) (rs:List RD) (tm:TM) (H:Zc) (A:Nat->Option Nat) (σ:Mp) (a:Act) (w:World) (listed:Array Bool),
  At P ops N ds σ0 H0 w0 a0 dl (JK (Wa P ops s1.x) (Wa P ops s2.x) e1 e2) c x L out S2 HO xO pre rest rs tm H A σ a w listed->sq listed ops.size<=fuel->
  xO=x∧Jk P N ds σ0 H0 w0 a0 (lone (b.atR a (.inRegion ops (Region.linearise.go .any ops fuel t listed [])::k)) cs w) b k cs out S2 HO:=by
 have last: ∀(s:SI),(s=s1∨s=s2)-> ∀(pre rest:List SI) (rs:List RD) (tm:TM) (H:Zc) (A:Nat->Option Nat) (σ:Mp) (a:Act) (w:World) (listed:Array Bool),
   At P ops N ds σ0 H0 w0 a0 dl (JK (Wa P ops s1.x) (Wa P ops s2.x) e1 e2) c x L out S2 HO xO pre rest rs tm H A σ a w listed->s.i∈Region.ready .any ops listed->rest=[]∧pre=L:=by
  intro s hs pre rest rs tm H A σ a w listed Q2 hr
  have eD:s.x∈BS ops∧s=Oj P ops s.x:=by rcases hs with rfl|rfl;exact Q3;exact QY
  have eR:TU [] (L++[s]):=by rcases hs with rfl|rfl;exact hp1;exact Ak
  have ZdY:=Q2.all
  rcases Q2.hd with e|⟨e,l,he,oU⟩
  ·subst e;exact⟨rfl,by simpa using ZdY⟩
  ·exfalso
   subst he
   rw[<-ZdY] at eR
   have h1:=OC (l1:=pre) (pre:=[]) (l2:=(e::l)++[s]) (by simpa using eR)
   have h2:Nat.testBit s.bef e.i=true:=h1.1 oU s (by simp)
   have h3:=Q2.m.before eD.1 eD.2 hr e.i h2
   obtain⟨p,hp,h4⟩:=Q2.m.sub _ h3
   exact Q2.pl.2.2.2.1 p hp h4
 have Zgb:TU L [s1]:=by simpa using OC (l1:=L) (pre:=[]) hp1
 have Zj1:TU L [s2]:=by simpa using OC (l1:=L) (pre:=[]) Ak
 have Zev: ∀(pre rest:List SI) (rs:List RD) (tm:TM) (H:Zc) (A:Nat->Option Nat) (σ:Mp) (a:Act) (w:World) (listed:Array Bool),
   At P ops N ds σ0 H0 w0 a0 dl (JK (Wa P ops s1.x) (Wa P ops s2.x) e1 e2) c x L out S2 HO xO pre rest rs tm H A σ a w listed-> ¬Ls listed s1.i:=by
  intro pre rest rs tm H A σ a w listed Q2 hl
  obtain⟨p,hp,e⟩:=Q2.m.sub _ hl
  exact Zgb.2.2.2.1 p (by rw[<-Q2.all];exact Zs.2 (.inl hp)) e
 have hi1:s1.i<ops.size:=by
  obtain⟨⟨j,h3,h4⟩,_⟩:=S8 _ _ _ _ Q3.1
  have:s1.i=s1.x.2.1:=by have:=Q3.2;rw[this];rfl
  rw[this,h4,Zt]
  rw[Yd] at h3
  exact(ZW.1 h3).1
 intro fuel
 induction fuel with
 |zero=>
  intro t pre rest rs tm H A σ a w listed Q2 hu
  exact absurd (BQ (by omega) s1.i hi1) (Zev pre rest rs tm H A σ a w listed Q2)
 |succ fuel ih=>
  intro t pre rest rs tm H A σ a w listed Q2 hu
  rw[tc]
  cases hi:(Region.ready .any ops listed)[t % (Region.ready .any ops listed).length]? with
  |none=>exact absurd (DM hE Q2.m.size (yc hi) s1.i hi1) (Zev pre rest rs tm H A σ a w listed Q2)
  |some i=>
   have hr:i∈Region.ready .any ops listed:=V2 hi
   obtain⟨G0,rK⟩:=Fp hr Q2.m.size
   have dj:sq (listed.setIfInBounds i true) ops.size<=fuel:=by
    have:=(DF (by rw[Q2.m.size];exact G0) rK ops.size).1 G0
    omega
   have ends: ∀s:SI,(s=s1∨s=s2)->s.i∈Region.ready .any ops listed->pre=L∧ ∃v1 H1 v2 H2,Uq s1.bef rs=[]∧Uq s2.bef rs=[]∧
     Vh P s1.x.1.op (RP tm (VM s1.x.1)) H=.val v1 H1∧Vh P s2.x.1.op (RP tm (VM s2.x.1)) H1=.val v2 H2∧
     (∃b i b' i',e1 (RP tm (VM s1.x.1))=.ptr b i∧e2 (RP tm (VM s2.x.1))=.ptr b' i'∧b≠b')∧out=.normal∧S2=tm∧HO=H2∧xO=x:=by
    intro s hs rQ
    obtain⟨rfl,hpre⟩:=last s hs pre rest rs tm H A σ a w listed Q2 rQ
    have YX:=Q2.run
    have Ut:=Q2.still
    have YX:cond (still tm H rs) (JK (Wa P ops s1.x) (Wa P ops s2.x) e1 e2 rs tm H x) .fail=.ok out S2 HO xO:=YX
    rw[Ut] at YX
    have YX:JK (Wa P ops s1.x) (Wa P ops s2.x) e1 e2 rs tm H x=.ok out S2 HO xO:=YX
    unfold JK at YX
    obtain⟨k1,YX⟩:=nG YX (by simp)
    obtain⟨k2,YX⟩:=nG YX (by simp)
    obtain⟨b1,i1,b2,i2,g1,g2,g3,YX⟩:=gj YX (by simp)
    obtain⟨v1,H1,f1,YX⟩:=bf YX (by simp)
    obtain⟨v2,H2,f2,YX⟩:=bf YX (by simp)
    cases YX
    rw[<-Fv Q3.2] at k1
    rw[<-Fv QY.2] at k2
    exact⟨hpre,v1,H1,v2,HO,k1,k2,f1,f2,⟨b1,i1,b2,i2,g1,g2,g3⟩,rfl,rfl,rfl,rfl⟩
   rcases MR i G0 with⟨q,hq,hqi⟩|e|e
   ·subst hqi
    rw[<-Q2.all] at hq
    rcases Zs.1 hq with hq|hq
    ·have ho:=Q2.m.oper hq
     obtain⟨h1,h2⟩:=hN _ (W0 ho)
     rw[<-Ga (Q2.m.bs q hq).2] at h1 h2
     obtain⟨σ2,a2,w2,m2,hs⟩:=Q2.m.late Q2.still hq rK hr h2 h1 b k cs (Region.linearise.go .any ops fuel (t/(Region.ready .any ops listed).length) (listed.setIfInBounds q.i true) [])
     obtain⟨g1,g2⟩:=ih (t/(Region.ready .any ops listed).length) pre rest rs tm H A σ2 a2 w2 _ ⟨m2,Q2.pl,Q2.hd,Q2.bs,Q2.all,Q2.run⟩ dj
     exact⟨g1,g2.of_steps hs⟩
    ·obtain⟨l,rfl,oU⟩:=Q2.next hq hr
     exact Q2.eff hN hdl hc oU hr k cs _ λNT rest' HQ Yp H' A' σ' a' w' ZfU=>ih _ NT rest' HQ Yp H' A' σ' a' w' _ ZfU dj
   ·subst e
    obtain⟨rfl,v1,H1,v2,H2,k1,k2,f1,f2,_,rfl,rfl,rfl,rfl⟩:=ends s1 (.inl rfl) hr
    exact⟨rfl,C1 (x:=by assumption) hE hN Am LD Q3 QY h12 Zgb Zj1 MR hc k cs Q2.m Q2.still hr hu f1 f2 k1⟩
   ·subst e
    obtain⟨rfl,v1,H1,v2,H2,k1,k2,f1,f2,⟨b1,i1,b2,i2,g1,g2,g3⟩,rfl,rfl,rfl,rfl⟩:=ends s2 (.inr rfl) hr
    obtain⟨c1,j1,o1,q1,rfl,q3⟩:=(Ro Am).2.2.2 _ _ _ _ f1
    obtain⟨c2,j2,o2,q4,rfl,q6⟩:=(Ro LD).2.2.2 _ _ _ _ f2
    rw[g1] at q1;cases q1
    rw[g2] at q4;cases q4
    have f2':=q6 H (by rw[Zc.get_put,if_neg g3]) rfl
    have f1':=q3 (H.put b2 o2) (by rw[Zc.get_put,if_neg λe=>g3 e.symm]) rfl
    refine⟨rfl,(C1 (x:=by assumption) hE hN LD Am QY Q3 (λe=>h12 e.symm) Zj1 Zgb (λj hj=>?_) hc k cs Q2.m Q2.still hr hu f2' f1' k2).congr (λy=>?_) rfl rfl⟩
    ·rcases MR j hj with h|h|h
     ·exact .inl h
     ·exact .inr (.inr h)
     ·exact .inr (.inl h)
    ·rw[Zc.get_put,Zc.get_put,Zc.get_put,Zc.get_put]
     by_cases h1:b2=y<;>by_cases h2:b1=y
     ·exact absurd (h2.trans h1.symm) g3
     ·simp only[if_pos h1,if_neg h2]
     ·simp only[if_neg h1,if_pos h2]
     ·simp only[if_neg h1,if_neg h2]
end
section
variable {P:Program} {N:Nat}
theorem ZaT{ops:Array Oper}(h:(ops.toList.zipIdx.all λx=>xh x.2 x.1)=true):hJ ops:=by
 intro j o ho e he hb
 have h1:=Y7.1 h (o,j) (by rw[List.mk_mem_zipIdx_iff_getElem?,Yd];exact ho)
 have h2:=Y7.1 h1 e (Xn.2 he)
 rw[hb] at h2
 exact ZN h2
theorem DL{n i:Nat}:Nat.testBit (Nat.sub (bit n) 1) i=true↔i<n:=by
 have:Nat.testBit (2^n - 1) i=decide (i<n):=Nat.testBit_two_pow_sub_one n i
 show Nat.testBit (2^n - 1) i=true↔_
 rw[this];simp
theorem BY{l:List SI}{q:SI}(hq:q∈l){t:Nat}(ht:q.d=some t):(t,q.i)∈QX l:=by
 unfold QX
 exact Ta.2 ⟨q,hq,by rw[ht]⟩
theorem qm{ops:Array Oper}{q:SI}(h:q∈CI P ops):q.x∈BS ops∧q=Oj P ops q.x:=by
 have h:=J5 _ _ _ q h
 obtain⟨x,hx,rfl⟩:=YV.1 h
 exact⟨hx,rfl⟩
theorem Zh6{ops:Array Oper}{q:SI}(h:q.x∈BS ops∧q=Oj P ops q.x):q.i<ops.size:=by
 obtain⟨⟨j,h3,h4⟩,_⟩:=S8 _ _ _ _ h.1
 have:q.i=q.x.2.1:=by have:=h.2;rw[this];rfl
 rw[this,h4,Zt]
 rw[Yd] at h3
 exact(ZW.1 h3).1
theorem dX{ops:Array Oper}{ds:List Nat}{σ:Mp}{b:Frame}{K:Bool->List Frame}{lo:Nat}{tm:TM}{H:Zc}{x:X}{a:Act}{w:World}(hs:St P σ b K N lo tm H x a w):
  MS P ops N ds σ H w [] [] tm H (λ_=>none) σ a a w (Array.replicate ops.size false):=by
 have hl: ∀j,¬Ls (Array.replicate ops.size false) j:=by
  intro j h
  unfold Ls at h
  rw[Z0] at h
  by_cases e:j<ops.size
  ·simp[e] at h
  ·simp[e] at h
 refine⟨by simp,λj h=>absurd h (hl j),λq h=>(by cases h),λx _ h=>absurd h (hl _),λq h=>(by cases h),λq h=>(by cases h),λq h=>(by cases h),λq h=>(by cases h),?_,hs.sim,yS.refl σ H w,λ_ _ h=>⟨rfl,h⟩,hs.tm.size,λn hn=>.inr (hs.tm.get n hn),λ_ _=>rfl,rfl,λq h=>(by cases h),λi j n h=>(by cases h),λi n h=>(by cases h)⟩
 refine Nat.le_of_not_lt λh=>?_
 obtain⟨l,h1,_⟩:=hs.sim.glob H.nx h
 have:=hs.sim.dom _ _ h1
 omega
theorem St.drew{σ:Mp}{b:Frame}{K:Bool->List Frame}{lo:Nat}{tm:TM}{H:Zc}{x:X}{a:Act}{w:World}(hs:St P σ b K N lo tm H x a w):St P σ b K N lo tm H x a w.drew:=
 hs.step (Tr.drew hs.sim) hs.tm rfl
theorem JM{ops:Array Oper}{id:Nat}{d:D}{ds:List Nat}(hm:P.follows .mixedOrders=true)
  (h: ∀(c:Ctx) (b:Frame) (σ:Mp) (tm:TM) (H:Zc) (x:X) (a:Act) (w:World) (k:List Item) (cs:List Frame) (t:Nat) (out:Out) (S2:TM) (HO:Zc) (xO:X),OQ P c b σ H w->
   MS P ops N ds σ H w [] [] tm H (λ_=>none) σ a a w (Array.replicate ops.size false)->d c tm H x=.ok out S2 HO xO->
   xO=x∧Jk P N ds σ H w a (lone (b.atR a (.inRegion ops (Region.linearise.go .any ops ops.size t (Array.replicate ops.size false) [])::k)) cs w) b k cs out S2 HO):
  WH P N d [.code (.region id ops true)] ds:=by
 intro c b K lo σ tm H x a w k o Yp H' x' hc hs he
 have td:=Tr.drew (P:=P) hs.sim
 obtain⟨rfl,σ',a',w',t1,h2,h3,h4,h5⟩:=h c b σ tm H x a w.drew k (K x.rc.isSome) (w.tape w.drawn (.order b.fn id)) o Yp H' x' (hc.tr td) (dX hs.drew) he
 refine⟨σ',a',w',td.trans t1,hs.step (td.trans t1) h2 h3,h4,.of_steps (.one ?_) h5⟩
 have:=stepR_region_draw (P:=P) (b:=b) (a:=a) (k:=k) (cs:=K x'.rc.isSome) (w:=w) (ops:=ops) (id:=id)
 simp only[Region.schedule,hm,UO,if_true] at this
 exact this
theorem yG(ops:Array Oper):sq (Array.replicate ops.size false) ops.size<=ops.size:=by
 have: ∀(l:Array Bool) n,sq l n<=n:=by
  intro l n
  induction n with
  |zero=>exact Zj _
  |succ n ih=>unfold sq;split<;>omega
 exact this _ _
theorem sk(ops:Array Oper)(l:List SI)(h: ∀q∈l,q=Oj P ops q.x):(l.map λq=>Wa P ops q.x).map (·.dst)=l.map λq=>XR q.d:=by
 rw[UP]
 refine V1 λq hq=>?_
 show XR q.x.1.dst=XR q.d
 rw[Ga (h q hq)]
theorem tH(hm:P.follows .mixedOrders=true){id:Nat}{ops:Array Oper}(hN:ops.toList.all (λo=>CX N o.dst)=true):WH P N (pe P ops) [.code (.region id ops true)] (ops.toList.filterMap (·.dst)):=by
 have hN': ∀o∈ops,CX N o.dst=true∧ ∀t,o.dst=some t->t∈ops.toList.filterMap (·.dst):=λo ho=>
  ⟨Y7.1 hN o (Xn.2 ho),λt ht=>Ta.2 ⟨o,Xn.2 ho,ht⟩⟩
 unfold pe
 cases hE:(ops.toList.zipIdx.all λx=>xh x.2 x.1) with
 |false=>exact Qp _ _
 |true=>
 have hE:=ZaT hE
 show WH P N (wh P ops (CI P ops)) _ _
 have eD: ∀q∈CI P ops,q.x∈BS ops∧q=Oj P ops q.x:=λq hq=>qm hq
 generalize CI P ops=l at eD
 unfold wh
 cases hB:Ll (QX l) l l 0 0 0 (Nat.sub (bit ops.size) 1) with
 |true=>
  show WH P N (XL (l.map λq=>Wa P ops q.x)) _ _
  obtain⟨h1,h2⟩:=Hw (pre:=[]) hB (λp hp=>by simpa using hp) (λp hp t ht=>BY (by simpa using hp) ht) (λp hp=>by cases hp) (λi=>by simp)
  refine JM hm λc b σ tm H x a w k cs t out S2 HO xO hc m he=>?_
  obtain⟨NT,rest',HQ,Yp,H',A',g1,g2,g3,g4,g5,g6⟩:=MS.advance (dl:=(List.map (λq:SI=>Wa P ops q.x) l).map (λp:PI=>p.dst)) (fin:=Kv) (c:=c) (x:=x) (out:=out) (S2:=S2) (HO:=HO) (xO:=xO) l [] [] tm H _ m h1 eD he
  exact tp hE hN' (sk ops l λq hq=>(eD q hq).2) (L:=l) (λj hj=>by
   obtain⟨p,hp,e⟩:=(h2 j).1 (DL.2 hj)
   exact⟨p,by simpa using hp,e⟩) hc k cs ops.size t NT rest' HQ Yp H' A' σ a w _ ⟨g3,g4,g2,g5,by rw[<-g1];simp,g6⟩ (yG ops)
 |false=>
  show WH P N (q7 P ops (QX l) l (Nat.sub (bit ops.size) 1) (Ds l)) _ _
  cases hl:Ds l with
  |none=>exact Qp _ _
  |some y=>
   obtain⟨r,s1,s2⟩:=y
   have hlr:l=r++[s1,s2]:=by
    unfold Ds at hl
    split at hl
    ·rename_i b' a' r' Zor
     cases hl
     have:=congrArg List.reverse Zor
     simpa using this
    ·cases hl
   subst hlr
   unfold q7
   cases Am:Rn P s1.x.1 with
   |none=>simp only[Am];exact Qp _ _
   |some e1=>
   cases LD:Rn P s2.x.1 with
   |none=>simp only[Am,LD];exact Qp _ _
   |some e2=>
   simp only[Am,LD]
   cases hB1:Ll (QX (r++[s1,s2])) (r++[s1,s2]) (r++[s1]) 0 0 0 (Nat.xor (Nat.sub (bit ops.size) 1) (bit s2.i)) with
   |false=>exact Qp _ _
   |true=>
   cases hB2:Ll (QX (r++[s1,s2])) (r++[s1,s2]) (r++[s2]) 0 0 0 (Nat.xor (Nat.sub (bit ops.size) 1) (bit s1.i)) with
   |false=>exact Qp _ _
   |true=>
   have Q3:=eD s1 (by simp)
   have QY:=eD s2 (by simp)
   have hw: ∀s,s=s1∨s=s2-> ∀p∈[]++(r++[s]),∀t,p.d=some t->(t,p.i)∈QX (r++[s1,s2]):=by
    intro s hs p hp t ht
    refine BY ?_ ht
    rw[Xp] at hp
    rcases Zs.1 hp with h|h
    ·exact Zs.2 (.inl h)
    ·have e:p=s:=by simpa using h
     rw[e]
     rcases hs with rfl|rfl<;>simp
   obtain⟨h1,h2⟩:=Hw (pre:=[]) hB1 (λp hp=>by simp at hp ⊢;rcases hp with h|h<;>simp[h]) (hw s1 (.inl rfl)) (λp hp=>by cases hp) (λi=>by simp)
   obtain⟨h3,h4⟩:=Hw (pre:=[]) hB2 (λp hp=>by simp at hp ⊢;rcases hp with h|h<;>simp[h]) (hw s2 (.inr rfl)) (λp hp=>by cases hp) (λi=>by simp)
   show WH P N (GG (r.map λq=>Wa P ops q.x) (Wa P ops s1.x) (Wa P ops s2.x) e1 e2) _ _
   have hx: ∀(s:SI) (i:Nat),Nat.testBit (Nat.xor (Nat.sub (bit ops.size) 1) (bit s.i)) i=(Nat.testBit (Nat.sub (bit ops.size) 1) i !=decide (s.i=i)):=by
    intro s i
    have:Nat.testBit (Nat.xor (Nat.sub (bit ops.size) 1) (bit s.i)) i=(Nat.testBit (Nat.sub (bit ops.size) 1) i^^Nat.testBit (bit s.i) i):=Nat.testBit_xor _ _ _
    rw[this,Qq]
   have h12:s1.i≠s2.i:=by
    intro e
    have h5:=(h2 s1.i).2 ⟨s1,by simp,rfl⟩
    rw[hx,DL.2 (Zh6 Q3),Ze e.symm] at h5
    cases h5
   refine JM hm λc b σ tm H x a w k cs t out S2 HO xO hc m he=>?_
   have hbr: ∀q∈r,q.x∈BS ops∧q=Oj P ops q.x:=λq hq=>eD q (Zs.2 (.inl hq))
   obtain⟨NT,rest',HQ,Yp,H',A',g1,g2,g3,g4,g5,g6⟩:=MS.advance (dl:=(List.map (λq:SI=>Wa P ops q.x) r).map (λp:PI=>p.dst)) (fin:=JK (Wa P ops s1.x) (Wa P ops s2.x) e1 e2) (c:=c) (x:=x) (out:=out) (S2:=S2) (HO:=HO) (xO:=xO) r [] [] tm H _ m (Ev h1) hbr he
   exact ac hE hN' (sk ops r λq hq=>(hbr q hq).2) Am LD Q3 QY h12 h1 h3 (L:=r) (λj hj=>by
    by_cases e:j=s2.i
    ·exact .inr (.inr e)
    ·have h5:Nat.testBit (Nat.xor (Nat.sub (bit ops.size) 1) (bit s2.i)) j=true:=by
      rw[hx,DL.2 hj,Za (λh=>e h.symm)];rfl
     obtain⟨p,hp,e2⟩:=(h2 j).1 h5
     have hp:p∈r++[s1]:=by simpa using hp
     rcases Zs.1 hp with hp|hp
     ·exact .inl ⟨p,hp,e2⟩
     ·have:p=s1:=by simpa using hp
      subst this
      exact .inr (.inl e2.symm)) hc k cs ops.size t NT rest' HQ Yp H' A' σ a w _ ⟨g3,g4,g2,g5,by rw[<-g1];simp,g6⟩ (yG ops)
end
end
end Go.AI
