/- Code does what the machine does, in every order: proved for every world that is told. -/
import Derived.Test.YtfkkljjgkopkfaaGreatDoorP3
import Derived.AtR
import Derived.Recover
import Derived.Orders
set_option maxRecDepth 1000000
set_option maxHeartbeats 0
set_option linter.all false
namespace Go.AI
open Go
noncomputable section
def ZcF(K KP:Value->World->Prop):Ending->World->Prop
 |.returned v,w=>K v w
 |.panicked c,w=> ∃v,c=[{v,recovered:=false}]∧KP v w
 |.outgrown,_=>False
def ZgT(P:Program)(l:Nat)(f:FuncId)(tmps:Array Value)(assign body:Code)(w:World)(K:Value->World->Prop):Prop:=
 ∀(fr:Frame) (cs:List Frame),∃v w',K v w'∧Steps P (lone (Frame.round l f tmps assign body .normal) (fr::cs) w) (lone (fr.finish v) cs w')
def Ends(P:Program)(K KP:Value->World->Prop)(r:Result Next):Prop:=match r with
 |.ok (.value v) w=>K v w
 |.ok .skip w=>K undef w
 |.ok (.enter f args) w=>Calls P f args w (ZcF K KP)
 |.ok (.round l f tmps assign body) w=>ZgT P l f tmps assign body w K
 |.halt (.panic v) w=>KP v w
 |_=>False
def ZcF.mono{K KP K' KP':Value->World->Prop}(h: ∀v w,K v w->K' v w)(h': ∀v w,KP v w->KP' v w)(e:Ending)(w:World)(x:ZcF K KP e w):ZcF K' KP' e w:=by
 cases e with
 |returned v=>exact h v w x
 |panicked c=>obtain⟨v,h1,h2⟩:=x;exact⟨v,h1,h' v w h2⟩
 |outgrown=>exact x
def Ends.mono{P:Program}{K KP K' KP':Value->World->Prop}(h: ∀v w,K v w->K' v w)(h': ∀v w,KP v w->KP' v w){r:Result Next}(x:Ends P K KP r):Ends P K' KP' r:=by
 unfold Ends at*
 split
 ·exact h _ _ x
 ·exact h _ _ x
 ·exact Calls.mono x λe w he=>he.mono h h'
 ·intro fr cs;obtain⟨v,w',h1,h2⟩:=x fr cs;exact⟨v,w',h _ _ h1,h2⟩
 ·exact h' _ _ x
 ·rename_i q1 q2 q3 q4 q5
  split at x
  ·exact absurd rfl (q1 _ _)
  ·exact absurd rfl (q2 _)
  ·exact absurd rfl (q3 _ _ _)
  ·exact absurd rfl (q4 _ _ _ _ _ _)
  ·exact absurd rfl (q5 _ _)
  ·exact x.elim
section
variable {P:Program} {b:Frame} {a:Act} {k:List Item} {cs:List Frame} {w:World} {ops:Array Oper}
def OE{i:Nat}{rest:List Nat}{o:Oper}(ho:ops[i]? =some o)(hw:Region.wanted o (yielded ops a.tmps)=true)
  (hd: ∀c,o.op≠.defer c){K KP:Value->World->Prop}(h:Ends P K KP ((execOp a.eval o).run P w)):
  (∃v w',K v w'∧Steps P (lone (b.atR a (.inRegion ops (i::rest)::k)) cs w) (lone (b.atR (a.put o.dst v) (.inRegion ops rest::k)) cs w'))∨
  (∃v w',KP v w'∧Steps P (lone (b.atR a (.inRegion ops (i::rest)::k)) cs w)
   (lone {b.atR a (.inRegion ops (i::rest)::k) with mode:=.panicking [{v,recovered:=false}]} cs w')):=by
 have hg:=stepGR_op (P:=P) (b:=b) (k:=k) (cs:=cs) (w:=w) (rest:=rest) ho hw;rw[Oper.semAt_eq _ _ _ hd] at hg;have hfin: ∀v,(b.atR a (.inRegion ops (i::rest)::k)).finish v=b.atR (a.put o.dst v) (.inRegion ops rest::k):=by
  intro v;rw[Frame.finish_atR,ho];rfl
 unfold Ends at h
 split at h
 ·rename_i v w' hr
  refine .inl ⟨v,w',h,.one (step_lone_go ?_)⟩;rw[hg,<-hfin];simp[stepG.apply,hr]
 ·rename_i w' hr
  refine .inl ⟨undef,w',h,.one (step_lone_go ?_)⟩;rw[hg,<-hfin];simp[stepG.apply,hr]
 ·rename_i f args w' hr
  obtain⟨e,w'',fr,hR,hsteps,_,hleave⟩:=h (b.atR a (.inRegion ops (i::rest)::k)::cs);have henter:step P (lone (b.atR a (.inRegion ops (i::rest)::k)) cs w)=
    .next (lone (Frame.enter P f args .normal) (b.atR a (.inRegion ops (i::rest)::k)::cs) w'):=
   step_lone_go (by rw[hg];simp[stepG.apply,hr,Frame.atR])
  cases e with
  |returned v=>
   refine .inl ⟨v,w'',hR,.head henter (hsteps.trans (.one ?_))⟩;rw[<-hfin];exact step_leave_returned hleave
  |panicked chain=>
   obtain⟨v,rfl,hR⟩:=hR;refine .inr ⟨v,w'',hR,.head henter (hsteps.trans (.one ?_))⟩;rw[<-Frame.raise_atR];exact step_leave_panicked hleave
  |outgrown=>exact hR.elim
 ·rename_i l f tmps assign body w' hr
  obtain⟨v,w'',hR,hsteps⟩:=h (b.atR a (.inRegion ops (i::rest)::k)) cs;have henter:step P (lone (b.atR a (.inRegion ops (i::rest)::k)) cs w)=
    .next (lone (Frame.round l f tmps assign body .normal) (b.atR a (.inRegion ops (i::rest)::k)::cs) w'):=
   step_lone_go (by rw[hg];simp[stepG.apply,hr,Frame.atR])
  refine .inl ⟨v,w'',hR,.head henter ?_⟩;rw[<-hfin];exact hsteps
 ·rename_i v w' hr
  refine .inr ⟨v,w',h,.one (step_lone_go ?_)⟩;rw[hg,<-Frame.raise_atR];simp[stepG.apply,hr]
 ·exact h.elim
def Zbu{i:Nat}{rest:List Nat}{o:Oper}(ho:ops[i]? =some o)(hw:Region.wanted o (yielded ops a.tmps)=true)
  (hb:b.roundOf=none){d:Deferred}{w':World}(h:(execOp a.eval o).run P w=.ok (.defer d) w'):
  Steps P (lone (b.atR a (.inRegion ops (i::rest)::k)) cs w) (lone (b.atR ({a with defers:=d::a.defers}.put o.dst undef) (.inRegion ops rest::k)) cs w'):=by
 have hg:=stepGR_op (P:=P) (b:=b) (k:=k) (cs:=cs) (w:=w) (rest:=rest) ho hw;rw[hb,Oper.semAt_none] at hg;have hfin:=Frame.finish_atR b {a with defers:=d::a.defers} ops i rest k undef;rw[ho] at hfin;refine .one (step_lone_go ?_);rw[hg];simp only[stepG.apply,Sem.runT_eq,h,GStep.bare_after];exact congrArg (λfr=>GStep.go {frame:=fr,callers:=cs,status:=.running,dying:=none} w') hfin
def AN{i:Nat}{rest:List Nat}{o:Oper}(ho:ops[i]? =some o)(hw:Region.wanted o (yielded ops a.tmps)=true)
  (hb:b.roundOf=none){w':World}(h:(execOp a.eval o).run P w=.ok .recover w'){v:Value}{cs':List Frame}
  (hr:(∀fr:Frame,fr.kind=b.kind->tryRecover fr cs=some (v,cs'))∨((∀fr:Frame,fr.kind=b.kind->tryRecover fr cs=none)∧v=.nilIface∧cs'=cs)):
  Steps P (lone (b.atR a (.inRegion ops (i::rest)::k)) cs w) (lone (b.atR (a.put o.dst v) (.inRegion ops rest::k)) cs' w'):=by
 have hg:=stepGR_op (P:=P) (b:=b) (k:=k) (cs:=cs) (w:=w) (rest:=rest) ho hw;rw[hb,Oper.semAt_none] at hg;have hfin: ∀v,(b.atR a (.inRegion ops (i::rest)::k)).finish v=b.atR (a.put o.dst v) (.inRegion ops rest::k):=by
  intro v;rw[Frame.finish_atR,ho];rfl
 refine .one (step_lone_go ?_);rw[hg,<-hfin];have hro:(b.atR a (.inRegion ops (i::rest)::k)).roundOf=none:=hb;rcases hr with hr|⟨hr,rfl,rfl⟩
 ·have:=hr (b.atR a (.inRegion ops (i::rest)::k)) rfl
  simp only[stepG.apply,Sem.runT_eq,h,GStep.bare_after,hro,this];rfl
 ·have:=hr (b.atR a (.inRegion ops (i::rest)::k)) rfl
  simp only[stepG.apply,Sem.runT_eq,h,GStep.bare_after,hro,this];rfl
end
section
variable (P:Program)
def dark(c:Go.Obj):Prop:=match c with|.loop _=>True|.deferred _=>True|_=>False
variable {P}
def Tr.dark{σ σ':Mp}{H H':Heap}{w w':World}(hs:WW P σ H w)(h:Tr P σ H w σ' H' w'){r:Nat}{c:Go.Obj}(hr:w.heap[r]? =some c)(hc:dark c):w'.heap[r]? =some c:=by
 rw[h.frame r (ZX.1 hr).1 ?_];exact hr;intro b l hw hl e;obtain⟨_,o,ho,hown,hlp⟩:=hw;obtain⟨c',hc',hrel⟩:=hs.alive b o l ho hl;rw[e,hr] at hc';cases hc';cases o with
 |row r=>obtain⟨cs,fr,rfl,_⟩:=hrel;exact hc
 |map es cl=>obtain⟨en,rfl,_⟩:=hrel;exact hc
 |siter s p=>obtain⟨rfl,_⟩:=hrel;exact hc
 |cmap es=>obtain⟨en,cl,fs,rfl,_⟩:=hrel;exact hc
 |miter m s q=>obtain⟨se,st,rfl,_⟩:=hrel;exact hc
 |loop=>exact hlp rfl
inductive Rg(σ:Mp)(w:World)(lo:Nat):List (AV×List AV)->List Deferred->Prop
 |nil:Rg σ w lo [] []
 |call {g:Nat} {p q args:List AV} {x y z:List Value} {l:List (AV×List AV)} {ds:List Deferred}:YR σ p x->YR σ args y->YR σ q z->Rg σ w lo l ds->
   Rg σ w lo ((.func g p q,args)::l) ({target:=.fn (.func g) ⟨z⟩,args:=⟨x++y⟩}::ds)
 |mark {r:Nat} {l:List (AV×List AV)} {ds:List Deferred}:lo<=r->w.heap[r]? =some (.deferred (some []))->(∀d∈ds,∀r',d.target=.collected r'->r'≠r)->Rg σ w lo l ds->
   Rg σ w lo l ({target:=.collected r,args:= #[]}::ds)
def Rg.mono{σ σ':Mp}{w w':World}{lo:Nat}(he:Ext σ σ')(hd: ∀(r:Nat) (x:Option (List Deferred)),w.heap[r]? =some (.deferred x)->w'.heap[r]? =some (.deferred x)){l:List (AV×List AV)}{ds:List Deferred}(h:Rg σ w lo l ds):Rg σ' w' lo l ds:=by
 induction h with
 |nil=>exact .nil
 |call h1 h2 h3 _ ih=>exact .call (h1.mono he) (h2.mono he) (h3.mono he) ih
 |mark h1 h2 h3 _ ih=>exact .mark h1 (hd _ _ h2) h3 ih
def Rg.tr{σ σ':Mp}{H H':Heap}{w w':World}{lo:Nat}(hs:WW P σ H w)(h:Tr P σ H w σ' H' w'){l:List (AV×List AV)}{ds:List Deferred}(d:Rg σ w lo l ds):Rg σ' w' lo l ds:=
 d.mono h.ext λ_ _ hr=>h.dark hs hr trivial
structure yj(σ:Mp)(kd:CallKind)(K:Bool->List Frame)(rc:Option AV):Prop where
 no: ∀fr:Frame,fr.kind=kd->tryRecover fr (K false)=none
 yes: ∀v,rc=some v-> ∃u,Ym σ v u∧ ∀fr:Frame,fr.kind=kd->tryRecover fr (K true)=some (u,K false)
def yj.mono{σ σ':Mp}(he:Ext σ σ'){kd:CallKind}{K:Bool->List Frame}{rc:Option AV}(h:yj σ kd K rc):yj σ' kd K rc:=
 ⟨h.no,λv hv=>let ⟨u,h1,h2⟩:=h.yes v hv;⟨u,h1.mono he,h2⟩⟩
structure St(P:Program)(σ:Mp)(b:Frame)(K:Bool->List Frame)(N lo:Nat)(tm:TM)(H:Heap)(x:X)(a:Act)(w:World):Prop where
 sim:WW P σ H w
 tm:MU σ N tm a.tmps
 df:Rg σ w lo x.df a.defers
 rc:yj σ b.kind K x.rc
 lo:lo<=w.heap.size
def St.step{σ σ':Mp}{b:Frame}{K:Bool->List Frame}{N lo:Nat}{tm tm':TM}{H H':Heap}{x:X}{a a':Act}{w w':World}
  (h:St P σ b K N lo tm H x a w)(t:Tr P σ H w σ' H' w')(ht:MU σ' N tm' a'.tmps)(hd:a'.defers=a.defers):St P σ' b K N lo tm' H' x a' w':=
 ⟨t.sim,ht,by rw[hd];exact h.df.tr h.sim t,h.rc.mono t.ext,Yb h.lo t.size⟩
def FF(a:Act)(d:Option Tmp)(v:Value):(a.put d v).tmps=(match d with|some t=>a.tmps.setIfInBounds t v|none=>a.tmps):=by cases d<;>rfl
def P5(a:Act)(d:Option Tmp)(v:Value):(a.put d v).defers=a.defers:=by cases d<;>rfl
def put_old(a:Act)(d:Option Tmp)(v:Value){n:Nat}(h: ∀t,d=some t->n≠t):(a.put d v).tmps[n]? =a.tmps[n]? :=by
 cases d with
 |none=>rfl
 |some t=>exact Array.getElem?_setIfInBounds_ne (λe=>h t rfl e.symm)
def MU.put{σ:Mp}{N:Nat}{tm:TM}{a:Act}(h:MU σ N tm a.tmps){d:Option Nat}{v:AV}{u:Value}(hd:oH N d=true)(hr:Ym σ v u):MU σ N (UN d tm v) (a.put d u).tmps:=by
 cases d with
 |none=>exact h
 |some t=>exact h.set (ZS hd) hr
def Ki(P:Program)(σ:Mp)(H:Heap)(w:World)(r:CR)(res:Result Next):Prop:=match r with
 |.fail=>True
 |.ret v H'=>Ends P (λu w'=> ∃σ',Ym σ' v u∧Tr P σ H w σ' H' w') (λ_ _=>False) res
 |.pan v H'=>Ends P (λ_ _=>False) (λu w'=> ∃σ',Ym σ' v u∧Tr P σ H w σ' H' w') res
def PD(P:Program)(call:Nat->List AV->Heap->CR):Prop:=
 ∀f args H σ w vs,WW P σ H w->YR σ args vs->Ki P σ H w (call f args H) ((callFunc f ⟨vs⟩).run P w)
def tz(P:Program)(yld:Nat->List AV->Heap->CR)(σ0:Mp)(H0:Heap)(w0:World):Prop:=
 ∀bk args H σ w l vs,Tr P σ0 H0 w0 σ H w->σ bk=some l->YR σ args vs->Ki P σ H w (yld bk args H) ((Instr.yield l.blk ⟨vs⟩).run P w)
def tz.tr{yld:Nat->List AV->Heap->CR}{σ σ':Mp}{H H':Heap}{w w':World}(h:tz P yld σ H w)(t:Tr P σ H w σ' H' w'):tz P yld σ' H' w':=
 λbk args H σ w l vs t' h1 h2=>h bk args H σ w l vs (t.trans t') h1 h2
def Zcx(σ:Mp)(H:Heap)(w:World):tz P Qu σ H w:=λ_ _ _ _ _ _ _ _ _ _=>trivial
def zJ(P:Program)(m:Machine)(b:Frame)(k:List Item)(cs:List Frame)(σ:Mp)(o:Out)(a:Act)(w:World):Prop:=match o with
 |.normal=>Steps P m (lone (b.atR a k) cs w)
 |.exit id=> ∀k',exitTo id k=some k'->Steps P m (lone (b.atR a k') cs w)
 |.ret=>b.roundOf=none-> ∃todo,Steps P m (lone {b.atR a todo with mode:=.returning} cs w)
 |.pan v=> ∃todo u,Ym σ v u∧Steps P m (lone {b.atR a todo with mode:=.panicking [{v:=u,recovered:=false}]} cs w)
def zJ.of_steps{m m1:Machine}{b:Frame}{k:List Item}{cs:List Frame}{σ:Mp}{o:Out}{a:Act}{w:World}(h:Steps P m m1)(x:zJ P m1 b k cs σ o a w):zJ P m b k cs σ o a w:=by
 cases o with
 |normal=>exact h.trans x
 |exit id=>exact λk' hk=>h.trans (x k' hk)
 |ret=>exact λhb=>let ⟨todo,hs⟩:=x hb;⟨todo,h.trans hs⟩
 |pan v=>obtain⟨todo,u,hu,hs⟩:=x;exact⟨todo,u,hu,h.trans hs⟩
def zJ.pass{m:Machine}{b:Frame}{y:Item}{k:List Item}{cs:List Frame}{σ:Mp}{o:Out}{a:Act}{w:World}(hy:y.plain=true)(ho:o≠.normal)(x:zJ P m b (y::k) cs σ o a w):zJ P m b k cs σ o a w:=by
 cases o with
 |normal=>exact absurd rfl ho
 |exit id=>exact λk' hk=>x k' (by cases y<;>simp_all [exitTo,Item.plain])
 |ret=>exact x
 |pan v=>exact x
end
def lX(P:Program)(rng:AV->(List AV->Heap->CR)->TM->Heap->X->UG):Prop:=
 ∀(f:AV) (round:List AV->Heap->CR) (tm:TM) (H:Heap) (x:X) (o:Out) (tm':TM) (H':Heap) (x':X),rng f round tm H x=.ok o tm' H' x'->
 ∀(σ:Mp) (w:World) (b:Frame) (K:Bool->List Frame) (N lo:Nat) (a:Act) (k:List Item) (g:Operand) (ps:Array Tmp) (asg body:Code),
  St P σ b K N lo tm H x a w->b.roundOf=none->Ym σ f (a.eval g)->
  (∀(σ1:Mp) (H1:Heap) (w1:World) (l:Nat) (df:Nat) (ys:List AV) (vs:List Value),Ext σ σ1->WW P σ1 H1 w1->
   w1.heap[l]? =some (.loop {state:=.ready,pending:=none,fn:=b.fn,tmps:=a.tmps,params:=ps,assign:=asg,body:=body,defers:=df})->YR σ1 ys vs->
   Ki P σ1 H1 w1 (round ys H1) ((Instr.yield l ⟨vs⟩).run P w1))->
  ∃σ' a' w',Tr P σ H w σ' H' w'∧St P σ' b K N lo tm' H' x' a' w'∧a'.tmps=a.tmps∧
   zJ P (lone (b.atR a (.code (.rangeFunc g ps asg body)::k)) (K x.rc.isSome) w) b k (K x'.rc.isSome) σ' o a' w'
def pq(P:Program):lX P RS:=λ_ _ _ _ _ _ _ _ _ h=>by cases h
structure Ka(P:Program)(c:Ctx)(b:Frame)(σ:Mp)(H:Heap)(w:World):Prop where
 call:PD P c.call
 yld:tz P c.yld σ H w
 rnd:c.rnd=false->b.roundOf=none
 rng:lX P c.rng
 rngN:b.roundOf≠none->c.rng=RS
def Ka.tr{P:Program}{c:Ctx}{b:Frame}{σ σ':Mp}{H H':Heap}{w w':World}(h:Ka P c b σ H w)(t:Tr P σ H w σ' H' w'):Ka P c b σ' H' w':=⟨h.call,h.yld.tr t,h.rnd,h.rng,h.rngN⟩
def UC(P:Program)(N:Nat)(d:D)(its:List Item)(ds:List Nat):Prop:=
 ∀(c:Ctx) (b:Frame) (K:Bool->List Frame) (lo:Nat) (σ:Mp) (tm:TM) (H:Heap) (x:X) (a:Act) (w:World) (k:List Item) (o:Out) (tm':TM) (H':Heap) (x':X),
  Ka P c b σ H w->St P σ b K N lo tm H x a w->d c tm H x=.ok o tm' H' x'->
  ∃σ' a' w',Tr P σ H w σ' H' w'∧St P σ' b K N lo tm' H' x' a' w'∧(∀n,n∉ds->a'.tmps[n]? =a.tmps[n]?)∧
   zJ P (lone (b.atR a (its++k)) (K x.rc.isSome) w) b k (K x'.rc.isSome) σ' o a' w'
section
variable {P:Program} {N:Nat}
def UC.steps{d:D}{its Zlt:List Item}{ds:List Nat}(h:UC P N d its ds)
  (hs: ∀(b:Frame) (a:Act) (k:List Item) (cs:List Frame) (w:World),Steps P (lone (b.atR a (Zlt++k)) cs w) (lone (b.atR a (its++k)) cs w)):UC P N d Zlt ds:=by
 intro c b K lo σ tm H x a w k o tm' H' x' hc hst he;obtain⟨σ',a',w',h1,h2,h3,h4⟩:=h c b K lo σ tm H x a w k o tm' H' x' hc hst he;exact⟨σ',a',w',h1,h2,h3,.of_steps (hs b a k _ w) h4⟩
def S1(its:List Item)(ds:List Nat):UC P N Qg its ds:=by
 intro c b K lo σ tm H x a w k o tm' H' x' _ _ he;cases he
def Ge(ds:List Nat):UC P N Zb [] ds:=by
 intro c b K lo σ tm H x a w k o tm' H' x' hc hs he;cases he;exact⟨σ,a,w,Tr.refl hs.sim,hs,λ_ _=>rfl,Steps.refl P _⟩
def oq{r:UG}{kk:TM->Heap->X->UG}{o:Out}{tm:TM}{H:Heap}{x:X}(h:Ll r kk=.ok o tm H x):
  ∃o1 OS H1 x1,r=.ok o1 OS H1 x1∧((o1=.normal∧kk OS H1 x1=.ok o tm H x)∨(o1≠.normal∧o1=o∧OS=tm∧H1=H∧x1=x)):=by
 cases r with
 |fail=>cases h
 |ok o1 OS H1 x1=>
  refine⟨o1,OS,H1,x1,rfl,?_⟩;cases o1 with
  |normal=>exact .inl ⟨rfl,h⟩
  |exit i=>cases h;exact .inr ⟨by simp,rfl,rfl,rfl,rfl⟩
  |ret=>cases h;exact .inr ⟨by simp,rfl,rfl,rfl,rfl⟩
  |pan v=>cases h;exact .inr ⟨by simp,rfl,rfl,rfl,rfl⟩
theorem zJ.passL{m:Machine}{b:Frame}{k:List Item}{cs:List Frame}{σ:Mp}{o:Out}{a:Act}{w:World}(ho:o≠.normal): ∀{l:List Item},(∀y∈l,Item.plain y=true)->zJ P m b (l++k) cs σ o a w->zJ P m b k cs σ o a w
 |[],_,x=>x
 |y::l,hp,x=>zJ.passL ho (λz hz=>hp z (ZC _ hz)) (zJ.pass (hp y (Zw ..)) ho x)
def dV{d e:D}{i1 i2:List Item}{ds es:List Nat}(hp: ∀y∈i2,Item.plain y=true)(h:UC P N d i1 ds)(h':UC P N e i2 es):UC P N (Zf d e) (i1++i2) (ds++es):=by
 intro c b K lo σ tm H x a w k o tm' H' x' hc hs he;obtain⟨o1,OS,H1,x1,h1,h2⟩:=oq he;obtain⟨σ1,a1,w1,t1,s1,u1,Mn⟩:=h c b K lo σ tm H x a w (i2++k) o1 OS H1 x1 hc hs h1;rw[Yq];rcases h2 with⟨rfl,h2⟩|⟨hne,rfl,rfl,rfl,rfl⟩
 ·obtain⟨σ2,a2,w2,t2,s2,u2,CZ⟩:=h' c b K lo σ1 OS H1 x1 a1 w1 k o tm' H' x' (hc.tr t1) s1 h2
  refine⟨σ2,a2,w2,t1.trans t2,s2,λn hn=>?_,.of_steps Mn CZ⟩;rw[Zt] at hn;rw[u2 n λz=>hn (.inr z),u1 n λz=>hn (.inl z)]
 ·refine⟨σ1,a1,w1,t1,s1,λn hn=>u1 n λz=>hn (Zt.2 (.inl z)),?_⟩
  exact zJ.passL hne hp Mn
def Zd1{v:AV}{kk:Bool->UG}{o:Out}{tm:TM}{H:Heap}{x:X}(h:nS v kk=.ok o tm H x): ∃q,v=.bool q∧kk q=.ok o tm H x:=by
 unfold nS at h
 split at h
 ·exact⟨_,rfl,h⟩
 ·cases h
def lz{q:Operand}{d e:D}{x y:Code}{ds es:List Nat}(h:UC P N d [.code x] ds)(h':UC P N e [.code y] es):
  UC P N (ZH (YZ P q) d e) [.code (.cond q x y)] (ds++es):=by
 intro c b K lo σ tm H X0 a w k o tm' H' x' hc hs he;obtain⟨t,ht,he⟩:=Zd1 he;have hq:a.eval q=.bool t:=by
  have:=AO hs.sim hs.tm q;rw[ht] at this;exact T7 this
 have hst:Steps P (lone (b.atR a ([.code (.cond q x y)]++k)) (K X0.rc.isSome) w) (lone (b.atR a ([.code (if t then x else y)]++k)) (K X0.rc.isSome) w):=.one (stepR_cond hq);cases t with
 |true=>
  obtain⟨σ1,a1,w1,t1,s1,u1,Mn⟩:=h c b K lo σ tm H X0 a w k o tm' H' x' hc hs he;exact⟨σ1,a1,w1,t1,s1,λn hn=>u1 n λz=>hn (Zt.2 (.inl z)),.of_steps hst Mn⟩
 |false=>
  obtain⟨σ1,a1,w1,t1,s1,u1,Mn⟩:=h' c b K lo σ tm H X0 a w k o tm' H' x' hc hs he;exact⟨σ1,a1,w1,t1,s1,λn hn=>u1 n λz=>hn (Zt.2 (.inr z)),.of_steps hst Mn⟩
def fX{id:Nat}{r:UG}{o:Out}{tm:TM}{H:Heap}{x:X}(h:LM id r=.ok o tm H x):
  ∃o1,r=.ok o1 tm H x∧((o1=.normal∧o=.normal)∨(∃i,o1=.exit i∧((i=id∧o=.normal)∨(i≠id∧o=.exit i)))∨(o1=o∧(o1=.ret∨ ∃v,o1=.pan v))):=by
 cases r with
 |fail=>cases h
 |ok o1 OS H1 x1=>
  cases o1 with
  |normal=>cases h;exact⟨.normal,rfl,.inl ⟨rfl,rfl⟩⟩
  |exit i=>
   change @Bool.rec (λ_=>UG) (.ok (.exit i) OS H1 x1) (.ok .normal OS H1 x1) (Nat.beq i id)=_ at h
   rw[Yl] at h
   by_cases e:i=id
   ·rw[Zi e] at h;cases h;exact⟨.exit i,rfl,.inr (.inl ⟨i,rfl,.inl ⟨e,rfl⟩⟩)⟩
   ·rw[Zc e] at h;cases h;exact⟨.exit i,rfl,.inr (.inl ⟨i,rfl,.inr ⟨e,rfl⟩⟩)⟩
  |ret=>cases h;exact⟨.ret,rfl,.inr (.inr ⟨rfl,.inl rfl⟩)⟩
  |pan v=>cases h;exact⟨.pan v,rfl,.inr (.inr ⟨rfl,.inr ⟨v,rfl⟩⟩)⟩
def pR{id:Nat}{d:D}{x:Code}{ds:List Nat}(h:UC P N d [.code x] ds):UC P N (Z2 id d) [.code (.block id x)] ds:=by
 intro c b K lo σ tm H X0 a w k o tm' H' x' hc hs he;obtain⟨o1,h1,h2⟩:=fX he;obtain⟨σ1,a1,w1,t1,s1,u1,Mn⟩:=h c b K lo σ tm H X0 a w (.inBlock id::k) o1 tm' H' x' hc hs h1;refine⟨σ1,a1,w1,t1,s1,u1,.of_steps (.one stepR_block) ?_⟩;rcases h2 with⟨rfl,rfl⟩|⟨i,rfl,⟨rfl,rfl⟩|⟨hi,rfl⟩⟩|⟨rfl,rfl|⟨v,rfl⟩⟩
 ·exact Steps.trans Mn (.one stepR_inBlock)
 ·exact Mn k (by simp[exitTo])
 ·refine λk' hk=>Mn k' ?_
  have:(id==i)=false:=by simp;exact λz=>hi z.symm
  simp[exitTo,this,hk]
 ·exact Mn
 ·exact Mn
def pU{d:D}{x:Code}{ds:List Nat}(h:UC P N d [.code x] ds): ∀n,UC P N (λc tm H y=>Vq (d c) n tm H y) [.code x,.inLoop x] ds:=by
 intro n
 induction n with
 |zero=>intro c b K lo σ tm H X0 a w k o tm' H' x' hc hs he;cases he
 |succ n ih=>
  intro c b K lo σ tm H X0 a w k o tm' H' x' hc hs he;obtain⟨o1,OS,H1,x1,h1,h2⟩:=oq he;obtain⟨σ1,a1,w1,t1,s1,u1,Mn⟩:=h c b K lo σ tm H X0 a w (.inLoop x::k) o1 OS H1 x1 hc hs h1;rcases h2 with⟨rfl,h2⟩|⟨hne,rfl,rfl,rfl,rfl⟩
  ·obtain⟨σ2,a2,w2,t2,s2,u2,CZ⟩:=ih c b K lo σ1 OS H1 x1 a1 w1 k o tm' H' x' (hc.tr t1) s1 h2
   exact⟨σ2,a2,w2,t1.trans t2,s2,λn hn=>by rw[u2 n hn,u1 n hn],.of_steps (Steps.trans Mn (.one stepR_inLoop)) CZ⟩
  ·exact⟨σ1,a1,w1,t1,s1,u1,zJ.pass (y:=.inLoop x) rfl hne Mn⟩
def lB{d:D}{x:Code}{ds:List Nat}(h:UC P N d [.code x] ds):UC P N (WL d) [.code (.loop x)] ds:=by
 intro c b K lo σ tm H X0 a w k o tm' H' x' hc hs he;obtain⟨σ1,a1,w1,t1,s1,u1,Mn⟩:=pU h c.fu c b K lo σ tm H X0 a w k o tm' H' x' hc hs he;exact⟨σ1,a1,w1,t1,s1,u1,.of_steps (.one stepR_loop) Mn⟩
def lA{id:Nat}(ds:List Nat):UC P N (WK id) [.code (.exit id)] ds:=by
 intro c b K lo σ tm H X0 a w k o tm' H' x' hc hs he;cases he;exact⟨σ,a,w,Tr.refl hs.sim,hs,λ_ _=>rfl,λ_ hk=>.one (stepR_exit hk)⟩
def dU(ds:List Nat):UC P N ZT [.code .ret] ds:=by
 intro c b K lo σ tm H X0 a w k o tm' H' x' hc hs he;cases he;exact⟨σ,a,w,Tr.refl hs.sim,hs,λ_ _=>rfl,λhb=>⟨_,.one (stepR_ret hb)⟩⟩
def lD(ds:List Nat):UC P N Zb [.code .skip] ds:=(Ge ds).steps λ_ _ _ _ _=>.one stepR_skip
def pT(l:Nat)(ds:List Nat):UC P N Zb [.code (.label l)] ds:=(Ge ds).steps λ_ _ _ _ _=>.one stepR_label
def lC{d e:D}{x y:Code}{ds es:List Nat}(h:UC P N d [.code x] ds)(h':UC P N e [.code y] es):UC P N (Zf d e) [.code (.seq x y)] (ds++es):=
 (dV (i1:=[.code x]) (i2:=[.code y]) (by simp[Item.plain]) h h').steps λ_ _ _ _ _=>.one stepR_seq
def pZ{b:Frame}{a:Act}{k:List Item}{cs:List Frame}{w:World}{x:Code}:step P (lone (b.atR a (.code (.scope x)::k)) cs w)=.next (lone (b.atR a (.code x::.inScope x::k)) cs w):=
 step_lone_go (by simp[stepG,stepG.exec,Frame.atR])
def yf{b:Frame}{a:Act}{k:List Item}{cs:List Frame}{w:World}{x:Code}:step P (lone (b.atR a (.inScope x::k)) cs w)=.next (lone (b.atR a k) cs w):=
 step_lone_go (by simp[stepG,stepG.exec,Frame.atR])
def pV{d:D}{x:Code}{ds:List Nat}(h:UC P N d [.code x] ds):UC P N d [.code (.scope x)] ds:=by
 intro c b K lo σ tm H X0 a w k o tm' H' x' hc hs he;obtain⟨σ1,a1,w1,t1,s1,u1,Mn⟩:=h c b K lo σ tm H X0 a w (.inScope x::k) o tm' H' x' hc hs he;refine⟨σ1,a1,w1,t1,s1,u1,.of_steps (.one pZ) ?_⟩;cases o with
 |normal=>exact Steps.trans Mn (.one yf)
 |exit id=>exact λk' hk=>Mn k' (by simp[exitTo,hk])
 |ret=>exact Mn
 |pan v=>exact Mn
def vU{σ:Mp}{tm:TM}{a:Act}(hρ:RG P σ tm a.eval){ops:Array Oper}{o:Oper}{e:WI}{q:Bool}(hg:Sd P ops o=some (e,q)){yes no r:UG}
  (h:Qd (e tm) q yes no=r)(hr:r≠.fail):(Region.wanted o (yielded ops a.tmps)=true∧yes=r)∨(Region.wanted o (yielded ops a.tmps)=false∧no=r):=by
 unfold Sd at hg;cases ho:o.guard with
 |none=>rw[ho] at hg;cases hg
 |some jb=>
  obtain⟨j,bb⟩:=jb;rw[ho] at hg;cases hd:(ops[j]?).bind (·.dst) with
  |none=>simp only[hd,Option.some.injEq,Prod.mk.injEq] at hg;obtain⟨rfl,rfl⟩:=hg;exact absurd h.symm hr
  |some d=>
   simp only[hd,Option.some.injEq,Prod.mk.injEq] at hg;obtain⟨rfl,rfl⟩:=hg;have h1:=hρ (.tmp d);unfold Region.wanted yielded;simp only[ho,hd,Option.bind_some];generalize YZ P (.tmp d) tm=v at h h1;unfold Qd at h
   split at h
   ·rename_i cv
    have h2:a.tmps.getD d undef=.bool cv:=T7 h1;have h3:a.tmps[d]? =some (.bool cv):=by
     rw[ZV] at h2;cases h4:a.tmps[d]? with
     |none=>rw[h4] at h2;cases h2
     |some u=>rw[h4] at h2;exact congrArg some h2
    rw[h3];cases cv<;>cases bb
    ·exact .inl ⟨rfl,h⟩
    ·exact .inr ⟨rfl,h⟩
    ·exact .inr ⟨rfl,h⟩
    ·exact .inl ⟨rfl,h⟩
   ·rename_i vs
    refine .inr ⟨?_,h⟩;simp only[Ym] at h1;obtain⟨us,_,h2⟩:=h1;have h2:a.tmps.getD d undef=.tuple ⟨us⟩:=h2;rw[ZV] at h2;cases h4:a.tmps[d]? with
    |none=>rfl
    |some u=>rw[h4] at h2;have h2:u=_:=h2;subst h2;rfl
   ·exact absurd h.symm hr
def B0{ops:Array Oper}{o:Oper}(hg:Sd P ops o=none)(y:Nat->Option Bool):Region.wanted o y=true:=by
 unfold Sd at hg;cases ho:o.guard with
 |none=>unfold Region.wanted;rw[ho]
 |some jb=>
  obtain⟨j,bb⟩:=jb;rw[ho] at hg;cases hd:(ops[j]?).bind (·.dst)<;>simp only[hd] at hg<;>cases hg
end
section
variable {P:Program} {N:Nat}
def Ja{o:Oper}{tm:TM}{H:Heap}(h: ∀f args,Uc P o.op tm H≠.oth (.defer f args))(h':Uc P o.op tm H≠.oth .fail): ∀c,o.op≠.defer c:=by
 intro c hc;rw[hc] at h h';cases hcal:c.callee with
 |value f=>exact h (YZ P f tm) (evs tm (args P c.args)) (by simp[Uc,hcal,AA])
 |invoke r m=>exact h' (by simp[Uc,hcal,Ul])
 |builtin b=>exact h' (by simp[Uc,hcal,Ul])
def cH(K:Bool->List Frame){rc:Option AV}{v:AV}(h:rc=some v):K rc.isSome=K true:=by rw[h];rfl
def qQ{ops:Array Oper}{i:Nat}{rest:List Nat}{o:Oper}{next:D}{ds:List Nat}(ho:ops[i]? =some o)(hN:oH N o.dst=true)(hds: ∀t,o.dst=some t->t∈ds)
  (hnext:UC P N next [.inRegion ops rest] ds){c:Ctx}{b:Frame}{K:Bool->List Frame}{lo:Nat}{σ:Mp}{tm:TM}{H:Heap}{x:X}{a:Act}{w:World}{k:List Item}{out:Out}{tm':TM}{H':Heap}{x':X}
  (hc:Ka P c b σ H w)(hs:St P σ b K N lo tm H x a w)(hw:Region.wanted o (yielded ops a.tmps)=true)
  (he:Kj (next c) (UN o.dst) c tm H x (Uc P o.op tm H)=.ok out tm' H' x'):
  ∃σ' a' w',Tr P σ H w σ' H' w'∧St P σ' b K N lo tm' H' x' a' w'∧(∀n,n∉ds->a'.tmps[n]? =a.tmps[n]?)∧
   zJ P (lone (b.atR a (.inRegion ops (i::rest)::k)) (K x.rc.isSome) w) b k (K x'.rc.isSome) σ' out a' w':=by
 have hok:=MX hs.sim (AO hs.sim hs.tm) o;unfold XI at hok;have hnd:=Ja (P:=P) (o:=o) (tm:=tm) (H:=H);have old: ∀(u:Value) (n:Nat),n∉ds->(a.put o.dst u).tmps[n]? =a.tmps[n]? :=λu n hn=>put_old a o.dst u λt ht e=>hn (e▸hds t ht);have val: ∀(σ1:Mp) (H1:Heap) (w1:World) (v:AV) (u:Value),Tr P σ H w σ1 H1 w1->Ym σ1 v u->next c (UN o.dst tm v) H1 x=.ok out tm' H' x'->
   Steps P (lone (b.atR a (.inRegion ops (i::rest)::k)) (K x.rc.isSome) w) (lone (b.atR (a.put o.dst u) (.inRegion ops rest::k)) (K x.rc.isSome) w1)->
   ∃σ' a' w',Tr P σ H w σ' H' w'∧St P σ' b K N lo tm' H' x' a' w'∧(∀n,n∉ds->a'.tmps[n]? =a.tmps[n]?)∧
   zJ P (lone (b.atR a (.inRegion ops (i::rest)::k)) (K x.rc.isSome) w) b k (K x'.rc.isSome) σ' out a' w':=by
  intro σ1 H1 w1 v u t1 hr hn hst;have s1:St P σ1 b K N lo (UN o.dst tm v) H1 x (a.put o.dst u) w1:=hs.step t1 ((hs.tm.mono t1.ext).put hN hr) (P5 a o.dst u);obtain⟨σ2,a2,w2,t2,s2,u2,CZ⟩:=hnext c b K lo σ1 _ H1 x _ w1 k out tm' H' x' (hc.tr t1) s1 hn;exact⟨σ2,a2,w2,t1.trans t2,s2,λn hn=>by rw[u2 n hn,old u n hn],.of_steps hst CZ⟩
 have pan: ∀(σ1:Mp) (H1:Heap) (w1:World) (v:AV) (u:Value),Tr P σ H w σ1 H1 w1->Ym σ1 v u->UG.ok (.pan v) tm H1 x=.ok out tm' H' x'->
   Steps P (lone (b.atR a (.inRegion ops (i::rest)::k)) (K x.rc.isSome) w) (lone {b.atR a (.inRegion ops (i::rest)::k) with mode:=.panicking [{v:=u,recovered:=false}]} (K x.rc.isSome) w1)->
   ∃σ' a' w',Tr P σ H w σ' H' w'∧St P σ' b K N lo tm' H' x' a' w'∧(∀n,n∉ds->a'.tmps[n]? =a.tmps[n]?)∧
   zJ P (lone (b.atR a (.inRegion ops (i::rest)::k)) (K x.rc.isSome) w) b k (K x'.rc.isSome) σ' out a' w':=by
  intro σ1 H1 w1 v u t1 hr hn hst;cases hn;exact⟨σ1,a,w1,t1,hs.step t1 (hs.tm.mono t1.ext) rfl,λ_ _=>rfl,_,u,hr,hst⟩
 have cro: ∀(r:CR),Ki P σ H w r ((execOp a.eval o).run P w)->(∀c,o.op≠.defer c)->qO (next c) (UN o.dst) tm x r=.ok out tm' H' x'->
   ∃σ' a' w',Tr P σ H w σ' H' w'∧St P σ' b K N lo tm' H' x' a' w'∧(∀n,n∉ds->a'.tmps[n]? =a.tmps[n]?)∧
   zJ P (lone (b.atR a (.inRegion ops (i::rest)::k)) (K x.rc.isSome) w) b k (K x'.rc.isSome) σ' out a' w':=by
  intro r hr hnd he;cases r with
  |fail=>cases he
  |ret v H1=>
   rcases OE (b:=b) (k:=k) (cs:=K x.rc.isSome) (rest:=rest) ho hw hnd hr with⟨u,w1,⟨σ1,h1,h2⟩,hst⟩|⟨u,w1,h1,_⟩
   ·exact val σ1 H1 w1 v u h2 h1 he hst
   ·exact h1.elim
  |pan v H1=>
   rcases OE (b:=b) (k:=k) (cs:=K x.rc.isSome) (rest:=rest) ho hw hnd hr with⟨u,w1,h1,_⟩|⟨u,w1,⟨σ1,h1,h2⟩,hst⟩
   ·exact h1.elim
   ·exact pan σ1 H1 w1 v u h2 h1 he hst
 generalize hr:Uc P o.op tm H=r at hok he hnd;cases r with
 |val v H1=>
  obtain⟨σ1,w1,u,hrun,h1,t1⟩:=hok;have hE:Ends P (λy w2=>y=u∧w2=w1) (λ_ _=>False) ((execOp a.eval o).run P w):=by
   rcases hrun with hrun|⟨hrun,hu⟩
   ·rw[hrun];exact⟨rfl,rfl⟩
   ·rw[hrun];exact⟨hu.symm,rfl⟩
  rcases OE (b:=b) (k:=k) (cs:=K x.rc.isSome) (rest:=rest) ho hw (hnd (λ_ _ h=>by cases h) (λh=>by cases h)) hE with⟨u',w',⟨rfl,rfl⟩,hst⟩|⟨_,_,h,_⟩
  ·exact val σ1 H1 _ v _ t1 h1 he hst
  ·exact h.elim
 |oth q=>
  cases q with
  |fail=>cases he
  |call f ar H1=>
   obtain⟨rfl,vs,hvs,hrun⟩:=hok;refine cro _ ?_ (hnd (λ_ _ h=>by cases h) (λh=>by cases h)) he;rw[hrun];exact hc.call f ar H1 σ w vs hs.sim hvs
  |yield bk ar H1=>
   obtain⟨rfl,l,vs,hl,hvs,hrun⟩:=hok;refine cro _ ?_ (hnd (λ_ _ h=>by cases h) (λh=>by cases h)) he;rw[hrun];exact hc.yld bk ar H1 σ w l vs (Tr.refl hs.sim) hl hvs
  |pan v H1=>
   obtain⟨rfl,u,hu,hrun⟩:=hok;have hE:Ends P (λ_ _=>False) (λy w2=>y=u∧w2=w) ((execOp a.eval o).run P w):=by rw[hrun];exact⟨rfl,rfl⟩
   rcases OE (b:=b) (k:=k) (cs:=K x.rc.isSome) (rest:=rest) ho hw (hnd (λ_ _ h=>by cases h) (λh=>by cases h)) hE with⟨_,_,h,_⟩|⟨u',w',⟨rfl,rfl⟩,hst⟩
   ·exact h.elim
   ·exact pan σ H1 _ v _ (Tr.refl hs.sim) hu he hst
  |recov=>
   have hok:(execOp a.eval o).run P w=.ok .recover w:=hok;cases hrnd:c.rnd with
   |true=>simp only[Kj,dB,hrnd] at he;cases he
   |false=>
    have hb:=hc.rnd hrnd;simp only[Kj,dB,hrnd] at he;cases hrc:x.rc with
    |some v=>
     rw[hrc] at he;obtain⟨u,hu,htr⟩:=hs.rc.yes v hrc;have hst:=AN (P:=P) (k:=k) (cs:=K x.rc.isSome) (rest:=rest) ho hw hb hok (v:=u) (cs':=K false) (.inl (by rw[cH K hrc];exact htr));have s1:St P σ b K N lo (UN o.dst tm v) H ⟨x.df,none⟩ (a.put o.dst u) w:=
      ⟨hs.sim,hs.tm.put hN hu,by rw[P5];exact hs.df,⟨hs.rc.no,λ_ h=>by cases h⟩,hs.lo⟩
     obtain⟨σ2,a2,w2,t2,s2,u2,CZ⟩:=hnext c b K lo σ _ H ⟨x.df,none⟩ _ w k out tm' H' x' hc s1 he;rw[hrc] at hst;exact⟨σ2,a2,w2,t2,s2,λn hn=>by rw[u2 n hn,old u n hn],.of_steps hst CZ⟩
    |none=>
     rw[hrc] at he;have hst:=AN (P:=P) (k:=k) (cs:=K x.rc.isSome) (rest:=rest) ho hw hb hok (v:=.nilIface) (cs':=K x.rc.isSome) (.inr ⟨by rw[hrc];exact hs.rc.no,rfl,rfl⟩);rw[<-hrc];exact val σ H w .nili .nilIface (Tr.refl hs.sim) (by simp[Ym]) he hst
  |defer f ar=>
   cases hrnd:c.rnd with
   |true=>simp only[Kj,dB,hrnd] at he;split at he<;>cases he
   |false=>
    have hb:=hc.rnd hrnd;cases f with
    |func g p q=>
     simp only[Kj,dB,hrnd] at he;obtain⟨xs,ys,zs,h1,h2,h3,hrun⟩:=hok g p q rfl;have hst:=Zbu (P:=P) (k:=k) (cs:=K x.rc.isSome) (rest:=rest) ho hw hb hrun;have s1:St P σ b K N lo (UN o.dst tm Y9) H ⟨(.func g p q,ar)::x.df,x.rc⟩ ({a with defers:={target:=.fn (.func g) ⟨zs⟩,args:=⟨xs++ys⟩}::a.defers}.put o.dst undef) w:=by
      refine⟨hs.sim,?_,?_,hs.rc,hs.lo⟩
      ·have:=hs.tm.put (v:=Y9) (u:=undef) hN (by simp[Y9,undef,Ym,YR])
       rw[FF] at this ⊢;exact this
      ·rw[P5];exact .call h1 h2 h3 hs.df
     obtain⟨σ2,a2,w2,t2,s2,u2,CZ⟩:=hnext c b K lo σ _ H ⟨(.func g p q,ar)::x.df,x.rc⟩ _ w k out tm' H' x' hc s1 he;refine⟨σ2,a2,w2,t2,s2,λn hn=>?_,.of_steps hst CZ⟩;rw[u2 n hn];have:=old undef n hn;rw[FF] at this ⊢;exact this
    |_=>simp only[Kj,dB] at he;cases he
def EH{σ:Mp}:Ym σ Y9 undef:=by simp[Y9,undef,Ym,YR]
def dT{ops:Array Oper}{ds:List Nat}: ∀(l:List Oper) (j:Nat),(∀i,l[i]? =ops[j+i]?)->(∀o∈l,oH N o.dst=true∧ ∀t,o.dst=some t->t∈ds)->
  UC P N (mM P ops l) [.inRegion ops (List.range' j l.length)] ds:=by
 intro l
 induction l with
 |nil=>intro j _ _;exact(Ge ds).steps λ_ _ _ _ _=>.one stepR_region_end
 |cons o l ih=>
  intro j hl hd;have hnext:=ih (j+1) (λi=>by have:=hl (i+1);rw[show j+(i+1)=j+1+i by omega] at this;simpa using this) λo' h=>hd o' (ZC _ h);have ho:ops[j]? =some o:=by simpa using (hl 0).symm
  obtain⟨hN,hds⟩:=hd o (Zw ..);intro c b K lo σ tm H x a w k out tm' H' x' hc hs he;show ∃σ' a' w',_∧_∧_∧zJ P (lone (b.atR a (.inRegion ops (List.range' j (l.length+1))::k)) (K x.rc.isSome) w) b k (K x'.rc.isSome) σ' out a' w';rw[RJ];unfold mM at he;cases hg:Sd P ops o with
  |none=>simp only[hg] at he;exact qQ ho hN hds hnext hc hs (B0 hg _) he
  |some gq=>
   obtain⟨g,q⟩:=gq;simp only[hg] at he;rcases vU (AO hs.sim hs.tm) hg he (by simp) with⟨hw,he⟩|⟨hw,he⟩
   ·exact qQ ho hN hds hnext hc hs hw he
   ·have hst:=stepR_op_skip (P:=P) (b:=b) (a:=a) (k:=k) (cs:=K x.rc.isSome) (w:=w) (ops:=ops) (i:=j) (rest:=List.range' (j+1) l.length) (by rw[ho];exact hw)
    have s1:St P σ b K N lo (UN o.dst tm Y9) H x (a.put o.dst undef) w:=hs.step (Tr.refl hs.sim) (hs.tm.put hN EH) (P5 a o.dst undef);obtain⟨σ2,a2,w2,t2,s2,u2,CZ⟩:=hnext c b K lo σ _ H x _ w k out tm' H' x' hc s1 he;rw[ho] at hst;exact⟨σ2,a2,w2,t2,s2,λn hn=>(u2 n hn).trans (put_old a o.dst undef (λt ht e=>hn (by rw[e];exact hds t ht))),.of_steps (.one hst) CZ⟩
def uP{id:Nat}{ops:Array Oper}(h:ops.toList.all (λo=>oH N o.dst)=true):UC P N (mM P ops ops.toList) [.code (.region id ops false)] (ops.toList.filterMap (·.dst)):=by
 have:=dT (P:=P) (N:=N) (ops:=ops) (ds:=ops.toList.filterMap (·.dst)) ops.toList 0 (λi=>by simp) (λo ho=>⟨Ya.1 h o ho,λt ht=>List.mem_filterMap.2 ⟨o,ho,ht⟩⟩)
 refine this.steps λb a k cs w=>.one ?_;have hr:List.range' 0 ops.toList.length=List.range ops.size:=by rw[List.range_eq_range'];simp
 rw[hr];exact stepR_region
end
section
def QS(n m:Nat):Nat.testBit (bit n) m=decide (n=m):=Nat.testBit_two_pow
def VT(a b k:Nat):Nat.testBit (Nat.lor a b) k=(Nat.testBit a k||Nat.testBit b k):=Nat.testBit_or a b k
def Cn{a b k:Nat}(h:Nat.beq (Nat.land a b) b=true)(hk:Nat.testBit b k=true):Nat.testBit a k=true:=by
 have h:=Yf h;have:Nat.testBit (Nat.land a b) k=(Nat.testBit a k&&Nat.testBit b k):=Nat.testBit_and a b k;rw[h,hk] at this
 simpa using this.symm
def FY{l:List Nat}{t:Nat}(h:t∈l):Nat.testBit (K9 l) t=true:=by
 induction l with
 |nil=>cases h
 |cons x l ih=>
  show Nat.testBit (Nat.lor (bit x) (K9 l)) t=true;rw[VT,QS];rcases ZY.1 h with e|e
  ·simp[e]
  ·simp[ih e]
def New(q:SI)(pre:List SI):Prop:=
 (∀t,q.d=some t->(∀p∈pre,t∉p.lk∧p.d≠some t)∧t∉q.lk)∨(q.eff=true∧ ∀p∈pre,Nat.testBit q.bef p.i=true∨ ∀t,q.d=some t->t∉p.lk∧p.d≠some t)
def Si:List SI->List SI->Prop
 |_,[]=>True
 |pre,q::l=>(q.eff=true-> ∀r∈l,Nat.testBit r.bef q.i=true)∧New q pre∧(∀t∈q.lk,∀p∈pre,p.d=some t->Nat.testBit q.bef p.i=true)∧
   (∀p∈pre,p.i≠q.i)∧Si (pre++[q]) l
def eR{p:SI}{d:Option Nat}{t:Nat}(h:Zbe p d=true)(ht:d=some t):t∉p.lk∧p.d≠some t:=by
 subst ht;unfold Zbe at h;have h:cond (p.lk.all λs=>cond (Nat.beq s t) false true) (match p.d with|some s=>cond (Nat.beq s t) false true|none=>true) false=true:=h;cases h1:(p.lk.all λs=>cond (Nat.beq s t) false true) with
 |false=>rw[h1] at h;cases h
 |true=>
  rw[h1] at h;refine⟨λhm=>?_,λhd=>?_⟩
  ·have:=Ya.1 h1 t hm
   rw[YD] at this;cases this
  ·have h:(match p.d with|some s=>cond (Nat.beq s t) false true|none=>true)=true:=h
   rw[hd] at h;have h:cond (Nat.beq t t) false true=true:=h;rw[YD] at h;cases h
theorem AR{ws:List (Nat×Nat)}{l0:List SI}: ∀{l:List SI} {em sm im all:Nat},Kg ws l0 l em sm im all=true-> ∀r∈l,∀k,Nat.testBit em k=true->Nat.testBit r.bef k=true
 |[],_,_,_,_,_,r,hr,_,_=>by cases hr
 |q::l,em,sm,im,all,h,r,hr,k,hk=>by
  unfold Kg at h;cases h1:Nat.beq (Nat.land q.bef em) em with
  |false=>rw[h1] at h;cases h
  |true=>
   rw[h1] at h;rcases ZY.1 hr with e|e
   ·subst e;exact Cn h1 hk
   ·cases h2:jS l0 q sm im with
    |false=>rw[h2] at h;cases h
    |true=>
     rw[h2] at h;cases h3:q.lk.all (Zeh ws im q.bef) with
     |false=>rw[h3] at h;cases h
     |true=>
      rw[h3] at h;cases h4:Nat.testBit im q.i with
      |true=>rw[h4] at h;cases h
      |false=>
       rw[h4] at h;refine AR h r e k ?_;cases q.eff
       ·exact hk
       ·show Nat.testBit (Nat.lor em (bit q.i)) k=true
        rw[VT,hk];rfl
theorem FD{ws:List (Nat×Nat)}{l0:List SI}: ∀{l:List SI} {pre:List SI} {em sm im all:Nat},Kg ws l0 l em sm im all=true->
  (∀p∈pre++l,p∈l0)->(∀p∈pre++l,∀t,p.d=some t->(t,p.i)∈ws)->(∀p∈pre,(∀t∈p.lk,Nat.testBit sm t=true)∧ ∀t,p.d=some t->Nat.testBit sm t=true)->
  (∀i,Nat.testBit im i=true↔ ∃p∈pre,p.i=i)->Si pre l∧ ∀i,Nat.testBit all i=true↔ ∃p∈pre++l,p.i=i
 |[],pre,em,sm,im,all,h,_,_,_,him=>by
  have h:im=all:=Yf h;subst h;exact⟨trivial,by simpa using him⟩
 |q::l,pre,em,sm,im,all,h,hl0,hws,hsm,him=>by
  have hem:=AR h;unfold Kg at h;cases h1:Nat.beq (Nat.land q.bef em) em with
  |false=>rw[h1] at h;cases h
  |true=>
   rw[h1] at h;cases h2:jS l0 q sm im with
   |false=>rw[h2] at h;cases h
   |true=>
    rw[h2] at h;cases h3:q.lk.all (Zeh ws im q.bef) with
    |false=>rw[h3] at h;cases h
    |true=>
     rw[h3] at h;cases h4:Nat.testBit im q.i with
     |true=>rw[h4] at h;cases h
     |false=>
      rw[h4] at h;have h:Kg ws l0 l (cond q.eff (Nat.lor em (bit q.i)) em) (Nat.lor (Nat.lor sm (K9 q.lk)) (ZhF q.d)) (Nat.lor im (bit q.i)) all=true:=h;have hrec:=FD (pre:=pre++[q]) h (by simpa using hl0) (by simpa using hws) ?_ ?_
      ·refine⟨⟨?_,?_,?_,?_,hrec.1⟩,by simpa using hrec.2⟩
       ·intro he r hr
        refine AR h r hr q.i ?_;rw[he];show Nat.testBit (Nat.lor em (bit q.i)) q.i=true;rw[VT,QS];simp
       ·unfold jS at h2
        cases h5:dOk q.d (Nat.lor sm (K9 q.lk)) with
        |true=>
         refine .inl λt ht=>?_;rw[ht] at h5;unfold dOk at h5;have h6:Nat.testBit (Nat.lor sm (K9 q.lk)) t=false:=by
          cases h7:Nat.testBit (Nat.lor sm (K9 q.lk)) t with
          |false=>rfl
          |true=>simp only[h7] at h5;cases h5
         rw[VT,Qy] at h6;refine⟨λp hp=>⟨λhm=>?_,λhm=>?_⟩,λhm=>?_⟩
         ·rw[(hsm p hp).1 t hm] at h6;exact absurd h6.1 (by decide)
         ·rw[(hsm p hp).2 t hm] at h6;exact absurd h6.1 (by decide)
         ·rw[FY hm] at h6;exact absurd h6.2 (by decide)
        |false=>
         rw[h5] at h2;cases h6:q.eff with
         |false=>rw[h6] at h2;cases h2
         |true=>
          rw[h6] at h2;refine .inr ⟨by simp[h6],λp hp=>?_⟩;have h7:=Ya.1 h2 p (hl0 p (Zt.2 (.inl hp)));rw[(him p.i).2 ⟨p,hp,rfl⟩] at h7;cases h8:Nat.testBit q.bef p.i with
          |true=>exact .inl rfl
          |false=>
           rw[h8] at h7;exact .inr λt ht=>eR h7 ht
       ·intro t ht p hp hd
        have h5:=Ya.1 h3 t ht;unfold Zeh at h5;have h6:=Ya.1 h5 (t,p.i) (hws p (Zt.2 (.inl hp)) t hd);have h7:Nat.beq t t=true:=YD t;have h8:Nat.testBit im p.i=true:=(him p.i).2 ⟨p,hp,rfl⟩;simp only[h7,h8,cond_true] at h6;exact h6
       ·intro p hp e
        have:Nat.testBit im q.i=true:=(him q.i).2 ⟨p,hp,e⟩;rw[h4] at this;cases this
      ·intro p hp
       rcases Zt.1 hp with hp|hp
       ·refine⟨λt ht=>?_,λt ht=>?_⟩
        ·rw[VT,VT,(hsm p hp).1 t ht];rfl
        ·rw[VT,VT,(hsm p hp).2 t ht];rfl
       ·obtain rfl:p=q:=by simpa using hp
        refine⟨λt ht=>?_,λt ht=>?_⟩
        ·rw[VT,VT,FY ht];simp
        ·rw[VT,ht]
         have:Nat.testBit (ZhF (some t)) t=true:=by show Nat.testBit (bit t) t=true;rw[QS];simp
         rw[this];simp
      ·intro i
       rw[VT,QS,UX,him i];constructor
       ·rintro (⟨p,hp,e⟩|e)
        ·exact⟨p,Zt.2 (.inl hp),e⟩
        ·exact⟨q,by simp,by simpa using e⟩
       ·rintro ⟨p,hp,e⟩
        rcases Zt.1 hp with hp|hp
        ·exact .inl ⟨p,hp,e⟩
        ·obtain rfl:p=q:=by simpa using hp
         exact .inr (by simpa using e)
theorem Rl: ∀(l:List Oper) (i:Nat) (acc:List (Nat×Nat)) (x:Oper×Nat×Nat),x∈vC l i acc->
  (∃j,l[j]? =some x.1∧x.2.1=i+j)∧ ∃acc',x.2.2=Hh acc' x.1∧ ∀y∈acc',y∈acc∨ ∃z∈vC l i acc,z.2=y
 |[],_,_,_,h=>by cases h
 |o::l,i,acc,x,h=>by
  unfold vC at h;rcases ZY.1 h with e|e
  ·subst e
   exact⟨⟨0,rfl,rfl⟩,acc,rfl,λy hy=>.inl hy⟩
  ·obtain⟨⟨j,h1,h2⟩,acc',h3,h4⟩:=Rl l (i+1) ((i,Hh acc o)::acc) x e
   refine⟨⟨j+1,by simpa using h1,by omega⟩,acc',h3,λy hy=>?_⟩;unfold vC;rcases h4 y hy with h5|⟨z,h5,h6⟩
   ·rcases ZY.1 h5 with h5|h5
    ·exact .inr ⟨(o,i,Hh acc o),Zw ..,h5.symm⟩
    ·exact .inl h5
   ·exact .inr ⟨z,ZC _ h5,h6⟩
def mf{l:List (Nat×Nat)}{k b:Nat}(h:l.lookup k=some b):(k,b)∈l:=by
 induction l with
 |nil=>cases h
 |cons x l ih=>
  obtain⟨i,c⟩:=x;rw[List.lookup_cons] at h
  by_cases e:k=i
  ·subst e
   simp at h;subst h;exact Zw ..
  ·have:(k==i)=false:=by simpa using e
   rw[this] at h;exact ZC _ (ih h)
def oO{acc:List (Nat×Nat)}{o:Oper}{k:Nat}(h:Nat.testBit (Hh acc o) k=true):
  ∃e∈o.after.toList,Region.binds .any e=true∧(k=e.on∨ ∃b,(e.on,b)∈acc∧Nat.testBit b k=true):=by
 unfold Hh at h;have key: ∀(l:List Edge) (s:Nat),Nat.testBit (l.foldl (λs e=>cond (Region.binds .any e) (Nat.lor (Nat.lor s (Nat.pow 2 e.on)) ((acc.lookup e.on).getD 0)) s) s) k=true->
   Nat.testBit s k=true∨ ∃e∈l,Region.binds .any e=true∧(k=e.on∨ ∃b,(e.on,b)∈acc∧Nat.testBit b k=true):=by
  intro l
  induction l with
  |nil=>intro s h;exact .inl h
  |cons e l ih=>
   intro s h;rw[Vz] at h;rcases ih _ h with h1|⟨e',h1,h2⟩
   ·cases hb:Region.binds .any e with
    |false=>rw[hb] at h1;exact .inl h1
    |true=>
     rw[hb] at h1;have h1:Nat.testBit (Nat.lor (Nat.lor s (bit e.on)) ((acc.lookup e.on).getD 0)) k=true:=h1;rw[VT,VT,QS,UX,UX] at h1;rcases h1 with(h1|h1)|h1
     ·exact .inl h1
     ·exact .inr ⟨e,Zw ..,hb,.inl (by simpa using h1|>Zr|>Eq.symm)⟩
     ·cases hl:acc.lookup e.on with
      |none=>rw[hl] at h1;simp at h1
      |some b=>
       rw[hl] at h1;exact .inr ⟨e,Zw ..,hb,.inr ⟨b,mf hl,h1⟩⟩
   ·exact .inr ⟨e',ZC _ h1,h2⟩
 rcases key _ 0 h with h1|h1
 ·simp at h1
 ·exact h1
def Hi{l:List Oper}{x:Oper×Nat×Nat}(h:x∈vC l 0 []){k:Nat}(hk:Nat.testBit x.2.2 k=true):
  ∃e∈x.1.after.toList,Region.binds .any e=true∧(k=e.on∨ ∃y∈vC l 0 [],y.2.1=e.on∧Nat.testBit y.2.2 k=true):=by
 obtain⟨_,acc,h1,h2⟩:=Rl l 0 [] x h;rw[h1] at hk;obtain⟨e,he,hb,h3⟩:=oO hk;refine⟨e,he,hb,?_⟩;rcases h3 with h3|⟨b,h3,h4⟩
 ·exact .inl h3
 ·rcases h2 _ h3 with h5|⟨z,h5,h6⟩
  ·cases h5
  ·exact .inr ⟨z,h5,by rw[h6],by rw[h6];exact h4⟩
theorem Hr: ∀(f:Nat) (l:List SI) (done:Nat),∀q∈BL f l done,q∈l
 |0,_,_,q,h=>by cases h
 |f+1,l,done,q,h=>by
  unfold BL at h;dsimp only at h
  split at h
  ·rename_i p hp
   have hp1:p∈l:=(TU.1 (List.mem_of_find?_eq_some hp)).1;rcases ZY.1 h with e|e
   ·subst e;exact hp1
   ·exact(TU.1 (Hr f _ _ q e)).1
  ·split at h
   ·rename_i p r hp
    have hp1:p∈l:=(TU.1 (by rw[hp];exact Zw ..)).1;rcases ZY.1 h with e|e
    ·subst e;exact hp1
    ·exact(TU.1 (Hr f _ _ q e)).1
   ·cases h
variable {P:Program}
def Ci(o:Oper):List Nat:=(uS o.op.operands.toList).filter (λt=>Nat.ble t 511)
def Jo(o:Oper):UF o=(Ci o).map λt=>(P8 t,SN t):=by
 unfold UF Ci
 induction uS o.op.operands.toList with
 |nil=>rfl
 |cons t l ih=>
  cases h:Nat.ble t 511 with
  |true=>simp only[List.filterMap_cons,List.filter_cons,h,cond_true,if_true,ZD,ih]
  |false=>simp only[List.filterMap_cons,List.filter_cons,h,cond_false,ih];simp
def Nq{o:Oper}{t:Nat}(h:t∈Ci o):t<512:=Qs (ZS (TU.1 h).2)
def MF{ops:Array Oper}{o:Oper}{t:Nat}(h:t∈Ci o):t∈Rt ops o:=Zt.2 (.inl (TU.1 h).1)
theorem kX: ∀(l:List Nat) (tm:TM) (n:Nat),n<512->(∀t∈l,t<512)->SN n (OG tm (l.map λt=>(P8 t,SN t)))=if n∈l then SN n tm else .unk
 |[],tm,n,hn,_=>by simpa [OG] using kY n
 |t::l,tm,n,hn,hl=>by
  show SN n (P8 t (OG tm (l.map λt=>(P8 t,SN t))) (SN t tm))=_;rw[GO n t hn (hl t (Zw ..)),kX l tm n hn λt h=>hl t (ZC _ h)]
  by_cases e:n=t
  ·subst e;simp
  ·simp[e]
def wA{o:Oper}{tm tm':TM}(h: ∀t∈Ci o,SN t tm'=SN t tm):OG tm' (UF o)=OG tm (UF o):=by
 rw[Jo];generalize Ci o=l at h
 induction l with
 |nil=>rfl
 |cons t l ih=>
  show P8 t (OG tm' (l.map λt=>(P8 t,SN t))) (SN t tm')=P8 t (OG tm (l.map λt=>(P8 t,SN t))) (SN t tm);rw[ih λt h'=>h t (ZC _ h'),h t (Zw ..)]
theorem xr{n:Nat}{tm:TM}: ∀{l:List Nat},Ou n tm (l.map λt=>(P8 t,SN t))=true-> ∀t∈l,WZ n (SN t tm)=true
 |[],_,t,ht=>by cases ht
 |t'::l,h,t,ht=>by
  have h:cond (WZ n (SN t' tm)) (Ou n tm (l.map λt=>(P8 t,SN t))) false=true:=h;cases h1:WZ n (SN t' tm) with
  |false=>rw[h1] at h;cases h
  |true=>
   rw[h1] at h;rcases ZY.1 ht with e|e
   ·subst e;exact h1
   ·exact xr h t e
def Fx{σ:Mp}{H:Heap}{w:World}(hs:WW P σ H w){o:Oper}{tm:TM}{a:Act}(h: ∀t∈Ci o,Ym σ (SN t tm) (a.tmps.getD t undef)):RG P σ (OG tm (UF o)) a.eval:=by
 refine AO (N:=0) hs ⟨ZN _,λn hn=>?_⟩;rw[Jo,kX _ _ _ hn λt ht=>Nq ht]
 by_cases e:n∈Ci o
 ·rw[if_pos e];exact h n e
 ·rw[if_neg e];simp[Ym]
end
def Wu{a b:Bool}(h:cond a b false=true):a=true∧b=true:=by cases a<;>cases b<;>first|exact⟨rfl,rfl⟩|cases h
def JT{b n:Nat}(h:Nat.ble (Nat.succ b) n=true):b<n:=ZS h
def Mp.cut(σ:Mp)(n:Nat):Mp:=λb=>if b<n then σ b else none
def Mp.cut_lt{σ:Mp}{n b:Nat}(h:b<n):σ.cut n b=σ b:=by unfold Mp.cut;rw[if_pos h]
def Mp.cut_some{σ:Mp}{n b:Nat}{l:Loc}(h:σ.cut n b=some l):b<n∧σ b=some l:=by
 unfold Mp.cut at h
 split at h
 ·exact⟨by assumption,h⟩
 ·cases h
mutual
theorem Ym.cut{σ:Mp}{n:Nat}: ∀{a:AV} {v:Value},WZ n a=true->Ym σ a v->Ym (σ.cut n) a v
 |.unk,_,_,_=>by simp[Ym]
 |.bool b,v,_,r=>by simpa [Ym] using r
 |.int k n,v,_,r=>by simpa [Ym] using r
 |.str s,v,_,r=>by simpa [Ym] using r
 |.nilp,v,_,r=>by simpa [Ym] using r
 |.ptr b o,v,h,r=>by
  simp only[Ym] at r ⊢;obtain⟨l,hl,hv⟩:=r;exact⟨l,by rw[Mp.cut_lt (JT h)];exact hl,hv⟩
 |.nils,v,_,r=>by simpa [Ym] using r
 |.slice0,v,_,r=>by simpa [Ym] using r
 |.slice b o n cap,v,h,r=>by
  simp only[Ym] at r ⊢;obtain⟨l,hl,hv⟩:=r;exact⟨l,by rw[Mp.cut_lt (JT h)];exact hl,hv⟩
 |.nilm,v,_,r=>by simpa [Ym] using r
 |.map b,v,h,r=>by
  simp only[Ym] at r ⊢;obtain⟨l,hl,hv⟩:=r;exact⟨l,by rw[Mp.cut_lt (JT h)];exact hl,hv⟩
 |.func f a b,v,h,r=>by
  have h:=Wu h;simp only[Ym] at r ⊢;obtain⟨x,y,hx,hy,hv⟩:=r;exact⟨x,y,YR.cut h.1 hx,YR.cut h.2 hy,hv⟩
 |.meth m a,v,h,r=>by
  simp only[Ym] at r ⊢;obtain⟨x,hx,hv⟩:=r;exact⟨x,Ym.cut (a:=a) h hx,hv⟩
 |.yield b,v,h,r=>by
  simp only[Ym] at r ⊢;obtain⟨l,hl,hv⟩:=r;exact⟨l,by rw[Mp.cut_lt (JT h)];exact hl,hv⟩
 |.nilf,v,_,r=>by simpa [Ym] using r
 |.iface t x,v,h,r=>by
  simp only[Ym] at r ⊢;obtain⟨y,hy,hv⟩:=r;exact⟨y,Ym.cut (a:=x) h hy,hv⟩
 |.nili,v,_,r=>by simpa [Ym] using r
 |.agg cs,v,h,r=>by
  simp only[Ym] at r ⊢;obtain⟨vs,hx,h1,hv⟩:=r;exact⟨vs,YR.cut (as:=cs) h hx,h1,hv⟩
 |.tup cs,v,h,r=>by
  simp only[Ym] at r ⊢;obtain⟨vs,hx,hv⟩:=r;exact⟨vs,YR.cut (as:=cs) h hx,hv⟩
theorem YR.cut{σ:Mp}{n:Nat}: ∀{as:List AV} {l:List Value},Pu n as=true->YR σ as l->YR (σ.cut n) as l
 |[],l,_,r=>by simpa [YR] using r
 |a::as,l,h,r=>by
  have h:=Wu h;simp only[YR] at r ⊢;obtain⟨v,vs,h1,h2,h3⟩:=r;exact⟨v,vs,Ym.cut h.1 h1,YR.cut h.2 h2,h3⟩
end
section
variable {P:Program}
def WW.cut{σ:Mp}{H:Heap}{w:World}(hs:WW P σ H w){n:Nat}(hn:P.globals.size<=n):WW P (σ.cut n) ⟨n,.leaf,n⟩ w:=by
 refine⟨λb l h=>(Mp.cut_some h).1,λb o h=>?_,λb o l h _=>?_,λb b' o o' l l' h _ _ _ _=>?_,λg hg=>?_,Zs _⟩
 ·rw[T.get_leaf] at h;cases h
 ·rw[T.get_leaf] at h;cases h
 ·rw[T.get_leaf] at h;cases h
 ·obtain⟨l,h1,h2⟩:=hs.glob g hg
  exact⟨l,by rw[Mp.cut_lt (by omega)];exact h1,h2⟩
def WW.grow{σ:Mp}{H:Heap}{w w1:World}(hs:WW P σ H w)(h: ∀k,k<w.heap.size->w1.heap[k]? =w.heap[k]?):WW P σ H w1:=by
 refine⟨hs.dom,hs.low,λb o l hb hl=>?_,hs.inj,hs.glob,hs.ro⟩;obtain⟨c,hc,hr⟩:=hs.alive b o l hb hl;exact⟨c,by rw[h _ (ZX.1 hc).1];exact hc,hr⟩
def WW.ro'{σ:Mp}{H:Heap}{w:World}(hs:WW P σ H w):WW P σ ⟨H.nx,H.t,H.nx⟩ w:=⟨hs.dom,hs.low,hs.alive,hs.inj,hs.glob,Zs _⟩
def WW.pendNew{σ:Mp}{H:Heap}{w:World}(hs:WW P σ H w)(o:Obj):WW P σ (H.new o) w:=by
 have hf:=hs.fresh (Zs H.nx);refine⟨λb l h=>Nat.lt_succ_of_lt (hs.dom b l h),λb o' h=>?_,λb o' l h hl=>?_,λb b' o1 o2 l l' h h' hl hl'=>?_,hs.glob,Nat.le_succ_of_le hs.ro⟩
 ·rw[Heap.get_new] at h
  show b<H.nx+1
  by_cases e:H.nx=b
  ·omega
  ·rw[if_neg e] at h;exact Nat.lt_succ_of_lt (hs.low b o' h)
 ·rw[Heap.get_new] at h
  by_cases e:H.nx=b
  ·subst e;rw[hf] at hl;cases hl
  ·rw[if_neg e] at h;exact hs.alive b o' l h hl
 ·rw[Heap.get_new] at h h'
  by_cases e:H.nx=b
  ·subst e;rw[hf] at hl;cases hl
  ·by_cases e':H.nx=b'
   ·subst e';rw[hf] at hl';cases hl'
   ·rw[if_neg e] at h;rw[if_neg e'] at h';exact hs.inj b b' o1 o2 l l' h h' hl hl'
structure vx(σ:Mp)(H:Heap)(w:World)(σ':Mp)(H':Heap)(w':World):Prop where
 ext:Ext σ σ'
 size:w.heap.size<=w'.heap.size
 frame: ∀k,k<w.heap.size->(∀b l,Wr H b->σ b=some l->l.blk≠k)->w'.heap[k]? =w.heap[k]?
 wr: ∀b l,Wr H' b->σ' b=some l->l.blk<w.heap.size-> ∃b0 l0,Wr H b0∧σ b0=some l0∧l0.blk=l.blk
 nx:H.nx<=H'.nx
 ro:H'.ro=H.ro
 low: ∀b,b<H.ro->H'.t.get b=H.t.get b
 tape:w'.tape=w.tape
 os:w'.os=w.os
 out:w'.output=w.output
def Tr.toW{σ σ':Mp}{H H':Heap}{w w':World}(h:Tr P σ H w σ' H' w'):vx σ H w σ' H' w':=⟨h.ext,h.size,h.frame,h.wr,h.nx,h.ro,h.low,h.tape,h.os,h.out⟩
def vx.trans{σ σ' σ'':Mp}{H H' H'':Heap}{w w' w'':World}(h:vx σ H w σ' H' w')(h':vx σ' H' w' σ'' H'' w''):vx σ H w σ'' H'' w'':=by
 refine⟨h.ext.trans h'.ext,Yb h.size h'.size,?_,?_,Yb h.nx h'.nx,h'.ro.trans h.ro,?_,h'.tape.trans h.tape,h'.os.trans h.os,h'.out.trans h.out⟩
 ·intro k hk hn
  rw[h'.frame k (ZK hk h.size) ?_,h.frame k hk hn];intro b l hw hl e;obtain⟨b0,l0,hw0,hl0,e0⟩:=h.wr b l hw hl (by rw[e];exact hk);exact hn b0 l0 hw0 hl0 (e0.trans e)
 ·intro b l hw hl hlt
  obtain⟨b1,l1,hw1,hl1,e1⟩:=h'.wr b l hw hl (ZK hlt h.size);obtain⟨b0,l0,hw0,hl0,e0⟩:=h.wr b1 l1 hw1 hl1 (by rw[e1];exact hlt);exact⟨b0,l0,hw0,hl0,e0.trans e1⟩
 ·intro b hb
  rw[h'.low b (by rw[h.ro];exact hb),h.low b hb]
def vx.refl(σ:Mp)(H:Heap)(w:World):vx σ H w σ H w:=
 ⟨Ext.refl σ,Zs _,λ_ _ _=>rfl,λb l hw hl _=>⟨b,l,hw,hl,rfl⟩,Zs _,rfl,λ_ _=>rfl,rfl,rfl,rfl⟩
def vx.full{σ σ':Mp}{H H':Heap}{w w':World}(h:vx σ H w σ' H' w')(hs:WW P σ' H' w')(hp: ∀b,b<H.nx->σ b=none->H'.t.get b=H.t.get b∧σ' b=none):Tr P σ H w σ' H' w':=
 ⟨h.ext,hs,h.size,h.frame,h.wr,h.nx,h.ro,h.low,h.tape,h.os,h.out,hp⟩
def vx.mem{σ σ':Mp}{H:Heap}{w w':World}(he:Ext σ σ')(hz:w.heap.size<=w'.heap.size)(hf: ∀k,k<w.heap.size->w'.heap[k]? =w.heap[k]?)
  (hnew: ∀b l o,H.t.get b=some o->σ' b=some l->l.blk<w.heap.size->σ b=some l)(ht:w'.tape=w.tape)(hos:w'.os=w.os)(hout:w'.output=w.output):vx σ H w σ' H w':=
 ⟨he,hz,λk hk _=>hf k hk,λb l hw hl hlt=>⟨b,l,hw,let ⟨_,o,ho,_⟩:=hw;hnew b l o ho hl hlt,rfl⟩,Zs _,rfl,λ_ _=>rfl,ht,hos,hout⟩
def vx.pendNew{σ:Mp}{H:Heap}{w:World}(hs:WW P σ H w)(o:Obj):vx σ H w σ (H.new o) w:=by
 have hf:=hs.fresh (Zs H.nx);refine⟨Ext.refl σ,Zs _,λ_ _ _=>rfl,λb l hw hl _=>⟨b,l,?_,hl,rfl⟩,Ve _,rfl,λb hb=>?_,rfl,rfl,rfl⟩
 ·obtain⟨h1,o',h2,h3⟩:=hw
  rw[Heap.get_new] at h2
  by_cases e:H.nx=b
  ·subst e;rw[hf] at hl;cases hl
  ·rw[if_neg e] at h2;exact⟨h1,o',h2,h3⟩
 ·have hro:=hs.ro
  show(H.new o).t.get b=_;rw[Heap.get_new,if_neg (by omega)]
def Wanted(P:Program)(ops:Array Oper)(o:Oper)(tm:TM):Prop:=Sd P ops o=none∨ ∃g q,Sd P ops o=some (g,q)∧g tm=.bool q
def Of(P:Program)(ops:Array Oper)(o:Oper)(tm:TM):Prop:= ∃g q,Sd P ops o=some (g,q)∧(g tm=.bool (!q)∨ ∃vs,g tm=.tup vs)
def Ep{ops:Array Oper}{o:Oper}{tm:TM}{yes no r:UG}(h:MM (Sd P ops o) tm yes no=r)(hr:r≠.fail):(Wanted P ops o tm∧yes=r)∨(Of P ops o tm∧no=r):=by
 unfold MM at h
 split at h
 ·rename_i hg;exact .inl ⟨.inl hg,h⟩
 ·rename_i g q hg
  unfold Qd at h
  split at h
  ·rename_i cv hv
   cases cv<;>cases q
   ·exact .inl ⟨.inr ⟨g,_,hg,hv⟩,h⟩
   ·exact .inr ⟨⟨g,_,hg,.inl hv⟩,h⟩
   ·exact .inr ⟨⟨g,_,hg,.inl hv⟩,h⟩
   ·exact .inl ⟨.inr ⟨g,_,hg,hv⟩,h⟩
  ·rename_i vs hv
   exact .inr ⟨⟨g,q,hg,.inr ⟨vs,hv⟩⟩,h⟩
  ·exact absurd h.symm hr
def K5{ops:Array Oper}{o:Oper}{g:WI}{q:Bool}(h:Sd P ops o=some (g,q)):
  ∃j,o.guard=some (j,q)∧(((ops[j]?).bind (·.dst)=none∧g=k .unk)∨ ∃d,(ops[j]?).bind (·.dst)=some d∧d∈Rt ops o∧((d<512∧g=SN d)∨g=k .unk)):=by
 unfold Sd at h;cases ho:o.guard with
 |none=>rw[ho] at h;cases h
 |some jb=>
  obtain⟨j,bb⟩:=jb;rw[ho] at h;cases hd:(ops[j]?).bind (·.dst) with
  |none=>simp only[hd,Option.some.injEq,Prod.mk.injEq] at h;obtain⟨rfl,rfl⟩:=h;exact⟨j,rfl,.inl ⟨hd,rfl⟩⟩
  |some d=>
   simp only[hd,Option.some.injEq,Prod.mk.injEq] at h;obtain⟨rfl,rfl⟩:=h;refine⟨j,rfl,.inr ⟨d,hd,?_,?_⟩⟩
   ·unfold Rt;rw[ho];exact Zt.2 (.inr (by simp[hd]))
   ·show(d<512∧(cond (Nat.ble d 511) (SN d) (k .unk))=SN d)∨(cond (Nat.ble d 511) (SN d) (k .unk))=k .unk
    cases hb:Nat.ble d 511 with
    |true=>exact .inl ⟨Qs (ZS hb),rfl⟩
    |false=>exact .inr rfl
def Fa{ops:Array Oper}{o:Oper}{g:WI}{q:Bool}(h:Sd P ops o=some (g,q)){tm tm':TM}(he: ∀t∈Rt ops o,t<512->SN t tm'=SN t tm):g tm'=g tm:=by
 obtain⟨j,_,h1⟩:=K5 h;rcases h1 with⟨_,rfl⟩|⟨d,_,hd,⟨hlt,rfl⟩|rfl⟩
 ·rfl
 ·exact he d hd hlt
 ·rfl
def Wanted.congr{ops:Array Oper}{o:Oper}{tm tm':TM}(he: ∀t∈Rt ops o,t<512->SN t tm'=SN t tm)(h:Wanted P ops o tm):Wanted P ops o tm':=by
 rcases h with h|⟨g,q,h,h1⟩
 ·exact .inl h
 ·exact .inr ⟨g,q,h,by rw[Fa h he];exact h1⟩
def Of.congr{ops:Array Oper}{o:Oper}{tm tm':TM}(he: ∀t∈Rt ops o,t<512->SN t tm'=SN t tm)(h:Of P ops o tm):Of P ops o tm':=by
 obtain⟨g,q,h,h1⟩:=h;exact⟨g,q,h,by rw[Fa h he];exact h1⟩
def getD_some{t:Array Value}{d:Nat}{v:Value}(h:t.getD d undef=v)(hv:v≠undef):t[d]? =some v:=by
 rw[ZV] at h;cases h4:t[d]? with
 |none=>rw[h4] at h;exact absurd h.symm hv
 |some u=>rw[h4] at h;exact congrArg some h
def Wanted.run{ops:Array Oper}{o:Oper}{tm:TM}{σ:Mp}{a:Act}(h:Wanted P ops o tm)(hr: ∀t∈Rt ops o,t<512->Ym σ (SN t tm) (a.tmps.getD t undef)):Region.wanted o (yielded ops a.tmps)=true:=by
 rcases h with h|⟨g,q,h,h1⟩
 ·exact B0 h _
 ·obtain⟨j,h2,h3⟩:=K5 h
  rcases h3 with⟨_,rfl⟩|⟨d,hd,hd1,⟨hlt,rfl⟩|rfl⟩
  ·cases h1
  ·have h4:=hr d hd1 hlt
   rw[h1] at h4;have h5:=getD_some (T7 h4) (by simp[undef]);unfold Region.wanted yielded;rw[h2];simp[hd,h5]
  ·cases h1
def Of.run{ops:Array Oper}{o:Oper}{tm:TM}{σ:Mp}{a:Act}(h:Of P ops o tm)(hr: ∀t∈Rt ops o,t<512->Ym σ (SN t tm) (a.tmps.getD t undef)):Region.wanted o (yielded ops a.tmps)=false:=by
 obtain⟨g,q,h,h1⟩:=h;obtain⟨j,h2,h3⟩:=K5 h;rcases h3 with⟨_,rfl⟩|⟨d,hd,hd1,⟨hlt,rfl⟩|rfl⟩
 ·rcases h1 with h1|⟨vs,h1⟩<;>cases h1
 ·have h4:=hr d hd1 hlt
  unfold Region.wanted yielded;rw[h2];rcases h1 with h1|⟨vs,h1⟩
  ·rw[h1] at h4
   have h5:=getD_some (T7 h4) (by simp[undef]);simp[hd,h5]
  ·rw[h1] at h4
   simp only[Ym] at h4;obtain⟨us,_,h4⟩:=h4;rw[ZV] at h4;simp only[hd,Option.bind_some];cases h6:a.tmps[d]? with
   |none=>simp
   |some u=>rw[h6] at h4;have h4:u=_:=h4;subst h4;simp
 ·rcases h1 with h1|⟨vs,h1⟩<;>cases h1
end
def Ls(listed:Array Bool)(j:Nat):Prop:=listed.getD j false=true
def Ls.set{listed:Array Bool}{i j:Nat}(hi:i<listed.size):Ls (listed.setIfInBounds i true) j↔(j=i∨Ls listed j):=by
 unfold Ls
 by_cases e:i=j
 ·subst e;simp[ZV,YK,hi]
 ·rw[ZV,Array.getElem?_setIfInBounds_ne e,<-ZV]
  constructor
  ·exact .inr
  ·rintro (h|h)
   ·exact absurd h.symm e
   ·exact h
section
variable (P:Program) (ops:Array Oper)
def evD(q:SI)(tm:TM)(v:AV):Prop:= ∀t,q.d=some t->t<512->SN t tm=v
abbrev BS:List (Oper×Nat×Nat):=vC ops.toList 0 []
def cG(σ:Mp)(n0:Nat)(H:Heap)(A:Nat->Option Nat)(rs:List RD)(tm:TM)(q:SI):Prop:=
 (Of P ops q.x.1 tm∧evD q tm Y9∧A q.i=none)∨
 (Wanted P ops q.x.1 tm∧ ∃n v H1,Ou n tm (UF q.x.1)=true∧n0<=n∧n<=H.nx∧Uc P q.x.1.op (OG tm (UF q.x.1)) ⟨n,.leaf,n⟩=.val v H1∧evD q tm v∧
  ((A q.i=none∧H1.nx=n)∨(A q.i=some n∧H1.nx=n+1∧σ n=none∧ ∃ob,H1.t.get n=some ob∧wrO ob=true∧H.t.get n=some ob)))∨
 (Wanted P ops q.x.1 tm∧A q.i=none∧ ∃v,(⟨WP P ops q.x,v⟩:RD)∈rs∧evD q tm v)
structure MS(N:Nat)(ds:List Nat)(σ0:Mp)(H0:Heap)(w0:World)(pre:List SI)(rs:List RD)(tm:TM)(H:Heap)(A:Nat->Option Nat)(σ:Mp)(a0 a:Act)(w:World)(listed:Array Bool):Prop where
 size:listed.size=ops.size
 sub: ∀j,Ls listed j-> ∃q∈pre,q.i=j
 bs: ∀q∈pre,q.x∈BS ops∧q=Nb P ops q.x
 closed: ∀x∈BS ops,Ls listed x.2.1-> ∀k,Nat.testBit x.2.2 k=true->Ls listed k
 effs: ∀q∈pre,q.eff=true->Ls listed q.i
 lk: ∀q∈pre,∀t∈q.lk,∀p∈pre,p.d=some t->Nat.testBit q.bef p.i=true∨p.eff=true∨p.i=q.i
 own: ∀q∈pre,q.eff=false-> ∀t,q.d=some t->t∉q.lk
 idx: ∀q∈pre,∀p∈pre,q.i=p.i->q=p
 glob:P.globals.size<=H0.nx
 sim:WW P σ H w
 tr:vx σ0 H0 w0 σ H w
 pend: ∀b,b<H0.nx->σ0 b=none->H.t.get b=H0.t.get b∧σ b=none
 tsz:N<=a.tmps.size
 tmps: ∀n,n<512->(∃q∈pre,¬Ls listed q.i∧q.d=some n)∨Ym σ (SN n tm) (a.tmps.getD n undef)
 old: ∀n,n∉ds->a.tmps[n]? =a0.tmps[n]?
 defers:a.defers=a0.defers
 del: ∀q∈pre,¬Ls listed q.i->cG P ops σ H0.nx H A rs tm q
 ainj: ∀i j n,A i=some n->A j=some n->i=j
 alow: ∀i n,A i=some n->H0.nx<=n∧n<H.nx
end
section
variable {P:Program} {ops:Array Oper} {N:Nat} {ds:List Nat} {σ0:Mp} {H0:Heap} {w0:World} {pre:List SI} {rs:List RD} {tm:TM} {H:Heap} {A:Nat->Option Nat} {σ:Mp} {a0 a:Act} {w:World} {listed:Array Bool}
def MS.before(m:MS P ops N ds σ0 H0 w0 pre rs tm H A σ a0 a w listed){q:SI}(hq:q.x∈BS ops)(hqi:q=Nb P ops q.x)(hr:q.i∈Region.ready .any ops listed):
  ∀k,Nat.testBit q.bef k=true->Ls listed k:=by
 intro k hk;obtain⟨hn,o,ho,hall⟩:=mem_ready.1 hr;have hb:q.bef=q.x.2.2:=by rw[hqi];rfl
 have hi:q.i=q.x.2.1:=by rw[hqi];rfl
 rw[hb] at hk;obtain⟨e,he,hbind,h⟩:=Hi hq hk;obtain⟨⟨j,h1,h2⟩,_⟩:=Rl _ _ _ _ hq;have ho':q.x.1=o:=by
  rw[hi,h2,Zl] at ho;rw[Z7,ho] at h1;exact(Option.some.inj h1).symm
 have hl:Ls listed e.on:=hall e (by rw[<-ho'];exact Xq.1 he) hbind;rcases h with rfl|⟨y,hy,h3,h4⟩
 ·exact hl
 ·exact m.closed y hy (by rw[h3];exact hl) k h4
def MS.oper(m:MS P ops N ds σ0 H0 w0 pre rs tm H A σ a0 a w listed){q:SI}(hq:q∈pre):ops[q.i]? =some q.x.1:=by
 obtain⟨h1,h2⟩:=m.bs q hq;obtain⟨⟨j,h3,h4⟩,_⟩:=Rl _ _ _ _ h1;have:q.i=q.x.2.1:=by rw[h2];rfl
 rw[this,h4,Zl,<-Z7];exact h3
def MS.looks(m:MS P ops N ds σ0 H0 w0 pre rs tm H A σ a0 a w listed){q:SI}(hb: ∀k,Nat.testBit q.bef k=true->Ls listed k)
  (hlk: ∀t∈q.lk,∀p∈pre,p.d=some t->Nat.testBit q.bef p.i=true∨p.eff=true∨Ls listed p.i): ∀t∈q.lk,t<512->Ym σ (SN t tm) (a.tmps.getD t undef):=by
 intro t ht hlt;rcases m.tmps t hlt with⟨p,hp,hnl,Cu⟩|h
 ·rcases hlk t ht p hp Cu with h|h|h
  ·exact absurd (hb _ h) hnl
  ·exact absurd (m.effs p hp h) hnl
  ·exact absurd h hnl
 ·exact h
def MS.exec(m:MS P ops N ds σ0 H0 w0 pre rs tm H A σ a0 a w listed){q:SI}(hq:q∈pre)(hr:q.i∈Region.ready .any ops listed)(hd: ∀t,q.d=some t->t∈ds)(hN:oH N q.d=true)
  {σ2:Mp}{w1:World}{u:Value}(he:Ext σ σ2)(hs2:WW P σ2 H w1)(hz:w.heap.size<=w1.heap.size)(hf: ∀k,k<w.heap.size->w1.heap[k]? =w.heap[k]?)
  (hnew: ∀b l o,H.t.get b=some o->σ2 b=some l->l.blk<w.heap.size->σ b=some l)(ht:w1.tape=w.tape)(hos:w1.os=w.os)(hout:w1.output=w.output)
  (hp: ∀b,b<H.nx->σ b=none->A q.i≠some b->σ2 b=none)(hv: ∀t,q.d=some t->t<512->Ym σ2 (SN t tm) u):
  MS P ops N ds σ0 H0 w0 pre rs tm H A σ2 a0 (a.put q.d u) w1 (listed.setIfInBounds q.i true):=by
 have hi:q.i<listed.size:=by
  rw[m.size];exact(ZX.1 (m.oper hq)).1
 have hbef:=m.before (m.bs q hq).1 (m.bs q hq).2 hr;have hqi:q.i=q.x.2.1:=by have:=(m.bs q hq).2;rw[this];rfl
 have hqb:q.bef=q.x.2.2:=by have:=(m.bs q hq).2;rw[this];rfl
 refine⟨by simpa using m.size,λj hj=>?_,m.bs,λx hx hl k hk=>?_,λp hp' he'=>(Ls.set hi).2 (.inr (m.effs p hp' he')),m.lk,m.own,m.idx,m.glob,hs2,m.tr.trans (vx.mem he hz hf hnew ht hos hout),?_,?_,?_,?_,?_,?_,m.ainj,m.alow⟩
 ·rcases(Ls.set hi).1 hj with rfl|hj
  ·exact⟨q,hq,rfl⟩
  ·exact m.sub j hj
 ·refine(Ls.set hi).2 (.inr ?_)
  rcases(Ls.set hi).1 hl with e|hl
  ·
   obtain⟨⟨j,h1,h2⟩,acc,h3,h4⟩:=Rl _ _ _ _ hx;have:q.i∈Region.ready .any ops listed:=hr;obtain⟨hn,o,ho,hall⟩:=mem_ready.1 hr;obtain⟨e1,he1,hb1,h5⟩:=Hi hx hk;have ho':x.1=o:=by
    rw[<-e,h2,Zl] at ho;rw[Z7,ho] at h1;exact(Option.some.inj h1).symm
   have hl1:Ls listed e1.on:=hall e1 (by rw[<-ho'];exact Xq.1 he1) hb1;rcases h5 with rfl|⟨y,hy,h6,h7⟩
   ·exact hl1
   ·exact m.closed y hy (by rw[h6];exact hl1) k h7
  ·exact m.closed x hx hl k hk
 ·intro b hb hn
  obtain⟨h1,h2⟩:=m.pend b hb hn;refine⟨h1,hp b (ZK hb m.tr.nx) h2 λe=>?_⟩;have:=(m.alow _ _ e).1;omega
 ·rw[FF]
  cases q.d with
  |none=>exact m.tsz
  |some t=>simpa using m.tsz
 ·intro n hn
  by_cases e:q.d=some n
  ·refine .inr ?_
   have hsz:n<a.tmps.size:=by
    rw[e] at hN;exact ZK (ZS hN) m.tsz
   rw[e];show Ym σ2 (SN n tm) ((a.tmps.setIfInBounds n u).getD n undef);rw[ZV,YK];simp only[hsz,if_true];exact hv n e hn
  ·have hget:(a.put q.d u).tmps.getD n undef=a.tmps.getD n undef:=by
    rw[ZV,ZV,put_old a q.d u λt ht' e'=>e (by rw[ht',e'])]
   rcases m.tmps n hn with⟨p,hp',hnl,Cu⟩|h
   ·refine .inl ⟨p,hp',λhl=>?_,Cu⟩
    rcases(Ls.set hi).1 hl with e'|hl
    ·have:p=q:=m.idx p hp' q hq e'
     subst this;exact e Cu
    ·exact hnl hl
   ·exact .inr (by rw[hget];exact h.mono he)
 ·intro n hn
  rw[put_old a q.d u λt ht' e'=>hn (by rw[e'];exact hd t ht')];exact m.old n hn
 ·rw[P5];exact m.defers
 ·intro p hp' hnl
  have fE: ¬Ls listed p.i:=λh=>hnl ((Ls.set hi).2 (.inr h));have hne:p.i≠q.i:=λh=>hnl ((Ls.set hi).2 (.inl h));rcases m.del p hp' fE with h|⟨h1,n,v,H1,h2,h3,h4,h5,h6,h7⟩|h
  ·exact .inl h
  ·refine .inr (.inl ⟨h1,n,v,H1,h2,h3,h4,h5,h6,?_⟩)
   rcases h7 with h7|⟨h7,h8,h9,h10⟩
   ·exact .inl h7
   ·refine .inr ⟨h7,h8,hp n (m.alow _ _ h7).2 h9 λe=>hne (m.ainj _ _ _ h7 e),h10⟩
  ·exact .inr (.inr h)
def iV(n:Nat)(b:Nat): ¬Wr ⟨n,.leaf,n⟩ b:=λh=>by obtain⟨_,o,h,_⟩:=h;rw[T.get_leaf] at h;cases h
def Zmw{σ:Mp}{H:Heap}{w:World}(hs:WW P σ H w)(b:Nat): ¬Wr ⟨H.nx,H.t,H.nx⟩ b:=λh=>by
 obtain⟨h0,o,h,_⟩:=h;have h:H.t.get b=some o:=h;have h0:H.nx<=b:=h0;have:=hs.low b o h;omega
def ZjF{H:Heap}{b:Nat}{o:Obj}(hb:H.t.get b=some o)(hro:H.ro<=b)(h:wrO o=true):Wr H b:=by
 refine⟨hro,o,hb,λr e=>?_,λe=>?_⟩
 ·subst e;exact h
 ·subst e;cases h
theorem p7{tm:TM}{H:Heap}: ∀{rs:List RD},still tm H rs=true-> ∀r∈rs,dD r tm H=true
 |[],_,r,hr=>by cases hr
 |r'::rs,h,r,hr=>by
  have h:=Wu (a:=dD r' tm H) (b:=still tm H rs) h;rcases ZY.1 hr with e|e
  ·subst e;exact h.1
  ·exact p7 h.2 r e
end
mutual
theorem CK: ∀(a b:AV),same a b=true->a=b
 |.unk,b,h=>by cases b<;>(simp[same] at h)
 |.bool x,b,h=>by
  cases b<;>try (simp[same] at h;done)
  rename_i y;cases x<;>cases y<;>first|rfl|(simp[same] at h)
 |.int k n,b,h=>by
  cases b<;>try (simp[same] at h;done)
  rename_i j m;have h:cond (PV k j) (Dw n m) false=true:=by simpa only[same] using h
  obtain⟨h1,h2⟩:=Wu h;rw[Rq h1];rw[Pc] at h2;rw[eq_of_beq h2]
 |.str s,b,h=>by
  cases b<;>try (simp[same] at h;done)
  rename_i t;have h:Mf s t=true:=by simpa only[same] using h
  rw[SZ] at h;rw[eq_of_beq h]
 |.nilp,b,h=>by cases b<;>first|rfl|(simp[same] at h)
 |.ptr x o,b,h=>by
  cases b<;>try (simp[same] at h;done)
  rename_i y p;have h:cond (Nat.beq x y) (Nat.beq o p) false=true:=by simpa only[same] using h
  obtain⟨h1,h2⟩:=Wu h;rw[Yf h1,Yf h2]
 |.nils,b,h=>by cases b<;>first|rfl|(simp[same] at h)
 |.slice0,b,h=>by cases b<;>first|rfl|(simp[same] at h)
 |.slice x o n c,b,h=>by
  cases b<;>try (simp[same] at h;done)
  rename_i y p m d;simp only[same] at h;obtain⟨h1,h2⟩:=Wu h;obtain⟨h2,h3⟩:=Wu h2;obtain⟨h3,h4⟩:=Wu h3;rw[Yf h1,Yf h2,Yf h3];cases c<;>cases d<;>first|rfl|(cases h4;done)|(rw[Yf h4])
 |.nilm,b,h=>by cases b<;>first|rfl|(simp[same] at h)
 |.map x,b,h=>by
  cases b<;>try (simp[same] at h;done)
  rename_i y;have h:Nat.beq x y=true:=by simpa only[same] using h
  rw[Yf h]
 |.func f x y,b,h=>by
  cases b<;>try (simp[same] at h;done)
  rename_i g z u;simp only[same] at h;obtain⟨h1,h2⟩:=Wu h;obtain⟨h2,h3⟩:=Wu h2;rw[Yf h1,Jm x z h2,Jm y u h3]
 |.meth n r,b,h=>by cases b<;>(simp[same] at h)
 |.yield x,b,h=>by cases b<;>(simp[same] at h)
 |.nilf,b,h=>by cases b<;>first|rfl|(simp[same] at h)
 |.iface t v,b,h=>by
  cases b<;>try (simp[same] at h;done)
  rename_i u y;simp only[same] at h;obtain⟨h1,h2⟩:=Wu h;rw[Yf h1,CK v y h2]
 |.nili,b,h=>by cases b<;>first|rfl|(simp[same] at h)
 |.agg x,b,h=>by
  cases b<;>try (simp[same] at h;done)
  rename_i y;simp only[same] at h;rw[Jm x y h]
 |.tup x,b,h=>by
  cases b<;>try (simp[same] at h;done)
  rename_i y;simp only[same] at h;rw[Jm x y h]
theorem Jm: ∀(a b:List AV),sameL a b=true->a=b
 |[],b,h=>by cases b<;>first|rfl|(simp[sameL] at h)
 |x::a,b,h=>by
  cases b with
  |nil=>simp[sameL] at h
  |cons y b=>
   simp only[sameL] at h;obtain⟨h1,h2⟩:=Wu h;rw[CK x y h1,Jm a b h2]
end
section
variable {P:Program} {ops:Array Oper} {N:Nat} {ds:List Nat} {σ0:Mp} {H0:Heap} {w0:World} {pre:List SI} {rs:List RD} {tm:TM} {H:Heap} {A:Nat->Option Nat} {σ:Mp} {a0 a:Act} {w:World} {listed:Array Bool}
def MJ{b:Frame}{k:List Item}{cs:List Frame}{i:Nat}{rest:List Nat}{o:Oper}(ho:ops[i]? =some o)(hw:Region.wanted o (yielded ops a.tmps)=true)(hnd: ∀c,o.op≠.defer c){u:Value}{w1:World}
  (hrun:(execOp a.eval o).run P w=.ok (.value u) w1∨((execOp a.eval o).run P w=.ok .skip w1∧u=undef)):
  Steps P (lone (b.atR a (.inRegion ops (i::rest)::k)) cs w) (lone (b.atR (a.put o.dst u) (.inRegion ops rest::k)) cs w1):=by
 have hE:Ends P (λy w2=>y=u∧w2=w1) (λ_ _=>False) ((execOp a.eval o).run P w):=by
  rcases hrun with hrun|⟨hrun,hu⟩
  ·rw[hrun];exact⟨rfl,rfl⟩
  ·rw[hrun];exact⟨hu.symm,rfl⟩
 rcases OE (b:=b) (k:=k) (cs:=cs) (rest:=rest) ho hw hnd hE with⟨u',w',⟨rfl,rfl⟩,hst⟩|⟨_,_,h,_⟩
 ·exact hst
 ·exact h.elim
def L7{o:Oper}{tm:TM}{H:Heap}{v:AV}{H1:Heap}(h:Uc P o.op tm H=.val v H1): ∀c,o.op≠.defer c:=
 Ja (P:=P) (o:=o) (tm:=tm) (H:=H) (λf ar e=>by rw[h] at e;cases e) (λe=>by rw[h] at e;cases e)
def MS.late(m:MS P ops N ds σ0 H0 w0 pre rs tm H A σ a0 a w listed)(hst:still tm H rs=true){q:SI}(hq:q∈pre)(hnl: ¬Ls listed q.i)(hr:q.i∈Region.ready .any ops listed)
  (hd: ∀t,q.d=some t->t∈ds)(hN:oH N q.d=true)(b:Frame)(k:List Item)(cs:List Frame)(rest:List Nat):
  ∃σ2 a2 w2,MS P ops N ds σ0 H0 w0 pre rs tm H A σ2 a0 a2 w2 (listed.setIfInBounds q.i true)∧
   Steps P (lone (b.atR a (.inRegion ops (q.i::rest)::k)) cs w) (lone (b.atR a2 (.inRegion ops rest::k)) cs w2):=by
 have ho:=m.oper hq;have hqd:q.d=q.x.1.dst:=by have:=(m.bs q hq).2;rw[this];rfl
 have Zh9:q.lk=Rt ops q.x.1:=by have:=(m.bs q hq).2;rw[this];rfl
 have hbef:=m.before (m.bs q hq).1 (m.bs q hq).2 hr;have Zlg:q.eff=false:=by
  cases e:q.eff with
  |false=>rfl
  |true=>exact absurd (m.effs q hq e) hnl
 have K6: ∀t∈Rt ops q.x.1,t<512->Ym σ (SN t tm) (a.tmps.getD t undef):=by
  rw[<-Zh9];refine m.looks hbef λt ht p hp Cu=>?_;rcases m.lk q hq t ht p hp Cu with h|h|h
  ·exact .inl h
  ·exact .inr (.inl h)
  ·have:p=q:=m.idx p hp q hq h
   subst this;exact absurd ht (m.own p hp Zlg t Cu)
 have Zh6: ∀n,H0.nx<=n->P.globals.size<=n:=λn hn=>Yb m.glob hn;rcases m.del q hq hnl with⟨hu,hv,hA⟩|⟨hw,n,v,H1,hlow,h0n,hnH,hf,hv,hcase⟩|⟨hw,hA,v,hmem,hv⟩
 ·
  refine⟨σ,a.put q.d undef,w,m.exec hq hr hd hN (Ext.refl σ) m.sim (Zs _) (λ_ _=>rfl) (λ_ _ _ _ h _=>h) rfl rfl rfl (λ_ _ h _=>h) λt ht hlt=>by rw[hv t ht hlt];exact EH,?_⟩;have hun:=hu.run (a:=a) (σ:=σ) K6;have hst:=stepR_op_skip (P:=P) (b:=b) (a:=a) (k:=k) (cs:=cs) (w:=w) (ops:=ops) (i:=q.i) (rest:=rest) (by rw[ho];exact hun);rw[ho] at hst;rw[hqd];exact .one hst
 ·
  have hwr:=hw.run (a:=a) (σ:=σ) K6;have hsc:=m.sim.cut (Zh6 n h0n);have hops:RG P (σ.cut n) (OG tm (UF q.x.1)) a.eval:=Fx hsc λt ht=>by
   rw[Jo] at hlow;exact(K6 t (MF ht) (Nq ht)).cut (xr hlow t ht)
  have hok:=MX hsc hops q.x.1;unfold XI at hok;rw[hf] at hok;obtain⟨σ1,w1,u,hrun,hrel,t1⟩:=hok;have hstep:=MJ (b:=b) (k:=k) (cs:=cs) (rest:=rest) ho hwr (L7 hf) hrun;have hfr: ∀j,j<w.heap.size->w1.heap[j]? =w.heap[j]? :=λj hj=>t1.frame j hj λc l hc _=>absurd hc (iV n c);have hlt: ∀c l,c<n->σ1 c=some l->σ c=some l:=by
   intro c l hc hl;cases e:σ c with
   |none=>
    have:=(t1.pend c hc (by rw[Mp.cut_lt hc];exact e)).2;rw[this] at hl;cases hl
   |some l'=>
    have:=t1.ext c l' (by rw[Mp.cut_lt hc];exact e);rw[this] at hl;rw[<-hl]
  rcases hcase with⟨hA,hnx⟩|⟨hA,hnx,hσn,ob,xg,ZpH,Zph⟩
  ·have B1:Ext σ1 σ:=λc l hl=>hlt c l (by have:=t1.sim.dom c l hl;rw[hnx] at this;exact this) hl
   refine⟨σ,a.put q.d u,w1,m.exec hq hr hd hN (Ext.refl σ) (m.sim.grow hfr) t1.size hfr (λ_ _ _ _ h _=>h) t1.tape t1.os t1.out (λ_ _ h _=>h) (λt ht hlt'=>by rw[hv t ht hlt'];exact hrel.mono B1),?_⟩;rw[hqd];exact hstep
  ·
   let σ2:Mp:=λc=>if c=n then σ1 n else σ c
   have e2: ∀c,c≠n->σ2 c=σ c:=λc hc=>if_neg hc;have e2n:σ2 n=σ1 n:=if_pos rfl;have Zf2:Ext σ1 σ2:=by
    intro c l hl
    by_cases e:c=n
    ·subst e;rw[e2n];exact hl
    ·rw[e2 c e]
     refine hlt c l ?_ hl;have:=t1.sim.dom c l hl;rw[hnx] at this;omega
   have B1:Ext σ σ2:=by
    intro c l hl;rw[e2 c λe=>by rw[e,hσn] at hl;cases hl];exact hl
   have Zpw:n<H.nx:=(m.alow _ _ hA).2;have ZpA:H1.ro=n:=t1.ro;have hblk: ∀l,σ1 n=some l->w.heap.size<=l.blk:=by
    intro l hl;refine Nat.le_of_not_lt λhlt'=>?_;obtain⟨b0,l0,h,_⟩:=t1.wr n l (ZjF xg (by rw[ZpA];exact Zs _) ZpH) hl hlt';exact iV n b0 h
   have hs2:WW P σ2 H w1:=by
    refine⟨λc l hl=>?_,m.sim.low,λc o l hc hl=>?_,λc c' o o' l l' hc hc' hl hl' e=>?_,λg hg=>?_,m.sim.ro⟩
    ·by_cases e:c=n
     ·subst e;exact Zpw
     ·rw[e2 c e] at hl;exact m.sim.dom c l hl
    ·by_cases e:c=n
     ·subst e
      rw[Zph] at hc;cases hc;rw[e2n] at hl;obtain⟨co,h1,h2⟩:=t1.sim.alive c _ l xg hl;exact⟨co,h1,h2.mono Zf2⟩
     ·rw[e2 c e] at hl
      obtain⟨co,h1,h2⟩:=m.sim.alive c o l hc hl;exact⟨co,by rw[hfr _ (ZX.1 h1).1];exact h1,h2.mono B1⟩
    ·by_cases e1:c=n<;>by_cases e3:c'=n
     ·exact .inl (by rw[e1,e3])
     ·subst e1
      rw[e2n] at hl;rw[e2 c' e3] at hl';have h1:=m.sim.blk_lt hc' hl';have h2:=hblk l hl;omega
     ·subst e3
      rw[e2n] at hl';rw[e2 c e1] at hl;have h1:=m.sim.blk_lt hc hl;have h2:=hblk l' hl';omega
     ·rw[e2 c e1] at hl
      rw[e2 c' e3] at hl';exact m.sim.inj c c' o o' l l' hc hc' hl hl' e
    ·obtain⟨l,h1,h2⟩:=m.sim.glob g hg
     exact⟨l,B1 g l h1,h2⟩
   refine⟨σ2,a.put q.d u,w1,m.exec hq hr hd hN B1 hs2 t1.size hfr (λc l o hc hl hlt'=>?_) t1.tape t1.os t1.out (λc _ hn hA'=>?_) (λt ht hlt'=>by rw[hv t ht hlt'];exact hrel.mono Zf2),?_⟩
   ·by_cases e:c=n
    ·subst e
     rw[e2n] at hl;have:=hblk l hl;omega
    ·rw[e2 c e] at hl;exact hl
   ·rw[e2 c λe=>hA' (by rw[hA,e])];exact hn
   ·rw[hqd];exact hstep
 ·
  have hwr:=hw.run (a:=a) (σ:=σ) K6;have hops:RG P σ (OG tm (UF q.x.1)) a.eval:=Fx m.sim λt ht=>K6 t (MF ht) (Nq ht);have hrd:=p7 hst _ hmem;unfold dD at hrd;have hpf:(⟨WP P ops q.x,v⟩:RD).p.f (OG tm (⟨WP P ops q.x,v⟩:RD).p.os) ⟨H.nx,H.t,H.nx⟩=Uc P q.x.1.op (OG tm (UF q.x.1)) ⟨H.nx,H.t,H.nx⟩:=rfl;rw[hpf] at hrd;have hok:=MX m.sim.ro' hops q.x.1;unfold XI at hok;generalize hf:Uc P q.x.1.op (OG tm (UF q.x.1)) ⟨H.nx,H.t,H.nx⟩=r at hrd hok;cases r with
  |oth _=>cases hrd
  |val v' H1=>
   have hrd:cond (Nat.beq H1.nx H.nx) (same v' v) false=true:=hrd;obtain⟨h1,h2⟩:=Wu hrd;have hnx:H1.nx=H.nx:=Yf h1;have:=CK _ _ h2;subst this;obtain⟨σ1,w1,u,hrun,hrel,t1⟩:=hok;have hstep:=MJ (b:=b) (k:=k) (cs:=cs) (rest:=rest) ho hwr (L7 hf) hrun;have hfr: ∀j,j<w.heap.size->w1.heap[j]? =w.heap[j]? :=λj hj=>t1.frame j hj λc l hc _=>absurd hc (Zmw m.sim c);have B1:Ext σ1 σ:=by
    intro c l hl;have hc:c<H.nx:=by have:=t1.sim.dom c l hl;rw[hnx] at this;exact this
    cases e:σ c with
    |none=>
     have:=(t1.pend c hc e).2;rw[this] at hl;cases hl
    |some l'=>
     have:=t1.ext c l' e;rw[this] at hl;rw[<-hl]
   refine⟨σ,a.put q.d u,w1,m.exec hq hr hd hN (Ext.refl σ) (m.sim.grow hfr) t1.size hfr (λ_ _ _ _ h _=>h) t1.tape t1.os t1.out (λ_ _ h _=>h) (λt ht hlt'=>by rw[hv t ht hlt'];exact hrel.mono B1),?_⟩;rw[hqd];exact hstep
end
def Qi(d:Option Nat)(tm:TM)(v:AV){n:Nat}(hn:n<512):SN n (UN d tm v)=if d=some n then v else SN n tm:=by
 cases d with
 |none=>simp[UN,d0]
 |some t=>
  show SN n ((cond (Nat.ble t 511) (P8 t) d0) tm v)=_;cases hb:Nat.ble t 511 with
  |true=>
   have:t<512:=Qs (ZS hb);show SN n (P8 t tm v)=_;rw[GO n t hn this]
   by_cases e:n=t
   ·subst e;simp
   ·rw[if_neg e,if_neg (λh=>e (Option.some.inj h).symm)]
  |false=>
   show SN n tm=_;rw[if_neg];intro e;cases e;rw[show Nat.ble n 511=true from Zj (by omega)] at hb;cases hb
theorem Ez{bef:Nat}{r:RD}: ∀{rs:List RD},r∈rs->Nat.testBit bef r.p.i=false->r∈Sx bef rs
 |[],h,_=>by cases h
 |r'::rs,h,hb=>by
  show r∈cond (Nat.testBit bef r'.p.i) (Sx bef rs) (r'::Sx bef rs);rcases ZY.1 h with e|e
  ·subst e;rw[hb];exact Zw ..
  ·cases Nat.testBit bef r'.p.i with
   |true=>exact Ez e hb
   |false=>exact ZC _ (Ez e hb)
section
variable {P:Program} {ops:Array Oper} {N:Nat} {ds:List Nat} {σ0:Mp} {H0:Heap} {w0:World} {pre:List SI} {rs:List RD} {tm:TM} {H:Heap} {A:Nat->Option Nat} {σ:Mp} {a0 a:Act} {w:World} {listed:Array Bool}
def cG.move{n0:Nat}{q:SI}{σ':Mp}{H':Heap}{A':Nat->Option Nat}{rs':List RD}{tm':TM}(h:cG P ops σ n0 H A rs tm q)(hq:q.lk=Rt ops q.x.1)
  (h1: ∀t∈q.lk,t<512->SN t tm'=SN t tm)(h2: ∀t,q.d=some t->t<512->SN t tm'=SN t tm)(hn:H.nx<=H'.nx)
  (hrs: ∀v,(⟨WP P ops q.x,v⟩:RD)∈rs->(⟨WP P ops q.x,v⟩:RD)∈rs')(hA:A' q.i=A q.i)(hget: ∀n,A q.i=some n->σ n=none->H'.t.get n=H.t.get n∧σ' n=none):
  cG P ops σ' n0 H' A' rs' tm' q:=by
 have hl: ∀t∈Rt ops q.x.1,t<512->SN t tm'=SN t tm:=by rw[<-hq];exact h1
 have hrsF:OG tm' (UF q.x.1)=OG tm (UF q.x.1):=wA λt ht=>hl t (MF ht) (Nq ht);have hev: ∀v,evD q tm v->evD q tm' v:=λv hv t ht hlt=>by rw[h2 t ht hlt];exact hv t ht hlt
 have hlow: ∀n,Ou n tm' (UF q.x.1)=Ou n tm (UF q.x.1):=by
  intro n;have hs: ∀t∈Ci q.x.1,SN t tm'=SN t tm:=λt ht=>hl t (MF ht) (Nq ht);rw[Jo];generalize Ci q.x.1=l at hs
  induction l with
  |nil=>rfl
  |cons t l ih=>
   show cond (WZ n (SN t tm')) (Ou n tm' (l.map λt=>(P8 t,SN t))) false=cond (WZ n (SN t tm)) (Ou n tm (l.map λt=>(P8 t,SN t))) false;rw[ih λt h=>hs t (ZC _ h),hs t (Zw ..)]
 rcases h with⟨u1,u2,u3⟩|⟨u1,n,v,H1,u2,u3,u4,u5,u6,u7⟩|⟨u1,u2,v,u3,u4⟩
 ·exact .inl ⟨u1.congr hl,hev _ u2,by rw[hA];exact u3⟩
 ·refine .inr (.inl ⟨u1.congr hl,n,v,H1,by rw[hlow];exact u2,u3,Yb u4 hn,by rw[hrsF];exact u5,hev _ u6,?_⟩)
  rcases u7 with⟨u7,u8⟩|⟨u7,u8,u9,ob,u10,u11,u12⟩
  ·exact .inl ⟨by rw[hA];exact u7,u8⟩
  ·obtain⟨g1,g2⟩:=hget n u7 u9
   exact .inr ⟨by rw[hA];exact u7,u8,g2,ob,u10,u11,by rw[g1];exact u12⟩
 ·exact .inr (.inr ⟨u1.congr hl,by rw[hA];exact u2,v,hrs v u3,hev _ u4⟩)
def pM{q:SI}(h:q=Nb P ops q.x):q.lk=Rt ops q.x.1:=by rw[h];rfl
def FN{q:SI}(h:q=Nb P ops q.x):q.d=q.x.1.dst:=by rw[h];rfl
def uO{q:SI}(h:q=Nb P ops q.x):q.eff=rI (PW P q.x.1.op):=by rw[h];rfl
def Zqw{q:SI}(h:q=Nb P ops q.x):q.i=(WP P ops q.x).i:=by rw[h];rfl
def ES{q:SI}(h:q=Nb P ops q.x):q.bef=(WP P ops q.x).bef:=by rw[h];rfl
def MS.plan(m:MS P ops N ds σ0 H0 w0 pre rs tm H A σ a0 a w listed){q:SI}{l:List SI}(hpl:Si pre (q::l))(hq:q.x∈BS ops)(Fd:q=Nb P ops q.x)(hne:q.eff=false)
  {rs':List RD}{v:AV}{H':Heap}{A':Nat->Option Nat}(hH:H'=H∨ ∃o,H'=H.new o)(hrs: ∀r∈rs,r∈rs')(hA: ∀i,i≠q.i->A' i=A i)
  (hA2:A' q.i=none∨(A' q.i=some H.nx∧ ∃o,H'=H.new o))(hnew:cG P ops σ H0.nx H' A' rs' (UN q.d tm v) q):
  MS P ops N ds σ0 H0 w0 (pre++[q]) rs' (UN q.d tm v) H' A' σ a0 a w listed:=by
 obtain⟨_,hnw,hlk,hidx,_⟩:=hpl;have hnw: ∀t,q.d=some t->(∀p∈pre,t∉p.lk∧p.d≠some t)∧t∉q.lk:=by
  rcases hnw with h|⟨h,_⟩
  ·exact h
  ·rw[hne] at h;cases h
 have hnx:H.nx<=H'.nx:=by rcases hH with rfl|⟨o,rfl⟩;exact Zs _;exact Ve _
 have hold: ∀b,b<H.nx->H'.t.get b=H.t.get b:=by
  intro b hb;rcases hH with rfl|⟨o,rfl⟩
  ·rfl
  ·rw[Heap.get_new,if_neg (by omega)]
 have Zid:WW P σ H' w:=by rcases hH with rfl|⟨o,rfl⟩;exact m.sim;exact m.sim.pendNew o
 have htr:vx σ0 H0 w0 σ H' w:=by rcases hH with rfl|⟨o,rfl⟩;exact m.tr;exact m.tr.trans (vx.pendNew m.sim o)
 have hmem: ∀{p:SI},p∈pre++[q]->p∈pre∨p=q:=λ{p} h=>by rcases Zt.1 h with h|h;exact .inl h;exact .inr (by simpa using h)
 have Zpt:q∈pre++[q]:=Zt.2 (.inr (by simp));have Zpx: ¬Ls listed q.i:=λh=>by obtain⟨p,hp,e⟩:=m.sub _ h;exact hidx p hp e
 refine⟨m.size,λj hj=>?_,λp hp=>?_,m.closed,λp hp he=>?_,λq1 hq1 t ht p hp Cu=>?_,λp hp he t ht=>?_,λq1 hq1 p hp e=>?_,m.glob,Zid,htr,λb hb hn=>?_,m.tsz,λn hn=>?_,m.old,m.defers,λp hp hnl=>?_,λi j n hi hj=>?_,λi n hi=>?_⟩
 ·obtain⟨p,hp,e⟩:=m.sub j hj
  exact⟨p,Zt.2 (.inl hp),e⟩
 ·rcases hmem hp with hp|rfl
  ·exact m.bs p hp
  ·exact⟨hq,Fd⟩
 ·rcases hmem hp with hp|rfl
  ·exact m.effs p hp he
  ·rw[hne] at he;cases he
 ·rcases hmem hq1 with hq2|rfl<;>rcases hmem hp with hp2|rfl
  ·exact m.lk q1 hq2 t ht p hp2 Cu
  ·exact absurd ht ((hnw t Cu).1 q1 hq2).1
  ·exact .inl (hlk t ht p hp2 Cu)
  ·exact .inr (.inr rfl)
 ·rcases hmem hp with hp|rfl
  ·exact m.own p hp he t ht
  ·exact(hnw t ht).2
 ·rcases hmem hq1 with hq2|rfl<;>rcases hmem hp with hp2|rfl
  ·exact m.idx q1 hq2 p hp2 e
  ·exact absurd e (hidx q1 hq2)
  ·exact absurd e.symm (hidx p hp2)
  ·rfl
 ·obtain⟨h1,h2⟩:=m.pend b hb hn
  exact⟨by rw[hold b (ZK hb m.tr.nx)];exact h1,h2⟩
 ·by_cases e:q.d=some n
  ·exact .inl ⟨q,Zpt,Zpx,e⟩
  ·rw[Qi _ _ _ hn,if_neg e]
   rcases m.tmps n hn with⟨p,hp,h1,h2⟩|h
   ·exact .inl ⟨p,Zt.2 (.inl hp),h1,h2⟩
   ·exact .inr h
 ·rcases hmem hp with hp|rfl
  ·refine(m.del p hp hnl).move (pM (m.bs p hp).2) (λt ht hlt=>?_) (λt ht hlt=>?_) hnx (λv hv=>hrs _ hv) (hA p.i (hidx p hp)) (λn hn hσ=>⟨hold n (m.alow _ _ hn).2,hσ⟩)
   ·rw[Qi _ _ _ hlt,if_neg λe=>((hnw t e).1 p hp).1 ht]
   ·rw[Qi _ _ _ hlt,if_neg λe=>((hnw t e).1 p hp).2 ht]
  ·exact hnew
 ·by_cases e1:i=q.i<;>by_cases e2:j=q.i
  ·rw[e1,e2]
  ·subst e1
   rw[hA j e2] at hj;rcases hA2 with h|⟨h,_⟩
   ·rw[h] at hi;cases hi
   ·rw[h] at hi;cases hi;have:=(m.alow _ _ hj).2;omega
  ·subst e2
   rw[hA i e1] at hi;rcases hA2 with h|⟨h,_⟩
   ·rw[h] at hj;cases hj
   ·rw[h] at hj;cases hj;have:=(m.alow _ _ hi).2;omega
  ·rw[hA i e1] at hi;rw[hA j e2] at hj
   exact m.ainj i j n hi hj
 ·by_cases e:i=q.i
  ·subst e
   rcases hA2 with h|⟨h,o,rfl⟩
   ·rw[h] at hi;cases hi
   ·rw[h] at hi;cases hi;exact⟨m.tr.nx,ZU _⟩
  ·rw[hA i e] at hi
   have:=m.alow i n hi;exact⟨this.1,ZK this.2 hnx⟩
def MS.eff(m:MS P ops N ds σ0 H0 w0 pre rs tm H A σ a0 a w listed){q:SI}{l:List SI}(hpl:Si pre (q::l))(hq:q.x∈BS ops)(Fd:q=Nb P ops q.x)
  (hr:q.i∈Region.ready .any ops listed)(hd: ∀t,q.d=some t->t∈ds)(hN:oH N q.d=true)
  {σ':Mp}{H':Heap}{w':World}{v:AV}{u:Value}(t:Tr P σ H w σ' H' w')(hv:Ym σ' v u):
  MS P ops N ds σ0 H0 w0 (pre++[q]) (Sx q.bef rs) (UN q.d tm v) H' A σ' a0 (a.put q.d u) w' (listed.setIfInBounds q.i true):=by
 obtain⟨_,hnw,hlk,hidx,_⟩:=hpl;have hbef:=m.before hq Fd hr;have hi:q.i<listed.size:=by
  obtain⟨_,o,ho,_⟩:=mem_ready.1 hr;rw[m.size];exact(ZX.1 ho).1
 have hmem: ∀{p:SI},p∈pre++[q]->p∈pre∨p=q:=λ{p} h=>by rcases Zt.1 h with h|h;exact .inl h;exact .inr (by simpa using h)
 have hnw: ∀p∈pre,¬Ls listed p.i-> ∀t,q.d=some t->t∉p.lk∧p.d≠some t:=by
  intro p hp hnl t ht;rcases hnw with h|⟨_,h⟩
  ·exact(h t ht).1 p hp
  ·rcases h p hp with h|h
   ·exact absurd (hbef _ h) hnl
   ·exact h t ht
 have hqi:q.i=q.x.2.1:=by rw[Fd];rfl
 refine⟨by simpa using m.size,λj hj=>?_,λp hp=>?_,λx hx hl k hk=>?_,λp hp he=>?_,λq1 hq1 t ht p hp Cu=>?_,λp hp he t ht=>?_,λq1 hq1 p hp e=>?_,m.glob,t.sim,m.tr.trans t.toW,λb hb hn=>?_,?_,λn hn=>?_,λn hn=>?_,by rw[P5];exact m.defers,λp hp hnl=>?_,m.ainj,λi n hin=>?_⟩
 ·rcases(Ls.set hi).1 hj with rfl|hj
  ·exact⟨q,Zt.2 (.inr (by simp)),rfl⟩
  ·obtain⟨p,hp,e⟩:=m.sub j hj
   exact⟨p,Zt.2 (.inl hp),e⟩
 ·rcases hmem hp with hp|rfl
  ·exact m.bs p hp
  ·exact⟨hq,Fd⟩
 ·refine(Ls.set hi).2 (.inr ?_)
  rcases(Ls.set hi).1 hl with e|hl
  ·obtain⟨⟨j,h1,h2⟩,acc,h3,h4⟩:=Rl _ _ _ _ hx
   obtain⟨hn,o,ho,hall⟩:=mem_ready.1 hr;obtain⟨e1,he1,hb1,h5⟩:=Hi hx hk;have ho':x.1=o:=by
    rw[<-e,h2,Zl] at ho;rw[Z7,ho] at h1;exact(Option.some.inj h1).symm
   have hl1:Ls listed e1.on:=hall e1 (by rw[<-ho'];exact Xq.1 he1) hb1;rcases h5 with rfl|⟨y,hy,h6,h7⟩
   ·exact hl1
   ·exact m.closed y hy (by rw[h6];exact hl1) k h7
  ·exact m.closed x hx hl k hk
 ·rcases hmem hp with hp|rfl
  ·exact(Ls.set hi).2 (.inr (m.effs p hp he))
  ·exact(Ls.set hi).2 (.inl rfl)
 ·rcases hmem hq1 with hq2|rfl<;>rcases hmem hp with hp2|rfl
  ·exact m.lk q1 hq2 t ht p hp2 Cu
  ·by_cases hnl:Ls listed q1.i
   ·rcases ‹New p pre› with h|⟨h,_⟩
    ·exact absurd ht ((h t Cu).1 q1 hq2).1
    ·exact .inr (.inl h)
   ·exact absurd ht (hnw q1 hq2 hnl t Cu).1
  ·exact .inl (hlk t ht p hp2 Cu)
  ·exact .inr (.inr rfl)
 ·rcases hmem hp with hp|rfl
  ·exact m.own p hp he t ht
  ·rcases ‹New p pre› with h|⟨h,_⟩
   ·exact(h t ht).2
   ·rw[he] at h;cases h
 ·rcases hmem hq1 with hq2|rfl<;>rcases hmem hp with hp2|rfl
  ·exact m.idx q1 hq2 p hp2 e
  ·exact absurd e (hidx q1 hq2)
  ·exact absurd e.symm (hidx p hp2)
  ·rfl
 ·obtain⟨h1,h2⟩:=m.pend b hb hn
  obtain⟨h3,h4⟩:=t.pend b (ZK hb m.tr.nx) h2;exact⟨h3.trans h1,h4⟩
 ·rw[FF]
  cases q.d with
  |none=>exact m.tsz
  |some t=>simpa using m.tsz
 ·by_cases e:q.d=some n
  ·refine .inr ?_
   have hsz:n<a.tmps.size:=by
    rw[e] at hN;exact ZK (ZS hN) m.tsz
   rw[Qi _ _ _ hn,if_pos e,e];show Ym σ' v ((a.tmps.setIfInBounds n u).getD n undef);rw[ZV,YK];simp only[hsz,if_true];exact hv
  ·have hget:(a.put q.d u).tmps.getD n undef=a.tmps.getD n undef:=by
    rw[ZV,ZV,put_old a q.d u λt ht' e'=>e (by rw[ht',e'])]
   rw[Qi _ _ _ hn,if_neg e,hget];rcases m.tmps n hn with⟨p,hp,h1,h2⟩|h
   ·refine .inl ⟨p,Zt.2 (.inl hp),λhl=>?_,h2⟩
    rcases(Ls.set hi).1 hl with e'|hl
    ·exact hidx p hp e'
    ·exact h1 hl
   ·exact .inr (h.mono t.ext)
 ·rw[put_old a q.d u λt ht' e'=>hn (by rw[e'];exact hd t ht')]
  exact m.old n hn
 ·rcases hmem hp with hp|rfl
  ·have fE: ¬Ls listed p.i:=λh=>hnl ((Ls.set hi).2 (.inr h))
   refine(m.del p hp fE).move (pM (m.bs p hp).2) (λt ht hlt=>?_) (λt ht hlt=>?_) t.nx (λv hv=>?_) rfl (λn hn hσ=>t.pend n (m.alow _ _ hn).2 hσ)
   ·rw[Qi _ _ _ hlt,if_neg λe=>(hnw p hp fE t e).1 ht]
   ·rw[Qi _ _ _ hlt,if_neg λe=>(hnw p hp fE t e).2 ht]
   ·refine Ez hv ?_
    cases hb:Nat.testBit q.bef (WP P ops p.x).i with
    |false=>rfl
    |true=>
     rw[<-Zqw (m.bs p hp).2] at hb;exact absurd (hbef _ hb) fE
  ·exact absurd ((Ls.set hi).2 (.inl rfl)) hnl
 ·have:=m.alow i n hin
  exact⟨this.1,ZK this.2 t.nx⟩
end
section
variable {P:Program} {ops:Array Oper} {N:Nat} {ds:List Nat} {σ0:Mp} {H0:Heap} {w0:World} {a0:Act}
theorem MS.advance{dl:List VJ}{fin:PK}{c:Ctx}{x:X}{out:Out}{Rf:TM}{HO:Heap}{xO:X}{a:Act}{w:World}{listed:Array Bool}{σ:Mp}: ∀(rest pre:List SI) (rs:List RD) (tm:TM) (H:Heap) (A:Nat->Option Nat),
  MS P ops N ds σ0 H0 w0 pre rs tm H A σ a0 a w listed->Si pre rest->(∀q∈rest,q.x∈BS ops∧q=Nb P ops q.x)->
  To dl fin (rest.map λq=>WP P ops q.x) c rs tm H x=.ok out Rf HO xO->
  ∃pre' rest' rs' tm' H' A',pre++rest=pre'++rest'∧(rest'=[]∨ ∃e l,rest'=e::l∧e.eff=true)∧
   MS P ops N ds σ0 H0 w0 pre' rs' tm' H' A' σ a0 a w listed∧Si pre' rest'∧(∀q∈rest',q.x∈BS ops∧q=Nb P ops q.x)∧
   To dl fin (rest'.map λq=>WP P ops q.x) c rs' tm' H' x=.ok out Rf HO xO
 |[],pre,rs,tm,H,A,m,hp,hb,he=>⟨pre,[],rs,tm,H,A,rfl,.inl rfl,m,hp,hb,he⟩
 |q::l,pre,rs,tm,H,A,m,hp,hb,he=>by
  cases hqe:q.eff with
  |true=>exact⟨pre,q::l,rs,tm,H,A,rfl,.inr ⟨q,l,rfl,hqe⟩,m,hp,hb,he⟩
  |false=>
   obtain⟨hq,Fd⟩:=hb q (Zw ..);have hnext: ∀(rs':List RD) (v:AV) (H':Heap) (A':Nat->Option Nat),MS P ops N ds σ0 H0 w0 (pre++[q]) rs' (UN q.d tm v) H' A' σ a0 a w listed->
     To dl fin (l.map λq=>WP P ops q.x) c rs' (UN q.d tm v) H' x=.ok out Rf HO xO->
     ∃pre' rest' rs' tm' H' A',pre++(q::l)=pre'++rest'∧(rest'=[]∨ ∃e l,rest'=e::l∧e.eff=true)∧
      MS P ops N ds σ0 H0 w0 pre' rs' tm' H' A' σ a0 a w listed∧Si pre' rest'∧(∀q∈rest',q.x∈BS ops∧q=Nb P ops q.x)∧
      To dl fin (rest'.map λq=>WP P ops q.x) c rs' tm' H' x=.ok out Rf HO xO:=by
    intro rs' v H' A' m' he';obtain⟨pre',rest',rs2,tm2,H2,A2,h1,h2⟩:=MS.advance l (pre++[q]) rs' (UN q.d tm v) H' A' m' hp.2.2.2.2 (λp h=>hb p (ZC _ h)) he';exact⟨pre',rest',rs2,tm2,H2,A2,by rw[<-h1];simp,h2⟩
   have hnw: ∀t,q.d=some t->t∉q.lk:=by
    rcases hp.2.1 with h|⟨h,_⟩
    ·exact λt ht=>(h t ht).2
    ·rw[hqe] at h;cases h
   have Zh9:=pM Fd;have hqd:=FN Fd;have hsame: ∀v,∀t∈Rt ops q.x.1,t<512->SN t (UN q.d tm v)=SN t tm:=λv t ht hlt=>by
    rw[Qi _ _ _ hlt,if_neg λe=>hnw t e (by rw[Zh9];exact ht)]
   have hev: ∀v,evD q (UN q.d tm v) v:=λv t ht hlt=>by rw[Qi _ _ _ hlt,if_pos ht]
   have hrsF: ∀v,OG (UN q.d tm v) (UF q.x.1)=OG tm (UF q.x.1):=λv=>wA λt ht=>hsame v t (MF ht) (Nq ht)
   let A':Nat->Option Nat:=λi=>if i=q.i then none else A i
   have hA': ∀i,i≠q.i->A' i=A i:=λi hi=>if_neg hi;have hA'q:A' q.i=none:=if_pos rfl;have hun:Of P ops q.x.1 tm->To dl fin (l.map λq=>WP P ops q.x) c rs (UN q.d tm Y9) H x=.ok out Rf HO xO->_:=λhu he'=>
    hnext rs Y9 H A' (m.plan hp hq Fd hqe (.inl rfl) (λr h=>h) hA' (.inl hA'q) (.inl ⟨hu.congr (hsame _),hev _,hA'q⟩)) he'
   have hkind:rI (PW P q.x.1.op)=false:=by rw[<-uO Fd];exact hqe
   have he:PC dl (WP P ops q.x) (To dl fin (l.map λq=>WP P ops q.x) c) c rs tm H x=.ok out Rf HO xO:=he;cases hk:PW P q.x.1.op with
   |eff=>rw[hk] at hkind;cases hkind
   |free=>
    have hkk:(WP P ops q.x).kind=.free:=hk;unfold PC at he;rw[hkk] at he;have he:MM (Sd P ops q.x.1) tm (aI (WP P ops q.x) (To dl fin (l.map λq=>WP P ops q.x) c) rs tm H x) (To dl fin (l.map λq=>WP P ops q.x) c rs (UN q.x.1.dst tm Y9) H x)=.ok out Rf HO xO:=he;rw[<-hqd] at he;rcases Ep he (by simp) with⟨hw,he⟩|⟨hu,he⟩
    ·unfold aI at he
     have hos:(WP P ops q.x).os=UF q.x.1:=rfl;have hff:(WP P ops q.x).f=Uc P q.x.1.op:=rfl;rw[hos,hff] at he;cases hlow:Ou H.nx tm (UF q.x.1) with
     |false=>rw[hlow] at he;cases he
     |true=>
      rw[hlow] at he;generalize hr:Uc P q.x.1.op (OG tm (UF q.x.1)) ⟨H.nx,.leaf,H.nx⟩=r at he;cases r with
      |oth _=>cases he
      |val v H1=>
       have he:cond (Nat.beq H1.nx H.nx) (To dl fin (l.map λq=>WP P ops q.x) c rs (UN q.x.1.dst tm v) H x) (cond (Nat.beq H1.nx (Nat.succ H.nx)) (Zbr (H1.t.get H.nx) λo=>To dl fin (l.map λq=>WP P ops q.x) c rs (UN q.x.1.dst tm v) (H.new o) x) .fail)=.ok out Rf HO xO:=he;rw[<-hqd] at he;have hlow':Ou H.nx (UN q.d tm v) (UF q.x.1)=true:=by
        rw[<-hlow];have hs: ∀t∈Ci q.x.1,SN t (UN q.d tm v)=SN t tm:=λt ht=>hsame v t (MF ht) (Nq ht);rw[Jo];generalize Ci q.x.1=l at hs
        induction l with
        |nil=>rfl
        |cons t l ih=>
         show cond (WZ H.nx (SN t (UN q.d tm v))) (Ou H.nx (UN q.d tm v) (l.map λt=>(P8 t,SN t))) false=cond (WZ H.nx (SN t tm)) (Ou H.nx tm (l.map λt=>(P8 t,SN t))) false;rw[ih λt h=>hs t (ZC _ h),hs t (Zw ..)]
       cases h1:Nat.beq H1.nx H.nx with
       |true=>
        rw[h1] at he;refine hnext rs v H A' (m.plan hp hq Fd hqe (.inl rfl) (λr h=>h) hA' (.inl hA'q) (.inr (.inl ⟨hw.congr (hsame _),H.nx,v,H1,hlow',m.tr.nx,Zs _,?_,hev _,.inl ⟨hA'q,Yf h1⟩⟩))) he;rw[hrsF];exact hr
       |false=>
        rw[h1] at he;cases h2:Nat.beq H1.nx (Nat.succ H.nx) with
        |false=>rw[h2] at he;cases he
        |true=>
         rw[h2] at he;cases h3:H1.t.get H.nx with
         |none=>rw[h3] at he;cases he
         |some ob=>
          rw[h3] at he;have he:cond (wrO ob) (To dl fin (l.map λq=>WP P ops q.x) c rs (UN q.d tm v) (H.new ob) x) .fail=.ok out Rf HO xO:=he;cases h4:wrO ob with
          |false=>rw[h4] at he;cases he
          |true=>
           rw[h4] at he
           let A2:Nat->Option Nat:=λi=>if i=q.i then some H.nx else A i
           have hA2: ∀i,i≠q.i->A2 i=A i:=λi hi=>if_neg hi;have Zk2:A2 q.i=some H.nx:=if_pos rfl;refine hnext rs v (H.new ob) A2 (m.plan hp hq Fd hqe (.inr ⟨ob,rfl⟩) (λr h=>h) hA2 (.inr ⟨Zk2,ob,rfl⟩) (.inr (.inl ⟨hw.congr (hsame _),H.nx,v,H1,hlow',m.tr.nx,Ve _,?_,hev _,.inr ⟨Zk2,Yf h2,m.sim.fresh (Zs _),ob,h3,h4,?_⟩⟩))) he
           ·rw[hrsF];exact hr
           ·rw[Heap.get_new,if_pos rfl]
    ·exact hun hu he
   |read=>
    have hkk:(WP P ops q.x).kind=.read:=hk;unfold PC at he;rw[hkk] at he;have he:MM (Sd P ops q.x.1) tm (AY (WP P ops q.x) (To dl fin (l.map λq=>WP P ops q.x) c) rs tm H x (Uc P q.x.1.op (OG tm (UF q.x.1)) ⟨H.nx,H.t,H.nx⟩)) (To dl fin (l.map λq=>WP P ops q.x) c rs (UN q.x.1.dst tm Y9) H x)=.ok out Rf HO xO:=he;rw[<-hqd] at he;rcases Ep he (by simp) with⟨hw,he⟩|⟨hu,he⟩
    ·generalize hr:Uc P q.x.1.op (OG tm (UF q.x.1)) ⟨H.nx,H.t,H.nx⟩=r at he
     cases r with
     |oth _=>cases he
     |val v H1=>
      have he:cond (Nat.beq H1.nx H.nx) (To dl fin (l.map λq=>WP P ops q.x) c (⟨WP P ops q.x,v⟩::rs) (UN q.x.1.dst tm v) H x) .fail=.ok out Rf HO xO:=he;rw[<-hqd] at he;cases h1:Nat.beq H1.nx H.nx with
      |false=>rw[h1] at he;cases he
      |true=>
       rw[h1] at he;exact hnext (⟨WP P ops q.x,v⟩::rs) v H A' (m.plan hp hq Fd hqe (.inl rfl) (λr h=>ZC _ h) hA' (.inl hA'q) (.inr (.inr ⟨hw.congr (hsame _),hA'q,v,Zw ..,hev _⟩))) he
    ·exact hun hu he
end
def oA(listed:Array Bool):Nat->Nat
 |0=>0
 |n+1=>oA listed n+(if listed.getD n false=true then 0 else 1)
theorem zF{listed:Array Bool}: ∀{n:Nat},oA listed n=0-> ∀j,j<n->Ls listed j
 |0,_,j,hj=>by omega
 |n+1,h,j,hj=>by
  unfold oA at h
  by_cases e:listed.getD n false=true
  ·rw[if_pos e] at h
   by_cases ej:j=n
   ·subst ej;exact e
   ·exact zF (by omega) j (by omega)
  ·rw[if_neg e] at h;omega
theorem CN{listed:Array Bool}{i:Nat}(hi:i<listed.size)(hn: ¬Ls listed i): ∀n,(i<n->oA (listed.setIfInBounds i true) n+1=oA listed n)∧(n<=i->oA (listed.setIfInBounds i true) n=oA listed n)
 |0=>⟨λh=>by omega,λ_=>rfl⟩
 |n+1=>by
  obtain⟨h1,h2⟩:=CN hi hn n;have hs:=Ls.set (j:=n) hi;unfold Ls at hs hn;unfold oA
  by_cases e:i=n
  ·subst e
   refine⟨λ_=>?_,λh=>by omega⟩;rw[if_pos (hs.2 (.inl rfl)),if_neg hn,h2 (Zs _)]
  ·have hh:((listed.setIfInBounds i true).getD n false=true)=(listed.getD n false=true):=propext ⟨λh=>by rcases hs.1 h with h|h;exact absurd h.symm e;exact h,λh=>hs.2 (.inr h)⟩
   simp only[hh];exact⟨λh=>by have:=h1 (by omega);omega,λh=>by have:=h2 (by omega);omega⟩
theorem Bx{n:Nat}(hn:n<512): ∀(l:List (Option Nat)) (tm:TM),SN n (KQ tm (l.map UN))=if some n∈l then .unk else SN n tm
 |[],tm=>by simp[KQ]
 |d::l,tm=>by
  show SN n (KQ (UN d tm .unk) (l.map UN))=_;rw[Bx hn l,Qi _ _ _ hn]
  by_cases e:some n∈l
  ·rw[if_pos e,if_pos (ZC _ e)]
  ·rw[if_neg e]
   by_cases e2:d=some n
   ·rw[if_pos e2,if_pos (by rw[e2];exact Zw ..)]
   ·rw[if_neg e2,if_neg]
    intro h;rcases ZY.1 h with h|h
    ·exact e2 h.symm
    ·exact e h
section
variable {P:Program} {ops:Array Oper} {N:Nat} {ds:List Nat} {σ0:Mp} {H0:Heap} {w0:World} {a0:Act}
def MS.full{pre:List SI}{rs:List RD}{tm:TM}{H:Heap}{A:Nat->Option Nat}{σ:Mp}{a:Act}{w:World}{listed:Array Bool}(m:MS P ops N ds σ0 H0 w0 pre rs tm H A σ a0 a w listed):Tr P σ0 H0 w0 σ H w:=m.tr.full m.sim m.pend
def cF(ops:Array Oper):Prop:= ∀(j:Nat) (o:Oper),ops[j]? =some o-> ∀e∈o.after,Region.binds .any e=true->e.on<j
def CV(hE:cF ops){listed:Array Bool}(hz:listed.size=ops.size)(hr:Region.ready .any ops listed=[]): ∀j,j<ops.size->Ls listed j:=by
 intro j
 induction j using Nat.strongRecOn with
 |_ j ih=>
  intro hj;cases e:listed.getD j false with
  |true=>exact e
  |false=>
   have ho:ops[j]? =some ops[j]:=WU hj;have:j∈Region.ready .any ops listed:=by
    refine mem_ready.2 ⟨?_,ops[j],ho,λx hx hb=>?_⟩
    ·rw[ZV] at e ⊢
     have:listed[j]? =some listed[j]:=WU (by omega);rw[this] at e ⊢;exact e
    ·have:=hE j _ ho x hx hb
     exact ih x.on this (by omega)
   rw[hr] at this;cases this
def EN{listed:Array Bool}{i:Nat}(h:i∈Region.ready .any ops listed)(hz:listed.size=ops.size):i<ops.size∧ ¬Ls listed i:=by
 obtain⟨h1,o,h2,_⟩:=mem_ready.1 h;have hi:i<ops.size:=(ZX.1 h2).1;refine⟨hi,λhl=>?_⟩;unfold Ls at hl;rw[ZV] at h1 hl;have:listed[i]? =some listed[i]:=WU (by omega);rw[this] at h1 hl;have h1:listed[i]=false:=h1;have hl:listed[i]=true:=hl;rw[h1] at hl;cases hl
def Done(P:Program)(N:Nat)(ds:List Nat)(σ0:Mp)(H0:Heap)(w0:World)(a0:Act)(m:Machine)(b:Frame)(k:List Item)(cs:List Frame)(out:Out)(Rf:TM)(HO:Heap):Prop:=
 ∃σ' a' w',Tr P σ0 H0 w0 σ' HO w'∧MU σ' N Rf a'.tmps∧a'.defers=a0.defers∧(∀n,n∉ds->a'.tmps[n]? =a0.tmps[n]?)∧zJ P m b k cs σ' out a' w'
def Done.of_steps{m m1:Machine}{b:Frame}{k:List Item}{cs:List Frame}{out:Out}{Rf:TM}{HO:Heap}(h:Steps P m m1)(d:Done P N ds σ0 H0 w0 a0 m1 b k cs out Rf HO):Done P N ds σ0 H0 w0 a0 m b k cs out Rf HO:=by
 obtain⟨σ',a',w',h1,h2,h3,h4,h5⟩:=d;exact⟨σ',a',w',h1,h2,h3,h4,.of_steps h h5⟩
structure At(P:Program)(ops:Array Oper)(N:Nat)(ds:List Nat)(σ0:Mp)(H0:Heap)(w0:World)(a0:Act)(dl:List VJ)(fin:PK)(c:Ctx)(x:X)(L:List SI)(out:Out)(Rf:TM)(HO:Heap)(xO:X)
  (pre rest:List SI)(rs:List RD)(tm:TM)(H:Heap)(A:Nat->Option Nat)(σ:Mp)(a:Act)(w:World)(listed:Array Bool):Prop where
 m:MS P ops N ds σ0 H0 w0 pre rs tm H A σ a0 a w listed
 pl:Si pre rest
 hd:rest=[]∨ ∃e l,rest=e::l∧e.eff=true
 bs: ∀q∈rest,q.x∈BS ops∧q=Nb P ops q.x
 all:pre++rest=L
 run:To dl fin (rest.map λq=>WP P ops q.x) c rs tm H x=.ok out Rf HO xO
def At.still{dl:List VJ}{fin:PK}{c:Ctx}{x:X}{L:List SI}{out:Out}{Rf:TM}{HO:Heap}{xO:X}{pre rest:List SI}{rs:List RD}{tm:TM}{H:Heap}{A:Nat->Option Nat}{σ:Mp}{a:Act}{w:World}{listed:Array Bool}
  (t:At P ops N ds σ0 H0 w0 a0 dl fin c x L out Rf HO xO pre rest rs tm H A σ a w listed):AI.still tm H rs=true:=by
 have hrun:=t.run;rcases t.hd with e|⟨e,l,he,jx⟩
 ·rw[e] at hrun
  have hrun:cond (AI.still tm H rs) (fin rs tm H x) .fail=.ok out Rf HO xO:=hrun;cases h:AI.still tm H rs with
  |true=>rfl
  |false=>rw[h] at hrun;cases hrun
 ·subst he
  have hk:rI (PW P e.x.1.op)=true:=by rw[<-uO (t.bs e (Zw ..)).2];exact jx
  have hk:(WP P ops e.x).kind=.eff:=by
   show PW P e.x.1.op=.eff;cases h:PW P e.x.1.op<;>rw[h] at hk<;>first|rfl|cases hk
  have hrun:PC dl (WP P ops e.x) (To dl fin (l.map λq=>WP P ops q.x) c) c rs tm H x=.ok out Rf HO xO:=hrun;unfold PC at hrun;rw[hk] at hrun;have hrun:cond (AI.still tm H rs) _ .fail=UG.ok out Rf HO xO:=hrun;cases h:AI.still tm H rs with
  |true=>rfl
  |false=>rw[h] at hrun;cases hrun
def At.trel{dl:List VJ}{fin:PK}{c:Ctx}{x:X}{L:List SI}{out:Out}{Rf:TM}{HO:Heap}{xO:X}{pre rest:List SI}{rs:List RD}{tm:TM}{H:Heap}{A:Nat->Option Nat}{σ:Mp}{a:Act}{w:World}{listed:Array Bool}
  (t:At P ops N ds σ0 H0 w0 a0 dl fin c x L out Rf HO xO pre rest rs tm H A σ a w listed)(h: ∀q∈pre,Ls listed q.i):MU σ N tm a.tmps:=by
 refine⟨t.m.tsz,λn hn=>?_⟩;rcases t.m.tmps n hn with⟨q,hq,h1,_⟩|h1
 ·exact absurd (h q hq) h1
 ·exact h1
def At.trelD{dl:List VJ}{fin:PK}{c:Ctx}{x:X}{L:List SI}{out:Out}{Rf:TM}{HO:Heap}{xO:X}{pre rest:List SI}{rs:List RD}{tm:TM}{H:Heap}{A:Nat->Option Nat}{σ:Mp}{a:Act}{w:World}{listed:Array Bool}
  (t:At P ops N ds σ0 H0 w0 a0 dl fin c x L out Rf HO xO pre rest rs tm H A σ a w listed)(hdl:dl=L.map λq=>UN q.d):MU σ N (KQ tm dl) a.tmps:=by
 refine⟨t.m.tsz,λn hn=>?_⟩;have e:dl=(L.map (·.d)).map UN:=by rw[hdl,RI];rfl
 rw[e,Bx hn]
 by_cases h:some n∈L.map (·.d)
 ·rw[if_pos h];simp[Ym]
 ·rw[if_neg h]
  rcases t.m.tmps n hn with⟨q,hq,_,h1⟩|h1
  ·exact absurd (YC.2 ⟨q,by rw[<-t.all];exact Zt.2 (.inl hq),h1⟩) h
  ·exact h1
def At.eff{dl:List VJ}{fin:PK}{c:Ctx}{x:X}{L:List SI}{out:Out}{Rf:TM}{HO:Heap}{xO:X}{pre l:List SI}{e:SI}{rs:List RD}{tm:TM}{H:Heap}{A:Nat->Option Nat}{σ:Mp}{a:Act}{w:World}{listed:Array Bool}
  (hN: ∀o∈ops,oH N o.dst=true∧ ∀t,o.dst=some t->t∈ds)(hdl:dl=L.map λq=>UN q.d){b:Frame}(hc:Ka P c b σ0 H0 w0)
  (t:At P ops N ds σ0 H0 w0 a0 dl fin c x L out Rf HO xO pre (e::l) rs tm H A σ a w listed)(jx:e.eff=true)(hr:e.i∈Region.ready .any ops listed)(k:List Item)(cs:List Frame)(rest:List Nat)
  (hgo: ∀(pre' rest':List SI) (rs':List RD) (tm':TM) (H':Heap) (A':Nat->Option Nat) (σ':Mp) (a':Act) (w':World),At P ops N ds σ0 H0 w0 a0 dl fin c x L out Rf HO xO pre' rest' rs' tm' H' A' σ' a' w' (listed.setIfInBounds e.i true)->
   (xO=x∧Done P N ds σ0 H0 w0 a0 (lone (b.atR a' (.inRegion ops rest::k)) cs w') b k cs out Rf HO)):
  xO=x∧Done P N ds σ0 H0 w0 a0 (lone (b.atR a (.inRegion ops (e.i::rest)::k)) cs w) b k cs out Rf HO:=by
 have m:=t.m;obtain⟨hq,Fd⟩:=t.bs e (Zw ..);have hst:=t.still;have hrun:=t.run;have hk:rI (PW P e.x.1.op)=true:=by rw[<-uO Fd];exact jx
 have hk:(WP P ops e.x).kind=.eff:=by
  show PW P e.x.1.op=.eff;cases h:PW P e.x.1.op<;>rw[h] at hk<;>first|rfl|cases hk
 have hrun:PC dl (WP P ops e.x) (To dl fin (l.map λq=>WP P ops q.x) c) c rs tm H x=.ok out Rf HO xO:=hrun;unfold PC at hrun;rw[hk] at hrun;have hrun:cond (AI.still tm H rs) (MM (Sd P ops e.x.1) tm (zR dl (WP P ops e.x) (To dl fin (l.map λq=>WP P ops q.x) c) rs c tm x (Uc P e.x.1.op (OG tm (UF e.x.1)) H))
  (To dl fin (l.map λq=>WP P ops q.x) c (Sx (WP P ops e.x).bef rs) (UN e.x.1.dst tm Y9) H x)) .fail=UG.ok out Rf HO xO:=hrun
 rw[hst,<-FN Fd,<-ES Fd] at hrun;have hrun:MM (Sd P ops e.x.1) tm (zR dl (WP P ops e.x) (To dl fin (l.map λq=>WP P ops q.x) c) rs c tm x (Uc P e.x.1.op (OG tm (UF e.x.1)) H))
  (To dl fin (l.map λq=>WP P ops q.x) c (Sx e.bef rs) (UN e.d tm Y9) H x)=UG.ok out Rf HO xO:=hrun
 have ho:ops[e.i]? =some e.x.1:=by
  obtain⟨⟨j,h3,h4⟩,_⟩:=Rl _ _ _ _ hq;have:e.i=e.x.2.1:=by rw[Fd];rfl
  rw[this,h4,Zl,<-Z7];exact h3
 obtain⟨hNe,Zae⟩:=hN _ (Vf ho);rw[<-FN Fd] at hNe Zae;have K6: ∀t∈Rt ops e.x.1,t<512->Ym σ (SN t tm) (a.tmps.getD t undef):=by
  rw[<-pM Fd];exact m.looks (m.before hq Fd hr) λt' ht p hp Cu=>.inl (t.pl.2.2.1 t' ht p hp Cu)
 have after: ∀(σ':Mp) (H':Heap) (w':World) (v:AV) (u:Value),Tr P σ H w σ' H' w'->Ym σ' v u->To dl fin (l.map λq=>WP P ops q.x) c (Sx e.bef rs) (UN e.d tm v) H' x=.ok out Rf HO xO->
   (xO=x∧Done P N ds σ0 H0 w0 a0 (lone (b.atR (a.put e.d u) (.inRegion ops rest::k)) cs w') b k cs out Rf HO):=by
  intro σ' H' w' v u tr hv hrun;have m':=m.eff t.pl hq Fd hr Zae hNe tr hv;obtain⟨pre',rest',rs',tm',H2,A',h1,h2,h3,h4,h5,h6⟩:=MS.advance l (pre++[e]) _ _ _ _ m' t.pl.2.2.2.2 (λp h=>t.bs p (ZC _ h)) hrun;refine hgo pre' rest' rs' tm' H2 A' σ' _ w' ⟨h3,h4,h2,h5,?_,h6⟩;rw[<-h1,<-t.all];simp
 rcases Ep hrun (by simp) with⟨hw,hin⟩|⟨hu,hrun⟩
 ·have hwr:=hw.run (a:=a) (σ:=σ) K6
  have hops:RG P σ (OG tm (UF e.x.1)) a.eval:=Fx m.sim λt ht=>K6 t (MF ht) (Nq ht);have hok:=MX m.sim hops e.x.1;unfold XI at hok;have hnd:=Ja (P:=P) (o:=e.x.1) (tm:=OG tm (UF e.x.1)) (H:=H);have hcc:=hc.tr m.full;have pan: ∀(σ':Mp) (H':Heap) (w':World) (v:AV) (u:Value),Tr P σ H w σ' H' w'->Ym σ' v u->Zja dl v tm H' x=.ok out Rf HO xO->
    Steps P (lone (b.atR a (.inRegion ops (e.i::rest)::k)) cs w) (lone {b.atR a (.inRegion ops (e.i::rest)::k) with mode:=.panicking [{v:=u,recovered:=false}]} cs w')->
    (xO=x∧Done P N ds σ0 H0 w0 a0 (lone (b.atR a (.inRegion ops (e.i::rest)::k)) cs w) b k cs out Rf HO):=by
   intro σ' H' w' v u tr hv he hs;have he:UG.ok (.pan v) (KQ tm dl) H' x=.ok out Rf HO xO:=he;cases he;exact⟨rfl,σ',a,w',m.full.trans tr,(t.trelD hdl).mono tr.ext,m.defers,m.old,_,u,hv,hs⟩
  have cro: ∀(r:CR),Ki P σ H w r ((execOp a.eval e.x.1).run P w)->(∀c,e.x.1.op≠.defer c)->pk dl (WP P ops e.x) (To dl fin (l.map λq=>WP P ops q.x) c) rs tm x r=.ok out Rf HO xO->
    (xO=x∧Done P N ds σ0 H0 w0 a0 (lone (b.atR a (.inRegion ops (e.i::rest)::k)) cs w) b k cs out Rf HO):=by
   intro r hr' hnd he;cases r with
   |fail=>cases he
   |ret v H1=>
    have he:To dl fin (l.map λq=>WP P ops q.x) c (Sx (WP P ops e.x).bef rs) (UN e.x.1.dst tm v) H1 x=.ok out Rf HO xO:=he;rw[<-FN Fd,<-ES Fd] at he;rcases OE (b:=b) (k:=k) (cs:=cs) (rest:=rest) ho hwr hnd hr' with⟨u,w1,⟨σ1,h1,h2⟩,hs⟩|⟨u,w1,h1,_⟩
    ·rw[<-FN Fd] at hs
     obtain⟨g1,g2⟩:=after σ1 H1 w1 v u h2 h1 he;exact⟨g1,g2.of_steps hs⟩
    ·exact h1.elim
   |pan v H1=>
    rcases OE (b:=b) (k:=k) (cs:=cs) (rest:=rest) ho hwr hnd hr' with⟨u,w1,h1,_⟩|⟨u,w1,⟨σ1,h1,h2⟩,hs⟩
    ·exact h1.elim
    ·exact pan σ1 H1 w1 v u h2 h1 he hs
  generalize hr2:Uc P e.x.1.op (OG tm (UF e.x.1)) H=r at hin hok hnd;cases r with
  |val v H1=>
   obtain⟨σ1,w1,u,hrn,hrel,t1⟩:=hok;have hs:=MJ (b:=b) (k:=k) (cs:=cs) (rest:=rest) ho hwr (hnd (λ_ _ h=>by cases h) (λh=>by cases h)) hrn;have hrun:To dl fin (l.map λq=>WP P ops q.x) c (Sx (WP P ops e.x).bef rs) (UN e.x.1.dst tm v) H1 x=.ok out Rf HO xO:=hin;rw[<-FN Fd,<-ES Fd] at hrun;rw[<-FN Fd] at hs;obtain⟨g1,g2⟩:=after σ1 H1 w1 v u t1 hrel hrun;exact⟨g1,g2.of_steps hs⟩
  |oth q=>
   cases q with
   |fail=>cases hin
   |recov=>cases hin
   |defer f ar=>cases hin
   |call f ar H1=>
    obtain⟨rfl,vs,hvs,hrn⟩:=hok;refine cro _ ?_ (hnd (λ_ _ h=>by cases h) (λh=>by cases h)) hin;rw[hrn];exact hc.call f ar H1 σ w vs m.sim hvs
   |yield bk ar H1=>
    obtain⟨rfl,ll,vs,hl,hvs,hrn⟩:=hok;refine cro _ ?_ (hnd (λ_ _ h=>by cases h) (λh=>by cases h)) hin;rw[hrn];exact hcc.yld bk ar H1 σ w ll vs (Tr.refl m.sim) hl hvs
   |pan v H1=>
    obtain⟨rfl,u,hu,hrn⟩:=hok;have hE:Ends P (λ_ _=>False) (λy w2=>y=u∧w2=w) ((execOp a.eval e.x.1).run P w):=by rw[hrn];exact⟨rfl,rfl⟩
    rcases OE (b:=b) (k:=k) (cs:=cs) (rest:=rest) ho hwr (hnd (λ_ _ h=>by cases h) (λh=>by cases h)) hE with⟨_,_,h,_⟩|⟨u',w',⟨rfl,rfl⟩,hs⟩
    ·exact h.elim
    ·exact pan σ H1 _ v _ (Tr.refl m.sim) hu hin hs
 ·have hun:=hu.run (a:=a) (σ:=σ) K6
  have hs:=stepR_op_skip (P:=P) (b:=b) (a:=a) (k:=k) (cs:=cs) (w:=w) (ops:=ops) (i:=e.i) (rest:=rest) (by rw[ho];exact hun);have hs:step P (lone (b.atR a (.inRegion ops (e.i::rest)::k)) cs w)=.next (lone (b.atR (a.put e.d undef) (.inRegion ops rest::k)) cs w):=by
   rw[ho] at hs;rw[FN Fd];exact hs
  obtain⟨g1,g2⟩:=after σ H w Y9 undef (Tr.refl m.sim) EH hrun;exact⟨g1,g2.of_steps (.one hs)⟩
def At.next{dl:List VJ}{fin:PK}{c:Ctx}{x:X}{L:List SI}{out:Out}{Rf:TM}{HO:Heap}{xO:X}{pre rest:List SI}{rs:List RD}{tm:TM}{H:Heap}{A:Nat->Option Nat}{σ:Mp}{a:Act}{w:World}{listed:Array Bool}
  (t:At P ops N ds σ0 H0 w0 a0 dl fin c x L out Rf HO xO pre rest rs tm H A σ a w listed){q:SI}(hq:q∈rest)(hr:q.i∈Region.ready .any ops listed): ∃l,rest=q::l∧q.eff=true:=by
 rcases t.hd with e|⟨e,l,he,jx⟩
 ·rw[e] at hq;cases hq
 ·subst he
  rcases ZY.1 hq with rfl|hq'
  ·exact⟨l,rfl,jx⟩
  ·exfalso
   obtain⟨h1,h2⟩:=t.bs q hq;have h3:=t.m.before h1 h2 hr e.i (t.pl.1 jx q hq');obtain⟨p,hp,h4⟩:=t.m.sub _ h3;exact t.pl.2.2.2.1 p hp h4
theorem pa(Zk t:Nat)(listed:Array Bool):Region.linearise.go .any ops (Zk+1) t listed []=
  match(Region.ready .any ops listed)[t % (Region.ready .any ops listed).length]? with
   |some i=>i::Region.linearise.go .any ops Zk (t/(Region.ready .any ops listed).length) (listed.setIfInBounds i true) []
   |none=>[]:=by
 simp only[Region.linearise.go]
 change (match(Region.ready .any ops listed)[t % (Region.ready .any ops listed).length]? with
   |some i=>Region.linearise.go .any ops Zk (t/(Region.ready .any ops listed).length) (listed.setIfInBounds i true) [i]
   |none=>[].reverse)=_
 cases(Region.ready .any ops listed)[t % (Region.ready .any ops listed).length]? with
 |none=>rfl
 |some i=>simp only[];rw[linearise_go_acc];rfl
def wm{t:Nat}{l:List Nat}(h:l[t % l.length]? =none):l=[]:=by
 cases l with
 |nil=>rfl
 |cons x xs=>
  have hlt:t % (x::xs).length<(x::xs).length:=Wh _ (by simp);rw[List.getElem?_eq_none_iff] at h;omega
def py(hE:cF ops)(hN: ∀o∈ops,oH N o.dst=true∧ ∀t,o.dst=some t->t∈ds){dl:List VJ}{c:Ctx}{x:X}{L:List SI}{out:Out}{Rf:TM}{HO:Heap}{xO:X}(hdl:dl=L.map λq=>UN q.d)
  (hall: ∀j,j<ops.size-> ∃q∈L,q.i=j){b:Frame}(hc:Ka P c b σ0 H0 w0)(k:List Item)(cs:List Frame): ∀(Zk t:Nat) (pre rest:List SI) (rs:List RD) (tm:TM) (H:Heap) (A:Nat->Option Nat) (σ:Mp) (a:Act) (w:World) (listed:Array Bool),
  At P ops N ds σ0 H0 w0 a0 dl Fo c x L out Rf HO xO pre rest rs tm H A σ a w listed->oA listed ops.size<=Zk->
  xO=x∧Done P N ds σ0 H0 w0 a0 (lone (b.atR a (.inRegion ops (Region.linearise.go .any ops Zk t listed [])::k)) cs w) b k cs out Rf HO:=by
 have fin: ∀(pre rest:List SI) (rs:List RD) (tm:TM) (H:Heap) (A:Nat->Option Nat) (σ:Mp) (a:Act) (w:World) (listed:Array Bool),
   At P ops N ds σ0 H0 w0 a0 dl Fo c x L out Rf HO xO pre rest rs tm H A σ a w listed->(∀j,j<ops.size->Ls listed j)->
   xO=x∧Done P N ds σ0 H0 w0 a0 (lone (b.atR a (.inRegion ops []::k)) cs w) b k cs out Rf HO:=by
  intro pre rest rs tm H A σ a w listed t hl;have hidx: ∀q∈L,q.i<ops.size->Ls listed q.i:=λq _ h=>hl q.i h;have hrest:rest=[]:=by
   rcases t.hd with e|⟨e,l,he,_⟩
   ·exact e
   ·exfalso
    subst he;obtain⟨h1,h2⟩:=t.bs e (Zw ..);have hlt:e.i<ops.size:=by
     obtain⟨⟨j,h3,h4⟩,_⟩:=Rl _ _ _ _ h1;have:e.i=e.x.2.1:=by rw[h2];rfl
     rw[this,h4,Zl];rw[Z7] at h3;exact(ZX.1 h3).1
    obtain⟨p,hp,h4⟩:=t.m.sub _ (hl e.i hlt);exact t.pl.2.2.2.1 p hp h4
  have hrun:=t.run;have hst:=t.still;subst hrest;have hrun:cond (still tm H rs) (UG.ok .normal tm H x) .fail=.ok out Rf HO xO:=hrun;rw[hst] at hrun;cases hrun;refine⟨rfl,σ,a,w,t.m.full,t.trel λq hq=>?_,t.m.defers,t.m.old,.one stepR_region_end⟩;exact hl q.i (ZX.1 (t.m.oper hq)).1
 intro Zk
 induction Zk with
 |zero=>
  intro t pre rest rs tm H A σ a w listed hat hu;exact fin pre rest rs tm H A σ a w listed hat (zF (by omega))
 |succ Zk ih=>
  intro t pre rest rs tm H A σ a w listed hat hu;rw[pa];cases hi:(Region.ready .any ops listed)[t % (Region.ready .any ops listed).length]? with
  |none=>exact fin pre rest rs tm H A σ a w listed hat (CV hE hat.m.size (wm hi))
  |some i=>
   have hr:i∈Region.ready .any ops listed:=Vt hi;obtain⟨hilt,hinl⟩:=EN hr hat.m.size;have hu':oA (listed.setIfInBounds i true) ops.size<=Zk:=by
    have:=(CN (by rw[hat.m.size];exact hilt) hinl ops.size).1 hilt;omega
   obtain⟨q,hq,hqi⟩:=hall i hilt;subst hqi;rw[<-hat.all] at hq;rcases Zt.1 hq with hq|hq
   ·have ho:=hat.m.oper hq
    obtain⟨h1,h2⟩:=hN _ (Vf ho);rw[<-FN (hat.m.bs q hq).2] at h1 h2;obtain⟨σ2,a2,w2,m2,hs⟩:=hat.m.late hat.still hq hinl hr h2 h1 b k cs (Region.linearise.go .any ops Zk (t/(Region.ready .any ops listed).length) (listed.setIfInBounds q.i true) []);obtain⟨g1,g2⟩:=ih (t/(Region.ready .any ops listed).length) pre rest rs tm H A σ2 a2 w2 _ ⟨m2,hat.pl,hat.hd,hat.bs,hat.all,hat.run⟩ hu';exact⟨g1,g2.of_steps hs⟩
   ·obtain⟨l,rfl,jx⟩:=hat.next hq hr
    exact hat.eff hN hdl hc jx hr k cs _ λpre' rest' rs' tm' H' A' σ' a' w' hat'=>ih _ pre' rest' rs' tm' H' A' σ' a' w' _ hat' hu'
end
section
variable {P:Program} {ops:Array Oper} {N:Nat} {ds:List Nat} {σ0:Mp} {H0:Heap} {w0:World} {a0:Act}
theorem No: ∀{l1 pre l2:List SI},Si pre (l1++l2)->Si (pre++l1) l2
 |[],pre,l2,h=>by simpa using h
 |q::l1,pre,l2,h=>by
  have:=No (l1:=l1) (pre:=pre++[q]) h.2.2.2.2
  simpa using this
theorem DK: ∀{l1 pre l2:List SI},Si pre (l1++l2)->Si pre l1
 |[],_,_,_=>trivial
 |q::l1,pre,l2,h=>⟨λhe r hr=>h.1 he r (Zt.2 (.inl hr)),h.2.1,h.2.2.1,h.2.2.2.1,DK h.2.2.2.2⟩
def Tr.congr{σ σ':Mp}{H H' H'':Heap}{w w':World}(t:Tr P σ H w σ' H' w')(hg: ∀b,H''.t.get b=H'.t.get b)(hn:H''.nx=H'.nx)(hr:H''.ro=H'.ro):Tr P σ H w σ' H'' w':=by
 have hw: ∀b,Wr H'' b->Wr H' b:=λb ⟨h1,o,h2,h3⟩=>⟨by rw[<-hr];exact h1,o,by rw[<-hg];exact h2,h3⟩;exact⟨t.ext,⟨λb l h=>by rw[hn];exact t.sim.dom b l h,λb o h=>by rw[hn];exact t.sim.low b o (by rw[<-hg];exact h),λb o l h=>t.sim.alive b o l (by rw[<-hg];exact h),
  λb b' o o' l l' h h'=>t.sim.inj b b' o o' l l' (by rw[<-hg];exact h) (by rw[<-hg];exact h'),t.sim.glob,by rw[hn,hr];exact t.sim.ro⟩,t.size,t.frame,λb l h=>t.wr b l (hw b h),
  by rw[hn];exact t.nx,by rw[hr];exact t.ro,λb hb=>by rw[hg];exact t.low b hb,t.tape,t.os,t.out,λb hb h=>by rw[hg];exact t.pend b hb h⟩
def Done.congr{m:Machine}{b:Frame}{k:List Item}{cs:List Frame}{out:Out}{Rf:TM}{HO H':Heap}(d:Done P N ds σ0 H0 w0 a0 m b k cs out Rf HO)(hg: ∀b,H'.t.get b=HO.t.get b)(hn:H'.nx=HO.nx)(hr:H'.ro=HO.ro):
  Done P N ds σ0 H0 w0 a0 m b k cs out Rf H':=by
 obtain⟨σ',a',w',h1,h⟩:=d;exact⟨σ',a',w',h1.congr hg hn hr,h⟩
def RF{o:Oper}{e:WI}(h:RE P o=some e):o.dst=none∧o.guard=none∧PW P o.op=.eff∧
  ∀tm H v H',Uc P o.op tm H=.val v H'-> ∃b i ob,e tm=.ptr b i∧H'=H.put b ob∧ ∀H2,H2.t.get b=H.t.get b->H2.ro=H.ro->Uc P o.op tm H2=.val v (H2.put b ob):=by
 unfold RE at h
 split at h
 ·rename_i t a x hop hg hd
  cases h;refine⟨hd,hg,by rw[hop];rfl,λtm H v H' he=>?_⟩;rw[hop] at he ⊢;simp only[Uc,Ti] at he ⊢;cases hi:P.info? t with
  |none=>rw[hi] at he;cases he
  |some i=>
   rw[hi] at he;simp only[YB,Qp] at he ⊢;cases hp:YZ P a tm with
   |ptr b j=>
    rw[hp] at he;simp only[Yx] at he ⊢;cases hb:H.t.get b with
    |none=>rw[hb] at he;cases he
    |some ob=>
     rw[hb] at he;cases ob with
     |row r=>
      simp only[ZJ] at he ⊢;cases c1:Nat.ble 1 i.size with
      |false=>rw[c1] at he;cases he
      |true=>
      rw[c1] at he;cases c2:H.may r b with
      |false=>rw[c2] at he;cases he
      |true=>
      rw[c2] at he;cases c3:Nat.ble (Nat.add j i.size) r.size with
      |false=>rw[c3] at he;cases he
      |true=>
      rw[c3] at he;cases c4:Nat.ble r.fz j with
      |false=>rw[c4] at he;cases he
      |true=>
      rw[c4] at he;cases c5:Nat.beq (YN (YZ P x tm).cells) i.size with
      |false=>rw[c5] at he;cases he
      |true=>
      rw[c5] at he;cases he;refine⟨b,j,_,rfl,rfl,λH2 hg2 hr2=>?_⟩;have c2':H2.may r b=true:=by unfold Heap.may at c2 ⊢;rw[hr2];exact c2
      simp only[hg2,hb,c2',c3,c4,c5,cond_true]
     |_=>cases he
   |_=>rw[hp] at he;cases he
 ·cases h
def jX{l:List RD}{r s:UG}(h:ZiL l r=s)(hs:s≠.fail):l=[]∧r=s:=by
 cases l with
 |nil=>exact⟨rfl,h⟩
 |cons a l=>exact absurd h.symm hs
def pY{o:Oper}{e:WI}(h:RE P o=some e){q:SI}(hq:q=Nb P ops q.x)(hqo:q.x.1=o){dl:List VJ}{nx:PK}{c:Ctx}{rs:List RD}{tm:TM}{H:Heap}{x:X}{v:AV}{H':Heap}
  (hst:still tm H rs=true)(hf:Uc P o.op (OG tm (UF o)) H=.val v H'):PC dl (WP P ops q.x) nx c rs tm H x=nx (Sx q.bef rs) tm H' x:=by
 obtain⟨h1,h2,h3,_⟩:=RF h;have hk:(WP P ops q.x).kind=.eff:=by show PW P q.x.1.op=_;rw[hqo];exact h3
 unfold PC;rw[hk];show cond (still tm H rs) (MM (Sd P ops q.x.1) tm (zR dl (WP P ops q.x) nx rs c tm x (Uc P q.x.1.op (OG tm (UF q.x.1)) H)) _) .fail=_;have hg:Sd P ops q.x.1=none:=by unfold Sd;rw[hqo,h2]
 rw[hst,hg,hqo,hf];show nx (Sx (WP P ops q.x).bef rs) (UN q.x.1.dst tm v) H' x=_;rw[hqo,h1,<-ES hq];rfl
def AQ(hE:cF ops)(hN: ∀o∈ops,oH N o.dst=true∧ ∀t,o.dst=some t->t∈ds){c:Ctx}{x:X}{L:List SI}{s1 s2:SI}{e1 e2:WI}
  (hs1:RE P s1.x.1=some e1)(hs2:RE P s2.x.1=some e2)(hb1:s1.x∈BS ops∧s1=Nb P ops s1.x)(hb2:s2.x∈BS ops∧s2=Nb P ops s2.x)(h12:s1.i≠s2.i)
  (hp1:Si L [s1])(hp2:Si L [s2])(hall: ∀j,j<ops.size->(∃q∈L,q.i=j)∨j=s1.i∨j=s2.i)
  {b:Frame}(hc:Ka P c b σ0 H0 w0)(k:List Item)(cs:List Frame){Zk t:Nat}{rs:List RD}{tm:TM}{H:Heap}{A:Nat->Option Nat}{σ:Mp}{a:Act}{w:World}{listed:Array Bool}
  (m:MS P ops N ds σ0 H0 w0 L rs tm H A σ a0 a w listed)(hst:still tm H rs=true)(hr:s1.i∈Region.ready .any ops listed)(hu:oA listed ops.size<=Zk+1)
  {v1 v2:AV}{H1 H2:Heap}(hf1:Uc P s1.x.1.op (OG tm (UF s1.x.1)) H=.val v1 H1)(hf2:Uc P s2.x.1.op (OG tm (UF s2.x.1)) H1=.val v2 H2)(hk1:Sx s1.bef rs=[]):
  Done P N ds σ0 H0 w0 a0 (lone (b.atR a (.inRegion ops (s1.i::Region.linearise.go .any ops Zk t (listed.setIfInBounds s1.i true) [])::k)) cs w) b k cs .normal tm H2:=by
 obtain⟨hilt,hinl⟩:=EN hr m.size;have hu':oA (listed.setIfInBounds s1.i true) ops.size<=Zk:=by
  have:=(CN (by rw[m.size];exact hilt) hinl ops.size).1 hilt;omega
 let L2:List SI:=(L++[s1])++[s2]
 let dl2:List VJ:=L2.map λq=>UN q.d
 have Zpq:s2.eff=true:=by rw[uO hb2.2,(RF hs2).2.2.1];rfl
 have hd1:s1.d=none:=by rw[FN hb1.2];exact(RF hs1).1
 have hd2:s2.d=none:=by rw[FN hb2.2];exact(RF hs2).1
 have Zqt:To dl2 Fo [WP P ops s2.x] c [] tm H1 x=.ok .normal tm H2 x:=by
  show PC dl2 (WP P ops s2.x) (To dl2 Fo [] c) c [] tm H1 x=_;rw[pY hs2 hb2.2 rfl rfl hf2];rfl
 have ho:ops[s1.i]? =some s1.x.1:=by
  obtain⟨⟨j,h3,h4⟩,_⟩:=Rl _ _ _ _ hb1.1;have:s1.i=s1.x.2.1:=by have:=hb1.2;rw[this];rfl
  rw[this,h4,Zl,<-Z7];exact h3
 obtain⟨hNe,Zae⟩:=hN _ (Vf ho);rw[<-FN hb1.2] at hNe Zae;have K6: ∀t∈Rt ops s1.x.1,t<512->Ym σ (SN t tm) (a.tmps.getD t undef):=by
  rw[<-pM hb1.2];exact m.looks (m.before hb1.1 hb1.2 hr) λt' ht p hp Cu=>.inl (hp1.2.2.1 t' ht p hp Cu)
 have hwr:Region.wanted s1.x.1 (yielded ops a.tmps)=true:=by unfold Region.wanted;rw[(RF hs1).2.1]
 have hops:RG P σ (OG tm (UF s1.x.1)) a.eval:=Fx m.sim λt ht=>K6 t (MF ht) (Nq ht);have hok:=MX m.sim hops s1.x.1;unfold XI at hok;rw[hf1] at hok;obtain⟨σ1,w1,u,hrn,hrel,t1⟩:=hok;have hs:=MJ (b:=b) (k:=k) (cs:=cs) (rest:=Region.linearise.go .any ops Zk t (listed.setIfInBounds s1.i true) []) ho hwr (L7 hf1) hrn;have m':=m.eff hp1 hb1.1 hb1.2 hr Zae hNe t1 hrel;rw[hk1,hd1] at m';have htm:UN none tm v1=tm:=rfl;rw[htm] at m';have Zpy:Si (L++[s1]) [s2]:=by
  refine⟨λ_ r hr=>(by cases hr),.inl (λt ht=>by rw[hd2] at ht;cases ht),λt ht p hp Cu=>?_,λp hp=>?_,trivial⟩
  ·rcases Zt.1 hp with hp|hp
   ·exact hp2.2.2.1 t ht p hp Cu
   ·obtain rfl:p=s1:=by simpa using hp
    rw[hd1] at Cu;cases Cu
  ·rcases Zt.1 hp with hp|hp
   ·exact hp2.2.2.2.1 p hp
   ·obtain rfl:p=s1:=by simpa using hp
    exact h12
 have hat:At P ops N ds σ0 H0 w0 a0 dl2 Fo c x L2 .normal tm H2 x (L++[s1]) [s2] [] tm H1 A σ1 (a.put none u) w1 (listed.setIfInBounds s1.i true):=
  ⟨m',Zpy,.inr ⟨s2,[],rfl,Zpq⟩,λq hq=>(by have e:q=s2:=(by simpa using hq);rw[e];exact hb2),rfl,Zqt⟩
 obtain⟨_,g⟩:=py hE hN (dl:=dl2) (L:=L2) rfl (λj hj=>by
  rcases hall j hj with⟨q,hq,e⟩|e|e
  ·exact⟨q,Zt.2 (.inl (Zt.2 (.inl hq))),e⟩
  ·exact⟨s1,Zt.2 (.inl (Zt.2 (.inr (by simp)))),e.symm⟩
  ·exact⟨s2,Zt.2 (.inr (by simp)),e.symm⟩) hc k cs Zk t _ _ _ _ _ _ _ _ _ _ hat hu'
 refine g.of_steps ?_;have:s1.x.1.dst=none:=(RF hs1).1;rw[this] at hs;exact hs
def cQ{u v:AV}{r s:UG}(h:apart u v r=s)(hs:s≠.fail): ∃b i b' i',u=.ptr b i∧v=.ptr b' i'∧b≠b'∧r=s:=by
 unfold apart at h
 split at h
 ·rename_i b i b' i'
  cases e:Nat.beq b b' with
  |true=>rw[e] at h;exact absurd h.symm hs
  |false=>
   rw[e] at h;refine⟨b,i,b',i',rfl,rfl,λe'=>?_,h⟩;subst e';rw[YD] at e;cases e
 ·exact absurd h.symm hs
def Zbs{r:OR}{k:Heap->UG}{s:UG}(h:onV r k=s)(hs:s≠.fail): ∃v H',r=.val v H'∧k H'=s:=by
 cases r with
 |val v H'=>exact⟨v,H',rfl,h⟩
 |oth q=>exact absurd h.symm hs
def ZbT(hE:cF ops)(hN: ∀o∈ops,oH N o.dst=true∧ ∀t,o.dst=some t->t∈ds){dl:List VJ}{c:Ctx}{x:X}{L:List SI}{s1 s2:SI}{e1 e2:WI}{out:Out}{Rf:TM}{HO:Heap}{xO:X}(hdl:dl=L.map λq=>UN q.d)
  (hs1:RE P s1.x.1=some e1)(hs2:RE P s2.x.1=some e2)(hb1:s1.x∈BS ops∧s1=Nb P ops s1.x)(hb2:s2.x∈BS ops∧s2=Nb P ops s2.x)(h12:s1.i≠s2.i)
  (hp1:Si [] (L++[s1]))(hp2:Si [] (L++[s2]))(hall: ∀j,j<ops.size->(∃q∈L,q.i=j)∨j=s1.i∨j=s2.i)
  {b:Frame}(hc:Ka P c b σ0 H0 w0)(k:List Item)(cs:List Frame): ∀(Zk t:Nat) (pre rest:List SI) (rs:List RD) (tm:TM) (H:Heap) (A:Nat->Option Nat) (σ:Mp) (a:Act) (w:World) (listed:Array Bool),
  At P ops N ds σ0 H0 w0 a0 dl (DJ (WP P ops s1.x) (WP P ops s2.x) e1 e2) c x L out Rf HO xO pre rest rs tm H A σ a w listed->oA listed ops.size<=Zk->
  xO=x∧Done P N ds σ0 H0 w0 a0 (lone (b.atR a (.inRegion ops (Region.linearise.go .any ops Zk t listed [])::k)) cs w) b k cs out Rf HO:=by
 have last: ∀(s:SI),(s=s1∨s=s2)-> ∀(pre rest:List SI) (rs:List RD) (tm:TM) (H:Heap) (A:Nat->Option Nat) (σ:Mp) (a:Act) (w:World) (listed:Array Bool),
   At P ops N ds σ0 H0 w0 a0 dl (DJ (WP P ops s1.x) (WP P ops s2.x) e1 e2) c x L out Rf HO xO pre rest rs tm H A σ a w listed->s.i∈Region.ready .any ops listed->rest=[]∧pre=L:=by
  intro s hs pre rest rs tm H A σ a w listed hat hr;have hbs:s.x∈BS ops∧s=Nb P ops s.x:=by rcases hs with rfl|rfl;exact hb1;exact hb2
  have hps:Si [] (L++[s]):=by rcases hs with rfl|rfl;exact hp1;exact hp2
  have ZfZ:=hat.all;rcases hat.hd with e|⟨e,l,he,jx⟩
  ·subst e;exact⟨rfl,by simpa using ZfZ⟩
  ·exfalso
   subst he;rw[<-ZfZ] at hps;have h1:=No (l1:=pre) (pre:=[]) (l2:=(e::l)++[s]) (by simpa using hps);have h2:Nat.testBit s.bef e.i=true:=h1.1 jx s (by simp);have h3:=hat.m.before hbs.1 hbs.2 hr e.i h2;obtain⟨p,hp,h4⟩:=hat.m.sub _ h3;exact hat.pl.2.2.2.1 p hp h4
 have Zh8:Si L [s1]:=by simpa using No (l1:=L) (pre:=[]) hp1
 have Zli:Si L [s2]:=by simpa using No (l1:=L) (pre:=[]) hp2
 have Zgm: ∀(pre rest:List SI) (rs:List RD) (tm:TM) (H:Heap) (A:Nat->Option Nat) (σ:Mp) (a:Act) (w:World) (listed:Array Bool),
   At P ops N ds σ0 H0 w0 a0 dl (DJ (WP P ops s1.x) (WP P ops s2.x) e1 e2) c x L out Rf HO xO pre rest rs tm H A σ a w listed-> ¬Ls listed s1.i:=by
  intro pre rest rs tm H A σ a w listed hat hl;obtain⟨p,hp,e⟩:=hat.m.sub _ hl;exact Zh8.2.2.2.1 p (by rw[<-hat.all];exact Zt.2 (.inl hp)) e
 have hi1:s1.i<ops.size:=by
  obtain⟨⟨j,h3,h4⟩,_⟩:=Rl _ _ _ _ hb1.1;have:s1.i=s1.x.2.1:=by have:=hb1.2;rw[this];rfl
  rw[this,h4,Zl];rw[Z7] at h3;exact(ZX.1 h3).1
 intro Zk
 induction Zk with
 |zero=>
  intro t pre rest rs tm H A σ a w listed hat hu;exact absurd (zF (by omega) s1.i hi1) (Zgm pre rest rs tm H A σ a w listed hat)
 |succ Zk ih=>
  intro t pre rest rs tm H A σ a w listed hat hu;rw[pa];cases hi:(Region.ready .any ops listed)[t % (Region.ready .any ops listed).length]? with
  |none=>exact absurd (CV hE hat.m.size (wm hi) s1.i hi1) (Zgm pre rest rs tm H A σ a w listed hat)
  |some i=>
   have hr:i∈Region.ready .any ops listed:=Vt hi;obtain⟨hilt,hinl⟩:=EN hr hat.m.size;have hu':oA (listed.setIfInBounds i true) ops.size<=Zk:=by
    have:=(CN (by rw[hat.m.size];exact hilt) hinl ops.size).1 hilt;omega
   have ends: ∀s:SI,(s=s1∨s=s2)->s.i∈Region.ready .any ops listed->pre=L∧ ∃v1 H1 v2 H2,Sx s1.bef rs=[]∧Sx s2.bef rs=[]∧
     Uc P s1.x.1.op (OG tm (UF s1.x.1)) H=.val v1 H1∧Uc P s2.x.1.op (OG tm (UF s2.x.1)) H1=.val v2 H2∧
     (∃b i b' i',e1 (OG tm (UF s1.x.1))=.ptr b i∧e2 (OG tm (UF s2.x.1))=.ptr b' i'∧b≠b')∧out=.normal∧Rf=tm∧HO=H2∧xO=x:=by
    intro s hs hrs;obtain⟨rfl,hpre⟩:=last s hs pre rest rs tm H A σ a w listed hat hrs;have hrun:=hat.run;have hst:=hat.still;have hrun:cond (still tm H rs) (DJ (WP P ops s1.x) (WP P ops s2.x) e1 e2 rs tm H x) .fail=.ok out Rf HO xO:=hrun;rw[hst] at hrun;have hrun:DJ (WP P ops s1.x) (WP P ops s2.x) e1 e2 rs tm H x=.ok out Rf HO xO:=hrun;unfold DJ at hrun;obtain⟨k1,hrun⟩:=jX hrun (by simp);obtain⟨k2,hrun⟩:=jX hrun (by simp);obtain⟨b1,i1,b2,i2,g1,g2,g3,hrun⟩:=cQ hrun (by simp);obtain⟨v1,H1,f1,hrun⟩:=Zbs hrun (by simp);obtain⟨v2,H2,f2,hrun⟩:=Zbs hrun (by simp);cases hrun;rw[<-ES hb1.2] at k1;rw[<-ES hb2.2] at k2;exact⟨hpre,v1,H1,v2,HO,k1,k2,f1,f2,⟨b1,i1,b2,i2,g1,g2,g3⟩,rfl,rfl,rfl,rfl⟩
   rcases hall i hilt with⟨q,hq,hqi⟩|e|e
   ·subst hqi
    rw[<-hat.all] at hq;rcases Zt.1 hq with hq|hq
    ·have ho:=hat.m.oper hq
     obtain⟨h1,h2⟩:=hN _ (Vf ho);rw[<-FN (hat.m.bs q hq).2] at h1 h2;obtain⟨σ2,a2,w2,m2,hs⟩:=hat.m.late hat.still hq hinl hr h2 h1 b k cs (Region.linearise.go .any ops Zk (t/(Region.ready .any ops listed).length) (listed.setIfInBounds q.i true) []);obtain⟨g1,g2⟩:=ih (t/(Region.ready .any ops listed).length) pre rest rs tm H A σ2 a2 w2 _ ⟨m2,hat.pl,hat.hd,hat.bs,hat.all,hat.run⟩ hu';exact⟨g1,g2.of_steps hs⟩
    ·obtain⟨l,rfl,jx⟩:=hat.next hq hr
     exact hat.eff hN hdl hc jx hr k cs _ λpre' rest' rs' tm' H' A' σ' a' w' hat'=>ih _ pre' rest' rs' tm' H' A' σ' a' w' _ hat' hu'
   ·subst e
    obtain⟨rfl,v1,H1,v2,H2,k1,k2,f1,f2,_,rfl,rfl,rfl,rfl⟩:=ends s1 (.inl rfl) hr;exact⟨rfl,AQ (x:=by assumption) hE hN hs1 hs2 hb1 hb2 h12 Zh8 Zli hall hc k cs hat.m hat.still hr hu f1 f2 k1⟩
   ·subst e
    obtain⟨rfl,v1,H1,v2,H2,k1,k2,f1,f2,⟨b1,i1,b2,i2,g1,g2,g3⟩,rfl,rfl,rfl,rfl⟩:=ends s2 (.inr rfl) hr;obtain⟨c1,j1,o1,q1,rfl,q3⟩:=(RF hs1).2.2.2 _ _ _ _ f1;obtain⟨c2,j2,o2,q4,rfl,q6⟩:=(RF hs2).2.2.2 _ _ _ _ f2;rw[g1] at q1;cases q1;rw[g2] at q4;cases q4;have f2':=q6 H (by rw[Heap.get_put,if_neg g3]) rfl;have f1':=q3 (H.put b2 o2) (by rw[Heap.get_put,if_neg λe=>g3 e.symm]) rfl;refine⟨rfl,(AQ (x:=by assumption) hE hN hs2 hs1 hb2 hb1 (λe=>h12 e.symm) Zli Zh8 (λj hj=>?_) hc k cs hat.m hat.still hr hu f2' f1' k2).congr (λy=>?_) rfl rfl⟩
    ·rcases hall j hj with h|h|h
     ·exact .inl h
     ·exact .inr (.inr h)
     ·exact .inr (.inl h)
    ·rw[Heap.get_put,Heap.get_put,Heap.get_put,Heap.get_put]
     by_cases h1:b2=y<;>by_cases h2:b1=y
     ·exact absurd (h2.trans h1.symm) g3
     ·simp only[if_pos h1,if_neg h2]
     ·simp only[if_neg h1,if_pos h2]
     ·simp only[if_neg h1,if_neg h2]
end
section
variable {P:Program} {N:Nat}
def ZcT{ops:Array Oper}(h:(ops.toList.zipIdx.all λx=>vJ x.2 x.1)=true):cF ops:=by
 intro j o ho e he hb;have h1:=Ya.1 h (o,j) (by rw[List.mk_mem_zipIdx_iff_getElem?,Z7];exact ho);have h2:=Ya.1 h1 e (Xq.2 he);rw[hb] at h2;exact ZS h2
def CU{n i:Nat}:Nat.testBit (Nat.sub (bit n) 1) i=true↔i<n:=by
 have:Nat.testBit (2^n - 1) i=decide (i<n):=Nat.testBit_two_pow_sub_one n i;show Nat.testBit (2^n - 1) i=true↔_;rw[this];simp
def zH{l:List SI}{q:SI}(hq:q∈l){t:Nat}(ht:q.d=some t):(t,q.i)∈Pp l:=by
 unfold Pp;exact List.mem_filterMap.2 ⟨q,hq,by rw[ht]⟩
def n9{ops:Array Oper}{q:SI}(h:q∈Ai P ops):q.x∈BS ops∧q=Nb P ops q.x:=by
 have h:=Hr _ _ _ q h;obtain⟨x,hx,rfl⟩:=YC.1 h;exact⟨hx,rfl⟩
def Zkc{ops:Array Oper}{q:SI}(h:q.x∈BS ops∧q=Nb P ops q.x):q.i<ops.size:=by
 obtain⟨⟨j,h3,h4⟩,_⟩:=Rl _ _ _ _ h.1;have:q.i=q.x.2.1:=by have:=h.2;rw[this];rfl
 rw[this,h4,Zl];rw[Z7] at h3;exact(ZX.1 h3).1
def ZaX{ops:Array Oper}{ds:List Nat}{σ:Mp}{b:Frame}{K:Bool->List Frame}{lo:Nat}{tm:TM}{H:Heap}{x:X}{a:Act}{w:World}(hs:St P σ b K N lo tm H x a w):
  MS P ops N ds σ H w [] [] tm H (λ_=>none) σ a a w (Array.replicate ops.size false):=by
 have hl: ∀j,¬Ls (Array.replicate ops.size false) j:=by
  intro j h;unfold Ls at h;rw[ZV] at h
  by_cases e:j<ops.size
  ·simp[Array.getElem?_replicate,e] at h
  ·simp[Array.getElem?_replicate,e] at h
 refine⟨by simp,λj h=>absurd h (hl j),λq h=>(by cases h),λx _ h=>absurd h (hl _),λq h=>(by cases h),λq h=>(by cases h),λq h=>(by cases h),λq h=>(by cases h),?_,hs.sim,vx.refl σ H w,λ_ _ h=>⟨rfl,h⟩,hs.tm.size,λn hn=>.inr (hs.tm.get n hn),λ_ _=>rfl,rfl,λq h=>(by cases h),λi j n h=>(by cases h),λi n h=>(by cases h)⟩;refine Nat.le_of_not_lt λh=>?_;obtain⟨l,h1,_⟩:=hs.sim.glob H.nx h;have:=hs.sim.dom _ _ h1;omega
def St.drew{σ:Mp}{b:Frame}{K:Bool->List Frame}{lo:Nat}{tm:TM}{H:Heap}{x:X}{a:Act}{w:World}(hs:St P σ b K N lo tm H x a w):St P σ b K N lo tm H x a w.drew:=
 hs.step (Tr.drew hs.sim) hs.tm rfl
def IN{ops:Array Oper}{id:Nat}{d:D}{ds:List Nat}(hm:P.follows .mixedOrders=true)
  (h: ∀(c:Ctx) (b:Frame) (σ:Mp) (tm:TM) (H:Heap) (x:X) (a:Act) (w:World) (k:List Item) (cs:List Frame) (t:Nat) (out:Out) (Rf:TM) (HO:Heap) (xO:X),Ka P c b σ H w->
   MS P ops N ds σ H w [] [] tm H (λ_=>none) σ a a w (Array.replicate ops.size false)->d c tm H x=.ok out Rf HO xO->
   xO=x∧Done P N ds σ H w a (lone (b.atR a (.inRegion ops (Region.linearise.go .any ops ops.size t (Array.replicate ops.size false) [])::k)) cs w) b k cs out Rf HO):
  UC P N d [.code (.region id ops true)] ds:=by
 intro c b K lo σ tm H x a w k o tm' H' x' hc hs he;have td:=Tr.drew (P:=P) hs.sim;obtain⟨rfl,σ',a',w',t1,h2,h3,h4,h5⟩:=h c b σ tm H x a w.drew k (K x.rc.isSome) (w.tape w.drawn (.order b.fn id)) o tm' H' x' (hc.tr td) (ZaX hs.drew) he;refine⟨σ',a',w',td.trans t1,hs.step (td.trans t1) h2 h3,h4,.of_steps (.one ?_) h5⟩;have:=stepR_region_draw (P:=P) (b:=b) (a:=a) (k:=k) (cs:=K x'.rc.isSome) (w:=w) (ops:=ops) (id:=id);simp only[Region.schedule,hm,Bool.true_or,if_true] at this;exact this
def vp(ops:Array Oper):oA (Array.replicate ops.size false) ops.size<=ops.size:=by
 have: ∀(l:Array Bool) n,oA l n<=n:=by
  intro l n
  induction n with
  |zero=>exact Zs _
  |succ n ih=>unfold oA;split<;>omega
 exact this _ _
def ou(ops:Array Oper)(l:List SI)(h: ∀q∈l,q=Nb P ops q.x):(l.map λq=>WP P ops q.x).map (·.dst)=l.map λq=>UN q.d:=by
 rw[RI];refine List.map_congr_left λq hq=>?_;show UN q.x.1.dst=UN q.d;rw[FN (h q hq)]
def pS(hm:P.follows .mixedOrders=true){id:Nat}{ops:Array Oper}(hN:ops.toList.all (λo=>oH N o.dst)=true):UC P N (mS P ops) [.code (.region id ops true)] (ops.toList.filterMap (·.dst)):=by
 have hN': ∀o∈ops,oH N o.dst=true∧ ∀t,o.dst=some t->t∈ops.toList.filterMap (·.dst):=λo ho=>
  ⟨Ya.1 hN o (Xq.2 ho),λt ht=>List.mem_filterMap.2 ⟨o,Xq.2 ho,ht⟩⟩
 unfold mS;cases hE:(ops.toList.zipIdx.all λx=>vJ x.2 x.1) with
 |false=>exact S1 _ _
 |true=>
 have hE:=ZcT hE;show UC P N (uE P ops (Ai P ops)) _ _;have hbs: ∀q∈Ai P ops,q.x∈BS ops∧q=Nb P ops q.x:=λq hq=>n9 hq;generalize Ai P ops=l at hbs;unfold uE;cases hB:Kg (Pp l) l l 0 0 0 (Nat.sub (bit ops.size) 1) with
 |true=>
  show UC P N (W5 (l.map λq=>WP P ops q.x)) _ _;obtain⟨h1,h2⟩:=FD (pre:=[]) hB (λp hp=>by simpa using hp) (λp hp t ht=>zH (by simpa using hp) ht) (λp hp=>by cases hp) (λi=>by simp);refine IN hm λc b σ tm H x a w k cs t out Rf HO xO hc m he=>?_;obtain⟨pre',rest',rs',tm',H',A',g1,g2,g3,g4,g5,g6⟩:=MS.advance (dl:=(List.map (λq:SI=>WP P ops q.x) l).map (λp:PI=>p.dst)) (fin:=Fo) (c:=c) (x:=x) (out:=out) (Rf:=Rf) (HO:=HO) (xO:=xO) l [] [] tm H _ m h1 hbs he;exact py hE hN' (ou ops l λq hq=>(hbs q hq).2) (L:=l) (λj hj=>by
   obtain⟨p,hp,e⟩:=(h2 j).1 (CU.2 hj)
   exact⟨p,by simpa using hp,e⟩) hc k cs ops.size t pre' rest' rs' tm' H' A' σ a w _ ⟨g3,g4,g2,g5,by rw[<-g1];simp,g6⟩ (vp ops)
 |false=>
  show UC P N (mN P ops (Pp l) l (Nat.sub (bit ops.size) 1) (Cw l)) _ _;cases hl:Cw l with
  |none=>exact S1 _ _
  |some y=>
   obtain⟨r,s1,s2⟩:=y;have hlr:l=r++[s1,s2]:=by
    unfold Cw at hl
    split at hl
    ·rename_i b' a' r' hrev
     cases hl;have:=congrArg List.reverse hrev
     simpa using this
    ·cases hl
   subst hlr;unfold mN;cases hs1:RE P s1.x.1 with
   |none=>simp only[hs1];exact S1 _ _
   |some e1=>
   cases hs2:RE P s2.x.1 with
   |none=>simp only[hs1,hs2];exact S1 _ _
   |some e2=>
   simp only[hs1,hs2];cases hB1:Kg (Pp (r++[s1,s2])) (r++[s1,s2]) (r++[s1]) 0 0 0 (Nat.xor (Nat.sub (bit ops.size) 1) (bit s2.i)) with
   |false=>exact S1 _ _
   |true=>
   cases hB2:Kg (Pp (r++[s1,s2])) (r++[s1,s2]) (r++[s2]) 0 0 0 (Nat.xor (Nat.sub (bit ops.size) 1) (bit s1.i)) with
   |false=>exact S1 _ _
   |true=>
   have hb1:=hbs s1 (by simp);have hb2:=hbs s2 (by simp);have hw: ∀s,s=s1∨s=s2-> ∀p∈[]++(r++[s]),∀t,p.d=some t->(t,p.i)∈Pp (r++[s1,s2]):=by
    intro s hs p hp t ht;refine zH ?_ ht;rw[ZQ] at hp;rcases Zt.1 hp with h|h
    ·exact Zt.2 (.inl h)
    ·have e:p=s:=by simpa using h
     rw[e];rcases hs with rfl|rfl<;>simp
   obtain⟨h1,h2⟩:=FD (pre:=[]) hB1 (λp hp=>by simp at hp ⊢;rcases hp with h|h<;>simp[h]) (hw s1 (.inl rfl)) (λp hp=>by cases hp) (λi=>by simp)
   obtain⟨h3,h4⟩:=FD (pre:=[]) hB2 (λp hp=>by simp at hp ⊢;rcases hp with h|h<;>simp[h]) (hw s2 (.inr rfl)) (λp hp=>by cases hp) (λi=>by simp)
   show UC P N (bU (r.map λq=>WP P ops q.x) (WP P ops s1.x) (WP P ops s2.x) e1 e2) _ _;have hx: ∀(s:SI) (i:Nat),Nat.testBit (Nat.xor (Nat.sub (bit ops.size) 1) (bit s.i)) i=(Nat.testBit (Nat.sub (bit ops.size) 1) i !=decide (s.i=i)):=by
    intro s i;have:Nat.testBit (Nat.xor (Nat.sub (bit ops.size) 1) (bit s.i)) i=(Nat.testBit (Nat.sub (bit ops.size) 1) i^^Nat.testBit (bit s.i) i):=Nat.testBit_xor _ _ _;rw[this,QS]
   have h12:s1.i≠s2.i:=by
    intro e;have h5:=(h2 s1.i).2 ⟨s1,by simp,rfl⟩;rw[hx,CU.2 (Zkc hb1),Zi e.symm] at h5;cases h5
   refine IN hm λc b σ tm H x a w k cs t out Rf HO xO hc m he=>?_;have hbr: ∀q∈r,q.x∈BS ops∧q=Nb P ops q.x:=λq hq=>hbs q (Zt.2 (.inl hq));obtain⟨pre',rest',rs',tm',H',A',g1,g2,g3,g4,g5,g6⟩:=MS.advance (dl:=(List.map (λq:SI=>WP P ops q.x) r).map (λp:PI=>p.dst)) (fin:=DJ (WP P ops s1.x) (WP P ops s2.x) e1 e2) (c:=c) (x:=x) (out:=out) (Rf:=Rf) (HO:=HO) (xO:=xO) r [] [] tm H _ m (DK h1) hbr he;exact ZbT hE hN' (ou ops r λq hq=>(hbr q hq).2) hs1 hs2 hb1 hb2 h12 h1 h3 (L:=r) (λj hj=>by
    by_cases e:j=s2.i
    ·exact .inr (.inr e)
    ·have h5:Nat.testBit (Nat.xor (Nat.sub (bit ops.size) 1) (bit s2.i)) j=true:=by
      rw[hx,CU.2 hj,Zc (λh=>e h.symm)];rfl
     obtain⟨p,hp,e2⟩:=(h2 j).1 h5
     have hp:p∈r++[s1]:=by simpa using hp
     rcases Zt.1 hp with hp|hp
     ·exact .inl ⟨p,hp,e2⟩
     ·have:p=s1:=by simpa using hp
      subst this
      exact .inr (.inl e2.symm)) hc k cs ops.size t pre' rest' rs' tm' H' A' σ a w _ ⟨g3,g4,g2,g5,by rw[<-g1];simp,g6⟩ (vp ops)
end
end
end Go.AI
