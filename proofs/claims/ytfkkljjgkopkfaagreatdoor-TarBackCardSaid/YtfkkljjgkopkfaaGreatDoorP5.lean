/- Calls do what the machine does: proved for every world that is told. -/
import Derived.Test.YtfkkljjgkopkfaaGreatDoorP4
import Derived.RangeFuncLeaves
import Derived.RangeFuncRecord
import Derived.Laws.StandIn
import Derived.Lib.Bytealg
import Derived.OpenShut
import Derived.ChangeArms
import Derived.ChangeMade
import GoSem.ClaimJoined
set_option maxRecDepth 1000000
set_option maxHeartbeats 0
set_option linter.all false
namespace Go.AI
open Go
noncomputable section
section
variable {P:Program} {σ:Mp} {H:Heap} {w:World} {N:Nat} {tm:TM} {t:Array Value}
def HZ(P:Program)(r:ResultVar):WI×Option (Nat×Bool):=match r with|.tmp n=>(YZ P (.tmp n),none)|.cell a u=>(YZ P (.tmp a),some (P.cellsOf u,MO P u))
def dH(t:Array Value)(r:ResultVar):Sem Value:=match r with
 |.tmp n=>pure (t.getD n undef)
 |.cell a u=>do loadVar u (<-asAddr (t.getD a undef))
def Ze3(hs:WW P σ H w)(ht:MU σ N tm t){r:ResultVar}(hr:FG P r=true){kk:AV->CR}{o:CR}
  (h:Zjh tm H (HZ P r) kk=o)(ho:o≠.fail): ∃v u,kk v=o∧Ym σ v u∧(dH t r).run P w=.ok u w:=by
 have hρ:=AO (a:={tmps:=t,defers:=[]}) hs ht;cases r with
 |tmp n=>exact⟨_,t.getD n undef,h,hρ (.tmp n),rfl⟩
 |cell a u=>
  have g:=hρ (.tmp a);simp only[Zjh,HZ] at h;generalize hp:YZ P (.tmp a) tm=p at h g;cases p with
  |ptr b off=>
   simp only at h;cases hb:H.t.get b with
   |none=>rw[hb] at h;exact absurd h.symm ho
   |some ob=>
    rw[hb] at h;cases ob with
    |row r=>
     simp only at h;cases hle:Nat.ble (Nat.add off (P.cellsOf u)) r.size with
     |false=>rw[hle] at h;exact absurd h.symm ho
     |true=>
      rw[hle] at h;have hle:off+P.cellsOf u<=r.size:=ZS hle;simp only[FG,Z4,Tc] at hr;obtain⟨⟨⟨i,hi⟩,⟨d,hu⟩⟩,hn1⟩:=hr;have hn1:1<=P.cellsOf u:=ZS hn1;obtain⟨l,hl,e⟩:=TK g;have e:t.getD a undef=_:=e;obtain⟨cs,fr,hc,hrr⟩:=hs.row hb hl;have hag:=P7 (w:=w) hu;have hsz:P.cellsOf u=i.size:=by simp[Program.cellsOf,hi]
      cases h1:MO P u with
      |true=>
       rw[h1] at h hag;obtain⟨vs,h2,h3,h4,h5⟩:=P1 hrr (P.cellsOf u) off hle;refine⟨_,.agg ⟨vs⟩,h,by simp only[Ym];exact⟨vs,h2,h5,rfl⟩,?_⟩;have:=Ry (P:=P) hc vs (o:=l.base+off) h4;rw[h3] at this;show(do loadVar u (<-asAddr (t.getD a undef)):Sem Value).run P w=_;rw[e];simp only[asAddr,Sem.run_bind,Sem.run_pure,Result.andThen_ok,loadVar,hag,if_true,WV hi,<-hsz,this]
      |false=>
       rw[h1] at h hag;obtain⟨v,hv,hrel⟩:=hrr.cell off (by omega);refine⟨_,v,h,hrel,?_⟩;show(do loadVar u (<-asAddr (t.getD a undef)):Sem Value).run P w=_;rw[e];simp only[asAddr,Sem.run_bind,Sem.run_pure,Result.andThen_ok,loadVar,hag,Xp,if_false,run_load,Lt hc,hv]
    |_=>exact absurd h.symm ho
  |_=>exact absurd h.symm ho
theorem pi(hs:WW P σ H w)(ht:MU σ N tm t){o:CR}(ho:o≠.fail): ∀(l:List ResultVar) (kk:List AV->CR),l.all (FG P)=true->IL tm H kk (l.map (HZ P))=o->
  ∃vs us,kk vs=o∧YR σ vs us∧(l.mapM (dH t)).run P w=.ok us w
 |[],kk,_,h=>⟨[],[],h,Ux,rfl⟩
 |r::l,kk,hr,h=>by
  simp only[List.all_cons,Z4] at hr;obtain⟨v,u,h1,h2,h3⟩:=Ze3 (r:=r) hs ht hr.1 (kk:=λv=>IL tm H (λvs=>kk (v::vs)) (l.map (HZ P))) h ho;obtain⟨vs,us,h4,h5,h6⟩:=pi hs ht ho l _ hr.2 h1;refine⟨v::vs,u::us,h4,Vr h2 h5,?_⟩;have h3:(dH t r).run P w=.ok u w:=h3;rw[List.mapM_cons];simp only[Sem.run_bind,h3,Result.andThen_ok,h6,Sem.run_pure]
def Ga(hs:WW P σ H w)(ht:MU σ N tm t){fn:Func}(hr:fn.results.toList.all (FG P)=true){r:CR}(h:AI.results (fn.results.toList.map (HZ P)) tm H=r)(ho:r≠.fail):
  ∃v u,r=.ret v H∧Ym σ v u∧(Go.results fn t).run P w=.ok u w:=by
 obtain⟨vs,us,h1,h2,h3⟩:=pi hs ht ho fn.results.toList _ hr h;have hm:(fn.results.mapM (dH t)).run P w=.ok us.toArray w:=by
  rw[Array.mapM_eq_mapM_toList];show((fn.results.toList.mapM (dH t))>>=λl=>pure l.toArray).run P w=_;rw[Sem.run_bind,h3];rfl
 have hrun: ∀u,(if h:us.toArray.size=1 then us.toArray[0] else .tuple us.toArray)=u->(Go.results fn t).run P w=.ok u w:=by
  intro u hu;unfold Go.results;rw[Sem.run_bind];show Result.andThen ((fn.results.mapM (dH t)).run P w) _=_;rw[hm];show Result.ok _ w=_;rw[<-hu]
 have hlen:=h2.length
 match vs,us,h1,h2,hlen,hrun with
 |[v],[u],h1,h2,_,hrun=>
  obtain⟨v',vs',h4,_,h6⟩:=h2.cons_inv;cases h6;exact⟨v,u,h1.symm,h4,hrun u rfl⟩
 |[],[],h1,h2,_,hrun=>exact⟨.tup [],.tuple #[],h1.symm,by simp[Ym,YR],hrun _ rfl⟩
 |v1::v2::vs,u1::u2::us,h1,h2,_,hrun=>
  refine⟨.tup (v1::v2::vs),.tuple (u1::u2::us).toArray,h1.symm,by simp only[Ym];exact⟨_,h2,rfl⟩,hrun _ ?_⟩;rw[dif_neg (by simp)]
def di:params=(List.range' 0 16).map P8:=rfl
theorem A5{σ:Mp}{t:Array Value}: ∀(m k:Nat) (tm:TM) (vs:List AV),k+m<=512->(∀n,n<512->Ym σ (SN n tm) (t.getD n undef))->(∀i v,vs[i]? =some v->Ym σ v (t.getD (k+i) undef))->
  ∀n,n<512->Ym σ (SN n (uM tm ((List.range' k m).map P8) vs)) (t.getD n undef)
 |0,k,tm,vs,_,h,_,n,hn=>by cases vs<;>exact h n hn
 |m+1,k,tm,[],_,h,_,n,hn=>by rw[RJ];exact h n hn
 |m+1,k,tm,v::vs,hk,h,hv,n,hn=>by
  rw[RJ];show Ym σ (SN n (uM (P8 k tm v) ((List.range' (k+1) m).map P8) vs)) _;refine A5 m (k+1) (P8 k tm v) vs (by omega) (λj hj=>?_) (λi u hi=>?_) n hn
  ·rw[GO j k hj (by omega)]
   by_cases e:j=k
   ·subst e;rw[if_pos rfl];exact hv 0 v rfl
   ·rw[if_neg e];exact h j hj
  ·have:=hv (i+1) u (by simpa using hi)
   rw[show k+(i+1)=k+1+i by omega] at this;exact this
def tF{σ:Mp}{as:List AV}{vs:List Value}(h:YR σ as vs)(N:Nat):MU σ N (Qb as) ((⟨vs⟩:Array Value)++Array.replicate (N - (⟨vs⟩:Array Value).size) undef):=by
 refine⟨by simp;omega,?_⟩;unfold Qb;rw[di];refine A5 16 0 ot as (by decide) (λn hn=>?_) (λi v hi=>?_)
 ·rw[kY];simp[Ym]
 ·obtain⟨u,hu,hr⟩:=h.get hi
  have:((⟨vs⟩:Array Value)++Array.replicate (N - (⟨vs⟩:Array Value).size) undef).getD (0+i) undef=u:=by
   have hlt:i<vs.length:=(VY.1 hu).1;have hlt':i<(⟨vs⟩:Array Value).size:=hlt;rw[Zl,ZV,Array.getElem?_append_left hlt'];have:(⟨vs⟩:Array Value)[i]? =vs[i]? :=by simp
   rw[this,hu];rfl
  rw[this];exact hr
end
section
variable {P:Program}
def bL{σ:Mp}{H:Heap}{w:World}(hs:WW P σ H w){b:Nat}{o:Obj}{l:Loc}(hb:H.t.get b=some o)(hl:σ b=some l){x:Option (List Deferred)}(hx:w.heap[l.blk]? =some (.deferred x)):False:=by
 obtain⟨c,hc,hr⟩:=hs.alive b o l hb hl;rw[hx] at hc;cases hc;cases o with
 |row r=>obtain⟨_,_,h,_⟩:=hr;cases h
 |map es cl=>obtain⟨_,h,_⟩:=hr;cases h
 |siter s p=>obtain⟨h,_⟩:=hr;cases h
 |cmap es=>obtain⟨_,_,_,h,_⟩:=hr;cases h
 |miter m s q=>obtain⟨_,_,h,_⟩:=hr;cases h
 |loop=>obtain⟨_,h⟩:=hr;cases h
def Tr.take{σ0 σ:Mp}{H0 H:Heap}{w0 w:World}(t:Tr P σ0 H0 w0 σ H w){r:Nat}{x:Option (List Deferred)}(y:Option (List Deferred))(hr:w.heap[r]? =some (.deferred x))(hlo:w0.heap.size<=r):
  Tr P σ0 H0 w0 σ H (w.putObj r (.deferred y)):=by
 refine⟨t.ext,⟨t.sim.dom,t.sim.low,λb o l hb hl=>?_,t.sim.inj,t.sim.glob,t.sim.ro⟩,by simpa using t.size,λk hk hn=>?_,t.wr,t.nx,t.ro,t.low,t.tape,t.os,t.out,t.pend⟩
 ·obtain⟨c,hc,h⟩:=t.sim.alive b o l hb hl
  refine⟨c,?_,h⟩;rw[World.putObj_heap_other λe=>bL t.sim hb hl (x:=x) (by rw[e];exact hr)];exact hc
 ·rw[World.putObj_heap_other (by omega)]
  exact t.frame k hk hn
def Rg.take{σ:Mp}{w:World}{lo r:Nat}{y:Option (List Deferred)}{l:List (AV×List AV)}{ds:List Deferred}(h:Rg σ w lo l ds)(hn: ∀d∈ds,∀r',d.target=.collected r'->r'≠r):Rg σ (w.putObj r (.deferred y)) lo l ds:=by
 induction h with
 |nil=>exact .nil
 |call h1 h2 h3 _ ih=>exact .call h1 h2 h3 (ih λd hd=>hn d (ZC _ hd))
 |mark h1 h2 h3 _ ih=>exact .mark h1 (by rw[World.putObj_heap_other (hn _ (Zw ..) _ rfl)];exact h2) h3 (ih λd hd=>hn d (ZC _ hd))
def P6{f:FuncId}{fn:Func}{c:Code}{args:Array Value}{w:World}(hf:P.funcs[f]? =some fn)(hname:fn.name≠ "runtime.NumGoroutine")(hb:fn.body=some c):(callFunc f args).run P w=.ok (.enter f args) w:=by
 simp[callFunc,hf,hname,hb]
def Cp(σ:Mp)(pn:Option AV)(u:FrameMode):Prop:=match pn with
 |none=>u=.returning
 |some v=> ∃x,Ym σ v x∧u=.panicking [{v:=x,recovered:=false}]
def DOk(P:Program)(dcall:Option AV->Nat->List AV->Heap->DR):Prop:=
 ∀(pn:Option AV) (g:Nat) (args:List AV) (H:Heap) (v:AV) (H':Heap) (rec:Bool),dcall pn g args H=.ret v H' rec->
 ∀(σ:Mp) (w:World) (vs:List Value) (c:Frame) (cs:List Frame),WW P σ H w->YR σ args vs->Cp σ pn c.mode->
  (callFunc g ⟨vs⟩).run P w=.ok (.enter g ⟨vs⟩) w∧(rec=true->pn.isSome=true)∧
  ∃σ' w',Tr P σ H w σ' H' w'∧Steps P (lone (Frame.enter P g ⟨vs⟩ .deferred) (c::cs) w) (lone {c with mode:=if rec then .returning else c.mode} cs w')
def ZgQ(P:Program)(σ0:Mp)(H0:Heap)(w0:World)(r:CR)(e:Ending)(w:World):Prop:=match r with
 |.fail=>False
 |.ret v H'=> ∃u σ',e=.returned u∧Ym σ' v u∧Tr P σ0 H0 w0 σ' H' w
 |.pan v H'=> ∃u σ',e=.panicked [{v:=u,recovered:=false}]∧Ym σ' v u∧Tr P σ0 H0 w0 σ' H' w
def uV{dcall:Option AV->Nat->List AV->Heap->DR}(hD:DOk P dcall){f:FuncId}{fn:Func}(hf:P.funcs[f]? =some fn)(hr:fn.results.toList.all (FG P)=true){N:Nat}{σ0:Mp}{H0:Heap}{w0:World}{tm:TM}{tms:Array Value}:
  ∀(ds:List Deferred) (σ:Mp) (H:Heap) (w:World) (l:List (AV×List AV)) (pn:Option AV) (fr:Frame) (cs:List Frame) (r:CR),fr.defers=ds->fr.fn=f->fr.kind=.normal->fr.tmps=tms->
  Tr P σ0 H0 w0 σ H w->MU σ N tm tms->Rg σ w w0.heap.size l ds->Cp σ pn fr.mode->deferred dcall (fn.results.toList.map (HZ P)) tm l pn H=r->r≠.fail->
  ∃e w' fr',ZgQ P σ0 H0 w0 r e w'∧Steps P (lone fr cs w) (lone fr' cs w')∧fr'.fn=f∧fr'.leaving P w' e:=by
 intro ds
 induction ds with
 |nil=>
  intro σ H w l pn fr cs r hds hfn hk htm t ht hd hm he hne;cases hd;cases pn with
  |none=>
   obtain⟨v,u,rfl,h1,h2⟩:=Ga t.sim ht hr he hne;exact⟨.returned u,w,fr,⟨u,σ,rfl,h1,t⟩,Steps.refl P _,hfn,hm,hds,hk,fn,by rw[hfn];exact hf,by rw[htm];exact h2⟩
  |some v=>
   obtain⟨x,hx,hm⟩:=hm;have he:CR.pan v H=r:=he;subst he;exact⟨_,w,fr,⟨x,σ,rfl,hx,t⟩,Steps.refl P _,hfn,hm,hds,fn,by rw[hfn];exact hf⟩
 |cons d ds ih=>
  intro σ H w l pn fr cs r hds hfn hk htm t ht hd hm he hne;have hrun:fr.mode≠.run:=by
   cases pn with
   |none=>intro e;rw[show fr.mode=.returning from hm] at e;cases e
   |some v=>obtain⟨x,_,hm⟩:=hm;intro e;rw[hm] at e;cases e
  cases hd with
  |mark h1 h2 h3 h4=>
   have hst:=step_collected (P:=P) (cs:=cs) hrun hds rfl (run_takeDeferred h2);obtain⟨e,w',fr',g1,g2,g3,g4⟩:=ih σ H (w.putObj _ (.deferred none)) l pn {fr with defers:=[]++ds} cs r rfl hfn hk htm (t.take none h2 h1) ht (h4.take h3) hm he hne;exact⟨e,w',fr',g1,.head hst g2,g3,g4⟩
  | @call g p q args x y z l' _ h1 h2 h3 h4=>
   have he:(match dcall pn g (p++(args++q)) H with|.ret _ H' rec=>deferred dcall (fn.results.toList.map (HZ P)) tm l' (cond rec none pn) H'|_=>.fail)=r:=he;cases hdc:dcall pn g (p++(args++q)) H with
   |fail=>rw[hdc] at he;exact absurd he.symm hne
   |pan v H' rec=>rw[hdc] at he;exact absurd he.symm hne
   |ret v H' rec=>
    rw[hdc] at he;have he:deferred dcall (fn.results.toList.map (HZ P)) tm l' (cond rec none pn) H'=r:=he;obtain⟨k1,k2,σ1,w1,t1,k3⟩:=hD pn g _ H v H' rec hdc σ w (x++(y++z)) {fr with defers:=ds} cs t.sim (h1.append (h2.append h3)) hm;have hinv:(invoke (.fn (.func g) ⟨z⟩) ⟨x++y⟩).run P w=.ok (.enter g ⟨x++(y++z)⟩) w:=by
     have:(⟨x++y⟩:Array Value)++(⟨z⟩:Array Value)=⟨x++(y++z)⟩:=by simp
     simp only[invoke,this];exact k1
    have hst:=step_defer (P:=P) (cs:=cs) hrun hds (fv:=.func g) (cap:=⟨z⟩) rfl hinv;have hm':Cp σ1 (cond rec none pn) (if rec then FrameMode.returning else fr.mode):=by
     cases rec with
     |true=>rfl
     |false=>
      cases pn with
      |none=>exact hm
      |some v=>obtain⟨x,hx,hm⟩:=hm;exact⟨x,hx.mono t1.ext,hm⟩
    obtain⟨e,w',fr',g1,g2,g3,g4⟩:=ih σ1 H' w1 l' (cond rec none pn) {{fr with defers:=ds} with mode:=if rec then FrameMode.returning else fr.mode} cs r rfl hfn hk htm (t.trans t1) (ht.mono t1.ext) (h4.tr t.sim t1) hm' he hne;exact⟨e,w',fr',g1,.head hst (k3.trans g2),g3,g4⟩
def ZgR(P:Program)(f:Nat)(cf:CF):Prop:=
 ∃fn c ds,P.funcs[f]? =some fn∧fn.name≠ "runtime.NumGoroutine" ∧fn.body=some c∧cf.rs=fn.results.toList.map (HZ P)∧
  (cf.body=Qg∨(fn.results.toList.all (FG P)=true∧UC P fn.ntmps cf.body [.code c] ds))
def sC{f:FuncId}{fn:Func}{c:Code}{args:Array Value}{kd:CallKind}(hf:P.funcs[f]? =some fn)(hb:fn.body=some c):
  Frame.enter P f args kd=({(default:Frame) with fn:=f,kind:=kd}:Frame).atR {tmps:=args++Array.replicate (fn.ntmps - args.size) undef,defers:=[]} ([.code c]++[]):=by
 simp[Frame.enter,Frame.atR,hf,hb];rfl
def uJ(σ:Mp)(cs:List Frame):yj σ .normal (λ_=>cs) none:=by
 refine⟨λfr h=>?_,λv h=>by cases h⟩;unfold tryRecover;rw[h]
def fg{dcall:Option AV->Nat->List AV->Heap->DR}(hD:DOk P dcall){f:Nat}{cf:CF}(h:ZgR P f cf){c:Ctx}{args:List AV}{H:Heap}{σ:Mp}{w:World}{vs:List Value}(hs:WW P σ H w)(hv:YR σ args vs)
  (hc:Ka P c ({(default:Frame) with fn:=f,kind:=.normal}:Frame) σ H w):Ki P σ H w (EK dcall cf.rs (cf.body c (Qb args) H ⟨[],none⟩)) (.ok (.enter f ⟨vs⟩) w):=by
 obtain⟨fn,code,ds,hf,hname,hb,hrs,hbody⟩:=h;rcases hbody with hbad|⟨hres,nO⟩
 ·rw[hbad];exact trivial
 ·rw[hrs]
  generalize he:cf.body c (Qb args) H ⟨[],none⟩=res;generalize hr:EK dcall (fn.results.toList.map (HZ P)) res=r;have key:r≠.fail-> ∀cs,∃e w' fr',ZgQ P σ H w r e w'∧Steps P (lone (Frame.enter P f ⟨vs⟩ .normal) cs w) (lone fr' cs w')∧fr'.fn=f∧fr'.leaving P w' e:=by
   intro hne cs;cases res with
   |fail=>exact absurd hr.symm hne
   |ok o tm' H' x'=>
    have hst:St P σ ({(default:Frame) with fn:=f,kind:=.normal}:Frame) (λ_=>cs) fn.ntmps w.heap.size (Qb args) H ⟨[],none⟩ {tmps:=(⟨vs⟩:Array Value)++Array.replicate (fn.ntmps - (⟨vs⟩:Array Value).size) undef,defers:=[]} w:=
     ⟨hs,tF hv fn.ntmps,.nil,uJ σ cs,Zs _⟩
    obtain⟨σ1,a1,w1,t1,s1,_,arr⟩:=nO c _ (λ_=>cs) w.heap.size σ _ H ⟨[],none⟩ _ w [] o tm' H' x' hc hst he;rw[<-sC hf hb] at arr;have go: ∀(pn:Option AV) (fr:Frame),Steps P (lone (Frame.enter P f ⟨vs⟩ .normal) cs w) (lone fr cs w1)->fr.defers=a1.defers->fr.fn=f->fr.kind=.normal->fr.tmps=a1.tmps->Cp σ1 pn fr.mode->
      deferred dcall (fn.results.toList.map (HZ P)) tm' x'.df pn H'=r-> ∃e w' fr',ZgQ P σ H w r e w'∧Steps P (lone (Frame.enter P f ⟨vs⟩ .normal) cs w) (lone fr' cs w')∧fr'.fn=f∧fr'.leaving P w' e:=by
     intro pn fr hsteps h1 h2 h3 h4 h5 h6;obtain⟨e,w',fr',g1,g2,g3,g4⟩:=uV hD hf hres a1.defers σ1 H' w1 x'.df pn fr cs r h1 h2 h3 h4 t1 s1.tm s1.df h5 h6 hne;exact⟨e,w',fr',g1,hsteps.trans g2,g3,g4⟩
    have hdf: ∀pn:Option AV,(match x'.df with|[]=>(match pn with|none=>AI.results (fn.results.toList.map (HZ P)) tm' H'|some v=>.pan v H')|df=>deferred dcall (fn.results.toList.map (HZ P)) tm' df pn H')=deferred dcall (fn.results.toList.map (HZ P)) tm' x'.df pn H':=by
     intro pn;cases x'.df with
     |nil=>cases pn<;>rfl
     |cons d l=>rfl
    cases o with
    |normal=>
     exact go none _ (Steps.trans arr (.one (stepR_end rfl))) rfl rfl rfl rfl rfl ((hdf none).symm.trans hr)
    |ret=>
     obtain⟨todo,hs'⟩:=arr rfl;exact go none _ hs' rfl rfl rfl rfl rfl ((hdf none).symm.trans hr)
    |pan v=>
     obtain⟨todo,u,hu,hs'⟩:=arr;exact go (some v) _ hs' rfl rfl rfl rfl ⟨u,hu,rfl⟩ ((hdf (some v)).symm.trans hr)
    |exit i=>exact absurd hr.symm hne
  cases r with
  |fail=>exact trivial
  |ret v H'=>
   intro cs;obtain⟨e,w',fr',⟨u,σ',rfl,h1,h2⟩,g2,g3,g4⟩:=key (by simp) cs;exact⟨.returned u,w',fr',⟨σ',h1,h2⟩,g2,g3,g4⟩
  |pan v H'=>
   intro cs;obtain⟨e,w',fr',⟨u,σ',rfl,h1,h2⟩,g2,g3,g4⟩:=key (by simp) cs;exact⟨.panicked [{v:=u,recovered:=false}],w',fr',⟨u,rfl,σ',h1,h2⟩,g2,g3,g4⟩
def qm{σ0:Mp}{H0:Heap}{w0:World}: ∀(ds:List Deferred) (σ:Mp) (H:Heap) (w:World) (fr:Frame) (cs:List Frame),fr.defers=ds->fr.mode≠.run->Tr P σ0 H0 w0 σ H w->Rg σ w w0.heap.size [] ds->
  ∃w',Steps P (lone fr cs w) (lone {fr with defers:=[]} cs w')∧Tr P σ0 H0 w0 σ H w':=by
 intro ds
 induction ds with
 |nil=>
  intro σ H w fr cs hds hm t hd;refine⟨w,?_,t⟩;have:({fr with defers:=[]}:Frame)=fr:=by rw[<-hds]
  rw[this];exact Steps.refl P _
 |cons d ds ih=>
  intro σ H w fr cs hds hm t hd;cases hd with
  |mark h1 h2 h3 h4=>
   have hst:=step_collected (P:=P) (cs:=cs) hm hds rfl (run_takeDeferred h2);obtain⟨w',g1,g2⟩:=ih σ H (w.putObj _ (.deferred none)) {fr with defers:=[]++ds} cs rfl hm (t.take none h2 h1) (h4.take h3);exact⟨w',.head hst g1,g2⟩
def ZgS(P:Program)(fs:T CF):Prop:= ∀f cf,fs.get f=some cf->ZgR P f cf
def Kb(P:Program)(lib:Nat->List AV->Heap->Option CR):Prop:=
 ∀f args H r,lib f args H=some r-> ∀σ w vs,WW P σ H w->YR σ args vs->Ki P σ H w r ((callFunc f ⟨vs⟩).run P w)
noncomputable def bM(fs:T CF)(Zk:Nat)(ih:Nat->List AV->Heap->CR):Option AV->Nat->List AV->Heap->DR:=
 λpn g as H=>EJ .fail fs g λcg=>AP pn cg.rs (cg.body ⟨ih,Qu,RS,Zk,false⟩ (Qb as) H ⟨[],pn⟩)
def Zbq{α:Type}{d:α}{fs:T CF}{f:Nat}{k:CF->α}{r:α}(h:EJ d fs f k=r)(hr:r≠d): ∃cf,fs.get f=some cf∧k cf=r:=by
 unfold EJ at h
 split at h
 ·rename_i cf hcf;exact⟨cf,hcf,h⟩
 ·exact absurd h.symm hr
def yB{call:Nat->List AV->Heap->CR}(hcall:PD P call){rng:AV->(List AV->Heap->CR)->TM->Heap->X->UG}(ZdN:lX P rng)(Zk:Nat){b:Frame}(hb:b.roundOf=none)(σ:Mp)(H:Heap)(w:World):Ka P ⟨call,Qu,rng,Zk,false⟩ b σ H w:=
 ⟨hcall,Zcx σ H w,λ_=>hb,ZdN,λh=>absurd hb h⟩
def Zkw{fs:T CF}(hfs:ZgS P fs)(Zk:Nat){ih:Nat->List AV->Heap->CR}(hcall:PD P ih):DOk P (bM fs Zk ih):=by
 intro pn g args H v H' rec he σ w vs c cs hs hv hm;obtain⟨cf,hcf,he⟩:=Zbq he (by simp);obtain⟨fn,code,ds,hf,hname,hb,hrs,hbody⟩:=hfs g cf hcf;rcases hbody with hbad|⟨hres,nO⟩
 ·rw[hbad] at he;cases he
 rw[hrs] at he;generalize hbd:cf.body ⟨ih,Qu,RS,Zk,false⟩ (Qb args) H ⟨[],pn⟩=res at he;obtain⟨K,hK1,hK2,hKr⟩: ∃K:Bool->List Frame,K pn.isSome=c::cs∧
   (∀x':X,∃c',K x'.rc.isSome=c'::cs∧({c' with mode:=settle c'.mode}:Frame)={c with mode:=if Im pn x' then .returning else c.mode})∧yj σ .deferred K pn:=by
  cases pn with
  |none=>
   have hm:c.mode=.returning:=hm;refine⟨λ_=>c::cs,rfl,λx'=>⟨c,rfl,?_⟩,⟨λfr hfr=>?_,λv h=>by cases h⟩⟩
   ·show({c with mode:=settle c.mode}:Frame)={c with mode:=c.mode}
    rw[show settle c.mode=c.mode by rw[hm];rfl]
   ·rw[tryRecover_deferred hfr];simp[recoverD,hm]
  |some y=>
   obtain⟨x,hx,hm⟩:=hm;refine⟨λun=>(if un then c else{c with mode:=.panicking [{v:=x,recovered:=true}]})::cs,rfl,λx'=>?_,⟨λfr hfr=>?_,λv h=>?_⟩⟩
   ·cases hrc:x'.rc with
    |none=>
     refine⟨_,rfl,?_⟩;have:Im (some y) x'=true:=by unfold Im;rw[hrc]
     rw[this];rfl
    |some z=>
     refine⟨_,rfl,?_⟩;have:Im (some y) x'=false:=by unfold Im;rw[hrc]
     rw[this];show({c with mode:=settle c.mode}:Frame)={c with mode:=c.mode};rw[show settle c.mode=c.mode by rw[hm];rfl]
   ·rw[tryRecover_deferred hfr];simp[recoverD]
   ·cases h
    refine⟨x,hx,λfr hfr=>?_⟩;rw[tryRecover_deferred hfr];simp[recoverD,hm]
 have hst:St P σ ({(default:Frame) with fn:=g,kind:=.deferred}:Frame) K fn.ntmps w.heap.size (Qb args) H ⟨[],pn⟩ {tmps:=(⟨vs⟩:Array Value)++Array.replicate (fn.ntmps - (⟨vs⟩:Array Value).size) undef,defers:=[]} w:=
  ⟨hs,tF hv fn.ntmps,.nil,hKr,Zs _⟩
 refine⟨P6 hf hname hb,?_,?_⟩
 ·intro hrec
  cases pn with
  |some _=>rfl
  |none=>
   exfalso;subst hrec;cases res with
   |fail=>cases he
   |ok o tm' H1 x'=>
    have h0:Im none x'=false:=rfl;cases o with
    |normal=>
     simp only[AP] at he
     split at he
     ·cases he
     ·cases he
    |ret=>
     simp only[AP] at he
     split at he
     ·cases he
     ·cases he
    |pan v=>simp only[AP] at he;split at he<;>cases he
    |exit i=>cases he
 ·cases res with
  |fail=>cases he
  |ok o tm' H1 x'=>
   obtain⟨σ1,a1,w1,t1,s1,_,arr⟩:=nO ⟨ih,Qu,RS,Zk,false⟩ _ K w.heap.size σ _ H ⟨[],pn⟩ _ w [] o tm' H1 x' (yB hcall (pq P) Zk rfl σ H w) hst hbd;rw[<-sC hf hb] at arr;rw[hK1] at arr;obtain⟨c',hc',hset⟩:=hK2 x';have go: ∀fr:Frame,Steps P (lone (Frame.enter P g ⟨vs⟩ .deferred) (c::cs) w) (lone fr (c'::cs) w1)->fr.defers=a1.defers->fr.fn=g->fr.kind=.deferred->fr.tmps=a1.tmps->fr.mode=.returning->
     (match x'.df,AI.results (fn.results.toList.map (HZ P)) tm' H1 with|[],.ret v H=>DR.ret v H (Im pn x')|_,_=>.fail)=.ret v H' rec->
     ∃σ' w',Tr P σ H w σ' H' w'∧Steps P (lone (Frame.enter P g ⟨vs⟩ .deferred) (c::cs) w) (lone {c with mode:=if rec then .returning else c.mode} cs w'):=by
    intro fr hsteps h1 h2 h3 h4 h5 h6
    split at h6
    ·rename_i v' H2 hdf hrr
     cases h6;obtain⟨v2,u,e2,h7,h8⟩:=Ga s1.sim s1.tm hres hrr (by simp);cases e2;have hd:=s1.df;rw[hdf] at hd;obtain⟨w2,g1,g2⟩:=qm a1.defers σ1 _ w1 fr (c'::cs) h1 (by rw[h5];intro e;cases e) t1 hd;obtain⟨v3,u3,e3,_,h9⟩:=Ga g2.sim s1.tm hres hrr (by simp);have hgo:({fr with defers:=[]}:Frame).going P w2 (.returned u3):=⟨h5,rfl,fn,by rw[show({fr with defers:=[]}:Frame).fn=g from h2];exact hf,by rw[show({fr with defers:=[]}:Frame).tmps=a1.tmps from h4];exact h9⟩;have Zlk:=step_going_returned (P:=P) (c:=c') (cs:=cs) (fr:={fr with defers:=[]}) h3 hgo;rw[hset] at Zlk;exact⟨σ1,w2,g2,hsteps.trans (g1.trans (.one Zlk))⟩
    ·cases h6
   cases o with
   |normal=>
    have arr:Steps P _ _:=arr;rw[hc'] at arr;exact go _ (arr.trans (.one (stepR_end rfl))) rfl rfl rfl rfl rfl he
   |ret=>
    obtain⟨todo,hs'⟩:=arr rfl;rw[hc'] at hs';exact go _ hs' rfl rfl rfl rfl rfl he
   |pan v=>simp only[AP] at he;split at he<;>cases he
   |exit i=>cases he
theorem tZ{lib:Nat->List AV->Heap->Option CR}{fs:T CF}(ZdJ:Kb P lib)(hfs:ZgS P fs)(Zk:Nat)(ZdN:lX P RS): ∀n,PD P (ZA lib fs Zk n)
 |0=>λ_ _ _ _ _ _ _ _=>trivial
 |n+1=>by
  have ih:=tZ ZdJ hfs Zk ZdN n;intro f args H σ w vs hs hv;show Ki P σ H w (jI (lib f args H) (EJ .fail fs f λcf=>EK (bM fs Zk (ZA lib fs Zk n)) cf.rs (cf.body ⟨ZA lib fs Zk n,Qu,RS,Zk,false⟩ (Qb args) H ⟨[],none⟩))) _;cases hl:lib f args H with
  |some r=>exact ZdJ f args H r hl σ w vs hs hv
  |none=>
   show Ki P σ H w (EJ .fail fs f _) _;unfold EJ;cases hg:fs.get f with
   |none=>exact trivial
   |some cf=>
    have hfn:=hfs f cf hg;have hrun:(callFunc f ⟨vs⟩).run P w=.ok (.enter f ⟨vs⟩) w:=by
     obtain⟨fn,code,ds,hf,hname,hb,_⟩:=hfn;exact P6 hf hname hb
    rw[hrun];exact fg (Zkw hfs Zk ih) hfn hs hv (yB ih ZdN Zk rfl σ H w)
end
section
variable {P:Program} {N:Nat}
theorem Su(hm:P.follows .mixedOrders=true): ∀c:Code,KL N c=true->UC P N (bD P c).1 [.code c] (zQ c)
 |.skip,_=>lD _
 |.region id ops d,h=>by
  have h:ops.toList.all (λo=>oH N o.dst)=true:=h;cases d with
  |true=>exact pS hm h
  |false=>exact uP h
 |.seq a b,h=>by
  obtain⟨h1,h2⟩:=Wu (a:=KL N a) (b:=KL N b) h;exact lC (Su hm a h1) (Su hm b h2)
 |.cond q a b,h=>by
  obtain⟨h1,h2⟩:=Wu (a:=KL N a) (b:=KL N b) h;exact lz (Su hm a h1) (Su hm b h2)
 |.block id a,h=>pR (Su hm a h)
 |.loop b,h=>by
  show UC P N (match Cy b with|some _=>Qg|none=>WL (bD P b).1) [.code (.loop b)] (zQ b);cases hmn:Cy b with
  |none=>exact lB (Su hm b h)
  |some y=>exact S1 _ _
 |.rangeFunc f ps a b,h=>S1 _ _
 |.exit id,_=>lA _
 |.scope a,h=>pV (Su hm a h)
 |.label l,_=>pT l _
 |.goto l,_=>S1 _ _
 |.ret,_=>dU _
 |.refuse l,_=>S1 _ _
def g9(hm:P.follows .mixedOrders=true){f:Nat}{fn:Func}{c:Code}(hf:P.funcs[f]? =some fn)(hname:fn.name≠ "runtime.NumGoroutine")(hb:fn.body=some c):ZgR P f (Db P fn):=by
 refine⟨fn,c,zQ c,hf,hname,hb,?_,?_⟩
 ·show fn.results.toList.map _=fn.results.toList.map _
  refine List.map_congr_left λr _=>?_;cases r<;>rfl
 ·have hbd:(Db P fn).body=cond (fn.results.toList.all (FG P)) (cond (KL fn.ntmps c) (comp P c) Qg) Qg:=by
   unfold Db;rw[hb]
  rw[hbd];cases h1:fn.results.toList.all (FG P) with
  |false=>exact .inl rfl
  |true=>
   cases h2:KL fn.ntmps c with
   |false=>exact .inl rfl
   |true=>exact .inr ⟨rfl,Su hm c h2⟩
def Bo(hm:P.follows .mixedOrders=true){lib:Nat->List AV->Heap->Option CR}(ZdJ:Kb P lib){fs:T CF}(hfs: ∀f cf,fs.get f=some cf-> ∃fn,P.funcs[f]? =some fn∧fn.name≠ "runtime.NumGoroutine" ∧fn.body.isSome=true∧cf=Db P fn)(Zk n:Nat):
  PD P (ZA lib fs Zk n):=by
 have Zps:ZgS P fs:=by
  intro f cf h;obtain⟨fn,h1,h2,h3,rfl⟩:=hfs f cf h;obtain⟨c,hc⟩:=Tc.1 h3;exact g9 hm h1 h2 hc
 exact tZ ZdJ Zps Zk (pq P) n
end
section
variable {P:Program}
def ud{f:FuncId}{fn:Func}(hf:P.funcs[f]? =some fn)(hname:(fn.name== "runtime.NumGoroutine")=false)(hb:fn.body.isNone=true)(hn:Extern.findNext fn=none)(he:Extern.find fn=some Extern.AbiNoEscape.same)
  {x:AV}{H:Heap}{σ:Mp}{w:World}{vs:List Value}(hs:WW P σ H w)(hv:YR σ [x] vs):Ki P σ H w (.ret x H) ((callFunc f ⟨vs⟩).run P w):=by
 obtain⟨v,l,h1,h2,rfl⟩:=hv.cons_inv;rw[h2.nil_inv,run_callFunc_extern hf hname hb hn he];exact⟨σ,h1,Tr.refl hs⟩
noncomputable def Pb(c:Nat):Zd->Nat->Int
 |[],_=> -1
 |b::l,i=>cond (Nat.beq b.toNat c) (.ofNat i) (Pb c l (Nat.succ i))
theorem B3{c:Nat}(hc:c<=255): ∀(suf pre:Zd) (s:ByteArray),s.data.toList=pre++suf->
  (match(List.range' pre.length suf.length).find? λi=>s[i]! ==(c.toUInt8) with|some i=>(i:Int)|none=> -1)=Pb c suf pre.length
 |[],pre,s,_=>rfl
 |b::suf,pre,s,hs=>by
  have hget:s[pre.length]! =b:=by
   have h1:s.data[pre.length]? =some b:=by rw[<-Z7,hs];simp
   have h2:pre.length<s.size:=by
    show pre.length<s.data.size;exact(ZX.1 h1).1
   rw[getElem!_pos s pre.length h2];obtain⟨h3,h4⟩:=ZX.1 h1;exact h4
  have hcb:(b==c.toUInt8)=Nat.beq b.toNat c:=by
   rw[Yl];have h1:(c.toUInt8).toNat=c:=by
    show c % 256=c;omega
   by_cases e:b.toNat=c
   ·rw[Zi e]
    have:b=c.toUInt8:=UInt8.toNat.inj (by rw[h1];exact e);simp[this]
   ·rw[Zc e]
    have:b≠c.toUInt8:=λh=>e (by rw[h,h1])
    simpa using this
  show(match(List.range' pre.length (suf.length+1)).find? _ with|some i=>(i:Int)|none=> -1)=_;rw[RJ,List.find?_cons,hget,hcb];unfold Pb;cases Nat.beq b.toNat c with
  |true=>rfl
  |false=>
   have:=B3 hc suf (pre++[b]) s (by rw[hs];simp);rw[Zh] at this;exact this
def eA{f:FuncId}{fn:Func}(hf:P.funcs[f]? =some fn)(hname:(fn.name== "runtime.NumGoroutine")=false)(hb:fn.body.isNone=true)(hn:Extern.findNext fn=none)(he:Extern.find fn=some Extern.BytealgIndexByte.indexByte)
  {s:Zd}{c:Nat}(hc:Nat.ble c 255=true){H:Heap}{σ:Mp}{w:World}{vs:List Value}(hs:WW P σ H w)(hv:YR σ [.str s,.int .u8 (.ofNat c)] vs):
  Ki P σ H w (.ret (.int .i64 (Pb c s 0)) H) ((callFunc f ⟨vs⟩).run P w):=by
 obtain⟨v,l,h1,h2,rfl⟩:=hv.cons_inv;obtain⟨u,l',h3,h4,rfl⟩:=h2.cons_inv;rw[h4.nil_inv,Uy h1,XX h3,run_callFunc_indexByte hf hname hb hn he,run_indexByte_string];have hc:=ZS hc;refine⟨σ,?_,Tr.refl hs⟩;simp only[Ym];have:=B3 hc s [] ⟨s.toArray⟩ (by simp);have e:firstIdx ⟨s.toArray⟩ ((Int.ofNat c).toNat.toUInt8)=Pb c s 0:=by
  unfold firstIdx;have hz:(⟨s.toArray⟩:ByteArray).size=s.length:=by simp[ByteArray.size]
  rw[hz,List.range_eq_range'];exact this
 rw[e]
theorem Dd: ∀(n t:Nat) (acc:Array Value),(∀v∈acc,v.oneCell'=true)->(Extern.BytealgMakeNoZero.digits n t acc).size=acc.size+n∧ ∀v∈Extern.BytealgMakeNoZero.digits n t acc,v.oneCell'=true
 |0,t,acc,h=>⟨rfl,h⟩
 |n+1,t,acc,h=>by
  have:=Dd n (t/256) (acc.push (.int .u8 (Int.ofNat (t % 256)))) (λv hv=>by
   rcases Array.mem_push.1 hv with hv|rfl
   ·exact h v hv
   ·rfl)
  unfold Extern.BytealgMakeNoZero.digits;refine⟨?_,this.2⟩;rw[this.1,Array.size_push];omega
def Ah{f:FuncId}{fn:Func}{ps:Array TypeId}{t e:TypeId}(hf:P.funcs[f]? =some fn)(hname:(fn.name== "runtime.NumGoroutine")=false)(hb:fn.body.isNone=true)(hn:Extern.findNext fn=none)(he:Extern.find fn=some (Extern.BytealgMakeNoZero.makeNoZero ps #[t]))
  (hu:P.underlying t=some (.slice e)){n:Nat}(hle:Nat.ble n 281474976710656=true){H:Heap}{σ:Mp}{w:World}{vs:List Value}(hs:WW P σ H w)(hv:YR σ [.int .i64 (.ofNat n)] vs):
  Ki P σ H w (.ret (.slice H.nx 0 n none) (H.new (.row ⟨e,1,n,.leaf,.unk,0,false,true,false⟩))) ((callFunc f ⟨vs⟩).run P w):=by
 obtain⟨v,l,h1,h2,rfl⟩:=hv.cons_inv;rw[h2.nil_inv,XX h1,run_callFunc_extern hf hname hb hn he];have hle:=ZS hle;obtain⟨k,hk⟩:=Hm (P:=P) n 0 e w
 let y:=w.tape w.drew.drawn (.extern "internal/bytealg.MakeNoZero.bytes" 0)
 let cs:=Extern.BytealgMakeNoZero.digits (n+k) y #[]
 have hrun:(Extern.BytealgMakeNoZero.makeNoZero ps #[t] #[.int .i64 (.ofNat n)]).run P w=.ok (.slice (some ⟨w.heap.size,0,none⟩) n (n+k)) (w.drew.drew.alloc (.cells cs e)):=by
  have hlt: ¬((decide ((Int.ofNat n)<0)||decide ((Int.ofNat n)>2^48))=true):=by
   simp only[UX,decide_eq_true_eq,not_or];have e1:Int.ofNat n=(n:Int):=rfl;have h2:((2:Int)^48)=281474976710656:=by decide
   rw[e1,h2];constructor<;>omega
  have hch:(choose (.extern "internal/bytealg.MakeNoZero.bytes" 0)).run P w.drew=.ok y w.drew.drew:=by
   rw[run_choose_drew];rfl
  have htn:(Int.ofNat n).toNat=n:=rfl;rw[show(Extern.BytealgMakeNoZero.makeNoZero ps #[t] #[.int .i64 (.ofNat n)]).run P w=(Bind.bind (underlying t) _:Sem Value).run P w from rfl];simp only[Sem.run_bind,run_underlying hu,Result.andThen_ok,if_neg hlt,htn,hk,run_askRoom,hch,newRow,run_newObj,World.alloc_eq,Sem.run_pure];rfl
 rw[hrun];obtain⟨hz,hone⟩:=Dd (n+k) y #[] (λv hv=>by simp at hv);have hz:cs.size=n+k:=by rw[hz];simp
 have td:=(Tr.drew hs).trans (Tr.drew (WW.drew hs))
 let L:Loc:=⟨w.heap.size,0,n+k,1⟩
 refine⟨σ.put H.nx L,SL (l:=L) rfl,td.trans (Tr.alloc td.sim _ _ L rfl ⟨cs,(0,0),rfl,?_⟩)⟩;refine⟨rfl,Zs _,by show n<=(n+k)*1;omega,by show 0+(n+k)*1<=cs.size;rw[hz];omega,(λh=>by cases h),λi hi=>?_,λi v _ hv=>hone v (Vf hv),λ_ i _ _ h=>by have h1:=h.1;have h2:=h.2;simp at h2,λ_ _=>.inl rfl⟩;have hi:i<n:=hi;refine⟨cs[i]'(by omega),by show cs[0+i]? =_;rw[Zl];exact WU _,?_⟩;show Ym _ AV.unk _;simp[Ym]
noncomputable def Xv(c:Nat)(l:Zd):Nat->Nat:=List.rec (λn=>n) (λb _ ih n=>cond (Nat.beq b.toNat c) (ih (Nat.succ n)) (ih n)) l
theorem Hn{c:Nat}(hc:c<=255): ∀(l:Zd) (n:Nat),Xv c l n=n+Lib.countByte l c.toUInt8
 |[],n=>rfl
 |b::l,n=>by
  have hcb:(b==c.toUInt8)=Nat.beq b.toNat c:=by
   rw[Yl];have h1:(c.toUInt8).toNat=c:=by
    show c % 256=c;omega
   by_cases e:b.toNat=c
   ·rw[Zi e]
    have:b=c.toUInt8:=UInt8.toNat.inj (by rw[h1];exact e);simp[this]
   ·rw[Zc e]
    have:b≠c.toUInt8:=λh=>e (by rw[h,h1])
    simpa using this
  show cond (Nat.beq b.toNat c) (Xv c l (n+1)) (Xv c l n)=_;unfold Lib.countByte;rw[List.count_cons,hcb];cases Nat.beq b.toNat c with
  |true=>
   show Xv c l (n+1)=_;rw[Hn hc l];unfold Lib.countByte;simp;omega
  |false=>
   show Xv c l n=_;rw[Hn hc l];unfold Lib.countByte;simp
def eh{f:FuncId}{fn:Func}(hf:P.funcs[f]? =some fn)(hname:(fn.name== "runtime.NumGoroutine")=false)(hb:fn.body.isNone=true)(hn:Extern.findNext fn=none)(he:Extern.find fn=some Extern.BytealgCount.count)
  {s:Zd}{c:Nat}(hc:Nat.ble c 255=true){H:Heap}{σ:Mp}{w:World}{vs:List Value}(hs:WW P σ H w)(hv:YR σ [.str s,.int .u8 (.ofNat c)] vs):
  Ki P σ H w (.ret (.int .i64 (.ofNat (Xv c s 0))) H) ((callFunc f ⟨vs⟩).run P w):=by
 obtain⟨v,l,h1,h2,rfl⟩:=hv.cons_inv;obtain⟨u,l',h3,h4,rfl⟩:=h2.cons_inv;rw[h4.nil_inv,Uy h1,XX h3,run_callFunc_extern hf hname hb hn he];have hc:=ZS hc;have hrun:(Extern.BytealgCount.count #[.string ⟨s.toArray⟩,.int .u8 (.ofNat c)]).run P w=.ok (.int .i64 (.ofNat (Xv c s 0))) w:=by
  rw[Lib.run_countString,Hn hc];have e1:(⟨s.toArray⟩:ByteArray).data.toList=s:=by simp
  have e2:(Int.ofNat c).toNat=c:=rfl;rw[e1,e2,Zl];rfl
 rw[hrun];exact⟨σ,by simp only[Ym],Tr.refl hs⟩
noncomputable def uH:List (Nat×Nat×List AV)->T Obj->T Obj
 |[],t=>t
 |(b,e,l)::rs,t=>uH rs (t.set b (.row ⟨e,1,YN l,T.ofList l,.unk,0,false,false,true⟩))
theorem Jj: ∀(rs:List (Nat×Nat×List AV)) (t:T Obj) (b:Nat) (o:Obj),(uH rs t).get b=some o->
  (∃e l,(b,e,l)∈rs∧o=.row ⟨e,1,YN l,T.ofList l,.unk,0,false,false,true⟩)∨t.get b=some o
 |[],t,b,o,h=>.inr h
 |(b',e,l)::rs,t,b,o,h=>by
  rcases Jj rs _ b o h with⟨e2,l2,h1,h2⟩|h1
  ·exact .inl ⟨e2,l2,ZC _ h1,h2⟩
  ·rw[T.get_set] at h1
   by_cases e3:b'=b
   ·rw[if_pos e3] at h1;cases h1;subst e3;exact .inl ⟨e,l,Zw ..,rfl⟩
   ·rw[if_neg e3] at h1;exact .inr h1
mutual
def Pz:DataW Unit->List AV
 |.lit (.int k n)=>[.int k n]
 |.lit (.string s)=>[.str s]
 |.agg ds=>Ev ds
 |_=>[]
def Ev:List (DataW Unit)->List AV
 |[]=>[]
 |d::ds=>Pz d++Ev ds
end
def TG(P:Program)(W:World)(e:TypeId)(c:Nat):Prop:=
 ∀(m:Nat) (cs:List Value) (x:DataW Unit×List MemPlace),DataW.trod (λ_=>()) P W 0 (λ_=>true) false m e cs=some x->cs.length=c∧YR (λ_=>none) (Pz x.1) cs∧ ∀v∈cs,v.oneCell'=true
def EM{W:World}{e:TypeId}{k:IntKind}(he:P.underlying e=some (.int k)):TG P W e 1:=by
 intro m cs x h;obtain⟨n,rfl,rfl,_⟩:=DataW.trod_int he h;exact⟨rfl,U4 (by simp[Ym]),λv hv=>by simp at hv;subst hv;rfl⟩
theorem oZ{W:World}{e:TypeId}{c:Nat}(he:TG P W e c){m:Nat}{cs:List Value}: ∀(xs:List (DataW Unit×List MemPlace)) (k:Nat),
  (∀i x,xs[i]? =some x->DataW.trod (λ_=>()) P W 0 (λ_=>true) false m e ((cs.drop ((k+i)*c)).take c)=some x)->
  YR (λ_=>none) (Ev (xs.map (·.1))) ((cs.drop (k*c)).take (xs.length*c))∧ ∀v∈(cs.drop (k*c)).take (xs.length*c),v.oneCell'=true
 |[],k,_=>by simp[Ev,YR]
 |x::xs,k,h=>by
  obtain⟨h1,h2,h3⟩:=he m _ x (h 0 x rfl);obtain⟨h4,h5⟩:=oZ he xs (k+1) (λi y hy=>by
   have:=h (i+1) y (by simpa using hy)
   rw[show k+(i+1)=k+1+i by omega] at this
   exact this)
  rw[Zo] at h1 h2 h3;have hsplit:(cs.drop (k*c)).take ((x::xs).length*c)=(cs.drop (k*c)).take c++(cs.drop ((k+1)*c)).take (xs.length*c):=by
   rw[ZL,WR,Rk,Nat.add_comm (xs.length*c) c,List.take_add,Sj]
   congr 3
   rw[WR,Rk]
  rw[hsplit];refine⟨h2.append h4,λv hv=>?_⟩;rcases Zt.1 hv with hv|hv
  ·exact h3 v hv
  ·exact h5 v hv
def QP{W:World}{t e:TypeId}{n c:Nat}(ht:P.underlying t=some (.array n e))(hc:P.cellsOf e=c)(hct:P.cellsOf t=n*c)(he:TG P W e c):TG P W t (n*c):=by
 intro m cs x h;obtain⟨xs,m',rfl,rfl,hlen,hn,hel⟩:=DataW.trod_array ht h;rw[hc] at hel;obtain⟨h1,h2⟩:=oZ he (m:=m') (cs:=cs) xs 0 (λi y hy=>by
  have hi:i<n:=by rw[<-hn];exact(VY.1 hy).1
  rw[Zl,hel i hi];exact hy)
 rw[hct] at hlen;have hcs:(cs.drop (0*c)).take (xs.length*c)=cs:=by
  rw[Vl,YL,hn,<-hlen,Vb]
 rw[hcs] at h1 h2;exact⟨hlen,h1,h2⟩
def mX{W:World}{t e:TypeId}{f g:Field}(ht:P.underlying t=some (.struct #[f,g]))(hf:f.type=e)(hg:g.type=e)(hof:f.offset=0)(hog:g.offset=1)(hc:P.cellsOf e=1)(hct:P.cellsOf t=2)(he:TG P W e 1):TG P W t 2:=by
 intro m cs x h;obtain⟨xs,m',rfl,rfl,hlen,hn,hel⟩:=DataW.trod_struct ht h;have h0:=hel 0 f rfl;have h1:=hel 1 g rfl;rw[hf,hof,hc] at h0;rw[hg,hog,hc] at h1;obtain⟨g1,g2⟩:=oZ he (m:=m') (cs:=cs) xs 0 (λi y hy=>by
  have hi:i<2:=by
   have:xs.length=2:=by rw[hn];rfl
   rw[<-this];exact(VY.1 hy).1
  match i,hi with
  |0,_=>simpa using h0.trans hy
  |1,_=>simpa using h1.trans hy)
 have Zf4:cs.length=2:=by rw[hlen,hct]
 have hn2:xs.length=2:=by rw[hn];rfl
 have hcs:(cs.drop (0*1)).take (xs.length*1)=cs:=by
  rw[hn2,Vl,YL,Y6,<-Zf4,Vb]
 rw[hcs] at g1 g2;exact⟨Zf4,g1,g2⟩
def ND{W:World}{n:String}{g:Nat}{cs:Array Value}(hg:P.globalNamed n=some g)(h:W.var? P n=some cs): ∃t fr,W.heap[g]? =some (.cells cs t fr):=by
 simp only[World.var?,hg,Option.bind_some] at h
 split at h
 ·rename_i c t fr hh;cases h;exact⟨t,fr,hh⟩
 ·cases h
def dE{W:World}{t:TypeId}{ms:Array (String×TypeId)}(ht:P.underlying t=some (.interface ms)){m:Nat}{cs:List Value}{name:String}{D:DataW Unit}{p:List MemPlace}
  (h:DataW.trod (λ_=>()) P W 0 (λ_=>true) false m t cs=some (.iface name (.ptr D),p)){u0 e:TypeId}(hu: ∀u,P.typeName? 3 u=some name->u=u0)(hu0:P.underlying u0=some (.pointer e))(he:1<=P.cellsOf e)
  (hok: ∀u v,cs=[.iface u v]->Value.okWide P W .any 0 u v): ∃a:Addr,a.spot=none∧cs=[.iface u0 (.pointer (some a))]:=by
 have key: ∃u v,cs=[.iface u v]:=by
  cases m with
  |zero=>simp[DataW.trod] at h
  |succ m=>
   unfold DataW.trod at h;rw[ht] at h;rcases cs with _|⟨c0,_|⟨c1,cs⟩⟩
   ·simp at h
   ·cases c0<;>first|exact⟨_,_,rfl⟩|(simp at h)
   ·simp at h
 obtain⟨u,v,rfl⟩:=key;cases m with
 |zero=>simp[DataW.trod] at h
 |succ m=>
  unfold DataW.trod at h;rw[ht] at h;cases hn:P.typeName? 3 u with
  |none=>simp[hn] at h
  |some nm=>
   simp only[hn] at h;obtain⟨x,h1,h2⟩:=U0.1 h;simp only[Prod.mk.injEq,DataW.iface.injEq] at h2;obtain⟨⟨rfl,h3⟩,_⟩:=h2;obtain rfl:=hu u hn;rcases DataW.trod_pointer hu0 h1 with⟨_,h4⟩|⟨a,cs',y,n,_,h4,h5,h6,_⟩
   ·rw[h4] at h3;cases h3
   ·have hspot:a.spot=none:=by
     unfold World.cells? at h6
     split at h6
     ·have h7:=h6
      cases hc:P.cellsOf e with
      |zero=>omega
      |succ n=>
       rw[hc,List.range_succ_eq_map,List.mapM_cons] at h7;simp only[Option.bind_eq_bind,Option.bind_eq_some_iff] at h7;obtain⟨b,h8,_⟩:=h7;unfold World.cell? at h8
       split at h8
       ·split at h8
        ·cases h8
        ·rename_i hs
         have:(a.add 0).spot=a.spot:=rfl;rw[this] at hs
         simpa using hs
       ·cases h8
     ·cases h6
    refine⟨a,hspot,?_⟩;have hv:v.cells.toList=[.pointer (some a)]:=h4;have hv':v=.pointer (some a):=by
     cases v with
     |agg cs=>
      have:=hok _ _ rfl;simp[Value.okWide,Cell.okWide,Cell.ok,hu0] at this
     |_=>first|(simp[Value.cells] at hv;done)|(simpa [Value.cells] using hv)
    rw[hv']
def AZ{info:TypeId->Option TypeInfo}{d:TypeDesc}{i:TypeInfo}{e:TypeId}(h:Made.reckon info d=some i)(hd:i.desc=.pointer e): ∃j,info e=some j∧ ∀n u,j.desc≠.named n u:=by
 unfold Made.reckon at h
 split at h
 ·rename_i e'
  simp only[bind,Option.bind_eq_some_iff] at h;obtain⟨j,hj,h⟩:=h;have jx:e'=e∧ ∀n u,j.desc≠.named n u:=by
   split at h
   ·cases h
   ·rename_i fs hfs
    split at h
    ·cases h
    ·simp only[Option.bind_eq_some_iff,pure] at h
     obtain⟨s,_,h⟩:=h;cases h;have:TypeDesc.pointer e'=.pointer e:=hd;cases this;exact⟨rfl,λn u hn=>by rw[hfs] at hn;cases hn⟩
   ·rename_i hn1 hn2
    simp only[Option.bind_eq_some_iff,pure] at h;obtain⟨s,_,h⟩:=h;cases h;have:TypeDesc.pointer e'=.pointer e:=hd;cases this;exact⟨rfl,λn u hn=>hn1 n u hn⟩
  obtain⟨rfl,h2⟩:=jx;exact⟨j,hj,h2⟩
 all_goals
  exfalso
  try simp only[bind,Option.bind_eq_some_iff,pure] at h
  repeat' first
   |(obtain⟨_,_,h⟩:=h)
   |(split at h)
  all_goals first
   |(simp[Made.word] at hd;done)
   |(cases h;simp[Made.word] at hd;done)
   |(cases h;cases hd;done)
   |(cases h;done)
   |(simp only[Option.bind_eq_some_iff] at h;obtain⟨_,_,h⟩:=h;cases h;cases hd;done)
   |(unfold Made.reckonStruct at h;simp only[bind,Option.bind_eq_some_iff,pure] at h;obtain⟨_,_,h⟩:=h;split at h<;>(cases h;cases hd))
def zX{name inner:String}(hname:name= "*" ++inner)(hstar: ∀m:String,inner≠ "*" ++m)
  (htab:(P.types.toList.zipIdx.all λx=>match P.typeName? 2 x.2 with|some n=>n !=inner||(match x.1.desc with|.named _ _=>true|_=>false)|none=>true)=true)
  {u:TypeId}(h:P.typeName? 3 u=some name):u<P.types.size:=by
 refine Decidable.byContradiction λhu=>?_;unfold Program.typeName? at h;cases hi:P.info? u with
 |none=>simp[hi] at h
 |some i=>
  have hb:=Tables.info?_beyond hu hi;simp only[hi] at h;cases hd:i.desc<;>simp only[hd,TypeDesc.tableOnly] at h hb<;>try cases hb
  all_goals try (cases h;done)
  rename_i e;simp only[U0] at h;obtain⟨n',hn',h2⟩:=h;have hin:n'=inner:=by
   rw[hname] at h2;have h3:("*" ++n').toList=("*" ++inner).toList:=by rw[h2]
   rw[String.toList_append,String.toList_append] at h3;exact String.toList_inj.1 (List.append_cancel_left h3)
  subst hin;unfold Tables.info? at hi;rw[if_neg hu] at hi;unfold Made.depth at hi;unfold Made.infoAt at hi;rw[if_neg hu] at hi;simp only[Option.bind_eq_some_iff] at hi;obtain⟨d,_,hrk⟩:=hi;obtain⟨jj,hj,hjn⟩:=AZ hrk hd
  by_cases he:e<P.types.size
  ·unfold Made.infoAt at hj
   rw[if_pos he] at hj;have h4:=Ya.1 htab (jj,e) (by rw[List.mk_mem_zipIdx_iff_getElem?,Z7];exact hj);simp only[hn'] at h4;cases hjd:jj.desc with
   |named a b=>exact hjn a b hjd
   |_=>simp at h4
  ·unfold Program.typeName? at hn'
   cases hi2:P.info? e with
   |none=>simp[hi2] at hn'
   |some i2=>
    have hb2:=Tables.info?_beyond he hi2;simp only[hi2] at hn';cases hd2:i2.desc<;>simp only[hd2,TypeDesc.tableOnly] at hn' hb2<;>try cases hb2
    all_goals try (cases hn';done)
    simp only[U0] at hn';obtain⟨m,_,hm⟩:=hn';exact hstar m hm.symm
noncomputable def Zjw(l:List (Nat×CF)):T CF:=List.rec .leaf (λx _ t=>t.set x.1 x.2) l
theorem oe: ∀{l:List (Nat×CF)} {f:Nat} {cf:CF},(Zjw l).get f=some cf->(f,cf)∈l
 |[],f,cf,h=>by
  have h:(T.leaf:T CF).get f=some cf:=h;rw[T.get_leaf] at h;cases h
 |(g,c)::l,f,cf,h=>by
  have h:((Zjw l).set g c).get f=some cf:=h;rw[T.get_set] at h
  by_cases e:g=f
  ·rw[if_pos e] at h;cases h;rw[e];exact Zw ..
  ·rw[if_neg e] at h;exact ZC _ (oe h)
def v6{W W':World}{may:MemPlace->Prop}(h1:W'.os=W.os)(h2:W'.output=W.output)(h3: ∀i,i<W.heap.size->W'.heap[i]? =W.heap[i]?):W.keptBut W' may:=by
 refine⟨h1,h2,λi hi=>?_⟩;rw[h3 i hi]
 split
 ·rename_i e1 e2;rw[e1] at e2;cases e2;exact⟨rfl,rfl,rfl,λ_ _=>rfl⟩
 ·rename_i e1 e2;rw[e1] at e2;cases e2;exact .inr ⟨rfl,rfl⟩
 ·rfl
mutual
theorem Ym.back{σ σ':Mp}(h:Ext σ σ'): ∀{a:AV} {v0 v:Value},Ym σ a v0->Ym σ' a v->Ym σ a v
 |.unk,_,_,_,_=>by simp[Ym]
 |.bool b,_,v,_,r=>by simpa [Ym] using r
 |.int k n,_,v,_,r=>by simpa [Ym] using r
 |.str s,_,v,_,r=>by simpa [Ym] using r
 |.nilp,_,v,_,r=>by simpa [Ym] using r
 |.ptr b o,_,v,q,r=>by
  simp only[Ym] at q r ⊢;obtain⟨l,hl,_⟩:=q;obtain⟨l',hl',hv⟩:=r;rw[h _ _ hl] at hl';cases hl';exact⟨l,hl,hv⟩
 |.nils,_,v,_,r=>by simpa [Ym] using r
 |.slice0,_,v,_,r=>by simpa [Ym] using r
 |.slice b o n cap,_,v,q,r=>by
  simp only[Ym] at q r ⊢;obtain⟨l,hl,_⟩:=q;obtain⟨l',hl',hv⟩:=r;rw[h _ _ hl] at hl';cases hl';exact⟨l,hl,hv⟩
 |.nilm,_,v,_,r=>by simpa [Ym] using r
 |.map b,_,v,q,r=>by
  simp only[Ym] at q r ⊢;obtain⟨l,hl,_⟩:=q;obtain⟨l',hl',hv⟩:=r;rw[h _ _ hl] at hl';cases hl';exact⟨l,hl,hv⟩
 |.func f a b,_,v,q,r=>by
  simp only[Ym] at q r ⊢;obtain⟨x0,y0,q1,q2,_⟩:=q;obtain⟨x,y,hx,hy,hv⟩:=r;exact⟨x,y,YR.back h q1 hx,YR.back h q2 hy,hv⟩
 |.meth n a,_,v,q,r=>by
  simp only[Ym] at q r ⊢;obtain⟨x0,q1,_⟩:=q;obtain⟨x,hx,hv⟩:=r;exact⟨x,Ym.back h q1 hx,hv⟩
 |.yield b,_,v,q,r=>by
  simp only[Ym] at q r ⊢;obtain⟨l,hl,_⟩:=q;obtain⟨l',hl',hv⟩:=r;rw[h _ _ hl] at hl';cases hl';exact⟨l,hl,hv⟩
 |.nilf,_,v,_,r=>by simpa [Ym] using r
 |.iface t x,_,v,q,r=>by
  simp only[Ym] at q r ⊢;obtain⟨y0,q1,_⟩:=q;obtain⟨y,hy,hv⟩:=r;exact⟨y,Ym.back h q1 hy,hv⟩
 |.nili,_,v,_,r=>by simpa [Ym] using r
 |.agg cs,_,v,q,r=>by
  simp only[Ym] at q r ⊢;obtain⟨v0,q1,_,_⟩:=q;obtain⟨vs,hx,h1,hv⟩:=r;exact⟨vs,YR.back h q1 hx,h1,hv⟩
 |.tup cs,_,v,q,r=>by
  simp only[Ym] at q r ⊢;obtain⟨v0,q1,_⟩:=q;obtain⟨vs,hx,hv⟩:=r;exact⟨vs,YR.back h q1 hx,hv⟩
theorem YR.back{σ σ':Mp}(h:Ext σ σ'): ∀{as:List AV} {l0 l:List Value},YR σ as l0->YR σ' as l->YR σ as l
 |[],_,_,_,r=>by simpa [YR] using r
 |a::as,_,_,q,r=>by
  simp only[YR] at q r ⊢;obtain⟨v0,vs0,q1,q2,_⟩:=q;obtain⟨v,vs,r1,r2,e⟩:=r;exact⟨v,vs,Ym.back h q1 r1,YR.back h q2 r2,e⟩
end
def PG.back{σ σ':Mp}(h:Ext σ σ'){r:Row}{l:Loc}{c0 c:Array Value}{f0 f:Nat×Nat}(q:PG σ r l c0 f0)(p:PG σ' r l c f):PG σ r l c f:=
 ⟨p.sz,p.sz1,p.fits,p.room,p.exact,λi hi=>by
  obtain⟨v0,_,h0⟩:=q.cell i hi
  obtain⟨v,h1,h2⟩:=p.cell i hi
  exact⟨v,h1,h0.back h h2⟩,p.one,p.frz,p.frs⟩
theorem YE.known{σ:Mp}: ∀{es:List Ss} {l:List MapEntry},YE σ es l-> ∀e∈es,(∃v,Ym σ e.key v)∧ ∃v,Ym σ e.val v
 |[],_,_,e,he=>by cases he
 |a::as,_,h,e,he=>by
  obtain⟨x,xs,h1,h2,_⟩:=h;rcases ZY.1 he with rfl|he
  ·exact⟨⟨_,h1.1⟩,⟨_,h1.2.1⟩⟩
  ·exact YE.known h2 e he
theorem YE.back{σ σ':Mp}(h:Ext σ σ'): ∀{es:List Ss} {l:List MapEntry},(∀e∈es,(∃v,Ym σ e.key v)∧ ∃v,Ym σ e.val v)->YE σ' es l->YE σ es l
 |[],_,_,r=>r
 |a::as,_,q,r=>by
  obtain⟨x,xs,h1,h2,e⟩:=r;obtain⟨⟨_,q1⟩,⟨_,q2⟩⟩:=q a (Zw ..);exact⟨x,xs,⟨q1.back h h1.1,q2.back h h1.2.1,h1.2.2⟩,YE.back h (λe he=>q e (ZC _ he)) h2,e⟩
def Tq.back{σ σ':Mp}(h:Ext σ σ'){o:Obj}{l:Loc}{c0 c:Go.Obj}(q:Tq σ o l c0)(p:Tq σ' o l c):Tq σ o l c:=by
 cases o with
 |row r=>
  obtain⟨_,_,_,q1⟩:=q;obtain⟨cs,fr,e,p1⟩:=p;exact⟨cs,fr,e,q1.back h p1⟩
 |map es clock=>
  obtain⟨_,_,q1,_⟩:=q;obtain⟨ents,e,p1,p2⟩:=p;exact⟨ents,e,YE.back h q1.known p1,p2⟩
 |siter s pos=>exact p
 |miter m since cur=>
  obtain⟨_,_,_,q1,_⟩:=q;obtain⟨seen,st,e,p1,p2⟩:=p;refine⟨seen,st,?_,q1,p2⟩;rw[e];cases m with
  |none=>rfl
  |some b=>
   obtain⟨l2,hl2⟩:=Tc.1 (q1 b rfl);show Go.Obj.mapIter ((σ' b).map (·.blk)) since seen st=Go.Obj.mapIter ((σ b).map (·.blk)) since seen st
   rw[hl2,h _ _ hl2]
 |loop=>exact p
 |cmap es=>
  obtain⟨_,_,f0,_,q1,q2,_⟩:=q;obtain⟨ents,clock,fs,e,p1,p2,p3⟩:=p;refine⟨ents,clock,fs,e,YE.back h (λx hx=>?_) p1,p2,p3⟩;have hm:SB x∈f0.map SB:=q2.symm.mem_iff.1 (p2.mem_iff.1 (VQ hx));obtain⟨y,hy,ey⟩:=YC.1 hm;obtain⟨⟨v,h1⟩,⟨u,h2⟩⟩:=q1.known y hy;have e1:y.key=x.key:=congrArg Prod.fst ey;have e2:y.val=x.val:=congrArg Prod.snd ey;exact⟨⟨v,e1▸h1⟩,⟨u,e2▸h2⟩⟩
def Tr.drop{σ σ':Mp}{H H':Heap}{w w':World}(hs:WW P σ H w)(t:Tr P σ H w σ' H' w')(keep: ∀b,b<H.nx->H'.t.get b=H.t.get b):Tr P σ H w σ H w':=by
 have hs':WW P σ H w':=by
  refine⟨hs.dom,hs.low,λb o l hb hl=>?_,hs.inj,hs.glob,hs.ro⟩;obtain⟨c0,_,h1⟩:=hs.alive b o l hb hl;obtain⟨c,h2,h3⟩:=t.sim.alive b o l (by rw[keep b (hs.low b o hb)];exact hb) (t.ext b l hl);exact⟨c,h2,h1.back t.ext h3⟩
 exact⟨Ext.refl σ,hs',t.size,t.frame,λb l hw hl _=>⟨b,l,hw,hl,rfl⟩,Zs _,rfl,λ_ _=>rfl,t.tape,t.os,t.out,λ_ _ h=>⟨rfl,h⟩⟩
end
end
end Go.AI
