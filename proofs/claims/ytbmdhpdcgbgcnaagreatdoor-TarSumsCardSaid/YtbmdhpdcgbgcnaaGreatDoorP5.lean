/- Calls, rounds, ranges and functions without a body of the interpreter's do what the machine does: proved for every world that is told. -/
import Derived.Test.YtbmdhpdcgbgcnaaGreatDoorP4
import Derived.RangeFuncLeaves
import Derived.RangeFuncRecord
import Derived.Laws.NewFold
import Derived.Laws.StandIn
import Derived.Lib.Bytealg
import Derived.OpenShut
import Derived.ChangeArms
import Derived.ChangeMade
import GoSem.ClaimJoined
set_option maxRecDepth 1000000
set_option maxHeartbeats 0
set_option linter.unusedVariables false
set_option linter.unusedSimpArgs false
namespace Go.AI
open Go
noncomputable section
section
variable {P:Program} {σ:Mp} {H:Heap} {w:World} {N:Nat} {tm:TM} {t:Array Value}
def Jc(P:Program)(r:ResultVar):YF×Option (Nat×Bool):=match r with|.tmp n=>(Xo P (.tmp n),none)|.cell a u=>(Xo P (.tmp a),some (P.cellsOf u,Nu P u))
def oR(t:Array Value)(r:ResultVar):Sem Value:=match r with
 |.tmp n=>pure (t.getD n undef)
 |.cell a u=>do loadVar u (<-asAddr (t.getD a undef))
theorem bi(hs:WL P σ H w)(ht:Qo σ N tm t){r:ResultVar}(hr:It P r=true){kk:AV->CR}{o:CR}
  (h:ZcJ tm H (Jc P r) kk=o)(ho:o≠.fail): ∃v u,kk v=o∧YU σ v u∧(oR t r).run P w=.ok u w:=by
 have hρ:=LC (a:={tmps:=t,defers:=[]}) hs ht
 cases r with
 |tmp n=>exact⟨_,t.getD n undef,h,hρ (.tmp n),rfl⟩
 |cell a u=>
  have g:=hρ (.tmp a)
  simp only[ZcJ,Jc] at h
  generalize hp:Xo P (.tmp a) tm=p at h g
  cases p with
  |ptr b off=>
   simp only at h
   cases hb:H.t.get b with
   |none=>rw[hb] at h;exact absurd h.symm ho
   |some ob=>
    rw[hb] at h
    cases ob with
    |row r=>
     simp only at h
     cases hle:Nat.ble (Nat.add off (P.cellsOf u)) r.size with
     |false=>rw[hle] at h;exact absurd h.symm ho
     |true=>
      rw[hle] at h
      have hle:off+P.cellsOf u<=r.size:=Yn hle
      simp only[It,Xf,VM] at hr
      obtain⟨⟨⟨i,hi⟩,⟨d,hu⟩⟩,hn1⟩:=hr
      have hn1:1<=P.cellsOf u:=Yn hn1
      obtain⟨l,hl,e⟩:=Ut g
      have e:t.getD a undef=_:=e
      obtain⟨cs,fr,hc,hrr⟩:=hs.row hb hl
      have hag:=Pp (w:=w) hu
      have hsz:P.cellsOf u=i.size:=by simp[Program.cellsOf,hi]
      cases h1:Nu P u with
      |true=>
       rw[h1] at h hag
       obtain⟨vs,h2,h3,h4,h5⟩:=Pj hrr (P.cellsOf u) off hle
       refine⟨_,.agg ⟨vs⟩,h,by simp only[YU];exact⟨vs,h2,h5,rfl⟩,?_⟩
       have:=S5 (P:=P) hc vs (o:=l.base+off) h4
       rw[h3] at this
       show(do loadVar u (<-asAddr (t.getD a undef)):Sem Value).run P w=_
       rw[e]
       simp only[asAddr,Sem.run_bind,Sem.run_pure,Result.andThen_ok,loadVar,hag,if_true,WK hi,<-hsz,this]
      |false=>
       rw[h1] at h hag
       obtain⟨v,hv,hrel⟩:=hrr.cell off (by omega)
       refine⟨_,v,h,hrel,?_⟩
       show(do loadVar u (<-asAddr (t.getD a undef)):Sem Value).run P w=_
       rw[e]
       simp only[asAddr,Sem.run_bind,Sem.run_pure,Result.andThen_ok,loadVar,hag,XW,if_false,run_load,JF hc,hv]
    |_=>exact absurd h.symm ho
  |_=>exact absurd h.symm ho
theorem wc(hs:WL P σ H w)(ht:Qo σ N tm t){o:CR}(ho:o≠.fail): ∀(l:List ResultVar) (kk:List AV->CR),l.all (It P)=true->P9 tm H kk (l.map (Jc P))=o->
  ∃vs us,kk vs=o∧Xj σ vs us∧(l.mapM (oR t)).run P w=.ok us w
 |[],kk,_,h=>⟨[],[],h,V1,rfl⟩
 |r::l,kk,hr,h=>by
  simp only[List.all_cons,Xf] at hr
  obtain⟨v,u,h1,h2,h3⟩:=bi (r:=r) hs ht hr.1 (kk:=λv=>P9 tm H (λvs=>kk (v::vs)) (l.map (Jc P))) h ho
  obtain⟨vs,us,h4,h5,h6⟩:=wc hs ht ho l _ hr.2 h1
  refine⟨v::vs,u::us,h4,WB h2 h5,?_⟩
  have h3:(oR t r).run P w=.ok u w:=h3
  rw[List.mapM_cons]
  simp only[Sem.run_bind,h3,Result.andThen_ok,h6,Sem.run_pure]
theorem Jd(hs:WL P σ H w)(ht:Qo σ N tm t){fn:Func}(hr:fn.results.toList.all (It P)=true){r:CR}(h:AI.results (fn.results.toList.map (Jc P)) tm H=r)(ho:r≠.fail):
  ∃v u,r=.ret v H∧YU σ v u∧(Go.results fn t).run P w=.ok u w:=by
 obtain⟨vs,us,h1,h2,h3⟩:=wc hs ht ho fn.results.toList _ hr h
 have hm:(fn.results.mapM (oR t)).run P w=.ok us.toArray w:=by
  rw[Array.mapM_eq_mapM_toList]
  show((fn.results.toList.mapM (oR t))>>=λl=>pure l.toArray).run P w=_
  rw[Sem.run_bind,h3];rfl
 have hrun: ∀u,(if h:us.toArray.size=1 then us.toArray[0] else .tuple us.toArray)=u->(Go.results fn t).run P w=.ok u w:=by
  intro u hu
  unfold Go.results
  rw[Sem.run_bind]
  show Result.andThen ((fn.results.mapM (oR t)).run P w) _=_
  rw[hm]
  show Result.ok _ w=_
  rw[<-hu]
 have hlen:=h2.length
 match vs,us,h1,h2,hlen,hrun with
 |[v],[u],h1,h2,_,hrun=>
  obtain⟨v',vs',h4,_,h6⟩:=h2.cons_inv
  cases h6
  exact⟨v,u,h1.symm,h4,hrun u rfl⟩
 |[],[],h1,h2,_,hrun=>exact⟨.tup [],.tuple #[],h1.symm,by simp[YU,Xj],hrun _ rfl⟩
 |v1::v2::vs,u1::u2::us,h1,h2,_,hrun=>
  refine⟨.tup (v1::v2::vs),.tuple (u1::u2::us).toArray,h1.symm,by simp only[YU];exact⟨_,h2,rfl⟩,hrun _ ?_⟩
  rw[dif_neg (by simp)]
theorem oF:params=(List.range' 0 16).map Pq:=rfl
theorem DL{σ:Mp}{t:Array Value}: ∀(m k:Nat) (tm:TM) (vs:List AV),k+m<=512->(∀n,n<512->YU σ (Sm n tm) (t.getD n undef))->(∀i v,vs[i]? =some v->YU σ v (t.getD (k+i) undef))->
  ∀n,n<512->YU σ (Sm n (P1 tm ((List.range' k m).map Pq) vs)) (t.getD n undef)
 |0,k,tm,vs,_,h,_,n,hn=>by cases vs<;>exact h n hn
 |m+1,k,tm,[],_,h,_,n,hn=>by rw[TU];exact h n hn
 |m+1,k,tm,v::vs,hk,h,hv,n,hn=>by
  rw[TU]
  show YU σ (Sm n (P1 (Pq k tm v) ((List.range' (k+1) m).map Pq) vs)) _
  refine DL m (k+1) (Pq k tm v) vs (by omega) (λj hj=>?_) (λi u hi=>?_) n hn
  ·rw[JM j k hj (by omega)]
   by_cases e:j=k
   ·subst e;rw[if_pos rfl];exact hv 0 v rfl
   ·rw[if_neg e];exact h j hj
  ·have:=hv (i+1) u (by simpa using hi)
   rw[show k+(i+1)=k+1+i by omega] at this
   exact this
theorem yv{σ:Mp}{as:List AV}{vs:List Value}(h:Xj σ as vs)(N:Nat):Qo σ N (Sp as) ((⟨vs⟩:Array Value)++Array.replicate (N - (⟨vs⟩:Array Value).size) undef):=by
 refine⟨by simp;omega,?_⟩
 unfold Sp
 rw[oF]
 refine DL 16 0 NZ as (by decide) (λn hn=>?_) (λi v hi=>?_)
 ·rw[sF];simp[YU]
 ·obtain⟨u,hu,hr⟩:=h.get hi
  have:((⟨vs⟩:Array Value)++Array.replicate (N - (⟨vs⟩:Array Value).size) undef).getD (0+i) undef=u:=by
   have hlt:i<vs.length:=(Vg.1 hu).1
   have hlt':i<(⟨vs⟩:Array Value).size:=hlt
   rw[Zb,Yr,Array.getElem?_append_left hlt']
   have:(⟨vs⟩:Array Value)[i]? =vs[i]? :=by simp
   rw[this,hu];rfl
  rw[this];exact hr
end
section
variable {P:Program}
theorem mN{σ:Mp}{H:Heap}{w:World}(hs:WL P σ H w){b:Nat}{o:Obj}{l:Loc}(hb:H.t.get b=some o)(hl:σ b=some l){x:Option (List Deferred)}(hx:w.heap[l.blk]? =some (.deferred x)):False:=by
 obtain⟨c,hc,hr⟩:=hs.alive b o l hb hl
 rw[hx] at hc
 cases hc
 cases o with
 |row r=>obtain⟨_,_,h,_⟩:=hr;cases h
 |map es cl=>obtain⟨_,h,_⟩:=hr;cases h
 |siter s p=>obtain⟨h,_⟩:=hr;cases h
 |cmap es=>obtain⟨_,_,_,h,_⟩:=hr;cases h
 |miter m s q=>obtain⟨_,_,h,_⟩:=hr;cases h
 |loop=>obtain⟨_,h⟩:=hr;cases h
theorem Tr.take{σ0 σ:Mp}{H0 H:Heap}{w0 w:World}(t:Tr P σ0 H0 w0 σ H w){r:Nat}{x:Option (List Deferred)}(y:Option (List Deferred))(hr:w.heap[r]? =some (.deferred x))(hlo:w0.heap.size<=r):
  Tr P σ0 H0 w0 σ H (w.putObj r (.deferred y)):=by
 refine⟨t.ext,⟨t.sim.dom,t.sim.low,λb o l hb hl=>?_,t.sim.inj,t.sim.glob,t.sim.ro⟩,by simpa using t.size,λk hk hn=>?_,t.wr,t.nx,t.ro,t.low,t.tape,t.os,t.out,t.pend⟩
 ·obtain⟨c,hc,h⟩:=t.sim.alive b o l hb hl
  refine⟨c,?_,h⟩
  rw[World.putObj_heap_other λe=>mN t.sim hb hl (x:=x) (by rw[e];exact hr)]
  exact hc
 ·rw[World.putObj_heap_other (by omega)]
  exact t.frame k hk hn
theorem Uh.take{σ:Mp}{w:World}{lo r:Nat}{y:Option (List Deferred)}{l:List (AV×List AV)}{ds:List Deferred}(h:Uh σ w lo l ds)(hn: ∀d∈ds,∀r',d.target=.collected r'->r'≠r):Uh σ (w.putObj r (.deferred y)) lo l ds:=by
 induction h with
 |nil=>exact .nil
 |call h1 h2 h3 _ ih=>exact .call h1 h2 h3 (ih λd hd=>hn d (ZQ _ hd))
 |mark h1 h2 h3 _ ih=>exact .mark h1 (by rw[World.putObj_heap_other (hn _ (ZE ..) _ rfl)];exact h2) h3 (ih λd hd=>hn d (ZQ _ hd))
theorem Rl{f:FuncId}{fn:Func}{c:Code}{args:Array Value}{w:World}(hf:P.funcs[f]? =some fn)(hname:fn.name≠ "runtime.NumGoroutine")(hb:fn.body=some c):(callFunc f args).run P w=.ok (.enter f args) w:=by
 simp[callFunc,hf,hname,hb]
def FS(σ:Mp)(pn:Option AV)(u:FrameMode):Prop:=match pn with
 |none=>u=.returning
 |some v=> ∃x,YU σ v x∧u=.panicking [{v:=x,recovered:=false}]
def DOk(P:Program)(dcall:Option AV->Nat->List AV->Heap->DR):Prop:=
 ∀(pn:Option AV) (g:Nat) (args:List AV) (H:Heap) (v:AV) (H':Heap) (rec:Bool),dcall pn g args H=.ret v H' rec->
 ∀(σ:Mp) (w:World) (vs:List Value) (c:Frame) (cs:List Frame),WL P σ H w->Xj σ args vs->FS σ pn c.mode->
  (callFunc g ⟨vs⟩).run P w=.ok (.enter g ⟨vs⟩) w∧(rec=true->pn.isSome=true)∧
  ∃σ' w',Tr P σ H w σ' H' w'∧Steps P (lone (Frame.enter P g ⟨vs⟩ .deferred) (c::cs) w) (lone {c with mode:=if rec then .returning else c.mode} cs w')
def ZaH(P:Program)(σ0:Mp)(H0:Heap)(w0:World)(r:CR)(e:Ending)(w:World):Prop:=match r with
 |.fail=>False
 |.ret v H'=> ∃u σ',e=.returned u∧YU σ' v u∧Tr P σ0 H0 w0 σ' H' w
 |.pan v H'=> ∃u σ',e=.panicked [{v:=u,recovered:=false}]∧YU σ' v u∧Tr P σ0 H0 w0 σ' H' w
theorem yk{dcall:Option AV->Nat->List AV->Heap->DR}(hD:DOk P dcall){f:FuncId}{fn:Func}(hf:P.funcs[f]? =some fn)(hr:fn.results.toList.all (It P)=true){N:Nat}{σ0:Mp}{H0:Heap}{w0:World}{tm:TM}{tms:Array Value}:
  ∀(ds:List Deferred) (σ:Mp) (H:Heap) (w:World) (l:List (AV×List AV)) (pn:Option AV) (fr:Frame) (cs:List Frame) (r:CR),fr.defers=ds->fr.fn=f->fr.kind=.normal->fr.tmps=tms->
  Tr P σ0 H0 w0 σ H w->Qo σ N tm tms->Uh σ w w0.heap.size l ds->FS σ pn fr.mode->deferred dcall (fn.results.toList.map (Jc P)) tm l pn H=r->r≠.fail->
  ∃e w' fr',ZaH P σ0 H0 w0 r e w'∧Steps P (lone fr cs w) (lone fr' cs w')∧fr'.fn=f∧fr'.leaving P w' e:=by
 intro ds
 induction ds with
 |nil=>
  intro σ H w l pn fr cs r hds hfn hk htm t ht hd hm he hne
  cases hd
  cases pn with
  |none=>
   obtain⟨v,u,rfl,h1,h2⟩:=Jd t.sim ht hr he hne
   exact⟨.returned u,w,fr,⟨u,σ,rfl,h1,t⟩,Steps.refl P _,hfn,hm,hds,hk,fn,by rw[hfn];exact hf,by rw[htm];exact h2⟩
  |some v=>
   obtain⟨x,hx,hm⟩:=hm
   have he:CR.pan v H=r:=he
   subst he
   exact⟨_,w,fr,⟨x,σ,rfl,hx,t⟩,Steps.refl P _,hfn,hm,hds,fn,by rw[hfn];exact hf⟩
 |cons d ds ih=>
  intro σ H w l pn fr cs r hds hfn hk htm t ht hd hm he hne
  have hrun:fr.mode≠.run:=by
   cases pn with
   |none=>intro e;rw[show fr.mode=.returning from hm] at e;cases e
   |some v=>obtain⟨x,_,hm⟩:=hm;intro e;rw[hm] at e;cases e
  cases hd with
  |mark h1 h2 h3 h4=>
   have hst:=step_collected (P:=P) (cs:=cs) hrun hds rfl (run_takeDeferred h2)
   obtain⟨e,w',fr',g1,g2,g3,g4⟩:=ih σ H (w.putObj _ (.deferred none)) l pn {fr with defers:=[]++ds} cs r rfl hfn hk htm (t.take none h2 h1) ht (h4.take h3) hm he hne
   exact⟨e,w',fr',g1,.head hst g2,g3,g4⟩
  | @call g p q args x y z l' _ h1 h2 h3 h4=>
   have he:(match dcall pn g (p++(args++q)) H with|.ret _ H' rec=>deferred dcall (fn.results.toList.map (Jc P)) tm l' (cond rec none pn) H'|_=>.fail)=r:=he
   cases hdc:dcall pn g (p++(args++q)) H with
   |fail=>rw[hdc] at he;exact absurd he.symm hne
   |pan v H' rec=>rw[hdc] at he;exact absurd he.symm hne
   |ret v H' rec=>
    rw[hdc] at he
    have he:deferred dcall (fn.results.toList.map (Jc P)) tm l' (cond rec none pn) H'=r:=he
    obtain⟨k1,k2,σ1,w1,t1,k3⟩:=hD pn g _ H v H' rec hdc σ w (x++(y++z)) {fr with defers:=ds} cs t.sim (h1.append (h2.append h3)) hm
    have hinv:(invoke (.fn (.func g) ⟨z⟩) ⟨x++y⟩).run P w=.ok (.enter g ⟨x++(y++z)⟩) w:=by
     have:(⟨x++y⟩:Array Value)++(⟨z⟩:Array Value)=⟨x++(y++z)⟩:=by simp
     simp only[invoke,this]
     exact k1
    have hst:=step_defer (P:=P) (cs:=cs) hrun hds (fv:=.func g) (cap:=⟨z⟩) rfl hinv
    have hm':FS σ1 (cond rec none pn) (if rec then FrameMode.returning else fr.mode):=by
     cases rec with
     |true=>rfl
     |false=>
      cases pn with
      |none=>exact hm
      |some v=>obtain⟨x,hx,hm⟩:=hm;exact⟨x,hx.mono t1.ext,hm⟩
    obtain⟨e,w',fr',g1,g2,g3,g4⟩:=ih σ1 H' w1 l' (cond rec none pn) {{fr with defers:=ds} with mode:=if rec then FrameMode.returning else fr.mode} cs r rfl hfn hk htm (t.trans t1) (ht.mono t1.ext) (h4.tr t.sim t1) hm' he hne
    exact⟨e,w',fr',g1,.head hst (k3.trans g2),g3,g4⟩
def ZaI(P:Program)(f:Nat)(cf:CF):Prop:=
 ∃fn c ds,P.funcs[f]? =some fn∧fn.name≠ "runtime.NumGoroutine" ∧fn.body=some c∧cf.rs=fn.results.toList.map (Jc P)∧
  (cf.body=Qu∨(fn.results.toList.all (It P)=true∧W6 P fn.ntmps cf.body [.code c] ds))
theorem yR{f:FuncId}{fn:Func}{c:Code}{args:Array Value}{kd:CallKind}(hf:P.funcs[f]? =some fn)(hb:fn.body=some c):
  Frame.enter P f args kd=({(default:Frame) with fn:=f,kind:=kd}:Frame).atR {tmps:=args++Array.replicate (fn.ntmps - args.size) undef,defers:=[]} ([.code c]++[]):=by
 simp[Frame.enter,Frame.atR,hf,hb]
 rfl
theorem Ir(σ:Mp)(cs:List Frame):Jt σ .normal (λ_=>cs) none:=by
 refine⟨λfr h=>?_,λv h=>by cases h⟩
 unfold tryRecover
 rw[h]
theorem Bj{dcall:Option AV->Nat->List AV->Heap->DR}(hD:DOk P dcall){f:Nat}{cf:CF}(h:ZaI P f cf){c:Ctx}{args:List AV}{H:Heap}{σ:Mp}{w:World}{vs:List Value}(hs:WL P σ H w)(hv:Xj σ args vs)
  (hc:Oq P c ({(default:Frame) with fn:=f,kind:=.normal}:Frame) σ H w):N0 P σ H w (MM dcall cf.rs (cf.body c (Sp args) H ⟨[],none⟩)) (.ok (.enter f ⟨vs⟩) w):=by
 obtain⟨fn,code,ds,hf,hname,hb,hrs,hbody⟩:=h
 rcases hbody with hbad|⟨hres,v5⟩
 ·rw[hbad];exact trivial
 ·rw[hrs]
  generalize he:cf.body c (Sp args) H ⟨[],none⟩=res
  generalize hr:MM dcall (fn.results.toList.map (Jc P)) res=r
  have key:r≠.fail-> ∀cs,∃e w' fr',ZaH P σ H w r e w'∧Steps P (lone (Frame.enter P f ⟨vs⟩ .normal) cs w) (lone fr' cs w')∧fr'.fn=f∧fr'.leaving P w' e:=by
   intro hne cs
   cases res with
   |fail=>exact absurd hr.symm hne
   |ok o tm' H' x'=>
    have hst:St P σ ({(default:Frame) with fn:=f,kind:=.normal}:Frame) (λ_=>cs) fn.ntmps w.heap.size (Sp args) H ⟨[],none⟩ {tmps:=(⟨vs⟩:Array Value)++Array.replicate (fn.ntmps - (⟨vs⟩:Array Value).size) undef,defers:=[]} w:=
     ⟨hs,yv hv fn.ntmps,.nil,Ir σ cs,Zz _⟩
    obtain⟨σ1,a1,w1,t1,s1,_,arr⟩:=v5 c _ (λ_=>cs) w.heap.size σ _ H ⟨[],none⟩ _ w [] o tm' H' x' hc hst he
    rw[<-yR hf hb] at arr
    have go: ∀(pn:Option AV) (fr:Frame),Steps P (lone (Frame.enter P f ⟨vs⟩ .normal) cs w) (lone fr cs w1)->fr.defers=a1.defers->fr.fn=f->fr.kind=.normal->fr.tmps=a1.tmps->FS σ1 pn fr.mode->
      deferred dcall (fn.results.toList.map (Jc P)) tm' x'.df pn H'=r-> ∃e w' fr',ZaH P σ H w r e w'∧Steps P (lone (Frame.enter P f ⟨vs⟩ .normal) cs w) (lone fr' cs w')∧fr'.fn=f∧fr'.leaving P w' e:=by
     intro pn fr hsteps h1 h2 h3 h4 h5 h6
     obtain⟨e,w',fr',g1,g2,g3,g4⟩:=yk hD hf hres a1.defers σ1 H' w1 x'.df pn fr cs r h1 h2 h3 h4 t1 s1.tm s1.df h5 h6 hne
     exact⟨e,w',fr',g1,hsteps.trans g2,g3,g4⟩
    have hdf: ∀pn:Option AV,(match x'.df with|[]=>(match pn with|none=>AI.results (fn.results.toList.map (Jc P)) tm' H'|some v=>.pan v H')|df=>deferred dcall (fn.results.toList.map (Jc P)) tm' df pn H')=deferred dcall (fn.results.toList.map (Jc P)) tm' x'.df pn H':=by
     intro pn
     cases x'.df with
     |nil=>cases pn<;>rfl
     |cons d l=>rfl
    cases o with
    |normal=>
     exact go none _ (Steps.trans arr (.one (stepR_end rfl))) rfl rfl rfl rfl rfl ((hdf none).symm.trans hr)
    |ret=>
     obtain⟨todo,hs'⟩:=arr rfl
     exact go none _ hs' rfl rfl rfl rfl rfl ((hdf none).symm.trans hr)
    |pan v=>
     obtain⟨todo,u,hu,hs'⟩:=arr
     exact go (some v) _ hs' rfl rfl rfl rfl ⟨u,hu,rfl⟩ ((hdf (some v)).symm.trans hr)
    |exit i=>exact absurd hr.symm hne
  cases r with
  |fail=>exact trivial
  |ret v H'=>
   intro cs
   obtain⟨e,w',fr',⟨u,σ',rfl,h1,h2⟩,g2,g3,g4⟩:=key (by simp) cs
   exact⟨.returned u,w',fr',⟨σ',h1,h2⟩,g2,g3,g4⟩
  |pan v H'=>
   intro cs
   obtain⟨e,w',fr',⟨u,σ',rfl,h1,h2⟩,g2,g3,g4⟩:=key (by simp) cs
   exact⟨.panicked [{v:=u,recovered:=false}],w',fr',⟨u,rfl,σ',h1,h2⟩,g2,g3,g4⟩
theorem xE{σ0:Mp}{H0:Heap}{w0:World}: ∀(ds:List Deferred) (σ:Mp) (H:Heap) (w:World) (fr:Frame) (cs:List Frame),fr.defers=ds->fr.mode≠.run->Tr P σ0 H0 w0 σ H w->Uh σ w w0.heap.size [] ds->
  ∃w',Steps P (lone fr cs w) (lone {fr with defers:=[]} cs w')∧Tr P σ0 H0 w0 σ H w':=by
 intro ds
 induction ds with
 |nil=>
  intro σ H w fr cs hds hm t hd
  refine⟨w,?_,t⟩
  have:({fr with defers:=[]}:Frame)=fr:=by rw[<-hds]
  rw[this]
  exact Steps.refl P _
 |cons d ds ih=>
  intro σ H w fr cs hds hm t hd
  cases hd with
  |mark h1 h2 h3 h4=>
   have hst:=step_collected (P:=P) (cs:=cs) hm hds rfl (run_takeDeferred h2)
   obtain⟨w',g1,g2⟩:=ih σ H (w.putObj _ (.deferred none)) {fr with defers:=[]++ds} cs rfl hm (t.take none h2 h1) (h4.take h3)
   exact⟨w',.head hst g1,g2⟩
def gO(P:Program)(fs:T CF):Prop:= ∀f cf,fs.get f=some cf->ZaI P f cf
def Ou(P:Program)(lib:Nat->List AV->Heap->Option CR):Prop:=
 ∀f args H r,lib f args H=some r-> ∀σ w vs,WL P σ H w->Xj σ args vs->N0 P σ H w r ((callFunc f ⟨vs⟩).run P w)
noncomputable def mO(fs:T CF)(fuel:Nat)(ih:Nat->List AV->Heap->CR):Option AV->Nat->List AV->Heap->DR:=
 λpn g as H=>HM .fail fs g λcg=>HN pn cg.rs (cg.body ⟨ih,UH,UZ,fuel,false⟩ (Sp as) H ⟨[],pn⟩)
theorem xV{α:Type}{d:α}{fs:T CF}{f:Nat}{k:CF->α}{r:α}(h:HM d fs f k=r)(hr:r≠d): ∃cf,fs.get f=some cf∧k cf=r:=by
 unfold HM at h
 split at h
 ·rename_i cf hcf;exact⟨cf,hcf,h⟩
 ·exact absurd h.symm hr
theorem C6{call:Nat->List AV->Heap->CR}(hcall:Sa P call){rng:AV->(List AV->Heap->CR)->TM->Heap->X->WQ}(eV:yo P rng)(fuel:Nat){b:Frame}(hb:b.roundOf=none)(σ:Mp)(H:Heap)(w:World):Oq P ⟨call,UH,rng,fuel,false⟩ b σ H w:=
 ⟨hcall,D9 σ H w,λ_=>hb,eV,λh=>absurd hb h⟩
theorem ZdK{fs:T CF}(hfs:gO P fs)(fuel:Nat){ih:Nat->List AV->Heap->CR}(hcall:Sa P ih):DOk P (mO fs fuel ih):=by
 intro pn g args H v H' rec he σ w vs c cs hs hv hm
 obtain⟨cf,hcf,he⟩:=xV he (by simp)
 obtain⟨fn,code,ds,hf,hname,hb,hrs,hbody⟩:=hfs g cf hcf
 rcases hbody with hbad|⟨hres,v5⟩
 ·rw[hbad] at he;cases he
 rw[hrs] at he
 generalize hbd:cf.body ⟨ih,UH,UZ,fuel,false⟩ (Sp args) H ⟨[],pn⟩=res at he
 obtain⟨K,hK1,hK2,hKr⟩: ∃K:Bool->List Frame,K pn.isSome=c::cs∧
   (∀x':X,∃c',K x'.rc.isSome=c'::cs∧({c' with mode:=settle c'.mode}:Frame)={c with mode:=if NT pn x' then .returning else c.mode})∧Jt σ .deferred K pn:=by
  cases pn with
  |none=>
   have hm:c.mode=.returning:=hm
   refine⟨λ_=>c::cs,rfl,λx'=>⟨c,rfl,?_⟩,⟨λfr hfr=>?_,λv h=>by cases h⟩⟩
   ·show({c with mode:=settle c.mode}:Frame)={c with mode:=c.mode}
    rw[show settle c.mode=c.mode by rw[hm];rfl]
   ·rw[tryRecover_deferred hfr];simp[recoverD,hm]
  |some y=>
   obtain⟨x,hx,hm⟩:=hm
   refine⟨λun=>(if un then c else{c with mode:=.panicking [{v:=x,recovered:=true}]})::cs,rfl,λx'=>?_,⟨λfr hfr=>?_,λv h=>?_⟩⟩
   ·cases hrc:x'.rc with
    |none=>
     refine⟨_,rfl,?_⟩
     have:NT (some y) x'=true:=by unfold NT;rw[hrc]
     rw[this]
     rfl
    |some z=>
     refine⟨_,rfl,?_⟩
     have:NT (some y) x'=false:=by unfold NT;rw[hrc]
     rw[this]
     show({c with mode:=settle c.mode}:Frame)={c with mode:=c.mode}
     rw[show settle c.mode=c.mode by rw[hm];rfl]
   ·rw[tryRecover_deferred hfr];simp[recoverD]
   ·cases h
    refine⟨x,hx,λfr hfr=>?_⟩
    rw[tryRecover_deferred hfr]
    simp[recoverD,hm]
 have hst:St P σ ({(default:Frame) with fn:=g,kind:=.deferred}:Frame) K fn.ntmps w.heap.size (Sp args) H ⟨[],pn⟩ {tmps:=(⟨vs⟩:Array Value)++Array.replicate (fn.ntmps - (⟨vs⟩:Array Value).size) undef,defers:=[]} w:=
  ⟨hs,yv hv fn.ntmps,.nil,hKr,Zz _⟩
 refine⟨Rl hf hname hb,?_,?_⟩
 ·intro hrec
  cases pn with
  |some _=>rfl
  |none=>
   exfalso
   subst hrec
   cases res with
   |fail=>cases he
   |ok o tm' H1 x'=>
    have h0:NT none x'=false:=rfl
    cases o with
    |normal=>
     simp only[HN] at he
     split at he
     ·cases he
     ·cases he
    |ret=>
     simp only[HN] at he
     split at he
     ·cases he
     ·cases he
    |pan v=>simp only[HN] at he;split at he<;>cases he
    |exit i=>cases he
 ·cases res with
  |fail=>cases he
  |ok o tm' H1 x'=>
   obtain⟨σ1,a1,w1,t1,s1,_,arr⟩:=v5 ⟨ih,UH,UZ,fuel,false⟩ _ K w.heap.size σ _ H ⟨[],pn⟩ _ w [] o tm' H1 x' (C6 hcall (Iu P) fuel rfl σ H w) hst hbd
   rw[<-yR hf hb] at arr
   rw[hK1] at arr
   obtain⟨c',hc',hset⟩:=hK2 x'
   have go: ∀fr:Frame,Steps P (lone (Frame.enter P g ⟨vs⟩ .deferred) (c::cs) w) (lone fr (c'::cs) w1)->fr.defers=a1.defers->fr.fn=g->fr.kind=.deferred->fr.tmps=a1.tmps->fr.mode=.returning->
     (match x'.df,AI.results (fn.results.toList.map (Jc P)) tm' H1 with|[],.ret v H=>DR.ret v H (NT pn x')|_,_=>.fail)=.ret v H' rec->
     ∃σ' w',Tr P σ H w σ' H' w'∧Steps P (lone (Frame.enter P g ⟨vs⟩ .deferred) (c::cs) w) (lone {c with mode:=if rec then .returning else c.mode} cs w'):=by
    intro fr hsteps h1 h2 h3 h4 h5 h6
    split at h6
    ·rename_i v' H2 hdf hrr
     cases h6
     obtain⟨v2,u,e2,h7,h8⟩:=Jd s1.sim s1.tm hres hrr (by simp)
     cases e2
     have hd:=s1.df
     rw[hdf] at hd
     obtain⟨w2,g1,g2⟩:=xE a1.defers σ1 _ w1 fr (c'::cs) h1 (by rw[h5];intro e;cases e) t1 hd
     obtain⟨v3,u3,e3,_,h9⟩:=Jd g2.sim s1.tm hres hrr (by simp)
     have hgo:({fr with defers:=[]}:Frame).going P w2 (.returned u3):=⟨h5,rfl,fn,by rw[show({fr with defers:=[]}:Frame).fn=g from h2];exact hf,by rw[show({fr with defers:=[]}:Frame).tmps=a1.tmps from h4];exact h9⟩
     have eY:=step_going_returned (P:=P) (c:=c') (cs:=cs) (fr:={fr with defers:=[]}) h3 hgo
     rw[hset] at eY
     exact⟨σ1,w2,g2,hsteps.trans (g1.trans (.one eY))⟩
    ·cases h6
   cases o with
   |normal=>
    have arr:Steps P _ _:=arr
    rw[hc'] at arr
    exact go _ (arr.trans (.one (stepR_end rfl))) rfl rfl rfl rfl rfl he
   |ret=>
    obtain⟨todo,hs'⟩:=arr rfl
    rw[hc'] at hs'
    exact go _ hs' rfl rfl rfl rfl rfl he
   |pan v=>simp only[HN] at he;split at he<;>cases he
   |exit i=>cases he
theorem yJ{lib:Nat->List AV->Heap->Option CR}{fs:T CF}(eO:Ou P lib)(hfs:gO P fs)(fuel:Nat)(eV: ∀call,Sa P call->yo P (HU fs fuel call)): ∀n,Sa P (Z7 lib fs fuel n)
 |0=>λ_ _ _ _ _ _ _ _=>trivial
 |n+1=>by
  have ih:=yJ eO hfs fuel eV n
  intro f args H σ w vs hs hv
  show N0 P σ H w (rl (lib f args H) (HM .fail fs f λcf=>MM (mO fs fuel (Z7 lib fs fuel n)) cf.rs (cf.body ⟨Z7 lib fs fuel n,UH,HU fs fuel (Z7 lib fs fuel n),fuel,false⟩ (Sp args) H ⟨[],none⟩))) _
  cases hl:lib f args H with
  |some r=>exact eO f args H r hl σ w vs hs hv
  |none=>
   show N0 P σ H w (HM .fail fs f _) _
   unfold HM
   cases hg:fs.get f with
   |none=>exact trivial
   |some cf=>
    have hfn:=hfs f cf hg
    have hrun:(callFunc f ⟨vs⟩).run P w=.ok (.enter f ⟨vs⟩) w:=by
     obtain⟨fn,code,ds,hf,hname,hb,_⟩:=hfn
     exact Rl hf hname hb
    rw[hrun]
    exact Bj (ZdK hfs fuel ih) hfn hs hv (C6 ih (eV _ ih) fuel rfl σ H w)
theorem WL.loop{σ:Mp}{H:Heap}{w:World}(hs:WL P σ H w){l:Nat}{r0:Loop}(hl:w.heap[l]? =some (.loop r0))(r1:Loop):WL P σ H (w.putObj l (.loop r1)):=by
 have hlt:l<w.heap.size:=(Ym.1 hl).1
 refine⟨hs.dom,hs.low,λb o L hb hL=>?_,hs.inj,hs.glob,hs.ro⟩
 obtain⟨c,hc,hr⟩:=hs.alive b o L hb hL
 by_cases e:L.blk=l
 ·rw[e,hl] at hc
  cases hc
  refine⟨.loop r1,by rw[e];exact World.putObj_heap_same hlt,?_⟩
  cases o with
  |row r=>obtain⟨_,_,h,_⟩:=hr;cases h
  |map es cl=>obtain⟨_,h,_⟩:=hr;cases h
  |siter s p=>obtain⟨h,_⟩:=hr;cases h
  |cmap es=>obtain⟨_,_,_,h,_⟩:=hr;cases h
  |miter m s q=>obtain⟨_,_,h,_⟩:=hr;cases h
  |loop=>exact⟨r1,rfl⟩
 ·exact⟨c,by rw[World.putObj_heap_other e];exact hc,hr⟩
theorem Tr.mask{σ σ':Mp}{H H':Heap}{w w':World}{l:Nat}{r0 r1:Loop}(hs:WL P σ H w)(hl:w.heap[l]? =some (.loop r0))(t:Tr P σ H (w.putObj l (.loop r1)) σ' H' w'):Tr P σ H w σ' H' (w'.putObj l (.loop r0)):=by
 have hlt:l<w.heap.size:=(Ym.1 hl).1
 have hl':w'.heap[l]? =some (.loop r1):=t.dark (hs.loop hl r1) (World.putObj_heap_same hlt) trivial
 have hz:w.heap.size<=w'.heap.size:=by have:=t.size;simpa using this
 refine⟨t.ext,t.sim.loop hl' r0,by simpa using hz,λk hk hn=>?_,λb L hw hL hlt'=>t.wr b L hw hL (by simpa using hlt'),t.nx,t.ro,t.low,t.tape,t.os,t.out,t.pend⟩
 by_cases e:k=l
 ·subst e
  rw[World.putObj_heap_same (by omega),hl]
 ·rw[World.putObj_heap_other e,t.frame k (by simpa using hk) hn,World.putObj_heap_other e]
theorem Tr.putLoop{σ0 σ:Mp}{H0 H:Heap}{w0 w:World}(t:Tr P σ0 H0 w0 σ H w){l:Nat}{r0:Loop}(r1:Loop)(hl:w.heap[l]? =some (.loop r0))(hlo:w0.heap.size<=l):Tr P σ0 H0 w0 σ H (w.putObj l (.loop r1)):=
 ⟨t.ext,t.sim.loop hl r1,by simpa using t.size,λk hk hn=>by rw[World.putObj_heap_other (by omega)];exact t.frame k hk hn,t.wr,t.nx,t.ro,t.low,t.tape,t.os,t.out,t.pend⟩
theorem Uh.putLoop{σ:Mp}{w:World}{lo l:Nat}{r0:Loop}(r1:Loop)(hl:w.heap[l]? =some (.loop r0)){ls:List (AV×List AV)}{ds:List Deferred}(h:Uh σ w lo ls ds):Uh σ (w.putObj l (.loop r1)) lo ls ds:=
 h.mono (Ext.refl σ) λr x hr=>by
  rw[World.putObj_heap_other λe=>by rw[e,hl] at hr;cases hr];exact hr
theorem Bi{σ:Mp}{N:Nat}: ∀(ps:List Nat) (ys:List AV) (vs:List Value) (tm:TM) (t:Array Value),Qo σ N tm t->Xj σ ys vs->ps.length=vs.length->(ps.all λp=>Dt N (some p))=true->
  Qo σ N (P1 tm (ps.map λp=>Ws (some p)) ys) ((ps.zip vs).foldl (λt (p,v)=>t.setIfInBounds p v) t)
 |[],ys,vs,tm,t,h,hr,hl,_=>by cases ys<;>simpa [P1] using h
 |p::ps,[],vs,tm,t,h,hr,hl,_=>by rw[hr.nil_inv] at hl;cases hl
 |p::ps,y::ys,vs,tm,t,h,hr,hl,hp=>by
  obtain⟨v,vs',h1,h2,rfl⟩:=hr.cons_inv
  simp only[List.all_cons,Xf] at hp
  have:=h.set (a:=y) (v:=v) (Yn hp.1) h1
  exact Bi ps ys vs' _ _ this h2 (by simpa using hl) hp.2
theorem B5{r:WQ}{c:CR}(h:Je r=c)(hc:c≠.fail): ∃tm H x,r=.ok .normal tm H x∧c=.ret (.bool true) H:=by
 unfold Je at h
 split at h
 ·exact⟨_,_,_,rfl,h.symm⟩
 ·exact absurd h.symm hc
theorem it{N:Nat}{da db:D}{asg body:Code}{ds1 ds2:List Nat}(ha:W6 P N da [.code asg] ds1)(hb:W6 P N db [.code body] ds2){ps:Array Tmp}(hps:(ps.toList.all λt=>Dt N (some t))=true)
  {call:Nat->List AV->Heap->CR}(hcall:Sa P call)(fuel:Nat){σ:Mp}{tm:TM}{t:Array Value}(ht:Qo σ N tm t){fn:FuncId}
  {σ1:Mp}{H1:Heap}{w1:World}{l df:Nat}{ys:List AV}{vs:List Value}(he:Ext σ σ1)(hs:WL P σ1 H1 w1)
  (hl:w1.heap[l]? =some (.loop {state:=.ready,pending:=none,fn:=fn,tmps:=t,params:=ps,assign:=asg,body:=body,defers:=df}))(hv:Xj σ1 ys vs):
  N0 P σ1 H1 w1 (cond (Nat.beq (Xa ys) (Xa (ps.toList.map λp=>Ws (some p)))) (Je (Zg da db ⟨call,UH,UZ,fuel,true⟩ (P1 tm (ps.toList.map λp=>Ws (some p)) ys) H1 ⟨[],none⟩)) .fail) ((Instr.yield l ⟨vs⟩).run P w1):=by
 cases hlen:Nat.beq (Xa ys) (Xa (ps.toList.map λp=>Ws (some p))) with
 |false=>exact trivial
 |true=>
  show N0 P σ1 H1 w1 (Je _) _
  generalize hr:Je (Zg da db ⟨call,UH,UZ,fuel,true⟩ (P1 tm (ps.toList.map λp=>Ws (some p)) ys) H1 ⟨[],none⟩)=c
  cases c with
  |fail=>exact trivial
  |pan v H=>obtain⟨_,_,_,_,h⟩:=B5 hr (by simp);cases h
  |ret v H=>
   obtain⟨tm',H',x',hrun,hc⟩:=B5 hr (by simp)
   cases hc
   have hlen:=Ye hlen
   rw[Y6,Y6,ZW,hv.length] at hlen
   have hsz:(⟨vs⟩:Array Value).size=ps.size:=by simpa using hlen
   rw[run_yield hl hsz]
   intro fr cs
   let b:Frame:={(default:Frame) with fn:=fn,kind:=.normal,roundOf:=some l}
   let t1:Array Value:=(ps.zip ⟨vs⟩).foldl (λtmps (t,a)=>tmps.setIfInBounds t a) t
   have hb0:Frame.round l fn t1 asg body .normal=b.atR {tmps:=t1,defers:=[]} ([.code asg]++[.beginRound,.code body]):=by simp[Frame.round,Frame.atR,b]
   have htl:t1=(ps.toList.zip vs).foldl (λt (p,v)=>t.setIfInBounds p v) t:=by
    show(ps.zip ⟨vs⟩).foldl _ t=_
    rw[<-Array.foldl_toList,Array.toList_zip]
   have ht1:Qo σ1 N (P1 tm (ps.toList.map λp=>Ws (some p)) ys) t1:=by
    rw[htl]
    exact Bi ps.toList ys vs tm t (ht.mono he) hv (by simpa using hlen.symm) hps
   have ctx: ∀(σ:Mp) (H:Heap) (w:World),Oq P ⟨call,UH,UZ,fuel,true⟩ b σ H w:=λσ H w=>⟨hcall,D9 σ H w,(λh=>by cases h),Iu P,λ_=>rfl⟩
   have hst:St P σ1 b (λ_=>fr::cs) N w1.heap.size (P1 tm (ps.toList.map λp=>Ws (some p)) ys) H1 ⟨[],none⟩ {tmps:=t1,defers:=[]} w1:=
    ⟨hs,ht1,.nil,Ir σ1 _,Zz _⟩
   obtain⟨o1,Ny,H2,x1,h1,h2⟩:=DY hrun
   rcases h2 with⟨rfl,h2⟩|⟨hne,h3,_⟩
   ·obtain⟨σ2,a2,w2,tr1,s1,_,Py⟩:=ha _ b (λ_=>fr::cs) w1.heap.size σ1 _ H1 ⟨[],none⟩ _ w1 [.beginRound,.code body] .normal Ny H2 x1 (ctx _ _ _) hst h1
    have hl2:=tr1.dark hs hl trivial
    have hbr:=run_beginRound (P:=P) hl2 rfl
    have s2:St P σ2 b (λ_=>fr::cs) N w1.heap.size Ny H2 x1 a2 (w2.putObj l (.loop {state:=.busy,pending:=none,fn:=fn,tmps:=t,params:=ps,assign:=asg,body:=body,defers:=df})):=
     ⟨s1.sim.loop hl2 _,s1.tm,s1.df.putLoop _ hl2,s1.rc,by simpa using s1.lo⟩
    obtain⟨σ3,a3,w3,tr2,s3,_,KK⟩:=hb _ b (λ_=>fr::cs) w1.heap.size σ2 Ny H2 x1 a2 _ [] .normal tm' H x' (ctx _ _ _) s2 h2
    have hl3:w3.heap[l]? =some (.loop {state:=.busy,pending:=none,fn:=fn,tmps:=t,params:=ps,assign:=asg,body:=body,defers:=df}):=
     tr2.dark s2.sim (World.putObj_heap_same (Ym.1 hl2).1) trivial
    have hend:=run_endRound (P:=P) none hl3
    have tr:=tr1.trans (Tr.mask s1.sim hl2 tr2)
    refine⟨.bool true,_,⟨σ3,by simp[YU],tr⟩,?_⟩
    rw[hb0]
    have Py:Steps P _ _:=Py
    have KK:Steps P _ _:=KK
    exact Py.trans (.head (stepR_beginRound rfl hbr) (KK.trans (.one (stepR_round_end rfl rfl hend))))
   ·exact absurd h3 hne
theorem wF{N:Nat}{da db:D}{asg body:Code}{ds1 ds2:List Nat}(ha:W6 P N da [.code asg] ds1)(hb:W6 P N db [.code body] ds2){g:Operand}{ps:Array Tmp}(hps:(ps.toList.all λt=>Dt N (some t))=true):
  W6 P N (j7 (Xo P g) (ps.toList.map λt=>Ws (some t)) (Zg da db)) [.code (.rangeFunc g ps asg body)] []:=by
 intro c b K lo σ tm H x a w k o tm' H' x' hc hs he
 have he:c.rng (Xo P g tm) (λys H=>cond (Nat.beq (Xa ys) (Xa (ps.toList.map λt=>Ws (some t)))) (Je (Zg da db ⟨c.call,UH,UZ,c.fuel,true⟩ (P1 tm (ps.toList.map λt=>Ws (some t)) ys) H ⟨[],none⟩)) .fail) tm H x=.ok o tm' H' x':=he
 by_cases hb0:b.roundOf=none
 ·obtain⟨σ',a',w',h1,h2,h3,h4⟩:=hc.rng _ _ tm H x o tm' H' x' he σ w b K N lo a k g ps asg body hs hb0 (LC hs.sim hs.tm g) (λσ1 H1 w1 l df ys vs h1 h2 h3 h4=>it ha hb hps hc.call c.fuel hs.tm h1 h2 h3 h4)
  exact⟨σ',a',w',h1,h2,λn _=>by rw[h3],h4⟩
 ·rw[hc.rngN hb0] at he
  cases he
theorem Uh.lt{σ:Mp}{w:World}{lo:Nat}{l:List (AV×List AV)}{ds:List Deferred}(h:Uh σ w lo l ds): ∀d∈ds,∀r,d.target=.collected r->r<w.heap.size:=by
 induction h with
 |nil=>intro d hd;cases hd
 |call _ _ _ _ ih=>
  intro d hd r hr
  rcases Ys.1 hd with rfl|hd
  ·cases hr
  ·exact ih d hd r hr
 |mark _ h2 _ _ ih=>
  intro d hd r hr
  rcases Ys.1 hd with rfl|hd
  ·cases hr;exact(Ym.1 h2).1
  ·exact ih d hd r hr
theorem Tr.block{σ:Mp}{H:Heap}{w:World}(hs:WL P σ H w)(c:Go.Obj):Tr P σ H w σ H (w.alloc c):=by
 have hf: ∀k,k<w.heap.size->(w.alloc c).heap[k]? =w.heap[k]? :=λk hk=>Sx hk
 exact⟨Ext.refl σ,hs.grow hf,by simp,λk hk _=>hf k hk,λb l hw hl _=>⟨b,l,hw,hl,rfl⟩,Zz _,rfl,λ_ _=>rfl,rfl,rfl,rfl,λ_ _ h=>⟨rfl,h⟩⟩
theorem mw{r:CR}{tm:TM}{x:X}{o:Out}{tm':TM}{H':Heap}{x':X}(h:bX r tm x=.ok o tm' H' x'):tm'=tm∧x'=x∧((∃v,r=.ret v H'∧o=.normal)∨ ∃v,r=.pan v H'∧o=.pan v):=by
 cases r with
 |fail=>cases h
 |ret v H=>cases h;exact⟨rfl,rfl,.inl ⟨v,rfl,rfl⟩⟩
 |pan v H=>cases h;exact⟨rfl,rfl,.inr ⟨v,rfl,rfl⟩⟩
theorem wj{fs:T CF}(hfs:gO P fs)(fuel:Nat){call:Nat->List AV->Heap->CR}(hcall:Sa P call):yo P (HU fs fuel call):=by
 intro f round tm H x o tm' H' x' he σ w b K N lo a k g ps asg body hs hb hf ZbS
 cases f with
 |func fg p q=>
  simp only[HU] at he
  obtain⟨cf,hcf,he⟩:=xV he (by simp)
  obtain⟨rfl,rfl,hout⟩:=mw he
  simp only[YU] at hf
  obtain⟨xs,zs,hxs,hzs,hfv⟩:=hf
  let lp:Loop:={state:=.ready,pending:=none,fn:=b.fn,tmps:=a.tmps,params:=ps,assign:=asg,body:=body,defers:=w.heap.size}
  let wd:World:=w.alloc (.deferred (some []))
  let w2:World:=wd.alloc (.loop lp)
  let l:Nat:=w.heap.size+1
  have hwd:wd.heap.size=l:=by simp[wd,l]
  let L:Loc:=⟨l,0,0,0⟩
  have t1:Tr P σ H w σ H wd:=Tr.block hs.sim _
  have t2:Tr P σ H wd (σ.put H.nx L) (H.new .loop) w2:=Tr.alloc t1.sim .loop (.loop lp) L (by simp[L,hwd]) ⟨lp,rfl⟩
  have tt:=t1.trans t2
  have hl2:w2.heap[l]? =some (.loop lp):=by rw[<-hwd];exact Sw wd _
  have hr2:w2.heap[w.heap.size]? =some (.deferred (some [])):=by
   have:wd.heap[w.heap.size]? =some (.deferred (some [])):=Sw w _
   rw[Sx (by rw[hwd];exact YP _)];exact this
  have aL:(σ.put H.nx L) H.nx=some L:=Mp.put_same _ _ _
  have hvs:Xj (σ.put H.nx L) (p++(.yield H.nx::q)) (xs++(.func (.yield l) #[] #[]::zs)):=
   (Xj.mono tt.ext hxs).append (WB (by simp only[YU];exact⟨L,aL,rfl⟩) (Xj.mono tt.ext hzs))
  have hfn:=hfs fg cf hcf
  have ctx:Oq P ⟨call,λbk ys H'=>cond (Nat.beq bk H.nx) (round ys H') .fail,UZ,fuel,false⟩ ({(default:Frame) with fn:=fg,kind:=.normal}:Frame) (σ.put H.nx L) (H.new .loop) w2:=by
   refine⟨hcall,λbk args Hy σy wy ly vsy ty hbk hvy=>?_,λ_=>rfl,Iu P,λh=>absurd rfl h⟩
   show N0 P σy Hy wy (cond (Nat.beq bk H.nx) (round args Hy) .fail) _
   cases e:Nat.beq bk H.nx with
   |false=>exact trivial
   |true=>
    have e:=Ye e
    subst e
    have h1:=ty.ext _ _ aL
    rw[h1] at hbk
    cases hbk
    exact ZbS σy Hy wy l w.heap.size args vsy (tt.ext.trans ty.ext) ty.sim (ty.dark t2.sim hl2 trivial) hvy
  have hcr:=Bj (dcall:=λ_ _ _ _=>.fail) (λ_ _ _ _ _ _ _ h=>by cases h) hfn tt.sim hvs ctx
  have henter:=run_enterLoop_outer (P:=P) (w:=w) b.fn a.tmps ps asg body
  have hres:(resolve a.eval (rangeCall g l) 0).run P w2=.ok {target:=.fn (.func fg) ⟨zs⟩,args:=⟨xs++[.func (.yield l) #[] #[]]⟩} w2:=by
   simp only[resolve,hfv,Deferred.ofValue,Sem.run_pure]
   congr 3
   apply Array.ext'
   simp[Act.eval]
  have ZhY:(callFunc fg ⟨xs++(.func (.yield l) #[] #[]::zs)⟩).run P w2=.ok (.enter fg ⟨xs++(.func (.yield l) #[] #[]::zs)⟩) w2:=by
   obtain⟨fn,code,ds,h1,h2,h3,_⟩:=hfn
   exact Rl h1 h2 h3
  have hinv:(invoke (.fn (.func fg) ⟨zs⟩) ⟨xs++[.func (.yield l) #[] #[]]⟩).run P w2=.ok (.enter fg ⟨xs++(.func (.yield l) #[] #[]::zs)⟩) w2:=by
   have:(⟨xs++[.func (.yield l) #[] #[]]⟩:Array Value)++(⟨zs⟩:Array Value)=⟨xs++(.func (.yield l) #[] #[]::zs)⟩:=by simp
   simp only[invoke,this]
   exact ZhY
  have hstep:=stepR_rangeFunc (P:=P) (b:=b) (a:=a) (k:=k) (cs:=K x'.rc.isSome) (w:=w) (g:=g) (ps:=ps) (assign:=asg) (body:=body) (by rw[hb];exact henter) hres hinv
  have hdf: ∀(σ3:Mp) (H3:Heap) (w3:World),Tr P (σ.put H.nx L) (H.new .loop) w2 σ3 H3 w3->Uh σ3 w3 lo x'.df ({target:=.collected w.heap.size,args:= #[]}::a.defers):=by
   intro σ3 H3 w3 t3
   refine .mark hs.lo (t3.dark t2.sim hr2 trivial) (λd hd r' hr'=>?_) ((hs.df.tr hs.sim tt).tr t2.sim t3)
   have:=hs.df.lt d hd r' hr'
   omega
  rcases hout with⟨v,hr,rfl⟩|⟨v,hr,rfl⟩
  ·rw[hr] at hcr
   obtain⟨e,w3,fr3,hR,hsteps,Zh6,hleave⟩:=hcr (b.atR {a with defers:={target:=.collected w.heap.size,args:= #[]}::a.defers} (.inRangeFunc l::k)::K x'.rc.isSome)
   cases e with
   |outgrown=>exact hR.elim
   |panicked chain=>obtain⟨_,_,h⟩:=hR;exact h.elim
   |returned u=>
    obtain⟨σ3,_,t3⟩:=hR
    have hl3:=t3.dark t2.sim hl2 trivial
    have hend:=run_endLoop (P:=P) hl3 (by simp[lp])
    have t4:=Tr.putLoop (tt.trans t3) {lp with state:=.exhausted} hl3 (Vr _)
    have hback:=step_leave_returned (c:=b.atR {a with defers:={target:=.collected w.heap.size,args:= #[]}::a.defers} (.inRangeFunc l::k)) (cs:=K x'.rc.isSome) hleave
    rw[finish_atR_inRangeFunc] at hback
    refine⟨σ3,{a with defers:={target:=.collected w.heap.size,args:= #[]}::a.defers},_,t4,⟨t4.sim,hs.tm.mono t4.ext,(hdf σ3 H' w3 t3).putLoop _ hl3,hs.rc.mono t4.ext,by have:=t4.size;exact YR hs.lo this⟩,rfl,?_⟩
    exact .head hstep (hsteps.trans (.head hback (.one (stepR_endRangeFunc hend))))
  ·rw[hr] at hcr
   obtain⟨e,w3,fr3,hR,hsteps,Zh6,hleave⟩:=hcr (b.atR {a with defers:={target:=.collected w.heap.size,args:= #[]}::a.defers} (.inRangeFunc l::k)::K x'.rc.isSome)
   cases e with
   |outgrown=>exact hR.elim
   |returned u=>exact hR.elim
   |panicked chain=>
    obtain⟨u,rfl,σ3,hu,t3⟩:=hR
    have t4:=tt.trans t3
    have hback:=step_leave_panicked (c:=b.atR {a with defers:={target:=.collected w.heap.size,args:= #[]}::a.defers} (.inRangeFunc l::k)) (cs:=K x'.rc.isSome) hleave
    refine⟨σ3,{a with defers:={target:=.collected w.heap.size,args:= #[]}::a.defers},w3,t4,⟨t4.sim,hs.tm.mono t4.ext,hdf σ3 H' w3 t3,hs.rc.mono t4.ext,YR hs.lo t4.size⟩,rfl,.inRangeFunc l::k,u,hu,?_⟩
    rw[<-Frame.raise_atR]
    exact .head hstep (hsteps.trans (.one hback))
 |_=>cases he
end
section
variable {P:Program} {N:Nat}
def On:Code->List Item
 |.seq a b=>On a++[.code b]
 |.region _ ops _=>[.inRegion ops (List.range' 1 (ops.size - 1))]
 |_=>[]
theorem G0: ∀(c:Code) {q:Operand} {t:Option Nat},Pt c=some (q,t)->
  ∃ops tl o,On c=.inRegion ops (List.range' 1 (ops.size - 1))::tl∧ops[0]? =some o∧o.op=.next q false∧o.guard=none∧o.dst=t∧
   ∀(b:Frame) (a:Act) (k:List Item) (cs:List Frame) (w:World),Steps P (lone (b.atR a (.code c::k)) cs w) (lone (b.atR a (.inRegion ops (0::List.range' 1 (ops.size - 1))::(tl++k))) cs w)
 |.seq x y,q,t,h=>by
  obtain⟨ops,tl,o,h1,h2,h3,h4,h5,h6⟩:=G0 x (q:=q) (t:=t) h
  refine⟨ops,tl++[.code y],o,by show On x++[.code y]=_;rw[h1];rfl,h2,h3,h4,h5,λb a k cs w=>.head stepR_seq ?_⟩
  have:=h6 b a (.code y::k) cs w
  simpa using this
 |.region id ops d,q,t,h=>by
  cases d with
  |true=>cases h
  |false=>
   unfold Pt at h
   cases hl:ops.toList with
   |nil=>rw[hl] at h;cases h
   |cons o l=>
    rw[hl] at h
    simp only at h
    split at h
    ·rename_i x hop hg
     cases h
     have h0:ops[0]? =some o:=by rw[<-YE,hl];rfl
     refine⟨ops,[],o,rfl,h0,hop,hg,rfl,λb a k cs w=>.one ?_⟩
     have hsz:0<ops.size:=(Ym.1 h0).1
     have hr:List.range ops.size=0::List.range' 1 (ops.size - 1):=by
      rw[Ru,show ops.size=(ops.size - 1)+1 by omega,TU]
      simp
     rw[<-hr]
     exact stepR_region
    ·cases h
 |.skip,_,_,h=>by cases h
 |.cond _ _ _,_,_,h=>by cases h
 |.block _ _,_,_,h=>by cases h
 |.loop _,_,_,h=>by cases h
 |.rangeFunc _ _ _ _,_,_,h=>by cases h
 |.exit _,_,_,h=>by cases h
 |.scope _,_,_,h=>by cases h
 |.label _,_,_,h=>by cases h
 |.goto _,_,_,h=>by cases h
 |.ret,_,_,h=>by cases h
 |.refuse _,_,_,h=>by cases h
theorem pS{r:WQ}{o:Out}{tm:TM}{H:Heap}{x:X}(h:Lt r=.ok o tm H x):r=.ok o tm H x∧o≠.normal:=by
 unfold Lt at h
 split at h
 ·cases h
 ·rename_i hne
  exact⟨h,λe=>by subst e;exact hne tm H x h⟩
theorem EC(n:Nat)(w:World): ∃i w',(choose (.mapNext n)).run P w=.ok i w'∧(n≠0->i<n)∧(w'=w∨w'=w.drew):=by
 rw[run_choose_drew]
 by_cases h:n<=1
 ·refine⟨0,w,by simp[Question.forced,h],λh0=>by omega,.inl rfl⟩
 ·refine⟨(Question.mapNext n).cut (w.tape w.drawn (.mapNext n)),w.drew,by simp[Question.forced,h],λh0=>?_,.inr rfl⟩
  show _ % n<n
  exact X7 _ (by omega)
theorem iA{lb m since:Nat}{seen:Array Nat}{es:Array MapEntry}{w:World}(h1:w.heap[lb]? =some (.mapIter (some m) since seen since))(h2:w.heap[m]? =some (.map es since))(hr: ∀e∈es,e.born<since)(ty:TypeId):
  ((es.filter λe=>!seen.contains e.born)= #[]∧ ∃w',(Instr.next (.pointer (some ⟨lb,0,none⟩)) false ty).run P w=.ok (.tuple #[.bool false]) w'∧(w'=w∨w'=w.drew))∨
  (∃e∈es,seen.contains e.born=false∧ ∃w0,(w0=w∨w0=w.drew)∧(Instr.next (.pointer (some ⟨lb,0,none⟩)) false ty).run P w=.ok (.tuple #[.bool true,e.key,e.val]) {w0 with heap:=w0.heap.setIfInBounds lb (.mapIter (some m) since (seen.push e.born) since)}):=by
 have g1:(getObj lb).run P w=.ok (.mapIter (some m) since seen since) w:=DI h1
 have g2:(getObj m).run P w=.ok (.map es since) w:=by simp[getObj,Sem.run,h2]
 have hun: ¬((!seen.isEmpty&&!es.isEmpty&&es.all (λe=>decide (e.born≥since)))=true):=by
  intro h
  simp only[Xf,Bool.not_eq_true'] at h
  obtain⟨⟨_,h3⟩,h4⟩:=h
  cases hes:es.toList with
  |nil=>simp[Array.isEmpty,<-Array.length_toList,hes] at h3
  |cons e l=>
   have he:e∈es:=by rw[<-Xm,hes];exact ZE ..
   have h5:=Array.all_eq_true_iff_forall_mem.1 h4 e he
   have:=hr e he
   simp at h5
   omega
 let left:=es.filter λe=>!seen.contains e.born
 have hold:left.filter (λe=>decide (e.born<since))=left:=by
  apply Array.filter_eq_self.2
  intro e he
  have:e∈es:=(Array.mem_filter.1 he).1
  simpa using hr e this
 have hnew:left.filter (λe=>decide (e.born≥since))= #[]:=by
  apply Array.filter_eq_empty_iff.2
  intro e he
  have:e∈es:=(Array.mem_filter.1 he).1
  have:=hr e this
  simp;omega
 have hrun:(Instr.next (.pointer (some ⟨lb,0,none⟩)) false ty).run P w=((do
   match((if left.isEmpty then #[none] else #[])++(left++ #[]).map some)[<-choose (.mapNext ((if left.isEmpty then(#[none]:Array (Option MapEntry)) else #[])++(left++ #[]).map some).size)]? with
   |some (some e)=>
    setObj lb (.mapIter (some m) since (seen.push e.born) since)
    pure (.tuple #[.bool true,e.key,e.val])
   |some none=>pure (.tuple #[.bool false])
   |none=>stuck "Next: no such candidate"):Sem Value).run P w:=by
  have hold':Array.filter (λe=>decide (e.born<since)) (Array.filter (λe=>!seen.contains e.born) es)=left:=hold
  have Zeo:Array.filter (λe=>decide (e.born≥since)) (Array.filter (λe=>!seen.contains e.born) es)= #[]:=hnew
  simp only[Instr.next,Sem.run_bind,g1,g2,Result.andThen_ok,if_neg hun,Sem.run_pure,hold',Zeo]
  rfl
 rw[hrun]
 by_cases hle:left= #[]
 ·left
  refine⟨hle,?_⟩
  obtain⟨i,w',hc,hi,hw⟩:=EC (P:=P) 1 w
  have hi0:i=0:=by have:=hi (by decide);omega
  subst hi0
  refine⟨w',?_,hw⟩
  rw[hle]
  have:((if (#[]:Array MapEntry).isEmpty then(#[none]:Array (Option MapEntry)) else #[])++((#[]:Array MapEntry)++ #[]).map some)= #[none]:=by simp
  simp only[this,Sem.run_bind]
  have hsz:(#[none]:Array (Option MapEntry)).size=1:=rfl
  rw[hsz,hc]
  rfl
 ·right
  have hne:left.isEmpty=false:=by simpa [Array.isEmpty_iff] using hle
  obtain⟨i,w',hc,hi,hw⟩:=EC (P:=P) left.size w
  have hs0:left.size≠0:=λh=>hle (Array.eq_empty_of_size_eq_zero h)
  have hilt:=hi hs0
  have hmem:left[i]∈left:=Array.getElem_mem hilt
  obtain⟨m1,m2⟩:=Array.mem_filter.1 hmem
  refine⟨left[i],m1,by simpa using m2,w',hw,?_⟩
  have:((if left.isEmpty then(#[none]:Array (Option MapEntry)) else #[])++(left++ #[]).map some)=left.map some:=by rw[hne];simp
  simp only[this,Sem.run_bind,Array.size_map]
  rw[hc]
  have hg:(left.map some)[i]? =some (some left[i]):=by simp[hilt]
  have hhp:w'.heap=w.heap:=by rcases hw with rfl|rfl<;>rfl
  simp only[Result.andThen_ok,hg,Sem.run_bind]
  simp[setObj,Sem.run,hhp,h1]
theorem Uh.any{σ σ':Mp}{w:World}{lo:Nat}{ds:List Deferred}(h:Uh σ w lo [] ds):Uh σ' w lo [] ds:=by
 generalize hl:([]:List (AV×List AV))=l at h
 induction h with
 |nil=>exact .nil
 |call _ _ _ _=>cases hl
 |mark h1 h2 h3 _ ih=>exact .mark h1 h2 h3 (ih hl)
theorem Jt.any{σ σ':Mp}{kd:CallKind}{K:Bool->List Frame}(h:Jt σ kd K none):Jt σ' kd K none:=⟨h.no,λv hv=>by cases hv⟩
theorem oK{x:X}{r s:WQ}(h:uW x r=s)(hs:s≠.fail):x=⟨[],none⟩∧r=s:=by
 obtain⟨df,rc⟩:=x
 cases df with
 |cons a l=>exact absurd h.symm hs
 |nil=>
  cases rc with
  |some v=>exact absurd h.symm hs
  |none=>exact⟨rfl,h⟩
theorem uL{r:WQ}{k:Bool}(h:F4 r k=true): ∃tm H,r=.ok .normal tm H ⟨[],none⟩∧k=true:=by
 unfold F4 at h
 split at h
 ·rename_i tm H y
  obtain⟨df,rc⟩:=y
  cases df with
  |cons a l=>cases h
  |nil=>
   cases rc with
   |some v=>cases h
   |none=>obtain⟨_,h2⟩:=Yo h;exact⟨tm,H,rfl,h2⟩
 ·cases h
theorem B6{body:TM->Heap->X->WQ}{b m since:Nat}{dst:Yh}{tm:TM}{H:Heap}: ∀{es:List Sy},DG body b m since dst tm H es=true-> ∀e∈es,
  ∃tm' H',body (dst tm (.tup [.bool true,e.key,e.val])) ⟨H.nx,H.t.set b (.miter (some m) since (some (e.born,since))),H.nx⟩ ⟨[],none⟩=.ok .normal tm' H' ⟨[],none⟩
 |[],_,e,he=>by cases he
 |a::es,h,e,he=>by
  have h:F4 _ (DG body b m since dst tm H es)=true:=h
  obtain⟨tm',H',h1,h2⟩:=uL h
  rcases Ys.1 he with rfl|he
  ·exact⟨tm',H',h1⟩
  ·exact B6 h2 e he
theorem Y3.mem{σ:Mp}: ∀{es:List Sy} {l:List MapEntry},Y3 σ es l-> ∀m∈l,∃a∈es,Nn σ a m
 |[],l,h,m,hm=>by simp only[Y3] at h;subst h;cases hm
 |a::es,l,h,m,hm=>by
  obtain⟨e,l',h1,h2,rfl⟩:=h.cons_inv
  rcases Ys.1 hm with rfl|hm
  ·exact⟨a,ZE ..,h1⟩
  ·obtain⟨a',h3,h4⟩:=Y3.mem h2 m hm
   exact⟨a',ZQ _ h3,h4⟩
theorem Y3.below{σ:Mp}{c:Nat}: ∀{es:List Sy} {l:List MapEntry},Y3 σ es l->(∀e∈es,e.born<c)-> ∀m∈l,m.born<c:=by
 intro es l h hb m hm
 obtain⟨a,h1,h2⟩:=h.mem m hm
 rw[<-h2.2.2];exact hb a h1
theorem Bc{α:Type}{p q:α->Bool}(h: ∀x,p x=true->q x=true): ∀l:List α,(l.filter p).length<=(l.filter q).length
 |[]=>Zz _
 |y::l=>by
  have ih:=Bc h l
  rw[U5,U5]
  cases hp:p y with
  |true=>rw[h y hp];simpa using ih
  |false=>
   cases q y with
   |true=>simp;omega
   |false=>simpa using ih
theorem Bd{α:Type}{p q:α->Bool}(h: ∀x,p x=true->q x=true){e:α}(he:q e=true)(hn:p e=false): ∀l:List α,e∈l->(l.filter p).length<(l.filter q).length
 |[],hm=>by cases hm
 |y::l,hm=>by
  rw[U5,U5]
  rcases Ys.1 hm with rfl|hm
  ·rw[he,hn]
   have:=Bc h l
   simp;omega
  ·have ih:=Bd h he hn l hm
   cases hp:p y with
   |true=>rw[h y hp];simpa using ih
   |false=>
    cases q y with
    |true=>simp;omega
    |false=>simpa using ih
def yj(es:List Sy)(seen:Array Nat):Nat:=(es.filter λe=>!seen.contains e.born).length
theorem nF{es:List Sy}{seen:Array Nat}{e:Sy}(he:e∈es)(hn:seen.contains e.born=false):yj es (seen.push e.born)<yj es seen:=by
 refine Bd (λx hx=>?_) (e:=e) (by rw[hn];rfl) ?_ es he
 ·cases h:seen.contains x.born with
  |false=>rfl
  |true=>
   have:(seen.push e.born).contains x.born=true:=by
    rw[Array.contains_iff_mem] at h ⊢
    exact Array.mem_push.2 (.inl h)
   rw[this] at hx;cases hx
 ·have:(seen.push e.born).contains e.born=true:=by rw[Array.contains_iff_mem];exact Array.mem_push.2 (.inr rfl)
  rw[this];rfl
theorem nB{σ:Mp}{tm:TM}{t t':Array Value}{ds:List Nat}(h:Qo σ N (Qx tm (ds.map λt=>Ws (some t))) t)(hz:N<=t'.size)(hold: ∀n,n∉ds->t'[n]? =t[n]?):Qo σ N (Qx tm (ds.map λt=>Ws (some t))) t':=by
 refine⟨hz,λn hn=>?_⟩
 have e:(ds.map λt=>Ws (some t))=(ds.map some).map Ws:=by rw[Sc];rfl
 have h1:=h.get n hn
 rw[e,N5 hn] at h1 ⊢
 by_cases hm:some n∈ds.map some
 ·rw[if_pos hm];simp[YU]
 ·rw[if_neg hm] at h1 ⊢
  have:n∉ds:=λh=>hm (Xq.2 ⟨n,h,rfl⟩)
  rw[Yr,hold n this,<-Yr]
  exact h1
theorem gw{σ:Mp}{tm:TM}{t:Array Value}{ds:List Nat}(h:Qo σ N tm t):Qo σ N (Qx tm (ds.map λt=>Ws (some t))) t:=by
 refine⟨h.size,λn hn=>?_⟩
 have e:(ds.map λt=>Ws (some t))=(ds.map some).map Ws:=by rw[Sc];rfl
 rw[e,N5 hn]
 split
 ·simp[YU]
 ·exact h.get n hn
theorem wE{body:Code}{q:Operand}{t:Option Nat}{a:D}{ds:List Nat}(hm:Pt body=some (q,t))(ht: ∀d,t=some d->d∈ds)(htN:Dt N t=true)(ha:W6 P N a (On body) ds):
  W6 P N (uA (Xo P q) (Ws t) (ds.map λt=>Ws (some t)) a) [.code (.loop body)] ds:=by
 intro c b K lo σ tm H x act w k o tm' H' x' hc hs he
 obtain⟨ops,tl,op,hri,hop,Zep,Zie,eS,henter⟩:=G0 body hm
 let NZ:=Qx tm (ds.map λt=>Ws (some t))
 have ZbU:Qo σ N NZ act.tmps:=gw hs.tm
 have hs0:St P σ b K N lo NZ H x act w:=hs.step (Tr.refl hs.sim) ZbU rfl
 have he:uB (a ⟨c.call,UH,UZ,c.fuel,true⟩) (a c) (Xo P q) (Ws t) NZ H x=.ok o tm' H' x':=he
 unfold uB at he
 have hq:=LC hs.sim ZbU q
 generalize hqv:Xo P q NZ=qv at he hq
 cases qv with
 |ptr ib io=>
  simp only[Ze0] at he
  cases h0:Nat.beq io 0 with
  |false=>rw[h0] at he;cases he
  |true=>
  rw[h0] at he
  have h0:=Ye h0
  subst h0
  cases hro:Nat.ble H.ro ib with
  |false=>rw[hro] at he;cases he
  |true=>
  rw[hro] at he
  have hro:H.ro<=ib:=Yn hro
  obtain⟨L,hL,hqe⟩:=Ut hq
  have hwant: ∀a':Act,Region.wanted op (yielded ops a'.tmps)=true:=λa'=>by unfold Region.wanted;rw[Zie]
  have hnd: ∀c,op.op≠.defer c:=λc h=>by rw[Zep] at h;cases h
  have km: ∀(a':Act) (w1:World) (v:Value) (w2:World),a'.eval q=.pointer (some ⟨L.blk,L.base+0,none⟩)->(Instr.next (.pointer (some ⟨L.blk,L.base+0,none⟩)) false op.type).run P w1=.ok v w2->(execOp a'.eval op).run P w1=.ok (.value v) w2:=by
   intro a' w1 v w2 h1 h2
   simp only[execOp,Zep,h1]
   exact Va h2
  have hhead: ∀(a':Act) (w1:World) (cs:List Frame),Steps P (lone (b.atR a' (.code body::.inLoop body::k)) cs w1) (lone (b.atR a' (.inRegion ops (0::List.range' 1 (ops.size - 1))::(tl++.inLoop body::k))) cs w1):=λa' w1 cs=>henter b a' (.inLoop body::k) cs w1
  have final: ∀(Hd:Heap) (w1 w2:World) (a':Act) (tt:Tr P σ H w σ Hd w2),St P σ b K N lo NZ Hd x a' w2->(∀n,n∉ds->a'.tmps[n]? =act.tmps[n]?)->a'.eval q=.pointer (some ⟨L.blk,L.base+0,none⟩)->
    (Instr.next (.pointer (some ⟨L.blk,L.base+0,none⟩)) false op.type).run P w1=.ok (.tuple #[.bool false]) w2->Lt (a c (Ws t NZ (.tup [.bool false])) Hd x)=.ok o tm' H' x'->
    ∃σ' a'' w',Tr P σ H w σ' H' w'∧St P σ' b K N lo tm' H' x' a'' w'∧(∀n,n∉ds->a''.tmps[n]? =act.tmps[n]?)∧
     FR P (lone (b.atR a' (.code body::.inLoop body::k)) (K x.rc.isSome) w1) b k (K x'.rc.isSome) σ' o a'' w':=by
   intro Hd w1 w2 a' tt hst hold hev hrun hfin
   obtain⟨hfin,hne⟩:=pS hfin
   have hstep:=Ql (b:=b) (k:=tl++.inLoop body::k) (cs:=K x.rc.isSome) (rest:=List.range' 1 (ops.size - 1)) hop (hwant a') hnd (.inl (km a' w1 _ w2 hev hrun))
   have hr:YU σ (.tup [.bool false]) (.tuple #[.bool false]):=by simp only[YU];exact⟨[.bool false],V2 (by simp[YU]),rfl⟩
   have s1:St P σ b K N lo (Ws t NZ (.tup [.bool false])) Hd x (a'.put op.dst (.tuple #[.bool false])) w2:=by
    refine hst.step (Tr.refl hst.sim) ?_ (S1 _ _ _)
    rw[eS]
    exact hst.tm.put htN hr
   obtain⟨σ',a'',w',t1,s2,u2,arr⟩:=ha c b K lo σ _ Hd x _ w2 (.inLoop body::k) o tm' H' x' (hc.tr tt) s1 hfin
   refine⟨σ',a'',w',tt.trans t1,s2,λn hn=>?_,.of_steps ((hhead a' w1 _).trans hstep) ?_⟩
   ·rw[u2 n hn,put_old a' op.dst _ λd hd e=>hn (by rw[e];exact ht d (by rw[<-eS];exact hd)),hold n hn]
   ·rw[hri] at arr
    exact FR.pass (y:=.inLoop body) rfl hne (by simpa using arr)
  have Zee:act.eval q=.pointer (some ⟨L.blk,L.base+0,none⟩):=hqe
  cases IX:H.t.get ib with
  |none=>rw[IX] at he;cases he
  |some ob=>
   rw[IX] at he
   cases ob with
   |miter mm since cur=>
    cases cur with
    |some z=>cases mm<;>cases he
    |none=>
     obtain⟨cobj,kf,hrel⟩:=hs.sim.alive ib _ L IX hL
     obtain⟨seen,st,hce,ZbN,hbase,Zh0⟩:=hrel
     obtain⟨Zeu,Zin⟩:=Zh0
     subst Zeu;subst Zin
     have hb0:L.base+0=0:=by rw[hbase]
     cases mm with
     |none=>
      have he:Lt (a c (Ws t NZ (.tup [.bool false])) H x)=.ok o tm' H' x':=he
      have hrun:(Instr.next (.pointer (some ⟨L.blk,L.base+0,none⟩)) false op.type).run P w=.ok (.tuple #[.bool false]) w:=by
       rw[hb0]
       have hg:=DI (P:=P) (m:=none) (a:=st) (s:= #[]) (c:=st) (kf.trans (by rw[hce];rfl))
       simp only[Instr.next,Sem.run_bind,hg,Result.andThen_ok,Sem.run_pure]
      obtain⟨σ',a'',w',g1,g2,g3,g4⟩:=final H w w act (Tr.refl hs.sim) hs0 (λ_ _=>rfl) Zee hrun he
      exact⟨σ',a'',w',g1,g2,g3,.of_steps (.one stepR_loop) g4⟩
     |some mb=>
      have he:ZeZ (H.t.get mb) st (λes=>uW x (cond (DG (a ⟨c.call,UH,UZ,c.fuel,true⟩) ib mb st (Ws t) NZ H es) (Lt (a c (Ws t NZ (.tup [.bool false])) ⟨H.nx,H.t.del ib,H.ro⟩ x)) .fail))=.ok o tm' H' x':=he
      cases hmo:H.t.get mb with
      |none=>rw[hmo] at he;cases he
      |some mo=>
       rw[hmo] at he
       cases mo with
       |map es clock=>
        have he:cond (Nat.beq clock st) _ .fail=WQ.ok o tm' H' x':=he
        cases hck:Nat.beq clock st with
        |false=>rw[hck] at he;cases he
        |true=>
        rw[hck] at he
        have hck:=Ye hck
        subst hck
        obtain⟨hx,he⟩:=oK he (by simp)
        subst hx
        cases hrd:DG (a ⟨c.call,UH,UZ,c.fuel,true⟩) ib mb clock (Ws t) NZ H es with
        |false=>rw[hrd] at he;cases he
        |true=>
        rw[hrd] at he
        have he:Lt (a c (Ws t NZ (.tup [.bool false])) ⟨H.nx,H.t.del ib,H.ro⟩ ⟨[],none⟩)=.ok o tm' H' x':=he
        have hrounds:=B6 hrd
        cases hLm:σ mb with
        |none=>have:=ZbN mb rfl;rw[hLm] at this;cases this
        |some Lm=>
        obtain⟨mobj,hmobj,ents,hme,Zed,hris⟩:=hs.sim.alive mb _ Lm hmo hLm
        have hmb:mb≠ib:=λe=>by rw[e,IX] at hmo;cases hmo
        have hce:cobj=.mapIter (some Lm.blk) clock #[] clock:=by rw[hce];simp[hLm]
        subst hce;subst hme
        have hbelow:=Zed.below hris.2
        have hbelow': ∀e∈ents,e.born<clock:=λe he'=>hbelow e (Xm.2 he')
        let Hd:Heap:=⟨H.nx,H.t.del ib,H.ro⟩
        have Zeb: ∀y ob,Hd.t.get y=some ob->y≠ib∧H.t.get y=some ob:=by
         intro y ob hy
         have hy:(H.t.del ib).get y=some ob:=hy
         rw[T.get_del] at hy
         by_cases e:ib=y
         ·rw[if_pos e] at hy;cases hy
         ·rw[if_neg e] at hy;exact⟨λz=>e z.symm,hy⟩
        have hother: ∀y ob ly,Hd.t.get y=some ob->σ y=some ly->ly.blk≠L.blk:=by
         intro y ob ly hy aQ e
         obtain⟨h1,h2⟩:=Zeb y ob hy
         exact h1 (hs.sim.alone h2 IX aQ hL e (by rintro ⟨_,_,h,_⟩;cases h))
        have loop: ∀(n:Nat) (a':Act) (w1:World) (seen:Array Nat),yj es seen=n->Tr P σ H w σ Hd w1->St P σ b K N lo NZ Hd ⟨[],none⟩ a' w1->(∀n,n∉ds->a'.tmps[n]? =act.tmps[n]?)->
          w1.heap[L.blk]? =some (.mapIter (some Lm.blk) clock seen clock)->a'.eval q=.pointer (some ⟨L.blk,L.base+0,none⟩)->
          ∃σ' a'' w',Tr P σ H w σ' H' w'∧St P σ' b K N lo tm' H' x' a'' w'∧(∀n,n∉ds->a''.tmps[n]? =act.tmps[n]?)∧
           FR P (lone (b.atR a' (.code body::.inLoop body::k)) (K (none:Option AV).isSome) w1) b k (K x'.rc.isSome) σ' o a'' w':=by
         intro n
         induction n using Nat.strongRecOn with
         |_ n ih=>
          intro a' w1 seen hn tt hst hold hit hev
          have hdm:Hd.t.get mb=some (.map es clock):=by
           show(H.t.del ib).get mb=_
           rw[T.get_del,if_neg λe=>hmb e.symm];exact hmo
          obtain⟨mobj1,ZbM,ac,Zh9,kj,Zes⟩:=hst.sim.alive mb _ Lm hdm hLm
          subst Zh9
          have eM: ∀e∈ac,e.born<clock:=λe he'=>kj.below Zes.2 e (Xm.2 he')
          rcases iA (P:=P) hit ZbM eM op.type with⟨_,w2,hrun,hw2⟩|⟨e,hem,Zh4,w0,hw0,hrun⟩
          ·
           rw[<-hb0] at hrun
           have eY:St P σ b K N lo NZ Hd ⟨[],none⟩ a' w2:=by rcases hw2 with rfl|rfl;exact hst;exact hst.drew
           have tt2:Tr P σ H w σ Hd w2:=by rcases hw2 with rfl|rfl;exact tt;exact tt.trans (Tr.drew hst.sim)
           exact final Hd w1 w2 a' tt2 eY hold hev hrun he
          ·
           rw[<-hb0] at hrun
           let w2:World:={w0 with heap:=w0.heap.setIfInBounds L.blk (.mapIter (some Lm.blk) clock (seen.push e.born) clock)}
           have hh0:w0.heap=w1.heap:=by rcases hw0 with rfl|rfl<;>rfl
           have Zd3:L.blk<w1.heap.size:=(Ym.1 hit).1
           have hz2:w2.heap.size=w1.heap.size:=by simp[w2,hh0]
           have aR:w2.heap[L.blk]? =some (.mapIter (some Lm.blk) clock (seen.push e.born) clock):=by simp[w2,hh0,Zd3]
           have xj: ∀j,j≠L.blk->w2.heap[j]? =w1.heap[j]? :=by
            intro j hj
            show(w0.heap.setIfInBounds L.blk _)[j]? =_
            rw[Ux (Ne.symm hj),hh0]
           have htp:w2.tape=w1.tape∧w2.os=w1.os∧w2.output=w1.output:=by rcases hw0 with rfl|rfl<;>exact⟨rfl,rfl,rfl⟩
           obtain⟨ea,hea,hear⟩:=kj.mem e (Xm.2 hem)
           have hLd:L.blk<w.heap.size:=(Ym.1 kf).1
           have Zey:Wr H ib:=⟨hro,_,IX,(λr h=>by cases h),(λh=>by cases h)⟩
           have hlt_ib:ib<H.nx:=hs.sim.low ib _ IX
           have hsd2:WL P σ Hd w2:=by
            refine⟨hst.sim.dom,hst.sim.low,λy ob ly hy aQ=>?_,hst.sim.inj,hst.sim.glob,hst.sim.ro⟩
            obtain⟨cy,h1,h2⟩:=hst.sim.alive y ob ly hy aQ
            exact⟨cy,by rw[xj _ (hother y ob ly hy aQ)];exact h1,h2⟩
           have tt2:Tr P σ H w σ Hd w2:=by
            refine⟨tt.ext,hsd2,by rw[hz2];exact tt.size,λj hj hn=>?_,tt.wr,tt.nx,tt.ro,tt.low,htp.1.trans tt.tape,htp.2.1.trans tt.os,htp.2.2.trans tt.out,tt.pend⟩
            rw[xj j λe=>hn ib L Zey hL e.symm]
            exact tt.frame j hj hn
           let Hr:Heap:=⟨H.nx,H.t.set ib (.miter (some mb) clock (some (ea.born,clock))),H.nx⟩
           have sT: ∀y ob,Hr.t.get y=some ob->(y=ib∧ob=.miter (some mb) clock (some (ea.born,clock)))∨Hd.t.get y=some ob:=by
            intro y ob hy
            have hy:(H.t.set ib _).get y=some ob:=hy
            rw[T.get_set] at hy
            by_cases e':ib=y
            ·rw[if_pos e'] at hy;cases hy;exact .inl ⟨e'.symm,rfl⟩
            ·rw[if_neg e'] at hy
             refine .inr ?_
             show(H.t.del ib).get y=_
             rw[T.get_del,if_neg e'];exact hy
           have hsr:WL P σ Hr w2:=by
            refine⟨hst.sim.dom,λy ob hy=>?_,λy ob ly hy aQ=>?_,λy y' o1 o2 l1 l2 hy hy' hl1 hl2 e'=>?_,hst.sim.glob,Zz _⟩
            ·rcases sT y ob hy with⟨rfl,_⟩|h
             ·exact hlt_ib
             ·exact hst.sim.low y ob h
            ·rcases sT y ob hy with⟨rfl,rfl⟩|h
             ·rw[hL] at aQ;cases aQ
              refine⟨_,aR,seen.push e.born,clock,by simp[hLm],(λb' hb'=>by cases hb';rw[hLm];rfl),hbase,?_,rfl⟩
              rw[hear.2.2];simp
             ·exact hsd2.alive y ob ly h aQ
            ·rcases sT y o1 hy with⟨rfl,rfl⟩|h<;>rcases sT y' o2 hy' with⟨rfl,rfl⟩|h'
             ·exact .inl rfl
             ·rw[hL] at hl1;cases hl1;exact absurd e'.symm (hother y' o2 l2 h' hl2)
             ·rw[hL] at hl2;cases hl2;exact absurd e' (hother y o1 l1 h hl1)
             ·exact hsd2.inj y y' o1 o2 l1 l2 h h' hl1 hl2 e'
           have hstep:=Ql (b:=b) (k:=tl++.inLoop body::k) (cs:=K (none:Option AV).isSome) (rest:=List.range' 1 (ops.size - 1)) hop (hwant a') hnd (.inl (km a' w1 _ w2 hev hrun))
           have hr:YU σ (.tup [.bool true,ea.key,ea.val]) (.tuple #[.bool true,e.key,e.val]):=by
            simp only[YU]
            exact⟨[.bool true,e.key,e.val],WB (by simp[YU]) (WB hear.1 (V2 hear.2.1)),rfl⟩
           have Zh1:Uh σ w2 lo [] a'.defers:=by
            refine hst.df.mono (Ext.refl σ) λr y hr'=>?_
            rw[xj r λe'=>by rw[e',hit] at hr';cases hr'];exact hr'
           have s1:St P σ b K N lo (Ws t NZ (.tup [.bool true,ea.key,ea.val])) Hr ⟨[],none⟩ (a'.put op.dst (.tuple #[.bool true,e.key,e.val])) w2:=by
            refine⟨hsr,?_,by rw[S1];exact Zh1,hst.rc,by rw[hz2];exact hst.lo⟩
            rw[eS]
            exact hst.tm.put htN hr
           obtain⟨tmr,Hr',hbody⟩:=hrounds ea hea
           have ZhZ:Oq P ⟨c.call,UH,UZ,c.fuel,true⟩ b σ Hr w2:=⟨hc.call,D9 σ Hr w2,(λh=>by cases h),Iu P,λ_=>rfl⟩
           obtain⟨σ3,a3,w3,t3,s3,u3,fp⟩:=ha _ b K lo σ _ Hr ⟨[],none⟩ _ w2 (.inLoop body::k) .normal tmr Hr' ⟨[],none⟩ ZhZ s1 hbody
           have kl: ∀y,¬Wr Hr y:=by
            intro y hy
            obtain⟨h1,ob,h2,_⟩:=hy
            have h1:H.nx<=y:=h1
            have:=hsr.low y ob h2
            have this:y<H.nx:=this
            omega
           have ZbI: ∀j,j<w2.heap.size->w3.heap[j]? =w2.heap[j]? :=λj hj=>t3.frame j hj λy ly hy _=>absurd hy (kl y)
           have ZbT:WL P σ Hd w3:=hsd2.grow ZbI
           have tt3:Tr P σ H w σ Hd w3:=by
            refine⟨tt.ext,ZbT,YR tt2.size t3.size,λj hj hn=>?_,tt.wr,tt.nx,tt.ro,tt.low,t3.tape.trans tt2.tape,t3.os.trans tt2.os,t3.out.trans tt2.out,tt.pend⟩
            rw[ZbI j (Yk hj tt2.size)]
            exact tt2.frame j hj hn
           have aS: ∀n,n∉ds->a3.tmps[n]? =act.tmps[n]? :=by
            intro n hn
            rw[u3 n hn,put_old a' op.dst _ λd hd e'=>hn (by rw[e'];exact ht d (by rw[<-eS];exact hd)),hold n hn]
           have VK:St P σ b K N lo NZ Hd ⟨[],none⟩ a3 w3:=by
            refine⟨ZbT,nB hst.tm s3.tm.size (λn hn=>?_),s3.df.any,hst.rc,s3.lo⟩
            rw[aS n hn,hold n hn]
           have hit3:w3.heap[L.blk]? =some (.mapIter (some Lm.blk) clock (seen.push e.born) clock):=by rw[ZbI _ (by rw[hz2];exact Zd3)];exact aR
           have hlt:yj es (seen.push e.born)<n:=by
            rw[<-hn,<-hear.2.2]
            exact nF hea (by rw[hear.2.2];exact Zh4)
           have Zh5:a3.eval q=.pointer (some ⟨L.blk,L.base+0,none⟩):=by
            have:=LC ZbT VK.tm q
            rw[hqv] at this
            obtain⟨L',hL',h⟩:=Ut this
            rw[hL] at hL';cases hL'
            exact h
           obtain⟨σ4,a4,w4,g1,g2,g3,g4⟩:=ih _ hlt a3 w3 (seen.push e.born) rfl tt3 VK aS hit3 Zh5
           refine⟨σ4,a4,w4,g1,g2,g3,.of_steps ((hhead a' w1 _).trans (hstep.trans ?_)) g4⟩
           rw[hri] at fp
           have fp:Steps P _ (lone (b.atR a3 (.inLoop body::k)) _ w3):=fp
           refine Steps.trans ?_ (Steps.one stepR_inLoop)
           simpa using fp
        have Zim:St P σ b K N lo NZ Hd ⟨[],none⟩ act w:=⟨(Tr.del hs.sim hL hro).sim,ZbU,hs.df,hs.rc,hs.lo⟩
        obtain⟨σ4,a4,w4,g1,g2,g3,g4⟩:=loop _ act w #[] rfl (Tr.del hs.sim hL hro) Zim (λ_ _=>rfl) kf Zee
        exact⟨σ4,a4,w4,g1,g2,g3,.of_steps (.one stepR_loop) g4⟩
       |_=>cases he
   |_=>cases he
 |_=>cases he
theorem U2(hm:P.follows .mixedOrders=true): ∀c:Code,Q5 N c=true->W6 P N (yM P c).1 [.code c] (JJ c)∧((Pt c).isSome=true->W6 P N (yM P c).2 (On c) (JJ c))
 |.skip,_=>⟨tB _,λh=>by cases h⟩
 |.region id ops d,h=>by
  have h:ops.toList.all (λo=>Dt N o.dst)=true:=h
  cases d with
  |true=>exact⟨wB hm h,λh=>by cases h⟩
  |false=>
   refine⟨yd h,λ_=>?_⟩
   have:=Ae (P:=P) (N:=N) (ops:=ops) (ds:=ops.toList.filterMap (·.dst)) ops.toList.tail 1 (λi=>by
    rw[<-YE]
    cases ops.toList with
    |nil=>simp
    |cons a l=>rw[show 1+i=i+1 by omega];simp) (λo ho=>⟨Y2.1 h o (List.mem_of_mem_tail ho),λt ht=>Ta.2 ⟨o,List.mem_of_mem_tail ho,ht⟩⟩)
   show W6 P N (xX P ops ops.toList.tail) [.inRegion ops (List.range' 1 (ops.size - 1))] _
   have e:ops.toList.tail.length=ops.size - 1:=by simp
   rw[e] at this
   exact this
 |.seq a b,h=>by
  obtain⟨h1,h2⟩:=Yo (a:=Q5 N a) (b:=Q5 N b) h
  have ha:=U2 hm a h1
  have hb:=U2 hm b h2
  refine⟨tA ha.1 hb.1,λhn=>?_⟩
  exact Af (i1:=On a) (i2:=[.code b]) (by simp[Item.plain]) (ha.2 hn) hb.1
 |.cond q a b,h=>by
  obtain⟨h1,h2⟩:=Yo (a:=Q5 N a) (b:=Q5 N b) h
  exact⟨tw (U2 hm a h1).1 (U2 hm b h2).1,λh=>by cases h⟩
 |.block id a,h=>⟨wA (U2 hm a h).1,λh=>by cases h⟩
 |.loop b,h=>by
  have hb:=U2 hm b h
  refine⟨?_,λh=>by cases h⟩
  show W6 P N (match Pt b with|some (x,t)=>uA (Xo P x) (Ws t) ((JJ b).map λt=>Ws (some t)) (yM P b).2|none=>Vm (yM P b).1) [.code (.loop b)] (JJ b)
  cases hmn:Pt b with
  |none=>exact tz hb.1
  |some y=>
   obtain⟨x,t⟩:=y
   have hmem: ∀(b:Code) {x:Operand} {t:Option Nat},Pt b=some (x,t)->Q5 N b=true->Dt N t=true∧ ∀d,t=some d->d∈JJ b:=by
    intro b
    induction b with
    |seq a c ih _=>
     intro x t hh hk
     obtain⟨h1,h2⟩:=Yo (a:=Q5 N a) (b:=Q5 N c) hk
     obtain⟨g1,g2⟩:=ih hh h1
     exact⟨g1,λd hd=>ZD.2 (.inl (g2 d hd))⟩
    |region id ops dr=>
     intro x t hh hk
     have hk:ops.toList.all (λo=>Dt N o.dst)=true:=hk
     cases dr with
     |true=>cases hh
     |false=>
      unfold Pt at hh
      cases hl:ops.toList with
      |nil=>rw[hl] at hh;cases hh
      |cons o l=>
       rw[hl] at hh
       simp only at hh
       split at hh
       ·cases hh
        have ho:o∈ops.toList:=by rw[hl];exact ZE ..
        exact⟨Y2.1 hk o ho,λd hd=>Ta.2 ⟨o,ho,hd⟩⟩
       ·cases hh
    |_=>intro x t hh;cases hh
   obtain⟨g1,g2⟩:=hmem b hmn h
   exact wE hmn g2 g1 (hb.2 (by rw[hmn];rfl))
 |.rangeFunc f ps a b,h=>by
  obtain⟨h0,h3⟩:=Yo (a:=ps.toList.all λt=>Dt N (some t)) (b:=cond (Q5 N a) (Q5 N b) false) h
  obtain⟨h1,h2⟩:=Yo h3
  exact⟨wF (U2 hm a h1).1 (U2 hm b h2).1 h0,λh=>by cases h⟩
 |.exit id,_=>⟨tx _,λh=>by cases h⟩
 |.scope a,h=>⟨wG (U2 hm a h).1,λh=>by cases h⟩
 |.label l,_=>⟨wC l _,λh=>by cases h⟩
 |.goto l,_=>⟨Qj _ _,λh=>by cases h⟩
 |.ret,_=>⟨nc _,λh=>by cases h⟩
 |.refuse l,_=>⟨Qj _ _,λh=>by cases h⟩
theorem qL(hm:P.follows .mixedOrders=true){f:Nat}{fn:Func}{c:Code}(hf:P.funcs[f]? =some fn)(hname:fn.name≠ "runtime.NumGoroutine")(hb:fn.body=some c):ZaI P f (GA P fn):=by
 refine⟨fn,c,JJ c,hf,hname,hb,?_,?_⟩
 ·show fn.results.toList.map _=fn.results.toList.map _
  refine List.map_congr_left λr _=>?_
  cases r<;>rfl
 ·have hbd:(GA P fn).body=cond (fn.results.toList.all (It P)) (cond (Q5 fn.ntmps c) (ZdG P c) Qu) Qu:=by
   unfold GA;rw[hb]
  rw[hbd]
  cases h1:fn.results.toList.all (It P) with
  |false=>exact .inl rfl
  |true=>
   cases h2:Q5 fn.ntmps c with
   |false=>exact .inl rfl
   |true=>exact .inr ⟨rfl,(U2 hm c h2).1⟩
theorem JE(hm:P.follows .mixedOrders=true){lib:Nat->List AV->Heap->Option CR}(eO:Ou P lib){fs:T CF}(hfs: ∀f cf,fs.get f=some cf-> ∃fn,P.funcs[f]? =some fn∧fn.name≠ "runtime.NumGoroutine" ∧fn.body.isSome=true∧cf=GA P fn)(fuel n:Nat):
  Sa P (Z7 lib fs fuel n):=by
 have Zeg:gO P fs:=by
  intro f cf h
  obtain⟨fn,h1,h2,h3,rfl⟩:=hfs f cf h
  obtain⟨c,hc⟩:=VM.1 h3
  exact qL hm h1 h2 hc
 exact yJ eO Zeg fuel (λcall hcall=>wj Zeg fuel hcall) n
end
section
variable {P:Program}
theorem zx{f:FuncId}{fn:Func}(hf:P.funcs[f]? =some fn)(hname:(fn.name== "runtime.NumGoroutine")=false)(hb:fn.body.isNone=true)(hn:Extern.findNext fn=none)(he:Extern.find fn=some Extern.AbiNoEscape.same)
  {x:AV}{H:Heap}{σ:Mp}{w:World}{vs:List Value}(hs:WL P σ H w)(hv:Xj σ [x] vs):N0 P σ H w (.ret x H) ((callFunc f ⟨vs⟩).run P w):=by
 obtain⟨v,l,h1,h2,rfl⟩:=hv.cons_inv
 rw[h2.nil_inv,run_callFunc_extern hf hname hb hn he]
 exact⟨σ,h1,Tr.refl hs⟩
noncomputable def QC(c:Nat):List UInt8->Nat->Int
 |[],_=> -1
 |b::l,i=>cond (Nat.beq b.toNat c) (.ofNat i) (QC c l (Nat.succ i))
theorem E7{c:Nat}(hc:c<=255): ∀(suf pre:List UInt8) (s:ByteArray),s.data.toList=pre++suf->
  (match(List.range' pre.length suf.length).find? λi=>s[i]! ==(c.toUInt8) with|some i=>(i:Int)|none=> -1)=QC c suf pre.length
 |[],pre,s,_=>rfl
 |b::suf,pre,s,hs=>by
  have hget:s[pre.length]! =b:=by
   have h1:s.data[pre.length]? =some b:=by rw[<-YE,hs];simp
   have h2:pre.length<s.size:=by
    show pre.length<s.data.size
    exact(Ym.1 h1).1
   rw[getElem!_pos s pre.length h2]
   obtain⟨h3,h4⟩:=Ym.1 h1
   exact h4
  have hcb:(b==c.toUInt8)=Nat.beq b.toNat c:=by
   rw[YZ]
   have h1:(c.toUInt8).toNat=c:=by
    show c % 256=c
    omega
   by_cases e:b.toNat=c
   ·rw[Zi e]
    have:b=c.toUInt8:=UInt8.toNat.inj (by rw[h1];exact e)
    simp[this]
   ·rw[Ze e]
    have:b≠c.toUInt8:=λh=>e (by rw[h,h1])
    simpa using this
  show(match(List.range' pre.length (suf.length+1)).find? _ with|some i=>(i:Int)|none=> -1)=_
  rw[TU,List.find?_cons,hget,hcb]
  unfold QC
  cases Nat.beq b.toNat c with
  |true=>rfl
  |false=>
   have:=E7 hc suf (pre++[b]) s (by rw[hs];simp)
   rw[Zk] at this
   exact this
theorem pH{f:FuncId}{fn:Func}(hf:P.funcs[f]? =some fn)(hname:(fn.name== "runtime.NumGoroutine")=false)(hb:fn.body.isNone=true)(hn:Extern.findNext fn=none)(he:Extern.find fn=some Extern.BytealgIndexByte.indexByte)
  {s:List UInt8}{c:Nat}(hc:Nat.ble c 255=true){H:Heap}{σ:Mp}{w:World}{vs:List Value}(hs:WL P σ H w)(hv:Xj σ [.str s,.int .u8 (.ofNat c)] vs):
  N0 P σ H w (.ret (.int .i64 (QC c s 0)) H) ((callFunc f ⟨vs⟩).run P w):=by
 obtain⟨v,l,h1,h2,rfl⟩:=hv.cons_inv
 obtain⟨u,l',h3,h4,rfl⟩:=h2.cons_inv
 rw[h4.nil_inv,V3 h1,X3 h3,run_callFunc_indexByte hf hname hb hn he,run_indexByte_string]
 have hc:=Yn hc
 refine⟨σ,?_,Tr.refl hs⟩
 simp only[YU]
 have:=E7 hc s [] ⟨s.toArray⟩ (by simp)
 have e:firstIdx ⟨s.toArray⟩ ((Int.ofNat c).toNat.toUInt8)=QC c s 0:=by
  unfold firstIdx
  have hz:(⟨s.toArray⟩:ByteArray).size=s.length:=by simp[ByteArray.size]
  rw[hz,Ru]
  exact this
 rw[e]
theorem GD: ∀(n t:Nat) (acc:Array Value),(∀v∈acc,v.oneCell'=true)->(Extern.BytealgMakeNoZero.digits n t acc).size=acc.size+n∧ ∀v∈Extern.BytealgMakeNoZero.digits n t acc,v.oneCell'=true
 |0,t,acc,h=>⟨rfl,h⟩
 |n+1,t,acc,h=>by
  have:=GD n (t/256) (acc.push (.int .u8 (Int.ofNat (t % 256)))) (λv hv=>by
   rcases Array.mem_push.1 hv with hv|rfl
   ·exact h v hv
   ·rfl)
  unfold Extern.BytealgMakeNoZero.digits
  refine⟨?_,this.2⟩
  rw[this.1,Array.size_push];omega
theorem Dc{f:FuncId}{fn:Func}{ps:Array TypeId}{t e:TypeId}(hf:P.funcs[f]? =some fn)(hname:(fn.name== "runtime.NumGoroutine")=false)(hb:fn.body.isNone=true)(hn:Extern.findNext fn=none)(he:Extern.find fn=some (Extern.BytealgMakeNoZero.makeNoZero ps #[t]))
  (hu:P.underlying t=some (.slice e)){n:Nat}(hle:Nat.ble n 281474976710656=true){H:Heap}{σ:Mp}{w:World}{vs:List Value}(hs:WL P σ H w)(hv:Xj σ [.int .i64 (.ofNat n)] vs):
  N0 P σ H w (.ret (.slice H.nx 0 n none) (H.new (.row ⟨e,1,n,.leaf,.unk,0,false,true,false⟩))) ((callFunc f ⟨vs⟩).run P w):=by
 obtain⟨v,l,h1,h2,rfl⟩:=hv.cons_inv
 rw[h2.nil_inv,X3 h1,run_callFunc_extern hf hname hb hn he]
 have hle:=Yn hle
 obtain⟨k,hk⟩:=KU (P:=P) n 0 e w
 let y:=w.tape w.drew.drawn (.extern "internal/bytealg.MakeNoZero.bytes" 0)
 let cs:=Extern.BytealgMakeNoZero.digits (n+k) y #[]
 have hrun:(Extern.BytealgMakeNoZero.makeNoZero ps #[t] #[.int .i64 (.ofNat n)]).run P w=.ok (.slice (some ⟨w.heap.size,0,none⟩) n (n+k)) (w.drew.drew.alloc (.cells cs e)):=by
  have hlt: ¬((decide ((Int.ofNat n)<0)||decide ((Int.ofNat n)>2^48))=true):=by
   simp only[U8,decide_eq_true_eq,not_or]
   have e1:Int.ofNat n=(n:Int):=rfl
   have h2:((2:Int)^48)=281474976710656:=by decide
   rw[e1,h2]
   constructor<;>omega
  have hch:(choose (.extern "internal/bytealg.MakeNoZero.bytes" 0)).run P w.drew=.ok y w.drew.drew:=by
   rw[run_choose_drew]
   rfl
  have htn:(Int.ofNat n).toNat=n:=rfl
  rw[show(Extern.BytealgMakeNoZero.makeNoZero ps #[t] #[.int .i64 (.ofNat n)]).run P w=(Bind.bind (underlying t) _:Sem Value).run P w from rfl]
  simp only[Sem.run_bind,run_underlying hu,Result.andThen_ok,if_neg hlt,htn,hk,run_askRoom,hch,newRow,run_newObj,World.alloc_eq,Sem.run_pure]
  rfl
 rw[hrun]
 obtain⟨hz,hone⟩:=GD (n+k) y #[] (λv hv=>by simp at hv)
 have hz:cs.size=n+k:=by rw[hz];simp
 have td:=(Tr.drew hs).trans (Tr.drew (WL.drew hs))
 let L:Loc:=⟨w.heap.size,0,n+k,1⟩
 refine⟨σ.put H.nx L,Sk (l:=L) rfl,td.trans (Tr.alloc td.sim _ _ L rfl ⟨cs,(0,0),rfl,?_⟩)⟩
 refine⟨rfl,Zz _,by show n<=(n+k)*1;omega,by show 0+(n+k)*1<=cs.size;rw[hz];omega,(λh=>by cases h),λi hi=>?_,λi v _ hv=>hone v (Vo hv),λ_ i _ _ h=>by have h1:=h.1;have h2:=h.2;simp at h2,λ_ _=>.inl rfl⟩
 have hi:i<n:=hi
 refine⟨cs[i]'(by omega),by show cs[0+i]? =_;rw[Zb];exact W2 _,?_⟩
 show YU _ AV.unk _
 simp[YU]
noncomputable def XT(c:Nat)(l:List UInt8):Nat->Nat:=List.rec (λn=>n) (λb _ ih n=>cond (Nat.beq b.toNat c) (ih (Nat.succ n)) (ih n)) l
theorem KV{c:Nat}(hc:c<=255): ∀(l:List UInt8) (n:Nat),XT c l n=n+Lib.countByte l c.toUInt8
 |[],n=>rfl
 |b::l,n=>by
  have hcb:(b==c.toUInt8)=Nat.beq b.toNat c:=by
   rw[YZ]
   have h1:(c.toUInt8).toNat=c:=by
    show c % 256=c
    omega
   by_cases e:b.toNat=c
   ·rw[Zi e]
    have:b=c.toUInt8:=UInt8.toNat.inj (by rw[h1];exact e)
    simp[this]
   ·rw[Ze e]
    have:b≠c.toUInt8:=λh=>e (by rw[h,h1])
    simpa using this
  show cond (Nat.beq b.toNat c) (XT c l (n+1)) (XT c l n)=_
  unfold Lib.countByte
  rw[List.count_cons,hcb]
  cases Nat.beq b.toNat c with
  |true=>
   show XT c l (n+1)=_
   rw[KV hc l];unfold Lib.countByte;simp;omega
  |false=>
   show XT c l n=_
   rw[KV hc l];unfold Lib.countByte;simp
theorem pG{f:FuncId}{fn:Func}(hf:P.funcs[f]? =some fn)(hname:(fn.name== "runtime.NumGoroutine")=false)(hb:fn.body.isNone=true)(hn:Extern.findNext fn=none)(he:Extern.find fn=some Extern.BytealgCount.count)
  {s:List UInt8}{c:Nat}(hc:Nat.ble c 255=true){H:Heap}{σ:Mp}{w:World}{vs:List Value}(hs:WL P σ H w)(hv:Xj σ [.str s,.int .u8 (.ofNat c)] vs):
  N0 P σ H w (.ret (.int .i64 (.ofNat (XT c s 0))) H) ((callFunc f ⟨vs⟩).run P w):=by
 obtain⟨v,l,h1,h2,rfl⟩:=hv.cons_inv
 obtain⟨u,l',h3,h4,rfl⟩:=h2.cons_inv
 rw[h4.nil_inv,V3 h1,X3 h3,run_callFunc_extern hf hname hb hn he]
 have hc:=Yn hc
 have hrun:(Extern.BytealgCount.count #[.string ⟨s.toArray⟩,.int .u8 (.ofNat c)]).run P w=.ok (.int .i64 (.ofNat (XT c s 0))) w:=by
  rw[Lib.run_countString,KV hc]
  have e1:(⟨s.toArray⟩:ByteArray).data.toList=s:=by simp
  have e2:(Int.ofNat c).toNat=c:=rfl
  rw[e1,e2,Zb]
  rfl
 rw[hrun]
 exact⟨σ,by simp only[YU],Tr.refl hs⟩
noncomputable def zZ:List (Nat×Nat×List AV)->T Obj->T Obj
 |[],t=>t
 |(b,e,l)::rs,t=>zZ rs (t.set b (.row ⟨e,1,Xa l,T.ofList l,.unk,0,false,false,true⟩))
theorem LF: ∀(rs:List (Nat×Nat×List AV)) (t:T Obj) (b:Nat) (o:Obj),(zZ rs t).get b=some o->
  (∃e l,(b,e,l)∈rs∧o=.row ⟨e,1,Xa l,T.ofList l,.unk,0,false,false,true⟩)∨t.get b=some o
 |[],t,b,o,h=>.inr h
 |(b',e,l)::rs,t,b,o,h=>by
  rcases LF rs _ b o h with⟨e2,l2,h1,h2⟩|h1
  ·exact .inl ⟨e2,l2,ZQ _ h1,h2⟩
  ·rw[T.get_set] at h1
   by_cases e3:b'=b
   ·rw[if_pos e3] at h1;cases h1;subst e3;exact .inl ⟨e,l,ZE ..,rfl⟩
   ·rw[if_neg e3] at h1;exact .inr h1
mutual
def SW:DataW Unit->List AV
 |.lit (.int k n)=>[.int k n]
 |.lit (.string s)=>[.str s]
 |.agg ds=>HD ds
 |_=>[]
def HD:List (DataW Unit)->List AV
 |[]=>[]
 |d::ds=>SW d++HD ds
end
def Tj(P:Program)(W:World)(e:TypeId)(c:Nat):Prop:=
 ∀(m:Nat) (cs:List Value) (x:DataW Unit×List MemPlace),DataW.trod (λ_=>()) P W 0 (λ_=>true) false m e cs=some x->cs.length=c∧Xj (λ_=>none) (SW x.1) cs∧ ∀v∈cs,v.oneCell'=true
theorem HV{W:World}{e:TypeId}{k:IntKind}(he:P.underlying e=some (.int k)):Tj P W e 1:=by
 intro m cs x h
 obtain⟨n,rfl,rfl,_⟩:=DataW.trod_int he h
 exact⟨rfl,V2 (by simp[YU]),λv hv=>by simp at hv;subst hv;rfl⟩
theorem vH{W:World}{e:TypeId}{c:Nat}(he:Tj P W e c){m:Nat}{cs:List Value}: ∀(xs:List (DataW Unit×List MemPlace)) (k:Nat),
  (∀i x,xs[i]? =some x->DataW.trod (λ_=>()) P W 0 (λ_=>true) false m e ((cs.drop ((k+i)*c)).take c)=some x)->
  Xj (λ_=>none) (HD (xs.map (·.1))) ((cs.drop (k*c)).take (xs.length*c))∧ ∀v∈(cs.drop (k*c)).take (xs.length*c),v.oneCell'=true
 |[],k,_=>by simp[HD,Xj]
 |x::xs,k,h=>by
  obtain⟨h1,h2,h3⟩:=he m _ x (h 0 x rfl)
  obtain⟨h4,h5⟩:=vH he xs (k+1) (λi y hy=>by
   have:=h (i+1) y (by simpa using hy)
   rw[show k+(i+1)=k+1+i by omega] at this
   exact this)
  rw[Zd] at h1 h2 h3
  have hsplit:(cs.drop (k*c)).take ((x::xs).length*c)=(cs.drop (k*c)).take c++(cs.drop ((k+1)*c)).take (xs.length*c):=by
   rw[Zl,WH,Qc,Nat.add_comm (xs.length*c) c,List.take_add,TS]
   congr 3
   rw[WH,Qc]
  rw[hsplit]
  refine⟨h2.append h4,λv hv=>?_⟩
  rcases ZD.1 hv with hv|hv
  ·exact h3 v hv
  ·exact h5 v hv
theorem Qi{W:World}{t e:TypeId}{n c:Nat}(ht:P.underlying t=some (.array n e))(hc:P.cellsOf e=c)(hct:P.cellsOf t=n*c)(he:Tj P W e c):Tj P W t (n*c):=by
 intro m cs x h
 obtain⟨xs,m',rfl,rfl,hlen,hn,hel⟩:=DataW.trod_array ht h
 rw[hc] at hel
 obtain⟨h1,h2⟩:=vH he (m:=m') (cs:=cs) xs 0 (λi y hy=>by
  have hi:i<n:=by rw[<-hn];exact(Vg.1 hy).1
  rw[Zb,hel i hi];exact hy)
 rw[hct] at hlen
 have hcs:(cs.drop (0*c)).take (xs.length*c)=cs:=by
  rw[Vi,ZC,hn,<-hlen,Vh]
 rw[hcs] at h1 h2
 exact⟨hlen,h1,h2⟩
theorem tf{W:World}{t e:TypeId}{f g:Field}(ht:P.underlying t=some (.struct #[f,g]))(hf:f.type=e)(hg:g.type=e)(hof:f.offset=0)(hog:g.offset=1)(hc:P.cellsOf e=1)(hct:P.cellsOf t=2)(he:Tj P W e 1):Tj P W t 2:=by
 intro m cs x h
 obtain⟨xs,m',rfl,rfl,hlen,hn,hel⟩:=DataW.trod_struct ht h
 have h0:=hel 0 f rfl
 have h1:=hel 1 g rfl
 rw[hf,hof,hc] at h0
 rw[hg,hog,hc] at h1
 obtain⟨g1,g2⟩:=vH he (m:=m') (cs:=cs) xs 0 (λi y hy=>by
  have hi:i<2:=by
   have:xs.length=2:=by rw[hn];rfl
   rw[<-this];exact(Vg.1 hy).1
  match i,hi with
  |0,_=>simpa using h0.trans hy
  |1,_=>simpa using h1.trans hy)
 have aP:cs.length=2:=by rw[hlen,hct]
 have hn2:xs.length=2:=by rw[hn];rfl
 have hcs:(cs.drop (0*1)).take (xs.length*1)=cs:=by
  rw[hn2,Vi,ZC,XM,<-aP,Vh]
 rw[hcs] at g1 g2
 exact⟨aP,g1,g2⟩
theorem Oo{W:World}{n:String}{g:Nat}{cs:Array Value}(hg:P.globalNamed n=some g)(h:W.var? P n=some cs): ∃t fr,W.heap[g]? =some (.cells cs t fr):=by
 simp only[World.var?,hg,Option.bind_some] at h
 split at h
 ·rename_i c t fr hh;cases h;exact⟨t,fr,hh⟩
 ·cases h
theorem oQ{W:World}{t:TypeId}{ms:Array (String×TypeId)}(ht:P.underlying t=some (.interface ms)){m:Nat}{cs:List Value}{name:String}{D:DataW Unit}{p:List MemPlace}
  (h:DataW.trod (λ_=>()) P W 0 (λ_=>true) false m t cs=some (.iface name (.ptr D),p)){u0 e:TypeId}(hu: ∀u,P.typeName? 3 u=some name->u=u0)(hu0:P.underlying u0=some (.pointer e))(he:1<=P.cellsOf e)
  (hok: ∀u v,cs=[.iface u v]->Value.okWide P W .any 0 u v): ∃a:Addr,a.spot=none∧cs=[.iface u0 (.pointer (some a))]:=by
 have key: ∃u v,cs=[.iface u v]:=by
  cases m with
  |zero=>simp[DataW.trod] at h
  |succ m=>
   unfold DataW.trod at h
   rw[ht] at h
   rcases cs with _|⟨c0,_|⟨c1,cs⟩⟩
   ·simp at h
   ·cases c0<;>first|exact⟨_,_,rfl⟩|(simp at h)
   ·simp at h
 obtain⟨u,v,rfl⟩:=key
 cases m with
 |zero=>simp[DataW.trod] at h
 |succ m=>
  unfold DataW.trod at h
  rw[ht] at h
  cases hn:P.typeName? 3 u with
  |none=>simp[hn] at h
  |some nm=>
   simp only[hn] at h
   obtain⟨x,h1,h2⟩:=Uy.1 h
   simp only[Prod.mk.injEq,DataW.iface.injEq] at h2
   obtain⟨⟨rfl,h3⟩,_⟩:=h2
   obtain rfl:=hu u hn
   rcases DataW.trod_pointer hu0 h1 with⟨_,h4⟩|⟨a,cs',y,n,_,h4,h5,h6,_⟩
   ·rw[h4] at h3;cases h3
   ·have hspot:a.spot=none:=by
     unfold World.cells? at h6
     split at h6
     ·have h7:=h6
      cases hc:P.cellsOf e with
      |zero=>omega
      |succ n=>
       rw[hc,List.range_succ_eq_map,List.mapM_cons] at h7
       simp only[Option.bind_eq_bind,Option.bind_eq_some_iff] at h7
       obtain⟨b,h8,_⟩:=h7
       unfold World.cell? at h8
       split at h8
       ·split at h8
        ·cases h8
        ·rename_i hs
         have:(a.add 0).spot=a.spot:=rfl
         rw[this] at hs
         simpa using hs
       ·cases h8
     ·cases h6
    refine⟨a,hspot,?_⟩
    have hv:v.cells.toList=[.pointer (some a)]:=h4
    have hv':v=.pointer (some a):=by
     cases v with
     |agg cs=>
      have:=hok _ _ rfl
      simp[Value.okWide,Cell.okWide,Cell.ok,hu0] at this
     |_=>first|(simp[Value.cells] at hv;done)|(simpa [Value.cells] using hv)
    rw[hv']
theorem DE{info:TypeId->Option TypeInfo}{d:TypeDesc}{i:TypeInfo}{e:TypeId}(h:Made.reckon info d=some i)(hd:i.desc=.pointer e): ∃j,info e=some j∧ ∀n u,j.desc≠.named n u:=by
 unfold Made.reckon at h
 split at h
 ·rename_i e'
  simp only[bind,Option.bind_eq_some_iff] at h
  obtain⟨j,hj,h⟩:=h
  have sS:e'=e∧ ∀n u,j.desc≠.named n u:=by
   split at h
   ·cases h
   ·rename_i fs hfs
    split at h
    ·cases h
    ·simp only[Option.bind_eq_some_iff,pure] at h
     obtain⟨s,_,h⟩:=h
     cases h
     have:TypeDesc.pointer e'=.pointer e:=hd
     cases this
     exact⟨rfl,λn u hn=>by rw[hfs] at hn;cases hn⟩
   ·rename_i hn1 hn2
    simp only[Option.bind_eq_some_iff,pure] at h
    obtain⟨s,_,h⟩:=h
    cases h
    have:TypeDesc.pointer e'=.pointer e:=hd
    cases this
    exact⟨rfl,λn u hn=>hn1 n u hn⟩
  obtain⟨rfl,h2⟩:=sS
  exact⟨j,hj,h2⟩
 all_goals
  exfalso
  try simp only[bind,Option.bind_eq_some_iff,pure] at h
  repeat' first
   |(obtain⟨_,_,h⟩:=h)
   |(split at h)
  all_goals first
   |(simp[Made.word] at hd;done)
   |(cases h;simp[Made.word] at hd;done)
   |(cases h;cases hd;done)
   |(cases h;done)
   |(simp only[Option.bind_eq_some_iff] at h;obtain⟨_,_,h⟩:=h;cases h;cases hd;done)
   |(unfold Made.reckonStruct at h;simp only[bind,Option.bind_eq_some_iff,pure] at h;obtain⟨_,_,h⟩:=h;split at h<;>(cases h;cases hd))
theorem Cq{name inner:String}(hname:name= "*" ++inner)(hstar: ∀m:String,inner≠ "*" ++m)
  (htab:(P.types.toList.zipIdx.all λx=>match P.typeName? 2 x.2 with|some n=>n !=inner||(match x.1.desc with|.named _ _=>true|_=>false)|none=>true)=true)
  {u:TypeId}(h:P.typeName? 3 u=some name):u<P.types.size:=by
 refine Decidable.byContradiction λhu=>?_
 unfold Program.typeName? at h
 cases hi:P.info? u with
 |none=>simp[hi] at h
 |some i=>
  have hb:=Tables.info?_beyond hu hi
  simp only[hi] at h
  cases hd:i.desc<;>simp only[hd,TypeDesc.tableOnly] at h hb<;>try cases hb
  all_goals try (cases h;done)
  rename_i e
  simp only[Uy] at h
  obtain⟨n',hn',h2⟩:=h
  have hin:n'=inner:=by
   rw[hname] at h2
   have h3:("*" ++n').toList=("*" ++inner).toList:=by rw[h2]
   rw[String.toList_append,String.toList_append] at h3
   exact String.toList_inj.1 (List.append_cancel_left h3)
  subst hin
  unfold Tables.info? at hi
  rw[if_neg hu] at hi
  unfold Made.depth at hi
  unfold Made.infoAt at hi
  rw[if_neg hu] at hi
  simp only[Option.bind_eq_some_iff] at hi
  obtain⟨d,_,hrk⟩:=hi
  obtain⟨jj,hj,hjn⟩:=DE hrk hd
  by_cases he:e<P.types.size
  ·unfold Made.infoAt at hj
   rw[if_pos he] at hj
   have h4:=Y2.1 htab (jj,e) (by rw[List.mk_mem_zipIdx_iff_getElem?,YE];exact hj)
   simp only[hn'] at h4
   cases hjd:jj.desc with
   |named a b=>exact hjn a b hjd
   |_=>simp at h4
  ·unfold Program.typeName? at hn'
   cases hi2:P.info? e with
   |none=>simp[hi2] at hn'
   |some i2=>
    have hb2:=Tables.info?_beyond he hi2
    simp only[hi2] at hn'
    cases hd2:i2.desc<;>simp only[hd2,TypeDesc.tableOnly] at hn' hb2<;>try cases hb2
    all_goals try (cases hn';done)
    simp only[Uy] at hn'
    obtain⟨m,_,hm⟩:=hn'
    exact hstar m hm.symm
noncomputable def ZcT(l:List (Nat×CF)):T CF:=List.rec .leaf (λx _ t=>t.set x.1 x.2) l
theorem wX: ∀{l:List (Nat×CF)} {f:Nat} {cf:CF},(ZcT l).get f=some cf->(f,cf)∈l
 |[],f,cf,h=>by
  have h:(T.leaf:T CF).get f=some cf:=h
  rw[T.get_leaf] at h;cases h
 |(g,c)::l,f,cf,h=>by
  have h:((ZcT l).set g c).get f=some cf:=h
  rw[T.get_set] at h
  by_cases e:g=f
  ·rw[if_pos e] at h;cases h;rw[e];exact ZE ..
  ·rw[if_neg e] at h;exact ZQ _ (wX h)
theorem zm{W W':World}{may:MemPlace->Prop}(h1:W'.os=W.os)(h2:W'.output=W.output)(h3: ∀i,i<W.heap.size->W'.heap[i]? =W.heap[i]?):W.keptBut W' may:=by
 refine⟨h1,h2,λi hi=>?_⟩
 rw[h3 i hi]
 split
 ·rename_i e1 e2;rw[e1] at e2;cases e2;exact⟨rfl,rfl,rfl,λ_ _=>rfl⟩
 ·rename_i e1 e2;rw[e1] at e2;cases e2;exact .inr ⟨rfl,rfl⟩
 ·rfl
mutual
theorem YU.back{σ σ':Mp}(h:Ext σ σ'): ∀{a:AV} {v0 v:Value},YU σ a v0->YU σ' a v->YU σ a v
 |.unk,_,_,_,_=>by simp[YU]
 |.bool b,_,v,_,r=>by simpa [YU] using r
 |.int k n,_,v,_,r=>by simpa [YU] using r
 |.str s,_,v,_,r=>by simpa [YU] using r
 |.nilp,_,v,_,r=>by simpa [YU] using r
 |.ptr b o,_,v,q,r=>by
  simp only[YU] at q r ⊢
  obtain⟨l,hl,_⟩:=q
  obtain⟨l',hl',hv⟩:=r
  rw[h _ _ hl] at hl';cases hl'
  exact⟨l,hl,hv⟩
 |.nils,_,v,_,r=>by simpa [YU] using r
 |.slice0,_,v,_,r=>by simpa [YU] using r
 |.slice b o n cap,_,v,q,r=>by
  simp only[YU] at q r ⊢
  obtain⟨l,hl,_⟩:=q
  obtain⟨l',hl',hv⟩:=r
  rw[h _ _ hl] at hl';cases hl'
  exact⟨l,hl,hv⟩
 |.nilm,_,v,_,r=>by simpa [YU] using r
 |.map b,_,v,q,r=>by
  simp only[YU] at q r ⊢
  obtain⟨l,hl,_⟩:=q
  obtain⟨l',hl',hv⟩:=r
  rw[h _ _ hl] at hl';cases hl'
  exact⟨l,hl,hv⟩
 |.func f a b,_,v,q,r=>by
  simp only[YU] at q r ⊢
  obtain⟨x0,y0,q1,q2,_⟩:=q
  obtain⟨x,y,hx,hy,hv⟩:=r
  exact⟨x,y,Xj.back h q1 hx,Xj.back h q2 hy,hv⟩
 |.meth n a,_,v,q,r=>by
  simp only[YU] at q r ⊢
  obtain⟨x0,q1,_⟩:=q
  obtain⟨x,hx,hv⟩:=r
  exact⟨x,YU.back h q1 hx,hv⟩
 |.yield b,_,v,q,r=>by
  simp only[YU] at q r ⊢
  obtain⟨l,hl,_⟩:=q
  obtain⟨l',hl',hv⟩:=r
  rw[h _ _ hl] at hl';cases hl'
  exact⟨l,hl,hv⟩
 |.nilf,_,v,_,r=>by simpa [YU] using r
 |.iface t x,_,v,q,r=>by
  simp only[YU] at q r ⊢
  obtain⟨y0,q1,_⟩:=q
  obtain⟨y,hy,hv⟩:=r
  exact⟨y,YU.back h q1 hy,hv⟩
 |.nili,_,v,_,r=>by simpa [YU] using r
 |.agg cs,_,v,q,r=>by
  simp only[YU] at q r ⊢
  obtain⟨v0,q1,_,_⟩:=q
  obtain⟨vs,hx,h1,hv⟩:=r
  exact⟨vs,Xj.back h q1 hx,h1,hv⟩
 |.tup cs,_,v,q,r=>by
  simp only[YU] at q r ⊢
  obtain⟨v0,q1,_⟩:=q
  obtain⟨vs,hx,hv⟩:=r
  exact⟨vs,Xj.back h q1 hx,hv⟩
theorem Xj.back{σ σ':Mp}(h:Ext σ σ'): ∀{as:List AV} {l0 l:List Value},Xj σ as l0->Xj σ' as l->Xj σ as l
 |[],_,_,_,r=>by simpa [Xj] using r
 |a::as,_,_,q,r=>by
  simp only[Xj] at q r ⊢
  obtain⟨v0,vs0,q1,q2,_⟩:=q
  obtain⟨v,vs,r1,r2,e⟩:=r
  exact⟨v,vs,YU.back h q1 r1,Xj.back h q2 r2,e⟩
end
theorem RQ.back{σ σ':Mp}(h:Ext σ σ'){r:Row}{l:Loc}{c0 c:Array Value}{f0 f:Nat×Nat}(q:RQ σ r l c0 f0)(p:RQ σ' r l c f):RQ σ r l c f:=
 ⟨p.sz,p.sz1,p.fits,p.room,p.exact,λi hi=>by
  obtain⟨v0,_,h0⟩:=q.cell i hi
  obtain⟨v,h1,h2⟩:=p.cell i hi
  exact⟨v,h1,h0.back h h2⟩,p.one,p.frz,p.frs⟩
theorem Y3.known{σ:Mp}: ∀{es:List Sy} {l:List MapEntry},Y3 σ es l-> ∀e∈es,(∃v,YU σ e.key v)∧ ∃v,YU σ e.val v
 |[],_,_,e,he=>by cases he
 |a::as,_,h,e,he=>by
  obtain⟨x,xs,h1,h2,_⟩:=h
  rcases Ys.1 he with rfl|he
  ·exact⟨⟨_,h1.1⟩,⟨_,h1.2.1⟩⟩
  ·exact Y3.known h2 e he
theorem Y3.back{σ σ':Mp}(h:Ext σ σ'): ∀{es:List Sy} {l:List MapEntry},(∀e∈es,(∃v,YU σ e.key v)∧ ∃v,YU σ e.val v)->Y3 σ' es l->Y3 σ es l
 |[],_,_,r=>r
 |a::as,_,q,r=>by
  obtain⟨x,xs,h1,h2,e⟩:=r
  obtain⟨⟨_,q1⟩,⟨_,q2⟩⟩:=q a (ZE ..)
  exact⟨x,xs,⟨q1.back h h1.1,q2.back h h1.2.1,h1.2.2⟩,Y3.back h (λe he=>q e (ZQ _ he)) h2,e⟩
theorem UI.back{σ σ':Mp}(h:Ext σ σ'){o:Obj}{l:Loc}{c0 c:Go.Obj}(q:UI σ o l c0)(p:UI σ' o l c):UI σ o l c:=by
 cases o with
 |row r=>
  obtain⟨_,_,_,q1⟩:=q
  obtain⟨cs,fr,e,p1⟩:=p
  exact⟨cs,fr,e,q1.back h p1⟩
 |map es clock=>
  obtain⟨_,_,q1,_⟩:=q
  obtain⟨ents,e,p1,p2⟩:=p
  exact⟨ents,e,Y3.back h q1.known p1,p2⟩
 |siter s pos=>exact p
 |miter m since cur=>
  obtain⟨_,_,_,q1,_⟩:=q
  obtain⟨seen,st,e,p1,p2⟩:=p
  refine⟨seen,st,?_,q1,p2⟩
  rw[e]
  cases m with
  |none=>rfl
  |some b=>
   obtain⟨l2,hl2⟩:=VM.1 (q1 b rfl)
   show Go.Obj.mapIter ((σ' b).map (·.blk)) since seen st=Go.Obj.mapIter ((σ b).map (·.blk)) since seen st
   rw[hl2,h _ _ hl2]
 |loop=>exact p
 |cmap es=>
  obtain⟨_,_,f0,_,q1,q2,_⟩:=q
  obtain⟨ents,clock,fs,e,p1,p2,p3⟩:=p
  refine⟨ents,clock,fs,e,Y3.back h (λx hx=>?_) p1,p2,p3⟩
  have hm:T9 x∈f0.map T9:=q2.symm.mem_iff.1 (p2.mem_iff.1 (Tx hx))
  obtain⟨y,hy,ey⟩:=Xq.1 hm
  obtain⟨⟨v,h1⟩,⟨u,h2⟩⟩:=q1.known y hy
  have e1:y.key=x.key:=congrArg Prod.fst ey
  have e2:y.val=x.val:=congrArg Prod.snd ey
  exact⟨⟨v,e1▸h1⟩,⟨u,e2▸h2⟩⟩
theorem Tr.drop{σ σ':Mp}{H H':Heap}{w w':World}(hs:WL P σ H w)(t:Tr P σ H w σ' H' w')(keep: ∀b,b<H.nx->H'.t.get b=H.t.get b):Tr P σ H w σ H w':=by
 have hs':WL P σ H w':=by
  refine⟨hs.dom,hs.low,λb o l hb hl=>?_,hs.inj,hs.glob,hs.ro⟩
  obtain⟨c0,_,h1⟩:=hs.alive b o l hb hl
  obtain⟨c,h2,h3⟩:=t.sim.alive b o l (by rw[keep b (hs.low b o hb)];exact hb) (t.ext b l hl)
  exact⟨c,h2,h1.back t.ext h3⟩
 exact⟨Ext.refl σ,hs',t.size,t.frame,λb l hw hl _=>⟨b,l,hw,hl,rfl⟩,Zz _,rfl,λ_ _=>rfl,t.tape,t.os,t.out,λ_ _ h=>⟨rfl,h⟩⟩
end
end
end Go.AI
