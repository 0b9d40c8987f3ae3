/- Calls, rounds, ranges and functions without a body of the interpreter's do what the machine does: proved for every world that is told. -/
import Derived.Test.YtbmjgbajoemnaaaGreatDoorP4
import Derived.RangeFuncLeaves
import Derived.RangeFuncRecord
import Derived.Laws.NewFold
import Derived.Laws.StandIn
import Derived.Lib.Bytealg
import Derived.OpenShut
import Derived.ChangeArms
import Derived.ChangeMade
import GoSem.ClaimJoined
set_option maxRecDepth 1000000
set_option maxHeartbeats 0
set_option linter.unusedVariables false
set_option linter.unusedSimpArgs false
namespace Go.AI
open Go
noncomputable section
section
variable {P:Program} {σ:Mp} {H:Heap} {w:World} {N:Nat} {tm:TM} {t:Array Value}
def IS(P:Program)(r:ResultVar):Ye×Option (Nat×Bool):=match r with|.tmp n=>(YQ P (.tmp n),none)|.cell a u=>(YQ P (.tmp a),some (P.cellsOf u,NK P u))
def mU(t:Array Value)(r:ResultVar):Sem Value:=match r with
 |.tmp n=>pure (t.getD n undef)
 |.cell a u=>do loadVar u (<-asAddr (t.getD a undef))
theorem aa(hs:Ww P σ H w)(ht:Qx σ N tm t){r:ResultVar}(hr:GH P r=true){kk:AV->CR}{o:CR}
  (h:ZcG tm H (IS P r) kk=o)(ho:o≠.fail): ∃v u,kk v=o∧Yt σ v u∧(mU t r).run P w=.ok u w:=by
 have hρ:=KJ (a:={tmps:=t,defers:=[]}) hs ht
 cases r with
 |tmp n=>exact⟨_,t.getD n undef,h,hρ (.tmp n),rfl⟩
 |cell a u=>
  have g:=hρ (.tmp a)
  simp only[ZcG,IS] at h
  generalize hp:YQ P (.tmp a) tm=p at h g
  cases p with
  |ptr b off=>
   simp only at h
   cases hb:H.t.get b with
   |none=>rw[hb] at h;exact absurd h.symm ho
   |some ob=>
    rw[hb] at h
    cases ob with
    |row r=>
     simp only at h
     cases hle:Nat.ble (Nat.add off (P.cellsOf u)) r.size with
     |false=>rw[hle] at h;exact absurd h.symm ho
     |true=>
      rw[hle] at h
      have hle:off+P.cellsOf u<=r.size:=Z1 hle
      simp only[GH,Yj,Vp] at hr
      obtain⟨⟨⟨i,hi⟩,⟨d,hu⟩⟩,hn1⟩:=hr
      have hn1:1<=P.cellsOf u:=Z1 hn1
      obtain⟨l,hl,e⟩:=Ue g
      have e:t.getD a undef=_:=e
      obtain⟨cs,fr,hc,hrr⟩:=hs.row hb hl
      have hag:=Ps (w:=w) hu
      have hsz:P.cellsOf u=i.size:=by simp[Program.cellsOf,hi]
      cases h1:NK P u with
      |true=>
       rw[h1] at h hag
       obtain⟨vs,h2,h3,h4,h5⟩:=Pp hrr (P.cellsOf u) off hle
       refine⟨_,.agg ⟨vs⟩,h,by simp only[Yt];exact⟨vs,h2,h5,rfl⟩,?_⟩
       have:=Ri (P:=P) hc vs (o:=l.base+off) h4
       rw[h3] at this
       show(do loadVar u (<-asAddr (t.getD a undef)):Sem Value).run P w=_
       rw[e]
       simp only[asAddr,Sem.run_bind,Sem.run_pure,Result.andThen_ok,loadVar,hag,if_true,Wq hi,<-hsz,this]
      |false=>
       rw[h1] at h hag
       obtain⟨v,hv,hrel⟩:=hrr.cell off (by omega)
       refine⟨_,v,h,hrel,?_⟩
       show(do loadVar u (<-asAddr (t.getD a undef)):Sem Value).run P w=_
       rw[e]
       simp only[asAddr,Sem.run_bind,Sem.run_pure,Result.andThen_ok,loadVar,hag,YJ,if_false,run_load,Hm hc,hv]
    |_=>exact absurd h.symm ho
  |_=>exact absurd h.symm ho
theorem vQ(hs:Ww P σ H w)(ht:Qx σ N tm t){o:CR}(ho:o≠.fail): ∀(l:List ResultVar) (kk:List AV->CR),l.all (GH P)=true->Of tm H kk (l.map (IS P))=o->
  ∃vs us,kk vs=o∧YO σ vs us∧(l.mapM (mU t)).run P w=.ok us w
 |[],kk,_,h=>⟨[],[],h,Ul,rfl⟩
 |r::l,kk,hr,h=>by
  simp only[List.all_cons,Yj] at hr
  obtain⟨v,u,h1,h2,h3⟩:=aa (r:=r) hs ht hr.1 (kk:=λv=>Of tm H (λvs=>kk (v::vs)) (l.map (IS P))) h ho
  obtain⟨vs,us,h4,h5,h6⟩:=vQ hs ht ho l _ hr.2 h1
  refine⟨v::vs,u::us,h4,WD h2 h5,?_⟩
  have h3:(mU t r).run P w=.ok u w:=h3
  rw[List.mapM_cons]
  simp only[Sem.run_bind,h3,Result.andThen_ok,h6,Sem.run_pure]
theorem IT(hs:Ww P σ H w)(ht:Qx σ N tm t){fn:Func}(hr:fn.results.toList.all (GH P)=true){r:CR}(h:AI.results (fn.results.toList.map (IS P)) tm H=r)(ho:r≠.fail):
  ∃v u,r=.ret v H∧Yt σ v u∧(Go.results fn t).run P w=.ok u w:=by
 obtain⟨vs,us,h1,h2,h3⟩:=vQ hs ht ho fn.results.toList _ hr h
 have hm:(fn.results.mapM (mU t)).run P w=.ok us.toArray w:=by
  rw[Array.mapM_eq_mapM_toList]
  show((fn.results.toList.mapM (mU t))>>=λl=>pure l.toArray).run P w=_
  rw[Sem.run_bind,h3];rfl
 have hrun: ∀u,(if h:us.toArray.size=1 then us.toArray[0] else .tuple us.toArray)=u->(Go.results fn t).run P w=.ok u w:=by
  intro u hu
  unfold Go.results
  rw[Sem.run_bind]
  show Result.andThen ((fn.results.mapM (mU t)).run P w) _=_
  rw[hm]
  show Result.ok _ w=_
  rw[<-hu]
 have hlen:=h2.length
 match vs,us,h1,h2,hlen,hrun with
 |[v],[u],h1,h2,_,hrun=>
  obtain⟨v',vs',h4,_,h6⟩:=h2.cons_inv
  cases h6
  exact⟨v,u,h1.symm,h4,hrun u rfl⟩
 |[],[],h1,h2,_,hrun=>exact⟨.tup [],.tuple #[],h1.symm,by simp[Yt,YO],hrun _ rfl⟩
 |v1::v2::vs,u1::u2::us,h1,h2,_,hrun=>
  refine⟨.tup (v1::v2::vs),.tuple (u1::u2::us).toArray,h1.symm,by simp only[Yt];exact⟨_,h2,rfl⟩,hrun _ ?_⟩
  rw[dif_neg (by simp)]
theorem mG:params=(List.range' 0 16).map Pu:=rfl
theorem Bu{σ:Mp}{t:Array Value}: ∀(m k:Nat) (tm:TM) (vs:List AV),k+m<=512->(∀n,n<512->Yt σ (Sk n tm) (t.getD n undef))->(∀i v,vs[i]? =some v->Yt σ v (t.getD (k+i) undef))->
  ∀n,n<512->Yt σ (Sk n (Pt tm ((List.range' k m).map Pu) vs)) (t.getD n undef)
 |0,k,tm,vs,_,h,_,n,hn=>by cases vs<;>exact h n hn
 |m+1,k,tm,[],_,h,_,n,hn=>by rw[Rq];exact h n hn
 |m+1,k,tm,v::vs,hk,h,hv,n,hn=>by
  rw[Rq]
  show Yt σ (Sk n (Pt (Pu k tm v) ((List.range' (k+1) m).map Pu) vs)) _
  refine Bu m (k+1) (Pu k tm v) vs (by omega) (λj hj=>?_) (λi u hi=>?_) n hn
  ·rw[Hz j k hj (by omega)]
   by_cases e:j=k
   ·subst e;rw[if_pos rfl];exact hv 0 v rfl
   ·rw[if_neg e];exact h j hj
  ·have:=hv (i+1) u (by simpa using hi)
   rw[show k+(i+1)=k+1+i by omega] at this
   exact this
theorem wa{σ:Mp}{as:List AV}{vs:List Value}(h:YO σ as vs)(N:Nat):Qx σ N (TI as) ((⟨vs⟩:Array Value)++Array.replicate (N - (⟨vs⟩:Array Value).size) undef):=by
 refine⟨by simp;omega,?_⟩
 unfold TI
 rw[mG]
 refine Bu 16 0 ML as (by decide) (λn hn=>?_) (λi v hi=>?_)
 ·rw[qA];simp[Yt]
 ·obtain⟨u,hu,hr⟩:=h.get hi
  have:((⟨vs⟩:Array Value)++Array.replicate (N - (⟨vs⟩:Array Value).size) undef).getD (0+i) undef=u:=by
   have hlt:i<vs.length:=(Xh.1 hu).1
   have hlt':i<(⟨vs⟩:Array Value).size:=hlt
   rw[Zs,ZU,Array.getElem?_append_left hlt']
   have:(⟨vs⟩:Array Value)[i]? =vs[i]? :=by simp
   rw[this,hu];rfl
  rw[this];exact hr
end
section
variable {P:Program}
theorem kU{σ:Mp}{H:Heap}{w:World}(hs:Ww P σ H w){b:Nat}{o:Obj}{l:Loc}(hb:H.t.get b=some o)(hl:σ b=some l){x:Option (List Deferred)}(hx:w.heap[l.blk]? =some (.deferred x)):False:=by
 obtain⟨c,hc,hr⟩:=hs.alive b o l hb hl
 rw[hx] at hc
 cases hc
 cases o with
 |row r=>obtain⟨_,_,h,_⟩:=hr;cases h
 |map es cl=>obtain⟨_,h,_⟩:=hr;cases h
 |siter s p=>obtain⟨h,_⟩:=hr;cases h
 |cmap es=>obtain⟨_,_,_,h,_⟩:=hr;cases h
 |miter m s q=>obtain⟨_,_,h,_⟩:=hr;cases h
 |loop=>obtain⟨_,h⟩:=hr;cases h
theorem Tr.take{σ0 σ:Mp}{H0 H:Heap}{w0 w:World}(t:Tr P σ0 H0 w0 σ H w){r:Nat}{x:Option (List Deferred)}(y:Option (List Deferred))(hr:w.heap[r]? =some (.deferred x))(hlo:w0.heap.size<=r):
  Tr P σ0 H0 w0 σ H (w.putObj r (.deferred y)):=by
 refine⟨t.ext,⟨t.sim.dom,t.sim.low,λb o l hb hl=>?_,t.sim.inj,t.sim.glob,t.sim.ro⟩,by simpa using t.size,λk hk hn=>?_,t.wr,t.nx,t.ro,t.low,t.tape,t.os,t.out,t.pend⟩
 ·obtain⟨c,hc,h⟩:=t.sim.alive b o l hb hl
  refine⟨c,?_,h⟩
  rw[World.putObj_heap_other λe=>kU t.sim hb hl (x:=x) (by rw[e];exact hr)]
  exact hc
 ·rw[World.putObj_heap_other (by omega)]
  exact t.frame k hk hn
theorem V4.take{σ:Mp}{w:World}{lo r:Nat}{y:Option (List Deferred)}{l:List (AV×List AV)}{ds:List Deferred}(h:V4 σ w lo l ds)(hn: ∀d∈ds,∀r',d.target=.collected r'->r'≠r):V4 σ (w.putObj r (.deferred y)) lo l ds:=by
 induction h with
 |nil=>exact .nil
 |call h1 h2 h3 _ ih=>exact .call h1 h2 h3 (ih λd hd=>hn d (ZK _ hd))
 |mark h1 h2 h3 _ ih=>exact .mark h1 (by rw[World.putObj_heap_other (hn _ (ZG ..) _ rfl)];exact h2) h3 (ih λd hd=>hn d (ZK _ hd))
theorem Rv{f:FuncId}{fn:Func}{c:Code}{args:Array Value}{w:World}(hf:P.funcs[f]? =some fn)(hname:fn.name≠ "runtime.NumGoroutine")(hb:fn.body=some c):(callFunc f args).run P w=.ok (.enter f args) w:=by
 simp[callFunc,hf,hname,hb]
def Dg(σ:Mp)(pn:Option AV)(u:FrameMode):Prop:=match pn with
 |none=>u=.returning
 |some v=> ∃x,Yt σ v x∧u=.panicking [{v:=x,recovered:=false}]
def DOk(P:Program)(dcall:Option AV->Nat->List AV->Heap->DR):Prop:=
 ∀(pn:Option AV) (g:Nat) (args:List AV) (H:Heap) (v:AV) (H':Heap) (rec:Bool),dcall pn g args H=.ret v H' rec->
 ∀(σ:Mp) (w:World) (vs:List Value) (c:Frame) (cs:List Frame),Ww P σ H w->YO σ args vs->Dg σ pn c.mode->
  (callFunc g ⟨vs⟩).run P w=.ok (.enter g ⟨vs⟩) w∧(rec=true->pn.isSome=true)∧
  ∃σ' w',Tr P σ H w σ' H' w'∧Steps P (lone (Frame.enter P g ⟨vs⟩ .deferred) (c::cs) w) (lone {c with mode:=if rec then .returning else c.mode} cs w')
def ZaQ(P:Program)(σ0:Mp)(H0:Heap)(w0:World)(r:CR)(e:Ending)(w:World):Prop:=match r with
 |.fail=>False
 |.ret v H'=> ∃u σ',e=.returned u∧Yt σ' v u∧Tr P σ0 H0 w0 σ' H' w
 |.pan v H'=> ∃u σ',e=.panicked [{v:=u,recovered:=false}]∧Yt σ' v u∧Tr P σ0 H0 w0 σ' H' w
theorem xS{dcall:Option AV->Nat->List AV->Heap->DR}(hD:DOk P dcall){f:FuncId}{fn:Func}(hf:P.funcs[f]? =some fn)(hr:fn.results.toList.all (GH P)=true){N:Nat}{σ0:Mp}{H0:Heap}{w0:World}{tm:TM}{tms:Array Value}:
  ∀(ds:List Deferred) (σ:Mp) (H:Heap) (w:World) (l:List (AV×List AV)) (pn:Option AV) (fr:Frame) (cs:List Frame) (r:CR),fr.defers=ds->fr.fn=f->fr.kind=.normal->fr.tmps=tms->
  Tr P σ0 H0 w0 σ H w->Qx σ N tm tms->V4 σ w w0.heap.size l ds->Dg σ pn fr.mode->deferred dcall (fn.results.toList.map (IS P)) tm l pn H=r->r≠.fail->
  ∃e w' fr',ZaQ P σ0 H0 w0 r e w'∧Steps P (lone fr cs w) (lone fr' cs w')∧fr'.fn=f∧fr'.leaving P w' e:=by
 intro ds
 induction ds with
 |nil=>
  intro σ H w l pn fr cs r hds hfn hk htm t ht hd hm he hne
  cases hd
  cases pn with
  |none=>
   obtain⟨v,u,rfl,h1,h2⟩:=IT t.sim ht hr he hne
   exact⟨.returned u,w,fr,⟨u,σ,rfl,h1,t⟩,Steps.refl P _,hfn,hm,hds,hk,fn,by rw[hfn];exact hf,by rw[htm];exact h2⟩
  |some v=>
   obtain⟨x,hx,hm⟩:=hm
   have he:CR.pan v H=r:=he
   subst he
   exact⟨_,w,fr,⟨x,σ,rfl,hx,t⟩,Steps.refl P _,hfn,hm,hds,fn,by rw[hfn];exact hf⟩
 |cons d ds ih=>
  intro σ H w l pn fr cs r hds hfn hk htm t ht hd hm he hne
  have hrun:fr.mode≠.run:=by
   cases pn with
   |none=>intro e;rw[show fr.mode=.returning from hm] at e;cases e
   |some v=>obtain⟨x,_,hm⟩:=hm;intro e;rw[hm] at e;cases e
  cases hd with
  |mark h1 h2 h3 h4=>
   have hst:=step_collected (P:=P) (cs:=cs) hrun hds rfl (run_takeDeferred h2)
   obtain⟨e,w',fr',g1,g2,g3,g4⟩:=ih σ H (w.putObj _ (.deferred none)) l pn {fr with defers:=[]++ds} cs r rfl hfn hk htm (t.take none h2 h1) ht (h4.take h3) hm he hne
   exact⟨e,w',fr',g1,.head hst g2,g3,g4⟩
  | @call g p q args x y z l' _ h1 h2 h3 h4=>
   have he:(match dcall pn g (p++(args++q)) H with|.ret _ H' rec=>deferred dcall (fn.results.toList.map (IS P)) tm l' (cond rec none pn) H'|_=>.fail)=r:=he
   cases hdc:dcall pn g (p++(args++q)) H with
   |fail=>rw[hdc] at he;exact absurd he.symm hne
   |pan v H' rec=>rw[hdc] at he;exact absurd he.symm hne
   |ret v H' rec=>
    rw[hdc] at he
    have he:deferred dcall (fn.results.toList.map (IS P)) tm l' (cond rec none pn) H'=r:=he
    obtain⟨k1,k2,σ1,w1,t1,k3⟩:=hD pn g _ H v H' rec hdc σ w (x++(y++z)) {fr with defers:=ds} cs t.sim (h1.append (h2.append h3)) hm
    have hinv:(invoke (.fn (.func g) ⟨z⟩) ⟨x++y⟩).run P w=.ok (.enter g ⟨x++(y++z)⟩) w:=by
     have:(⟨x++y⟩:Array Value)++(⟨z⟩:Array Value)=⟨x++(y++z)⟩:=by simp
     simp only[invoke,this]
     exact k1
    have hst:=step_defer (P:=P) (cs:=cs) hrun hds (fv:=.func g) (cap:=⟨z⟩) rfl hinv
    have hm':Dg σ1 (cond rec none pn) (if rec then FrameMode.returning else fr.mode):=by
     cases rec with
     |true=>rfl
     |false=>
      cases pn with
      |none=>exact hm
      |some v=>obtain⟨x,hx,hm⟩:=hm;exact⟨x,hx.mono t1.ext,hm⟩
    obtain⟨e,w',fr',g1,g2,g3,g4⟩:=ih σ1 H' w1 l' (cond rec none pn) {{fr with defers:=ds} with mode:=if rec then FrameMode.returning else fr.mode} cs r rfl hfn hk htm (t.trans t1) (ht.mono t1.ext) (h4.tr t.sim t1) hm' he hne
    exact⟨e,w',fr',g1,.head hst (k3.trans g2),g3,g4⟩
def ZaR(P:Program)(f:Nat)(cf:CF):Prop:=
 ∃fn c ds,P.funcs[f]? =some fn∧fn.name≠ "runtime.NumGoroutine" ∧fn.body=some c∧cf.rs=fn.results.toList.map (IS P)∧
  (cf.body=Q7∨(fn.results.toList.all (GH P)=true∧WR P fn.ntmps cf.body [.code c] ds))
theorem wE{f:FuncId}{fn:Func}{c:Code}{args:Array Value}{kd:CallKind}(hf:P.funcs[f]? =some fn)(hb:fn.body=some c):
  Frame.enter P f args kd=({(default:Frame) with fn:=f,kind:=kd}:Frame).atR {tmps:=args++Array.replicate (fn.ntmps - args.size) undef,defers:=[]} ([.code c]++[]):=by
 simp[Frame.enter,Frame.atR,hf,hb]
 rfl
theorem GF(σ:Mp)(cs:List Frame):Hh σ .normal (λ_=>cs) none:=by
 refine⟨λfr h=>?_,λv h=>by cases h⟩
 unfold tryRecover
 rw[h]
theorem AW{dcall:Option AV->Nat->List AV->Heap->DR}(hD:DOk P dcall){f:Nat}{cf:CF}(h:ZaR P f cf){c:Ctx}{args:List AV}{H:Heap}{σ:Mp}{w:World}{vs:List Value}(hs:Ww P σ H w)(hv:YO σ args vs)
  (hc:Oz P c ({(default:Frame) with fn:=f,kind:=.normal}:Frame) σ H w):LR P σ H w (M9 dcall cf.rs (cf.body c (TI args) H ⟨[],none⟩)) (.ok (.enter f ⟨vs⟩) w):=by
 obtain⟨fn,code,ds,hf,hname,hb,hrs,hbody⟩:=h
 rcases hbody with hbad|⟨hres,tJ⟩
 ·rw[hbad];exact trivial
 ·rw[hrs]
  generalize he:cf.body c (TI args) H ⟨[],none⟩=res
  generalize hr:M9 dcall (fn.results.toList.map (IS P)) res=r
  have key:r≠.fail-> ∀cs,∃e w' fr',ZaQ P σ H w r e w'∧Steps P (lone (Frame.enter P f ⟨vs⟩ .normal) cs w) (lone fr' cs w')∧fr'.fn=f∧fr'.leaving P w' e:=by
   intro hne cs
   cases res with
   |fail=>exact absurd hr.symm hne
   |ok o tm' H' x'=>
    have hst:St P σ ({(default:Frame) with fn:=f,kind:=.normal}:Frame) (λ_=>cs) fn.ntmps w.heap.size (TI args) H ⟨[],none⟩ {tmps:=(⟨vs⟩:Array Value)++Array.replicate (fn.ntmps - (⟨vs⟩:Array Value).size) undef,defers:=[]} w:=
     ⟨hs,wa hv fn.ntmps,.nil,GF σ cs,Zl _⟩
    obtain⟨σ1,a1,w1,t1,s1,_,arr⟩:=tJ c _ (λ_=>cs) w.heap.size σ _ H ⟨[],none⟩ _ w [] o tm' H' x' hc hst he
    rw[<-wE hf hb] at arr
    have go: ∀(pn:Option AV) (fr:Frame),Steps P (lone (Frame.enter P f ⟨vs⟩ .normal) cs w) (lone fr cs w1)->fr.defers=a1.defers->fr.fn=f->fr.kind=.normal->fr.tmps=a1.tmps->Dg σ1 pn fr.mode->
      deferred dcall (fn.results.toList.map (IS P)) tm' x'.df pn H'=r-> ∃e w' fr',ZaQ P σ H w r e w'∧Steps P (lone (Frame.enter P f ⟨vs⟩ .normal) cs w) (lone fr' cs w')∧fr'.fn=f∧fr'.leaving P w' e:=by
     intro pn fr hsteps h1 h2 h3 h4 h5 h6
     obtain⟨e,w',fr',g1,g2,g3,g4⟩:=xS hD hf hres a1.defers σ1 H' w1 x'.df pn fr cs r h1 h2 h3 h4 t1 s1.tm s1.df h5 h6 hne
     exact⟨e,w',fr',g1,hsteps.trans g2,g3,g4⟩
    have hdf: ∀pn:Option AV,(match x'.df with|[]=>(match pn with|none=>AI.results (fn.results.toList.map (IS P)) tm' H'|some v=>.pan v H')|df=>deferred dcall (fn.results.toList.map (IS P)) tm' df pn H')=deferred dcall (fn.results.toList.map (IS P)) tm' x'.df pn H':=by
     intro pn
     cases x'.df with
     |nil=>cases pn<;>rfl
     |cons d l=>rfl
    cases o with
    |normal=>
     exact go none _ (Steps.trans arr (.one (stepR_end rfl))) rfl rfl rfl rfl rfl ((hdf none).symm.trans hr)
    |ret=>
     obtain⟨todo,hs'⟩:=arr rfl
     exact go none _ hs' rfl rfl rfl rfl rfl ((hdf none).symm.trans hr)
    |pan v=>
     obtain⟨todo,u,hu,hs'⟩:=arr
     exact go (some v) _ hs' rfl rfl rfl rfl ⟨u,hu,rfl⟩ ((hdf (some v)).symm.trans hr)
    |exit i=>exact absurd hr.symm hne
  cases r with
  |fail=>exact trivial
  |ret v H'=>
   intro cs
   obtain⟨e,w',fr',⟨u,σ',rfl,h1,h2⟩,g2,g3,g4⟩:=key (by simp) cs
   exact⟨.returned u,w',fr',⟨σ',h1,h2⟩,g2,g3,g4⟩
  |pan v H'=>
   intro cs
   obtain⟨e,w',fr',⟨u,σ',rfl,h1,h2⟩,g2,g3,g4⟩:=key (by simp) cs
   exact⟨.panicked [{v:=u,recovered:=false}],w',fr',⟨u,rfl,σ',h1,h2⟩,g2,g3,g4⟩
theorem vp{σ0:Mp}{H0:Heap}{w0:World}: ∀(ds:List Deferred) (σ:Mp) (H:Heap) (w:World) (fr:Frame) (cs:List Frame),fr.defers=ds->fr.mode≠.run->Tr P σ0 H0 w0 σ H w->V4 σ w w0.heap.size [] ds->
  ∃w',Steps P (lone fr cs w) (lone {fr with defers:=[]} cs w')∧Tr P σ0 H0 w0 σ H w':=by
 intro ds
 induction ds with
 |nil=>
  intro σ H w fr cs hds hm t hd
  refine⟨w,?_,t⟩
  have:({fr with defers:=[]}:Frame)=fr:=by rw[<-hds]
  rw[this]
  exact Steps.refl P _
 |cons d ds ih=>
  intro σ H w fr cs hds hm t hd
  cases hd with
  |mark h1 h2 h3 h4=>
   have hst:=step_collected (P:=P) (cs:=cs) hm hds rfl (run_takeDeferred h2)
   obtain⟨w',g1,g2⟩:=ih σ H (w.putObj _ (.deferred none)) {fr with defers:=[]++ds} cs rfl hm (t.take none h2 h1) (h4.take h3)
   exact⟨w',.head hst g1,g2⟩
def eD(P:Program)(fs:T CF):Prop:= ∀f cf,fs.get f=some cf->ZaR P f cf
def NU(P:Program)(lib:Nat->List AV->Heap->Option CR):Prop:=
 ∀f args H r,lib f args H=some r-> ∀σ w vs,Ww P σ H w->YO σ args vs->LR P σ H w r ((callFunc f ⟨vs⟩).run P w)
noncomputable def kV(fs:T CF)(fuel:Nat)(ih:Nat->List AV->Heap->CR):Option AV->Nat->List AV->Heap->DR:=
 λpn g as H=>FY .fail fs g λcg=>FZ pn cg.rs (cg.body ⟨ih,VY,VX,fuel,false⟩ (TI as) H ⟨[],pn⟩)
theorem vH{α:Type}{d:α}{fs:T CF}{f:Nat}{k:CF->α}{r:α}(h:FY d fs f k=r)(hr:r≠d): ∃cf,fs.get f=some cf∧k cf=r:=by
 unfold FY at h
 split at h
 ·rename_i cf hcf;exact⟨cf,hcf,h⟩
 ·exact absurd h.symm hr
theorem AF{call:Nat->List AV->Heap->CR}(hcall:SD P call){rng:AV->(List AV->Heap->CR)->TM->Heap->X->Wd}(ce:x4 P rng)(fuel:Nat){b:Frame}(hb:b.roundOf=none)(σ:Mp)(H:Heap)(w:World):Oz P ⟨call,VY,rng,fuel,false⟩ b σ H w:=
 ⟨hcall,B4 σ H w,λ_=>hb,ce,λh=>absurd hb h⟩
theorem ZdW{fs:T CF}(hfs:eD P fs)(fuel:Nat){ih:Nat->List AV->Heap->CR}(hcall:SD P ih):DOk P (kV fs fuel ih):=by
 intro pn g args H v H' rec he σ w vs c cs hs hv hm
 obtain⟨cf,hcf,he⟩:=vH he (by simp)
 obtain⟨fn,code,ds,hf,hname,hb,hrs,hbody⟩:=hfs g cf hcf
 rcases hbody with hbad|⟨hres,tJ⟩
 ·rw[hbad] at he;cases he
 rw[hrs] at he
 generalize hbd:cf.body ⟨ih,VY,VX,fuel,false⟩ (TI args) H ⟨[],pn⟩=res at he
 obtain⟨K,hK1,hK2,hKr⟩: ∃K:Bool->List Frame,K pn.isSome=c::cs∧
   (∀x':X,∃c',K x'.rc.isSome=c'::cs∧({c' with mode:=settle c'.mode}:Frame)={c with mode:=if Ml pn x' then .returning else c.mode})∧Hh σ .deferred K pn:=by
  cases pn with
  |none=>
   have hm:c.mode=.returning:=hm
   refine⟨λ_=>c::cs,rfl,λx'=>⟨c,rfl,?_⟩,⟨λfr hfr=>?_,λv h=>by cases h⟩⟩
   ·show({c with mode:=settle c.mode}:Frame)={c with mode:=c.mode}
    rw[show settle c.mode=c.mode by rw[hm];rfl]
   ·rw[tryRecover_deferred hfr];simp[recoverD,hm]
  |some y=>
   obtain⟨x,hx,hm⟩:=hm
   refine⟨λun=>(if un then c else{c with mode:=.panicking [{v:=x,recovered:=true}]})::cs,rfl,λx'=>?_,⟨λfr hfr=>?_,λv h=>?_⟩⟩
   ·cases hrc:x'.rc with
    |none=>
     refine⟨_,rfl,?_⟩
     have:Ml (some y) x'=true:=by unfold Ml;rw[hrc]
     rw[this]
     rfl
    |some z=>
     refine⟨_,rfl,?_⟩
     have:Ml (some y) x'=false:=by unfold Ml;rw[hrc]
     rw[this]
     show({c with mode:=settle c.mode}:Frame)={c with mode:=c.mode}
     rw[show settle c.mode=c.mode by rw[hm];rfl]
   ·rw[tryRecover_deferred hfr];simp[recoverD]
   ·cases h
    refine⟨x,hx,λfr hfr=>?_⟩
    rw[tryRecover_deferred hfr]
    simp[recoverD,hm]
 have hst:St P σ ({(default:Frame) with fn:=g,kind:=.deferred}:Frame) K fn.ntmps w.heap.size (TI args) H ⟨[],pn⟩ {tmps:=(⟨vs⟩:Array Value)++Array.replicate (fn.ntmps - (⟨vs⟩:Array Value).size) undef,defers:=[]} w:=
  ⟨hs,wa hv fn.ntmps,.nil,hKr,Zl _⟩
 refine⟨Rv hf hname hb,?_,?_⟩
 ·intro hrec
  cases pn with
  |some _=>rfl
  |none=>
   exfalso
   subst hrec
   cases res with
   |fail=>cases he
   |ok o tm' H1 x'=>
    have h0:Ml none x'=false:=rfl
    cases o with
    |normal=>
     simp only[FZ] at he
     split at he
     ·cases he
     ·cases he
    |ret=>
     simp only[FZ] at he
     split at he
     ·cases he
     ·cases he
    |pan v=>simp only[FZ] at he;split at he<;>cases he
    |exit i=>cases he
 ·cases res with
  |fail=>cases he
  |ok o tm' H1 x'=>
   obtain⟨σ1,a1,w1,t1,s1,_,arr⟩:=tJ ⟨ih,VY,VX,fuel,false⟩ _ K w.heap.size σ _ H ⟨[],pn⟩ _ w [] o tm' H1 x' (AF hcall (GI P) fuel rfl σ H w) hst hbd
   rw[<-wE hf hb] at arr
   rw[hK1] at arr
   obtain⟨c',hc',hset⟩:=hK2 x'
   have go: ∀fr:Frame,Steps P (lone (Frame.enter P g ⟨vs⟩ .deferred) (c::cs) w) (lone fr (c'::cs) w1)->fr.defers=a1.defers->fr.fn=g->fr.kind=.deferred->fr.tmps=a1.tmps->fr.mode=.returning->
     (match x'.df,AI.results (fn.results.toList.map (IS P)) tm' H1 with|[],.ret v H=>DR.ret v H (Ml pn x')|_,_=>.fail)=.ret v H' rec->
     ∃σ' w',Tr P σ H w σ' H' w'∧Steps P (lone (Frame.enter P g ⟨vs⟩ .deferred) (c::cs) w) (lone {c with mode:=if rec then .returning else c.mode} cs w'):=by
    intro fr hsteps h1 h2 h3 h4 h5 h6
    split at h6
    ·rename_i v' H2 hdf hrr
     cases h6
     obtain⟨v2,u,e2,h7,h8⟩:=IT s1.sim s1.tm hres hrr (by simp)
     cases e2
     have hd:=s1.df
     rw[hdf] at hd
     obtain⟨w2,g1,g2⟩:=vp a1.defers σ1 _ w1 fr (c'::cs) h1 (by rw[h5];intro e;cases e) t1 hd
     obtain⟨v3,u3,e3,_,h9⟩:=IT g2.sim s1.tm hres hrr (by simp)
     have hgo:({fr with defers:=[]}:Frame).going P w2 (.returned u3):=⟨h5,rfl,fn,by rw[show({fr with defers:=[]}:Frame).fn=g from h2];exact hf,by rw[show({fr with defers:=[]}:Frame).tmps=a1.tmps from h4];exact h9⟩
     have ci:=step_going_returned (P:=P) (c:=c') (cs:=cs) (fr:={fr with defers:=[]}) h3 hgo
     rw[hset] at ci
     exact⟨σ1,w2,g2,hsteps.trans (g1.trans (.one ci))⟩
    ·cases h6
   cases o with
   |normal=>
    have arr:Steps P _ _:=arr
    rw[hc'] at arr
    exact go _ (arr.trans (.one (stepR_end rfl))) rfl rfl rfl rfl rfl he
   |ret=>
    obtain⟨todo,hs'⟩:=arr rfl
    rw[hc'] at hs'
    exact go _ hs' rfl rfl rfl rfl rfl he
   |pan v=>simp only[FZ] at he;split at he<;>cases he
   |exit i=>cases he
theorem wm{lib:Nat->List AV->Heap->Option CR}{fs:T CF}(d7:NU P lib)(hfs:eD P fs)(fuel:Nat)(ce: ∀call,SD P call->x4 P (Lc fs fuel call)): ∀n,SD P (ZJ lib fs fuel n)
 |0=>λ_ _ _ _ _ _ _ _=>trivial
 |n+1=>by
  have ih:=wm d7 hfs fuel ce n
  intro f args H σ w vs hs hv
  show LR P σ H w (pb (lib f args H) (FY .fail fs f λcf=>M9 (kV fs fuel (ZJ lib fs fuel n)) cf.rs (cf.body ⟨ZJ lib fs fuel n,VY,Lc fs fuel (ZJ lib fs fuel n),fuel,false⟩ (TI args) H ⟨[],none⟩))) _
  cases hl:lib f args H with
  |some r=>exact d7 f args H r hl σ w vs hs hv
  |none=>
   show LR P σ H w (FY .fail fs f _) _
   unfold FY
   cases hg:fs.get f with
   |none=>exact trivial
   |some cf=>
    have hfn:=hfs f cf hg
    have hrun:(callFunc f ⟨vs⟩).run P w=.ok (.enter f ⟨vs⟩) w:=by
     obtain⟨fn,code,ds,hf,hname,hb,_⟩:=hfn
     exact Rv hf hname hb
    rw[hrun]
    exact AW (ZdW hfs fuel ih) hfn hs hv (AF ih (ce _ ih) fuel rfl σ H w)
theorem Ww.loop{σ:Mp}{H:Heap}{w:World}(hs:Ww P σ H w){l:Nat}{r0:Loop}(hl:w.heap[l]? =some (.loop r0))(r1:Loop):Ww P σ H (w.putObj l (.loop r1)):=by
 have hlt:l<w.heap.size:=(ZT.1 hl).1
 refine⟨hs.dom,hs.low,λb o L hb hL=>?_,hs.inj,hs.glob,hs.ro⟩
 obtain⟨c,hc,hr⟩:=hs.alive b o L hb hL
 by_cases e:L.blk=l
 ·rw[e,hl] at hc
  cases hc
  refine⟨.loop r1,by rw[e];exact World.putObj_heap_same hlt,?_⟩
  cases o with
  |row r=>obtain⟨_,_,h,_⟩:=hr;cases h
  |map es cl=>obtain⟨_,h,_⟩:=hr;cases h
  |siter s p=>obtain⟨h,_⟩:=hr;cases h
  |cmap es=>obtain⟨_,_,_,h,_⟩:=hr;cases h
  |miter m s q=>obtain⟨_,_,h,_⟩:=hr;cases h
  |loop=>exact⟨r1,rfl⟩
 ·exact⟨c,by rw[World.putObj_heap_other e];exact hc,hr⟩
theorem Tr.mask{σ σ':Mp}{H H':Heap}{w w':World}{l:Nat}{r0 r1:Loop}(hs:Ww P σ H w)(hl:w.heap[l]? =some (.loop r0))(t:Tr P σ H (w.putObj l (.loop r1)) σ' H' w'):Tr P σ H w σ' H' (w'.putObj l (.loop r0)):=by
 have hlt:l<w.heap.size:=(ZT.1 hl).1
 have hl':w'.heap[l]? =some (.loop r1):=t.dark (hs.loop hl r1) (World.putObj_heap_same hlt) trivial
 have hz:w.heap.size<=w'.heap.size:=by have:=t.size;simpa using this
 refine⟨t.ext,t.sim.loop hl' r0,by simpa using hz,λk hk hn=>?_,λb L hw hL hlt'=>t.wr b L hw hL (by simpa using hlt'),t.nx,t.ro,t.low,t.tape,t.os,t.out,t.pend⟩
 by_cases e:k=l
 ·subst e
  rw[World.putObj_heap_same (by omega),hl]
 ·rw[World.putObj_heap_other e,t.frame k (by simpa using hk) hn,World.putObj_heap_other e]
theorem Tr.putLoop{σ0 σ:Mp}{H0 H:Heap}{w0 w:World}(t:Tr P σ0 H0 w0 σ H w){l:Nat}{r0:Loop}(r1:Loop)(hl:w.heap[l]? =some (.loop r0))(hlo:w0.heap.size<=l):Tr P σ0 H0 w0 σ H (w.putObj l (.loop r1)):=
 ⟨t.ext,t.sim.loop hl r1,by simpa using t.size,λk hk hn=>by rw[World.putObj_heap_other (by omega)];exact t.frame k hk hn,t.wr,t.nx,t.ro,t.low,t.tape,t.os,t.out,t.pend⟩
theorem V4.putLoop{σ:Mp}{w:World}{lo l:Nat}{r0:Loop}(r1:Loop)(hl:w.heap[l]? =some (.loop r0)){ls:List (AV×List AV)}{ds:List Deferred}(h:V4 σ w lo ls ds):V4 σ (w.putObj l (.loop r1)) lo ls ds:=
 h.mono (Ext.refl σ) λr x hr=>by
  rw[World.putObj_heap_other λe=>by rw[e,hl] at hr;cases hr];exact hr
theorem AU{σ:Mp}{N:Nat}: ∀(ps:List Nat) (ys:List AV) (vs:List Value) (tm:TM) (t:Array Value),Qx σ N tm t->YO σ ys vs->ps.length=vs.length->(ps.all λp=>Be N (some p))=true->
  Qx σ N (Pt tm (ps.map λp=>XW (some p)) ys) ((ps.zip vs).foldl (λt (p,v)=>t.setIfInBounds p v) t)
 |[],ys,vs,tm,t,h,hr,hl,_=>by cases ys<;>simpa [Pt] using h
 |p::ps,[],vs,tm,t,h,hr,hl,_=>by rw[hr.nil_inv] at hl;cases hl
 |p::ps,y::ys,vs,tm,t,h,hr,hl,hp=>by
  obtain⟨v,vs',h1,h2,rfl⟩:=hr.cons_inv
  simp only[List.all_cons,Yj] at hp
  have:=h.set (a:=y) (v:=v) (Z1 hp.1) h1
  exact AU ps ys vs' _ _ this h2 (by simpa using hl) hp.2
theorem zH{r:Wd}{c:CR}(h:Le r=c)(hc:c≠.fail): ∃tm H x,r=.ok .normal tm H x∧c=.ret (.bool true) H:=by
 unfold Le at h
 split at h
 ·exact⟨_,_,_,rfl,h.symm⟩
 ·exact absurd h.symm hc
theorem fi{N:Nat}{da db:D}{asg body:Code}{ds1 ds2:List Nat}(ha:WR P N da [.code asg] ds1)(hb:WR P N db [.code body] ds2){ps:Array Tmp}(hps:(ps.toList.all λt=>Be N (some t))=true)
  {call:Nat->List AV->Heap->CR}(hcall:SD P call)(fuel:Nat){σ:Mp}{tm:TM}{t:Array Value}(ht:Qx σ N tm t){fn:FuncId}
  {σ1:Mp}{H1:Heap}{w1:World}{l df:Nat}{ys:List AV}{vs:List Value}(he:Ext σ σ1)(hs:Ww P σ1 H1 w1)
  (hl:w1.heap[l]? =some (.loop {state:=.ready,pending:=none,fn:=fn,tmps:=t,params:=ps,assign:=asg,body:=body,defers:=df}))(hv:YO σ1 ys vs):
  LR P σ1 H1 w1 (cond (Nat.beq (YF ys) (YF (ps.toList.map λp=>XW (some p)))) (Le (Zj da db ⟨call,VY,VX,fuel,true⟩ (Pt tm (ps.toList.map λp=>XW (some p)) ys) H1 ⟨[],none⟩)) .fail) ((Instr.yield l ⟨vs⟩).run P w1):=by
 cases hlen:Nat.beq (YF ys) (YF (ps.toList.map λp=>XW (some p))) with
 |false=>exact trivial
 |true=>
  show LR P σ1 H1 w1 (Le _) _
  generalize hr:Le (Zj da db ⟨call,VY,VX,fuel,true⟩ (Pt tm (ps.toList.map λp=>XW (some p)) ys) H1 ⟨[],none⟩)=c
  cases c with
  |fail=>exact trivial
  |pan v H=>obtain⟨_,_,_,_,h⟩:=zH hr (by simp);cases h
  |ret v H=>
   obtain⟨tm',H',x',hrun,hc⟩:=zH hr (by simp)
   cases hc
   have hlen:=ZW hlen
   rw[Yw,Yw,Zi,hv.length] at hlen
   have hsz:(⟨vs⟩:Array Value).size=ps.size:=by simpa using hlen
   rw[run_yield hl hsz]
   intro fr cs
   let b:Frame:={(default:Frame) with fn:=fn,kind:=.normal,roundOf:=some l}
   let t1:Array Value:=(ps.zip ⟨vs⟩).foldl (λtmps (t,a)=>tmps.setIfInBounds t a) t
   have hb0:Frame.round l fn t1 asg body .normal=b.atR {tmps:=t1,defers:=[]} ([.code asg]++[.beginRound,.code body]):=by simp[Frame.round,Frame.atR,b]
   have htl:t1=(ps.toList.zip vs).foldl (λt (p,v)=>t.setIfInBounds p v) t:=by
    show(ps.zip ⟨vs⟩).foldl _ t=_
    rw[<-Array.foldl_toList,Array.toList_zip]
   have ht1:Qx σ1 N (Pt tm (ps.toList.map λp=>XW (some p)) ys) t1:=by
    rw[htl]
    exact AU ps.toList ys vs tm t (ht.mono he) hv (by simpa using hlen.symm) hps
   have ctx: ∀(σ:Mp) (H:Heap) (w:World),Oz P ⟨call,VY,VX,fuel,true⟩ b σ H w:=λσ H w=>⟨hcall,B4 σ H w,(λh=>by cases h),GI P,λ_=>rfl⟩
   have hst:St P σ1 b (λ_=>fr::cs) N w1.heap.size (Pt tm (ps.toList.map λp=>XW (some p)) ys) H1 ⟨[],none⟩ {tmps:=t1,defers:=[]} w1:=
    ⟨hs,ht1,.nil,GF σ1 _,Zl _⟩
   obtain⟨o1,Tx,H2,x1,h1,h2⟩:=BT hrun
   rcases h2 with⟨rfl,h2⟩|⟨hne,h3,_⟩
   ·obtain⟨σ2,a2,w2,tr1,s1,_,PE⟩:=ha _ b (λ_=>fr::cs) w1.heap.size σ1 _ H1 ⟨[],none⟩ _ w1 [.beginRound,.code body] .normal Tx H2 x1 (ctx _ _ _) hst h1
    have hl2:=tr1.dark hs hl trivial
    have hbr:=run_beginRound (P:=P) hl2 rfl
    have s2:St P σ2 b (λ_=>fr::cs) N w1.heap.size Tx H2 x1 a2 (w2.putObj l (.loop {state:=.busy,pending:=none,fn:=fn,tmps:=t,params:=ps,assign:=asg,body:=body,defers:=df})):=
     ⟨s1.sim.loop hl2 _,s1.tm,s1.df.putLoop _ hl2,s1.rc,by simpa using s1.lo⟩
    obtain⟨σ3,a3,w3,tr2,s3,_,Ii⟩:=hb _ b (λ_=>fr::cs) w1.heap.size σ2 Tx H2 x1 a2 _ [] .normal tm' H x' (ctx _ _ _) s2 h2
    have hl3:w3.heap[l]? =some (.loop {state:=.busy,pending:=none,fn:=fn,tmps:=t,params:=ps,assign:=asg,body:=body,defers:=df}):=
     tr2.dark s2.sim (World.putObj_heap_same (ZT.1 hl2).1) trivial
    have hend:=run_endRound (P:=P) none hl3
    have tr:=tr1.trans (Tr.mask s1.sim hl2 tr2)
    refine⟨.bool true,_,⟨σ3,by simp[Yt],tr⟩,?_⟩
    rw[hb0]
    have PE:Steps P _ _:=PE
    have Ii:Steps P _ _:=Ii
    exact PE.trans (.head (stepR_beginRound rfl hbr) (Ii.trans (.one (stepR_round_end rfl rfl hend))))
   ·exact absurd h3 hne
theorem uf{N:Nat}{da db:D}{asg body:Code}{ds1 ds2:List Nat}(ha:WR P N da [.code asg] ds1)(hb:WR P N db [.code body] ds2){g:Operand}{ps:Array Tmp}(hps:(ps.toList.all λt=>Be N (some t))=true):
  WR P N (xB (YQ P g) (ps.toList.map λt=>XW (some t)) (Zj da db)) [.code (.rangeFunc g ps asg body)] []:=by
 intro c b K lo σ tm H x a w k o tm' H' x' hc hs he
 have he:c.rng (YQ P g tm) (λys H=>cond (Nat.beq (YF ys) (YF (ps.toList.map λt=>XW (some t)))) (Le (Zj da db ⟨c.call,VY,VX,c.fuel,true⟩ (Pt tm (ps.toList.map λt=>XW (some t)) ys) H ⟨[],none⟩)) .fail) tm H x=.ok o tm' H' x':=he
 by_cases hb0:b.roundOf=none
 ·obtain⟨σ',a',w',h1,h2,h3,h4⟩:=hc.rng _ _ tm H x o tm' H' x' he σ w b K N lo a k g ps asg body hs hb0 (KJ hs.sim hs.tm g) (λσ1 H1 w1 l df ys vs h1 h2 h3 h4=>fi ha hb hps hc.call c.fuel hs.tm h1 h2 h3 h4)
  exact⟨σ',a',w',h1,h2,λn _=>by rw[h3],h4⟩
 ·rw[hc.rngN hb0] at he
  cases he
theorem V4.lt{σ:Mp}{w:World}{lo:Nat}{l:List (AV×List AV)}{ds:List Deferred}(h:V4 σ w lo l ds): ∀d∈ds,∀r,d.target=.collected r->r<w.heap.size:=by
 induction h with
 |nil=>intro d hd;cases hd
 |call _ _ _ _ ih=>
  intro d hd r hr
  rcases ZN.1 hd with rfl|hd
  ·cases hr
  ·exact ih d hd r hr
 |mark _ h2 _ _ ih=>
  intro d hd r hr
  rcases ZN.1 hd with rfl|hd
  ·cases hr;exact(ZT.1 h2).1
  ·exact ih d hd r hr
theorem Tr.block{σ:Mp}{H:Heap}{w:World}(hs:Ww P σ H w)(c:Go.Obj):Tr P σ H w σ H (w.alloc c):=by
 have hf: ∀k,k<w.heap.size->(w.alloc c).heap[k]? =w.heap[k]? :=λk hk=>SA hk
 exact⟨Ext.refl σ,hs.grow hf,by simp,λk hk _=>hf k hk,λb l hw hl _=>⟨b,l,hw,hl,rfl⟩,Zl _,rfl,λ_ _=>rfl,rfl,rfl,rfl,λ_ _ h=>⟨rfl,h⟩⟩
theorem kJ{r:CR}{tm:TM}{x:X}{o:Out}{tm':TM}{H':Heap}{x':X}(h:kH r tm x=.ok o tm' H' x'):tm'=tm∧x'=x∧((∃v,r=.ret v H'∧o=.normal)∨ ∃v,r=.pan v H'∧o=.pan v):=by
 cases r with
 |fail=>cases h
 |ret v H=>cases h;exact⟨rfl,rfl,.inl ⟨v,rfl,rfl⟩⟩
 |pan v H=>cases h;exact⟨rfl,rfl,.inr ⟨v,rfl,rfl⟩⟩
theorem vU{fs:T CF}(hfs:eD P fs)(fuel:Nat){call:Nat->List AV->Heap->CR}(hcall:SD P call):x4 P (Lc fs fuel call):=by
 intro f round tm H x o tm' H' x' he σ w b K N lo a k g ps asg body hs hb hf ZbU
 cases f with
 |func fg p q=>
  simp only[Lc] at he
  obtain⟨cf,hcf,he⟩:=vH he (by simp)
  obtain⟨rfl,rfl,hout⟩:=kJ he
  simp only[Yt] at hf
  obtain⟨xs,zs,hxs,hzs,hfv⟩:=hf
  let lp:Loop:={state:=.ready,pending:=none,fn:=b.fn,tmps:=a.tmps,params:=ps,assign:=asg,body:=body,defers:=w.heap.size}
  let wd:World:=w.alloc (.deferred (some []))
  let w2:World:=wd.alloc (.loop lp)
  let l:Nat:=w.heap.size+1
  have hwd:wd.heap.size=l:=by simp[wd,l]
  let L:Loc:=⟨l,0,0,0⟩
  have t1:Tr P σ H w σ H wd:=Tr.block hs.sim _
  have t2:Tr P σ H wd (σ.put H.nx L) (H.new .loop) w2:=Tr.alloc t1.sim .loop (.loop lp) L (by simp[L,hwd]) ⟨lp,rfl⟩
  have tt:=t1.trans t2
  have hl2:w2.heap[l]? =some (.loop lp):=by rw[<-hwd];exact Sy wd _
  have hr2:w2.heap[w.heap.size]? =some (.deferred (some [])):=by
   have:wd.heap[w.heap.size]? =some (.deferred (some [])):=Sy w _
   rw[SA (by rw[hwd];exact Yo _)];exact this
  have Zaf:(σ.put H.nx L) H.nx=some L:=Mp.put_same _ _ _
  have hvs:YO (σ.put H.nx L) (p++(.yield H.nx::q)) (xs++(.func (.yield l) #[] #[]::zs)):=
   (YO.mono tt.ext hxs).append (WD (by simp only[Yt];exact⟨L,Zaf,rfl⟩) (YO.mono tt.ext hzs))
  have hfn:=hfs fg cf hcf
  have ctx:Oz P ⟨call,λbk ys H'=>cond (Nat.beq bk H.nx) (round ys H') .fail,VX,fuel,false⟩ ({(default:Frame) with fn:=fg,kind:=.normal}:Frame) (σ.put H.nx L) (H.new .loop) w2:=by
   refine⟨hcall,λbk args Hy σy wy ly vsy ty hbk hvy=>?_,λ_=>rfl,GI P,λh=>absurd rfl h⟩
   show LR P σy Hy wy (cond (Nat.beq bk H.nx) (round args Hy) .fail) _
   cases e:Nat.beq bk H.nx with
   |false=>exact trivial
   |true=>
    have e:=ZW e
    subst e
    have h1:=ty.ext _ _ Zaf
    rw[h1] at hbk
    cases hbk
    exact ZbU σy Hy wy l w.heap.size args vsy (tt.ext.trans ty.ext) ty.sim (ty.dark t2.sim hl2 trivial) hvy
  have hcr:=AW (dcall:=λ_ _ _ _=>.fail) (λ_ _ _ _ _ _ _ h=>by cases h) hfn tt.sim hvs ctx
  have henter:=run_enterLoop_outer (P:=P) (w:=w) b.fn a.tmps ps asg body
  have hres:(resolve a.eval (rangeCall g l) 0).run P w2=.ok {target:=.fn (.func fg) ⟨zs⟩,args:=⟨xs++[.func (.yield l) #[] #[]]⟩} w2:=by
   simp only[resolve,hfv,Deferred.ofValue,Sem.run_pure]
   congr 3
   apply Array.ext'
   simp[Act.eval]
  have ZiR:(callFunc fg ⟨xs++(.func (.yield l) #[] #[]::zs)⟩).run P w2=.ok (.enter fg ⟨xs++(.func (.yield l) #[] #[]::zs)⟩) w2:=by
   obtain⟨fn,code,ds,h1,h2,h3,_⟩:=hfn
   exact Rv h1 h2 h3
  have hinv:(invoke (.fn (.func fg) ⟨zs⟩) ⟨xs++[.func (.yield l) #[] #[]]⟩).run P w2=.ok (.enter fg ⟨xs++(.func (.yield l) #[] #[]::zs)⟩) w2:=by
   have:(⟨xs++[.func (.yield l) #[] #[]]⟩:Array Value)++(⟨zs⟩:Array Value)=⟨xs++(.func (.yield l) #[] #[]::zs)⟩:=by simp
   simp only[invoke,this]
   exact ZiR
  have hstep:=stepR_rangeFunc (P:=P) (b:=b) (a:=a) (k:=k) (cs:=K x'.rc.isSome) (w:=w) (g:=g) (ps:=ps) (assign:=asg) (body:=body) (by rw[hb];exact henter) hres hinv
  have hdf: ∀(σ3:Mp) (H3:Heap) (w3:World),Tr P (σ.put H.nx L) (H.new .loop) w2 σ3 H3 w3->V4 σ3 w3 lo x'.df ({target:=.collected w.heap.size,args:= #[]}::a.defers):=by
   intro σ3 H3 w3 t3
   refine .mark hs.lo (t3.dark t2.sim hr2 trivial) (λd hd r' hr'=>?_) ((hs.df.tr hs.sim tt).tr t2.sim t3)
   have:=hs.df.lt d hd r' hr'
   omega
  rcases hout with⟨v,hr,rfl⟩|⟨v,hr,rfl⟩
  ·rw[hr] at hcr
   obtain⟨e,w3,fr3,hR,hsteps,Zi0,hleave⟩:=hcr (b.atR {a with defers:={target:=.collected w.heap.size,args:= #[]}::a.defers} (.inRangeFunc l::k)::K x'.rc.isSome)
   cases e with
   |outgrown=>exact hR.elim
   |panicked chain=>obtain⟨_,_,h⟩:=hR;exact h.elim
   |returned u=>
    obtain⟨σ3,_,t3⟩:=hR
    have hl3:=t3.dark t2.sim hl2 trivial
    have hend:=run_endLoop (P:=P) hl3 (by simp[lp])
    have t4:=Tr.putLoop (tt.trans t3) {lp with state:=.exhausted} hl3 (XV _)
    have hback:=step_leave_returned (c:=b.atR {a with defers:={target:=.collected w.heap.size,args:= #[]}::a.defers} (.inRangeFunc l::k)) (cs:=K x'.rc.isSome) hleave
    rw[finish_atR_inRangeFunc] at hback
    refine⟨σ3,{a with defers:={target:=.collected w.heap.size,args:= #[]}::a.defers},_,t4,⟨t4.sim,hs.tm.mono t4.ext,(hdf σ3 H' w3 t3).putLoop _ hl3,hs.rc.mono t4.ext,by have:=t4.size;exact Zn hs.lo this⟩,rfl,?_⟩
    exact .head hstep (hsteps.trans (.head hback (.one (stepR_endRangeFunc hend))))
  ·rw[hr] at hcr
   obtain⟨e,w3,fr3,hR,hsteps,Zi0,hleave⟩:=hcr (b.atR {a with defers:={target:=.collected w.heap.size,args:= #[]}::a.defers} (.inRangeFunc l::k)::K x'.rc.isSome)
   cases e with
   |outgrown=>exact hR.elim
   |returned u=>exact hR.elim
   |panicked chain=>
    obtain⟨u,rfl,σ3,hu,t3⟩:=hR
    have t4:=tt.trans t3
    have hback:=step_leave_panicked (c:=b.atR {a with defers:={target:=.collected w.heap.size,args:= #[]}::a.defers} (.inRangeFunc l::k)) (cs:=K x'.rc.isSome) hleave
    refine⟨σ3,{a with defers:={target:=.collected w.heap.size,args:= #[]}::a.defers},w3,t4,⟨t4.sim,hs.tm.mono t4.ext,hdf σ3 H' w3 t3,hs.rc.mono t4.ext,Zn hs.lo t4.size⟩,rfl,.inRangeFunc l::k,u,hu,?_⟩
    rw[<-Frame.raise_atR]
    exact .head hstep (hsteps.trans (.one hback))
 |_=>cases he
end
section
variable {P:Program} {N:Nat}
def Ow:Code->List Item
 |.seq a b=>Ow a++[.code b]
 |.region _ ops _=>[.inRegion ops (List.range' 1 (ops.size - 1))]
 |_=>[]
theorem EN: ∀(c:Code) {q:Operand} {t:Option Nat},Py c=some (q,t)->
  ∃ops tl o,Ow c=.inRegion ops (List.range' 1 (ops.size - 1))::tl∧ops[0]? =some o∧o.op=.next q false∧o.guard=none∧o.dst=t∧
   ∀(b:Frame) (a:Act) (k:List Item) (cs:List Frame) (w:World),Steps P (lone (b.atR a (.code c::k)) cs w) (lone (b.atR a (.inRegion ops (0::List.range' 1 (ops.size - 1))::(tl++k))) cs w)
 |.seq x y,q,t,h=>by
  obtain⟨ops,tl,o,h1,h2,h3,h4,h5,h6⟩:=EN x (q:=q) (t:=t) h
  refine⟨ops,tl++[.code y],o,by show Ow x++[.code y]=_;rw[h1];rfl,h2,h3,h4,h5,λb a k cs w=>.head stepR_seq ?_⟩
  have:=h6 b a (.code y::k) cs w
  simpa using this
 |.region id ops d,q,t,h=>by
  cases d with
  |true=>cases h
  |false=>
   unfold Py at h
   cases hl:ops.toList with
   |nil=>rw[hl] at h;cases h
   |cons o l=>
    rw[hl] at h
    simp only at h
    split at h
    ·rename_i x hop hg
     cases h
     have h0:ops[0]? =some o:=by rw[<-Yd,hl];rfl
     refine⟨ops,[],o,rfl,h0,hop,hg,rfl,λb a k cs w=>.one ?_⟩
     have hsz:0<ops.size:=(ZT.1 h0).1
     have hr:List.range ops.size=0::List.range' 1 (ops.size - 1):=by
      rw[List.range_eq_range',show ops.size=(ops.size - 1)+1 by omega,Rq]
      simp
     rw[<-hr]
     exact stepR_region
    ·cases h
 |.skip,_,_,h=>by cases h
 |.cond _ _ _,_,_,h=>by cases h
 |.block _ _,_,_,h=>by cases h
 |.loop _,_,_,h=>by cases h
 |.rangeFunc _ _ _ _,_,_,h=>by cases h
 |.exit _,_,_,h=>by cases h
 |.scope _,_,_,h=>by cases h
 |.label _,_,_,h=>by cases h
 |.goto _,_,_,h=>by cases h
 |.ret,_,_,h=>by cases h
 |.refuse _,_,_,h=>by cases h
theorem nG{r:Wd}{o:Out}{tm:TM}{H:Heap}{x:X}(h:Ky r=.ok o tm H x):r=.ok o tm H x∧o≠.normal:=by
 unfold Ky at h
 split at h
 ·cases h
 ·rename_i hne
  exact⟨h,λe=>by subst e;exact hne tm H x h⟩
theorem Cc(n:Nat)(w:World): ∃i w',(choose (.mapNext n)).run P w=.ok i w'∧(n≠0->i<n)∧(w'=w∨w'=w.drew):=by
 rw[run_choose_drew]
 by_cases h:n<=1
 ·refine⟨0,w,by simp[Question.forced,h],λh0=>by omega,.inl rfl⟩
 ·refine⟨(Question.mapNext n).cut (w.tape w.drawn (.mapNext n)),w.drew,by simp[Question.forced,h],λh0=>?_,.inr rfl⟩
  show _ % n<n
  exact Vl _ (by omega)
theorem fo{lb m since:Nat}{seen:Array Nat}{es:Array MapEntry}{w:World}(h1:w.heap[lb]? =some (.mapIter (some m) since seen since))(h2:w.heap[m]? =some (.map es since))(hr: ∀e∈es,e.born<since)(ty:TypeId):
  ((es.filter λe=>!seen.contains e.born)= #[]∧ ∃w',(Instr.next (.pointer (some ⟨lb,0,none⟩)) false ty).run P w=.ok (.tuple #[.bool false]) w'∧(w'=w∨w'=w.drew))∨
  (∃e∈es,seen.contains e.born=false∧ ∃w0,(w0=w∨w0=w.drew)∧(Instr.next (.pointer (some ⟨lb,0,none⟩)) false ty).run P w=.ok (.tuple #[.bool true,e.key,e.val]) {w0 with heap:=w0.heap.setIfInBounds lb (.mapIter (some m) since (seen.push e.born) since)}):=by
 have g1:(getObj lb).run P w=.ok (.mapIter (some m) since seen since) w:=Br h1
 have g2:(getObj m).run P w=.ok (.map es since) w:=by simp[getObj,Sem.run,h2]
 have hun: ¬((!seen.isEmpty&&!es.isEmpty&&es.all (λe=>decide (e.born≥since)))=true):=by
  intro h
  simp only[Yj,Bool.not_eq_true'] at h
  obtain⟨⟨_,h3⟩,h4⟩:=h
  cases hes:es.toList with
  |nil=>simp[Array.isEmpty,<-Array.length_toList,hes] at h3
  |cons e l=>
   have he:e∈es:=by rw[<-XA,hes];exact ZG ..
   have h5:=Array.all_eq_true_iff_forall_mem.1 h4 e he
   have:=hr e he
   simp at h5
   omega
 let left:=es.filter λe=>!seen.contains e.born
 have hold:left.filter (λe=>decide (e.born<since))=left:=by
  apply Array.filter_eq_self.2
  intro e he
  have:e∈es:=(Array.mem_filter.1 he).1
  simpa using hr e this
 have hnew:left.filter (λe=>decide (e.born≥since))= #[]:=by
  apply Array.filter_eq_empty_iff.2
  intro e he
  have:e∈es:=(Array.mem_filter.1 he).1
  have:=hr e this
  simp;omega
 have hrun:(Instr.next (.pointer (some ⟨lb,0,none⟩)) false ty).run P w=((do
   match((if left.isEmpty then #[none] else #[])++(left++ #[]).map some)[<-choose (.mapNext ((if left.isEmpty then(#[none]:Array (Option MapEntry)) else #[])++(left++ #[]).map some).size)]? with
   |some (some e)=>
    setObj lb (.mapIter (some m) since (seen.push e.born) since)
    pure (.tuple #[.bool true,e.key,e.val])
   |some none=>pure (.tuple #[.bool false])
   |none=>stuck "Next: no such candidate"):Sem Value).run P w:=by
  have hold':Array.filter (λe=>decide (e.born<since)) (Array.filter (λe=>!seen.contains e.born) es)=left:=hold
  have Zff:Array.filter (λe=>decide (e.born≥since)) (Array.filter (λe=>!seen.contains e.born) es)= #[]:=hnew
  simp only[Instr.next,Sem.run_bind,g1,g2,Result.andThen_ok,if_neg hun,Sem.run_pure,hold',Zff]
  rfl
 rw[hrun]
 by_cases hle:left= #[]
 ·left
  refine⟨hle,?_⟩
  obtain⟨i,w',hc,hi,hw⟩:=Cc (P:=P) 1 w
  have hi0:i=0:=by have:=hi (by decide);omega
  subst hi0
  refine⟨w',?_,hw⟩
  rw[hle]
  have:((if (#[]:Array MapEntry).isEmpty then(#[none]:Array (Option MapEntry)) else #[])++((#[]:Array MapEntry)++ #[]).map some)= #[none]:=by simp
  simp only[this,Sem.run_bind]
  have hsz:(#[none]:Array (Option MapEntry)).size=1:=rfl
  rw[hsz,hc]
  rfl
 ·right
  have hne:left.isEmpty=false:=by simpa [Array.isEmpty_iff] using hle
  obtain⟨i,w',hc,hi,hw⟩:=Cc (P:=P) left.size w
  have hs0:left.size≠0:=λh=>hle (Array.eq_empty_of_size_eq_zero h)
  have hilt:=hi hs0
  have hmem:left[i]∈left:=Array.getElem_mem hilt
  obtain⟨m1,m2⟩:=Array.mem_filter.1 hmem
  refine⟨left[i],m1,by simpa using m2,w',hw,?_⟩
  have:((if left.isEmpty then(#[none]:Array (Option MapEntry)) else #[])++(left++ #[]).map some)=left.map some:=by rw[hne];simp
  simp only[this,Sem.run_bind,Array.size_map]
  rw[hc]
  have hg:(left.map some)[i]? =some (some left[i]):=by simp[hilt]
  have hhp:w'.heap=w.heap:=by rcases hw with rfl|rfl<;>rfl
  simp only[Result.andThen_ok,hg,Sem.run_bind]
  simp[setObj,Sem.run,hhp,h1]
theorem V4.any{σ σ':Mp}{w:World}{lo:Nat}{ds:List Deferred}(h:V4 σ w lo [] ds):V4 σ' w lo [] ds:=by
 generalize hl:([]:List (AV×List AV))=l at h
 induction h with
 |nil=>exact .nil
 |call _ _ _ _=>cases hl
 |mark h1 h2 h3 _ ih=>exact .mark h1 h2 h3 (ih hl)
theorem Hh.any{σ σ':Mp}{kd:CallKind}{K:Bool->List Frame}(h:Hh σ kd K none):Hh σ' kd K none:=⟨h.no,λv hv=>by cases hv⟩
theorem mI{x:X}{r s:Wd}(h:ra x r=s)(hs:s≠.fail):x=⟨[],none⟩∧r=s:=by
 obtain⟨df,rc⟩:=x
 cases df with
 |cons a l=>exact absurd h.symm hs
 |nil=>
  cases rc with
  |some v=>exact absurd h.symm hs
  |none=>exact⟨rfl,h⟩
theorem sU{r:Wd}{k:Bool}(h:Dt r k=true): ∃tm H,r=.ok .normal tm H ⟨[],none⟩∧k=true:=by
 unfold Dt at h
 split at h
 ·rename_i tm H y
  obtain⟨df,rc⟩:=y
  cases df with
  |cons a l=>cases h
  |nil=>
   cases rc with
   |some v=>cases h
   |none=>obtain⟨_,h2⟩:=ZV h;exact⟨tm,H,rfl,h2⟩
 ·cases h
theorem zI{body:TM->Heap->X->Wd}{b m since:Nat}{dst:ZS}{tm:TM}{H:Heap}: ∀{es:List RE},Bp body b m since dst tm H es=true-> ∀e∈es,
  ∃tm' H',body (dst tm (.tup [.bool true,e.key,e.val])) ⟨H.nx,H.t.set b (.miter (some m) since (some (e.born,since))),H.nx⟩ ⟨[],none⟩=.ok .normal tm' H' ⟨[],none⟩
 |[],_,e,he=>by cases he
 |a::es,h,e,he=>by
  have h:Dt _ (Bp body b m since dst tm H es)=true:=h
  obtain⟨tm',H',h1,h2⟩:=sU h
  rcases ZN.1 he with rfl|he
  ·exact⟨tm',H',h1⟩
  ·exact zI h2 e he
theorem YG.mem{σ:Mp}: ∀{es:List RE} {l:List MapEntry},YG σ es l-> ∀m∈l,∃a∈es,Nw σ a m
 |[],l,h,m,hm=>by simp only[YG] at h;subst h;cases hm
 |a::es,l,h,m,hm=>by
  obtain⟨e,l',h1,h2,rfl⟩:=h.cons_inv
  rcases ZN.1 hm with rfl|hm
  ·exact⟨a,ZG ..,h1⟩
  ·obtain⟨a',h3,h4⟩:=YG.mem h2 m hm
   exact⟨a',ZK _ h3,h4⟩
theorem YG.below{σ:Mp}{c:Nat}: ∀{es:List RE} {l:List MapEntry},YG σ es l->(∀e∈es,e.born<c)-> ∀m∈l,m.born<c:=by
 intro es l h hb m hm
 obtain⟨a,h1,h2⟩:=h.mem m hm
 rw[<-h2.2.2];exact hb a h1
theorem AL{α:Type}{p q:α->Bool}(h: ∀x,p x=true->q x=true): ∀l:List α,(l.filter p).length<=(l.filter q).length
 |[]=>Zl _
 |y::l=>by
  have ih:=AL h l
  rw[UG,UG]
  cases hp:p y with
  |true=>rw[h y hp];simpa using ih
  |false=>
   cases q y with
   |true=>simp;omega
   |false=>simpa using ih
theorem AM{α:Type}{p q:α->Bool}(h: ∀x,p x=true->q x=true){e:α}(he:q e=true)(hn:p e=false): ∀l:List α,e∈l->(l.filter p).length<(l.filter q).length
 |[],hm=>by cases hm
 |y::l,hm=>by
  rw[UG,UG]
  rcases ZN.1 hm with rfl|hm
  ·rw[he,hn]
   have:=AL h l
   simp;omega
  ·have ih:=AM h he hn l hm
   cases hp:p y with
   |true=>rw[h y hp];simpa using ih
   |false=>
    cases q y with
    |true=>simp;omega
    |false=>simpa using ih
def xR(es:List RE)(seen:Array Nat):Nat:=(es.filter λe=>!seen.contains e.born).length
theorem lM{es:List RE}{seen:Array Nat}{e:RE}(he:e∈es)(hn:seen.contains e.born=false):xR es (seen.push e.born)<xR es seen:=by
 refine AM (λx hx=>?_) (e:=e) (by rw[hn];rfl) ?_ es he
 ·cases h:seen.contains x.born with
  |false=>rfl
  |true=>
   have:(seen.push e.born).contains x.born=true:=by
    rw[Array.contains_iff_mem] at h ⊢
    exact Array.mem_push.2 (.inl h)
   rw[this] at hx;cases hx
 ·have:(seen.push e.born).contains e.born=true:=by rw[Array.contains_iff_mem];exact Array.mem_push.2 (.inr rfl)
  rw[this];rfl
theorem lL{σ:Mp}{tm:TM}{t t':Array Value}{ds:List Nat}(h:Qx σ N (Qz tm (ds.map λt=>XW (some t))) t)(hz:N<=t'.size)(hold: ∀n,n∉ds->t'[n]? =t[n]?):Qx σ N (Qz tm (ds.map λt=>XW (some t))) t':=by
 refine⟨hz,λn hn=>?_⟩
 have e:(ds.map λt=>XW (some t))=(ds.map some).map XW:=by rw[Wt];rfl
 have h1:=h.get n hn
 rw[e,MU hn] at h1 ⊢
 by_cases hm:some n∈ds.map some
 ·rw[if_pos hm];simp[Yt]
 ·rw[if_neg hm] at h1 ⊢
  have:n∉ds:=λh=>hm (YC.2 ⟨n,h,rfl⟩)
  rw[ZU,hold n this,<-ZU]
  exact h1
theorem fO{σ:Mp}{tm:TM}{t:Array Value}{ds:List Nat}(h:Qx σ N tm t):Qx σ N (Qz tm (ds.map λt=>XW (some t))) t:=by
 refine⟨h.size,λn hn=>?_⟩
 have e:(ds.map λt=>XW (some t))=(ds.map some).map XW:=by rw[Wt];rfl
 rw[e,MU hn]
 split
 ·simp[Yt]
 ·exact h.get n hn
theorem ue{body:Code}{q:Operand}{t:Option Nat}{a:D}{ds:List Nat}(hm:Py body=some (q,t))(ht: ∀d,t=some d->d∈ds)(htN:Be N t=true)(ha:WR P N a (Ow body) ds):
  WR P N (sC (YQ P q) (XW t) (ds.map λt=>XW (some t)) a) [.code (.loop body)] ds:=by
 intro c b K lo σ tm H x act w k o tm' H' x' hc hs he
 obtain⟨ops,tl,op,hri,hop,Zfg,Zje,d9,henter⟩:=EN body hm
 let ML:=Qz tm (ds.map λt=>XW (some t))
 have ZbW:Qx σ N ML act.tmps:=fO hs.tm
 have hs0:St P σ b K N lo ML H x act w:=hs.step (Tr.refl hs.sim) ZbW rfl
 have he:sD (a ⟨c.call,VY,VX,c.fuel,true⟩) (a c) (YQ P q) (XW t) ML H x=.ok o tm' H' x':=he
 unfold sD at he
 have hq:=KJ hs.sim ZbW q
 generalize hqv:YQ P q ML=qv at he hq
 cases qv with
 |ptr ib io=>
  simp only[ZfX] at he
  cases h0:Nat.beq io 0 with
  |false=>rw[h0] at he;cases he
  |true=>
  rw[h0] at he
  have h0:=ZW h0
  subst h0
  cases hro:Nat.ble H.ro ib with
  |false=>rw[hro] at he;cases he
  |true=>
  rw[hro] at he
  have hro:H.ro<=ib:=Z1 hro
  obtain⟨L,hL,hqe⟩:=Ue hq
  have hwant: ∀a':Act,Region.wanted op (yielded ops a'.tmps)=true:=λa'=>by unfold Region.wanted;rw[Zje]
  have hnd: ∀c,op.op≠.defer c:=λc h=>by rw[Zfg] at h;cases h
  have jI: ∀(a':Act) (w1:World) (v:Value) (w2:World),a'.eval q=.pointer (some ⟨L.blk,L.base+0,none⟩)->(Instr.next (.pointer (some ⟨L.blk,L.base+0,none⟩)) false op.type).run P w1=.ok v w2->(execOp a'.eval op).run P w1=.ok (.value v) w2:=by
   intro a' w1 v w2 h1 h2
   simp only[execOp,Zfg,h1]
   exact WY h2
  have hhead: ∀(a':Act) (w1:World) (cs:List Frame),Steps P (lone (b.atR a' (.code body::.inLoop body::k)) cs w1) (lone (b.atR a' (.inRegion ops (0::List.range' 1 (ops.size - 1))::(tl++.inLoop body::k))) cs w1):=λa' w1 cs=>henter b a' (.inLoop body::k) cs w1
  have final: ∀(Hd:Heap) (w1 w2:World) (a':Act) (tt:Tr P σ H w σ Hd w2),St P σ b K N lo ML Hd x a' w2->(∀n,n∉ds->a'.tmps[n]? =act.tmps[n]?)->a'.eval q=.pointer (some ⟨L.blk,L.base+0,none⟩)->
    (Instr.next (.pointer (some ⟨L.blk,L.base+0,none⟩)) false op.type).run P w1=.ok (.tuple #[.bool false]) w2->Ky (a c (XW t ML (.tup [.bool false])) Hd x)=.ok o tm' H' x'->
    ∃σ' a'' w',Tr P σ H w σ' H' w'∧St P σ' b K N lo tm' H' x' a'' w'∧(∀n,n∉ds->a''.tmps[n]? =act.tmps[n]?)∧
     Df P (lone (b.atR a' (.code body::.inLoop body::k)) (K x.rc.isSome) w1) b k (K x'.rc.isSome) σ' o a'' w':=by
   intro Hd w1 w2 a' tt hst hold hev hrun hfin
   obtain⟨hfin,hne⟩:=nG hfin
   have hstep:=Qt (b:=b) (k:=tl++.inLoop body::k) (cs:=K x.rc.isSome) (rest:=List.range' 1 (ops.size - 1)) hop (hwant a') hnd (.inl (jI a' w1 _ w2 hev hrun))
   have hr:Yt σ (.tup [.bool false]) (.tuple #[.bool false]):=by simp only[Yt];exact⟨[.bool false],TQ (by simp[Yt]),rfl⟩
   have s1:St P σ b K N lo (XW t ML (.tup [.bool false])) Hd x (a'.put op.dst (.tuple #[.bool false])) w2:=by
    refine hst.step (Tr.refl hst.sim) ?_ (Rd _ _ _)
    rw[d9]
    exact hst.tm.put htN hr
   obtain⟨σ',a'',w',t1,s2,u2,arr⟩:=ha c b K lo σ _ Hd x _ w2 (.inLoop body::k) o tm' H' x' (hc.tr tt) s1 hfin
   refine⟨σ',a'',w',tt.trans t1,s2,λn hn=>?_,.of_steps ((hhead a' w1 _).trans hstep) ?_⟩
   ·rw[u2 n hn,put_old a' op.dst _ λd hd e=>hn (by rw[e];exact ht d (by rw[<-d9];exact hd)),hold n hn]
   ·rw[hri] at arr
    exact Df.pass (y:=.inLoop body) rfl hne (by simpa using arr)
  have Ze4:act.eval q=.pointer (some ⟨L.blk,L.base+0,none⟩):=hqe
  cases Fe:H.t.get ib with
  |none=>rw[Fe] at he;cases he
  |some ob=>
   rw[Fe] at he
   cases ob with
   |miter mm since cur=>
    cases cur with
    |some z=>cases mm<;>cases he
    |none=>
     obtain⟨cobj,jD,hrel⟩:=hs.sim.alive ib _ L Fe hL
     obtain⟨seen,st,hce,ZbP,hbase,ZiU⟩:=hrel
     obtain⟨wU,Zjm⟩:=ZiU
     subst wU;subst Zjm
     have hb0:L.base+0=0:=by rw[hbase]
     cases mm with
     |none=>
      have he:Ky (a c (XW t ML (.tup [.bool false])) H x)=.ok o tm' H' x':=he
      have hrun:(Instr.next (.pointer (some ⟨L.blk,L.base+0,none⟩)) false op.type).run P w=.ok (.tuple #[.bool false]) w:=by
       rw[hb0]
       have hg:=Br (P:=P) (m:=none) (a:=st) (s:= #[]) (c:=st) (jD.trans (by rw[hce];rfl))
       simp only[Instr.next,Sem.run_bind,hg,Result.andThen_ok,Sem.run_pure]
      obtain⟨σ',a'',w',g1,g2,g3,g4⟩:=final H w w act (Tr.refl hs.sim) hs0 (λ_ _=>rfl) Ze4 hrun he
      exact⟨σ',a'',w',g1,g2,g3,.of_steps (.one stepR_loop) g4⟩
     |some mb=>
      have he:ZfW (H.t.get mb) st (λes=>ra x (cond (Bp (a ⟨c.call,VY,VX,c.fuel,true⟩) ib mb st (XW t) ML H es) (Ky (a c (XW t ML (.tup [.bool false])) ⟨H.nx,H.t.del ib,H.ro⟩ x)) .fail))=.ok o tm' H' x':=he
      cases hmo:H.t.get mb with
      |none=>rw[hmo] at he;cases he
      |some mo=>
       rw[hmo] at he
       cases mo with
       |map es clock=>
        have he:cond (Nat.beq clock st) _ .fail=Wd.ok o tm' H' x':=he
        cases hck:Nat.beq clock st with
        |false=>rw[hck] at he;cases he
        |true=>
        rw[hck] at he
        have hck:=ZW hck
        subst hck
        obtain⟨hx,he⟩:=mI he (by simp)
        subst hx
        cases hrd:Bp (a ⟨c.call,VY,VX,c.fuel,true⟩) ib mb clock (XW t) ML H es with
        |false=>rw[hrd] at he;cases he
        |true=>
        rw[hrd] at he
        have he:Ky (a c (XW t ML (.tup [.bool false])) ⟨H.nx,H.t.del ib,H.ro⟩ ⟨[],none⟩)=.ok o tm' H' x':=he
        have hrounds:=zI hrd
        cases hLm:σ mb with
        |none=>have:=ZbP mb rfl;rw[hLm] at this;cases this
        |some Lm=>
        obtain⟨mobj,hmobj,ents,hme,Ze3,hris⟩:=hs.sim.alive mb _ Lm hmo hLm
        have hmb:mb≠ib:=λe=>by rw[e,Fe] at hmo;cases hmo
        have hce:cobj=.mapIter (some Lm.blk) clock #[] clock:=by rw[hce];simp[hLm]
        subst hce;subst hme
        have hbelow:=Ze3.below hris.2
        have hbelow': ∀e∈ents,e.born<clock:=λe he'=>hbelow e (XA.2 he')
        let Hd:Heap:=⟨H.nx,H.t.del ib,H.ro⟩
        have Ze2: ∀y ob,Hd.t.get y=some ob->y≠ib∧H.t.get y=some ob:=by
         intro y ob hy
         have hy:(H.t.del ib).get y=some ob:=hy
         rw[T.get_del] at hy
         by_cases e:ib=y
         ·rw[if_pos e] at hy;cases hy
         ·rw[if_neg e] at hy;exact⟨λz=>e z.symm,hy⟩
        have hother: ∀y ob ly,Hd.t.get y=some ob->σ y=some ly->ly.blk≠L.blk:=by
         intro y ob ly hy hly e
         obtain⟨h1,h2⟩:=Ze2 y ob hy
         exact h1 (hs.sim.alone h2 Fe hly hL e (by rintro ⟨_,_,h,_⟩;cases h))
        have loop: ∀(n:Nat) (a':Act) (w1:World) (seen:Array Nat),xR es seen=n->Tr P σ H w σ Hd w1->St P σ b K N lo ML Hd ⟨[],none⟩ a' w1->(∀n,n∉ds->a'.tmps[n]? =act.tmps[n]?)->
          w1.heap[L.blk]? =some (.mapIter (some Lm.blk) clock seen clock)->a'.eval q=.pointer (some ⟨L.blk,L.base+0,none⟩)->
          ∃σ' a'' w',Tr P σ H w σ' H' w'∧St P σ' b K N lo tm' H' x' a'' w'∧(∀n,n∉ds->a''.tmps[n]? =act.tmps[n]?)∧
           Df P (lone (b.atR a' (.code body::.inLoop body::k)) (K (none:Option AV).isSome) w1) b k (K x'.rc.isSome) σ' o a'' w':=by
         intro n
         induction n using Nat.strongRecOn with
         |_ n ih=>
          intro a' w1 seen hn tt hst hold hit hev
          have hdm:Hd.t.get mb=some (.map es clock):=by
           show(H.t.del ib).get mb=_
           rw[T.get_del,if_neg λe=>hmb e.symm];exact hmo
          obtain⟨mobj1,ZbO,ZdZ,Zi9,jF,Zfj⟩:=hst.sim.alive mb _ Lm hdm hLm
          subst Zi9
          have d6: ∀e∈ZdZ,e.born<clock:=λe he'=>jF.below Zfj.2 e (XA.2 he')
          rcases fo (P:=P) hit ZbO d6 op.type with⟨_,w2,hrun,hw2⟩|⟨e,hem,ZiY,w0,hw0,hrun⟩
          ·
           rw[<-hb0] at hrun
           have ci:St P σ b K N lo ML Hd ⟨[],none⟩ a' w2:=by rcases hw2 with rfl|rfl;exact hst;exact hst.drew
           have tt2:Tr P σ H w σ Hd w2:=by rcases hw2 with rfl|rfl;exact tt;exact tt.trans (Tr.drew hst.sim)
           exact final Hd w1 w2 a' tt2 ci hold hev hrun he
          ·
           rw[<-hb0] at hrun
           let w2:World:={w0 with heap:=w0.heap.setIfInBounds L.blk (.mapIter (some Lm.blk) clock (seen.push e.born) clock)}
           have hh0:w0.heap=w1.heap:=by rcases hw0 with rfl|rfl<;>rfl
           have ZeY:L.blk<w1.heap.size:=(ZT.1 hit).1
           have hz2:w2.heap.size=w1.heap.size:=by simp[w2,hh0]
           have Zan:w2.heap[L.blk]? =some (.mapIter (some Lm.blk) clock (seen.push e.born) clock):=by simp[w2,hh0,ZeY]
           have wT: ∀j,j≠L.blk->w2.heap[j]? =w1.heap[j]? :=by
            intro j hj
            show(w0.heap.setIfInBounds L.blk _)[j]? =_
            rw[VU (Ne.symm hj),hh0]
           have htp:w2.tape=w1.tape∧w2.os=w1.os∧w2.output=w1.output:=by rcases hw0 with rfl|rfl<;>exact⟨rfl,rfl,rfl⟩
           obtain⟨ea,hea,hear⟩:=jF.mem e (XA.2 hem)
           have hLd:L.blk<w.heap.size:=(ZT.1 jD).1
           have Zfr:Wr H ib:=⟨hro,_,Fe,(λr h=>by cases h),(λh=>by cases h)⟩
           have hlt_ib:ib<H.nx:=hs.sim.low ib _ Fe
           have hsd2:Ww P σ Hd w2:=by
            refine⟨hst.sim.dom,hst.sim.low,λy ob ly hy hly=>?_,hst.sim.inj,hst.sim.glob,hst.sim.ro⟩
            obtain⟨cy,h1,h2⟩:=hst.sim.alive y ob ly hy hly
            exact⟨cy,by rw[wT _ (hother y ob ly hy hly)];exact h1,h2⟩
           have tt2:Tr P σ H w σ Hd w2:=by
            refine⟨tt.ext,hsd2,by rw[hz2];exact tt.size,λj hj hn=>?_,tt.wr,tt.nx,tt.ro,tt.low,htp.1.trans tt.tape,htp.2.1.trans tt.os,htp.2.2.trans tt.out,tt.pend⟩
            rw[wT j λe=>hn ib L Zfr hL e.symm]
            exact tt.frame j hj hn
           let Hr:Heap:=⟨H.nx,H.t.set ib (.miter (some mb) clock (some (ea.born,clock))),H.nx⟩
           have qP: ∀y ob,Hr.t.get y=some ob->(y=ib∧ob=.miter (some mb) clock (some (ea.born,clock)))∨Hd.t.get y=some ob:=by
            intro y ob hy
            have hy:(H.t.set ib _).get y=some ob:=hy
            rw[T.get_set] at hy
            by_cases e':ib=y
            ·rw[if_pos e'] at hy;cases hy;exact .inl ⟨e'.symm,rfl⟩
            ·rw[if_neg e'] at hy
             refine .inr ?_
             show(H.t.del ib).get y=_
             rw[T.get_del,if_neg e'];exact hy
           have hsr:Ww P σ Hr w2:=by
            refine⟨hst.sim.dom,λy ob hy=>?_,λy ob ly hy hly=>?_,λy y' o1 o2 l1 l2 hy hy' hl1 hl2 e'=>?_,hst.sim.glob,Zl _⟩
            ·rcases qP y ob hy with⟨rfl,_⟩|h
             ·exact hlt_ib
             ·exact hst.sim.low y ob h
            ·rcases qP y ob hy with⟨rfl,rfl⟩|h
             ·rw[hL] at hly;cases hly
              refine⟨_,Zan,seen.push e.born,clock,by simp[hLm],(λb' hb'=>by cases hb';rw[hLm];rfl),hbase,?_,rfl⟩
              rw[hear.2.2];simp
             ·exact hsd2.alive y ob ly h hly
            ·rcases qP y o1 hy with⟨rfl,rfl⟩|h<;>rcases qP y' o2 hy' with⟨rfl,rfl⟩|h'
             ·exact .inl rfl
             ·rw[hL] at hl1;cases hl1;exact absurd e'.symm (hother y' o2 l2 h' hl2)
             ·rw[hL] at hl2;cases hl2;exact absurd e' (hother y o1 l1 h hl1)
             ·exact hsd2.inj y y' o1 o2 l1 l2 h h' hl1 hl2 e'
           have hstep:=Qt (b:=b) (k:=tl++.inLoop body::k) (cs:=K (none:Option AV).isSome) (rest:=List.range' 1 (ops.size - 1)) hop (hwant a') hnd (.inl (jI a' w1 _ w2 hev hrun))
           have hr:Yt σ (.tup [.bool true,ea.key,ea.val]) (.tuple #[.bool true,e.key,e.val]):=by
            simp only[Yt]
            exact⟨[.bool true,e.key,e.val],WD (by simp[Yt]) (WD hear.1 (TQ hear.2.1)),rfl⟩
           have ZiV:V4 σ w2 lo [] a'.defers:=by
            refine hst.df.mono (Ext.refl σ) λr y hr'=>?_
            rw[wT r λe'=>by rw[e',hit] at hr';cases hr'];exact hr'
           have s1:St P σ b K N lo (XW t ML (.tup [.bool true,ea.key,ea.val])) Hr ⟨[],none⟩ (a'.put op.dst (.tuple #[.bool true,e.key,e.val])) w2:=by
            refine⟨hsr,?_,by rw[Rd];exact ZiV,hst.rc,by rw[hz2];exact hst.lo⟩
            rw[d9]
            exact hst.tm.put htN hr
           obtain⟨tmr,Hr',hbody⟩:=hrounds ea hea
           have ZiT:Oz P ⟨c.call,VY,VX,c.fuel,true⟩ b σ Hr w2:=⟨hc.call,B4 σ Hr w2,(λh=>by cases h),GI P,λ_=>rfl⟩
           obtain⟨σ3,a3,w3,t3,s3,u3,dk⟩:=ha _ b K lo σ _ Hr ⟨[],none⟩ _ w2 (.inLoop body::k) .normal tmr Hr' ⟨[],none⟩ ZiT s1 hbody
           have jH: ∀y,¬Wr Hr y:=by
            intro y hy
            obtain⟨h1,ob,h2,_⟩:=hy
            have h1:H.nx<=y:=h1
            have:=hsr.low y ob h2
            have this:y<H.nx:=this
            omega
           have ZbJ: ∀j,j<w2.heap.size->w3.heap[j]? =w2.heap[j]? :=λj hj=>t3.frame j hj λy ly hy _=>absurd hy (jH y)
           have ZbV:Ww P σ Hd w3:=hsd2.grow ZbJ
           have tt3:Tr P σ H w σ Hd w3:=by
            refine⟨tt.ext,ZbV,Zn tt2.size t3.size,λj hj hn=>?_,tt.wr,tt.nx,tt.ro,tt.low,t3.tape.trans tt2.tape,t3.os.trans tt2.os,t3.out.trans tt2.out,tt.pend⟩
            rw[ZbJ j (ZO hj tt2.size)]
            exact tt2.frame j hj hn
           have Zao: ∀n,n∉ds->a3.tmps[n]? =act.tmps[n]? :=by
            intro n hn
            rw[u3 n hn,put_old a' op.dst _ λd hd e'=>hn (by rw[e'];exact ht d (by rw[<-d9];exact hd)),hold n hn]
           have Vk:St P σ b K N lo ML Hd ⟨[],none⟩ a3 w3:=by
            refine⟨ZbV,lL hst.tm s3.tm.size (λn hn=>?_),s3.df.any,hst.rc,s3.lo⟩
            rw[Zao n hn,hold n hn]
           have hit3:w3.heap[L.blk]? =some (.mapIter (some Lm.blk) clock (seen.push e.born) clock):=by rw[ZbJ _ (by rw[hz2];exact ZeY)];exact Zan
           have hlt:xR es (seen.push e.born)<n:=by
            rw[<-hn,<-hear.2.2]
            exact lM hea (by rw[hear.2.2];exact ZiY)
           have ZiZ:a3.eval q=.pointer (some ⟨L.blk,L.base+0,none⟩):=by
            have:=KJ ZbV Vk.tm q
            rw[hqv] at this
            obtain⟨L',hL',h⟩:=Ue this
            rw[hL] at hL';cases hL'
            exact h
           obtain⟨σ4,a4,w4,g1,g2,g3,g4⟩:=ih _ hlt a3 w3 (seen.push e.born) rfl tt3 Vk Zao hit3 ZiZ
           refine⟨σ4,a4,w4,g1,g2,g3,.of_steps ((hhead a' w1 _).trans (hstep.trans ?_)) g4⟩
           rw[hri] at dk
           have dk:Steps P _ (lone (b.atR a3 (.inLoop body::k)) _ w3):=dk
           refine Steps.trans ?_ (Steps.one stepR_inLoop)
           simpa using dk
        have Zjl:St P σ b K N lo ML Hd ⟨[],none⟩ act w:=⟨(Tr.del hs.sim hL hro).sim,ZbW,hs.df,hs.rc,hs.lo⟩
        obtain⟨σ4,a4,w4,g1,g2,g3,g4⟩:=loop _ act w #[] rfl (Tr.del hs.sim hL hro) Zjl (λ_ _=>rfl) jD Ze4
        exact⟨σ4,a4,w4,g1,g2,g3,.of_steps (.one stepR_loop) g4⟩
       |_=>cases he
   |_=>cases he
 |_=>cases he
theorem UF(hm:P.follows .mixedOrders=true): ∀c:Code,Pc N c=true->WR P N (wx P c).1 [.code c] (Hv c)∧((Py c).isSome=true->WR P N (wx P c).2 (Ow c) (Hv c))
 |.skip,_=>⟨rJ _,λh=>by cases h⟩
 |.region id ops d,h=>by
  have h:ops.toList.all (λo=>Be N o.dst)=true:=h
  cases d with
  |true=>exact⟨ub hm h,λh=>by cases h⟩
  |false=>
   refine⟨xI h,λ_=>?_⟩
   have:=zS (P:=P) (N:=N) (ops:=ops) (ds:=ops.toList.filterMap (·.dst)) ops.toList.tail 1 (λi=>by
    rw[<-Yd]
    cases ops.toList with
    |nil=>simp
    |cons a l=>rw[show 1+i=i+1 by omega];simp) (λo ho=>⟨YR.1 h o (List.mem_of_mem_tail ho),λt ht=>UR.2 ⟨o,List.mem_of_mem_tail ho,ht⟩⟩)
   show WR P N (vK P ops ops.toList.tail) [.inRegion ops (List.range' 1 (ops.size - 1))] _
   have e:ops.toList.tail.length=ops.size - 1:=by simp
   rw[e] at this
   exact this
 |.seq a b,h=>by
  obtain⟨h1,h2⟩:=ZV (a:=Pc N a) (b:=Pc N b) h
  have ha:=UF hm a h1
  have hb:=UF hm b h2
  refine⟨rI ha.1 hb.1,λhn=>?_⟩
  exact zT (i1:=Ow a) (i2:=[.code b]) (by simp[Item.plain]) (ha.2 hn) hb.1
 |.cond q a b,h=>by
  obtain⟨h1,h2⟩:=ZV (a:=Pc N a) (b:=Pc N b) h
  exact⟨rB (UF hm a h1).1 (UF hm b h2).1,λh=>by cases h⟩
 |.block id a,h=>⟨ua (UF hm a h).1,λh=>by cases h⟩
 |.loop b,h=>by
  have hb:=UF hm b h
  refine⟨?_,λh=>by cases h⟩
  show WR P N (match Py b with|some (x,t)=>sC (YQ P x) (XW t) ((Hv b).map λt=>XW (some t)) (wx P b).2|none=>Wj (wx P b).1) [.code (.loop b)] (Hv b)
  cases hmn:Py b with
  |none=>exact rE hb.1
  |some y=>
   obtain⟨x,t⟩:=y
   have hmem: ∀(b:Code) {x:Operand} {t:Option Nat},Py b=some (x,t)->Pc N b=true->Be N t=true∧ ∀d,t=some d->d∈Hv b:=by
    intro b
    induction b with
    |seq a c ih _=>
     intro x t hh hk
     obtain⟨h1,h2⟩:=ZV (a:=Pc N a) (b:=Pc N c) hk
     obtain⟨g1,g2⟩:=ih hh h1
     exact⟨g1,λd hd=>Zy.2 (.inl (g2 d hd))⟩
    |region id ops dr=>
     intro x t hh hk
     have hk:ops.toList.all (λo=>Be N o.dst)=true:=hk
     cases dr with
     |true=>cases hh
     |false=>
      unfold Py at hh
      cases hl:ops.toList with
      |nil=>rw[hl] at hh;cases hh
      |cons o l=>
       rw[hl] at hh
       simp only at hh
       split at hh
       ·cases hh
        have ho:o∈ops.toList:=by rw[hl];exact ZG ..
        exact⟨YR.1 hk o ho,λd hd=>UR.2 ⟨o,ho,hd⟩⟩
       ·cases hh
    |_=>intro x t hh;cases hh
   obtain⟨g1,g2⟩:=hmem b hmn h
   exact ue hmn g2 g1 (hb.2 (by rw[hmn];rfl))
 |.rangeFunc f ps a b,h=>by
  obtain⟨h0,h3⟩:=ZV (a:=ps.toList.all λt=>Be N (some t)) (b:=cond (Pc N a) (Pc N b) false) h
  obtain⟨h1,h2⟩:=ZV h3
  exact⟨uf (UF hm a h1).1 (UF hm b h2).1 h0,λh=>by cases h⟩
 |.exit id,_=>⟨rD _,λh=>by cases h⟩
 |.scope a,h=>⟨ug (UF hm a h).1,λh=>by cases h⟩
 |.label l,_=>⟨uc l _,λh=>by cases h⟩
 |.goto l,_=>⟨Qr _ _,λh=>by cases h⟩
 |.ret,_=>⟨lr _,λh=>by cases h⟩
 |.refuse l,_=>⟨Qr _ _,λh=>by cases h⟩
theorem oI(hm:P.follows .mixedOrders=true){f:Nat}{fn:Func}{c:Code}(hf:P.funcs[f]? =some fn)(hname:fn.name≠ "runtime.NumGoroutine")(hb:fn.body=some c):ZaR P f (Et P fn):=by
 refine⟨fn,c,Hv c,hf,hname,hb,?_,?_⟩
 ·show fn.results.toList.map _=fn.results.toList.map _
  refine T4 λr _=>?_
  cases r<;>rfl
 ·have hbd:(Et P fn).body=cond (fn.results.toList.all (GH P)) (cond (Pc fn.ntmps c) (ZdN P c) Q7) Q7:=by
   unfold Et;rw[hb]
  rw[hbd]
  cases h1:fn.results.toList.all (GH P) with
  |false=>exact .inl rfl
  |true=>
   cases h2:Pc fn.ntmps c with
   |false=>exact .inl rfl
   |true=>exact .inr ⟨rfl,(UF hm c h2).1⟩
theorem D3(hm:P.follows .mixedOrders=true){lib:Nat->List AV->Heap->Option CR}(d7:NU P lib){fs:T CF}(hfs: ∀f cf,fs.get f=some cf-> ∃fn,P.funcs[f]? =some fn∧fn.name≠ "runtime.NumGoroutine" ∧fn.body.isSome=true∧cf=Et P fn)(fuel n:Nat):
  SD P (ZJ lib fs fuel n):=by
 have Ze7:eD P fs:=by
  intro f cf h
  obtain⟨fn,h1,h2,h3,rfl⟩:=hfs f cf h
  obtain⟨c,hc⟩:=Vp.1 h3
  exact oI hm h1 h2 hc
 exact wm d7 Ze7 fuel (λcall hcall=>vU Ze7 fuel hcall) n
end
section
variable {P:Program}
theorem y6{f:FuncId}{fn:Func}(hf:P.funcs[f]? =some fn)(hname:(fn.name== "runtime.NumGoroutine")=false)(hb:fn.body.isNone=true)(hn:Extern.findNext fn=none)(he:Extern.find fn=some Extern.AbiNoEscape.same)
  {x:AV}{H:Heap}{σ:Mp}{w:World}{vs:List Value}(hs:Ww P σ H w)(hv:YO σ [x] vs):LR P σ H w (.ret x H) ((callFunc f ⟨vs⟩).run P w):=by
 obtain⟨v,l,h1,h2,rfl⟩:=hv.cons_inv
 rw[h2.nil_inv,run_callFunc_extern hf hname hb hn he]
 exact⟨σ,h1,Tr.refl hs⟩
theorem Ew: ∀(n t:Nat) (acc:Array Value),(∀v∈acc,v.oneCell'=true)->(Extern.BytealgMakeNoZero.digits n t acc).size=acc.size+n∧ ∀v∈Extern.BytealgMakeNoZero.digits n t acc,v.oneCell'=true
 |0,t,acc,h=>⟨rfl,h⟩
 |n+1,t,acc,h=>by
  have:=Ew n (t/256) (acc.push (.int .u8 (Int.ofNat (t % 256)))) (λv hv=>by
   rcases Array.mem_push.1 hv with hv|rfl
   ·exact h v hv
   ·rfl)
  unfold Extern.BytealgMakeNoZero.digits
  refine⟨?_,this.2⟩
  rw[this.1,Array.size_push];omega
theorem CZ{f:FuncId}{fn:Func}{ps:Array TypeId}{t e:TypeId}(hf:P.funcs[f]? =some fn)(hname:(fn.name== "runtime.NumGoroutine")=false)(hb:fn.body.isNone=true)(hn:Extern.findNext fn=none)(he:Extern.find fn=some (Extern.BytealgMakeNoZero.makeNoZero ps #[t]))
  (hu:P.underlying t=some (.slice e)){n:Nat}(hle:Nat.ble n 281474976710656=true){H:Heap}{σ:Mp}{w:World}{vs:List Value}(hs:Ww P σ H w)(hv:YO σ [.int .i64 (.ofNat n)] vs):
  LR P σ H w (.ret (.slice H.nx 0 n none) (H.new (.row ⟨e,1,n,.leaf,.unk,0,false,true,false⟩))) ((callFunc f ⟨vs⟩).run P w):=by
 obtain⟨v,l,h1,h2,rfl⟩:=hv.cons_inv
 rw[h2.nil_inv,XX h1,run_callFunc_extern hf hname hb hn he]
 have hle:=Z1 hle
 obtain⟨k,hk⟩:=Iu (P:=P) n 0 e w
 let y:=w.tape w.drew.drawn (.extern "internal/bytealg.MakeNoZero.bytes" 0)
 let cs:=Extern.BytealgMakeNoZero.digits (n+k) y #[]
 have hrun:(Extern.BytealgMakeNoZero.makeNoZero ps #[t] #[.int .i64 (.ofNat n)]).run P w=.ok (.slice (some ⟨w.heap.size,0,none⟩) n (n+k)) (w.drew.drew.alloc (.cells cs e)):=by
  have hlt: ¬((decide ((Int.ofNat n)<0)||decide ((Int.ofNat n)>2^48))=true):=by
   simp only[TG,decide_eq_true_eq,not_or]
   have e1:Int.ofNat n=(n:Int):=rfl
   have h2:((2:Int)^48)=281474976710656:=by decide
   rw[e1,h2]
   constructor<;>omega
  have hch:(choose (.extern "internal/bytealg.MakeNoZero.bytes" 0)).run P w.drew=.ok y w.drew.drew:=by
   rw[run_choose_drew]
   rfl
  have htn:(Int.ofNat n).toNat=n:=rfl
  rw[show(Extern.BytealgMakeNoZero.makeNoZero ps #[t] #[.int .i64 (.ofNat n)]).run P w=(Bind.bind (underlying t) _:Sem Value).run P w from rfl]
  simp only[Sem.run_bind,run_underlying hu,Result.andThen_ok,if_neg hlt,htn,hk,run_askRoom,hch,newRow,run_newObj,World.alloc_eq,Sem.run_pure]
  rfl
 rw[hrun]
 obtain⟨hz,hone⟩:=Ew (n+k) y #[] (λv hv=>by simp at hv)
 have hz:cs.size=n+k:=by rw[hz];simp
 have td:=(Tr.drew hs).trans (Tr.drew (Ww.drew hs))
 let L:Loc:=⟨w.heap.size,0,n+k,1⟩
 refine⟨σ.put H.nx L,Sf (l:=L) rfl,td.trans (Tr.alloc td.sim _ _ L rfl ⟨cs,(0,0),rfl,?_⟩)⟩
 refine⟨rfl,Zl _,by show n<=(n+k)*1;omega,by show 0+(n+k)*1<=cs.size;rw[hz];omega,(λh=>by cases h),λi hi=>?_,λi v _ hv=>hone v (WE hv),λ_ i _ _ h=>by have h1:=h.1;have h2:=h.2;simp at h2,λ_ _=>.inl rfl⟩
 have hi:i<n:=hi
 refine⟨cs[i]'(by omega),by show cs[0+i]? =_;rw[Zs];exact Wp _,?_⟩
 show Yt _ AV.unk _
 simp[Yt]
noncomputable def xu:List (Nat×Nat×List AV)->T Obj->T Obj
 |[],t=>t
 |(b,e,l)::rs,t=>xu rs (t.set b (.row ⟨e,1,YF l,T.ofList l,.unk,0,false,false,true⟩))
theorem KL: ∀(rs:List (Nat×Nat×List AV)) (t:T Obj) (b:Nat) (o:Obj),(xu rs t).get b=some o->
  (∃e l,(b,e,l)∈rs∧o=.row ⟨e,1,YF l,T.ofList l,.unk,0,false,false,true⟩)∨t.get b=some o
 |[],t,b,o,h=>.inr h
 |(b',e,l)::rs,t,b,o,h=>by
  rcases KL rs _ b o h with⟨e2,l2,h1,h2⟩|h1
  ·exact .inl ⟨e2,l2,ZK _ h1,h2⟩
  ·rw[T.get_set] at h1
   by_cases e3:b'=b
   ·rw[if_pos e3] at h1;cases h1;subst e3;exact .inl ⟨e,l,ZG ..,rfl⟩
   ·rw[if_neg e3] at h1;exact .inr h1
mutual
def TL:DataW Unit->List AV
 |.lit (.int k n)=>[.int k n]
 |.lit (.string s)=>[.str s]
 |.agg ds=>y7 ds
 |_=>[]
def y7:List (DataW Unit)->List AV
 |[]=>[]
 |d::ds=>TL d++y7 ds
end
def T0(P:Program)(W:World)(e:TypeId)(c:Nat):Prop:=
 ∀(m:Nat) (cs:List Value) (x:DataW Unit×List MemPlace),DataW.trod (λ_=>()) P W 0 (λ_=>true) false m e cs=some x->cs.length=c∧YO (λ_=>none) (TL x.1) cs∧ ∀v∈cs,v.oneCell'=true
theorem zx{W:World}{e:TypeId}{k:IntKind}(he:P.underlying e=some (.int k)):T0 P W e 1:=by
 intro m cs x h
 obtain⟨n,rfl,rfl,_⟩:=DataW.trod_int he h
 exact⟨rfl,TQ (by simp[Yt]),λv hv=>by simp at hv;subst hv;rfl⟩
theorem tf{W:World}{e:TypeId}{c:Nat}(he:T0 P W e c){m:Nat}{cs:List Value}: ∀(xs:List (DataW Unit×List MemPlace)) (k:Nat),
  (∀i x,xs[i]? =some x->DataW.trod (λ_=>()) P W 0 (λ_=>true) false m e ((cs.drop ((k+i)*c)).take c)=some x)->
  YO (λ_=>none) (y7 (xs.map (·.1))) ((cs.drop (k*c)).take (xs.length*c))∧ ∀v∈(cs.drop (k*c)).take (xs.length*c),v.oneCell'=true
 |[],k,_=>by simp[y7,YO]
 |x::xs,k,h=>by
  obtain⟨h1,h2,h3⟩:=he m _ x (h 0 x rfl)
  obtain⟨h4,h5⟩:=tf he xs (k+1) (λi y hy=>by
   have:=h (i+1) y (by simpa using hy)
   rw[show k+(i+1)=k+1+i by omega] at this
   exact this)
  rw[ZZ] at h1 h2 h3
  have hsplit:(cs.drop (k*c)).take ((x::xs).length*c)=(cs.drop (k*c)).take c++(cs.drop ((k+1)*c)).take (xs.length*c):=by
   rw[Zh,Xu,VM,Nat.add_comm (xs.length*c) c,List.take_add,SZ]
   congr 3
   rw[Xu,VM]
  rw[hsplit]
  refine⟨h2.append h4,λv hv=>?_⟩
  rcases Zy.1 hv with hv|hv
  ·exact h3 v hv
  ·exact h5 v hv
theorem PV{W:World}{t e:TypeId}{n c:Nat}(ht:P.underlying t=some (.array n e))(hc:P.cellsOf e=c)(hct:P.cellsOf t=n*c)(he:T0 P W e c):T0 P W t (n*c):=by
 intro m cs x h
 obtain⟨xs,m',rfl,rfl,hlen,hn,hel⟩:=DataW.trod_array ht h
 rw[hc] at hel
 obtain⟨h1,h2⟩:=tf he (m:=m') (cs:=cs) xs 0 (λi y hy=>by
  have hi:i<n:=by rw[<-hn];exact(Xh.1 hy).1
  rw[Zs,hel i hi];exact hy)
 rw[hct] at hlen
 have hcs:(cs.drop (0*c)).take (xs.length*c)=cs:=by
  rw[W3,Z6,hn,<-hlen,UJ]
 rw[hcs] at h1 h2
 exact⟨hlen,h1,h2⟩
theorem rn{W:World}{t e:TypeId}{f g:Field}(ht:P.underlying t=some (.struct #[f,g]))(hf:f.type=e)(hg:g.type=e)(hof:f.offset=0)(hog:g.offset=1)(hc:P.cellsOf e=1)(hct:P.cellsOf t=2)(he:T0 P W e 1):T0 P W t 2:=by
 intro m cs x h
 obtain⟨xs,m',rfl,rfl,hlen,hn,hel⟩:=DataW.trod_struct ht h
 have h0:=hel 0 f rfl
 have h1:=hel 1 g rfl
 rw[hf,hof,hc] at h0
 rw[hg,hog,hc] at h1
 obtain⟨g1,g2⟩:=tf he (m:=m') (cs:=cs) xs 0 (λi y hy=>by
  have hi:i<2:=by
   have:xs.length=2:=by rw[hn];rfl
   rw[<-this];exact(Xh.1 hy).1
  match i,hi with
  |0,_=>simpa using h0.trans hy
  |1,_=>simpa using h1.trans hy)
 have Zal:cs.length=2:=by rw[hlen,hct]
 have hn2:xs.length=2:=by rw[hn];rfl
 have hcs:(cs.drop (0*1)).take (xs.length*1)=cs:=by
  rw[hn2,W3,Z6,Xw,<-Zal,UJ]
 rw[hcs] at g1 g2
 exact⟨Zal,g1,g2⟩
theorem lR{W:World}{n:String}{g:Nat}{cs:Array Value}(hg:P.globalNamed n=some g)(h:W.var? P n=some cs): ∃t fr,W.heap[g]? =some (.cells cs t fr):=by
 simp only[World.var?,hg,Option.bind_some] at h
 split at h
 ·rename_i c t fr hh;cases h;exact⟨t,fr,hh⟩
 ·cases h
noncomputable def ZcS(l:List (Nat×CF)):T CF:=List.rec .leaf (λx _ t=>t.set x.1 x.2) l
theorem uv: ∀{l:List (Nat×CF)} {f:Nat} {cf:CF},(ZcS l).get f=some cf->(f,cf)∈l
 |[],f,cf,h=>by
  have h:(T.leaf:T CF).get f=some cf:=h
  rw[T.get_leaf] at h;cases h
 |(g,c)::l,f,cf,h=>by
  have h:((ZcS l).set g c).get f=some cf:=h
  rw[T.get_set] at h
  by_cases e:g=f
  ·rw[if_pos e] at h;cases h;rw[e];exact ZG ..
  ·rw[if_neg e] at h;exact ZK _ (uv h)
theorem yY{W W':World}{may:MemPlace->Prop}(h1:W'.os=W.os)(h2:W'.output=W.output)(h3: ∀i,i<W.heap.size->W'.heap[i]? =W.heap[i]?):W.keptBut W' may:=by
 refine⟨h1,h2,λi hi=>?_⟩
 rw[h3 i hi]
 split
 ·rename_i e1 e2;rw[e1] at e2;cases e2;exact⟨rfl,rfl,rfl,λ_ _=>rfl⟩
 ·rename_i e1 e2;rw[e1] at e2;cases e2;exact .inr ⟨rfl,rfl⟩
 ·rfl
mutual
theorem Yt.back{σ σ':Mp}(h:Ext σ σ'): ∀{a:AV} {v0 v:Value},Yt σ a v0->Yt σ' a v->Yt σ a v
 |.unk,_,_,_,_=>by simp[Yt]
 |.bool b,_,v,_,r=>by simpa [Yt] using r
 |.int k n,_,v,_,r=>by simpa [Yt] using r
 |.str s,_,v,_,r=>by simpa [Yt] using r
 |.nilp,_,v,_,r=>by simpa [Yt] using r
 |.ptr b o,_,v,q,r=>by
  simp only[Yt] at q r ⊢
  obtain⟨l,hl,_⟩:=q
  obtain⟨l',hl',hv⟩:=r
  rw[h _ _ hl] at hl';cases hl'
  exact⟨l,hl,hv⟩
 |.nils,_,v,_,r=>by simpa [Yt] using r
 |.slice0,_,v,_,r=>by simpa [Yt] using r
 |.slice b o n cap,_,v,q,r=>by
  simp only[Yt] at q r ⊢
  obtain⟨l,hl,_⟩:=q
  obtain⟨l',hl',hv⟩:=r
  rw[h _ _ hl] at hl';cases hl'
  exact⟨l,hl,hv⟩
 |.nilm,_,v,_,r=>by simpa [Yt] using r
 |.map b,_,v,q,r=>by
  simp only[Yt] at q r ⊢
  obtain⟨l,hl,_⟩:=q
  obtain⟨l',hl',hv⟩:=r
  rw[h _ _ hl] at hl';cases hl'
  exact⟨l,hl,hv⟩
 |.func f a b,_,v,q,r=>by
  simp only[Yt] at q r ⊢
  obtain⟨x0,y0,q1,q2,_⟩:=q
  obtain⟨x,y,hx,hy,hv⟩:=r
  exact⟨x,y,YO.back h q1 hx,YO.back h q2 hy,hv⟩
 |.meth n a,_,v,q,r=>by
  simp only[Yt] at q r ⊢
  obtain⟨x0,q1,_⟩:=q
  obtain⟨x,hx,hv⟩:=r
  exact⟨x,Yt.back h q1 hx,hv⟩
 |.yield b,_,v,q,r=>by
  simp only[Yt] at q r ⊢
  obtain⟨l,hl,_⟩:=q
  obtain⟨l',hl',hv⟩:=r
  rw[h _ _ hl] at hl';cases hl'
  exact⟨l,hl,hv⟩
 |.nilf,_,v,_,r=>by simpa [Yt] using r
 |.iface t x,_,v,q,r=>by
  simp only[Yt] at q r ⊢
  obtain⟨y0,q1,_⟩:=q
  obtain⟨y,hy,hv⟩:=r
  exact⟨y,Yt.back h q1 hy,hv⟩
 |.nili,_,v,_,r=>by simpa [Yt] using r
 |.agg cs,_,v,q,r=>by
  simp only[Yt] at q r ⊢
  obtain⟨v0,q1,_,_⟩:=q
  obtain⟨vs,hx,h1,hv⟩:=r
  exact⟨vs,YO.back h q1 hx,h1,hv⟩
 |.tup cs,_,v,q,r=>by
  simp only[Yt] at q r ⊢
  obtain⟨v0,q1,_⟩:=q
  obtain⟨vs,hx,hv⟩:=r
  exact⟨vs,YO.back h q1 hx,hv⟩
theorem YO.back{σ σ':Mp}(h:Ext σ σ'): ∀{as:List AV} {l0 l:List Value},YO σ as l0->YO σ' as l->YO σ as l
 |[],_,_,_,r=>by simpa [YO] using r
 |a::as,_,_,q,r=>by
  simp only[YO] at q r ⊢
  obtain⟨v0,vs0,q1,q2,_⟩:=q
  obtain⟨v,vs,r1,r2,e⟩:=r
  exact⟨v,vs,Yt.back h q1 r1,YO.back h q2 r2,e⟩
end
theorem R8.back{σ σ':Mp}(h:Ext σ σ'){r:Row}{l:Loc}{c0 c:Array Value}{f0 f:Nat×Nat}(q:R8 σ r l c0 f0)(p:R8 σ' r l c f):R8 σ r l c f:=
 ⟨p.sz,p.sz1,p.fits,p.room,p.exact,λi hi=>by
  obtain⟨v0,_,h0⟩:=q.cell i hi
  obtain⟨v,h1,h2⟩:=p.cell i hi
  exact⟨v,h1,h0.back h h2⟩,p.one,p.frz,p.frs⟩
theorem YG.known{σ:Mp}: ∀{es:List RE} {l:List MapEntry},YG σ es l-> ∀e∈es,(∃v,Yt σ e.key v)∧ ∃v,Yt σ e.val v
 |[],_,_,e,he=>by cases he
 |a::as,_,h,e,he=>by
  obtain⟨x,xs,h1,h2,_⟩:=h
  rcases ZN.1 he with rfl|he
  ·exact⟨⟨_,h1.1⟩,⟨_,h1.2.1⟩⟩
  ·exact YG.known h2 e he
theorem YG.back{σ σ':Mp}(h:Ext σ σ'): ∀{es:List RE} {l:List MapEntry},(∀e∈es,(∃v,Yt σ e.key v)∧ ∃v,Yt σ e.val v)->YG σ' es l->YG σ es l
 |[],_,_,r=>r
 |a::as,_,q,r=>by
  obtain⟨x,xs,h1,h2,e⟩:=r
  obtain⟨⟨_,q1⟩,⟨_,q2⟩⟩:=q a (ZG ..)
  exact⟨x,xs,⟨q1.back h h1.1,q2.back h h1.2.1,h1.2.2⟩,YG.back h (λe he=>q e (ZK _ he)) h2,e⟩
theorem Uo.back{σ σ':Mp}(h:Ext σ σ'){o:Obj}{l:Loc}{c0 c:Go.Obj}(q:Uo σ o l c0)(p:Uo σ' o l c):Uo σ o l c:=by
 cases o with
 |row r=>
  obtain⟨_,_,_,q1⟩:=q
  obtain⟨cs,fr,e,p1⟩:=p
  exact⟨cs,fr,e,q1.back h p1⟩
 |map es clock=>
  obtain⟨_,_,q1,_⟩:=q
  obtain⟨ents,e,p1,p2⟩:=p
  exact⟨ents,e,YG.back h q1.known p1,p2⟩
 |siter s pos=>exact p
 |miter m since cur=>
  obtain⟨_,_,_,q1,_⟩:=q
  obtain⟨seen,st,e,p1,p2⟩:=p
  refine⟨seen,st,?_,q1,p2⟩
  rw[e]
  cases m with
  |none=>rfl
  |some b=>
   obtain⟨l2,hl2⟩:=Vp.1 (q1 b rfl)
   show Go.Obj.mapIter ((σ' b).map (·.blk)) since seen st=Go.Obj.mapIter ((σ b).map (·.blk)) since seen st
   rw[hl2,h _ _ hl2]
 |loop=>exact p
 |cmap es=>
  obtain⟨_,_,f0,_,q1,q2,_⟩:=q
  obtain⟨ents,clock,fs,e,p1,p2,p3⟩:=p
  refine⟨ents,clock,fs,e,YG.back h (λx hx=>?_) p1,p2,p3⟩
  have hm:OY x∈f0.map OY:=q2.symm.mem_iff.1 (p2.mem_iff.1 (Tf hx))
  obtain⟨y,hy,ey⟩:=YC.1 hm
  obtain⟨⟨v,h1⟩,⟨u,h2⟩⟩:=q1.known y hy
  have e1:y.key=x.key:=congrArg Prod.fst ey
  have e2:y.val=x.val:=congrArg Prod.snd ey
  exact⟨⟨v,e1▸h1⟩,⟨u,e2▸h2⟩⟩
theorem Tr.drop{σ σ':Mp}{H H':Heap}{w w':World}(hs:Ww P σ H w)(t:Tr P σ H w σ' H' w')(keep: ∀b,b<H.nx->H'.t.get b=H.t.get b):Tr P σ H w σ H w':=by
 have hs':Ww P σ H w':=by
  refine⟨hs.dom,hs.low,λb o l hb hl=>?_,hs.inj,hs.glob,hs.ro⟩
  obtain⟨c0,_,h1⟩:=hs.alive b o l hb hl
  obtain⟨c,h2,h3⟩:=t.sim.alive b o l (by rw[keep b (hs.low b o hb)];exact hb) (t.ext b l hl)
  exact⟨c,h2,h1.back t.ext h3⟩
 exact⟨Ext.refl σ,hs',t.size,t.frame,λb l hw hl _=>⟨b,l,hw,hl,rfl⟩,Zl _,rfl,λ_ _=>rfl,t.tape,t.os,t.out,λ_ _ h=>⟨rfl,h⟩⟩
end
end
end Go.AI
