/- Calls, rounds and ranges do what the machine does: proved for told worlds. -/
import Derived.Test.YtmnmknjlgpjcbaaGreatDoorP4
import Derived.RangeFuncLeaves
import Derived.RangeFuncRecord
import Derived.Laws.NewFold
import Derived.Laws.StandIn
import Derived.Lib.Bytealg
import Derived.OpenShut
import Derived.ChangeArms
import Derived.ChangeMade
import GoSem.ClaimJoined
set_option maxRecDepth 1000000
set_option maxHeartbeats 0
set_option linter.unusedVariables false
set_option linter.unusedSimpArgs false
namespace Go.AI
open Go
noncomputable section
section
variable {P:Program} {σ:Mp} {H:Zc} {w:World} {N:Nat} {tm:TM} {t:Array Value}
def Ih(P:Program)(r:ResultVar):Yc×Option (Nat×Bool):=match r with|.tmp n=>(YN P (.tmp n),none)|.cell a u=>(YN P (.tmp a),some (P.cellsOf u,NR P u))
def jX(t:Array Value)(r:ResultVar):Sem Value:=match r with
 |.tmp n=>pure (t.getD n undef)
 |.cell a u=>do loadVar u (<-asAddr (t.getD a undef))
theorem Zdf(hs:Wh P σ H w)(ht:Qv σ N tm t){r:ResultVar}(hr:HL P r=true){kk:AV->CR}{o:CR}
  (h:Zg6 tm H (Ih P r) kk=o)(ho:o≠.fail): ∃v u,kk v=o∧Ys σ v u∧(jX t r).run P w=.ok u w:=by
 have hρ:=KD (a:={tmps:=t,defers:=[]}) hs ht
 cases r with
 |tmp n=>exact⟨_,t.getD n undef,h,hρ (.tmp n),rfl⟩
 |cell a u=>
  have g:=hρ (.tmp a)
  simp only[Zg6,Ih] at h
  generalize hp:YN P (.tmp a) tm=p at h g
  cases p with
  |ptr b off=>
   simp only at h
   cases hb:H.t.get b with
   |none=>rw[hb] at h;exact absurd h.symm ho
   |some ob=>
    rw[hb] at h
    cases ob with
    |row r=>
     simp only at h
     cases Tn:Nat.ble (Nat.add off (P.cellsOf u)) r.size with
     |false=>rw[Tn] at h;exact absurd h.symm ho
     |true=>
      rw[Tn] at h
      have Tn:off+P.cellsOf u<=r.size:=ZN Tn
      simp only[HL,XE,Vo] at hr
      obtain⟨⟨⟨i,hi⟩,⟨d,hu⟩⟩,hn1⟩:=hr
      have hn1:1<=P.cellsOf u:=ZN hn1
      obtain⟨l,hl,e⟩:=Ug g
      have e:t.getD a undef=_:=e
      obtain⟨cs,fr,hc,RM⟩:=hs.row hb hl
      have Cx:=Pn (w:=w) hu
      have hsz:P.cellsOf u=i.size:=by simp[Program.cellsOf,hi]
      cases h1:NR P u with
      |true=>
       rw[h1] at h Cx
       obtain⟨vs,h2,h3,h4,h5⟩:=Pm RM (P.cellsOf u) off Tn
       refine⟨_,.agg ⟨vs⟩,h,by simp only[Ys];exact⟨vs,h2,h5,rfl⟩,?_⟩
       have:=Rk (P:=P) hc vs (o:=l.base+off) h4
       rw[h3] at this
       show(do loadVar u (<-asAddr (t.getD a undef)):Sem Value).run P w=_
       rw[e]
       simp only[asAddr,Sem.run_bind,Sem.run_pure,Result.andThen_ok,loadVar,Cx,if_true,Wo hi,<-hsz,this]
      |false=>
       rw[h1] at h Cx
       obtain⟨v,hv,U5⟩:=RM.cell off (by omega)
       refine⟨_,v,h,U5,?_⟩
       show(do loadVar u (<-asAddr (t.getD a undef)):Sem Value).run P w=_
       rw[e]
       simp only[asAddr,Sem.run_bind,Sem.run_pure,Result.andThen_ok,loadVar,Cx,YO,if_false,run_load,IG hc,hv]
    |_=>exact absurd h.symm ho
  |_=>exact absurd h.symm ho
theorem te(hs:Wh P σ H w)(ht:Qv σ N tm t){o:CR}(ho:o≠.fail): ∀(l:List ResultVar) (kk:List AV->CR),l.all (HL P)=true->Om tm H kk (l.map (Ih P))=o->
  ∃vs us,kk vs=o∧YM σ vs us∧(l.mapM (jX t)).run P w=.ok us w
 |[],kk,_,h=>⟨[],[],h,UM,rfl⟩
 |r::l,kk,hr,h=>by
  simp only[List.all_cons,XE] at hr
  obtain⟨v,u,h1,h2,h3⟩:=Zdf (r:=r) hs ht hr.1 (kk:=λv=>Om tm H (λvs=>kk (v::vs)) (l.map (Ih P))) h ho
  obtain⟨vs,us,h4,h5,h6⟩:=te hs ht ho l _ hr.2 h1
  refine⟨v::vs,u::us,h4,WC h2 h5,?_⟩
  have h3:(jX t r).run P w=.ok u w:=h3
  rw[List.mapM_cons]
  simp only[Sem.run_bind,h3,Result.andThen_ok,h6,Sem.run_pure]
theorem Ii(hs:Wh P σ H w)(ht:Qv σ N tm t){fn:Func}(hr:fn.results.toList.all (HL P)=true){r:CR}(h:AI.results (fn.results.toList.map (Ih P)) tm H=r)(ho:r≠.fail):
  ∃v u,r=.ret v H∧Ys σ v u∧(Go.results fn t).run P w=.ok u w:=by
 obtain⟨vs,us,h1,h2,h3⟩:=te hs ht ho fn.results.toList _ hr h
 have hm:(fn.results.mapM (jX t)).run P w=.ok us.toArray w:=by
  rw[Array.mapM_eq_mapM_toList]
  show((fn.results.toList.mapM (jX t))>>=λl=>pure l.toArray).run P w=_
  rw[Sem.run_bind,h3];rfl
 have YX: ∀u,(if h:us.toArray.size=1 then us.toArray[0] else .tuple us.toArray)=u->(Go.results fn t).run P w=.ok u w:=by
  intro u hu
  unfold Go.results
  rw[Sem.run_bind]
  show Result.andThen ((fn.results.mapM (jX t)).run P w) _=_
  rw[hm]
  show Result.ok _ w=_
  rw[<-hu]
 have hlen:=h2.length
 match vs,us,h1,h2,hlen,YX with
 |[v],[u],h1,h2,_,YX=>
  obtain⟨v',vs',h4,_,h6⟩:=h2.cons_inv
  cases h6
  exact⟨v,u,h1.symm,h4,YX u rfl⟩
 |[],[],h1,h2,_,YX=>exact⟨.tup [],.tuple #[],h1.symm,by simp[Ys,YM],YX _ rfl⟩
 |v1::v2::vs,u1::u2::us,h1,h2,_,YX=>
  refine⟨.tup (v1::v2::vs),.tuple (u1::u2::us).toArray,h1.symm,by simp only[Ys];exact⟨_,h2,rfl⟩,YX _ ?_⟩
  rw[dif_neg (by simp)]
theorem jJ:params=(List.range' 0 16).map Pq:=rfl
theorem Bi{σ:Mp}{t:Array Value}: ∀(m k:Nat) (tm:TM) (vs:List AV),k+m<=512->(∀n,n<512->Ys σ (Su n tm) (t.getD n undef))->(∀i v,vs[i]? =some v->Ys σ v (t.getD (k+i) undef))->
  ∀n,n<512->Ys σ (Su n (Pp tm ((List.range' k m).map Pq) vs)) (t.getD n undef)
 |0,k,tm,vs,_,h,_,n,hn=>by cases vs<;>exact h n hn
 |m+1,k,tm,[],_,h,_,n,hn=>by rw[TV];exact h n hn
 |m+1,k,tm,v::vs,hk,h,hv,n,hn=>by
  rw[TV]
  show Ys σ (Su n (Pp (Pq k tm v) ((List.range' (k+1) m).map Pq) vs)) _
  refine Bi m (k+1) (Pq k tm v) vs (by omega) (λj hj=>?_) (λi u hi=>?_) n hn
  ·rw[IQ j k hj (by omega)]
   by_cases e:j=k
   ·subst e;rw[if_pos rfl];exact hv 0 v rfl
   ·rw[if_neg e];exact h j hj
  ·have:=hv (i+1) u (by simpa using hi)
   rw[show k+(i+1)=k+1+i by omega] at this
   exact this
theorem vf{σ:Mp}{as:List AV}{vs:List Value}(h:YM σ as vs)(N:Nat):Qv σ N (TX as) ((⟨vs⟩:Array Value)++Array.replicate (N - (⟨vs⟩:Array Value).size) undef):=by
 refine⟨by simp;omega,?_⟩
 unfold TX
 rw[jJ]
 refine Bi 16 0 Lb as (by decide) (λn hn=>?_) (λi v hi=>?_)
 ·rw[oL];simp[Ys]
 ·obtain⟨u,hu,hr⟩:=h.get hi
  have:((⟨vs⟩:Array Value)++Array.replicate (N - (⟨vs⟩:Array Value).size) undef).getD (0+i) undef=u:=by
   have Y6:i<vs.length:=(Vz.1 hu).1
   have G2:i<(⟨vs⟩:Array Value).size:=Y6
   rw[Zt,Z0,Array.getElem?_append_left G2]
   have:(⟨vs⟩:Array Value)[i]? =vs[i]? :=by simp
   rw[this,hu];rfl
  rw[this];exact hr
end
section
variable {P:Program}
theorem ff{σ:Mp}{H:Zc}{w:World}(hs:Wh P σ H w){b:Nat}{o:Obj}{l:Loc}(hb:H.t.get b=some o)(hl:σ b=some l){x:Option (List Deferred)}(hx:w.heap[l.blk]? =some (.deferred x)):False:=by
 obtain⟨c,hc,hr⟩:=hs.alive b o l hb hl
 rw[hx] at hc
 cases hc
 cases o with
 |row r=>obtain⟨_,_,h,_⟩:=hr;cases h
 |map es cl=>obtain⟨_,h,_⟩:=hr;cases h
 |siter s p=>obtain⟨h,_⟩:=hr;cases h
 |cmap es=>obtain⟨_,_,_,h,_⟩:=hr;cases h
 |miter m s q=>obtain⟨_,_,h,_⟩:=hr;cases h
 |loop=>obtain⟨_,h⟩:=hr;cases h
theorem Tr.take{σ0 σ:Mp}{H0 H:Zc}{w0 w:World}(t:Tr P σ0 H0 w0 σ H w){r:Nat}{x:Option (List Deferred)}(y:Option (List Deferred))(hr:w.heap[r]? =some (.deferred x))(Pj:w0.heap.size<=r):
  Tr P σ0 H0 w0 σ H (w.putObj r (.deferred y)):=by
 refine⟨t.ext,⟨t.sim.dom,t.sim.low,λb o l hb hl=>?_,t.sim.inj,t.sim.glob,t.sim.ro⟩,by simpa using t.size,λk hk hn=>?_,t.wr,t.nx,t.ro,t.low,t.tape,t.os,t.out,t.pend⟩
 ·obtain⟨c,hc,h⟩:=t.sim.alive b o l hb hl
  refine⟨c,?_,h⟩
  rw[World.putObj_heap_other λe=>ff t.sim hb hl (x:=x) (by rw[e];exact hr)]
  exact hc
 ·rw[World.putObj_heap_other (by omega)]
  exact t.frame k hk hn
theorem VZ.take{σ:Mp}{w:World}{lo r:Nat}{y:Option (List Deferred)}{l:List (AV×List AV)}{ds:List Deferred}(h:VZ σ w lo l ds)(hn: ∀d∈ds,∀r',d.target=.collected r'->r'≠r):VZ σ (w.putObj r (.deferred y)) lo l ds:=by
 induction h with
 |nil=>exact .nil
 |call h1 h2 h3 _ ih=>exact .call h1 h2 h3 (ih λd hd=>hn d (ZI _ hd))
 |mark h1 h2 h3 _ ih=>exact .mark h1 (by rw[World.putObj_heap_other (hn _ (Zx ..) _ rfl)];exact h2) h3 (ih λd hd=>hn d (ZI _ hd))
theorem Rx{f:FuncId}{fn:Func}{c:Code}{args:Array Value}{w:World}(hf:P.funcs[f]? =some fn)(Q6:fn.name≠ "runtime.NumGoroutine")(hb:fn.body=some c):(callFunc f args).run P w=.ok (.enter f args) w:=by
 simp[callFunc,hf,Q6,hb]
def Do(σ:Mp)(pn:Option AV)(u:FrameMode):Prop:=match pn with
 |none=>u=.returning
 |some v=> ∃x,Ys σ v x∧u=.panicking [{v:=x,recovered:=false}]
def DOk(P:Program)(dcall:Option AV->Nat->List AV->Zc->DR):Prop:=
 ∀(pn:Option AV) (g:Nat) (args:List AV) (H:Zc) (v:AV) (H':Zc) (rec:Bool),dcall pn g args H=.ret v H' rec->
 ∀(σ:Mp) (w:World) (vs:List Value) (c:Frame) (cs:List Frame),Wh P σ H w->YM σ args vs->Do σ pn c.mode->
  (callFunc g ⟨vs⟩).run P w=.ok (.enter g ⟨vs⟩) w∧(rec=true->pn.isSome=true)∧
  ∃σ' w',Tr P σ H w σ' H' w'∧Steps P (lone (Frame.enter P g ⟨vs⟩ .deferred) (c::cs) w) (lone {c with mode:=if rec then .returning else c.mode} cs w')
def ZeG(P:Program)(σ0:Mp)(H0:Zc)(w0:World)(r:CR)(e:Ending)(w:World):Prop:=match r with
 |.fail=>False
 |.ret v H'=> ∃u σ',e=.returned u∧Ys σ' v u∧Tr P σ0 H0 w0 σ' H' w
 |.pan v H'=> ∃u σ',e=.panicked [{v:=u,recovered:=false}]∧Ys σ' v u∧Tr P σ0 H0 w0 σ' H' w
theorem wJ{dcall:Option AV->Nat->List AV->Zc->DR}(hD:DOk P dcall){f:FuncId}{fn:Func}(hf:P.funcs[f]? =some fn)(hr:fn.results.toList.all (HL P)=true){N:Nat}{σ0:Mp}{H0:Zc}{w0:World}{tm:TM}{tms:Array Value}:
  ∀(ds:List Deferred) (σ:Mp) (H:Zc) (w:World) (l:List (AV×List AV)) (pn:Option AV) (fr:Frame) (cs:List Frame) (r:CR),fr.defers=ds->fr.fn=f->fr.kind=.normal->fr.tmps=tms->
  Tr P σ0 H0 w0 σ H w->Qv σ N tm tms->VZ σ w w0.heap.size l ds->Do σ pn fr.mode->deferred dcall (fn.results.toList.map (Ih P)) tm l pn H=r->r≠.fail->
  ∃e w' Ad,ZeG P σ0 H0 w0 r e w'∧Steps P (lone fr cs w) (lone Ad cs w')∧Ad.fn=f∧Ad.leaving P w' e:=by
 intro ds
 induction ds with
 |nil=>
  intro σ H w l pn fr cs r wP rI hk htm t ht hd hm he VY
  cases hd
  cases pn with
  |none=>
   obtain⟨v,u,rfl,h1,h2⟩:=Ii t.sim ht hr he VY
   exact⟨.returned u,w,fr,⟨u,σ,rfl,h1,t⟩,Steps.refl P _,rI,hm,wP,hk,fn,by rw[rI];exact hf,by rw[htm];exact h2⟩
  |some v=>
   obtain⟨x,hx,hm⟩:=hm
   have he:CR.pan v H=r:=he
   subst he
   exact⟨_,w,fr,⟨x,σ,rfl,hx,t⟩,Steps.refl P _,rI,hm,wP,fn,by rw[rI];exact hf⟩
 |cons d ds ih=>
  intro σ H w l pn fr cs r wP rI hk htm t ht hd hm he VY
  have YX:fr.mode≠.run:=by
   cases pn with
   |none=>intro e;rw[show fr.mode=.returning from hm] at e;cases e
   |some v=>obtain⟨x,_,hm⟩:=hm;intro e;rw[hm] at e;cases e
  cases hd with
  |mark h1 h2 h3 h4=>
   have Ut:=step_collected (P:=P) (cs:=cs) YX wP rfl (run_takeDeferred h2)
   obtain⟨e,w',Ad,g1,g2,g3,g4⟩:=ih σ H (w.putObj _ (.deferred none)) l pn {fr with defers:=[]++ds} cs r rfl rI hk htm (t.take none h2 h1) ht (h4.take h3) hm he VY
   exact⟨e,w',Ad,g1,.head Ut g2,g3,g4⟩
  | @call g p q args x y z l' _ h1 h2 h3 h4=>
   have he:(match dcall pn g (p++(args++q)) H with|.ret _ H' rec=>deferred dcall (fn.results.toList.map (Ih P)) tm l' (cond rec none pn) H'|_=>.fail)=r:=he
   cases hdc:dcall pn g (p++(args++q)) H with
   |fail=>rw[hdc] at he;exact absurd he.symm VY
   |pan v H' rec=>rw[hdc] at he;exact absurd he.symm VY
   |ret v H' rec=>
    rw[hdc] at he
    have he:deferred dcall (fn.results.toList.map (Ih P)) tm l' (cond rec none pn) H'=r:=he
    obtain⟨k1,k2,σ1,w1,t1,k3⟩:=hD pn g _ H v H' rec hdc σ w (x++(y++z)) {fr with defers:=ds} cs t.sim (h1.append (h2.append h3)) hm
    have Zf3:(invoke (.fn (.func g) ⟨z⟩) ⟨x++y⟩).run P w=.ok (.enter g ⟨x++(y++z)⟩) w:=by
     have:(⟨x++y⟩:Array Value)++(⟨z⟩:Array Value)=⟨x++(y++z)⟩:=by simp
     simp only[invoke,this]
     exact k1
    have Ut:=step_defer (P:=P) (cs:=cs) YX wP (fv:=.func g) (cap:=⟨z⟩) rfl Zf3
    have hm':Do σ1 (cond rec none pn) (if rec then FrameMode.returning else fr.mode):=by
     cases rec with
     |true=>rfl
     |false=>
      cases pn with
      |none=>exact hm
      |some v=>obtain⟨x,hx,hm⟩:=hm;exact⟨x,hx.mono t1.ext,hm⟩
    obtain⟨e,w',Ad,g1,g2,g3,g4⟩:=ih σ1 H' w1 l' (cond rec none pn) {{fr with defers:=ds} with mode:=if rec then FrameMode.returning else fr.mode} cs r rfl rI hk htm (t.trans t1) (ht.mono t1.ext) (h4.tr t.sim t1) hm' he VY
    exact⟨e,w',Ad,g1,.head Ut (k3.trans g2),g3,g4⟩
def ZeH(P:Program)(f:Nat)(cf:CF):Prop:=
 ∃fn c ds,P.funcs[f]? =some fn∧fn.name≠ "runtime.NumGoroutine" ∧fn.body=some c∧cf.rs=fn.results.toList.map (Ih P)∧
  (cf.body=Q9∨(fn.results.toList.all (HL P)=true∧WH P fn.ntmps cf.body [.code c] ds))
theorem vG{f:FuncId}{fn:Func}{c:Code}{args:Array Value}{kd:CallKind}(hf:P.funcs[f]? =some fn)(hb:fn.body=some c):
  Frame.enter P f args kd=({(default:Frame) with fn:=f,kind:=kd}:Frame).atR {tmps:=args++Array.replicate (fn.ntmps - args.size) undef,defers:=[]} ([.code c]++[]):=by
 simp[Frame.enter,Frame.atR,hf,hb]
 rfl
theorem HI(σ:Mp)(cs:List Frame):Iv σ .normal (λ_=>cs) none:=by
 refine⟨λfr h=>?_,λv h=>by cases h⟩
 unfold tryRecover
 rw[h]
theorem A7{dcall:Option AV->Nat->List AV->Zc->DR}(hD:DOk P dcall){f:Nat}{cf:CF}(h:ZeH P f cf){c:Ctx}{args:List AV}{H:Zc}{σ:Mp}{w:World}{vs:List Value}(hs:Wh P σ H w)(hv:YM σ args vs)
  (hc:OQ P c ({(default:Frame) with fn:=f,kind:=.normal}:Frame) σ H w):Lq P σ H w (Mh dcall cf.rs (cf.body c (TX args) H ⟨[],none⟩)) (.ok (.enter f ⟨vs⟩) w):=by
 obtain⟨fn,code,ds,hf,Q6,hb,rQ,vZ⟩:=h
 rcases vZ with J9|⟨v8,rR⟩
 ·rw[J9];exact trivial
 ·rw[rQ]
  generalize he:cf.body c (TX args) H ⟨[],none⟩=res
  generalize hr:Mh dcall (fn.results.toList.map (Ih P)) res=r
  have key:r≠.fail-> ∀cs,∃e w' Ad,ZeG P σ H w r e w'∧Steps P (lone (Frame.enter P f ⟨vs⟩ .normal) cs w) (lone Ad cs w')∧Ad.fn=f∧Ad.leaving P w' e:=by
   intro VY cs
   cases res with
   |fail=>exact absurd hr.symm VY
   |ok o Yp H' x'=>
    have Ut:St P σ ({(default:Frame) with fn:=f,kind:=.normal}:Frame) (λ_=>cs) fn.ntmps w.heap.size (TX args) H ⟨[],none⟩ {tmps:=(⟨vs⟩:Array Value)++Array.replicate (fn.ntmps - (⟨vs⟩:Array Value).size) undef,defers:=[]} w:=
     ⟨hs,vf hv fn.ntmps,.nil,HI σ cs,Zj _⟩
    obtain⟨σ1,a1,w1,t1,s1,_,arr⟩:=rR c _ (λ_=>cs) w.heap.size σ _ H ⟨[],none⟩ _ w [] o Yp H' x' hc Ut he
    rw[<-vG hf hb] at arr
    have go: ∀(pn:Option AV) (fr:Frame),Steps P (lone (Frame.enter P f ⟨vs⟩ .normal) cs w) (lone fr cs w1)->fr.defers=a1.defers->fr.fn=f->fr.kind=.normal->fr.tmps=a1.tmps->Do σ1 pn fr.mode->
      deferred dcall (fn.results.toList.map (Ih P)) Yp x'.df pn H'=r-> ∃e w' Ad,ZeG P σ H w r e w'∧Steps P (lone (Frame.enter P f ⟨vs⟩ .normal) cs w) (lone Ad cs w')∧Ad.fn=f∧Ad.leaving P w' e:=by
     intro pn fr P9 h1 h2 h3 h4 h5 h6
     obtain⟨e,w',Ad,g1,g2,g3,g4⟩:=wJ hD hf v8 a1.defers σ1 H' w1 x'.df pn fr cs r h1 h2 h3 h4 t1 s1.tm s1.df h5 h6 VY
     exact⟨e,w',Ad,g1,P9.trans g2,g3,g4⟩
    have hdf: ∀pn:Option AV,(match x'.df with|[]=>(match pn with|none=>AI.results (fn.results.toList.map (Ih P)) Yp H'|some v=>.pan v H')|df=>deferred dcall (fn.results.toList.map (Ih P)) Yp df pn H')=deferred dcall (fn.results.toList.map (Ih P)) Yp x'.df pn H':=by
     intro pn
     cases x'.df with
     |nil=>cases pn<;>rfl
     |cons d l=>rfl
    cases o with
    |normal=>
     exact go none _ (Steps.trans arr (.one (stepR_end rfl))) rfl rfl rfl rfl rfl ((hdf none).symm.trans hr)
    |ret=>
     obtain⟨todo,lV⟩:=arr rfl
     exact go none _ lV rfl rfl rfl rfl rfl ((hdf none).symm.trans hr)
    |pan v=>
     obtain⟨todo,u,hu,lV⟩:=arr
     exact go (some v) _ lV rfl rfl rfl rfl ⟨u,hu,rfl⟩ ((hdf (some v)).symm.trans hr)
    |exit i=>exact absurd hr.symm VY
  cases r with
  |fail=>exact trivial
  |ret v H'=>
   intro cs
   obtain⟨e,w',Ad,⟨u,σ',rfl,h1,h2⟩,g2,g3,g4⟩:=key (by simp) cs
   exact⟨.returned u,w',Ad,⟨σ',h1,h2⟩,g2,g3,g4⟩
  |pan v H'=>
   intro cs
   obtain⟨e,w',Ad,⟨u,σ',rfl,h1,h2⟩,g2,g3,g4⟩:=key (by simp) cs
   exact⟨.panicked [{v:=u,recovered:=false}],w',Ad,⟨u,rfl,σ',h1,h2⟩,g2,g3,g4⟩
theorem uv{σ0:Mp}{H0:Zc}{w0:World}: ∀(ds:List Deferred) (σ:Mp) (H:Zc) (w:World) (fr:Frame) (cs:List Frame),fr.defers=ds->fr.mode≠.run->Tr P σ0 H0 w0 σ H w->VZ σ w w0.heap.size [] ds->
  ∃w',Steps P (lone fr cs w) (lone {fr with defers:=[]} cs w')∧Tr P σ0 H0 w0 σ H w':=by
 intro ds
 induction ds with
 |nil=>
  intro σ H w fr cs wP hm t hd
  refine⟨w,?_,t⟩
  have:({fr with defers:=[]}:Frame)=fr:=by rw[<-wP]
  rw[this]
  exact Steps.refl P _
 |cons d ds ih=>
  intro σ H w fr cs wP hm t hd
  cases hd with
  |mark h1 h2 h3 h4=>
   have Ut:=step_collected (P:=P) (cs:=cs) hm wP rfl (run_takeDeferred h2)
   obtain⟨w',g1,g2⟩:=ih σ H (w.putObj _ (.deferred none)) {fr with defers:=[]++ds} cs rfl hm (t.take none h2 h1) (h4.take h3)
   exact⟨w',.head Ut g1,g2⟩
def Zaz(P:Program)(fs:T CF):Prop:= ∀f cf,fs.get f=some cf->ZeH P f cf
def NZ(P:Program)(lib:Nat->List AV->Zc->Option CR):Prop:=
 ∀f args H r,lib f args H=some r-> ∀σ w vs,Wh P σ H w->YM σ args vs->Lq P σ H w r ((callFunc f ⟨vs⟩).run P w)
noncomputable def fh(fs:T CF)(fuel:Nat)(ih:Nat->List AV->Zc->CR):Option AV->Nat->List AV->Zc->DR:=
 λpn g as H=>Js .fail fs g λcg=>Hu pn cg.rs (cg.body ⟨ih,Vt,VB,fuel,false⟩ (TX as) H ⟨[],pn⟩)
theorem uO{α:Type}{d:α}{fs:T CF}{f:Nat}{k:CF->α}{r:α}(h:Js d fs f k=r)(hr:r≠d): ∃cf,fs.get f=some cf∧k cf=r:=by
 unfold Js at h
 split at h
 ·rename_i cf hcf;exact⟨cf,hcf,h⟩
 ·exact absurd h.symm hr
theorem AR{call:Nat->List AV->Zc->CR}(SV:SL P call){rng:AV->(List AV->Zc->CR)->TM->Zc->X->X6}(ZbV:wU P rng)(fuel:Nat){b:Frame}(hb:b.roundOf=none)(σ:Mp)(H:Zc)(w:World):OQ P ⟨call,Vt,rng,fuel,false⟩ b σ H w:=
 ⟨SV,BZ σ H w,λ_=>hb,ZbV,λh=>absurd hb h⟩
theorem Zij{fs:T CF}(oX:Zaz P fs)(fuel:Nat){ih:Nat->List AV->Zc->CR}(SV:SL P ih):DOk P (fh fs fuel ih):=by
 intro pn g args H v H' rec he σ w vs c cs hs hv hm
 obtain⟨cf,hcf,he⟩:=uO he (by simp)
 obtain⟨fn,code,ds,hf,Q6,hb,rQ,vZ⟩:=oX g cf hcf
 rcases vZ with J9|⟨v8,rR⟩
 ·rw[J9] at he;cases he
 rw[rQ] at he
 generalize hbd:cf.body ⟨ih,Vt,VB,fuel,false⟩ (TX args) H ⟨[],pn⟩=res at he
 obtain⟨K,hK1,hK2,hKr⟩: ∃K:Bool->List Frame,K pn.isSome=c::cs∧
   (∀x':X,∃c',K x'.rc.isSome=c'::cs∧({c' with mode:=settle c'.mode}:Frame)={c with mode:=if M5 pn x' then .returning else c.mode})∧Iv σ .deferred K pn:=by
  cases pn with
  |none=>
   have hm:c.mode=.returning:=hm
   refine⟨λ_=>c::cs,rfl,λx'=>⟨c,rfl,?_⟩,⟨λfr GZ=>?_,λv h=>by cases h⟩⟩
   ·show({c with mode:=settle c.mode}:Frame)={c with mode:=c.mode}
    rw[show settle c.mode=c.mode by rw[hm];rfl]
   ·rw[tryRecover_deferred GZ];simp[recoverD,hm]
  |some y=>
   obtain⟨x,hx,hm⟩:=hm
   refine⟨λun=>(if un then c else{c with mode:=.panicking [{v:=x,recovered:=true}]})::cs,rfl,λx'=>?_,⟨λfr GZ=>?_,λv h=>?_⟩⟩
   ·cases hrc:x'.rc with
    |none=>
     refine⟨_,rfl,?_⟩
     have:M5 (some y) x'=true:=by unfold M5;rw[hrc]
     rw[this]
     rfl
    |some z=>
     refine⟨_,rfl,?_⟩
     have:M5 (some y) x'=false:=by unfold M5;rw[hrc]
     rw[this]
     show({c with mode:=settle c.mode}:Frame)={c with mode:=c.mode}
     rw[show settle c.mode=c.mode by rw[hm];rfl]
   ·rw[tryRecover_deferred GZ];simp[recoverD]
   ·cases h
    refine⟨x,hx,λfr GZ=>?_⟩
    rw[tryRecover_deferred GZ]
    simp[recoverD,hm]
 have Ut:St P σ ({(default:Frame) with fn:=g,kind:=.deferred}:Frame) K fn.ntmps w.heap.size (TX args) H ⟨[],pn⟩ {tmps:=(⟨vs⟩:Array Value)++Array.replicate (fn.ntmps - (⟨vs⟩:Array Value).size) undef,defers:=[]} w:=
  ⟨hs,vf hv fn.ntmps,.nil,hKr,Zj _⟩
 refine⟨Rx hf Q6 hb,?_,?_⟩
 ·intro ZbS
  cases pn with
  |some _=>rfl
  |none=>
   exfalso
   subst ZbS
   cases res with
   |fail=>cases he
   |ok o Yp H1 x'=>
    cases o with
    |normal=>
     simp only[Hu] at he
     split at he
     ·cases he
     ·cases he
    |ret=>
     simp only[Hu] at he
     split at he
     ·cases he
     ·cases he
    |pan v=>simp only[Hu] at he;split at he<;>cases he
    |exit i=>cases he
 ·cases res with
  |fail=>cases he
  |ok o Yp H1 x'=>
   obtain⟨σ1,a1,w1,t1,s1,_,arr⟩:=rR ⟨ih,Vt,VB,fuel,false⟩ _ K w.heap.size σ _ H ⟨[],pn⟩ _ w [] o Yp H1 x' (AR SV (HM P) fuel rfl σ H w) Ut hbd
   rw[<-vG hf hb] at arr
   rw[hK1] at arr
   obtain⟨c',rD,Zow⟩:=hK2 x'
   have go: ∀fr:Frame,Steps P (lone (Frame.enter P g ⟨vs⟩ .deferred) (c::cs) w) (lone fr (c'::cs) w1)->fr.defers=a1.defers->fr.fn=g->fr.kind=.deferred->fr.tmps=a1.tmps->fr.mode=.returning->
     (match x'.df,AI.results (fn.results.toList.map (Ih P)) Yp H1 with|[],.ret v H=>DR.ret v H (M5 pn x')|_,_=>.fail)=.ret v H' rec->
     ∃σ' w',Tr P σ H w σ' H' w'∧Steps P (lone (Frame.enter P g ⟨vs⟩ .deferred) (c::cs) w) (lone {c with mode:=if rec then .returning else c.mode} cs w'):=by
    intro fr P9 h1 h2 h3 h4 h5 h6
    split at h6
    ·rename_i v' H2 hdf RM
     cases h6
     obtain⟨v2,u,e2,h7,h8⟩:=Ii s1.sim s1.tm v8 RM (by simp)
     cases e2
     have hd:=s1.df
     rw[hdf] at hd
     obtain⟨w2,g1,g2⟩:=uv a1.defers σ1 _ w1 fr (c'::cs) h1 (by rw[h5];intro e;cases e) t1 hd
     obtain⟨v3,u3,e3,_,h9⟩:=Ii g2.sim s1.tm v8 RM (by simp)
     have hgo:({fr with defers:=[]}:Frame).going P w2 (.returned u3):=⟨h5,rfl,fn,by rw[show({fr with defers:=[]}:Frame).fn=g from h2];exact hf,by rw[show({fr with defers:=[]}:Frame).tmps=a1.tmps from h4];exact h9⟩
     have rS:=step_going_returned (P:=P) (c:=c') (cs:=cs) (fr:={fr with defers:=[]}) h3 hgo
     rw[Zow] at rS
     exact⟨σ1,w2,g2,P9.trans (g1.trans (.one rS))⟩
    ·cases h6
   cases o with
   |normal=>
    have arr:Steps P _ _:=arr
    rw[rD] at arr
    exact go _ (arr.trans (.one (stepR_end rfl))) rfl rfl rfl rfl rfl he
   |ret=>
    obtain⟨todo,lV⟩:=arr rfl
    rw[rD] at lV
    exact go _ lV rfl rfl rfl rfl rfl he
   |pan v=>simp only[Hu] at he;split at he<;>cases he
   |exit i=>cases he
theorem vw{lib:Nat->List AV->Zc->Option CR}{fs:T CF}(ZbJ:NZ P lib)(oX:Zaz P fs)(fuel:Nat)(ZbV: ∀call,SL P call->wU P (NV fs fuel call)): ∀n,SL P (ZG lib fs fuel n)
 |0=>λ_ _ _ _ _ _ _ _=>trivial
 |n+1=>by
  have ih:=vw ZbJ oX fuel ZbV n
  intro f args H σ w vs hs hv
  show Lq P σ H w (ny (lib f args H) (Js .fail fs f λcf=>Mh (fh fs fuel (ZG lib fs fuel n)) cf.rs (cf.body ⟨ZG lib fs fuel n,Vt,NV fs fuel (ZG lib fs fuel n),fuel,false⟩ (TX args) H ⟨[],none⟩))) _
  cases hl:lib f args H with
  |some r=>exact ZbJ f args H r hl σ w vs hs hv
  |none=>
   show Lq P σ H w (Js .fail fs f _) _
   unfold Js
   cases hg:fs.get f with
   |none=>exact trivial
   |some cf=>
    have rI:=oX f cf hg
    have YX:(callFunc f ⟨vs⟩).run P w=.ok (.enter f ⟨vs⟩) w:=by
     obtain⟨fn,code,ds,hf,Q6,hb,_⟩:=rI
     exact Rx hf Q6 hb
    rw[YX]
    exact A7 (Zij oX fuel ih) rI hs hv (AR ih (ZbV _ ih) fuel rfl σ H w)
theorem Wh.loop{σ:Mp}{H:Zc}{w:World}(hs:Wh P σ H w){l:Nat}{r0:Loop}(hl:w.heap[l]? =some (.loop r0))(r1:Loop):Wh P σ H (w.putObj l (.loop r1)):=by
 have Y6:l<w.heap.size:=(ZW.1 hl).1
 refine⟨hs.dom,hs.low,λb o L hb hL=>?_,hs.inj,hs.glob,hs.ro⟩
 obtain⟨c,hc,hr⟩:=hs.alive b o L hb hL
 by_cases e:L.blk=l
 ·rw[e,hl] at hc
  cases hc
  refine⟨.loop r1,by rw[e];exact World.putObj_heap_same Y6,?_⟩
  cases o with
  |row r=>obtain⟨_,_,h,_⟩:=hr;cases h
  |map es cl=>obtain⟨_,h,_⟩:=hr;cases h
  |siter s p=>obtain⟨h,_⟩:=hr;cases h
  |cmap es=>obtain⟨_,_,_,h,_⟩:=hr;cases h
  |miter m s q=>obtain⟨_,_,h,_⟩:=hr;cases h
  |loop=>exact⟨r1,rfl⟩
 ·exact⟨c,by rw[World.putObj_heap_other e];exact hc,hr⟩
theorem Tr.mask{σ σ':Mp}{H H':Zc}{w w':World}{l:Nat}{r0 r1:Loop}(hs:Wh P σ H w)(hl:w.heap[l]? =some (.loop r0))(t:Tr P σ H (w.putObj l (.loop r1)) σ' H' w'):Tr P σ H w σ' H' (w'.putObj l (.loop r0)):=by
 have Y6:l<w.heap.size:=(ZW.1 hl).1
 have SS:w'.heap[l]? =some (.loop r1):=t.dark (hs.loop hl r1) (World.putObj_heap_same Y6) trivial
 have hz:w.heap.size<=w'.heap.size:=by have:=t.size;simpa using this
 refine⟨t.ext,t.sim.loop SS r0,by simpa using hz,λk hk hn=>?_,λb L hw hL G2=>t.wr b L hw hL (by simpa using G2),t.nx,t.ro,t.low,t.tape,t.os,t.out,t.pend⟩
 by_cases e:k=l
 ·subst e
  rw[World.putObj_heap_same (by omega),hl]
 ·rw[World.putObj_heap_other e,t.frame k (by simpa using hk) hn,World.putObj_heap_other e]
theorem Tr.putLoop{σ0 σ:Mp}{H0 H:Zc}{w0 w:World}(t:Tr P σ0 H0 w0 σ H w){l:Nat}{r0:Loop}(r1:Loop)(hl:w.heap[l]? =some (.loop r0))(Pj:w0.heap.size<=l):Tr P σ0 H0 w0 σ H (w.putObj l (.loop r1)):=
 ⟨t.ext,t.sim.loop hl r1,by simpa using t.size,λk hk hn=>by rw[World.putObj_heap_other (by omega)];exact t.frame k hk hn,t.wr,t.nx,t.ro,t.low,t.tape,t.os,t.out,t.pend⟩
theorem VZ.putLoop{σ:Mp}{w:World}{lo l:Nat}{r0:Loop}(r1:Loop)(hl:w.heap[l]? =some (.loop r0)){ls:List (AV×List AV)}{ds:List Deferred}(h:VZ σ w lo ls ds):VZ σ (w.putObj l (.loop r1)) lo ls ds:=
 h.mono (Oq.refl σ) λr x hr=>by
  rw[World.putObj_heap_other λe=>by rw[e,hl] at hr;cases hr];exact hr
theorem A6{σ:Mp}{N:Nat}: ∀(ps:List Nat) (ys:List AV) (vs:List Value) (tm:TM) (t:Array Value),Qv σ N tm t->YM σ ys vs->ps.length=vs.length->(ps.all λp=>CX N (some p))=true->
  Qv σ N (Pp tm (ps.map λp=>XR (some p)) ys) ((ps.zip vs).foldl (λt (p,v)=>t.setIfInBounds p v) t)
 |[],ys,vs,tm,t,h,hr,hl,_=>by cases ys<;>simpa [Pp] using h
 |p::ps,[],vs,tm,t,h,hr,hl,_=>by rw[hr.nil_inv] at hl;cases hl
 |p::ps,y::ys,vs,tm,t,h,hr,hl,hp=>by
  obtain⟨v,vs',h1,h2,rfl⟩:=hr.cons_inv
  simp only[List.all_cons,XE] at hp
  have:=h.set (a:=y) (v:=v) (ZN hp.1) h1
  exact A6 ps ys vs' _ _ this h2 (by simpa using hl) hp.2
theorem ye{r:X6}{c:CR}(h:M6 r=c)(hc:c≠.fail): ∃tm H x,r=.ok .normal tm H x∧c=.ret (.bool true) H:=by
 unfold M6 at h
 split at h
 ·exact⟨_,_,_,rfl,h.symm⟩
 ·exact absurd h.symm hc
theorem bU{N:Nat}{da db:D}{asg body:Code}{ds1 ds2:List Nat}(ha:WH P N da [.code asg] ds1)(hb:WH P N db [.code body] ds2){ps:Array Tmp}(eR:(ps.toList.all λt=>CX N (some t))=true)
  {call:Nat->List AV->Zc->CR}(SV:SL P call)(fuel:Nat){σ:Mp}{tm:TM}{t:Array Value}(ht:Qv σ N tm t){fn:FuncId}
  {σ1:Mp}{H1:Zc}{w1:World}{l df:Nat}{ys:List AV}{vs:List Value}(he:Oq σ σ1)(hs:Wh P σ1 H1 w1)
  (hl:w1.heap[l]? =some (.loop {state:=.ready,pending:=none,fn:=fn,tmps:=t,params:=ps,assign:=asg,body:=body,defers:=df}))(hv:YM σ1 ys vs):
  Lq P σ1 H1 w1 (cond (Nat.beq (YH ys) (YH (ps.toList.map λp=>XR (some p)))) (M6 (Zh da db ⟨call,Vt,VB,fuel,true⟩ (Pp tm (ps.toList.map λp=>XR (some p)) ys) H1 ⟨[],none⟩)) .fail) ((Instr.yield l ⟨vs⟩).run P w1):=by
 cases hlen:Nat.beq (YH ys) (YH (ps.toList.map λp=>XR (some p))) with
 |false=>exact trivial
 |true=>
  show Lq P σ1 H1 w1 (M6 _) _
  generalize hr:M6 (Zh da db ⟨call,Vt,VB,fuel,true⟩ (Pp tm (ps.toList.map λp=>XR (some p)) ys) H1 ⟨[],none⟩)=c
  cases c with
  |fail=>exact trivial
  |pan v H=>obtain⟨_,_,_,_,h⟩:=ye hr (by simp);cases h
  |ret v H=>
   obtain⟨Yp,H',x',YX,hc⟩:=ye hr (by simp)
   cases hc
   have hlen:=ZT hlen
   rw[YC,YC,Zr,hv.length] at hlen
   have hsz:(⟨vs⟩:Array Value).size=ps.size:=by simpa using hlen
   rw[run_yield hl hsz]
   intro fr cs
   let b:Frame:={(default:Frame) with fn:=fn,kind:=.normal,roundOf:=some l}
   let t1:Array Value:=(ps.zip ⟨vs⟩).foldl (λtmps (t,a)=>tmps.setIfInBounds t a) t
   have hb0:Frame.round l fn t1 asg body .normal=b.atR {tmps:=t1,defers:=[]} ([.code asg]++[.beginRound,.code body]):=by simp[Frame.round,Frame.atR,b]
   have lW:t1=(ps.toList.zip vs).foldl (λt (p,v)=>t.setIfInBounds p v) t:=by
    show(ps.zip ⟨vs⟩).foldl _ t=_
    rw[<-Array.foldl_toList,Array.toList_zip]
   have ht1:Qv σ1 N (Pp tm (ps.toList.map λp=>XR (some p)) ys) t1:=by
    rw[lW]
    exact A6 ps.toList ys vs tm t (ht.mono he) hv (by simpa using hlen.symm) eR
   have ctx: ∀(σ:Mp) (H:Zc) (w:World),OQ P ⟨call,Vt,VB,fuel,true⟩ b σ H w:=λσ H w=>⟨SV,BZ σ H w,(λh=>by cases h),HM P,λ_=>rfl⟩
   have Ut:St P σ1 b (λ_=>fr::cs) N w1.heap.size (Pp tm (ps.toList.map λp=>XR (some p)) ys) H1 ⟨[],none⟩ {tmps:=t1,defers:=[]} w1:=
    ⟨hs,ht1,.nil,HI σ1 _,Zj _⟩
   obtain⟨o1,SY,H2,x1,h1,h2⟩:=BN YX
   rcases h2 with⟨rfl,h2⟩|⟨VY,h3,_⟩
   ·obtain⟨σ2,a2,w2,tr1,s1,_,arr1⟩:=ha _ b (λ_=>fr::cs) w1.heap.size σ1 _ H1 ⟨[],none⟩ _ w1 [.beginRound,.code body] .normal SY H2 x1 (ctx _ _ _) Ut h1
    have Nl:=tr1.dark hs hl trivial
    have hbr:=run_beginRound (P:=P) Nl rfl
    have s2:St P σ2 b (λ_=>fr::cs) N w1.heap.size SY H2 x1 a2 (w2.putObj l (.loop {state:=.busy,pending:=none,fn:=fn,tmps:=t,params:=ps,assign:=asg,body:=body,defers:=df})):=
     ⟨s1.sim.loop Nl _,s1.tm,s1.df.putLoop _ Nl,s1.rc,by simpa using s1.lo⟩
    obtain⟨σ3,a3,w3,tr2,s3,_,JT⟩:=hb _ b (λ_=>fr::cs) w1.heap.size σ2 SY H2 x1 a2 _ [] .normal Yp H x' (ctx _ _ _) s2 h2
    have hl3:w3.heap[l]? =some (.loop {state:=.busy,pending:=none,fn:=fn,tmps:=t,params:=ps,assign:=asg,body:=body,defers:=df}):=
     tr2.dark s2.sim (World.putObj_heap_same (ZW.1 Nl).1) trivial
    have ZfY:=run_endRound (P:=P) none hl3
    have tr:=tr1.trans (Tr.mask s1.sim Nl tr2)
    refine⟨.bool true,_,⟨σ3,by simp[Ys],tr⟩,?_⟩
    rw[hb0]
    have arr1:Steps P _ _:=arr1
    have JT:Steps P _ _:=JT
    exact arr1.trans (.head (stepR_beginRound rfl hbr) (JT.trans (.one (stepR_round_end rfl rfl ZfY))))
   ·exact absurd h3 VY
theorem tL{N:Nat}{da db:D}{asg body:Code}{ds1 ds2:List Nat}(ha:WH P N da [.code asg] ds1)(hb:WH P N db [.code body] ds2){g:Operand}{ps:Array Tmp}(eR:(ps.toList.all λt=>CX N (some t))=true):
  WH P N (wo (YN P g) (ps.toList.map λt=>XR (some t)) (Zh da db)) [.code (.rangeFunc g ps asg body)] []:=by
 intro c b K lo σ tm H x a w k o Yp H' x' hc hs he
 have he:c.rng (YN P g tm) (λys H=>cond (Nat.beq (YH ys) (YH (ps.toList.map λt=>XR (some t)))) (M6 (Zh da db ⟨c.call,Vt,VB,c.fuel,true⟩ (Pp tm (ps.toList.map λt=>XR (some t)) ys) H ⟨[],none⟩)) .fail) tm H x=.ok o Yp H' x':=he
 by_cases hb0:b.roundOf=none
 ·obtain⟨σ',a',w',h1,h2,h3,h4⟩:=hc.rng _ _ tm H x o Yp H' x' he σ w b K N lo a k g ps asg body hs hb0 (KD hs.sim hs.tm g) (λσ1 H1 w1 l df ys vs h1 h2 h3 h4=>bU ha hb eR hc.call c.fuel hs.tm h1 h2 h3 h4)
  exact⟨σ',a',w',h1,h2,λn _=>by rw[h3],h4⟩
 ·rw[hc.rngN hb0] at he
  cases he
theorem VZ.lt{σ:Mp}{w:World}{lo:Nat}{l:List (AV×List AV)}{ds:List Deferred}(h:VZ σ w lo l ds): ∀d∈ds,∀r,d.target=.collected r->r<w.heap.size:=by
 induction h with
 |nil=>intro d hd;cases hd
 |call _ _ _ _ ih=>
  intro d hd r hr
  rcases Ya.1 hd with rfl|hd
  ·cases hr
  ·exact ih d hd r hr
 |mark _ h2 _ _ ih=>
  intro d hd r hr
  rcases Ya.1 hd with rfl|hd
  ·cases hr;exact(ZW.1 h2).1
  ·exact ih d hd r hr
theorem Tr.block{σ:Mp}{H:Zc}{w:World}(hs:Wh P σ H w)(c:Go.Obj):Tr P σ H w σ H (w.alloc c):=by
 have hf: ∀k,k<w.heap.size->(w.alloc c).heap[k]? =w.heap[k]? :=λk hk=>SG hk
 exact⟨Oq.refl σ,hs.grow hf,by simp,λk hk _=>hf k hk,λb l hw hl _=>⟨b,l,hw,hl,rfl⟩,Zj _,rfl,λ_ _=>rfl,rfl,rfl,rfl,λ_ _ h=>⟨rfl,h⟩⟩
theorem gS{r:CR}{tm:TM}{x:X}{o:Out}{Yp:TM}{H':Zc}{x':X}(h:gR r tm x=.ok o Yp H' x'):Yp=tm∧x'=x∧((∃v,r=.ret v H'∧o=.normal)∨ ∃v,r=.pan v H'∧o=.pan v):=by
 cases r with
 |fail=>cases h
 |ret v H=>cases h;exact⟨rfl,rfl,.inl ⟨v,rfl,rfl⟩⟩
 |pan v H=>cases h;exact⟨rfl,rfl,.inr ⟨v,rfl,rfl⟩⟩
theorem ti{fs:T CF}(oX:Zaz P fs)(fuel:Nat){call:Nat->List AV->Zc->CR}(SV:SL P call):wU P (NV fs fuel call):=by
 intro f round tm H x o Yp H' x' he σ w b K N lo a k g ps asg body hs hb hf Zgf
 cases f with
 |func fg p q=>
  simp only[NV] at he
  obtain⟨cf,hcf,he⟩:=uO he (by simp)
  obtain⟨rfl,rfl,N9⟩:=gS he
  simp only[Ys] at hf
  obtain⟨xs,zs,hxs,hzs,hfv⟩:=hf
  let lp:Loop:={state:=.ready,pending:=none,fn:=b.fn,tmps:=a.tmps,params:=ps,assign:=asg,body:=body,defers:=w.heap.size}
  let wd:World:=w.alloc (.deferred (some []))
  let w2:World:=wd.alloc (.loop lp)
  let l:Nat:=w.heap.size+1
  have hwd:wd.heap.size=l:=by simp[wd,l]
  let L:Loc:=⟨l,0,0,0⟩
  have t1:Tr P σ H w σ H wd:=Tr.block hs.sim _
  have t2:Tr P σ H wd (σ.put H.nx L) (H.new .loop) w2:=Tr.alloc t1.sim .loop (.loop lp) L (by simp[L,hwd]) ⟨lp,rfl⟩
  have tt:=t1.trans t2
  have Nl:w2.heap[l]? =some (.loop lp):=by rw[<-hwd];exact SF wd _
  have o7:w2.heap[w.heap.size]? =some (.deferred (some [])):=by
   have:wd.heap[w.heap.size]? =some (.deferred (some [])):=SF w _
   rw[SG (by rw[hwd];exact YZ _)];exact this
  have ZdX:(σ.put H.nx L) H.nx=some L:=Mp.put_same _ _ _
  have xA:YM (σ.put H.nx L) (p++(.yield H.nx::q)) (xs++(.func (.yield l) #[] #[]::zs)):=
   (YM.mono tt.ext hxs).append (WC (by simp only[Ys];exact⟨L,ZdX,rfl⟩) (YM.mono tt.ext hzs))
  have rI:=oX fg cf hcf
  have ctx:OQ P ⟨call,λbk ys H'=>cond (Nat.beq bk H.nx) (round ys H') .fail,VB,fuel,false⟩ ({(default:Frame) with fn:=fg,kind:=.normal}:Frame) (σ.put H.nx L) (H.new .loop) w2:=by
   refine⟨SV,λbk args Hy σy wy ly vsy ty hbk hvy=>?_,λ_=>rfl,HM P,λh=>absurd rfl h⟩
   show Lq P σy Hy wy (cond (Nat.beq bk H.nx) (round args Hy) .fail) _
   cases e:Nat.beq bk H.nx with
   |false=>exact trivial
   |true=>
    have e:=ZT e
    subst e
    have h1:=ty.ext _ _ ZdX
    rw[h1] at hbk
    cases hbk
    exact Zgf σy Hy wy l w.heap.size args vsy (tt.ext.trans ty.ext) ty.sim (ty.dark t2.sim Nl trivial) hvy
  have v4:=A7 (dcall:=λ_ _ _ _=>.fail) (λ_ _ _ _ _ _ _ h=>by cases h) rI tt.sim xA ctx
  have Kc:=run_enterLoop_outer (P:=P) (w:=w) b.fn a.tmps ps asg body
  have v8:(resolve a.eval (rangeCall g l) 0).run P w2=.ok {target:=.fn (.func fg) ⟨zs⟩,args:=⟨xs++[.func (.yield l) #[] #[]]⟩} w2:=by
   simp only[resolve,hfv,Deferred.ofValue,Sem.run_pure]
   congr 3
   apply Array.ext'
   simp[Act.eval]
  have ZnD:(callFunc fg ⟨xs++(.func (.yield l) #[] #[]::zs)⟩).run P w2=.ok (.enter fg ⟨xs++(.func (.yield l) #[] #[]::zs)⟩) w2:=by
   obtain⟨fn,code,ds,h1,h2,h3,_⟩:=rI
   exact Rx h1 h2 h3
  have Zf3:(invoke (.fn (.func fg) ⟨zs⟩) ⟨xs++[.func (.yield l) #[] #[]]⟩).run P w2=.ok (.enter fg ⟨xs++(.func (.yield l) #[] #[]::zs)⟩) w2:=by
   have:(⟨xs++[.func (.yield l) #[] #[]]⟩:Array Value)++(⟨zs⟩:Array Value)=⟨xs++(.func (.yield l) #[] #[]::zs)⟩:=by simp
   simp only[invoke,this]
   exact ZnD
  have Kh:=stepR_rangeFunc (P:=P) (b:=b) (a:=a) (k:=k) (cs:=K x'.rc.isSome) (w:=w) (g:=g) (ps:=ps) (assign:=asg) (body:=body) (by rw[hb];exact Kc) v8 Zf3
  have hdf: ∀(σ3:Mp) (H3:Zc) (w3:World),Tr P (σ.put H.nx L) (H.new .loop) w2 σ3 H3 w3->VZ σ3 w3 lo x'.df ({target:=.collected w.heap.size,args:= #[]}::a.defers):=by
   intro σ3 H3 w3 t3
   refine .mark hs.lo (t3.dark t2.sim o7 trivial) (λd hd r' Kg=>?_) ((hs.df.tr hs.sim tt).tr t2.sim t3)
   have:=hs.df.lt d hd r' Kg
   omega
  rcases N9 with⟨v,hr,rfl⟩|⟨v,hr,rfl⟩
  ·rw[hr] at v4
   obtain⟨e,w3,fr3,hR,P9,ZnN,G1⟩:=v4 (b.atR {a with defers:={target:=.collected w.heap.size,args:= #[]}::a.defers} (.inRangeFunc l::k)::K x'.rc.isSome)
   cases e with
   |outgrown=>exact hR.elim
   |panicked chain=>obtain⟨_,_,h⟩:=hR;exact h.elim
   |returned u=>
    obtain⟨σ3,_,t3⟩:=hR
    have hl3:=t3.dark t2.sim Nl trivial
    have ZfY:=run_endLoop (P:=P) hl3 (by simp[lp])
    have t4:=Tr.putLoop (tt.trans t3) {lp with state:=.exhausted} hl3 (XZ _)
    have zr:=step_leave_returned (c:=b.atR {a with defers:={target:=.collected w.heap.size,args:= #[]}::a.defers} (.inRangeFunc l::k)) (cs:=K x'.rc.isSome) G1
    rw[finish_atR_inRangeFunc] at zr
    refine⟨σ3,{a with defers:={target:=.collected w.heap.size,args:= #[]}::a.defers},_,t4,⟨t4.sim,hs.tm.mono t4.ext,(hdf σ3 H' w3 t3).putLoop _ hl3,hs.rc.mono t4.ext,by have:=t4.size;exact Yt hs.lo this⟩,rfl,?_⟩
    exact .head Kh (P9.trans (.head zr (.one (stepR_endRangeFunc ZfY))))
  ·rw[hr] at v4
   obtain⟨e,w3,fr3,hR,P9,ZnN,G1⟩:=v4 (b.atR {a with defers:={target:=.collected w.heap.size,args:= #[]}::a.defers} (.inRangeFunc l::k)::K x'.rc.isSome)
   cases e with
   |outgrown=>exact hR.elim
   |returned u=>exact hR.elim
   |panicked chain=>
    obtain⟨u,rfl,σ3,hu,t3⟩:=hR
    have t4:=tt.trans t3
    have zr:=step_leave_panicked (c:=b.atR {a with defers:={target:=.collected w.heap.size,args:= #[]}::a.defers} (.inRangeFunc l::k)) (cs:=K x'.rc.isSome) G1
    refine⟨σ3,{a with defers:={target:=.collected w.heap.size,args:= #[]}::a.defers},w3,t4,⟨t4.sim,hs.tm.mono t4.ext,hdf σ3 H' w3 t3,hs.rc.mono t4.ext,Yt hs.lo t4.size⟩,rfl,.inRangeFunc l::k,u,hu,?_⟩
    rw[<-Frame.raise_atR]
    exact .head Kh (P9.trans (.one zr))
 |_=>cases he
end
section
variable {P:Program} {N:Nat}
def ON:Code->List Item
 |.seq a b=>ON a++[.code b]
 |.region _ ops _=>[.inRegion ops (List.range' 1 (ops.size - 1))]
 |_=>[]
theorem Eo: ∀(c:Code) {q:Operand} {t:Option Nat},PD c=some (q,t)->
  ∃ops tl o,ON c=.inRegion ops (List.range' 1 (ops.size - 1))::tl∧ops[0]? =some o∧o.op=.next q false∧o.guard=none∧o.dst=t∧
   ∀(b:Frame) (a:Act) (k:List Item) (cs:List Frame) (w:World),Steps P (lone (b.atR a (.code c::k)) cs w) (lone (b.atR a (.inRegion ops (0::List.range' 1 (ops.size - 1))::(tl++k))) cs w)
 |.seq x y,q,t,h=>by
  obtain⟨ops,tl,o,h1,h2,h3,h4,h5,h6⟩:=Eo x (q:=q) (t:=t) h
  refine⟨ops,tl++[.code y],o,by show ON x++[.code y]=_;rw[h1];rfl,h2,h3,h4,h5,λb a k cs w=>.head stepR_seq ?_⟩
  have:=h6 b a (.code y::k) cs w
  simpa using this
 |.region id ops d,q,t,h=>by
  cases d with
  |true=>cases h
  |false=>
   unfold PD at h
   cases hl:ops.toList with
   |nil=>rw[hl] at h;cases h
   |cons o l=>
    rw[hl] at h
    simp only at h
    split at h
    ·rename_i x sD hg
     cases h
     have h0:ops[0]? =some o:=by rw[<-Yd,hl];rfl
     refine⟨ops,[],o,rfl,h0,sD,hg,rfl,λb a k cs w=>.one ?_⟩
     have hsz:0<ops.size:=(ZW.1 h0).1
     have hr:List.range ops.size=0::List.range' 1 (ops.size - 1):=by
      rw[RK,show ops.size=(ops.size - 1)+1 by omega,TV]
      simp
     rw[<-hr]
     exact stepR_region
    ·cases h
 |.skip,_,_,h=>by cases h
 |.cond _ _ _,_,_,h=>by cases h
 |.block _ _,_,_,h=>by cases h
 |.loop _,_,_,h=>by cases h
 |.rangeFunc _ _ _ _,_,_,h=>by cases h
 |.exit _,_,_,h=>by cases h
 |.scope _,_,_,h=>by cases h
 |.label _,_,_,h=>by cases h
 |.goto _,_,_,h=>by cases h
 |.ret,_,_,h=>by cases h
 |.refuse _,_,_,h=>by cases h
theorem kL{r:X6}{o:Out}{tm:TM}{H:Zc}{x:X}(h:Ku r=.ok o tm H x):r=.ok o tm H x∧o≠.normal:=by
 unfold Ku at h
 split at h
 ·cases h
 ·rename_i VY
  exact⟨h,λe=>by subst e;exact VY tm H x h⟩
theorem D4(n:Nat)(w:World): ∃i w',(choose (.mapNext n)).run P w=.ok i w'∧(n≠0->i<n)∧(w'=w∨w'=w.drew):=by
 rw[run_choose_drew]
 by_cases h:n<=1
 ·refine⟨0,w,by simp[Question.forced,h],λh0=>by omega,.inl rfl⟩
 ·refine⟨(Question.mapNext n).cut (w.tape w.drawn (.mapNext n)),w.drew,by simp[Question.forced,h],λh0=>?_,.inr rfl⟩
  show _ % n<n
  exact W1 _ (by omega)
theorem aa{lb m since:Nat}{seen:Array Nat}{es:Array MapEntry}{w:World}(h1:w.heap[lb]? =some (.mapIter (some m) since seen since))(h2:w.heap[m]? =some (.map es since))(hr: ∀e∈es,e.born<since)(ty:TypeId):
  ((es.filter λe=>!seen.contains e.born)= #[]∧ ∃w',(Instr.next (.pointer (some ⟨lb,0,none⟩)) false ty).run P w=.ok (.tuple #[.bool false]) w'∧(w'=w∨w'=w.drew))∨
  (∃e∈es,seen.contains e.born=false∧ ∃w0,(w0=w∨w0=w.drew)∧(Instr.next (.pointer (some ⟨lb,0,none⟩)) false ty).run P w=.ok (.tuple #[.bool true,e.key,e.val]) {w0 with heap:=w0.heap.setIfInBounds lb (.mapIter (some m) since (seen.push e.born) since)}):=by
 have g1:(getObj lb).run P w=.ok (.mapIter (some m) since seen since) w:=Bc h1
 have g2:(getObj m).run P w=.ok (.map es since) w:=by simp[getObj,Sem.run,h2]
 have hun: ¬((!seen.isEmpty&&!es.isEmpty&&es.all (λe=>decide (e.born≥since)))=true):=by
  intro h
  simp only[XE,Bool.not_eq_true'] at h
  obtain⟨⟨_,h3⟩,h4⟩:=h
  cases hes:es.toList with
  |nil=>simp[Array.isEmpty,<-Array.length_toList,hes] at h3
  |cons e l=>
   have he:e∈es:=by rw[<-Xn,hes];exact Zx ..
   have h5:=Array.all_eq_true_iff_forall_mem.1 h4 e he
   have:=hr e he
   simp at h5
   omega
 let left:=es.filter λe=>!seen.contains e.born
 have hold:left.filter (λe=>decide (e.born<since))=left:=by
  apply Array.filter_eq_self.2
  intro e he
  have:e∈es:=(Array.mem_filter.1 he).1
  simpa using hr e this
 have Ia:left.filter (λe=>decide (e.born≥since))= #[]:=by
  apply Array.filter_eq_empty_iff.2
  intro e he
  have:e∈es:=(Array.mem_filter.1 he).1
  have:=hr e this
  simp;omega
 have YX:(Instr.next (.pointer (some ⟨lb,0,none⟩)) false ty).run P w=((do
   match((if left.isEmpty then #[none] else #[])++(left++ #[]).map some)[<-choose (.mapNext ((if left.isEmpty then(#[none]:Array (Option MapEntry)) else #[])++(left++ #[]).map some).size)]? with
   |some (some e)=>
    setObj lb (.mapIter (some m) since (seen.push e.born) since)
    pure (.tuple #[.bool true,e.key,e.val])
   |some none=>pure (.tuple #[.bool false])
   |none=>stuck "Next: no such candidate"):Sem Value).run P w:=by
  have ZjZ:Array.filter (λe=>decide (e.born<since)) (Array.filter (λe=>!seen.contains e.born) es)=left:=hold
  have ZjV:Array.filter (λe=>decide (e.born≥since)) (Array.filter (λe=>!seen.contains e.born) es)= #[]:=Ia
  simp only[Instr.next,Sem.run_bind,g1,g2,Result.andThen_ok,if_neg hun,ZjZ,ZjV]
  rfl
 rw[YX]
 by_cases Tn:left= #[]
 ·left
  refine⟨Tn,?_⟩
  obtain⟨i,w',hc,hi,hw⟩:=D4 (P:=P) 1 w
  have hi0:i=0:=by have:=hi (by decide);omega
  subst hi0
  refine⟨w',?_,hw⟩
  rw[Tn]
  have:((if (#[]:Array MapEntry).isEmpty then(#[none]:Array (Option MapEntry)) else #[])++((#[]:Array MapEntry)++ #[]).map some)= #[none]:=by simp
  simp only[this,Sem.run_bind]
  have hsz:(#[none]:Array (Option MapEntry)).size=1:=rfl
  rw[hsz,hc]
  rfl
 ·right
  have VY:left.isEmpty=false:=by simpa [Array.isEmpty_iff] using Tn
  obtain⟨i,w',hc,hi,hw⟩:=D4 (P:=P) left.size w
  have dh:left.size≠0:=λh=>Tn (Array.eq_empty_of_size_eq_zero h)
  have G0:=hi dh
  have QG:left[i]∈left:=Array.getElem_mem G0
  obtain⟨m1,m2⟩:=Array.mem_filter.1 QG
  refine⟨left[i],m1,by simpa using m2,w',hw,?_⟩
  have:((if left.isEmpty then(#[none]:Array (Option MapEntry)) else #[])++(left++ #[]).map some)=left.map some:=by rw[VY];simp
  simp only[this,Sem.run_bind,Array.size_map]
  rw[hc]
  have hg:(left.map some)[i]? =some (some left[i]):=by simp[G0]
  have hhp:w'.heap=w.heap:=by rcases hw with rfl|rfl<;>rfl
  simp only[Result.andThen_ok,hg,Sem.run_bind]
  simp[setObj,Sem.run,hhp,h1]
theorem VZ.any{σ σ':Mp}{w:World}{lo:Nat}{ds:List Deferred}(h:VZ σ w lo [] ds):VZ σ' w lo [] ds:=by
 generalize hl:([]:List (AV×List AV))=l at h
 induction h with
 |nil=>exact .nil
 |call _ _ _ _=>cases hl
 |mark h1 h2 h3 _ ih=>exact .mark h1 h2 h3 (ih hl)
theorem Iv.any{σ σ':Mp}{kd:CallKind}{K:Bool->List Frame}(h:Iv σ kd K none):Iv σ' kd K none:=⟨h.no,λv hv=>by cases hv⟩
theorem jM{x:X}{r s:X6}(h:pc x r=s)(hs:s≠.fail):x=⟨[],none⟩∧r=s:=by
 obtain⟨df,rc⟩:=x
 cases df with
 |cons a l=>exact absurd h.symm hs
 |nil=>
  cases rc with
  |some v=>exact absurd h.symm hs
  |none=>exact⟨rfl,h⟩
theorem qQ{r:X6}{k:Bool}(h:Dx r k=true): ∃tm H,r=.ok .normal tm H ⟨[],none⟩∧k=true:=by
 unfold Dx at h
 split at h
 ·rename_i tm H y
  obtain⟨df,rc⟩:=y
  cases df with
  |cons a l=>cases h
  |nil=>
   cases rc with
   |some v=>cases h
   |none=>obtain⟨_,h2⟩:=ZU h;exact⟨tm,H,rfl,h2⟩
 ·cases h
theorem yf{body:TM->Zc->X->X6}{b m since:Nat}{dst:ZP}{tm:TM}{H:Zc}: ∀{es:List RH},Ba body b m since dst tm H es=true-> ∀e∈es,
  ∃Yp H',body (dst tm (.tup [.bool true,e.key,e.val])) ⟨H.nx,H.t.set b (.miter (some m) since (some (e.born,since))),H.nx⟩ ⟨[],none⟩=.ok .normal Yp H' ⟨[],none⟩
 |[],_,e,he=>by cases he
 |a::es,h,e,he=>by
  have h:Dx _ (Ba body b m since dst tm H es)=true:=h
  obtain⟨Yp,H',h1,h2⟩:=qQ h
  rcases Ya.1 he with rfl|he
  ·exact⟨Yp,H',h1⟩
  ·exact yf h2 e he
theorem YE.mem{σ:Mp}: ∀{es:List RH} {l:List MapEntry},YE σ es l-> ∀m∈l,∃a∈es,NI σ a m
 |[],l,h,m,hm=>by simp only[YE] at h;subst h;cases hm
 |a::es,l,h,m,hm=>by
  obtain⟨e,l',h1,h2,rfl⟩:=h.cons_inv
  rcases Ya.1 hm with rfl|hm
  ·exact⟨a,Zx ..,h1⟩
  ·obtain⟨a',h3,h4⟩:=YE.mem h2 m hm
   exact⟨a',ZI _ h3,h4⟩
theorem YE.below{σ:Mp}{c:Nat}: ∀{es:List RH} {l:List MapEntry},YE σ es l->(∀e∈es,e.born<c)-> ∀m∈l,m.born<c:=by
 intro es l h hb m hm
 obtain⟨a,h1,h2⟩:=h.mem m hm
 rw[<-h2.2.2];exact hb a h1
theorem AU{α:Type}{p q:α->Bool}(h: ∀x,p x=true->q x=true): ∀l:List α,(l.filter p).length<=(l.filter q).length
 |[]=>Zj _
 |y::l=>by
  have ih:=AU h l
  rw[U3,U3]
  cases hp:p y with
  |true=>rw[h y hp];simpa using ih
  |false=>
   cases q y with
   |true=>simp;omega
   |false=>simpa using ih
theorem AW{α:Type}{p q:α->Bool}(h: ∀x,p x=true->q x=true){e:α}(he:q e=true)(hn:p e=false): ∀l:List α,e∈l->(l.filter p).length<(l.filter q).length
 |[],hm=>by cases hm
 |y::l,hm=>by
  rw[U3,U3]
  rcases Ya.1 hm with rfl|hm
  ·rw[he,hn]
   have:=AU h l
   simp;omega
  ·have ih:=AW h he hn l hm
   cases hp:p y with
   |true=>rw[h y hp];simpa using ih
   |false=>
    cases q y with
    |true=>simp;omega
    |false=>simpa using ih
def wI(es:List RH)(seen:Array Nat):Nat:=(es.filter λe=>!seen.contains e.born).length
theorem iE{es:List RH}{seen:Array Nat}{e:RH}(he:e∈es)(hn:seen.contains e.born=false):wI es (seen.push e.born)<wI es seen:=by
 refine AW (λx hx=>?_) (e:=e) (by rw[hn];rfl) ?_ es he
 ·cases h:seen.contains x.born with
  |false=>rfl
  |true=>
   have:(seen.push e.born).contains x.born=true:=by
    rw[Array.contains_iff_mem] at h ⊢
    exact Array.mem_push.2 (.inl h)
   rw[this] at hx;cases hx
 ·have:(seen.push e.born).contains e.born=true:=by rw[Array.contains_iff_mem];exact Array.mem_push.2 (.inr rfl)
  rw[this];rfl
theorem iC{σ:Mp}{tm:TM}{t t':Array Value}{ds:List Nat}(h:Qv σ N (QA tm (ds.map λt=>XR (some t))) t)(hz:N<=t'.size)(hold: ∀n,n∉ds->t'[n]? =t[n]?):Qv σ N (QA tm (ds.map λt=>XR (some t))) t':=by
 refine⟨hz,λn hn=>?_⟩
 have e:(ds.map λt=>XR (some t))=(ds.map some).map XR:=by rw[UP];rfl
 have h1:=h.get n hn
 rw[e,ML hn] at h1 ⊢
 by_cases hm:some n∈ds.map some
 ·rw[if_pos hm];simp[Ys]
 ·rw[if_neg hm] at h1 ⊢
  have:n∉ds:=λh=>hm (YV.2 ⟨n,h,rfl⟩)
  rw[Z0,hold n this,<-Z0]
  exact h1
theorem aS{σ:Mp}{tm:TM}{t:Array Value}{ds:List Nat}(h:Qv σ N tm t):Qv σ N (QA tm (ds.map λt=>XR (some t))) t:=by
 refine⟨h.size,λn hn=>?_⟩
 have e:(ds.map λt=>XR (some t))=(ds.map some).map XR:=by rw[UP];rfl
 rw[e,ML hn]
 split
 ·simp[Ys]
 ·exact h.get n hn
theorem tK{body:Code}{q:Operand}{t:Option Nat}{a:D}{ds:List Nat}(hm:PD body=some (q,t))(ht: ∀d,t=some d->d∈ds)(htN:CX N t=true)(ha:WH P N a (ON body) ds):
  WH P N (qu (YN P q) (XR t) (ds.map λt=>XR (some t)) a) [.code (.loop body)] ds:=by
 intro c b K lo σ tm H x act w k o Yp H' x' hc hs he
 obtain⟨ops,tl,op,hri,sD,Zj0,Zoi,ZbN,Kc⟩:=Eo body hm
 let Lb:=QA tm (ds.map λt=>XR (some t))
 have Zgm:Qv σ N Lb act.tmps:=aS hs.tm
 have dh:St P σ b K N lo Lb H x act w:=hs.step (Tr.refl hs.sim) Zgm rfl
 have he:qw (a ⟨c.call,Vt,VB,c.fuel,true⟩) (a c) (YN P q) (XR t) Lb H x=.ok o Yp H' x':=he
 unfold qw at he
 have hq:=KD hs.sim Zgm q
 generalize hqv:YN P q Lb=qv at he hq
 cases qv with
 |ptr ib io=>
  simp only[ZkQ] at he
  cases h0:Nat.beq io 0 with
  |false=>rw[h0] at he;cases he
  |true=>
  rw[h0] at he
  have h0:=ZT h0
  subst h0
  cases YL:Nat.ble H.ro ib with
  |false=>rw[YL] at he;cases he
  |true=>
  rw[YL] at he
  have YL:H.ro<=ib:=ZN YL
  obtain⟨L,hL,hqe⟩:=Ug hq
  have Zej: ∀a':Act,Region.wanted op (yielded ops a'.tmps)=true:=λa'=>by unfold Region.wanted;rw[Zoi]
  have Ke: ∀c,op.op≠.defer c:=λc h=>by rw[Zj0] at h;cases h
  have eZ: ∀(a':Act) (w1:World) (v:Value) (w2:World),a'.eval q=.pointer (some ⟨L.blk,L.base+0,none⟩)->(Instr.next (.pointer (some ⟨L.blk,L.base+0,none⟩)) false op.type).run P w1=.ok v w2->(execOp a'.eval op).run P w1=.ok (.value v) w2:=by
   intro a' w1 v w2 h1 h2
   simp only[execOp,Zj0,h1]
   exact WT h2
  have Zd5: ∀(a':Act) (w1:World) (cs:List Frame),Steps P (lone (b.atR a' (.code body::.inLoop body::k)) cs w1) (lone (b.atR a' (.inRegion ops (0::List.range' 1 (ops.size - 1))::(tl++.inLoop body::k))) cs w1):=λa' w1 cs=>Kc b a' (.inLoop body::k) cs w1
  have final: ∀(Hd:Zc) (w1 w2:World) (a':Act) (tt:Tr P σ H w σ Hd w2),St P σ b K N lo Lb Hd x a' w2->(∀n,n∉ds->a'.tmps[n]? =act.tmps[n]?)->a'.eval q=.pointer (some ⟨L.blk,L.base+0,none⟩)->
    (Instr.next (.pointer (some ⟨L.blk,L.base+0,none⟩)) false op.type).run P w1=.ok (.tuple #[.bool false]) w2->Ku (a c (XR t Lb (.tup [.bool false])) Hd x)=.ok o Yp H' x'->
    ∃σ' gd w',Tr P σ H w σ' H' w'∧St P σ' b K N lo Yp H' x' gd w'∧(∀n,n∉ds->gd.tmps[n]? =act.tmps[n]?)∧
     Dn P (lone (b.atR a' (.code body::.inLoop body::k)) (K x.rc.isSome) w1) b k (K x'.rc.isSome) σ' o gd w':=by
   intro Hd w1 w2 a' tt Ut hold rE YX GY
   obtain⟨GY,VY⟩:=kL GY
   have Kh:=Qr (b:=b) (k:=tl++.inLoop body::k) (cs:=K x.rc.isSome) (rest:=List.range' 1 (ops.size - 1)) sD (Zej a') Ke (.inl (eZ a' w1 _ w2 rE YX))
   have hr:Ys σ (.tup [.bool false]) (.tuple #[.bool false]):=by simp only[Ys];exact⟨[.bool false],T7 (by simp[Ys]),rfl⟩
   have s1:St P σ b K N lo (XR t Lb (.tup [.bool false])) Hd x (a'.put op.dst (.tuple #[.bool false])) w2:=by
    refine Ut.step (Tr.refl Ut.sim) ?_ (Rh _ _ _)
    rw[ZbN]
    exact Ut.tm.put htN hr
   obtain⟨σ',gd,w',t1,s2,u2,arr⟩:=ha c b K lo σ _ Hd x _ w2 (.inLoop body::k) o Yp H' x' (hc.tr tt) s1 GY
   refine⟨σ',gd,w',tt.trans t1,s2,λn hn=>?_,.of_steps ((Zd5 a' w1 _).trans Kh) ?_⟩
   ·rw[u2 n hn,put_old a' op.dst _ λd hd e=>hn (by rw[e];exact ht d (by rw[<-ZbN];exact hd)),hold n hn]
   ·rw[hri] at arr
    exact Dn.pass (y:=.inLoop body) rfl VY (by simpa using arr)
  have ZjB:act.eval q=.pointer (some ⟨L.blk,L.base+0,none⟩):=hqe
  cases Gs:H.t.get ib with
  |none=>rw[Gs] at he;cases he
  |some ob=>
   rw[Gs] at he
   cases ob with
   |miter mm since cur=>
    cases cur with
    |some z=>cases mm<;>cases he
    |none=>
     obtain⟨cobj,Zd0,U5⟩:=hs.sim.alive ib _ L Gs hL
     obtain⟨seen,st,oT,Zf9,Cz,ZnG⟩:=U5
     obtain⟨I9,Zoz⟩:=ZnG
     subst I9;subst Zoz
     have hb0:L.base+0=0:=by rw[Cz]
     cases mm with
     |none=>
      have he:Ku (a c (XR t Lb (.tup [.bool false])) H x)=.ok o Yp H' x':=he
      have YX:(Instr.next (.pointer (some ⟨L.blk,L.base+0,none⟩)) false op.type).run P w=.ok (.tuple #[.bool false]) w:=by
       rw[hb0]
       have hg:=Bc (P:=P) (m:=none) (a:=st) (s:= #[]) (c:=st) (Zd0.trans (by rw[oT];rfl))
       simp only[Instr.next,Sem.run_bind,hg,Result.andThen_ok,Sem.run_pure]
      obtain⟨σ',gd,w',g1,g2,g3,g4⟩:=final H w w act (Tr.refl hs.sim) dh (λ_ _=>rfl) ZjB YX he
      exact⟨σ',gd,w',g1,g2,g3,.of_steps (.one stepR_loop) g4⟩
     |some mb=>
      have he:ZkP (H.t.get mb) st (λes=>pc x (cond (Ba (a ⟨c.call,Vt,VB,c.fuel,true⟩) ib mb st (XR t) Lb H es) (Ku (a c (XR t Lb (.tup [.bool false])) ⟨H.nx,H.t.del ib,H.ro⟩ x)) .fail))=.ok o Yp H' x':=he
      cases lR:H.t.get mb with
      |none=>rw[lR] at he;cases he
      |some mo=>
       rw[lR] at he
       cases mo with
       |map es clock=>
        have he:cond (Nat.beq clock st) _ .fail=X6.ok o Yp H' x':=he
        cases hck:Nat.beq clock st with
        |false=>rw[hck] at he;cases he
        |true=>
        rw[hck] at he
        have hck:=ZT hck
        subst hck
        obtain⟨hx,he⟩:=jM he (by simp)
        subst hx
        cases eT:Ba (a ⟨c.call,Vt,VB,c.fuel,true⟩) ib mb clock (XR t) Lb H es with
        |false=>rw[eT] at he;cases he
        |true=>
        rw[eT] at he
        have he:Ku (a c (XR t Lb (.tup [.bool false])) ⟨H.nx,H.t.del ib,H.ro⟩ ⟨[],none⟩)=.ok o Yp H' x':=he
        have hrounds:=yf eT
        cases hLm:σ mb with
        |none=>have:=Zf9 mb rfl;rw[hLm] at this;cases this
        |some Lm=>
        obtain⟨mobj,hmobj,ents,hme,ZjA,ZbU⟩:=hs.sim.alive mb _ Lm lR hLm
        have hmb:mb≠ib:=λe=>by rw[e,Gs] at lR;cases lR
        have oT:cobj=.mapIter (some Lm.blk) clock #[] clock:=by rw[oT];simp[hLm]
        subst oT;subst hme
        have hbelow:=ZjA.below ZbU.2
        let Hd:Zc:=⟨H.nx,H.t.del ib,H.ro⟩
        have Zjz: ∀y ob,Hd.t.get y=some ob->y≠ib∧H.t.get y=some ob:=by
         intro y ob hy
         have hy:(H.t.del ib).get y=some ob:=hy
         rw[T.get_del] at hy
         by_cases e:ib=y
         ·rw[if_pos e] at hy;cases hy
         ·rw[if_neg e] at hy;exact⟨λz=>e z.symm,hy⟩
        have rN: ∀y ob ly,Hd.t.get y=some ob->σ y=some ly->ly.blk≠L.blk:=by
         intro y ob ly hy hly e
         obtain⟨h1,h2⟩:=Zjz y ob hy
         exact h1 (hs.sim.alone h2 Gs hly hL e (by rintro ⟨_,_,h,_⟩;cases h))
        have loop: ∀(n:Nat) (a':Act) (w1:World) (seen:Array Nat),wI es seen=n->Tr P σ H w σ Hd w1->St P σ b K N lo Lb Hd ⟨[],none⟩ a' w1->(∀n,n∉ds->a'.tmps[n]? =act.tmps[n]?)->
          w1.heap[L.blk]? =some (.mapIter (some Lm.blk) clock seen clock)->a'.eval q=.pointer (some ⟨L.blk,L.base+0,none⟩)->
          ∃σ' gd w',Tr P σ H w σ' H' w'∧St P σ' b K N lo Yp H' x' gd w'∧(∀n,n∉ds->gd.tmps[n]? =act.tmps[n]?)∧
           Dn P (lone (b.atR a' (.code body::.inLoop body::k)) (K (none:Option AV).isSome) w1) b k (K x'.rc.isSome) σ' o gd w':=by
         intro n
         induction n using Nat.strongRecOn with
         |_ n ih=>
          intro a' w1 seen hn tt Ut hold hit rE
          have hdm:Hd.t.get mb=some (.map es clock):=by
           show(H.t.del ib).get mb=_
           rw[T.get_del,if_neg λe=>hmb e.symm];exact lR
          obtain⟨mobj1,Zf8,Zip,Zn7,eH,Zj5⟩:=Ut.sim.alive mb _ Lm hdm hLm
          subst Zn7
          have ZbF: ∀e∈Zip,e.born<clock:=λe he'=>eH.below Zj5.2 e (Xn.2 he')
          rcases aa (P:=P) hit Zf8 ZbF op.type with⟨_,w2,YX,It⟩|⟨e,hem,ZnL,w0,i6,YX⟩
          ·
           rw[<-hb0] at YX
           have rS:St P σ b K N lo Lb Hd ⟨[],none⟩ a' w2:=by rcases It with rfl|rfl;exact Ut;exact Ut.drew
           have tt2:Tr P σ H w σ Hd w2:=by rcases It with rfl|rfl;exact tt;exact tt.trans (Tr.drew Ut.sim)
           exact final Hd w1 w2 a' tt2 rS hold rE YX he
          ·
           rw[<-hb0] at YX
           let w2:World:={w0 with heap:=w0.heap.setIfInBounds L.blk (.mapIter (some Lm.blk) clock (seen.push e.born) clock)}
           have hh0:w0.heap=w1.heap:=by rcases i6 with rfl|rfl<;>rfl
           have Zjk:L.blk<w1.heap.size:=(ZW.1 hit).1
           have Ej:w2.heap.size=w1.heap.size:=by simp[w2,hh0]
           have Zed:w2.heap[L.blk]? =some (.mapIter (some Lm.blk) clock (seen.push e.born) clock):=by simp[w2,hh0,Zjk]
           have v7: ∀j,j≠L.blk->w2.heap[j]? =w1.heap[j]? :=by
            intro j hj
            show(w0.heap.setIfInBounds L.blk _)[j]? =_
            rw[Uj (Ne.symm hj),hh0]
           have htp:w2.tape=w1.tape∧w2.os=w1.os∧w2.output=w1.output:=by rcases i6 with rfl|rfl<;>exact⟨rfl,rfl,rfl⟩
           obtain⟨ea,hea,hear⟩:=eH.mem e (Xn.2 hem)
           have Zkk:Wr H ib:=⟨YL,_,Gs,(λr h=>by cases h),(λh=>by cases h)⟩
           have hlt_ib:ib<H.nx:=hs.sim.low ib _ Gs
           have ZbX:Wh P σ Hd w2:=by
            refine⟨Ut.sim.dom,Ut.sim.low,λy ob ly hy hly=>?_,Ut.sim.inj,Ut.sim.glob,Ut.sim.ro⟩
            obtain⟨cy,h1,h2⟩:=Ut.sim.alive y ob ly hy hly
            exact⟨cy,by rw[v7 _ (rN y ob ly hy hly)];exact h1,h2⟩
           have tt2:Tr P σ H w σ Hd w2:=by
            refine⟨tt.ext,ZbX,by rw[Ej];exact tt.size,λj hj hn=>?_,tt.wr,tt.nx,tt.ro,tt.low,htp.1.trans tt.tape,htp.2.1.trans tt.os,htp.2.2.trans tt.out,tt.pend⟩
            rw[v7 j λe=>hn ib L Zkk hL e.symm]
            exact tt.frame j hj hn
           let Hr:Zc:=⟨H.nx,H.t.set ib (.miter (some mb) clock (some (ea.born,clock))),H.nx⟩
           have na: ∀y ob,Hr.t.get y=some ob->(y=ib∧ob=.miter (some mb) clock (some (ea.born,clock)))∨Hd.t.get y=some ob:=by
            intro y ob hy
            have hy:(H.t.set ib _).get y=some ob:=hy
            rw[T.get_set] at hy
            by_cases e':ib=y
            ·rw[if_pos e'] at hy;cases hy;exact .inl ⟨e'.symm,rfl⟩
            ·rw[if_neg e'] at hy
             refine .inr ?_
             show(H.t.del ib).get y=_
             rw[T.get_del,if_neg e'];exact hy
           have hsr:Wh P σ Hr w2:=by
            refine⟨Ut.sim.dom,λy ob hy=>?_,λy ob ly hy hly=>?_,λy y' o1 o2 l1 l2 hy hy' NX Nl e'=>?_,Ut.sim.glob,Zj _⟩
            ·rcases na y ob hy with⟨rfl,_⟩|h
             ·exact hlt_ib
             ·exact Ut.sim.low y ob h
            ·rcases na y ob hy with⟨rfl,rfl⟩|h
             ·rw[hL] at hly;cases hly
              refine⟨_,Zed,seen.push e.born,clock,by simp[hLm],(λb' B3=>by cases B3;rw[hLm];rfl),Cz,?_,rfl⟩
              rw[hear.2.2];simp
             ·exact ZbX.alive y ob ly h hly
            ·rcases na y o1 hy with⟨rfl,rfl⟩|h<;>rcases na y' o2 hy' with⟨rfl,rfl⟩|h'
             ·exact .inl rfl
             ·rw[hL] at NX;cases NX;exact absurd e'.symm (rN y' o2 l2 h' Nl)
             ·rw[hL] at Nl;cases Nl;exact absurd e' (rN y o1 l1 h NX)
             ·exact ZbX.inj y y' o1 o2 l1 l2 h h' NX Nl e'
           have Kh:=Qr (b:=b) (k:=tl++.inLoop body::k) (cs:=K (none:Option AV).isSome) (rest:=List.range' 1 (ops.size - 1)) sD (Zej a') Ke (.inl (eZ a' w1 _ w2 rE YX))
           have hr:Ys σ (.tup [.bool true,ea.key,ea.val]) (.tuple #[.bool true,e.key,e.val]):=by
            simp only[Ys]
            exact⟨[.bool true,e.key,e.val],WC (by simp[Ys]) (WC hear.1 (T7 hear.2.1)),rfl⟩
           have ZnH:VZ σ w2 lo [] a'.defers:=by
            refine Ut.df.mono (Oq.refl σ) λr y Kg=>?_
            rw[v7 r λe'=>by rw[e',hit] at Kg;cases Kg];exact Kg
           have s1:St P σ b K N lo (XR t Lb (.tup [.bool true,ea.key,ea.val])) Hr ⟨[],none⟩ (a'.put op.dst (.tuple #[.bool true,e.key,e.val])) w2:=by
            refine⟨hsr,?_,by rw[Rh];exact ZnH,Ut.rc,by rw[Ej];exact Ut.lo⟩
            rw[ZbN]
            exact Ut.tm.put htN hr
           obtain⟨tmr,Hr',vZ⟩:=hrounds ea hea
           have ZnF:OQ P ⟨c.call,Vt,VB,c.fuel,true⟩ b σ Hr w2:=⟨hc.call,BZ σ Hr w2,(λh=>by cases h),HM P,λ_=>rfl⟩
           obtain⟨σ3,a3,w3,t3,s3,u3,ZaP⟩:=ha _ b K lo σ _ Hr ⟨[],none⟩ _ w2 (.inLoop body::k) .normal tmr Hr' ⟨[],none⟩ ZnF s1 vZ
           have eO: ∀y,¬Wr Hr y:=by
            intro y hy
            obtain⟨h1,ob,h2,_⟩:=hy
            have h1:H.nx<=y:=h1
            have:=hsr.low y ob h2
            have this:y<H.nx:=this
            omega
           have Zf0: ∀j,j<w2.heap.size->w3.heap[j]? =w2.heap[j]? :=λj hj=>t3.frame j hj λy ly hy _=>absurd hy (eO y)
           have Zgh:Wh P σ Hd w3:=ZbX.grow Zf0
           have tt3:Tr P σ H w σ Hd w3:=by
            refine⟨tt.ext,Zgh,Yt tt2.size t3.size,λj hj hn=>?_,tt.wr,tt.nx,tt.ro,tt.low,t3.tape.trans tt2.tape,t3.os.trans tt2.os,t3.out.trans tt2.out,tt.pend⟩
            rw[Zf0 j (ZH hj tt2.size)]
            exact tt2.frame j hj hn
           have Zee: ∀n,n∉ds->a3.tmps[n]? =act.tmps[n]? :=by
            intro n hn
            rw[u3 n hn,put_old a' op.dst _ λd hd e'=>hn (by rw[e'];exact ht d (by rw[<-ZbN];exact hd)),hold n hn]
           have Tl:St P σ b K N lo Lb Hd ⟨[],none⟩ a3 w3:=by
            refine⟨Zgh,iC Ut.tm s3.tm.size (λn hn=>?_),s3.df.any,Ut.rc,s3.lo⟩
            rw[Zee n hn,hold n hn]
           have ZnS:w3.heap[L.blk]? =some (.mapIter (some Lm.blk) clock (seen.push e.born) clock):=by rw[Zf0 _ (by rw[Ej];exact Zjk)];exact Zed
           have Y6:wI es (seen.push e.born)<n:=by
            rw[<-hn,<-hear.2.2]
            exact iE hea (by rw[hear.2.2];exact ZnL)
           have ZnM:a3.eval q=.pointer (some ⟨L.blk,L.base+0,none⟩):=by
            have:=KD Zgh Tl.tm q
            rw[hqv] at this
            obtain⟨L',hL',h⟩:=Ug this
            rw[hL] at hL';cases hL'
            exact h
           obtain⟨σ4,a4,w4,g1,g2,g3,g4⟩:=ih _ Y6 a3 w3 (seen.push e.born) rfl tt3 Tl Zee ZnS ZnM
           refine⟨σ4,a4,w4,g1,g2,g3,.of_steps ((Zd5 a' w1 _).trans (Kh.trans ?_)) g4⟩
           rw[hri] at ZaP
           have ZaP:Steps P _ (lone (b.atR a3 (.inLoop body::k)) _ w3):=ZaP
           refine Steps.trans ?_ (Steps.one stepR_inLoop)
           simpa using ZaP
        have Zoy:St P σ b K N lo Lb Hd ⟨[],none⟩ act w:=⟨(Tr.del hs.sim hL YL).sim,Zgm,hs.df,hs.rc,hs.lo⟩
        obtain⟨σ4,a4,w4,g1,g2,g3,g4⟩:=loop _ act w #[] rfl (Tr.del hs.sim hL YL) Zoy (λ_ _=>rfl) Zd0 ZjB
        exact⟨σ4,a4,w4,g1,g2,g3,.of_steps (.one stepR_loop) g4⟩
       |_=>cases he
   |_=>cases he
 |_=>cases he
theorem U1(hm:P.follows .mixedOrders=true): ∀c:Code,Pa N c=true->WH P N (vB P c).1 [.code c] (IM c)∧((PD c).isSome=true->WH P N (vB P c).2 (ON c) (IM c))
 |.skip,_=>⟨pP _,λh=>by cases h⟩
 |.region id ops d,h=>by
  have h:ops.toList.all (λo=>CX N o.dst)=true:=h
  cases d with
  |true=>exact⟨tH hm h,λh=>by cases h⟩
  |false=>
   refine⟨wD h,λ_=>?_⟩
   have:=yo (P:=P) (N:=N) (ops:=ops) (ds:=ops.toList.filterMap (·.dst)) ops.toList.tail 1 (λi=>by
    rw[<-Yd]
    cases ops.toList with
    |nil=>simp
    |cons a l=>rw[show 1+i=i+1 by omega];simp) (λo ho=>⟨Y7.1 h o (List.mem_of_mem_tail ho),λt ht=>Ta.2 ⟨o,List.mem_of_mem_tail ho,ht⟩⟩)
   show WH P N (uQ P ops ops.toList.tail) [.inRegion ops (List.range' 1 (ops.size - 1))] _
   have e:ops.toList.tail.length=ops.size - 1:=by simp
   rw[e] at this
   exact this
 |.seq a b,h=>by
  obtain⟨h1,h2⟩:=ZU (a:=Pa N a) (b:=Pa N b) h
  have ha:=U1 hm a h1
  have hb:=U1 hm b h2
  refine⟨pO ha.1 hb.1,λhn=>?_⟩
  exact yp (i1:=ON a) (i2:=[.code b]) (by simp[Item.plain]) (ha.2 hn) hb.1
 |.cond q a b,h=>by
  obtain⟨h1,h2⟩:=ZU (a:=Pa N a) (b:=Pa N b) h
  exact⟨pL (U1 hm a h1).1 (U1 hm b h2).1,λh=>by cases h⟩
 |.block id a,h=>⟨tG (U1 hm a h).1,λh=>by cases h⟩
 |.loop b,h=>by
  have hb:=U1 hm b h
  refine⟨?_,λh=>by cases h⟩
  show WH P N (match PD b with|some (x,t)=>qu (YN P x) (XR t) ((IM b).map λt=>XR (some t)) (vB P b).2|none=>Ua (vB P b).1) [.code (.loop b)] (IM b)
  cases hmn:PD b with
  |none=>exact pN hb.1
  |some y=>
   obtain⟨x,t⟩:=y
   have QG: ∀(b:Code) {x:Operand} {t:Option Nat},PD b=some (x,t)->Pa N b=true->CX N t=true∧ ∀d,t=some d->d∈IM b:=by
    intro b
    induction b with
    |seq a c ih _=>
     intro x t hh hk
     obtain⟨h1,h2⟩:=ZU (a:=Pa N a) (b:=Pa N c) hk
     obtain⟨g1,g2⟩:=ih hh h1
     exact⟨g1,λd hd=>Zs.2 (.inl (g2 d hd))⟩
    |region id ops dr=>
     intro x t hh hk
     have hk:ops.toList.all (λo=>CX N o.dst)=true:=hk
     cases dr with
     |true=>cases hh
     |false=>
      unfold PD at hh
      cases hl:ops.toList with
      |nil=>rw[hl] at hh;cases hh
      |cons o l=>
       rw[hl] at hh
       simp only at hh
       split at hh
       ·cases hh
        have ho:o∈ops.toList:=by rw[hl];exact Zx ..
        exact⟨Y7.1 hk o ho,λd hd=>Ta.2 ⟨o,ho,hd⟩⟩
       ·cases hh
    |_=>intro x t hh;cases hh
   obtain⟨g1,g2⟩:=QG b hmn h
   exact tK hmn g2 g1 (hb.2 (by rw[hmn];rfl))
 |.rangeFunc f ps a b,h=>by
  obtain⟨h0,h3⟩:=ZU (a:=ps.toList.all λt=>CX N (some t)) (b:=cond (Pa N a) (Pa N b) false) h
  obtain⟨h1,h2⟩:=ZU h3
  exact⟨tL (U1 hm a h1).1 (U1 hm b h2).1 h0,λh=>by cases h⟩
 |.exit id,_=>⟨pM _,λh=>by cases h⟩
 |.scope a,h=>⟨tM (U1 hm a h).1,λh=>by cases h⟩
 |.label l,_=>⟨tI l _,λh=>by cases h⟩
 |.goto l,_=>⟨Qp _ _,λh=>by cases h⟩
 |.ret,_=>⟨ik _,λh=>by cases h⟩
 |.refuse l,_=>⟨Qp _ _,λh=>by cases h⟩
theorem lh(hm:P.follows .mixedOrders=true){f:Nat}{fn:Func}{c:Code}(hf:P.funcs[f]? =some fn)(Q6:fn.name≠ "runtime.NumGoroutine")(hb:fn.body=some c):ZeH P f (FT P fn):=by
 refine⟨fn,c,IM c,hf,Q6,hb,?_,?_⟩
 ·show fn.results.toList.map _=fn.results.toList.map _
  refine V1 λr _=>?_
  cases r<;>rfl
 ·have hbd:(FT P fn).body=cond (fn.results.toList.all (HL P)) (cond (Pa fn.ntmps c) (Zie P c) Q9) Q9:=by
   unfold FT;rw[hb]
  rw[hbd]
  cases h1:fn.results.toList.all (HL P) with
  |false=>exact .inl rfl
  |true=>
   cases h2:Pa fn.ntmps c with
   |false=>exact .inl rfl
   |true=>exact .inr ⟨rfl,(U1 hm c h2).1⟩
theorem DX(hm:P.follows .mixedOrders=true){lib:Nat->List AV->Zc->Option CR}(ZbJ:NZ P lib){fs:T CF}(oX: ∀f cf,fs.get f=some cf-> ∃fn,P.funcs[f]? =some fn∧fn.name≠ "runtime.NumGoroutine" ∧fn.body.isSome=true∧cf=FT P fn)(fuel n:Nat):
  SL P (ZG lib fs fuel n):=by
 have ZjH:Zaz P fs:=by
  intro f cf h
  obtain⟨fn,h1,h2,h3,rfl⟩:=oX f cf h
  obtain⟨c,hc⟩:=Vo.1 h3
  exact lh hm h1 h2 hc
 exact vw ZbJ ZjH fuel (λcall SV=>ti ZjH fuel SV) n
end
section
variable {P:Program}
theorem xM{f:FuncId}{fn:Func}(hf:P.funcs[f]? =some fn)(Q6:(fn.name== "runtime.NumGoroutine")=false)(hb:fn.body.isNone=true)(hn:Extern.findNext fn=none)(he:Extern.find fn=some Extern.AbiNoEscape.same)
  {x:AV}{H:Zc}{σ:Mp}{w:World}{vs:List Value}(hs:Wh P σ H w)(hv:YM σ [x] vs):Lq P σ H w (.ret x H) ((callFunc f ⟨vs⟩).run P w):=by
 obtain⟨v,l,h1,h2,rfl⟩:=hv.cons_inv
 rw[h2.nil_inv,run_callFunc_extern hf Q6 hb hn he]
 exact⟨σ,h1,Tr.refl hs⟩
noncomputable def VS(c:Nat):List UInt8->Nat->Int
 |[],_=> -1
 |b::l,i=>cond (Nat.beq b.toNat c) (.ofNat i) (VS c l (Nat.succ i))
theorem CD{c:Nat}(hc:c<=255): ∀(suf pre:List UInt8) (s:ByteArray),s.data.toList=pre++suf->
  (match(List.range' pre.length suf.length).find? λi=>s[i]! ==(c.toUInt8) with|some i=>(i:Int)|none=> -1)=VS c suf pre.length
 |[],pre,s,_=>rfl
 |b::suf,pre,s,hs=>by
  have Lz:s[pre.length]! =b:=by
   have h1:s.data[pre.length]? =some b:=by rw[<-Yd,hs];simp
   have h2:pre.length<s.size:=by
    show pre.length<s.data.size
    exact(ZW.1 h1).1
   rw[getElem!_pos s pre.length h2]
   obtain⟨h3,h4⟩:=ZW.1 h1
   exact h4
  have zt:(b==c.toUInt8)=Nat.beq b.toNat c:=by
   rw[Ym]
   have h1:(c.toUInt8).toNat=c:=by
    show c % 256=c
    omega
   by_cases e:b.toNat=c
   ·rw[Ze e]
    have:b=c.toUInt8:=UInt8.toNat.inj (by rw[h1];exact e)
    simp[this]
   ·rw[Za e]
    have:b≠c.toUInt8:=λh=>e (by rw[h,h1])
    simpa using this
  show(match(List.range' pre.length (suf.length+1)).find? _ with|some i=>(i:Int)|none=> -1)=_
  rw[TV,List.find?_cons,Lz,zt]
  unfold VS
  cases Nat.beq b.toNat c with
  |true=>rfl
  |false=>
   have:=CD hc suf (pre++[b]) s (by rw[hs];simp)
   rw[Zm] at this
   exact this
theorem kp{f:FuncId}{fn:Func}(hf:P.funcs[f]? =some fn)(Q6:(fn.name== "runtime.NumGoroutine")=false)(hb:fn.body.isNone=true)(hn:Extern.findNext fn=none)(he:Extern.find fn=some Extern.BytealgIndexByte.indexByte)
  {s:List UInt8}{c:Nat}(hc:Nat.ble c 255=true){H:Zc}{σ:Mp}{w:World}{vs:List Value}(hs:Wh P σ H w)(hv:YM σ [.str s,.int .u8 (.ofNat c)] vs):
  Lq P σ H w (.ret (.int .i64 (VS c s 0)) H) ((callFunc f ⟨vs⟩).run P w):=by
 obtain⟨v,l,h1,h2,rfl⟩:=hv.cons_inv
 obtain⟨u,l',h3,h4,rfl⟩:=h2.cons_inv
 rw[h4.nil_inv,VU h1,XN h3,run_callFunc_indexByte hf Q6 hb hn he,run_indexByte_string]
 have hc:=ZN hc
 refine⟨σ,?_,Tr.refl hs⟩
 simp only[Ys]
 have:=CD hc s [] ⟨s.toArray⟩ (by simp)
 have e:firstIdx ⟨s.toArray⟩ ((Int.ofNat c).toNat.toUInt8)=VS c s 0:=by
  unfold firstIdx
  have hz:(⟨s.toArray⟩:ByteArray).size=s.length:=by simp[ByteArray.size]
  rw[hz,RK]
  exact this
 rw[e]
theorem FV: ∀(n t:Nat) (acc:Array Value),(∀v∈acc,v.oneCell'=true)->(Extern.BytealgMakeNoZero.digits n t acc).size=acc.size+n∧ ∀v∈Extern.BytealgMakeNoZero.digits n t acc,v.oneCell'=true
 |0,t,acc,h=>⟨rfl,h⟩
 |n+1,t,acc,h=>by
  have:=FV n (t/256) (acc.push (.int .u8 (Int.ofNat (t % 256)))) (λv hv=>by
   rcases Array.mem_push.1 hv with hv|rfl
   ·exact h v hv
   ·rfl)
  unfold Extern.BytealgMakeNoZero.digits
  refine⟨?_,this.2⟩
  rw[this.1,Array.size_push];omega
theorem CH{f:FuncId}{fn:Func}{ps:Array TypeId}{t e:TypeId}(hf:P.funcs[f]? =some fn)(Q6:(fn.name== "runtime.NumGoroutine")=false)(hb:fn.body.isNone=true)(hn:Extern.findNext fn=none)(he:Extern.find fn=some (Extern.BytealgMakeNoZero.makeNoZero ps #[t]))
  (hu:P.underlying t=some (.slice e)){n:Nat}(Tn:Nat.ble n 281474976710656=true){H:Zc}{σ:Mp}{w:World}{vs:List Value}(hs:Wh P σ H w)(hv:YM σ [.int .i64 (.ofNat n)] vs):
  Lq P σ H w (.ret (.slice H.nx 0 n none) (H.new (.row ⟨e,1,n,.leaf,.unk,0,false,true,false⟩))) ((callFunc f ⟨vs⟩).run P w):=by
 obtain⟨v,l,h1,h2,rfl⟩:=hv.cons_inv
 rw[h2.nil_inv,XN h1,run_callFunc_extern hf Q6 hb hn he]
 have Tn:=ZN Tn
 obtain⟨k,hk⟩:=JX (P:=P) n 0 e w
 let y:=w.tape w.drew.drawn (.extern "internal/bytealg.MakeNoZero.bytes" 0)
 let cs:=Extern.BytealgMakeNoZero.digits (n+k) y #[]
 have YX:(Extern.BytealgMakeNoZero.makeNoZero ps #[t] #[.int .i64 (.ofNat n)]).run P w=.ok (.slice (some ⟨w.heap.size,0,none⟩) n (n+k)) (w.drew.drew.alloc (.cells cs e)):=by
  have Y6: ¬((decide ((Int.ofNat n)<0)||decide ((Int.ofNat n)>2^48))=true):=by
   simp only[Vx,decide_eq_true_eq,not_or]
   have e1:Int.ofNat n=(n:Int):=rfl
   have h2:((2:Int)^48)=281474976710656:=by decide
   rw[e1,h2]
   constructor<;>omega
  have hch:(choose (.extern "internal/bytealg.MakeNoZero.bytes" 0)).run P w.drew=.ok y w.drew.drew:=by
   rw[run_choose_drew]
   rfl
  have htn:(Int.ofNat n).toNat=n:=rfl
  rw[show(Extern.BytealgMakeNoZero.makeNoZero ps #[t] #[.int .i64 (.ofNat n)]).run P w=(Bind.bind (underlying t) _:Sem Value).run P w from rfl]
  simp only[Sem.run_bind,run_underlying hu,Result.andThen_ok,if_neg Y6,htn,hk,run_askRoom,hch,newRow,run_newObj,World.alloc_eq,Sem.run_pure]
  rfl
 rw[YX]
 obtain⟨hz,UL⟩:=FV (n+k) y #[] (λv hv=>by simp at hv)
 have hz:cs.size=n+k:=by rw[hz];simp
 have td:=(Tr.drew hs).trans (Tr.drew (Wh.drew hs))
 let L:Loc:=⟨w.heap.size,0,n+k,1⟩
 refine⟨σ.put H.nx L,Sq (l:=L) rfl,td.trans (Tr.alloc td.sim _ _ L rfl ⟨cs,(0,0),rfl,?_⟩)⟩
 refine⟨rfl,Zj _,by show n<=(n+k)*1;omega,by show 0+(n+k)*1<=cs.size;rw[hz];omega,(λh=>by cases h),λi hi=>?_,λi v _ hv=>UL v (W0 hv),λ_ i _ _ h=>by have h1:=h.1;have h2:=h.2;simp at h2,λ_ _=>.inl rfl⟩
 have hi:i<n:=hi
 refine⟨cs[i]'(by omega),by show cs[0+i]? =_;rw[Zt];exact Wz _,?_⟩
 show Ys _ AV.unk _
 simp[Ys]
noncomputable def wj:List (Nat×Nat×List AV)->T Obj->T Obj
 |[],t=>t
 |(b,e,l)::rs,t=>wj rs (t.set b (.row ⟨e,1,YH l,T.ofList l,.unk,0,false,false,true⟩))
theorem KF: ∀(rs:List (Nat×Nat×List AV)) (t:T Obj) (b:Nat) (o:Obj),(wj rs t).get b=some o->
  (∃e l,(b,e,l)∈rs∧o=.row ⟨e,1,YH l,T.ofList l,.unk,0,false,false,true⟩)∨t.get b=some o
 |[],t,b,o,h=>.inr h
 |(b',e,l)::rs,t,b,o,h=>by
  rcases KF rs _ b o h with⟨e2,l2,h1,h2⟩|h1
  ·exact .inl ⟨e2,l2,ZI _ h1,h2⟩
  ·rw[T.get_set] at h1
   by_cases e3:b'=b
   ·rw[if_pos e3] at h1;cases h1;subst e3;exact .inl ⟨e,l,Zx ..,rfl⟩
   ·rw[if_neg e3] at h1;exact .inr h1
mutual
def T5:DataW Unit->List AV
 |.lit (.int k n)=>[.int k n]
 |.lit (.string s)=>[.str s]
 |.agg ds=>xN ds
 |_=>[]
def xN:List (DataW Unit)->List AV
 |[]=>[]
 |d::ds=>T5 d++xN ds
end
def Si(P:Program)(W:World)(e:TypeId)(c:Nat):Prop:=
 ∀(m:Nat) (cs:List Value) (x:DataW Unit×List MemPlace),DataW.trod (λ_=>()) P W 0 (λ_=>true) false m e cs=some x->cs.length=c∧YM (λ_=>none) (T5 x.1) cs∧ ∀v∈cs,v.oneCell'=true
theorem yb{W:World}{e:TypeId}{k:IntKind}(he:P.underlying e=some (.int k)):Si P W e 1:=by
 intro m cs x h
 obtain⟨n,rfl,rfl,_⟩:=DataW.trod_int he h
 exact⟨rfl,T7 (by simp[Ys]),λv hv=>by simp at hv;subst hv;rfl⟩
theorem sW{W:World}{e:TypeId}{c:Nat}(he:Si P W e c){m:Nat}{cs:List Value}: ∀(xs:List (DataW Unit×List MemPlace)) (k:Nat),
  (∀i x,xs[i]? =some x->DataW.trod (λ_=>()) P W 0 (λ_=>true) false m e ((cs.drop ((k+i)*c)).take c)=some x)->
  YM (λ_=>none) (xN (xs.map (·.1))) ((cs.drop (k*c)).take (xs.length*c))∧ ∀v∈(cs.drop (k*c)).take (xs.length*c),v.oneCell'=true
 |[],k,_=>by simp[xN,YM]
 |x::xs,k,h=>by
  obtain⟨h1,h2,h3⟩:=he m _ x (h 0 x rfl)
  obtain⟨h4,h5⟩:=sW he xs (k+1) (λi y hy=>by
   have:=h (i+1) y (by simpa using hy)
   rw[show k+(i+1)=k+1+i by omega] at this
   exact this)
  rw[Zv] at h1 h2 h3
  have Zgi:(cs.drop (k*c)).take ((x::xs).length*c)=(cs.drop (k*c)).take c++(cs.drop ((k+1)*c)).take (xs.length*c):=by
   rw[Zl,XQ,U0,Nat.add_comm (xs.length*c) c,List.take_add,U8]
   congr 3
   rw[XQ,U0]
  rw[Zgi]
  refine⟨h2.append h4,λv hv=>?_⟩
  rcases Zs.1 hv with hv|hv
  ·exact h3 v hv
  ·exact h5 v hv
theorem PV{W:World}{t e:TypeId}{n c:Nat}(ht:P.underlying t=some (.array n e))(hc:P.cellsOf e=c)(hct:P.cellsOf t=n*c)(he:Si P W e c):Si P W t (n*c):=by
 intro m cs x h
 obtain⟨xs,m',rfl,rfl,hlen,hn,zu⟩:=DataW.trod_array ht h
 rw[hc] at zu
 obtain⟨h1,h2⟩:=sW he (m:=m') (cs:=cs) xs 0 (λi y hy=>by
  have hi:i<n:=by rw[<-hn];exact(Vz.1 hy).1
  rw[Zt,zu i hi];exact hy)
 rw[hct] at hlen
 have Gr:(cs.drop (0*c)).take (xs.length*c)=cs:=by
  rw[TB,Ye,hn,<-hlen,U4]
 rw[Gr] at h1 h2
 exact⟨hlen,h1,h2⟩
theorem pv{W:World}{t e:TypeId}{f g:Field}(ht:P.underlying t=some (.struct #[f,g]))(hf:f.type=e)(hg:g.type=e)(hof:f.offset=0)(hog:g.offset=1)(hc:P.cellsOf e=1)(hct:P.cellsOf t=2)(he:Si P W e 1):Si P W t 2:=by
 intro m cs x h
 obtain⟨xs,m',rfl,rfl,hlen,hn,zu⟩:=DataW.trod_struct ht h
 have h0:=zu 0 f rfl
 have h1:=zu 1 g rfl
 rw[hf,hof,hc] at h0
 rw[hg,hog,hc] at h1
 obtain⟨g1,g2⟩:=sW he (m:=m') (cs:=cs) xs 0 (λi y hy=>by
  have hi:i<2:=by
   have:xs.length=2:=by rw[hn];rfl
   rw[<-this];exact(Vz.1 hy).1
  match i,hi with
  |0,_=>simpa using h0.trans hy
  |1,_=>simpa using h1.trans hy)
 have hlen2:cs.length=2:=by rw[hlen,hct]
 have hn2:xs.length=2:=by rw[hn];rfl
 have Gr:(cs.drop (0*1)).take (xs.length*1)=cs:=by
  rw[hn2,TB,Ye,Xr,<-hlen2,U4]
 rw[Gr] at g1 g2
 exact⟨hlen2,g1,g2⟩
theorem yI{W:World}{n:String}{g:Nat}{cs:Array Value}(hg:P.globalNamed n=some g)(h:W.var? P n=some cs): ∃t fr,W.heap[g]? =some (.cells cs t fr):=by
 simp only[World.var?,hg,Option.bind_some] at h
 split at h
 ·rename_i c t fr hh;cases h;exact⟨t,fr,hh⟩
 ·cases h
theorem jV{W:World}{t:TypeId}{ms:Array (String×TypeId)}(ht:P.underlying t=some (.interface ms)){m:Nat}{cs:List Value}{name:String}{D:DataW Unit}{p:List MemPlace}
  (h:DataW.trod (λ_=>()) P W 0 (λ_=>true) false m t cs=some (.iface name (.ptr D),p)){u0 e:TypeId}(hu: ∀u,P.typeName? 3 u=some name->u=u0)(hu0:P.underlying u0=some (.pointer e))(he:1<=P.cellsOf e)
  (OL: ∀u v,cs=[.iface u v]->Value.okWide P W .any 0 u v): ∃a:Addr,a.spot=none∧cs=[.iface u0 (.pointer (some a))]:=by
 have key: ∃u v,cs=[.iface u v]:=by
  cases m with
  |zero=>simp[DataW.trod] at h
  |succ m=>
   unfold DataW.trod at h
   rw[ht] at h
   rcases cs with _|⟨c0,_|⟨c1,cs⟩⟩
   ·simp at h
   ·cases c0<;>first|exact⟨_,_,rfl⟩|(simp at h)
   ·simp at h
 obtain⟨u,v,rfl⟩:=key
 cases m with
 |zero=>simp[DataW.trod] at h
 |succ m=>
  unfold DataW.trod at h
  rw[ht] at h
  cases hn:P.typeName? 3 u with
  |none=>simp[hn] at h
  |some nm=>
   simp only[hn] at h
   obtain⟨x,h1,h2⟩:=S6.1 h
   simp only[Prod.mk.injEq,DataW.iface.injEq] at h2
   obtain⟨⟨rfl,h3⟩,_⟩:=h2
   obtain rfl:=hu u hn
   rcases DataW.trod_pointer hu0 h1 with⟨_,h4⟩|⟨a,Jm,y,n,_,h4,h5,h6,_⟩
   ·rw[h4] at h3;cases h3
   ·have Zkb:a.spot=none:=by
     unfold World.cells? at h6
     split at h6
     ·have h7:=h6
      cases hc:P.cellsOf e with
      |zero=>omega
      |succ n=>
       rw[hc,List.range_succ_eq_map,List.mapM_cons] at h7
       simp only[Option.bind_eq_bind,Option.bind_eq_some_iff] at h7
       obtain⟨b,h8,_⟩:=h7
       unfold World.cell? at h8
       split at h8
       ·split at h8
        ·cases h8
        ·rename_i hs
         have:(a.add 0).spot=a.spot:=rfl
         rw[this] at hs
         simpa using hs
       ·cases h8
     ·cases h6
    refine⟨a,Zkb,?_⟩
    have hv:v.cells.toList=[.pointer (some a)]:=h4
    have hv':v=.pointer (some a):=by
     cases v with
     |agg cs=>
      have:=OL _ _ rfl
      simp[Value.okWide,Cell.okWide,Cell.ok,hu0] at this
     |_=>first|(simp[Value.cells] at hv;done)|(simpa [Value.cells] using hv)
    rw[hv']
theorem C7{info:TypeId->Option TypeInfo}{d:TypeDesc}{i:TypeInfo}{e:TypeId}(h:Made.reckon info d=some i)(hd:i.desc=.pointer e): ∃j,info e=some j∧ ∀n u,j.desc≠.named n u:=by
 unfold Made.reckon at h
 split at h
 ·rename_i e'
  simp only[bind,Option.bind_eq_some_iff] at h
  obtain⟨j,hj,h⟩:=h
  have oU:e'=e∧ ∀n u,j.desc≠.named n u:=by
   split at h
   ·cases h
   ·rename_i fs oX
    split at h
    ·cases h
    ·simp only[Option.bind_eq_some_iff,pure] at h
     obtain⟨s,_,h⟩:=h
     cases h
     have:TypeDesc.pointer e'=.pointer e:=hd
     cases this
     exact⟨rfl,λn u hn=>by rw[oX] at hn;cases hn⟩
   ·rename_i hn1 hn2
    simp only[Option.bind_eq_some_iff,pure] at h
    obtain⟨s,_,h⟩:=h
    cases h
    have:TypeDesc.pointer e'=.pointer e:=hd
    cases this
    exact⟨rfl,λn u hn=>hn1 n u hn⟩
  obtain⟨rfl,h2⟩:=oU
  exact⟨j,hj,h2⟩
 all_goals
  exfalso
  try simp only[bind,Option.bind_eq_some_iff,pure] at h
  repeat' first
   |(obtain⟨_,_,h⟩:=h)
   |(split at h)
  all_goals first
   |(simp[Made.word] at hd;done)
   |(cases h;simp[Made.word] at hd;done)
   |(cases h;cases hd;done)
   |(cases h;done)
   |(simp only[Option.bind_eq_some_iff] at h;obtain⟨_,_,h⟩:=h;cases h;cases hd;done)
   |(unfold Made.reckonStruct at h;simp only[bind,Option.bind_eq_some_iff,pure] at h;obtain⟨_,_,h⟩:=h;split at h<;>(cases h;cases hd))
theorem Ap{name inner:String}(Q6:name= "*" ++inner)(Zkc: ∀m:String,inner≠ "*" ++m)
  (Zgl:(P.types.toList.zipIdx.all λx=>match P.typeName? 2 x.2 with|some n=>n !=inner||(match x.1.desc with|.named _ _=>true|_=>false)|none=>true)=true)
  {u:TypeId}(h:P.typeName? 3 u=some name):u<P.types.size:=by
 refine Decidable.byContradiction λhu=>?_
 unfold Program.typeName? at h
 cases hi:P.info? u with
 |none=>simp[hi] at h
 |some i=>
  have hb:=Tables.info?_beyond hu hi
  simp only[hi] at h
  cases hd:i.desc<;>simp only[hd,TypeDesc.tableOnly] at h hb<;>try cases hb
  all_goals try (cases h;done)
  rename_i e
  simp only[S6] at h
  obtain⟨n',oY,h2⟩:=h
  have Nk:n'=inner:=by
   rw[Q6] at h2
   have h3:("*" ++n').toList=("*" ++inner).toList:=by rw[h2]
   rw[String.toList_append,String.toList_append] at h3
   exact String.toList_inj.1 (List.append_cancel_left h3)
  subst Nk
  unfold Tables.info? at hi
  rw[if_neg hu] at hi
  unfold Made.depth at hi
  unfold Made.infoAt at hi
  rw[if_neg hu] at hi
  simp only[Option.bind_eq_some_iff] at hi
  obtain⟨d,_,hrk⟩:=hi
  obtain⟨jj,hj,hjn⟩:=C7 hrk hd
  by_cases he:e<P.types.size
  ·unfold Made.infoAt at hj
   rw[if_pos he] at hj
   have h4:=Y7.1 Zgl (jj,e) (by rw[List.mk_mem_zipIdx_iff_getElem?,Yd];exact hj)
   simp only[oY] at h4
   cases hjd:jj.desc with
   |named a b=>exact hjn a b hjd
   |_=>simp at h4
  ·unfold Program.typeName? at oY
   cases hi2:P.info? e with
   |none=>simp[hi2] at oY
   |some i2=>
    have QY:=Tables.info?_beyond he hi2
    simp only[hi2] at oY
    cases iX:i2.desc<;>simp only[iX,TypeDesc.tableOnly] at oY QY<;>try cases QY
    all_goals try (cases oY;done)
    simp only[S6] at oY
    obtain⟨m,_,hm⟩:=oY
    exact Zkc m hm.symm
noncomputable def Zhj(l:List (Nat×CF)):T CF:=List.rec .leaf (λx _ t=>t.set x.1 x.2) l
theorem sf: ∀{l:List (Nat×CF)} {f:Nat} {cf:CF},(Zhj l).get f=some cf->(f,cf)∈l
 |[],f,cf,h=>by
  have h:(T.leaf:T CF).get f=some cf:=h
  rw[T.get_leaf] at h;cases h
 |(g,c)::l,f,cf,h=>by
  have h:((Zhj l).set g c).get f=some cf:=h
  rw[T.get_set] at h
  by_cases e:g=f
  ·rw[if_pos e] at h;cases h;rw[e];exact Zx ..
  ·rw[if_neg e] at h;exact ZI _ (sf h)
theorem xH{W W':World}{may:MemPlace->Prop}(h1:W'.os=W.os)(h2:W'.output=W.output)(h3: ∀i,i<W.heap.size->W'.heap[i]? =W.heap[i]?):W.keptBut W' may:=by
 refine⟨h1,h2,λi hi=>?_⟩
 rw[h3 i hi]
 split
 ·rename_i e1 e2;rw[e1] at e2;cases e2;exact⟨rfl,rfl,rfl,λ_ _=>rfl⟩
 ·rename_i e1 e2;rw[e1] at e2;cases e2;exact .inr ⟨rfl,rfl⟩
 ·rfl
mutual
theorem Ys.back{σ σ':Mp}(h:Oq σ σ'): ∀{a:AV} {v0 v:Value},Ys σ a v0->Ys σ' a v->Ys σ a v
 |.unk,_,_,_,_=>by simp[Ys]
 |.bool b,_,v,_,r=>by simpa [Ys] using r
 |.int k n,_,v,_,r=>by simpa [Ys] using r
 |.str s,_,v,_,r=>by simpa [Ys] using r
 |.nilp,_,v,_,r=>by simpa [Ys] using r
 |.ptr b o,_,v,q,r=>by
  simp only[Ys] at q r ⊢
  obtain⟨l,hl,_⟩:=q
  obtain⟨l',SS,hv⟩:=r
  rw[h _ _ hl] at SS;cases SS
  exact⟨l,hl,hv⟩
 |.nils,_,v,_,r=>by simpa [Ys] using r
 |.slice b o n cap,_,v,q,r=>by
  simp only[Ys] at q r ⊢
  obtain⟨l,hl,_⟩:=q
  obtain⟨l',SS,hv⟩:=r
  rw[h _ _ hl] at SS;cases SS
  exact⟨l,hl,hv⟩
 |.nilm,_,v,_,r=>by simpa [Ys] using r
 |.map b,_,v,q,r=>by
  simp only[Ys] at q r ⊢
  obtain⟨l,hl,_⟩:=q
  obtain⟨l',SS,hv⟩:=r
  rw[h _ _ hl] at SS;cases SS
  exact⟨l,hl,hv⟩
 |.func f a b,_,v,q,r=>by
  simp only[Ys] at q r ⊢
  obtain⟨x0,y0,q1,q2,_⟩:=q
  obtain⟨x,y,hx,hy,hv⟩:=r
  exact⟨x,y,YM.back h q1 hx,YM.back h q2 hy,hv⟩
 |.meth n a,_,v,q,r=>by
  simp only[Ys] at q r ⊢
  obtain⟨x0,q1,_⟩:=q
  obtain⟨x,hx,hv⟩:=r
  exact⟨x,Ys.back h q1 hx,hv⟩
 |.yield b,_,v,q,r=>by
  simp only[Ys] at q r ⊢
  obtain⟨l,hl,_⟩:=q
  obtain⟨l',SS,hv⟩:=r
  rw[h _ _ hl] at SS;cases SS
  exact⟨l,hl,hv⟩
 |.nilf,_,v,_,r=>by simpa [Ys] using r
 |.iface t x,_,v,q,r=>by
  simp only[Ys] at q r ⊢
  obtain⟨y0,q1,_⟩:=q
  obtain⟨y,hy,hv⟩:=r
  exact⟨y,Ys.back h q1 hy,hv⟩
 |.nili,_,v,_,r=>by simpa [Ys] using r
 |.agg cs,_,v,q,r=>by
  simp only[Ys] at q r ⊢
  obtain⟨v0,q1,_,_⟩:=q
  obtain⟨vs,hx,h1,hv⟩:=r
  exact⟨vs,YM.back h q1 hx,h1,hv⟩
 |.tup cs,_,v,q,r=>by
  simp only[Ys] at q r ⊢
  obtain⟨v0,q1,_⟩:=q
  obtain⟨vs,hx,hv⟩:=r
  exact⟨vs,YM.back h q1 hx,hv⟩
theorem YM.back{σ σ':Mp}(h:Oq σ σ'): ∀{as:List AV} {l0 l:List Value},YM σ as l0->YM σ' as l->YM σ as l
 |[],_,_,_,r=>by simpa [YM] using r
 |a::as,_,_,q,r=>by
  simp only[YM] at q r ⊢
  obtain⟨v0,vs0,q1,q2,_⟩:=q
  obtain⟨v,vs,r1,r2,e⟩:=r
  exact⟨v,vs,Ys.back h q1 r1,YM.back h q2 r2,e⟩
end
theorem R9.back{σ σ':Mp}(h:Oq σ σ'){r:Row}{l:Loc}{c0 c:Array Value}{f0 f:Nat×Nat}(q:R9 σ r l c0 f0)(p:R9 σ' r l c f):R9 σ r l c f:=
 ⟨p.sz,p.sz1,p.fits,p.room,p.exact,λi hi=>by
  obtain⟨v0,_,h0⟩:=q.cell i hi
  obtain⟨v,h1,h2⟩:=p.cell i hi
  exact⟨v,h1,h0.back h h2⟩,p.one,p.frz,p.frs⟩
theorem YE.known{σ:Mp}: ∀{es:List RH} {l:List MapEntry},YE σ es l-> ∀e∈es,(∃v,Ys σ e.key v)∧ ∃v,Ys σ e.val v
 |[],_,_,e,he=>by cases he
 |a::as,_,h,e,he=>by
  obtain⟨x,xs,h1,h2,_⟩:=h
  rcases Ya.1 he with rfl|he
  ·exact⟨⟨_,h1.1⟩,⟨_,h1.2.1⟩⟩
  ·exact YE.known h2 e he
theorem YE.back{σ σ':Mp}(h:Oq σ σ'): ∀{es:List RH} {l:List MapEntry},(∀e∈es,(∃v,Ys σ e.key v)∧ ∃v,Ys σ e.val v)->YE σ' es l->YE σ es l
 |[],_,_,r=>r
 |a::as,_,q,r=>by
  obtain⟨x,xs,h1,h2,e⟩:=r
  obtain⟨⟨_,q1⟩,⟨_,q2⟩⟩:=q a (Zx ..)
  exact⟨x,xs,⟨q1.back h h1.1,q2.back h h1.2.1,h1.2.2⟩,YE.back h (λe he=>q e (ZI _ he)) h2,e⟩
theorem Uz.back{σ σ':Mp}(h:Oq σ σ'){o:Obj}{l:Loc}{c0 c:Go.Obj}(q:Uz σ o l c0)(p:Uz σ' o l c):Uz σ o l c:=by
 cases o with
 |row r=>
  obtain⟨_,_,_,q1⟩:=q
  obtain⟨cs,fr,e,p1⟩:=p
  exact⟨cs,fr,e,q1.back h p1⟩
 |map es clock=>
  obtain⟨_,_,q1,_⟩:=q
  obtain⟨ents,e,p1,p2⟩:=p
  exact⟨ents,e,YE.back h q1.known p1,p2⟩
 |siter s pos=>exact p
 |miter m since cur=>
  obtain⟨_,_,_,q1,_⟩:=q
  obtain⟨seen,st,e,p1,p2⟩:=p
  refine⟨seen,st,?_,q1,p2⟩
  rw[e]
  cases m with
  |none=>rfl
  |some b=>
   obtain⟨l2,Nl⟩:=Vo.1 (q1 b rfl)
   show Go.Obj.mapIter ((σ' b).map (·.blk)) since seen st=Go.Obj.mapIter ((σ b).map (·.blk)) since seen st
   rw[Nl,h _ _ Nl]
 |loop=>exact p
 |cmap es=>
  obtain⟨_,_,f0,_,q1,q2,_⟩:=q
  obtain⟨ents,clock,fs,e,p1,p2,p3⟩:=p
  refine⟨ents,clock,fs,e,YE.back h (λx hx=>?_) p1,p2,p3⟩
  have hm:Nf x∈f0.map Nf:=q2.symm.mem_iff.1 (p2.mem_iff.1 (Tx hx))
  obtain⟨y,hy,ey⟩:=YV.1 hm
  obtain⟨⟨v,h1⟩,⟨u,h2⟩⟩:=q1.known y hy
  have e1:y.key=x.key:=congrArg Prod.fst ey
  have e2:y.val=x.val:=congrArg Prod.snd ey
  exact⟨⟨v,e1▸h1⟩,⟨u,e2▸h2⟩⟩
theorem Tr.drop{σ σ':Mp}{H H':Zc}{w w':World}(hs:Wh P σ H w)(t:Tr P σ H w σ' H' w')(keep: ∀b,b<H.nx->H'.t.get b=H.t.get b):Tr P σ H w σ H w':=by
 have lV:Wh P σ H w':=by
  refine⟨hs.dom,hs.low,λb o l hb hl=>?_,hs.inj,hs.glob,hs.ro⟩
  obtain⟨c0,_,h1⟩:=hs.alive b o l hb hl
  obtain⟨c,h2,h3⟩:=t.sim.alive b o l (by rw[keep b (hs.low b o hb)];exact hb) (t.ext b l hl)
  exact⟨c,h2,h1.back t.ext h3⟩
 exact⟨Oq.refl σ,lV,t.size,t.frame,λb l hw hl _=>⟨b,l,hw,hl,rfl⟩,Zj _,rfl,λ_ _=>rfl,t.tape,t.os,t.out,λ_ _ h=>⟨rfl,h⟩⟩
end
end
end Go.AI
