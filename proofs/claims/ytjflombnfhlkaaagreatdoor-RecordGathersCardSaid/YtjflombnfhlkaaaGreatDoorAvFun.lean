/-
  Rounds, functions, calls: the evaluator is sound.
-/
import Derived.Test.YtjflombnfhlkaaaGreatDoorAvCode
noncomputable section
namespace Go.Av
set_option linter.unusedSectionVars false
variable [Glob]
open Go.RowKit
section
variable {P:Program} {call:zM} {N:Nat}
section
variable {F:Nat→Prop} {nu:Nat→Option Nat} {A:Heap} {w:World}
theorem qml (i:Inv F nu A w) {t:TypeId} {p:AV} {x:Value} (hp:R F nu w p x) {f:zR} {v:AV} {A':Heap} {f':zR} (h:exec (vz P t p) A f=some (v,A',f')):
 ∃y,(do loadVar t (←asAddr x):Sem Value).run P w= .ok y w∧R F nu w v y:=by
 unfold vz at h
 split at h
 ·rename_i d inf hd hi
  split at h
  ·rename_i ha
   obtain⟨ad,cs,vs,f2,rfl,h1,h2,h3,h4,h5⟩:=qcM i hp h
   simp only[exec,Option.some.injEq,Prod.mk.injEq]at h5
   obtain⟨rfl,rfl,rfl⟩:=h5
   refine⟨.agg vs.toArray,?_,.agg _ _ (by simp;omega) (fun j a v ha hv=>h4 j a v ha (by simpa using hv))⟩
   have:=run_loadCells_list (P:=P) w ad vs h3
   rw[h1]at this
   simp[asAddr,loadVar,qbE hd,ha,ky hi,this]
  ·rename_i ha
   obtain⟨ad,cs,vs,f2,rfl,h1,h2,h3,h4,h5⟩:=qcM i hp h
   match cs,h2 with
   |[c],_=>
    match vs,h1 with
    |[y],_=>
     simp only[exec,Option.some.injEq,Prod.mk.injEq]at h5
     obtain⟨rfl,rfl,rfl⟩:=h5
     have hc:=h3 0 y rfl
     rw[add_zero']at hc
     refine⟨y,?_,h4 0 c y rfl rfl⟩
     simp[asAddr,loadVar,qbE hd,ha,hc]
 ·simp[exec]at h
def qmn (tmps:Array Value):ResultVar→Sem Value
 | .tmp t=>pure (tmps.getD t undef)
 | .cell a t=>do loadVar t (←asAddr (tmps.getD a undef))
theorem qks (fn:Func) (tmps:Array Value):results fn tmps=(do
 let vs←fn.results.mapM (qmn tmps)
 pure (if h:vs.size=1 then vs[0]else .tuple vs)):=by
 unfold results
 congr 1
theorem qie (i:Inv F nu A w) {fr:Fr} {tmps:Array Value} (h:RF F nu w fr tmps): ∀(rs:List ResultVar) {vs:List AV},jB P fr A rs=some vs→
 ∃xs:List Value,(rs.mapM (qmn tmps)).run P w= .ok xs w∧RL F nu w vs xs.toArray:=by
 intro rs
 induction rs with
 |nil=>
  intro vs hv
  simp only[jB,Option.some.injEq]at hv
  subst hv
  exact⟨[],by simp,rfl,by simp⟩
 |cons r rs ih=>
  intro vs hv
  have cons: ∀{v:AV} {y:Value} {vs:List AV} {xs:List Value},R F nu w v y→RL F nu w vs xs.toArray→RL F nu w (v::vs) (y::xs).toArray:=by
   intro v y vs xs h1 h2
   have:=h2.1
   refine⟨by simp at this⊢;exact this,fun j a u ha hu=>?_⟩
   cases j with
   |zero=>simp at ha hu;subst ha;subst hu;exact h1
   |succ j=>exact h2.2 j a u (by simpa using ha) (by simpa using hu)
  cases r with
  |tmp t=>
   simp only[jB,Option.map_eq_some_iff]at hv
   obtain⟨vs',hv',rfl⟩:=hv
   obtain⟨xs,hx,hl⟩:=ih hv'
   exact⟨tmps.getD t undef::xs,by rw[List.mapM_cons];simp only[qmn,Sem.run_bind,Sem.run_pure,Result.andThen_ok,hx],cons (h.getD t) hl⟩
  |cell a t=>
   simp only[jB]at hv
   split at hv
   ·rename_i v A1 f1 vs' he hvs
    simp only[Option.some.injEq]at hv
    subst hv
    obtain⟨xs,hx,hl⟩:=ih hvs
    obtain⟨y,hy,hR⟩:=qml i (h.getD a) he
    refine⟨y::xs,?_,cons hR hl⟩
    rw[List.mapM_cons]
    simp only[qmn,Sem.run_bind]at hy⊢
    rw[hy]
    simp only[Result.andThen_ok,hx,Sem.run_pure]
   ·cases hv
theorem qjh (i:Inv F nu A w) {fr:Fr} {tmps:Array Value} (h:RF F nu w fr tmps) {fn:Func} {vs:List AV} (hv:jB P fr A fn.results.toList=some vs):
 ∃x,(results fn tmps).run P w= .ok x w∧R F nu w (qex vs) x:=by
 obtain⟨xs,hx,hl⟩:=qie (P:=P) i h _ hv
 have hrun:(results fn tmps).run P w= .ok (if h:xs.toArray.size=1 then xs.toArray[0]else .tuple xs.toArray) w:=by
  have h2:(fn.results.mapM (qmn tmps)).run P w= .ok xs.toArray w:=by
   rw[Array.mapM_eq_mapM_toList,map_eq_pure_bind]
   rw[Sem.run_bind,hx]
   rfl
  rw[qks,Sem.run_bind,h2]
  rfl
 refine⟨_,hrun,?_⟩
 have h1:=hl.1
 match vs,xs,h1,hl with
 |[],[],_,hl=>exact .tuple _ _ rfl (by simp)
 |[v],[y],_,hl=>exact hl.2 0 v y rfl rfl
 |v::v'::vs,y::y'::ys,h1,hl=>
  have: ¬(y::y'::ys).toArray.size=1:=by simp
  rw[dif_neg this]
  exact .tuple _ _ h1 hl.2
end
theorem qdU {F:Nat→Prop} {nu:Nat→Option Nat} {A:Heap} {w:World} {fn:Func} {n:Nat} {rs:List AV} {A':Heap} {R0:Ending→World→Prop} {tmps:Array Value} {fr:Fr} (hrs:jB P fr A' fn.results.toList=some rs):
 ∀(ds:List Deferred) {F':Nat→Prop} {nu':Nat→Option Nat} {w':World},Stp F nu A w F' nu' A' w'→RF F' nu' w' fr tmps→Dfr w.heap.size F' nu' A' w' ds→
  (∀F' nu' w' y,Stp F nu A w F' nu' A' w'→R F' nu' w' (qex rs) y→R0 (.returned y) w')→LeavesInM (fz none) n P fn tmps R0 ds .returning w':=by
 intro ds
 induction ds with
 |nil=>
  intro F' nu' w' st hfr _ hq
  obtain⟨y,hy,hR⟩:=qjh st.inv hfr hrs
  exact⟨y,hy,hq _ _ _ _ st hR⟩
 |cons d ds ih=>
  intro F' nu' w' st hfr hd hq
  obtain⟨r,h1,h2,h3,h4,h5⟩:=hd.each d (by simp)
  have htake:=run_takeDeferred (P:=P) h3
  obtain⟨st2,x2⟩:=Stp.touch st (r:=r) (o:= .deferred none) h2 h4 h5 (by simp[World.shape?,h3])
  refine⟨by simp,.inl ⟨r,_,h1,htake,?_⟩⟩
  refine ih st2 (hfr.mono x2) ⟨fun e he=>?_,?_⟩ hq
  ·obtain⟨r',g1,g2,g3,g4,g5⟩:=hd.each e (by simp[he])
   have hne:r'≠r:=by
    intro e2
    have:=(List.pairwise_cons.1 hd.apart).1 e he
    rw[h1,g1,e2]at this
    exact this rfl
   exact⟨r',g1,g2,(World.putObj_heap_other hne).trans g3,g4,g5⟩
  ·exact(List.pairwise_cons.1 hd.apart).2
theorem qmT (hc:zg P call) (hm:P.follows .mixedOrders=true) {f:FuncId} {args:List AV} {A:Heap} {v:AV} {A':Heap} (he:qjD P call N f args A=some (v,A')):qf P (.fn f) args A v A':=by
 unfold qjD at he
 split at he
 ·rename_i fn hfn
  split at he
  ·cases he
  ·rename_i hname
   split at he
   ·rename_i c hbody
    refine fun F nu w vs i hargs=> .inl ⟨⟨fn,hfn,by simpa using hname,by rw[hbody];rfl⟩,?_⟩
    refine(callsIn_wide (n:=0)).1 ?_
    refine callsIn_of_wp_marks hfn hbody trivial ?_
    have hframe:RF F nu w (frOf fn.ntmps args) (vs++Array.replicate (fn.ntmps-vs.size) undef):=RF.frOf _ hargs
    cases h1:zD P call N none c (frOf fn.ntmps args,A)with
    |none=>simp[h1]at he
    |some r=>
     obtain⟨x,fr,A1⟩:=r
     rw[h1]at he
     have post: ∀rs,jB P fr A1 fn.results.toList=some rs→qex rs=v→A1=A'→ ∀F' nu' w' (a':Act),Dfr w.heap.size F' nu' A1 w' a'.defers→Stp F nu A w F' nu' A1 w'→RF F' nu' w' fr a'.tmps→
      LeavesInM (fz none) 0 P fn a'.tmps (fun e w'=> ∃x F' nu',e= .returned x∧Stp F nu A w F' nu' A' w'∧R F' nu' w' v x) a'.defers .returning w':=by
      intro rs hrs htv hA F' nu' w' a' hd st hfr
      subst hA
      exact qdU hrs a'.defers st hfr hd (fun F2 nu2 w2 y st2 hR=>⟨y,F2,nu2,rfl,st2,htv▸hR⟩)
     cases x with
     |normal=>
      obtain⟨rs,hrs,hr⟩:=Option.map_eq_some_iff.1 he
      simp only[Prod.mk.injEq]at hr
      exact qdo (rd:=none) (rr:=none) (base:=w.heap.size) hc hm c i hframe trivial .nil (Nat.le_refl _) h1 (fun F' nu' w' a' hd st hfr=>post rs hrs hr.1 hr.2 F' nu' w' a' hd st hfr)
     |ret=>
      obtain⟨rs,hrs,hr⟩:=Option.map_eq_some_iff.1 he
      simp only[Prod.mk.injEq]at hr
      exact qdo (rd:=none) (rr:=none) (base:=w.heap.size) hc hm c i hframe trivial .nil (Nat.le_refl _) h1 (fun F' nu' w' a' hd st hfr=>post rs hrs hr.1 hr.2 F' nu' w' a' hd st hfr)
     |exit k=>cases he
   ·cases he
 ·cases he
theorem qk7 {F:Nat→Prop} {nu:Nat→Option Nat} {A2:Heap} {w:World} {b l:Nat} {x:XA} {fr:Fr} {v:AV} {A':Heap} (i:Inv F nu A2 w) (hb:nu b=some l) (he:qj3 b (some (x,fr,A2))=some (v,A')):
 ∃y w',(Instr.endRound l (qeD x)).run P w= .ok y w'∧Stp F nu A2 w F nu A' w'∧R F nu w' v y:=by
 simp only[qj3]at he
 split at he
 ·rename_i stt pend fr2 ps2 asg2 body2 hA2
  obtain⟨hnF,fn2,tmps2,dd2,hheap,hfr2⟩:=i.blk _ _ _ hb hA2
  simp only[Option.some.injEq,Prod.mk.injEq]at he
  obtain⟨rfl,rfl⟩:=he
  have hend:=run_endRound (P:=P) (qeD x) hheap
  exact⟨_,_,hend,Stp.setLoop i (r:={state:=if(qeD x).isNone then .ready else .done,pending:=qeD x,fn:=fn2,tmps:=tmps2,params:=ps2,assign:=asg2,body:=body2,defers:=dd2}) hb hA2 rfl hheap rfl hfr2,.bool _⟩
 ·cases he
theorem qmf (hc:zg P call) (hm:P.follows .mixedOrders=true) {b:Nat} {args:List AV} {A:Heap} {v:AV} {A':Heap} (he:qiO P call N b args A=some (v,A')):qf P (.rd b) args A v A':=by
 intro F nu w vs rb i hargs hb
 unfold qiO at he
 split at he
 ·rename_i st0 p0 fr ps asg bd hA
  obtain⟨hnF,fn0,tmps0,dd0,hheap,hfr⟩:=i.blk _ _ _ hb hA
  split at he
  ·rename_i hlen
   have hsz:vs.size=ps.size:=by rw[hargs.1,hlen]
   have hy:=run_yield (P:=P) hheap (args:=vs) (by exact hsz)
   refine⟨_,_,_,_,hy,?_⟩
   refine roundIn_of_wpIn trivial ?_
   have hset:RF F nu w (setAll fr ps.toList args) ((ps.zip vs).foldl (fun tmps (t,a)=>tmps.setIfInBounds t a) tmps0):=by
    have h1:=RF.setAll (params:=ps.toList) hfr (args:=args) (vs:=vs.toList) (by simp[hargs.1]) (fun j a v ha hv=>hargs.2 j a v ha (by simpa using hv))
    have e:(ps.zip vs).foldl (fun tmps (t,a)=>tmps.setIfInBounds t a) tmps0=(ps.toList.zip vs.toList).foldl (fun tmps (p:Tmp×Value)=>tmps.setIfInBounds p.1 p.2) tmps0:=by
     rw[←Array.foldl_toList,Array.toList_zip]
    rw[e]
    exact h1
   have hfz:Fence.wide.inRound rb=fz (some rb):=rfl
   rw[hfz]
   cases h1:zD P call N (some b) asg (setAll fr ps.toList args,A)with
   |none=>simp[h1]at he
   |some r=>
    obtain⟨x1,fr1,A1⟩:=r
    rw[h1]at he
    cases x1 with
    |normal=>
     simp only at he
     refine qdo (rd:=some b) (rr:=some rb) (base:=0) hc hm asg i hset hb .nil (Nat.zero_le _) h1 (fun F1 nu1 w1 a1 hd1 st1 hf1=>?_)
     split at he
     ·rename_i p1 f1 ps1 as1 bd1 hA1
      have hb1:=st1.n _ _ hb
      obtain⟨hnF1,fn1,tmps1,dd1,hheap1,hfr1⟩:=st1.inv.blk _ _ _ hb1 hA1
      have hbeg:=run_beginRound (P:=P) hheap1 rfl
      have st2:=Stp.setLoop st1.inv (st:= .busy) (pend:=p1) (fr:=f1) (ps:=ps1) (asg:=as1) (body:=bd1) (r:={state:= .busy,pending:=p1,fn:=fn1,tmps:=tmps1,params:=ps1,assign:=as1,body:=bd1,defers:=dd1}) hb1 hA1 rfl hheap1 rfl hfr1
      refine⟨_,hbeg,?_⟩
      cases h2:zD P call N (some b) bd (fr1,A1.set b (.loop .busy p1 f1 ps1 as1 bd1))with
      |none=>simp[h2,qj3]at he
      |some r2=>
       obtain⟨x2,fr2,A2⟩:=r2
       rw[h2]at he
       have hf1':=hf1.mono (st2.ext st1.inv)
       refine qdo (rd:=some b) (rr:=some rb) (base:=0) hc hm bd st2.inv hf1' hb1 (hd1.step st2) (Nat.zero_le _) h2 (fun F2 nu2 w2 a2 hd2 st3 hf2=>?_)
       obtain⟨y,w3,hend,st4,hR⟩:=qk7 (P:=P) st3.inv (st3.n _ _ hb1) he
       have stAll:=((st1.trans st2).trans st3).trans st4
       cases x2<;>exact⟨y,w3,hend,y,F2,nu2,rfl,stAll,hR⟩
     ·cases he
    |exit k=>cases he
    |ret=>cases he
  ·cases he
 ·cases he
end
end Go.Av
