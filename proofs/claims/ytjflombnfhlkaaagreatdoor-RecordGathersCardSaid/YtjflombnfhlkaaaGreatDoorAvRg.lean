/-
  Loops over functions: rounds and the loop, with their blocks.
-/
import Derived.Test.YtjflombnfhlkaaaGreatDoorAvMp
noncomputable section
namespace Go.Av
set_option linter.unusedSectionVars false
open Go.RowKit
variable [Glob]
def qnq [Base] (b:Nat) (v:AV) (A':Heap) (x:XA) (s:St):Prop:= ∃v0 A0,qj3 b (some (x,s))=some (v0,A0)∧qc0 v0 A0 v A'
theorem Goes.round {P:Program} {b:Nat} {args:List AV} {A A':Heap} {v:AV} {m:Nat} {l0 l:List (Nat×AV)} {st0:LoopState} {p0:Option Code} {ps:Array Tmp} {asg bd:Code} (hA:A[b]? =some (.loop st0 p0 (ofG m l0) ps asg bd)) (hlen:args.length=ps.size)
 (hl:maskF (l.map (·.1)) (setAll (ofG m l0) ps.toList args)=ofG m l)
 (h: ∀[Base],Base.A=A→Goes P asg (ofG m l,A) (andThen (fun s=> ∃p1 f1 ps1 as1 bd1,s.2[b]? =some (.loop .ready p1 f1 ps1 as1 bd1)∧Goes P bd (s.1,s.2.set b (.loop .busy p1 f1 ps1 as1 bd1)) (qnq b v A')) (fun _ _=>False))):qf P (.rd b) args A v A':=by
 intro F nu w vs rb i hargs hb
 obtain⟨hnF,fn0,tmps0,dd0,hheap,hfr⟩:=i.blk _ _ _ hb hA
 letI B:Base:=⟨nu,A,i.fresh,some b,some rb,hb⟩
 have h:=h rfl
 have hsz:vs.size=ps.size:=by rw[hargs.1,hlen]
 have hy:=run_yield (P:=P) hheap (args:=vs) (by exact hsz)
 refine⟨_,_,_,_,hy,?_⟩
 refine roundIn_of_wpIn trivial ?_
 have hset:RF F nu w (setAll (ofG m l0) ps.toList args) ((ps.zip vs).foldl (fun tmps (t,a)=>tmps.setIfInBounds t a) tmps0):=by
  have h1:=RF.setAll (params:=ps.toList) hfr (args:=args) (vs:=vs.toList) (by simp[hargs.1]) (fun j a v ha hv=>hargs.2 j a v ha (by simpa using hv))
  have e:(ps.zip vs).foldl (fun tmps (t,a)=>tmps.setIfInBounds t a) tmps0=(ps.toList.zip vs.toList).foldl (fun tmps (p:Tmp×Value)=>tmps.setIfInBounds p.1 p.2) tmps0:=by
   rw[←Array.foldl_toList,Array.toList_zip]
  rw[e]
  exact h1
 have hset:=hset.maskF (l.map (·.1))
 rw[hl]at hset
 have hfz:Fence.wide.inRound rb=fz (some rb):=rfl
 rw[hfz]
 refine h F w 0 F nu _ w (.refl i) hset .nil _ (fun x s F1 nu1 a1 w1 q st1 hf1 hd1=>?_)
 cases x with
 |exit k=>exact q.elim
 |ret=>exact q.elim
 |normal=>
  obtain⟨p1,f1,ps1,as1,bd1,hA1,q⟩:=q
  have hb1:=st1.n _ _ hb
  obtain⟨hnF1,fn1,tmps1,dd1,hheap1,hfr1⟩:=st1.inv.blk _ _ _ hb1 hA1
  have hbeg:=run_beginRound (P:=P) hheap1 rfl
  have st2:=Stp.setLoop st1.inv (st:= .busy) (pend:=p1) (fr:=f1) (ps:=ps1) (asg:=as1) (body:=bd1) (r:={state:= .busy,pending:=p1,fn:=fn1,tmps:=tmps1,params:=ps1,assign:=as1,body:=bd1,defers:=dd1}) hb1 hA1 rfl hheap1 rfl hfr1
  refine⟨_,hbeg,?_⟩
  refine q F w 0 F1 nu1 _ _ (st1.trans st2) (hf1.mono (st2.ext st1.inv)) (hd1.step st2) _ (fun x2 s2 F2 nu2 a2 w2 q2 st3 hf2 hd2=>?_)
  obtain⟨v0,A0,he,hv⟩:=q2
  obtain⟨y,w3,hend,st4,hR⟩:=qk7 (P:=P) st3.inv (st3.n _ _ hb) he
  obtain⟨F4,nu4,k1,k2⟩:=hv.use (st3.trans st4) hR
  cases x2<;>exact⟨y,w3,hend,y,F4,nu4,rfl,k1,k2⟩
theorem Goes.range [Base] {P:Program} (hm:P.follows .mixedOrders=true) (hb:Base.rd=none) {g:Operand} {ps:Array Tmp} {asg bd:Code} {s s':St} {gf:FuncId} {first captured:List AV} {v:AV} {A2:Heap} {x:XA} {Q:XA→St→Prop} (hg:jv s.1 g= .func (.func gf) first captured) (he:qgm P gf=true)
 (hc:qf P (.fn gf) (first++[.yld s.2.length]++captured) (s.2++[.loop .ready none s.1 ps asg bd]) v A2) (hx:endA s.2.length s.1 A2=some (x,s')) (hq:Q x s'):Goes P (.rangeFunc g ps asg bd) s Q:=by
 refine Goes.eval (N:=0) hm (qcF hc) ?_ hq
 simp only[zD,hb,rdOK,hg,he,qcy]
 exact hx
def _root_.Go.Code.x1:Code→Code
 | .seq a _=>a
 | .cond _ a _=>a
 | .block _ c=>c
 | .loop c=>c
 | .scope c=>c
 | .rangeFunc _ _ a _=>a
 |c=>c
def _root_.Go.Code.x2:Code→Code
 | .seq _ b=>b
 | .cond _ _ b=>b
 | .rangeFunc _ _ _ b=>b
 |c=>c
def _root_.Go.Code.xp:Code→Array Tmp
 | .rangeFunc _ ps _ _=>ps
 |_=>#[]
def lpS (z:Bool):LoopState:=match z with
 |true=> .ready
 |false=> .done
def lpP (z:Bool) (J:Code):Option Code:=match z with
 |true=>none
 |false=>some J
def appz0 {α:Type} (b:Nat) (c:Int) (z:α):Option (List α):=
 if 0<c∧c≤140737488355328∧c*b≤140737488355328 then some (List.replicate c.toNat z)else none
end Go.Av
