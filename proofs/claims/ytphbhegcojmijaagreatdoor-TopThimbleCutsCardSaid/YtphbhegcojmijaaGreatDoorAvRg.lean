/-
  Loops over functions: rounds and the loop, with their blocks.
-/
import Derived.Test.YtphbhegcojmijaaGreatDoorAvMp
noncomputable section
namespace Go.Av
set_option linter.unusedSectionVars false
open Go.RowKit
variable [Glob]
def qmb [Base] (b:Nat) (v:AV) (A':Heap) (x:XA) (s:St):Prop:= ∃v0 A0,qj0 b (some (x,s))=some (v0,A0)∧qdx v0 A0 v A'
theorem Goes.round {P:Program} {b:Nat} {args:List AV} {A A':Heap} {v:AV} {m:Nat} {l0 l:List (Nat×AV)} {st0:LoopState} {p0:Option Code} {ps:Array Tmp} {asg bd:Code} (hA:A[b]? =some (.loop st0 p0 (ofG m l0) ps asg bd)) (hlen:args.length=ps.size)
 (hl:maskF (l.map (·.1)) (setAll (ofG m l0) ps.toList args)=ofG m l)
 (h: ∀[Base],Base.A=A→Goes P asg (ofG m l,A) (andThen (fun s=> ∃p1 f1 ps1 as1 bd1,s.2[b]? =some (.loop .ready p1 f1 ps1 as1 bd1)∧Goes P bd (s.1,s.2.set b (.loop .busy p1 f1 ps1 as1 bd1)) (qmb b v A')) (fun _ _=>False))):qf P (.rd b) args A v A':=by
 intro F nu w vs rb i hargs hb
 obtain⟨hnF,fn0,tmps0,dd0,hheap,hfr⟩:=i.blk _ _ _ hb hA
 letI B:Base:=⟨nu,A,i.fresh,some b,some rb,hb⟩
 have h:=h rfl
 have hsz:vs.size=ps.size:=by rw[hargs.1,hlen]
 have hy:=run_yield (P:=P) hheap (args:=vs) (by exact hsz)
 refine⟨_,_,_,_,hy,?_⟩
 refine roundIn_of_wpIn trivial ?_
 have hset:RF F nu w (setAll (ofG m l0) ps.toList args) ((ps.zip vs).foldl (fun tmps (t,a)=>tmps.setIfInBounds t a) tmps0):=by
  have h1:=RF.setAll (params:=ps.toList) hfr (args:=args) (vs:=vs.toList) (by simp[hargs.1]) (fun j a v ha hv=>hargs.2 j a v ha (by simpa using hv))
  have e:(ps.zip vs).foldl (fun tmps (t,a)=>tmps.setIfInBounds t a) tmps0=(ps.toList.zip vs.toList).foldl (fun tmps (p:Tmp×Value)=>tmps.setIfInBounds p.1 p.2) tmps0:=by
   rw[←Array.foldl_toList,Array.toList_zip]
  rw[e]
  exact h1
 have hset:=hset.maskF (l.map (·.1))
 rw[hl]at hset
 have hfz:Fence.wide.inRound rb=fz (some rb):=rfl
 rw[hfz]
 refine h F w 0 F nu _ w (.refl i) hset .nil _ (fun x s F1 nu1 a1 w1 q st1 hf1 hd1=>?_)
 cases x with
 |exit k=>exact q.elim
 |ret=>exact q.elim
 |normal=>
  obtain⟨p1,f1,ps1,as1,bd1,hA1,q⟩:=q
  have hb1:=st1.n _ _ hb
  obtain⟨hnF1,fn1,tmps1,dd1,hheap1,hfr1⟩:=st1.inv.blk _ _ _ hb1 hA1
  have hbeg:=run_beginRound (P:=P) hheap1 rfl
  have st2:=Stp.setLoop st1.inv (st:= .busy) (pend:=p1) (fr:=f1) (ps:=ps1) (asg:=as1) (body:=bd1) (r:={state:= .busy,pending:=p1,fn:=fn1,tmps:=tmps1,params:=ps1,assign:=as1,body:=bd1,defers:=dd1}) hb1 hA1 rfl hheap1 rfl hfr1
  refine⟨_,hbeg,?_⟩
  refine q F w 0 F1 nu1 _ _ (st1.trans st2) (hf1.mono (st2.ext st1.inv)) (hd1.step st2) _ (fun x2 s2 F2 nu2 a2 w2 q2 st3 hf2 hd2=>?_)
  obtain⟨v0,A0,he,hv⟩:=q2
  obtain⟨y,w3,hend,st4,hR⟩:=qk7 (P:=P) st3.inv (st3.n _ _ hb) he
  obtain⟨F4,nu4,k1,k2⟩:=hv.use (st3.trans st4) hR
  cases x2<;>exact⟨y,w3,hend,y,F4,nu4,rfl,k1,k2⟩
theorem Goes.range [Base] {P:Program} (hm:P.follows .mixedOrders=true) (hb:Base.rd=none) {g:Operand} {ps:Array Tmp} {asg bd:Code} {s s':St} {gf:FuncId} {first captured:List AV} {v:AV} {A2:Heap} {x:XA} {Q:XA→St→Prop} (hg:zZ s.1 g= .func (.func gf) first captured) (he:qfU P gf=true)
 (hc:qf P (.fn gf) (first++[.yld s.2.length]++captured) (s.2++[.loop .ready none s.1 ps asg bd]) v A2) (hx:endA s.2.length s.1 A2=some (x,s')) (hq:Q x s'):Goes P (.rangeFunc g ps asg bd) s Q:=by
 refine Goes.eval (N:=0) hm (qcE hc) ?_ hq
 simp only[zk,hb,rdOK,hg,he,qcK]
 exact hx
def _root_.Go.Code.x1:Code→Code
 | .seq a _=>a
 | .cond _ a _=>a
 | .block _ c=>c
 | .loop c=>c
 | .scope c=>c
 | .rangeFunc _ _ a _=>a
 |c=>c
def _root_.Go.Code.x2:Code→Code
 | .seq _ b=>b
 | .cond _ _ b=>b
 | .rangeFunc _ _ _ b=>b
 |c=>c
def _root_.Go.Code.xp:Code→Array Tmp
 | .rangeFunc _ ps _ _=>ps
 |_=>#[]
def lpS (z:Bool):LoopState:=match z with
 |true=> .ready
 |false=> .done
def lpP (z:Bool) (J:Code):Option Code:=match z with
 |true=>none
 |false=>some J
theorem qiF {P:Program} {g:FuncId} {args:List AV} {A:Heap} {S:List Nat} {v:AV} {A':Heap} (h:(Obl.callH (.fn g) args A S v A').Holds P):qf P (.fn g) args A v A':=by
 have:=h.2.2 A rfl (fun _ _=>rfl)
 rwa [h.2.1]at this
def qjw {α:Type} (b:Nat) (c:Int) (z:α):Option (List α):=
 if 0<c∧c≤140737488355328∧c*b≤140737488355328 then some (List.replicate c.toNat z)else none
theorem qm4 {α:Type} {P:Program} {E:Enc α} {k:Nat} {A:Heap} {t e ti:TypeId} {b:Nat} (T:SlT P t e k b) (hti:P.underlying ti=some (.int .i64)) (hk:E.k=k) {z:α} (hz:qdd P e=some (E.c z)) {A':Heap} {r:List α} {c:Int}
 (h:qjw b c z=some r) (hA:A'=A++[.cells (r.flatMap E.c)]):(Obl.run [] (qR P [t,ti] .nilslice (.int .i64 c)) A (.oslice A.length r.length k) A' false).Holds P:=by
 subst hk hA
 obtain⟨inf,z0,h1,h2,h3,h4,h5⟩:=T.info
 unfold qjw at h
 split at h
 ·rename_i hc
  obtain⟨c1,c2,c3⟩:=hc
  obtain rfl:=Option.some.inj h
  have hz':cellsOf (qav 3 z0)=some (E.c z):=by
   unfold qdd at hz
   rw[h1]at hz
   simp only[h4]at hz
   exact hz
  have e1:z0.cells.size=inf.size∧0<inf.size:=⟨by rw[h5,h2],by rw[h2];exact E.pos⟩
  have e2:(E.c z).all yx=true:=by have:=E.flat_cell [z];simpa using this
  have e3:0≤c∧c≤140737488355328∧c*inf.bytes≤140737488355328∧(E.c z).all yx=true:=⟨by omega,c2,by rw[h3];exact c3,e2⟩
  refine⟨[],?_,rfl⟩
  simp only[qR,T.und,hti,h1,h4]
  rw[if_pos e1]
  simp only[hz']
  rw[if_pos e3,h2,qer]
  have e4: ¬(c.toNat=0):=by omega
  have e5:c.toNat*inf.bytes≤140737488355328∧c.toNat≤140737488355328:=by
   rw[h3]
   refine⟨?_,by omega⟩
   have:((c.toNat*b:Nat):Int)=c*b:=by rw[Int.natCast_mul,Int.toNat_of_nonneg (by omega)]
   omega
  simp only[vP]
  rw[if_neg e4,if_pos e5,qc7,qbM]
  simp
 ·cases h
end Go.Av
