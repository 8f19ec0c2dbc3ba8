/-
  The evaluator, and that it tells what the machine does: code, ranges over functions, rounds, functions, calls.
-/
import Derived.Test.YtjflombnfhlkaaaGreatDoorAvEval
import Derived.Test.YtjflombnfhlkaaaGreatDoorAvDrawC
import Derived.RangeFuncRecord
noncomputable section
namespace Go.Av
set_option linter.unusedSectionVars false
variable [Glob]
open Go.RowKit
def qbv (P:Program) (call:zM) (ops:Array Oper) (draw:Bool) (s:St):Option St:=
 if draw then qbG P call ops s.1 s.2 else qb0 P call ops ops.toList s.1 s.2
def rdOK (rd:Option Nat) (A:Heap):Bool:=
 match rd with
 |none=>true
 |some b=>match A[b]? with
  |some (.loop ..)=>true
  |_=>false
def endA (b:Nat) (fr:Fr) (A:Heap):Option (XA×St):=
 match A[b]? with
 |some (.loop st pend fr2 ps2 asg2 body2)=>
  if st= .busy then none else
  match pend with
  |none=>some (.normal,fr,A.set b (.loop .exhausted pend fr2 ps2 asg2 body2))
  |some .ret=>some (.ret,fr,A.set b (.loop .exhausted pend fr2 ps2 asg2 body2))
  |some (.exit id)=>some (.exit id,fr,A.set b (.loop .exhausted pend fr2 ps2 asg2 body2))
  |_=>none
 |_=>none
section
variable (P:Program) (call:zM) (N:Nat) (rd:Option Nat)
def zD:Code→St→Option (XA×St)
 | .skip,s=>some (.normal,s)
 | .label _,s=>some (.normal,s)
 | .region _ ops draw,s=>(qbv P call ops draw s).map fun r=>(.normal,r)
 | .seq a b,s=>match zD a s with
   |some (.normal,s')=>zD b s'
   |r=>r
 | .cond c a b,s=>match jv s.1 c with
   | .bool true=>zD a s
   | .bool false=>zD b s
   |_=>none
 | .block id b,s=>match zD b s with
   |some (.exit k,s')=>if k=id then some (.normal,s')else some (.exit k,s')
   |r=>r
 | .loop b,s=>qea N (zD b) s
 | .exit id,s=>some (.exit id,s)
 | .scope b,s=>zD b s
 | .ret,s=>some (.ret,s)
 | .rangeFunc g ps asg body,s=>
   match rdOK rd s.2,jv s.1 g with
   |true,.func (.func gf) first captured=>
    if !qgm P gf then none else
    match call (.fn gf) (first++[.yld s.2.length]++captured) (s.2++[.loop .ready none s.1 ps asg body])with
    |some (_,A2)=>endA s.2.length s.1 A2
    |none=>none
   |_,_=>none
 |_,_=>none
def setAll (fr:Fr) (ps:List Tmp) (args:List AV):Fr:=(ps.zip args).foldl (fun fr p=>fr.set p.1 p.2) fr
def qeD:XA→Option Code
 | .normal=>none
 | .exit id=>some (.exit id)
 | .ret=>some .ret
end
section
variable (P:Program) (call:zM) (N:Nat)
def qj3 (b:Nat) (r:Option (XA×St)):Option (AV×Heap):=
 match r with
 |some (x,_,A2)=>match A2[b]? with
  |some (.loop _ _ f2 ps2 as2 bd2)=>some (.bool (qeD x).isNone,A2.set b (.loop (if(qeD x).isNone then .ready else .done) (qeD x) f2 ps2 as2 bd2))
  |_=>none
 |none=>none
def qiO (b:Nat) (args:List AV) (A:Heap):Option (AV×Heap):=
 match A[b]? with
 |some (.loop _ _ fr ps asg bd)=>
  if args.length=ps.size then
   match zD P call N (some b) asg (setAll fr ps.toList args,A)with
   |some (.normal,fr1,A1)=>match A1[b]? with
    |some (.loop .ready p1 f1 ps1 as1 bd1)=>qj3 b (zD P call N (some b) bd (fr1,A1.set b (.loop .busy p1 f1 ps1 as1 bd1)))
    |_=>none
   |_=>none
  else none
 |_=>none
def qd8:List AV→Nat→Tr→Tr
 |[],_,t=>t
 |a::as,k,t=>qd8 as (k+1) (t.set k a)
def frOf (n:Nat) (args:List AV):Fr:= .tree (args.length+(n-args.length)) (qd8 args 0 (Tr.full (Tr.deep n)))
def qjD (f:FuncId) (args:List AV) (A:Heap):Option (AV×Heap):=
 match P.funcs[f]? with
 |some fn=>
  if fn.name== "runtime.NumGoroutine" then none else
  match fn.body with
  |some c=>
   match zD P call N none c (frOf fn.ntmps args,A)with
   |some (.exit _,_)=>none
   |some (_,fr,A')=>(jB P fr A' fn.results.toList).map fun vs=>(qex vs,A')
   |none=>none
  |none=>none
 |none=>none
def qib (c:Cl) (args:List AV) (A:Heap):Option (AV×Heap):=
 match c with
 | .fn f=>qjD P call N f args A
 | .rd b=>qiO P call N b args A
 | .mt _ _=>none
end
def callX (P:Program) (N:Nat) (pre:zM):Nat→zM
 |0=>pre
 |d+1=>fun f args A=>match pre f args A with
  |some r=>some r
  |none=>qib P (callX P N pre d) N f args A
def qgT:XA→Exit
 | .normal=> .normal
 | .exit id=> .exit id
 | .ret=> .ret
structure Dfr (base:Nat) (F:Nat→Prop) (nu:Nat→Option Nat) (A:Heap) (w:World) (ds:List Deferred):Prop where
 each: ∀d∈ds,∃r,d.target= .collected r∧base≤r∧w.heap[r]? =some (.deferred (some []))∧ ¬qa9 nu A r∧ ¬F r
 apart:ds.Pairwise fun d e=>d.target≠e.target
def qky (rd rr:Option Nat) (nu:Nat→Option Nat):Prop:=
 match rd,rr with
 |none,none=>True
 |some b,some rb=>nu b=some rb
 |_,_=>False
section
variable {P:Program} {call:zM} {N:Nat}
section
variable {F F':Nat→Prop} {nu nu':Nat→Option Nat} {A A':Heap} {w w':World} {base:Nat}
theorem Dfr.nil:Dfr base F nu A w []:=⟨by simp,.nil⟩
theorem Dfr.step {ds:List Deferred} (h:Dfr base F nu A w ds) (st:Stp F nu A w F' nu' A' w'):Dfr base F' nu' A' w' ds:=by
 refine⟨fun d hd=>?_,h.apart⟩
 obtain⟨r,h1,h2,h3,h4,h5⟩:=h.each d hd
 have hlt:r<w.heap.size:=(Array.getElem?_eq_some_iff.1 h3).1
 refine⟨r,h1,h2,(st.keep r hlt h4).trans h3,fun hO=>h4 (st.own r hlt hO),fun hF=>?_⟩
 rcases st.newF r hF with h|h|h
 ·exact h5 h
 ·omega
 ·exact h4 h
theorem qky.step {rd rr:Option Nat} (h:qky rd rr nu) (st:Stp F nu A w F' nu' A' w'):qky rd rr nu':=by
 cases rd<;>cases rr<;>simp only[qky]at h⊢
 exact st.n _ _ h
theorem RF.setAll {params:List Tmp}: ∀{fr:Fr} {tmps:Array Value} {args:List AV} {vs:List Value},RF F nu w fr tmps→args.length=vs.length→(∀(i:Nat) (a:AV) (v:Value),args[i]? =some a→vs[i]? =some v→R F nu w a v)→
 RF F nu w (setAll fr params args) ((params.zip vs).foldl (fun tmps (p:Tmp×Value)=>tmps.setIfInBounds p.1 p.2) tmps):=by
 induction params with
 |nil=>intro fr tmps args vs h _ _;simpa[Go.Av.setAll]using h
 |cons p params ih=>
  intro fr tmps args vs h hl hR
  cases args with
  |nil=>
   cases vs with
   |nil=>simpa[Go.Av.setAll]using h
   |cons v vs=>simp at hl
  |cons a args=>
   cases vs with
   |nil=>simp at hl
   |cons v vs=>
    have h1:=h.setDst (a:=⟨tmps,[]⟩) (some p) (hR 0 a v rfl rfl)
    exact ih (fr:=fr.set p a) (tmps:=tmps.setIfInBounds p v) h1 (by simpa using hl) (fun i a v ha hv=>hR (i+1) a v (by simpa using ha) (by simpa using hv))
theorem qh3: ∀(as:List AV) (k:Nat) (t:Tr) (j:Nat),(j<k∨k+as.length≤j→(qd8 as k t).get j=t.get j)∧(k≤j→ ∀a,as[j-k]? =some a→(qd8 as k t).get j=a∨(qd8 as k t).get j= .undef):=by
 intro as
 induction as with
 |nil=>intro k t j;exact⟨fun _=>rfl,fun _ a h=>by simp at h⟩
 |cons a as ih=>
  intro k t j
  obtain⟨h1,h2⟩:=ih (k+1) (t.set k a) j
  simp only[qd8]
  refine⟨fun h=>?_,fun h b hb=>?_⟩
  ·have hj:j<k∨k+(as.length+1)≤j:=by simpa using h
   rw[h1 (by omega)]
   exact Tr.get_set_other _ _ _ _ (by omega)
  ·rcases Nat.lt_or_ge k j with hk|hk
   ·have e:j-k=(j-(k+1))+1:=by omega
    rw[e]at hb
    exact h2 (by omega) b (by simpa using hb)
   ·have e:j=k:=by omega
    subst e
    rw[Nat.sub_self]at hb
    simp only[List.getElem?_cons_zero,Option.some.injEq]at hb
    subst hb
    rw[h1 (.inl (by omega))]
    exact Tr.get_set_same _ _ _
theorem RF.frOf {args:List AV} {vs:Array Value} (n:Nat) (h:RL F nu w args vs):RF F nu w (frOf n args) (vs++Array.replicate (n-vs.size) undef):=by
 have hs:=h.1
 refine⟨by simp[Go.Av.frOf,Fr.n,hs],fun t v hv=>?_,fun t ht=>?_⟩
 ·have hg:=qh3 args 0 (Tr.full (Tr.deep n)) t
  rcases Nat.lt_or_ge t args.length with hlt|hge
  ·rw[Array.getElem?_append_left (by omega)]at hv
   rcases hg.2 (Nat.zero_le _) args[t] (by simp[hlt])with e|e
   ·show R F nu w ((qd8 args 0 (Tr.full (Tr.deep n))).get t) v
    rw[e]
    exact h.2 t _ v (List.getElem?_eq_getElem hlt) hv
   ·show R F nu w ((qd8 args 0 (Tr.full (Tr.deep n))).get t) v
    rw[e];exact .undef v
  ·show R F nu w ((qd8 args 0 (Tr.full (Tr.deep n))).get t) v
   rw[hg.1 (by omega),Tr.get_full]
   exact .undef v
 ·have hge:args.length≤t:=by simp only[Go.Av.frOf,Fr.n]at ht;omega
  show(qd8 args 0 (Tr.full (Tr.deep n))).get t= .undef
  rw[(qh3 args 0 (Tr.full (Tr.deep n)) t).1 (by omega),Tr.get_full]
theorem qm4 (i:Inv F nu A w) {fr:Fr} {tmps:Array Value} (h:RF F nu w fr tmps) (fn:FuncId) (dd:Nat) (ps:Array Tmp) (asg body:Code): ∃w2 nu2,
 w.alloc (.loop {state:= .ready,pending:=none,fn:=fn,tmps:=tmps,params:=ps,assign:=asg,body:=body,defers:=dd})=w2∧Stp F nu A w F nu2 (A++[.loop .ready none fr ps asg body]) w2∧nu2 A.length=some w.heap.size:=by
 have x1: ∀o,Ext F nu w F (upd nu A.length w.heap.size) (w.alloc o):=fun o=>
  ⟨fun _ h=>h,qgh i _,fun rb h=>Go.heap_alloc_old w o rb (i.ltF rb h),fun rb s hs=>qbY o rb s hs⟩
 exact⟨_,_,rfl,Stp.alloc i _ _ ⟨fun h=>absurd (i.ltF _ h) (by omega),fn,tmps,dd,Go.heap_alloc_new w _,h.mono (x1 _)⟩,upd_same _ _⟩
theorem run_enterLoop_inner {l:Nat} {r:Loop} (h:w.heap[l]? =some (.loop r)) (fn:FuncId) (tmps:Array Value) (ps:Array Tmp) (assign body:Code):
 (Instr.enterLoop fn tmps ps assign body (some l)).run P w=
  .ok (w.heap.size,[]) (w.alloc (.loop {state:= .ready,pending:=none,fn,tmps,params:=ps,assign,body,defers:=r.defers})):=by
 unfold Instr.enterLoop
 simp only[Sem.run_bind,run_getLoop h,run_newObj_alloc,Result.andThen,Sem.run_pure]
end
theorem qhy {a:Act} {g:Operand} {l gf:Nat} {vf vc:Array Value} {w:World} (hz:a.eval g= .func (.func gf) vf vc):
 (resolve a.eval (rangeCall g l) 0).run P w= .ok ⟨.fn (.func gf) vc,vf++#[.func (.yield l) #[] #[]]⟩ w:=by
 have e:Array.map a.eval #[Operand.const (Value.func (Fn.yield l) #[] #[])]=#[.func (.yield l) #[] #[]]:=by simp[Act.eval]
 unfold resolve
 simp only[hz,Deferred.ofValue,e,Sem.run_pure]
theorem qiY {gf:FuncId} (hent:Enters P gf) (vs vc:Array Value) (w:World):(invoke (.fn (.func gf) vc) vs).run P w= .ok (.enter gf (vs++vc)) w:=by
 simp only[invoke]
 exact qcL hent _ _
theorem qol {F:Nat→Prop} {nu:Nat→Option Nat} {A2:Heap} {w:World} {b l:Nat} {fr:Fr} {x:XA} {fr':Fr} {A':Heap} (i:Inv F nu A2 w) (hb:nu b=some l) (he:endA b fr A2=some (x,fr',A')):
 fr'=fr∧ ∃pend w',(Instr.endLoop l).run P w= .ok pend w'∧Stp F nu A2 w F nu A' w'∧((pend=none∧x= .normal)∨(pend=some .ret∧x= .ret)∨ ∃id,pend=some (.exit id)∧x= .exit id):=by
 unfold endA at he
 split at he
 ·rename_i stt pend fr2 ps2 asg2 body2 hA2
  obtain⟨hnF,fn2,tmps2,dd2,hheap,hfr2⟩:=i.blk _ _ _ hb hA2
  split at he
  ·cases he
  ·rename_i hbusy
   have hend:=run_endLoop (P:=P) hheap hbusy
   have st4:=Stp.setLoop i (st:= .exhausted) (pend:=pend) (fr:=fr2) (ps:=ps2) (asg:=asg2) (body:=body2) (r:={state:= .exhausted,pending:=pend,fn:=fn2,tmps:=tmps2,params:=ps2,assign:=asg2,body:=body2,defers:=dd2}) hb hA2 rfl hheap rfl hfr2
   split at he
   ·simp only[Option.some.injEq,Prod.mk.injEq]at he
    obtain⟨rfl,rfl,rfl⟩:=he
    exact⟨rfl,_,_,hend,st4,.inl ⟨rfl,rfl⟩⟩
   ·simp only[Option.some.injEq,Prod.mk.injEq]at he
    obtain⟨rfl,rfl,rfl⟩:=he
    exact⟨rfl,_,_,hend,st4,.inr (.inl ⟨rfl,rfl⟩)⟩
   ·simp only[Option.some.injEq,Prod.mk.injEq]at he
    obtain⟨rfl,rfl,rfl⟩:=he
    exact⟨rfl,_,_,hend,st4,.inr (.inr ⟨_,rfl,rfl⟩)⟩
   ·cases he
 ·cases he
theorem qcc {FF:Fence} {n:Nat} {c:Code} {Q:Exit→Act→World→Prop} {a:Act} {w:World}
 (h:c.wpIn FF n P (Exit.then (fun a' w'=> ∀(b:Frame) (k:List Item) (cs:List Frame),b.roundOf=FF.round→FF.fn b.fn→FF.room (cs.length+1+n)→ ∃e a₂ w₂,Q e a₂ w₂∧ArrivesIn (Machine.fenced P FF) P (lone (b.atR a' (.code c:: .inLoop c::k)) cs w') b k cs e a₂ w₂) Q) a w)
 (b:Frame) (k:List Item) (cs:List Frame) (hro:b.roundOf=FF.round) (hb:FF.fn b.fn) (hr:FF.room (cs.length+1+n)): ∃e a₂ w₂,Q e a₂ w₂∧ArrivesIn (Machine.fenced P FF) P (lone (b.atR a (.code c:: .inLoop c::k)) cs w) b k cs e a₂ w₂:=by
 obtain⟨e,a₁,w₁,hq,harr⟩:=h b (.inLoop c::k) cs hro hb hr
 cases e with
 |normal=>
  obtain⟨e₂,a₂,w₂,hq₂,harr₂⟩:=hq b k cs hro hb hr
  exact⟨e₂,a₂,w₂,hq₂,.of_steps (StepsIn.trans harr (.one (fenced_calm hb hr rfl) stepR_inLoop)) harr₂⟩
 |exit id=>exact⟨_,a₁,w₁,hq,.pass (x:= .inLoop c) rfl (fun _ _=> .inl (by simp)) harr⟩
 |goto l=>exact⟨_,a₁,w₁,hq,.pass (x:= .inLoop c) rfl (fun _ _=> .inl (by simp)) harr⟩
 |ret=>exact⟨_,a₁,w₁,hq,.pass (x:= .inLoop c) rfl (fun _ _=> .inl (by simp)) harr⟩
 |panic ch=>exact⟨_,a₁,w₁,hq,.pass (x:= .inLoop c) rfl (fun _ _=> .inl (by simp)) harr⟩
 |outgrown=>exact⟨_,a₁,w₁,hq,.pass (x:= .inLoop c) rfl (fun _ _=> .inl (by simp)) harr⟩
theorem xY {b:Frame} {a:Act} {k:List Item} {cs:List Frame} {w:World} {c:Code}:step P (lone (b.atR a (.code (.scope c)::k)) cs w)= .next (lone (b.atR a (.code c:: .inScope c::k)) cs w):=
 step_lone_go (by simp[stepG,stepG.exec,Frame.atR])
theorem qgV {b:Frame} {a:Act} {k:List Item} {cs:List Frame} {w:World} {c:Code}:step P (lone (b.atR a (.inScope c::k)) cs w)= .next (lone (b.atR a k) cs w):=
 step_lone_go (by simp[stepG,stepG.exec,Frame.atR])
theorem qbn {FF:Fence} {n:Nat} {c:Code} {Q:Exit→Act→World→Prop} {a:Act} {w:World} (h:c.wpIn FF n P (Exit.noGoto Q) a w):(Code.scope c).wpIn FF n P Q a w:=by
 intro b k cs hro hb hr
 have h0:(lone (b.atR a (.code (.scope c)::k)) cs w).fenced P FF:=fenced_calm hb hr rfl
 obtain⟨e,a₁,w₁,hq,harr⟩:=h b (.inScope c::k) cs hro hb hr
 have hx: ∀id,exitTo id (.inScope c::k)=exitTo id k:=fun id=>by simp[exitTo]
 cases e with
 |normal=>exact⟨.normal,a₁,w₁,hq,.head h0 xY (StepsIn.trans harr (.one (fenced_calm hb hr rfl) qgV))⟩
 |exit id=>exact⟨.exit id,a₁,w₁,hq,fun k' hk=> .head h0 xY (harr.1 k' (by rw[hx];exact hk)),fun hr' hk=>let⟨k₁,h1,h2⟩:=harr.2 hr' (by rw[hx];exact hk);⟨k₁,h1,.head h0 xY h2⟩⟩
 |goto l=>exact hq.elim
 |ret=>exact⟨_,a₁,w₁,hq,.of_steps (.one h0 xY) harr⟩
 |panic ch=>exact⟨_,a₁,w₁,hq,.of_steps (.one h0 xY) harr⟩
 |outgrown=>exact⟨_,a₁,w₁,hq,.of_steps (.one h0 xY) harr⟩
set_option maxHeartbeats 4000000 in
theorem qdo (hc:zg P call) (hm:P.follows .mixedOrders=true) {rd rr:Option Nat} {n base:Nat}: ∀(c:Code) {F:Nat→Prop} {nu:Nat→Option Nat} {A:Heap} {w:World} (_:Inv F nu A w) {fr:Fr} {a:Act} (_:RF F nu w fr a.tmps)
 (_:qky rd rr nu) (_:Dfr base F nu A w a.defers) (_:base≤w.heap.size) {x:XA} {fr':Fr} {A':Heap}
 (_:zD P call N rd c (fr,A)=some (x,fr',A')) {Q:Exit→Act→World→Prop} (_: ∀F' nu' w' a',Dfr base F' nu' A' w' a'.defers→Stp F nu A w F' nu' A' w'→RF F' nu' w' fr' a'.tmps→Q (qgT x) a' w'),c.wpIn (fz rr) n P Q a w:=by
 intro c
 induction c with
 |skip=>
  intro F nu A w i fr a h hrd hdf hbase x fr' A' he Q hq
  simp only[zD,Option.some.injEq,Prod.mk.injEq]at he
  obtain⟨rfl,rfl,rfl⟩:=he
  exact wpIn_skip (hq F nu w a hdf (.refl i) h)
 |label l=>
  intro F nu A w i fr a h hrd hdf hbase x fr' A' he Q hq
  simp only[zD,Option.some.injEq,Prod.mk.injEq]at he
  obtain⟨rfl,rfl,rfl⟩:=he
  exact wpIn_label (hq F nu w a hdf (.refl i) h)
 |exit id=>
  intro F nu A w i fr a h hrd hdf hbase x fr' A' he Q hq
  simp only[zD,Option.some.injEq,Prod.mk.injEq]at he
  obtain⟨rfl,rfl,rfl⟩:=he
  exact wpIn_exit (hq F nu w a hdf (.refl i) h)
 |ret=>
  intro F nu A w i fr a h hrd hdf hbase x fr' A' he Q hq
  simp only[zD,Option.some.injEq,Prod.mk.injEq]at he
  obtain⟨rfl,rfl,rfl⟩:=he
  exact wpIn_ret (hq F nu w a hdf (.refl i) h)
 |region id ops draw=>
  intro F nu A w i fr a h hrd hdf hbase x fr' A' he Q hq
  simp only[zD,Option.map_eq_some_iff,Prod.mk.injEq]at he
  obtain⟨⟨fr1,A1⟩,hr,rfl,he⟩:=he
  simp only[Prod.mk.injEq]at he
  obtain⟨rfl,rfl⟩:=he
  unfold qbv at hr
  cases draw with
  |false=>
   simp only[Bool.false_eq_true,if_false]at hr
   rw[←qhx]at hr
   exact wpIn_region (qjY hc _ i h hr (fun F' nu' w' a' hd st hfr=>hq F' nu' w' a' (by rw[hd];exact hdf.step st) st hfr))
  |true=>
   simp only[if_true]at hr
   have sd:=Stp.drew (w:=w) i
   refine wpIn_region_any hm ?_
   exact qmY hc sd.inv (h.mono (sd.ext i)) hr (fun F' nu' w' a' hd hst hfr=>hq F' nu' w' a' (by rw[hd];exact hdf.step (sd.trans hst)) (sd.trans hst) hfr)
 |seq c1 c2 ih1 ih2=>
  intro F nu A w i fr a h hrd hdf hbase x fr' A' he Q hq
  simp only[zD]at he
  refine wpIn_seq ?_
  cases h1:zD P call N rd c1 (fr,A)with
  |none=>simp[h1]at he
  |some r=>
   obtain⟨x1,fr1,A1⟩:=r
   rw[h1]at he
   cases x1 with
   |normal=>
    refine ih1 i h hrd hdf hbase h1 (fun F1 nu1 w1 a1 hd1 st1 hf1=>?_)
    exact ih2 st1.inv hf1 (hrd.step st1) hd1 (Nat.le_trans hbase st1.size) he (fun F2 nu2 w2 a2 hd2 st2 hf2=>hq F2 nu2 w2 a2 hd2 (st1.trans st2) hf2)
   |exit k=>
    simp only[Option.some.injEq,Prod.mk.injEq]at he
    obtain⟨rfl,rfl,rfl⟩:=he
    exact ih1 i h hrd hdf hbase h1 hq
   |ret=>
    simp only[Option.some.injEq,Prod.mk.injEq]at he
    obtain⟨rfl,rfl,rfl⟩:=he
    exact ih1 i h hrd hdf hbase h1 hq
 |cond c c1 c2 ih1 ih2=>
  intro F nu A w i fr a h hrd hdf hbase x fr' A' he Q hq
  simp only[zD]at he
  have hv:=h.eval i.glob c
  cases hcv:jv fr c with
  |bool b=>
   rw[hcv]at he hv
   have hb:a.eval c= .bool b:=by
    generalize a.eval c=z at hv
    cases hv
    rfl
   cases b with
   |true=>exact wpIn_cond_true hb (ih1 i h hrd hdf hbase he hq)
   |false=>exact wpIn_cond_false hb (ih2 i h hrd hdf hbase he hq)
  |_=>simp[hcv]at he
 |block id c ih=>
  intro F nu A w i fr a h hrd hdf hbase x fr' A' he Q hq
  simp only[zD]at he
  refine wpIn_block ?_
  cases h1:zD P call N rd c (fr,A)with
  |none=>simp[h1]at he
  |some r=>
   obtain⟨x1,fr1,A1⟩:=r
   rw[h1]at he
   cases x1 with
   |normal=>
    simp only[Option.some.injEq,Prod.mk.injEq]at he
    obtain⟨rfl,rfl,rfl⟩:=he
    exact ih i h hrd hdf hbase h1 hq
   |ret=>
    simp only[Option.some.injEq,Prod.mk.injEq]at he
    obtain⟨rfl,rfl,rfl⟩:=he
    exact ih i h hrd hdf hbase h1 hq
   |exit k=>
    simp only at he
    refine ih i h hrd hdf hbase h1 (fun F1 nu1 w1 a1 hd1 st1 hf1=>?_)
    simp only[qgT,Exit.inBlock]
    split at he
    ·rename_i e
     simp only[Option.some.injEq,Prod.mk.injEq]at he
     obtain⟨rfl,rfl,rfl⟩:=he
     rw[if_pos e]
     exact hq F1 nu1 w1 a1 hd1 st1 hf1
    ·rename_i e
     simp only[Option.some.injEq,Prod.mk.injEq]at he
     obtain⟨rfl,rfl,rfl⟩:=he
     rw[if_neg e]
     exact hq F1 nu1 w1 a1 hd1 st1 hf1
 |loop c ih=>
  intro F nu A w i fr a h hrd hdf hbase x fr' A' he Q hq
  simp only[zD]at he
  have key: ∀(m:Nat) {F:Nat→Prop} {nu:Nat→Option Nat} {A:Heap} {w:World} (_:Inv F nu A w) {fr:Fr} {a:Act} (_:RF F nu w fr a.tmps) (_:qky rd rr nu) (_:Dfr base F nu A w a.defers) (_:base≤w.heap.size)
   (_:qea m (zD P call N rd c) (fr,A)=some (x,fr',A'))
   (_: ∀F' nu' w' a',Dfr base F' nu' A' w' a'.defers→Stp F nu A w F' nu' A' w'→RF F' nu' w' fr' a'.tmps→Q (qgT x) a' w') (b:Frame) (k:List Item) (cs:List Frame),b.roundOf=(fz rr).round→(fz rr).fn b.fn→(fz rr).room (cs.length+1+n)→
   ∃e a₂ w₂,Q e a₂ w₂∧ArrivesIn (Machine.fenced P (fz rr)) P (lone (b.atR a (.code c:: .inLoop c::k)) cs w) b k cs e a₂ w₂:=by
   intro m
   induction m with
   |zero=>intro F nu A w i fr a h hrd hdf hbase he;simp[qea]at he
   |succ m ihm=>
    intro F nu A w i fr a h hrd hdf hbase he hq b k cs hro hb hr
    simp only[qea]at he
    refine qcc ?_ b k cs hro hb hr
    cases h1:zD P call N rd c (fr,A)with
    |none=>simp[h1]at he
    |some r=>
     obtain⟨x1,fr1,A1⟩:=r
     rw[h1]at he
     cases x1 with
     |normal=>
      refine ih i h hrd hdf hbase h1 (fun F1 nu1 w1 a1 hd1 st1 hf1=>?_)
      exact ihm st1.inv hf1 (hrd.step st1) hd1 (Nat.le_trans hbase st1.size) he (fun F2 nu2 w2 a2 hd2 st2 hf2=>hq F2 nu2 w2 a2 hd2 (st1.trans st2) hf2)
     |exit k=>
      simp only[Option.some.injEq,Prod.mk.injEq]at he
      obtain⟨rfl,rfl,rfl⟩:=he
      exact ih i h hrd hdf hbase h1 hq
     |ret=>
      simp only[Option.some.injEq,Prod.mk.injEq]at he
      obtain⟨rfl,rfl,rfl⟩:=he
      exact ih i h hrd hdf hbase h1 hq
  intro b k cs hro hb hr
  obtain⟨e,a₂,w₂,hq2,harr⟩:=key N i h hrd hdf hbase he hq b k cs hro hb hr
  exact⟨e,a₂,w₂,hq2,.of_steps (.one (fenced_calm hb hr rfl) stepR_loop) harr⟩
 |scope c ih=>
  intro F nu A w i fr a h hrd hdf hbase x fr' A' he Q hq
  simp only[zD]at he
  refine qbn (ih i h hrd hdf hbase he (fun F1 nu1 w1 a1 hd1 st1 hf1=>?_))
  have:=hq F1 nu1 w1 a1 hd1 st1 hf1
  cases x<;>exact this
 |rangeFunc g ps asg body=>
  intro F nu A w i fr a h hrd hdf hbase x fr' A' he Q hq
  simp only[zD]at he
  split at he
  ·rename_i gf first captured hok hg
   split at he
   ·cases he
   rename_i hentB
   have hent:Enters P gf:=enters_of (by simpa using hentB)
   split at he
   ·rename_i v A2 hcallA
    have hgv:=h.eval i.glob g
    rw[hg]at hgv
    generalize hz:a.eval g=z at hgv
    cases hgv with
    |func _ _ _ vf vc hl1 hl2 hR1 hR2=>
     have hok2:=hc _ _ _ _ _ hcallA
     have core: ∀(w1:World) (mark:List Deferred) (dd:Nat),Stp F nu A w F nu A w1→Dfr base F nu A w1 (mark++a.defers)→
      (∀fn,(Instr.enterLoop fn a.tmps ps asg body rr).run P w= .ok (w1.heap.size,mark) (w1.alloc (.loop {state:= .ready,pending:=none,fn:=fn,tmps:=a.tmps,params:=ps,assign:=asg,body:=body,defers:=dd})))→
      (Code.rangeFunc g ps asg body).wpIn (fz rr) n P Q a w:=by
      intro w1 mark dd st1 hdf1 henter
      refine wpIn_rangeFunc fun fn _=>?_
      have h1:=h.mono (st1.ext i)
      obtain⟨w2,nu2,hw2,st2,hb2⟩:=qm4 st1.inv h1 fn dd ps asg body
      have henter:=henter fn
      rw[hw2]at henter
      have st12:=st1.trans st2
      have hyld:RL F nu2 w2 [.yld A.length] #[.func (.yield w1.heap.size) #[] #[]]:=by
       refine⟨rfl,fun j b y hb hy=>?_⟩
       cases j with
       |zero=>simp at hb hy;subst hb;subst hy;exact .yld _ _ hb2
       |succ j=>simp at hb
      have hf1:RL F nu w first vf:=⟨hl1,hR1⟩
      have hf2:RL F nu w captured vc:=⟨hl2,hR2⟩
      have hargs:RL F nu2 w2 (first++[.yld A.length]++captured) (vf++#[.func (.yield w1.heap.size) #[] #[]]++vc):=
       ((hf1.mono (st12.ext i)).append hyld).append (hf2.mono (st12.ext i))
      have hinv:=qiY (w:=w2) hent (vf++#[.func (.yield w1.heap.size) #[] #[]]) vc
      have hres:=qhy (P:=P) (l:=w1.heap.size) (w:=w2) hz
      have hcall2:=hok2.calls hent st2.inv hargs
      refine⟨w1.heap.size,mark,w2,_,w2,gf,_,w2,henter,hres,fun _ _=>trivial,hinv,qhg _ _,?_⟩
      refine qjF (hcall2.mono ?_)
      rintro e w3 ⟨v3,F3,nu3,rfl,st3,_⟩
      have st:=st12.trans st3
      have hdf3:=(hdf1.step st2).step st3
      have hfr3:=h.mono (st.ext i)
      obtain⟨rfl,pend,w4,hend,st4,hcase⟩:=qol (P:=P) st3.inv (st3.n _ _ hb2) he
      have hdf4:=hdf3.step st4
      have hfr4:=hfr3.mono (st4.ext st3.inv)
      have stAll:=st.trans st4
      have fin:=hq _ _ _ {a with defers:=mark++a.defers} hdf4 stAll hfr4
      refine⟨pend,w4,hend,?_⟩
      rcases hcase with⟨rfl,rfl⟩|⟨rfl,rfl⟩|⟨id,rfl,rfl⟩
      ·exact fin
      ·exact wpIn_ret fin
      ·exact wpIn_exit fin
     cases rd with
     |none=>
      cases rr with
      |some r=>exact hrd.elim
      |none=>
       have sth:=Stp.hidden i (.deferred (some []))
       refine core (w.alloc (.deferred (some []))) [{target:= .collected w.heap.size,args:=#[]}] w.heap.size sth ⟨fun d hd=>?_,?_⟩ (fun fn=>?_)
       ·simp only[List.singleton_append,List.mem_cons]at hd
        rcases hd with rfl|hd
        ·refine⟨w.heap.size,rfl,hbase,Go.heap_alloc_new w _,?_,fun hF=>absurd (i.ltF _ hF) (by omega)⟩
         rintro⟨b,y,hb,_,_⟩
         have:=i.ltN b _ hb
         omega
        ·exact(hdf.step sth).each d hd
       ·simp only[List.singleton_append,List.pairwise_cons]
        refine⟨fun d hd e=>?_,hdf.apart⟩
        obtain⟨r,h1,_,h3,_⟩:=hdf.each d hd
        have hlt:r<w.heap.size:=(Array.getElem?_eq_some_iff.1 h3).1
        rw[h1]at e
        injection e with e
        omega
       ·have:=run_enterLoop_outer (P:=P) (w:=w) fn a.tmps ps asg body
        simpa using this
     |some b=>
      cases rr with
      |none=>exact hrd.elim
      |some r=>
       simp only[rdOK]at hok
       split at hok
       ·rename_i s0 p0 f0 ps0 as0 bd0 hA0
        obtain⟨_,fn0,tmps0,dd0,hheap,_⟩:=i.blk _ _ _ hrd hA0
        exact core w [] dd0 (.refl i) (by simpa using hdf) (fun fn=>run_enterLoop_inner hheap fn a.tmps ps asg body)
       ·cases hok
   ·cases he
  ·cases he
 |_=>intro F nu A w i fr a h hrd hdf hbase x fr' A' he;simp[zD]at he
end
end Go.Av
