/-
  The evaluator, and that it tells what the machine does: code, ranges over functions, rounds, functions, calls.
-/
import Derived.Test.YthgioiakbbhonaaGreatDoorAvEv
import Derived.Test.YthgioiakbbhonaaGreatDoorAvDr
import Derived.RangeFuncRecord
set_option linter.unusedSectionVars false
noncomputable section
namespace Go.Av
section
variable [Glob]
open Go.RowKit
def qeo (P:Program) (call:zP) (ops:Array Oper) (draw:Bool) (s:St):Option St:=
 if draw then qeR P call ops s.1 s.2 else qfb P call ops ops.toList s.1 s.2
def rdOK (rd:Option Nat) (A:Heap):Bool:=
 match rd with
 |none=>true
 |some b=>match A[b]? with
  |some (.loop ..)=>true
  |_=>false
def endA (b:Nat) (fr:Fr) (A:Heap):Option (XA×St):=
 match A[b]? with
 |some (.loop st pend fr2 ps2 asg2 body2)=>
  if st= .busy then none else
  match pend with
  |none=>some (.normal,fr,A.set b (.loop .exhausted pend fr2 ps2 asg2 body2))
  |some .ret=>some (.ret,fr,A.set b (.loop .exhausted pend fr2 ps2 asg2 body2))
  |some (.exit id)=>some (.exit id,fr,A.set b (.loop .exhausted pend fr2 ps2 asg2 body2))
  |_=>none
 |_=>none
section
variable (P:Program) (call:zP) (N:Nat) (rd:Option Nat)
def zC:Code->St->Option (XA×St)
 | .skip,s=>some (.normal,s)
 | .label _,s=>some (.normal,s)
 | .region _ ops draw,s=>(qeo P call ops draw s).map λr=>(.normal,r)
 | .seq a b,s=>match zC a s with
   |some (.normal,s')=>zC b s'
   |r=>r
 | .cond c a b,s=>match yJ s.1 c with
   | .bool true=>zC a s
   | .bool false=>zC b s
   |_=>none
 | .block id b,s=>match zC b s with
   |some (.exit k,s')=>if k=id then some (.normal,s')else some (.exit k,s')
   |r=>r
 | .loop b,s=>qfK N (zC b) s
 | .exit id,s=>some (.exit id,s)
 | .scope b,s=>zC b s
 | .ret,s=>some (.ret,s)
 | .rangeFunc g ps asg body,s=>
   match rdOK rd s.2,yJ s.1 g with
   |true,.func (.func gf) first captured=>
    if !qkk P gf then none else
    match call (.fn gf) (first++[.yld s.2.length]++captured) (s.2++[.loop .ready none s.1 ps asg body])with
    |some (_,A2)=>endA s.2.length s.1 A2
    |none=>none
   |_,_=>none
 |_,_=>none
def setAll (fr:Fr) (ps:List Tmp) (args:List AV):Fr:=(ps.zip args).foldl (λfr p=>fr.set p.1 p.2) fr
def qge:XA->Option Code
 | .normal=>none
 | .exit id=>some (.exit id)
 | .ret=>some .ret
end
section
variable (P:Program) (call:zP) (N:Nat)
def qn3 (b:Nat) (r:Option (XA×St)):Option (AV×Heap):=
 match r with
 |some (x,_,A2)=>match A2[b]? with
  |some (.loop _ _ f2 ps2 as2 bd2)=>some (.bool (qge x).isNone,A2.set b (.loop (if(qge x).isNone then .ready else .done) (qge x) f2 ps2 as2 bd2))
  |_=>none
 |none=>none
def qk0 (b:Nat) (args:List AV) (A:Heap):Option (AV×Heap):=
 match A[b]? with
 |some (.loop _ _ fr ps asg bd)=>
  if args.length=ps.size then
   match zC P call N (some b) asg (setAll fr ps.toList args,A)with
   |some (.normal,fr1,A1)=>match A1[b]? with
    |some (.loop .ready p1 f1 ps1 as1 bd1)=>qn3 b (zC P call N (some b) bd (fr1,A1.set b (.loop .busy p1 f1 ps1 as1 bd1)))
    |_=>none
   |_=>none
  else none
 |_=>none
def qfJ:List AV->Nat->Tr->Tr
 |[],_,t=>t
 |a::as,k,t=>qfJ as (k+1) (t.set k a)
def frOf (n:Nat) (args:List AV):Fr:= .tree (args.length+(n-args.length)) (qfJ args 0 (Uk (Ux n)))
def qlv (f:FuncId) (args:List AV) (A:Heap):Option (AV×Heap):=
 match P.funcs[f]? with
 |some fn=>
  if fn.name== "runtime.NumGoroutine" then none else
  match fn.body with
  |some c=>
   match zC P call N none c (frOf fn.ntmps args,A)with
   |some (.exit _,_)=>none
   |some (_,fr,A')=>(jJ P fr A' fn.results.toList).map λvs=>(qgP vs,A')
   |none=>none
  |none=>none
 |none=>none
def qmd (c:Cl) (args:List AV) (A:Heap):Option (AV×Heap):=
 match c with
 | .fn f=>qlv P call N f args A
 | .rd b=>qk0 P call N b args A
 | .mt _ _=>none
end
def qi3:XA->Exit
 | .normal=> .normal
 | .exit id=> .exit id
 | .ret=> .ret
structure Dfr (base:Nat) (F:Nat->Prop) (nu:Nat->Option Nat) (A:Heap) (w:World) (ds:List Deferred):Prop where
 each: ∀d∈ds,∃r,d.target= .collected r/\base<=r/\w.heap[r]? =some (.deferred (some []))/\ ¬qaO nu A w r/\ ¬F r
 apart:ds.Pairwise λd e=>d.target≠e.target
def qmt (rd rr:Option Nat) (nu:Nat->Option Nat):Prop:=
 match rd,rr with
 |none,none=>True
 |some b,some rb=>nu b=some rb
 |_,_=>False
section
variable {P:Program} {call:zP} {N:Nat}
section
variable {F F':Nat->Prop} {nu nu':Nat->Option Nat} {A A':Heap} {w w':World} {base:Nat}
theorem Dfr.nil:Dfr base F nu A w []:=⟨by simp,.nil⟩
theorem Dfr.step {ds:List Deferred} (h:Dfr base F nu A w ds) (st:Stp F nu A w F' nu' A' w'):Dfr base F' nu' A' w' ds:=by
 refine⟨λd hd=>?_,h.apart⟩;obtain⟨r,h1,h2,h3,h4,h5⟩:=h.each d hd;have hlt:r<w.heap.size:=(YB.1 h3).1;refine⟨r,h1,h2,(st.keep r hlt h4).trans h3,λhO=>h4 (st.own r hlt hO),λhF=>?_⟩;rcases st.newF r hF with h|h|h
 ·exact h5 h
 ·omega
 exact h4 h
theorem qmt.step {rd rr:Option Nat} (h:qmt rd rr nu) (st:Stp F nu A w F' nu' A' w'):qmt rd rr nu':=by
 cases rd<;>cases rr<;>simp only[qmt]at h⊢
 exact st.n _ _ h
theorem RF.setAll {params:List Tmp}: ∀{fr:Fr} {tmps:Array Value} {args:List AV} {vs:List Value},RF F nu w fr tmps->args.length=vs.length->(∀(i:Nat) (a:AV) (v:Value),args[i]? =some a->vs[i]? =some v->R F nu w a v)->
 RF F nu w (setAll fr params args) ((params.zip vs).foldl (λtmps (p:Tmp×Value)=>tmps.setIfInBounds p.1 p.2) tmps):=by
 induction params with
 |nil=>intro fr tmps args vs h _ _;simpa[Go.Av.setAll]using h
 |cons p params ih=>
  intro fr tmps args vs h hl hR
  cases args with
  |nil=>
   cases vs with
   |nil=>simpa[Go.Av.setAll]using h
   |cons v vs=>simp at hl
  |cons a args=>
   cases vs with
   |nil=>simp at hl
   |cons v vs=>
    have h1:=h.setDst (a:=⟨tmps,[]⟩) (some p) (hR 0 a v rfl rfl);exact ih (fr:=fr.set p a) (tmps:=tmps.setIfInBounds p v) h1 (by simpa using hl) (λi a v ha hv=>hR (i+1) a v (by simpa using ha) (by simpa using hv))
theorem qjI: ∀(as:List AV) (k:Nat) (t:Tr) (j:Nat),(j<k\/k+as.length<=j->(qfJ as k t).get j=t.get j)/\(k<=j-> ∀a,as[j-k]? =some a->(qfJ as k t).get j=a\/(qfJ as k t).get j= .undef):=by
 intro as
 induction as with
 |nil=>intro k t j;exact⟨λ_=>rfl,λ_ a h=>by simp at h⟩
 |cons a as ih=>
  intro k t j;obtain⟨h1,h2⟩:=ih (k+1) (t.set k a) j;simp only[qfJ];refine⟨λh=>?_,λh b hb=>?_⟩
  ·have hj:j<k\/k+(as.length+1)<=j:=by simpa using h
   rw[h1 (by omega)];exact Tr.get_set_other _ _ _ _ (by omega)
  rcases ak k j with hk|hk
  ·have e:j-k=(j-(k+1))+1:=by omega
   rw[e]at hb;exact h2 (by omega) b (by simpa using hb)
  have e:j=k:=by omega
  subst e;rw[bR]at hb;simp only[Yj,ZI]at hb;subst hb;rw[h1 (.inl (by omega))];exact Tr.get_set_same _ _ _
theorem RF.frOf {args:List AV} {vs:Array Value} (n:Nat) (h:RL F nu w args vs):RF F nu w (frOf n args) (vs++Array.replicate (n-vs.size) undef):=by
 have hs:=h.1;refine⟨by simp[Go.Av.frOf,Fr.n,hs],λt v hv=>?_,λt ht=>?_⟩
 ·have hg:=qjI args 0 (Uk (Ux n)) t;rcases ak t args.length with hlt|hge
  ·rw[YC (by omega)]at hv;rcases hg.2 (aF _) args[t] (by simp[hlt])with e|e
   ·show R F nu w ((qfJ args 0 (Uk (Ux n))).get t) v;rw[e];exact h.2 t _ v (Ya hlt) hv
   show R F nu w ((qfJ args 0 (Uk (Ux n))).get t) v;rw[e];exact .undef v
  show R F nu w ((qfJ args 0 (Uk (Ux n))).get t) v;rw[hg.1 (by omega),Tr.get_full];exact .undef v
 have hge:args.length<=t:=by simp only[Go.Av.frOf,Fr.n]at ht;omega
 show(qfJ args 0 (Uk (Ux n))).get t= .undef;rw[(qjI args 0 (Uk (Ux n)) t).1 (by omega),Tr.get_full]
theorem qoN (i:Inv F nu A w) {fr:Fr} {tmps:Array Value} (h:RF F nu w fr tmps) (fn:FuncId) (dd:Nat) (ps:Array Tmp) (asg body:Code): ∃w2 nu2,
 w.alloc (.loop {state:= .ready,pending:=none,fn:=fn,tmps:=tmps,params:=ps,assign:=asg,body:=body,defers:=dd})=w2/\Stp F nu A w F nu2 (A++[.loop .ready none fr ps asg body]) w2/\nu2 A.length=some w.heap.size:=by
 have x1: ∀o,Ext F nu w F (upd nu A.length w.heap.size) (w.alloc o):=λo=>
  ⟨λ_ h=>h,qdv i _,λrb h=>Go.heap_alloc_old w o rb (i.ltF rb h),λrb s hs=>qbF o rb s hs⟩
 exact⟨_,_,rfl,Stp.alloc i _ _ ⟨λh=>absurd (i.ltF _ h) (by omega),fn,tmps,dd,Go.heap_alloc_new w _,h.mono (x1 _)⟩,upd_same _ _⟩
theorem run_enterLoop_inner {l:Nat} {r:Loop} (h:w.heap[l]? =some (.loop r)) (fn:FuncId) (tmps:Array Value) (ps:Array Tmp) (assign body:Code):
 (Instr.enterLoop fn tmps ps assign body (some l)).run P w=
  .ok (w.heap.size,[]) (w.alloc (.loop {state:= .ready,pending:=none,fn,tmps,params:=ps,assign,body,defers:=r.defers})):=by
 unfold Instr.enterLoop;simp only[Sem.run_bind,run_getLoop h,run_newObj_alloc,Result.andThen,Sem.run_pure]
end
theorem qji {a:Act} {g:Operand} {l gf:Nat} {vf vc:Array Value} {w:World} (hz:a.eval g= .func (.func gf) vf vc):
 (resolve a.eval (rangeCall g l) 0).run P w= .ok ⟨.fn (.func gf) vc,vf++#[.func (.yield l) #[] #[]]⟩ w:=by
 have e:Array.map a.eval #[Operand.const (Value.func (Fn.yield l) #[] #[])]=#[.func (.yield l) #[] #[]]:=by simp[Act.eval]
 unfold resolve;simp only[hz,Deferred.ofValue,e,Sem.run_pure]
theorem qlk {gf:FuncId} (hent:Enters P gf) (vs vc:Array Value) (w:World):(invoke (.fn (.func gf) vc) vs).run P w= .ok (.enter gf (vs++vc)) w:=by
 simp only[invoke];exact qew hent _ _
theorem qqI {F:Nat->Prop} {nu:Nat->Option Nat} {A2:Heap} {w:World} {b l:Nat} {fr:Fr} {x:XA} {fr':Fr} {A':Heap} (i:Inv F nu A2 w) (hb:nu b=some l) (he:endA b fr A2=some (x,fr',A')):
 fr'=fr/\ ∃pend w',(Instr.endLoop l).run P w= .ok pend w'/\Stp F nu A2 w F nu A' w'/\((pend=none/\x= .normal)\/(pend=some .ret/\x= .ret)\/ ∃id,pend=some (.exit id)/\x= .exit id):=by
 unfold endA at he;split at he
 ·rename_i stt pend fr2 ps2 asg2 body2 hA2;obtain⟨hnF,fn2,tmps2,dd2,hheap,hfr2⟩:=i.blk _ _ _ hb hA2;split at he
  ·cases he
  rename_i hbusy;have hend:=run_endLoop (P:=P) hheap hbusy;have st4:=Stp.setLoop i (st:= .exhausted) (pend:=pend) (fr:=fr2) (ps:=ps2) (asg:=asg2) (body:=body2) (r:={state:= .exhausted,pending:=pend,fn:=fn2,tmps:=tmps2,params:=ps2,assign:=asg2,body:=body2,defers:=dd2}) hb hA2 rfl hheap rfl hfr2;split at he
  ·simp only[ZI,ZP]at he;obtain⟨rfl,rfl,rfl⟩:=he;exact⟨rfl,_,_,hend,st4,.inl ⟨rfl,rfl⟩⟩
  ·simp only[ZI,ZP]at he;obtain⟨rfl,rfl,rfl⟩:=he;exact⟨rfl,_,_,hend,st4,.inr (.inl ⟨rfl,rfl⟩)⟩
  ·simp only[ZI,ZP]at he;obtain⟨rfl,rfl,rfl⟩:=he;exact⟨rfl,_,_,hend,st4,.inr (.inr ⟨_,rfl,rfl⟩)⟩
  cases he
 cases he
theorem qd2 {FF:Fence} {n:Nat} {c:Code} {Q:Exit->Act->World->Prop} {a:Act} {w:World}
 (h:c.wpIn FF n P (Exit.then (λa' w'=> ∀(b:Frame) (k:List Item) (cs:List Frame),b.roundOf=FF.round->FF.fn b.fn->FF.room (cs.length+1+n)-> ∃e a₂ w₂,Q e a₂ w₂/\ArrivesIn (Machine.fenced P FF) P (lone (b.atR a' (.code c:: .inLoop c::k)) cs w') b k cs e a₂ w₂) Q) a w)
 (b:Frame) (k:List Item) (cs:List Frame) (hro:b.roundOf=FF.round) (hb:FF.fn b.fn) (hr:FF.room (cs.length+1+n)): ∃e a₂ w₂,Q e a₂ w₂/\ArrivesIn (Machine.fenced P FF) P (lone (b.atR a (.code c:: .inLoop c::k)) cs w) b k cs e a₂ w₂:=by
 obtain⟨e,a₁,w₁,hq,harr⟩:=h b (.inLoop c::k) cs hro hb hr
 cases e with
 |normal=>
  obtain⟨e₂,a₂,w₂,hq₂,harr₂⟩:=hq b k cs hro hb hr;exact⟨e₂,a₂,w₂,hq₂,.of_steps (StepsIn.trans harr (.one (fenced_calm hb hr rfl) stepR_inLoop)) harr₂⟩
 |exit id=>exact⟨_,a₁,w₁,hq,.pass (x:= .inLoop c) rfl (λ_ _=> .inl (by simp)) harr⟩
 |goto l=>exact⟨_,a₁,w₁,hq,.pass (x:= .inLoop c) rfl (λ_ _=> .inl (by simp)) harr⟩
 |ret=>exact⟨_,a₁,w₁,hq,.pass (x:= .inLoop c) rfl (λ_ _=> .inl (by simp)) harr⟩
 |panic ch=>exact⟨_,a₁,w₁,hq,.pass (x:= .inLoop c) rfl (λ_ _=> .inl (by simp)) harr⟩
 |outgrown=>exact⟨_,a₁,w₁,hq,.pass (x:= .inLoop c) rfl (λ_ _=> .inl (by simp)) harr⟩
theorem qa8 {b:Frame} {a:Act} {k:List Item} {cs:List Frame} {w:World} {c:Code}:step P (lone (b.atR a (.code (.scope c)::k)) cs w)= .next (lone (b.atR a (.code c:: .inScope c::k)) cs w):=
 step_lone_go (by simp[stepG,stepG.exec,Frame.atR])
theorem qi9 {b:Frame} {a:Act} {k:List Item} {cs:List Frame} {w:World} {c:Code}:step P (lone (b.atR a (.inScope c::k)) cs w)= .next (lone (b.atR a k) cs w):=
 step_lone_go (by simp[stepG,stepG.exec,Frame.atR])
theorem qcF {FF:Fence} {n:Nat} {c:Code} {Q:Exit->Act->World->Prop} {a:Act} {w:World} (h:c.wpIn FF n P (Exit.noGoto Q) a w):(Code.scope c).wpIn FF n P Q a w:=by
 intro b k cs hro hb hr;have h0:(lone (b.atR a (.code (.scope c)::k)) cs w).fenced P FF:=fenced_calm hb hr rfl;obtain⟨e,a₁,w₁,hq,harr⟩:=h b (.inScope c::k) cs hro hb hr
 have hx: ∀id,exitTo id (.inScope c::k)=exitTo id k:=λid=>by simp[exitTo]
 cases e with
 |normal=>exact⟨.normal,a₁,w₁,hq,.head h0 qa8 (StepsIn.trans harr (.one (fenced_calm hb hr rfl) qi9))⟩
 |exit id=>exact⟨.exit id,a₁,w₁,hq,λk' hk=> .head h0 qa8 (harr.1 k' (by rw[hx];exact hk)),λhr' hk=>let⟨k₁,h1,h2⟩:=harr.2 hr' (by rw[hx];exact hk);⟨k₁,h1,.head h0 qa8 h2⟩⟩
 |goto l=>exact hq.elim
 |ret=>exact⟨_,a₁,w₁,hq,.of_steps (.one h0 qa8) harr⟩
 |panic ch=>exact⟨_,a₁,w₁,hq,.of_steps (.one h0 qa8) harr⟩
 |outgrown=>exact⟨_,a₁,w₁,hq,.of_steps (.one h0 qa8) harr⟩
set_option maxHeartbeats 4000000 in
theorem qgq (hc:zg P call) (hm:P.follows .mixedOrders=true) {rd rr:Option Nat} {n base:Nat}: ∀(c:Code) {F:Nat->Prop} {nu:Nat->Option Nat} {A:Heap} {w:World} (_:Inv F nu A w) {fr:Fr} {a:Act} (_:RF F nu w fr a.tmps)
 (_:qmt rd rr nu) (_:Dfr base F nu A w a.defers) (_:base<=w.heap.size) {x:XA} {fr':Fr} {A':Heap}
 (_:zC P call N rd c (fr,A)=some (x,fr',A')) {Q:Exit->Act->World->Prop} (_: ∀F' nu' w' a',Dfr base F' nu' A' w' a'.defers->Stp F nu A w F' nu' A' w'->RF F' nu' w' fr' a'.tmps->Q (qi3 x) a' w'),c.wpIn (fz rr) n P Q a w:=by
 intro c
 induction c with
 |skip=>
  intro F nu A w i fr a h hrd hdf hbase x fr' A' he Q hq;simp only[zC,ZI,ZP]at he;obtain⟨rfl,rfl,rfl⟩:=he;exact wpIn_skip (hq F nu w a hdf (.refl i) h)
 |label l=>
  intro F nu A w i fr a h hrd hdf hbase x fr' A' he Q hq;simp only[zC,ZI,ZP]at he;obtain⟨rfl,rfl,rfl⟩:=he;exact wpIn_label (hq F nu w a hdf (.refl i) h)
 |exit id=>
  intro F nu A w i fr a h hrd hdf hbase x fr' A' he Q hq;simp only[zC,ZI,ZP]at he;obtain⟨rfl,rfl,rfl⟩:=he;exact wpIn_exit (hq F nu w a hdf (.refl i) h)
 |ret=>
  intro F nu A w i fr a h hrd hdf hbase x fr' A' he Q hq;simp only[zC,ZI,ZP]at he;obtain⟨rfl,rfl,rfl⟩:=he;exact wpIn_ret (hq F nu w a hdf (.refl i) h)
 |region id ops draw=>
  intro F nu A w i fr a h hrd hdf hbase x fr' A' he Q hq;simp only[zC,Yd,ZP]at he;obtain⟨⟨fr1,A1⟩,hr,rfl,he⟩:=he;simp only[ZP]at he;obtain⟨rfl,rfl⟩:=he;unfold qeo at hr
  cases draw with
  |false=>
   simp only[ZF,aU]at hr;rw[<-qjj]at hr;exact wpIn_region (ql4 hc _ i h hr (λF' nu' w' a' hd st hfr=>hq F' nu' w' a' (by rw[hd];exact hdf.step st) st hfr))
  |true=>
   simp only[aJ]at hr;have sd:=Stp.drew (w:=w) i;refine wpIn_region_any hm ?_;exact qqg hc sd.inv (h.mono (sd.ext i)) hr (λF' nu' w' a' hd hst hfr=>hq F' nu' w' a' (by rw[hd];exact hdf.step (sd.trans hst)) (sd.trans hst) hfr)
 |seq c1 c2 ih1 ih2=>
  intro F nu A w i fr a h hrd hdf hbase x fr' A' he Q hq;simp only[zC]at he;refine wpIn_seq ?_
  cases h1:zC P call N rd c1 (fr,A)with
  |none=>simp[h1]at he
  |some r=>
   obtain⟨x1,fr1,A1⟩:=r;rw[h1]at he
   cases x1 with
   |normal=>
    refine ih1 i h hrd hdf hbase h1 (λF1 nu1 w1 a1 hd1 st1 hf1=>?_);exact ih2 st1.inv hf1 (hrd.step st1) hd1 (aX hbase st1.size) he (λF2 nu2 w2 a2 hd2 st2 hf2=>hq F2 nu2 w2 a2 hd2 (st1.trans st2) hf2)
   |exit k=>
    simp only[ZI,ZP]at he;obtain⟨rfl,rfl,rfl⟩:=he;exact ih1 i h hrd hdf hbase h1 hq
   |ret=>
    simp only[ZI,ZP]at he;obtain⟨rfl,rfl,rfl⟩:=he;exact ih1 i h hrd hdf hbase h1 hq
 |cond c c1 c2 ih1 ih2=>
  intro F nu A w i fr a h hrd hdf hbase x fr' A' he Q hq;simp only[zC]at he;have hv:=h.eval i.glob c
  cases hcv:yJ fr c with
  |bool b=>
   rw[hcv]at he hv
   have hb:a.eval c= .bool b:=by
    generalize a.eval c=z at hv;cases hv
    rfl
   cases b with
   |true=>exact wpIn_cond_true hb (ih1 i h hrd hdf hbase he hq)
   |false=>exact wpIn_cond_false hb (ih2 i h hrd hdf hbase he hq)
  |_=>simp[hcv]at he
 |block id c ih=>
  intro F nu A w i fr a h hrd hdf hbase x fr' A' he Q hq;simp only[zC]at he;refine wpIn_block ?_
  cases h1:zC P call N rd c (fr,A)with
  |none=>simp[h1]at he
  |some r=>
   obtain⟨x1,fr1,A1⟩:=r;rw[h1]at he
   cases x1 with
   |normal=>
    simp only[ZI,ZP]at he;obtain⟨rfl,rfl,rfl⟩:=he;exact ih i h hrd hdf hbase h1 hq
   |ret=>
    simp only[ZI,ZP]at he;obtain⟨rfl,rfl,rfl⟩:=he;exact ih i h hrd hdf hbase h1 hq
   |exit k=>
    simp only at he;refine ih i h hrd hdf hbase h1 (λF1 nu1 w1 a1 hd1 st1 hf1=>?_);simp only[qi3,Exit.inBlock];split at he
    ·rename_i e;simp only[ZI,ZP]at he;obtain⟨rfl,rfl,rfl⟩:=he;rw[ae e];exact hq F1 nu1 w1 a1 hd1 st1 hf1
    rename_i e;simp only[ZI,ZP]at he;obtain⟨rfl,rfl,rfl⟩:=he;rw[aa e];exact hq F1 nu1 w1 a1 hd1 st1 hf1
 |loop c ih=>
  intro F nu A w i fr a h hrd hdf hbase x fr' A' he Q hq;simp only[zC]at he;have key: ∀(m:Nat) {F:Nat->Prop} {nu:Nat->Option Nat} {A:Heap} {w:World} (_:Inv F nu A w) {fr:Fr} {a:Act} (_:RF F nu w fr a.tmps) (_:qmt rd rr nu) (_:Dfr base F nu A w a.defers) (_:base<=w.heap.size)
   (_:qfK m (zC P call N rd c) (fr,A)=some (x,fr',A'))
   (_: ∀F' nu' w' a',Dfr base F' nu' A' w' a'.defers->Stp F nu A w F' nu' A' w'->RF F' nu' w' fr' a'.tmps->Q (qi3 x) a' w') (b:Frame) (k:List Item) (cs:List Frame),b.roundOf=(fz rr).round->(fz rr).fn b.fn->(fz rr).room (cs.length+1+n)->
   ∃e a₂ w₂,Q e a₂ w₂/\ArrivesIn (Machine.fenced P (fz rr)) P (lone (b.atR a (.code c:: .inLoop c::k)) cs w) b k cs e a₂ w₂:=by
   intro m
   induction m with
   |zero=>intro F nu A w i fr a h hrd hdf hbase he;simp[qfK]at he
   |succ m ihm=>
    intro F nu A w i fr a h hrd hdf hbase he hq b k cs hro hb hr;simp only[qfK]at he;refine qd2 ?_ b k cs hro hb hr
    cases h1:zC P call N rd c (fr,A)with
    |none=>simp[h1]at he
    |some r=>
     obtain⟨x1,fr1,A1⟩:=r;rw[h1]at he
     cases x1 with
     |normal=>
      refine ih i h hrd hdf hbase h1 (λF1 nu1 w1 a1 hd1 st1 hf1=>?_);exact ihm st1.inv hf1 (hrd.step st1) hd1 (aX hbase st1.size) he (λF2 nu2 w2 a2 hd2 st2 hf2=>hq F2 nu2 w2 a2 hd2 (st1.trans st2) hf2)
     |exit k=>
      simp only[ZI,ZP]at he;obtain⟨rfl,rfl,rfl⟩:=he;exact ih i h hrd hdf hbase h1 hq
     |ret=>
      simp only[ZI,ZP]at he;obtain⟨rfl,rfl,rfl⟩:=he;exact ih i h hrd hdf hbase h1 hq
  intro b k cs hro hb hr;obtain⟨e,a₂,w₂,hq2,harr⟩:=key N i h hrd hdf hbase he hq b k cs hro hb hr;exact⟨e,a₂,w₂,hq2,.of_steps (.one (fenced_calm hb hr rfl) stepR_loop) harr⟩
 |scope c ih=>
  intro F nu A w i fr a h hrd hdf hbase x fr' A' he Q hq;simp only[zC]at he;refine qcF (ih i h hrd hdf hbase he (λF1 nu1 w1 a1 hd1 st1 hf1=>?_));have:=hq F1 nu1 w1 a1 hd1 st1 hf1;cases x<;>exact this
 |rangeFunc g ps asg body=>
  intro F nu A w i fr a h hrd hdf hbase x fr' A' he Q hq;simp only[zC]at he;split at he
  ·rename_i gf first captured hok hg;split at he
   ·cases he
   rename_i hentB;have hent:Enters P gf:=enters_of (by simpa using hentB);split at he
   ·rename_i v A2 hcallA;have hgv:=h.eval i.glob g;rw[hg]at hgv;generalize hz:a.eval g=z at hgv
    cases hgv with
    |func _ _ _ vf vc hl1 hl2 hR1 hR2=>
     have hok2:=hc _ _ _ _ _ hcallA;have core: ∀(w1:World) (mark:List Deferred) (dd:Nat),Stp F nu A w F nu A w1->Dfr base F nu A w1 (mark++a.defers)->
      (∀fn,(Instr.enterLoop fn a.tmps ps asg body rr).run P w= .ok (w1.heap.size,mark) (w1.alloc (.loop {state:= .ready,pending:=none,fn:=fn,tmps:=a.tmps,params:=ps,assign:=asg,body:=body,defers:=dd})))->
      (Code.rangeFunc g ps asg body).wpIn (fz rr) n P Q a w:=by
      intro w1 mark dd st1 hdf1 henter
      refine wpIn_rangeFunc λfn _=>?_
      have h1:=h.mono (st1.ext i);obtain⟨w2,nu2,hw2,st2,hb2⟩:=qoN st1.inv h1 fn dd ps asg body;have henter:=henter fn;rw[hw2]at henter;have st12:=st1.trans st2
      have hyld:RL F nu2 w2 [.yld A.length] #[.func (.yield w1.heap.size) #[] #[]]:=by
       refine⟨rfl,λj b y hb hy=>?_⟩
       cases j with
       |zero=>simp at hb hy;subst hb;subst hy;exact .yld _ _ hb2
       |succ j=>simp at hb
      have hf1:RL F nu w first vf:=⟨hl1,hR1⟩;have hf2:RL F nu w captured vc:=⟨hl2,hR2⟩
      have hargs:RL F nu2 w2 (first++[.yld A.length]++captured) (vf++#[.func (.yield w1.heap.size) #[] #[]]++vc):=
       ((hf1.mono (st12.ext i)).append hyld).append (hf2.mono (st12.ext i))
      have hinv:=qlk (w:=w2) hent (vf++#[.func (.yield w1.heap.size) #[] #[]]) vc;have hres:=qji (P:=P) (l:=w1.heap.size) (w:=w2) hz;have hcall2:=hok2.calls hent st2.inv hargs;refine⟨w1.heap.size,mark,w2,_,w2,gf,_,w2,henter,hres,λ_ _=>trivial,hinv,qiA _ _,?_⟩;refine qle (hcall2.mono ?_);rintro e w3 ⟨v3,F3,nu3,rfl,st3,_⟩;have st:=st12.trans st3;have hdf3:=(hdf1.step st2).step st3;have hfr3:=h.mono (st.ext i);obtain⟨rfl,pend,w4,hend,st4,hcase⟩:=qqI (P:=P) st3.inv (st3.n _ _ hb2) he;have hdf4:=hdf3.step st4;have hfr4:=hfr3.mono (st4.ext st3.inv);have stAll:=st.trans st4;have fin:=hq _ _ _ {a with defers:=mark++a.defers} hdf4 stAll hfr4;refine⟨pend,w4,hend,?_⟩;rcases hcase with⟨rfl,rfl⟩|⟨rfl,rfl⟩|⟨id,rfl,rfl⟩
      ·exact fin
      ·exact wpIn_ret fin
      exact wpIn_exit fin
     cases rd with
     |none=>
      cases rr with
      |some r=>exact hrd.elim
      |none=>
       have sth:=Stp.hidden i (.deferred (some []));refine core (w.alloc (.deferred (some []))) [{target:= .collected w.heap.size,args:=#[]}] w.heap.size sth ⟨λd hd=>?_,?_⟩ (λfn=>?_)
       ·simp only[List.singleton_append,bK]at hd;rcases hd with rfl|hd
        ·refine⟨w.heap.size,rfl,hbase,Go.heap_alloc_new w _,?_,λhF=>absurd (i.ltF _ hF) (by omega)⟩;rintro⟨b,y,rb,hb,hy,ho,hf⟩;have:=(i.ftF hb hy ho (hf.same (Go.heap_alloc_old w _ rb (i.ltN b rb hb)))).2;omega
        exact(hdf.step sth).each d hd
       ·simp only[List.singleton_append,dX];refine⟨λd hd e=>?_,hdf.apart⟩;obtain⟨r,h1,_,h3,_⟩:=hdf.each d hd;have hlt:r<w.heap.size:=(YB.1 h3).1;rw[h1]at e;injection e with e;omega
       have:=run_enterLoop_outer (P:=P) (w:=w) fn a.tmps ps asg body;simpa using this
     |some b=>
      cases rr with
      |none=>exact hrd.elim
      |some r=>
       simp only[rdOK]at hok;split at hok
       ·rename_i s0 p0 f0 ps0 as0 bd0 hA0;obtain⟨_,fn0,tmps0,dd0,hheap,_⟩:=i.blk _ _ _ hrd hA0;exact core w [] dd0 (.refl i) (by simpa using hdf) (λfn=>run_enterLoop_inner hheap fn a.tmps ps asg body)
       cases hok
   cases he
  cases he
 |_=>intro F nu A w i fr a h hrd hdf hbase x fr' A' he;simp[zC]at he
end
end
section
variable [Glob]
open Go.RowKit
section
variable {P:Program} {call:zP} {N:Nat}
section
variable {F:Nat->Prop} {nu:Nat->Option Nat} {A:Heap} {w:World}
theorem qpe (i:Inv F nu A w) {t:TypeId} {p:AV} {x:Value} (hp:R F nu w p x) {f:zG} {v:AV} {A':Heap} {f':zG} (h:exec (qX P t p) A f=some (v,A',f')):
 ∃y,(do loadVar t (<-asAddr x):Sem Value).run P w= .ok y w/\R F nu w v y:=by
 unfold qX at h;split at h
 ·rename_i d inf hd hi;split at h
  ·rename_i ha;obtain⟨ad,cs,vs,f2,rfl,h1,h2,h3,h4,h5⟩:=qd9 i hp h;simp only[exec,ZI,ZP]at h5;obtain⟨rfl,rfl,rfl⟩:=h5;refine⟨.agg vs.toArray,?_,.agg _ _ (by simp;omega) (λj a v ha hv=>h4 j a v ha (by simpa using hv))⟩;have:=run_loadCells_list (P:=P) w ad vs h3;rw[h1]at this;simp[asAddr,loadVar,qcT hd,ha,qQ hi,this]
  rename_i ha;obtain⟨ad,cs,vs,f2,rfl,h1,h2,h3,h4,h5⟩:=qd9 i hp h
  match cs,h2 with
  |[c],_=>
   match vs,h1 with
   |[y],_=>
    simp only[exec,ZI,ZP]at h5;obtain⟨rfl,rfl,rfl⟩:=h5;have hc:=h3 0 y rfl;rw[add_zero']at hc;refine⟨y,?_,h4 0 c y rfl rfl⟩;simp[asAddr,loadVar,qcT hd,ha,hc]
 simp[exec]at h
def qoj (tmps:Array Value):ResultVar->Sem Value
 | .tmp t=>pure (tmps.getD t undef)
 | .cell a t=>do loadVar t (<-asAddr (tmps.getD a undef))
theorem qmr (fn:Func) (tmps:Array Value):results fn tmps=(do
 let vs<-fn.results.mapM (qoj tmps)
 pure (if h:vs.size=1 then vs[0]else .tuple vs)):=by
 unfold results;congr 1
theorem qj7 (i:Inv F nu A w) {fr:Fr} {tmps:Array Value} (h:RF F nu w fr tmps): ∀(rs:List ResultVar) {vs:List AV},jJ P fr A rs=some vs->
 ∃xs:List Value,(rs.mapM (qoj tmps)).run P w= .ok xs w/\RL F nu w vs xs.toArray:=by
 intro rs
 induction rs with
 |nil=>
  intro vs hv;simp only[jJ,ZI]at hv;subst hv;exact⟨[],by simp,rfl,by simp⟩
 |cons r rs ih=>
  intro vs hv
  have cons: ∀{v:AV} {y:Value} {vs:List AV} {xs:List Value},R F nu w v y->RL F nu w vs xs.toArray->RL F nu w (v::vs) (y::xs).toArray:=by
   intro v y vs xs h1 h2;have:=h2.1;refine⟨by simp at this⊢;exact this,λj a u ha hu=>?_⟩
   cases j with
   |zero=>simp at ha hu;subst ha;subst hu;exact h1
   |succ j=>exact h2.2 j a u (by simpa using ha) (by simpa using hu)
  cases r with
  |tmp t=>
   simp only[jJ,Yd]at hv;obtain⟨vs',hv',rfl⟩:=hv;obtain⟨xs,hx,hl⟩:=ih hv';exact⟨tmps.getD t undef::xs,by rw[bV];simp only[qoj,Sem.run_bind,Sem.run_pure,Result.andThen_ok,hx],cons (h.getD t) hl⟩
  |cell a t=>
   simp only[jJ]at hv;split at hv
   ·rename_i v A1 f1 vs' he hvs;simp only[ZI]at hv;subst hv;obtain⟨xs,hx,hl⟩:=ih hvs;obtain⟨y,hy,hR⟩:=qpe i (h.getD a) he;refine⟨y::xs,?_,cons hR hl⟩;rw[bV];simp only[qoj,Sem.run_bind]at hy⊢;rw[hy];simp only[Result.andThen_ok,hx,Sem.run_pure]
   cases hv
theorem qkV (i:Inv F nu A w) {fr:Fr} {tmps:Array Value} (h:RF F nu w fr tmps) {fn:Func} {vs:List AV} (hv:jJ P fr A fn.results.toList=some vs):
 ∃x,(results fn tmps).run P w= .ok x w/\R F nu w (qgP vs) x:=by
 obtain⟨xs,hx,hl⟩:=qj7 (P:=P) i h _ hv
 have hrun:(results fn tmps).run P w= .ok (if h:xs.toArray.size=1 then xs.toArray[0]else .tuple xs.toArray) w:=by
  have h2:(fn.results.mapM (qoj tmps)).run P w= .ok xs.toArray w:=by
   rw[Array.mapM_eq_mapM_toList,map_eq_pure_bind];rw[Sem.run_bind,hx];rfl
  rw[qmr,Sem.run_bind,h2];rfl
 refine⟨_,hrun,?_⟩;have h1:=hl.1
 match vs,xs,h1,hl with
 |[],[],_,hl=>exact .tuple _ _ rfl (by simp)
 |[v],[y],_,hl=>exact hl.2 0 v y rfl rfl
 |v::v'::vs,y::y'::ys,h1,hl=>
  have: ¬(y::y'::ys).toArray.size=1:=by simp
  rw[dif_neg this];exact .tuple _ _ h1 hl.2
end
theorem qaO.touch {nu':Nat->Option Nat} {A':Heap} {w':World} {r q:Nat} {o:Obj} (hno: ¬qaO nu' A' w' r) (h:qaO nu' A' (w'.putObj r o) q):qaO nu' A' w' q:=by
 obtain⟨b,y,rb,h1,h2,h3,h4⟩:=h;refine⟨b,y,rb,h1,h2,h3,h4.same (World.putObj_heap_other λe=>hno ?_)⟩;subst e;exact qaO.of h1 h2 h3
theorem qgU {F:Nat->Prop} {nu:Nat->Option Nat} {A:Heap} {w:World} {fn:Func} {n:Nat} {rs:List AV} {A':Heap} {R0:Ending->World->Prop} {tmps:Array Value} {fr:Fr} (hrs:jJ P fr A' fn.results.toList=some rs):
 ∀(ds:List Deferred) {F':Nat->Prop} {nu':Nat->Option Nat} {w':World},Stp F nu A w F' nu' A' w'->RF F' nu' w' fr tmps->Dfr w.heap.size F' nu' A' w' ds->
  (∀F' nu' w' y,Stp F nu A w F' nu' A' w'->R F' nu' w' (qgP rs) y->R0 (.returned y) w')->LeavesInM (fz none) n P fn tmps R0 ds .returning w':=by
 intro ds
 induction ds with
 |nil=>
  intro F' nu' w' st hfr _ hq;obtain⟨y,hy,hR⟩:=qkV st.inv hfr hrs;exact⟨y,hy,hq _ _ _ _ st hR⟩
 |cons d ds ih=>
  intro F' nu' w' st hfr hd hq;obtain⟨r,h1,h2,h3,h4,h5⟩:=hd.each d (by simp);have htake:=run_takeDeferred (P:=P) h3;obtain⟨st2,x2⟩:=Stp.touch st (r:=r) (o:= .deferred none) h2 h4 h5 (by simp[World.shape?,h3]);refine⟨by simp,.inl ⟨r,_,h1,htake,?_⟩⟩;refine ih st2 (hfr.mono x2) ⟨λe he=>?_,?_⟩ hq
  ·obtain⟨r',g1,g2,g3,g4,g5⟩:=hd.each e (by simp[he])
   have hne:r'≠r:=by
    intro e2;have:=(dX.1 hd.apart).1 e he;rw[h1,g1,e2]at this;exact this rfl
   exact⟨r',g1,g2,(World.putObj_heap_other hne).trans g3,λhO=>g4 (qaO.touch h4 hO),g5⟩
  exact(dX.1 hd.apart).2
theorem qoS (hc:zg P call) (hm:P.follows .mixedOrders=true) {f:FuncId} {args:List AV} {A:Heap} {v:AV} {A':Heap} (he:qlv P call N f args A=some (v,A')):qf P (.fn f) args A v A':=by
 unfold qlv at he;split at he
 ·rename_i fn hfn;split at he
  ·cases he
  rename_i hname;split at he
  ·rename_i c hbody
   refine λF nu w vs i hargs=> .inl ⟨⟨fn,hfn,by simpa using hname,by rw[hbody];rfl⟩,?_⟩
   refine(callsIn_wide (n:=0)).1 ?_;refine callsIn_of_wp_marks hfn hbody trivial ?_;have hframe:RF F nu w (frOf fn.ntmps args) (vs++Array.replicate (fn.ntmps-vs.size) undef):=RF.frOf _ hargs
   cases h1:zC P call N none c (frOf fn.ntmps args,A)with
   |none=>simp[h1]at he
   |some r=>
    obtain⟨x,fr,A1⟩:=r;rw[h1]at he;have post: ∀rs,jJ P fr A1 fn.results.toList=some rs->qgP rs=v->A1=A'-> ∀F' nu' w' (a':Act),Dfr w.heap.size F' nu' A1 w' a'.defers->Stp F nu A w F' nu' A1 w'->RF F' nu' w' fr a'.tmps->
     LeavesInM (fz none) 0 P fn a'.tmps (λe w'=> ∃x F' nu',e= .returned x/\Stp F nu A w F' nu' A' w'/\R F' nu' w' v x) a'.defers .returning w':=by
     intro rs hrs htv hA F' nu' w' a' hd st hfr;subst hA;exact qgU hrs a'.defers st hfr hd (λF2 nu2 w2 y st2 hR=>⟨y,F2,nu2,rfl,st2,htv▸hR⟩)
    cases x with
    |normal=>
     obtain⟨rs,hrs,hr⟩:=Yd.1 he;simp only[ZP]at hr;exact qgq (rd:=none) (rr:=none) (base:=w.heap.size) hc hm c i hframe trivial .nil (ag _) h1 (λF' nu' w' a' hd st hfr=>post rs hrs hr.1 hr.2 F' nu' w' a' hd st hfr)
    |ret=>
     obtain⟨rs,hrs,hr⟩:=Yd.1 he;simp only[ZP]at hr;exact qgq (rd:=none) (rr:=none) (base:=w.heap.size) hc hm c i hframe trivial .nil (ag _) h1 (λF' nu' w' a' hd st hfr=>post rs hrs hr.1 hr.2 F' nu' w' a' hd st hfr)
    |exit k=>cases he
  cases he
 cases he
theorem qq7 {F:Nat->Prop} {nu:Nat->Option Nat} {A2:Heap} {w:World} {b l:Nat} {x:XA} {fr:Fr} {v:AV} {A':Heap} (i:Inv F nu A2 w) (hb:nu b=some l) (he:qn3 b (some (x,fr,A2))=some (v,A')):
 ∃y w',(Instr.endRound l (qge x)).run P w= .ok y w'/\Stp F nu A2 w F nu A' w'/\R F nu w' v y:=by
 simp only[qn3]at he;split at he
 ·rename_i stt pend fr2 ps2 asg2 body2 hA2;obtain⟨hnF,fn2,tmps2,dd2,hheap,hfr2⟩:=i.blk _ _ _ hb hA2;simp only[ZI,ZP]at he;obtain⟨rfl,rfl⟩:=he;have hend:=run_endRound (P:=P) (qge x) hheap;exact⟨_,_,hend,Stp.setLoop i (r:={state:=if(qge x).isNone then .ready else .done,pending:=qge x,fn:=fn2,tmps:=tmps2,params:=ps2,assign:=asg2,body:=body2,defers:=dd2}) hb hA2 rfl hheap rfl hfr2,.bool _⟩
 cases he
theorem qoW (hc:zg P call) (hm:P.follows .mixedOrders=true) {b:Nat} {args:List AV} {A:Heap} {v:AV} {A':Heap} (he:qk0 P call N b args A=some (v,A')):qf P (.rd b) args A v A':=by
 intro F nu w vs rb i hargs hb;unfold qk0 at he;split at he
 ·rename_i st0 p0 fr ps asg bd hA;obtain⟨hnF,fn0,tmps0,dd0,hheap,hfr⟩:=i.blk _ _ _ hb hA;split at he
  ·rename_i hlen
   have hsz:vs.size=ps.size:=by rw[hargs.1,hlen]
   have hy:=run_yield (P:=P) hheap (args:=vs) (by exact hsz);refine⟨_,_,_,_,hy,?_⟩;refine roundIn_of_wpIn trivial ?_
   have hset:RF F nu w (setAll fr ps.toList args) ((ps.zip vs).foldl (λtmps (t,a)=>tmps.setIfInBounds t a) tmps0):=by
    have h1:=RF.setAll (params:=ps.toList) hfr (args:=args) (vs:=vs.toList) (by simp[hargs.1]) (λj a v ha hv=>hargs.2 j a v ha (by simpa using hv))
    have e:(ps.zip vs).foldl (λtmps (t,a)=>tmps.setIfInBounds t a) tmps0=(ps.toList.zip vs.toList).foldl (λtmps (p:Tmp×Value)=>tmps.setIfInBounds p.1 p.2) tmps0:=by
     rw[<-Array.foldl_toList,Array.toList_zip]
    rw[e];exact h1
   have hfz:Fence.wide.inRound rb=fz (some rb):=rfl;rw[hfz]
   cases h1:zC P call N (some b) asg (setAll fr ps.toList args,A)with
   |none=>simp[h1]at he
   |some r=>
    obtain⟨x1,fr1,A1⟩:=r;rw[h1]at he
    cases x1 with
    |normal=>
     simp only at he;refine qgq (rd:=some b) (rr:=some rb) (base:=0) hc hm asg i hset hb .nil (aF _) h1 (λF1 nu1 w1 a1 hd1 st1 hf1=>?_);split at he
     ·rename_i p1 f1 ps1 as1 bd1 hA1;have hb1:=st1.n _ _ hb;obtain⟨hnF1,fn1,tmps1,dd1,hheap1,hfr1⟩:=st1.inv.blk _ _ _ hb1 hA1;have hbeg:=run_beginRound (P:=P) hheap1 rfl;have st2:=Stp.setLoop st1.inv (st:= .busy) (pend:=p1) (fr:=f1) (ps:=ps1) (asg:=as1) (body:=bd1) (r:={state:= .busy,pending:=p1,fn:=fn1,tmps:=tmps1,params:=ps1,assign:=as1,body:=bd1,defers:=dd1}) hb1 hA1 rfl hheap1 rfl hfr1;refine⟨_,hbeg,?_⟩
      cases h2:zC P call N (some b) bd (fr1,A1.set b (.loop .busy p1 f1 ps1 as1 bd1))with
      |none=>simp[h2,qn3]at he
      |some r2=>
       obtain⟨x2,fr2,A2⟩:=r2;rw[h2]at he;have hf1':=hf1.mono (st2.ext st1.inv);refine qgq (rd:=some b) (rr:=some rb) (base:=0) hc hm bd st2.inv hf1' hb1 (hd1.step st2) (aF _) h2 (λF2 nu2 w2 a2 hd2 st3 hf2=>?_);obtain⟨y,w3,hend,st4,hR⟩:=qq7 (P:=P) st3.inv (st3.n _ _ hb1) he;have stAll:=((st1.trans st2).trans st3).trans st4;cases x2<;>exact⟨y,w3,hend,y,F2,nu2,rfl,stAll,hR⟩
     cases he
    |exit k=>cases he
    |ret=>cases he
  cases he
 cases he
end
end
section
variable [Glob]
open Go.RowKit
def frz (A:Heap) (S:List Nat):Nat->AV->Option AV
 |0,_=>none
 |d+1,a=>match a with
  | .ptr b off=>if S.contains b then match A[b]? with
   |some (.cells cs)=>(cs.mapM (frz A S d)).map λcs=> .fptr cs off
   |some (.frozen cs)=>(cs.mapM (frz A S d)).map λcs=> .fptr cs off
   |_=>none
   else none
  | .slice b off n _ esz=>if S.contains b then match A[b]? with
   |some (.cells cs)=>(((cs.drop off).take (n*esz)).mapM (frz A S d)).map λcs=> .fslice n cs
   |some (.frozen cs)=>(((cs.drop off).take (n*esz)).mapM (frz A S d)).map λcs=> .fslice n cs
   |_=>none
   else none
  | .oslice b n esz=>if S.contains b then match A[b]? with
   |some (.cells cs)=>((cs.take (n*esz)).mapM (frz A S d)).map λcs=> .fslice n cs
   |some (.frozen cs)=>((cs.take (n*esz)).mapM (frz A S d)).map λcs=> .fslice n cs
   |_=>none
   else none
  | .gslice b n esz=>if S.contains b then match A[b]? with
   |some (.cells cs)=>((cs.take (n*esz)).mapM (frz A S d)).map λcs=> .fslice n cs
   |some (.frozen cs)=>((cs.take (n*esz)).mapM (frz A S d)).map λcs=> .fslice n cs
   |_=>none
   else none
  | .wslice b off n esz=>if S.contains b then match A[b]? with
   |some (.cells cs)=>(((cs.drop off).take (n*esz)).mapM (frz A S d)).map λcs=> .fslice n cs
   |some (.frozen cs)=>(((cs.drop off).take (n*esz)).mapM (frz A S d)).map λcs=> .fslice n cs
   |_=>none
   else none
  | .map b=>if S.contains b then match A[b]? with
   |some (.map ks vs)=>match ks.mapM (frz A S d),vs.mapM (frz A S d)with
    |some ks,some vs=>some (.fmap ks vs)
    |_,_=>none
   |_=>none
   else none
  | .fptr cs off=>(cs.mapM (frz A S d)).map λcs=> .fptr cs off
  | .fslice n cs=>(cs.mapM (frz A S d)).map λcs=> .fslice n cs
  | .fmap ks vs=>match ks.mapM (frz A S d),vs.mapM (frz A S d)with
    |some ks,some vs=>some (.fmap ks vs)
    |_,_=>none
  | .func fn fs cs=>match fs.mapM (frz A S d),cs.mapM (frz A S d)with
    |some fs,some cs=>some (.func fn fs cs)
    |_,_=>none
  | .iface t v=>(frz A S d v).map (.iface t)
  | .agg cs=>(cs.mapM (frz A S d)).map .agg
  | .tuple cs=>(cs.mapM (frz A S d)).map .tuple
  | .yld _=>none
  |a=>some a
def flat:Nat->AV->Bool
 |0,_=>false
 |d+1,a=>match a with
  | .undef=>true
  | .bool _=>true
  | .int _ _=>true
  | .str _=>true
  | .nilptr=>true
  | .nilslice=>true
  | .nilmap=>true
  | .nilfunc=>true
  | .niliface=>true
  | .fslice n cs=>decide (n=0)&&cs.isEmpty
  | .iface _ v=>flat d v
  | .agg cs=>cs.all (flat d)
  | .tuple cs=>cs.all (flat d)
  |_=>false
def qfB:Blk->Blk
 | .cells cs=> .frozen cs
 | .frozen cs=> .frozen cs
 |_=> .dead
def qW (S:List Nat) (A:Heap):Heap:=S.foldl (λA b=>match A[b]? with
 |some k=>A.set b (qfB k)
 |none=>A) A
def qlw (call:zP) (pl:FuncId->Bool):zP:=λc args A=>
 match c with
 | .fn f=>if pl f then
  let S:=qcS A 20 (qf4 [] (args.flatMap (yP 4)))
  match args.mapM (frz A S 12)with
  |some args'=>match call c args' []with
   |some (v,Al)=>match frz Al (List.range Al.length) 12 v with
    |some v'=>if flat 6 v' then some (v',A)else some (v',qW S A)
    |none=>none
   |none=>none
  |none=>none
  else call c args A
 | .rd _=>call c args A
 | .mt _ _=>call c args A
theorem mapM_some {f:AV->Option AV}: ∀{xs ys:List AV},xs.mapM f=some ys->ys.length=xs.length/\ ∀(i:Nat) (y:AV),ys[i]? =some y-> ∃x,xs[i]? =some x/\f x=some y:=by
 intro xs
 induction xs with
 |nil=>intro ys h;simp at h;subst h;exact⟨rfl,by simp⟩
 |cons x xs ih=>
  intro ys h;rw[bV]at h
  cases hx:f x with
  |none=>simp[hx]at h
  |some y=>
   cases hxs:xs.mapM f with
   |none=>simp[hx,hxs]at h
   |some zs=>
    simp only[hx,hxs,eM,Option.bind_eq_bind,ZB,ZI]at h;subst h;obtain⟨h1,h2⟩:=ih hxs;refine⟨by simp[h1],λi z hz=>?_⟩
    cases i with
    |zero=>simp at hz;subst hz;exact⟨x,rfl,hx⟩
    |succ i=>exact h2 i z (by simpa using hz)
section
variable {F:Nat->Prop} {nu:Nat->Option Nat} {A:Heap} {w:World}
def FS (F:Nat->Prop) (nu:Nat->Option Nat) (A:Heap) (S:List Nat):Nat->Prop:=λrb=>F rb\/ ∃b x,b∈S/\nu b=some rb/\A[b]? =some x/\x.owned=true
theorem cell_of_heap {rb off i:Nat} {vs:Array Value} {e:TypeId} {fr:Nat×Nat} {v:Value} (h:w.heap[rb]? =some (.cells vs e fr)) (hv:vs[off+i]? =some v):w.cell? ((⟨rb,off,none⟩:Addr).add i)=some v:=by
 rw[jB];simp[World.cell?,h,hv]
theorem qhg (i:Inv F nu A w) {S:List Nat}: ∀(d:Nat) {a a':AV} {v:Value},frz A S d a=some a'->R F nu w a v->R (FS F nu A S) (λ_=>none) w a' v:=by
 intro d
 induction d with
 |zero=>intro a a' v h;simp[frz]at h
 |succ d ih=>
  intro a a' v h hR
  have hF: ∀rb,F rb->FS F nu A S rb:=λrb h=> .inl h
  have hlist: ∀{cs cs':List AV} {vs:List Value},cs.mapM (frz A S d)=some cs'->vs.length=cs.length->(∀(j:Nat) (a:AV) (v:Value),cs[j]? =some a->vs[j]? =some v->R F nu w a v)->
   vs.length=cs'.length/\ ∀(j:Nat) (a:AV) (v:Value),cs'[j]? =some a->vs[j]? =some v->R (FS F nu A S) (λ_=>none) w a v:=by
   intro cs cs' vs hm hl hr;obtain⟨h1,h2⟩:=mapM_some hm;refine⟨by omega,λj a v ha hv=>?_⟩;obtain⟨x,hx1,hx2⟩:=h2 j a ha;exact ih hx2 (hr j x v hx1 hv)
  have hrow: ∀{b rb off:Nat} {k:Blk} {cs cs':List AV},nu b=some rb->S.contains b=true->A[b]? =some k->(k= .cells cs\/k= .frozen cs)-> ∀(sub:List AV),(∀(j:Nat) (a:AV),sub[j]? =some a->cs[off+j]? =some a)->sub.mapM (frz A S d)=some cs'->
   FS F nu A S rb/\ ∃vs:List Value,vs.length=cs'.length/\(∀(j:Nat) (v:Value),vs[j]? =some v->w.cell? ((⟨rb,off,none⟩:Addr).add j)=some v)/\ ∀(j:Nat) (a:AV) (v:Value),cs'[j]? =some a->vs[j]? =some v->R (FS F nu A S) (λ_=>none) w a v:=by
   intro b rb off k cs cs' hb hS hA hk sub hsub hm;have hRB:=i.blk b rb k hb hA
   have hFS:FS F nu A S rb:=by
    rcases hk with rfl|rfl
    ·exact .inr ⟨b,_,by simpa using hS,hb,hA,rfl⟩
    exact .inl hRB.1
   have hrowv: ∃vs e fr,w.heap[rb]? =some (.cells vs e fr)/\cs.length<=vs.size/\ ∀(j:Nat) (a:AV) (v:Value),cs[j]? =some a->vs[j]? =some v->R F nu w a v:=by
    rcases hk with rfl|rfl
    ·obtain⟨_,vs,e,h1,h2,h3⟩:=hRB;exact⟨vs,e,_,h1,h2,h3⟩
    obtain⟨_,vs,e,fr,h1,h2,h3⟩:=hRB;exact⟨vs,e,fr,h1,h2,h3⟩
   obtain⟨vs,e,fr,h1,h2,h3⟩:=hrowv;obtain⟨g1,g2⟩:=mapM_some hm
   have hin: ∀j,j<sub.length->off+j<vs.size:=by
    intro j hj;have:=hsub j _ (Ya hj);have:=(Yb.1 this).1;omega
   refine⟨hFS,(List.range sub.length).map λj=>vs.getD (off+j) undef,by simp[g1],λj v hv=>?_,λj a v ha hv=>?_⟩
   ·rw[YA]at hv;rcases ak j sub.length with hj|hj
    ·rw[List.getElem?_range hj]at hv;simp only[ZM,ZI]at hv;refine cell_of_heap h1 ?_;have:=hin j hj;rw[<-hv];simp[Array.getD,this]
    rw[Yg (by simpa using hj)]at hv;simp at hv
   obtain⟨x,hx1,hx2⟩:=g2 j a ha;have hj:j<sub.length:=(Yb.1 hx1).1;rw[YA,List.getElem?_range hj]at hv;simp only[ZM,ZI]at hv;have hlt:=hin j hj;refine ih hx2 (h3 (off+j) x v (hsub j x hx1) ?_);rw[<-hv];simp[Array.getD,hlt]
  cases hR with
  |undef v=>simp only[frz,ZI]at h;subst h;exact .undef _
  |bool b=>simp only[frz,ZI]at h;subst h;exact .bool _
  |anyb b=>simp only[frz,ZI]at h;subst h;exact .anyb _
  |int k n=>simp only[frz,ZI]at h;subst h;exact .int _ _
  |str s l hl=>simp only[frz,ZI]at h;subst h;exact .str _ _ hl
  |nilptr=>simp only[frz,ZI]at h;subst h;exact .nilptr
  |nilslice=>simp only[frz,ZI]at h;subst h;exact .nilslice
  |nilmap=>simp only[frz,ZI]at h;subst h;exact .nilmap
  |nilfunc=>simp only[frz,ZI]at h;subst h;exact .nilfunc
  |niliface=>simp only[frz,ZI]at h;subst h;exact .niliface
  |yld b rb hb=>simp[frz]at h
  |ptr b off rb hb=>
   simp only[frz]at h;split at h
   ·rename_i hS;split at h
    ·rename_i cs hA;obtain⟨cs',hm,rfl⟩:=Yd.1 h;obtain⟨g1,vs,g2,g3,g4⟩:=hrow (off:=0) hb hS hA (.inl rfl) cs (λj a ha=>by simpa using ha) hm;have:=R.fptr cs' off ⟨rb,0,none⟩ vs g1 g2 g3 g4
     rwa [jB,az]at this
    ·rename_i cs hA;obtain⟨cs',hm,rfl⟩:=Yd.1 h;obtain⟨g1,vs,g2,g3,g4⟩:=hrow (off:=0) hb hS hA (.inr rfl) cs (λj a ha=>by simpa using ha) hm;have:=R.fptr cs' off ⟨rb,0,none⟩ vs g1 g2 g3 g4
     rwa [jB,az]at this
    cases h
   cases h
  |slice b off n cap esz rb hb hcap=>
   simp only[frz]at h;split at h
   ·rename_i hS
    have hsub: ∀cs:List AV,∀(j:Nat) (a:AV),((cs.drop off).take (n*esz))[j]? =some a->cs[off+j]? =some a:=by
     intro cs j a ha;rw[Yt]at ha;split at ha
     ·rwa [YI]at ha
     cases ha
    split at h
    ·rename_i cs hA;obtain⟨cs',hm,rfl⟩:=Yd.1 h;obtain⟨g1,vs,g2,g3,g4⟩:=hrow (off:=off) hb hS hA (.inl rfl) _ (hsub cs) hm;exact .fslice n cs' _ cap vs hcap g1 g2 g3 g4
    ·rename_i cs hA;obtain⟨cs',hm,rfl⟩:=Yd.1 h;obtain⟨g1,vs,g2,g3,g4⟩:=hrow (off:=off) hb hS hA (.inr rfl) _ (hsub cs) hm;exact .fslice n cs' _ cap vs hcap g1 g2 g3 g4
    cases h
   cases h
  |wslice b off n esz rb cap hb hcap=>
   simp only[frz]at h;split at h
   ·rename_i hS
    have hsub: ∀cs:List AV,∀(j:Nat) (a:AV),((cs.drop off).take (n*esz))[j]? =some a->cs[off+j]? =some a:=by
     intro cs j a ha;rw[Yt]at ha;split at ha
     ·rwa [YI]at ha
     cases ha
    split at h
    ·rename_i cs hA;obtain⟨cs',hm,rfl⟩:=Yd.1 h;obtain⟨g1,vs,g2,g3,g4⟩:=hrow (off:=off) hb hS hA (.inl rfl) _ (hsub cs) hm;exact .fslice n cs' _ cap vs hcap g1 g2 g3 g4
    ·rename_i cs hA;obtain⟨cs',hm,rfl⟩:=Yd.1 h;obtain⟨g1,vs,g2,g3,g4⟩:=hrow (off:=off) hb hS hA (.inr rfl) _ (hsub cs) hm;exact .fslice n cs' _ cap vs hcap g1 g2 g3 g4
    cases h
   cases h
  |oslice b n esz rb cap e m hb hcap hs hm0=>
   simp only[frz]at h;split at h
   ·rename_i hS
    have hsub: ∀cs:List AV,∀(j:Nat) (a:AV),(cs.take (n*esz))[j]? =some a->cs[0+j]? =some a:=by
     intro cs j a ha;rw[Yt]at ha;split at ha
     ·rwa [az]
     cases ha
    split at h
    ·rename_i cs hA;obtain⟨cs',hm,rfl⟩:=Yd.1 h;obtain⟨g1,vs,g2,g3,g4⟩:=hrow (off:=0) hb hS hA (.inl rfl) _ (hsub cs) hm;exact .fslice n cs' _ cap vs hcap g1 g2 g3 g4
    ·rename_i cs hA;obtain⟨cs',hm,rfl⟩:=Yd.1 h;obtain⟨g1,vs,g2,g3,g4⟩:=hrow (off:=0) hb hS hA (.inr rfl) _ (hsub cs) hm;exact .fslice n cs' _ cap vs hcap g1 g2 g3 g4
    cases h
   cases h
  |gslice0 b esz p=>
   simp only[frz]at h
   have hfin: ∀cs:List AV,((cs.take (0*esz)).mapM (frz A S d)).map (λcs=>AV.fslice 0 cs)=some a'->R (FS F nu A S) (λ_=>none) w a' (.slice p 0 0):=by
    intro cs h;rw[bf,bh]at h;simp only[List.mapM_nil,eM,ZM,ZI]at h;subst h;exact .fslice0 _ _
   split at h
   ·split at h
    ·exact hfin _ h
    ·exact hfin _ h
    cases h
   cases h
  |gslice b n esz rb cap e m hp hb hcap hs hm0=>
   simp only[frz]at h;split at h
   ·rename_i hS
    have hsub: ∀cs:List AV,∀(j:Nat) (a:AV),(cs.take (n*esz))[j]? =some a->cs[0+j]? =some a:=by
     intro cs j a ha;rw[Yt]at ha;split at ha
     ·rwa [az]
     cases ha
    split at h
    ·rename_i cs hA;obtain⟨cs',hm,rfl⟩:=Yd.1 h;obtain⟨g1,vs,g2,g3,g4⟩:=hrow (off:=0) hb hS hA (.inl rfl) _ (hsub cs) hm;exact .fslice n cs' _ cap vs hcap g1 g2 g3 g4
    ·rename_i cs hA;obtain⟨cs',hm,rfl⟩:=Yd.1 h;obtain⟨g1,vs,g2,g3,g4⟩:=hrow (off:=0) hb hS hA (.inr rfl) _ (hsub cs) hm;exact .fslice n cs' _ cap vs hcap g1 g2 g3 g4
    cases h
   cases h
  |map b rb hb=>
   simp only[frz]at h;split at h
   ·rename_i hS;split at h
    ·rename_i ks xs hA;split at h
     ·rename_i ks' xs' hk hx;simp only[ZI]at h;subst h;obtain⟨hnF,es,c,h1,h2,h3,h4,h5,_⟩:=i.blk b rb _ hb hA;obtain⟨k1,k2⟩:=mapM_some hk;obtain⟨x1,x2⟩:=mapM_some hx;refine .fmap _ _ rb es c (.inr ⟨b,_,by simpa using hS,hb,hA,rfl⟩) h1 (by omega) (by omega) (λj a e ha he=>?_) (λj a e ha he=>?_)
      ·obtain⟨y,hy1,hy2⟩:=k2 j a ha;exact ih hy2 (h4 j y e hy1 he)
      obtain⟨y,hy1,hy2⟩:=x2 j a ha;exact ih hy2 (h5 j y e hy1 he)
     cases h
    cases h
   cases h
  |fptr cs off ad vs hFb hl hc hRc=>
   simp only[frz]at h;obtain⟨cs',hm,rfl⟩:=Yd.1 h;obtain⟨g1,g2⟩:=hlist hm hl hRc;exact .fptr cs' off ad vs (hF _ hFb) g1 hc g2
  |fslice0 Ad cap=>
   simp only[frz]at h;obtain⟨cs',hm,rfl⟩:=Yd.1 h;simp at hm;subst hm;exact .fslice0 _ _
  |fslice n cs ad cap vs hn hFb hl hc hRc=>
   simp only[frz]at h;obtain⟨cs',hm,rfl⟩:=Yd.1 h;obtain⟨g1,g2⟩:=hlist hm hl hRc;exact .fslice n cs' ad cap vs hn (hF _ hFb) g1 hc g2
  |fmap ks xs rb es c hFb hh hk hv hRk hRv=>
   simp only[frz]at h;split at h
   ·rename_i ks' xs' hk' hx';simp only[ZI]at h;subst h;obtain⟨k1,k2⟩:=mapM_some hk';obtain⟨x1,x2⟩:=mapM_some hx';refine .fmap _ _ rb es c (hF _ hFb) hh (by omega) (by omega) (λj a e ha he=>?_) (λj a e ha he=>?_)
    ·obtain⟨y,hy1,hy2⟩:=k2 j a ha;exact ih hy2 (hRk j y e hy1 he)
    obtain⟨y,hy1,hy2⟩:=x2 j a ha;exact ih hy2 (hRv j y e hy1 he)
   cases h
  |func fn fs cs vf vc h1 h2 hRf hRc=>
   simp only[frz]at h;split at h
   ·rename_i fs' cs' hf' hc';simp only[ZI]at h;subst h;obtain⟨k1,k2⟩:=mapM_some hf';obtain⟨x1,x2⟩:=mapM_some hc';refine .func _ _ _ _ _ (by omega) (by omega) (λj a v ha hv=>?_) (λj a v ha hv=>?_)
    ·obtain⟨y,hy1,hy2⟩:=k2 j a ha;exact ih hy2 (hRf j y v hy1 hv)
    obtain⟨y,hy1,hy2⟩:=x2 j a ha;exact ih hy2 (hRc j y v hy1 hv)
   cases h
  |iface t a v hv=>
   simp only[frz]at h;obtain⟨x,hx,rfl⟩:=Yd.1 h;exact .iface _ _ _ (ih hx hv)
  |agg cs vs hl hRc=>
   simp only[frz]at h;obtain⟨cs',hm,rfl⟩:=Yd.1 h;obtain⟨k1,k2⟩:=mapM_some hm;refine .agg _ _ (by omega) (λj a v ha hv=>?_);obtain⟨y,hy1,hy2⟩:=k2 j a ha;exact ih hy2 (hRc j y v hy1 hv)
  |tuple cs vs hl hRc=>
   simp only[frz]at h;obtain⟨cs',hm,rfl⟩:=Yd.1 h;obtain⟨k1,k2⟩:=mapM_some hm;refine .tuple _ _ (by omega) (λj a v ha hv=>?_);obtain⟨y,hy1,hy2⟩:=k2 j a ha;exact ih hy2 (hRc j y v hy1 hv)
theorem qqy {F':Nat->Prop} {nu':Nat->Option Nat} {w':World}: ∀(d:Nat) {a:AV} {v:Value},flat d a=true->R F nu w a v->R F' nu' w' a v:=by
 intro d
 induction d with
 |zero=>intro a v h;simp[flat]at h
 |succ d ih=>
  intro a v h hR
  cases hR with
  |undef v=>exact .undef _
  |bool b=>exact .bool _
  |int k n=>exact .int _ _
  |str s l hl=>exact .str _ _ hl
  |nilptr=>exact .nilptr
  |nilslice=>exact .nilslice
  |nilmap=>exact .nilmap
  |nilfunc=>exact .nilfunc
  |niliface=>exact .niliface
  |fslice0 A cap=>exact .fslice0 _ _
  |fslice n cs ad cap vs hn hFb hl hc hRc=>
   simp only[flat,aI,aH,dG]at h;obtain⟨rfl,rfl⟩:=h;exact .fslice0 _ _
  |iface t a v hv=>exact .iface _ _ _ (ih (by simpa[flat]using h) hv)
  |agg cs vs hl hRc=>
   simp only[flat]at h;exact .agg _ _ hl (λj a v ha hv=>ih (Yp.1 h a (Yn ha)) (hRc j a v ha hv))
  |tuple cs vs hl hRc=>
   simp only[flat]at h;exact .tuple _ _ hl (λj a v ha hv=>ih (Yp.1 h a (Yn ha)) (hRc j a v ha hv))
  |_=>simp[flat]at h
theorem vW: ∀(S:List Nat) (A:Heap) (b:Nat) (y:Blk),(qW S A)[b]? =some y->(y= .dead)\/(b∉S/\A[b]? =some y)\/(b∈S/\ ∃cs,y= .frozen cs/\(A[b]? =some (.cells cs)\/A[b]? =some (.frozen cs))):=by
 intro S
 induction S with
 |nil=>intro A b y h;exact .inr (.inl ⟨by simp,h⟩)
 |cons c S ih=>
  intro A b y h;simp only[qW,bp]at h;have h':=ih _ b y h
  cases hc:A[c]? with
  |none=>
   simp only[hc]at h';rcases h' with h1|⟨h1,h2⟩|⟨h1,cs,h2,h3⟩
   ·exact .inl h1
   ·refine .inr (.inl ⟨?_,h2⟩);intro hm;rcases bK.1 hm with rfl|hm
    ·rw[hc]at h2;cases h2
    exact h1 hm
   exact .inr (.inr ⟨by simp[h1],cs,h2,h3⟩)
  |some k=>
   simp only[hc]at h'
   have key: ∀z,(A.set c (qfB k))[b]? =some z->(b=c/\z=qfB k)\/(b≠c/\A[b]? =some z):=by
    intro z hz;rcases getElem?_set' hz with⟨h1,h2⟩|⟨h1,h2⟩
    ·exact .inl ⟨h1.symm,h2⟩
    exact .inr ⟨λe=>h1 e.symm,h2⟩
   have hfk: ∀z,z=qfB k->z= .dead\/ ∃cs,z= .frozen cs/\(k= .cells cs\/k= .frozen cs):=by
    intro z hz;subst hz;cases k<;>simp[qfB]
   rcases h' with h1|⟨h1,h2⟩|⟨h1,cs,h2,h3⟩
   ·exact .inl h1
   ·rcases key y h2 with⟨rfl,hz⟩|⟨hne,hz⟩
    ·rcases hfk y hz with h3|⟨cs,h3,h4⟩
     ·exact .inl h3
     exact .inr (.inr ⟨by simp,cs,h3,by rcases h4 with rfl|rfl<;>simp[hc]⟩)
    exact .inr (.inl ⟨by simp[hne,h1],hz⟩)
   refine .inr (.inr ⟨by simp[h1],cs,h2,?_⟩);rcases h3 with h3|h3
   ·rcases key _ h3 with⟨rfl,hz⟩|⟨_,hz⟩
    ·rcases hfk _ hz with h4|⟨cs',h4,_⟩<;>cases h4
    exact .inl hz
   rcases key _ h3 with⟨rfl,hz⟩|⟨_,hz⟩
   ·rcases hfk _ hz with h4|⟨cs',h4,h5⟩
    ·cases h4
    cases h4
    rcases h5 with rfl|rfl
    ·exact .inl hc
    exact .inr hc
   exact .inr hz
theorem zH: ∀(S:List Nat) (A:Heap),(qW S A).length=A.length:=by
 intro S
 induction S with
 |nil=>intro A;rfl
 |cons c S ih=>
  intro A;simp only[qW,bp]at ih⊢;rw[ih];split<;>simp
end
end
section
variable [Glob]
open Go.RowKit
section
variable {P:Program}
theorem qpK {call:zP} (hc:zg P call) (pl:FuncId->Bool):zg P (qlw call pl):=by
 intro c args A v' A'' h;unfold qlw at h
 cases c with
 |rd b=>exact hc _ _ _ _ _ h
 |mt t m=>exact hc _ _ _ _ _ h
 |fn f=>
  simp only at h;split at h
  ·generalize hS:qcS A 20 (qf4 [] (args.flatMap (yP 4)))=S at h;split at h
   ·rename_i args' hargs';split at h
    ·rename_i v Al hcall;split at h
     ·rename_i v0 hv0;have hok:=hc _ _ _ _ _ hcall
      refine λF nu w vs i hargs=>?_
      obtain⟨m1,m2⟩:=mapM_some hargs'
      have hR':RL (FS F nu A S) (λ_=>none) w args' vs:=by
       refine⟨by rw[hargs.1,m1],λj a v ha hv=>?_⟩;obtain⟨x,hx1,hx2⟩:=m2 j a ha;exact qhg i 12 hx2 (hargs.2 j x v hx1 hv)
      have hlt1: ∀rb,FS F nu A S rb->rb<w.heap.size:=by
       rintro rb (h|⟨b,x,_,h,_⟩)
       ·exact i.ltF rb h
       exact i.ltN b rb h
      have i1:Inv (FS F nu A S) (λ_=>none) [] w:=⟨by simp,by simp,λ_ _=>rfl,hlt1,by simp,Glob.mono i.glob (λ_ h=> .inl h) λ_ _=>rfl⟩
      have core: ∀x F2 nu2 w',Stp (FS F nu A S) (λ_=>none) [] w F2 nu2 Al w'->R F2 nu2 w' v x-> ∃F' nu',Stp F nu A w F' nu' A'' w'/\R F' nu' w' v' x:=by
       intro x F2 nu2 w' st hRv
       have noOwn: ∀rb,¬qaO (λ_=>none) [] w rb:=by
        rintro rb ⟨b,x,r,hb,_⟩;cases hb
       have hkeep: ∀rb,rb<w.heap.size->w'.heap[rb]? =w.heap[rb]? :=λrb hlt=>st.keep rb hlt (noOwn rb)
       have hF3: ∀rb,rb<w.heap.size->FS F2 nu2 Al (List.range Al.length) rb->FS F nu A S rb:=by
        rintro rb hlt (h1|⟨b,x,_,h1,h2,h3⟩)
        ·rcases st.newF rb h1 with h2|h2|h2
         ·exact h2
         ·omega
         exact absurd h2 (noOwn rb)
        exact absurd (st.own rb hlt (.of h1 h2 h3)) (noOwn rb)
       have ftO: ∀{b rb:Nat} {y:Blk} {r:Nat},nu b=some rb->Ft w' rb y r->Ft w rb y r:=λhb hf=>hf.same (hkeep _ (i.ltN _ _ hb))
       have hv3:=qhg st.inv 12 hv0 hRv;split at h
       ·rename_i hflat;simp only[ZI,ZP]at h;obtain⟨rfl,rfl⟩:=h;have x1:Ext F nu w F nu w':=⟨λ_ h=>h,λ_ _ h=>h,λrb h=>hkeep rb (i.ltF rb h),st.shape⟩;refine⟨F,nu,⟨λ_ h=>h,λ_ _ h=>h,st.shape,⟨λb rb y hb hy=>i.keepB x1 hb hy λho r hr=>⟨hkeep r (i.ftF hb hy ho hr).2,id⟩,λb b' rb rb' y y' r hb hb' hy hy' ho ho' hr hr'=>i.injF b b' rb rb' y y' r hb hb' hy hy' ho ho' (ftO hb hr) (ftO hb' hr'),i.fresh,λrb h=>?_,λb rb h=>?_,Glob.ext i.glob x1⟩,λrb hlt _=>hkeep rb hlt,λr _ ⟨b,y,rb,h1,h2,h3,h4⟩=>⟨b,y,rb,h1,h2,h3,ftO h1 h4⟩,st.size,st.os,st.tape,st.output,λ_ _=>rfl,ag _,λ_ h=> .inl h⟩,qqy 6 hflat hv3⟩
        ·have:=i.ltF rb h;have:=st.size;omega
        have:=i.ltN b rb h;have:=st.size;omega
       simp only[ZI,ZP]at h;obtain⟨rfl,rfl⟩:=h
       have fF: ∀rb,F rb->FS F2 nu2 Al (List.range Al.length) rb:=λrb h=> .inl (st.f rb (.inl h))
       have x1:Ext F nu w (FS F2 nu2 Al (List.range Al.length)) nu w':=⟨fF,λ_ _ h=>h,λrb h=>hkeep rb (i.ltF rb h),st.shape⟩;refine⟨FS F2 nu2 Al (List.range Al.length),nu,⟨fF,λ_ _ h=>h,st.shape,⟨λb rb y hb hy=>?_,λb b' rb rb' y y' r hb hb' hy hy' ho ho' hr hr'=>?_,λb hb=>i.fresh b (by rwa [zH]at hb),λrb h=>?_,λb rb h=>?_,Glob.ext i.glob x1⟩,λrb hlt _=>hkeep rb hlt,?_,st.size,st.os,st.tape,st.output,λ_ _=>rfl,by rw[zH];exact ag _,λrb h=>?_⟩,hv3.mono ⟨λ_ h=>h,by simp,λ_ _=>rfl,λ_ _ h=>h⟩⟩
       ·have hlt:=i.ltN b rb hb;rcases vW S A b y hy with rfl|⟨hnS,hA⟩|⟨hS2,cs,rfl,hA⟩
        ·trivial
        ·refine i.keepB x1 hb hA λhyo r hr=>⟨hkeep r (i.ftF hb hA hyo hr).2,λhf=>?_⟩
         rcases hF3 r (i.ftF hb hA hyo hr).2 hf with h1|⟨b',x',h1,h2,h3,h4⟩
         ·exact h1
         exact absurd (i.injF b b' rb r y x' r hb h2 hA h3 hyo h4 hr (.inl rfl)▸h1) hnS
        rcases hA with hA|hA
        ·obtain⟨h0,vs2,e,h1,h2,h3⟩:=i.blk b rb _ hb hA;exact⟨.inl (st.f rb (.inr ⟨b,_,hS2,hb,hA,rfl⟩)),vs2,e,_,(hkeep rb hlt).trans h1,h2,λj a v ha hv=>(h3 j a v ha hv).mono x1⟩
        obtain⟨h0,vs2,e,fr,h1,h2,h3⟩:=i.blk b rb _ hb hA;exact⟨fF rb h0,vs2,e,fr,(hkeep rb hlt).trans h1,h2,λj a v ha hv=>(h3 j a v ha hv).mono x1⟩
       ·have old: ∀(b:Nat) (y:Blk),(qW S A)[b]? =some y->y.owned=true->A[b]? =some y:=by
         intro b y hy ho;rcases vW S A b y hy with rfl|⟨_,hA⟩|⟨_,cs,rfl,_⟩
         ·cases ho
         ·exact hA
         cases ho
        exact i.injF b b' rb rb' y y' r hb hb' (old b y hy ho) (old b' y' hy' ho') ho ho' (ftO hb hr) (ftO hb' hr')
       ·rcases h with h|⟨b,x,_,h,_⟩
        ·exact st.inv.ltF rb h
        exact st.inv.ltN b rb h
       ·have:=i.ltN b rb h;have:=st.size;omega
       ·rintro r hlt ⟨b,y,rb,hb,hy,ho,hf⟩;rcases vW S A b y hy with rfl|⟨_,hA⟩|⟨_,cs,rfl,_⟩
        ·cases ho
        ·exact⟨b,y,rb,hb,hA,ho,ftO hb hf⟩
        cases ho
       rcases ak rb w.heap.size with hlt|hge
       ·rcases hF3 rb hlt h with h1|⟨b,x,_,h1,h2,h3⟩
        ·exact .inl h1
        exact .inr (.inr (.of h1 h2 h3))
       exact .inr (.inl hge)
      rcases hok _ _ w vs i1 hR' with⟨hent,hcalls⟩|⟨x,w',F2,nu2,hrun,st,hRv⟩
      ·refine .inl ⟨hent,hcalls.mono ?_⟩;rintro e w' ⟨x,F2,nu2,rfl,st,hRv⟩;obtain⟨F',nu',h1,h2⟩:=core x F2 nu2 w' st hRv;exact⟨x,F',nu',rfl,h1,h2⟩
      obtain⟨F',nu',h1,h2⟩:=core x F2 nu2 w' st hRv;exact .inr ⟨x,w',F',nu',hrun,h1,h2⟩
     cases h
    cases h
   cases h
  exact hc _ _ _ _ _ h
def qrO (P:Program) (N:Nat) (pre:zP) (pl:FuncId->Bool):Nat->zP
 |0=>pre
 |d+1=>λc args A=>match pre c args A with
  |some r=>some r
  |none=>qlw (qmd P (qrO P N pre pl d) N) pl c args A
theorem qnP {call:zP} {N:Nat} (hm:P.follows .mixedOrders=true) (hc:zg P call):zg P (qmd P call N):=by
 intro c args A v A' h
 cases c with
 |fn f=>exact qoS hc hm h
 |rd b=>exact qoW hc hm h
 |mt t m=>cases h
end
end
section
variable [Glob]
open Go.RowKit
def orElse (a b:zP):zP:=λc args A=>match a c args A with
 |some r=>some r
 |none=>b c args A
def only(f:FuncId) (spec:List AV->Option AV):zP:=λc args A=>match c with
 | .fn g=>if g=f then(spec args).map λv=>(v,A)else none
 | .rd _=>none
 | .mt _ _=>none
def qnd:zP:=λ_ _ _=>none
section
variable {P:Program}
theorem ql2:zg P qnd:=λ_ _ _ _ _ h=>by cases h
theorem qnK {a b:zP} (ha:zg P a) (hb:zg P b):zg P (orElse a b):=by
 intro c args A v A' h;unfold orElse at h;split at h
 ·rename_i r hr;injection h with h;subst h;exact ha _ _ _ _ _ hr
 exact hb _ _ _ _ _ h
section
variable {F:Nat->Prop} {nu:Nat->Option Nat} {A:Heap} {w:World}
theorem Stp.kept (i:Inv F nu A w) {w':World} (hk: ∀rb,rb<w.heap.size->w'.heap[rb]? =w.heap[rb]?) (hs:w.heap.size<=w'.heap.size) (ho:w'.os=w.os) (ht:w'.tape=w.tape) (hp:w'.output=w.output):Stp F nu A w F nu A w':=by
 have shape: ∀rb s,w.shape? rb=some s->w'.shape? rb=some s:=by
  intro rb s h
  have hlt:rb<w.heap.size:=by
   rcases ak rb w.heap.size with h1|h1
   ·exact h1
   simp[World.shape?,Array.getElem?_eq_none h1]at h
  rw[<-h];simp only[World.shape?,hk rb hlt]
 have x:Ext F nu w F nu w':=⟨λ_ h=>h,λ_ _ h=>h,λrb h=>hk rb (i.ltF rb h),shape⟩
 have ftO: ∀{b rb:Nat} {y:Blk} {r:Nat},nu b=some rb->Ft w' rb y r->Ft w rb y r:=λhb hf=>hf.same (hk _ (i.ltN _ _ hb))
 exact⟨x.f,x.n,x.shape,⟨λb rb k hb hA=>i.keepB x hb hA λho r hr=>⟨hk r (i.ftF hb hA ho hr).2,id⟩,λb b' rb rb' y y' r hb hb' hy hy' ho ho' hr hr'=>i.injF b b' rb rb' y y' r hb hb' hy hy' ho ho' (ftO hb hr) (ftO hb' hr'),i.fresh,λrb h=>bW (i.ltF rb h) hs,λb rb h=>bW (i.ltN b rb h) hs,Glob.ext i.glob x⟩,
  λrb hlt _=>hk rb hlt,λr _ ⟨b,y,rb,h1,h2,h3,h4⟩=>⟨b,y,rb,h1,h2,h3,ftO h1 h4⟩,hs,ho,ht,hp,λ_ _=>rfl,ag _,λ_ h=> .inl h⟩
end
structure Kept (w w':World):Prop where
 heap: ∀rb,rb<w.heap.size->w'.heap[rb]? =w.heap[rb]?
 size:w.heap.size<=w'.heap.size
 os:w'.os=w.os
 tape:w'.tape=w.tape
 output:w'.output=w.output
inductive Scal:AV->Value->Prop
 |int (k:IntKind) (n:Int):Scal (.int k n) (.int k n)
 |bool (b:Bool):Scal (.bool b) (.bool b)
 |str (s:ByteArray):Scal (.str s.data.toList) (.string s)
theorem qf.ofCalls {f:FuncId} {args:List AV} {v:AV} (he:Enters P f)
 (h: ∀F nu w (vs:Array Value),Glob.G F w->RL F nu w args vs-> ∃x,R (λ_=>False) (λ_=>none) w v x/\Calls P f vs w λe w'=>e= .returned x/\Kept w w') (A:Heap):qf P (.fn f) args A v A:=by
 intro F nu w vs i hargs;obtain⟨x,hR,hc⟩:=h F nu w vs i.glob hargs;refine .inl ⟨he,hc.mono ?_⟩;rintro e w' ⟨rfl,hk⟩;have st:=Stp.kept i hk.heap hk.size hk.os hk.tape hk.output;exact⟨x,F,nu,rfl,st,hR.mono ⟨λ_ h=>h.elim,by simp,λ_ h=>h.elim,st.shape⟩⟩
end
theorem RL.cons_inv {F:Nat->Prop} {nu:Nat->Option Nat} {w:World} {a:AV} {as:List AV} {vs:Array Value} (h:RL F nu w (a::as) vs): ∃(v:Value) (ws:List Value),vs=(v::ws).toArray/\R F nu w a v/\RL F nu w as ws.toArray:=by
 obtain⟨h1,h2⟩:=h;obtain⟨l⟩:=vs
 cases l with
 |nil=>simp at h1
 |cons v ws=>
  refine⟨v,ws,rfl,h2 0 a v rfl rfl,by simpa using h1,λi b y hb hy=>h2 (i+1) b y (by simpa using hb) (by simpa using hy)⟩
theorem RL.nil_inv {F:Nat->Prop} {nu:Nat->Option Nat} {w:World} {ws:List Value} (h:RL F nu w [] ws.toArray):ws=[]:=by
 have:=h.1;simpa using this
theorem R.int_inv {F:Nat->Prop} {nu:Nat->Option Nat} {w:World} {k:IntKind} {n:Int} {v:Value} (h:R F nu w (.int k n) v):v= .int k n:=by cases h;rfl
theorem R.bool_inv {F:Nat->Prop} {nu:Nat->Option Nat} {w:World} {b:Bool} {v:Value} (h:R F nu w (.bool b) v):v= .bool b:=by cases h;rfl
theorem R.str_inv {F:Nat->Prop} {nu:Nat->Option Nat} {w:World} {s:List UInt8} {v:Value} (h:R F nu w (.str s) v): ∃b:ByteArray,v= .string b/\b.data.toList=s:=by
 cases h with
 |str b l hl=>exact⟨b,rfl,hl⟩
end
end Go.Av
end
