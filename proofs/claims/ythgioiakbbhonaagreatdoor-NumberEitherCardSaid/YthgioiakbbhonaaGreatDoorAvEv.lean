/-
  Calls and rounds: one operation of any kind; operations in the order of the text.
-/
import Derived.Test.YthgioiakbbhonaaGreatDoorAvRun
import Derived.OrdersIn
import Derived.RangeFuncIn
set_option linter.unusedSectionVars false
noncomputable section
namespace Go.Av
section
variable [Glob]
open Go.RowKit
inductive Cl where
 |fn (f:FuncId)
 |rd (b:Nat)
 |mt (t:TypeId) (m:String)
def jM (o:Oper) (ρ:Operand->AV):Option (Cl×List AV):=
 match o.op with
 | .call c=>match c.callee with
   | .value f=>match ρ f with
     | .func (.func g) first captured=>some (.fn g,first++c.args.toList.map ρ++captured)
     | .yld b=>some (.rd b,c.args.toList.map ρ)
     |_=>none
   | .invoke r m=>match ρ r with
     | .iface t v=>some (.mt t m,v::c.args.toList.map ρ)
     |_=>none
   |_=>none
 |_=>none
def qaK (ops:Array Oper) (o:Oper) (fr:Fr):Option Bool:=
 match o.guard with
 |none=>some true
 |some (j,want)=>match(ops[j]?).bind (·.dst)with
  |some d=>match fr.get d with
   | .bool b=>some (b==want)
   | .tuple _=>some false
   |_=>none
  |none=>none
abbrev zP:=Cl->List AV->Heap->Option (AV×Heap)
section
variable (P:Program) (call:zP)
def qbi (o:Oper) (fr:Fr) (A:Heap):Res:=
 match jM o (yJ fr)with
 |some (g,args)=>(call g args A).map λr=>(r.1,r.2,[])
 |none=>exec (aop P o (yJ fr)) A []
def qcK (ops:Array Oper):List Nat->Fr->Heap->Option (Fr×Heap)
 |[],fr,A=>some (fr,A)
 |i::rest,fr,A=>
  match ops[i]? with
  |none=>qcK ops rest fr A
  |some o=>
   match qaK ops o fr with
   |some true=>match qbi P call o fr A with
    |some (v,A',_)=>qcK ops rest (qdF fr o.dst v) A'
    |none=>none
   |some false=>qcK ops rest (qdF fr o.dst (.tuple [])) A
   |none=>none
def qfb (ops:Array Oper):List Oper->Fr->Heap->Option (Fr×Heap)
 |[],fr,A=>some (fr,A)
 |o::rest,fr,A=>
  match qaK ops o fr with
  |some true=>match qbi P call o fr A with
   |some (v,A',_)=>qfb ops rest (qdF fr o.dst v) A'
   |none=>none
  |some false=>qfb ops rest (qdF fr o.dst (.tuple [])) A
  |none=>none
end
theorem qks {P:Program} {call:zP} {ops:Array Oper}: ∀(rest pre:List Oper),ops.toList=pre++rest-> ∀fr A,qcK P call ops (List.range' pre.length rest.length) fr A=qfb P call ops rest fr A:=by
 intro rest
 induction rest with
 |nil=>intro pre _ fr A;rfl
 |cons o rest ih=>
  intro pre h fr A
  have ho:ops[pre.length]? =some o:=by
   rw[<-YT,h];simp
  have ih':=ih (pre++[o]) (by simp[h]);simp only[Yq,Yr,be,az]at ih';simp only[Yr,List.range'_succ,qcK,ho,qfb];split
  ·split
   ·exact ih' _ _
   rfl
  ·exact ih' _ _
  rfl
theorem qjj {P:Program} {call:zP} {ops:Array Oper} (fr:Fr) (A:Heap):qcK P call ops (List.range ops.size) fr A=qfb P call ops ops.toList fr A:=by
 have:=qks (P:=P) (call:=call) (ops:=ops) ops.toList [] rfl fr A;rw[<-this,List.range_eq_range'];simp
def Enters (P:Program) (f:FuncId):Prop:= ∃fn,P.funcs[f]? =some fn/\(fn.name== "runtime.NumGoroutine")=false/\fn.body.isNone=false
def fz (r:Option Nat):Fence:={Fence.wide with round:=r}
theorem qiA (r:Option Nat) (n:Nat):(fz r).depth.isSome=true->1<=n:=λh=>by simp[fz,Fence.wide]at h
theorem qle {r:Option Nat} {n:Nat} {P:Program} {f:FuncId} {args:Array Value} {w:World} {R:Ending->World->Prop} (h:Calls P f args w R):CallsIn (fz r) n P f args w R:=by
 have h1:CallsIn Fence.wide n P f args w R:=callsIn_wide.2 h;exact h1
theorem qpO {r:Option Nat} {n:Nat} {P:Program} {l:Nat} {f:FuncId} {tmps:Array Value} {asg body:Code} {w:World} {R:Ending->World->Prop} (h:RoundIn Fence.wide 0 P l f tmps asg body w R):RoundIn (fz r) n P l f tmps asg body w R:=
 ⟨trivial,λc cs _=>h.2 c cs (room_wide _)⟩
def qqv (P:Program) (t:TypeId) (m:String) (f:FuncId):Prop:= ∀(x:Value) (vs:Array Value) (w:World),(callMethod (.iface t x) m vs).run P w= .ok (.enter f (#[x]++vs)) w
def qf (P:Program) (c:Cl) (args:List AV) (A:Heap) (v:AV) (A':Heap):Prop:=
 match c with
 | .fn f=> ∀F nu w (vs:Array Value),Inv F nu A w->RL F nu w args vs->
  (Enters P f/\Calls P f vs w λe w'=> ∃x F' nu',e= .returned x/\Stp F nu A w F' nu' A' w'/\R F' nu' w' v x)\/
  ∃x w' F' nu',(callFunc f vs).run P w= .ok (.value x) w'/\Stp F nu A w F' nu' A' w'/\R F' nu' w' v x
 | .rd b=> ∀F nu w (vs:Array Value) rb,Inv F nu A w->RL F nu w args vs->nu b=some rb->
  ∃fn tmps asg body,(Instr.yield rb vs).run P w= .ok (.round rb fn tmps asg body) w/\
   RoundIn Fence.wide 0 P rb fn tmps asg body w λe w'=> ∃x F' nu',e= .returned x/\Stp F nu A w F' nu' A' w'/\R F' nu' w' v x
 | .mt t m=> ∃f,qqv P t m f/\ ∀F nu w (vs:Array Value),Inv F nu A w->RL F nu w args vs->
  Calls P f vs w λe w'=> ∃x F' nu',e= .returned x/\Stp F nu A w F' nu' A' w'/\R F' nu' w' v x
def zg (P:Program) (call:zP):Prop:= ∀f args A v A',call f args A=some (v,A')->qf P f args A v A'
section
variable {P:Program} {F:Nat->Prop} {nu:Nat->Option Nat} {A:Heap} {w:World}
theorem qew {f:FuncId} (h:Enters P f) (args:Array Value) (w:World):(callFunc f args).run P w= .ok (.enter f args) w:=by
 obtain⟨fn,h1,h2,h3⟩:=h;simp only[callFunc,Sem.run_bind,run_program,Result.andThen_ok,h1,h2,h3,ZF,aU,Sem.run_pure]
def qkk (P:Program) (f:FuncId):Bool:=
 match P.funcs[f]? with
 |some fn=>!(fn.name== "runtime.NumGoroutine")&&!fn.body.isNone
 |none=>false
theorem enters_of {f:FuncId} (h:qkk P f=true):Enters P f:=by
 unfold qkk at h;split at h
 ·rename_i fn hf;simp only[aI,cV]at h;exact⟨fn,hf,h.1,h.2⟩
 cases h
theorem qf.calls {f:FuncId} {args:List AV} {v:AV} {A':Heap} (hok:qf P (.fn f) args A v A') (he:Enters P f) {vs:Array Value} (i:Inv F nu A w) (h:RL F nu w args vs):
 Calls P f vs w λe w'=> ∃x F' nu',e= .returned x/\Stp F nu A w F' nu' A' w'/\R F' nu' w' v x:=by
 rcases hok F nu w vs i h with h1|⟨x,w',F',nu',hrun,_⟩
 ·exact h1.2
 rw[qew he]at hrun;simp at hrun
theorem RL.append {xs ys:List AV} {us vs:Array Value} (h:RL F nu w xs us) (k:RL F nu w ys vs):RL F nu w (xs++ys) (us++vs):=by
 refine⟨by simp[h.1,k.1],λj a v ha hv=>?_⟩;have h0:=h.1;rcases ak j xs.length with hj|hj
 ·rw[Yf hj]at ha;rw[YC (by omega)]at hv;exact h.2 j a v ha hv
 rw[Yo hj]at ha;rw[Array.getElem?_append_right (by omega),h0]at hv;exact k.2 _ a v ha hv
theorem qhO:R F nu w (.tuple []) undef:= .tuple [] _ rfl (by simp)
theorem qce {ops:Array Oper} {o:Oper} {fr:Fr} {tmps:Array Value} (h:RF F nu w fr tmps) {b:Bool} (hw:qaK ops o fr=some b):Region.wanted o (yielded ops tmps)=b:=by
 unfold qaK at hw;unfold Region.wanted;split at hw
 ·rename_i hg;injection hw with hw;subst hw;simp[hg]
 rename_i j want hg;simp only[hg];split at hw
 ·rename_i d hd;split at hw
  ·rename_i c hc;injection hw with hw;subst hw
   have hlt2:d<tmps.size:=by
    rcases ak d tmps.size with hlt|hge
    ·exact hlt
    rw[h.out d (by rw[<-h.size];exact hge)]at hc;cases hc
   have hR:=h.at_ d _ (Yi hlt2);rw[hc]at hR
   have hv:tmps[d]? =some (.bool c):=by
    rw[Yi hlt2];generalize tmps[d]=y at hR;cases hR
    rfl
   have hd':(ops[j]?).bind (λx=>x.dst)=some d:=hd;simp only[yielded,hd',ZB,hv];cases c<;>cases want<;>rfl
  ·rename_i ts hc;injection hw with hw;subst hw
   have hlt2:d<tmps.size:=by
    rcases ak d tmps.size with hlt|hge
    ·exact hlt
    rw[h.out d (by rw[<-h.size];exact hge)]at hc;cases hc
   have hR:=h.at_ d _ (Yi hlt2);rw[hc]at hR
   have hv: ∃vs,tmps[d]? =some (.tuple vs):=by
    rw[Yi hlt2];generalize tmps[d]=y at hR
    cases hR with
    |tuple _ vs _ _=>exact⟨vs,rfl⟩
   obtain⟨vs,hv⟩:=hv;have hd':(ops[j]?).bind (λx=>x.dst)=some d:=hd;simp only[yielded,hd',ZB,hv];rfl
  cases hw
 cases hw
theorem qhm {o:Oper} {ρ:Operand->AV} {c:Cl} {args:List AV} (h:jM o ρ=some (c,args)): ∃cl,o.op= .call cl/\
 ((∃fo,cl.callee= .value fo/\((∃g first captured,ρ fo= .func (.func g) first captured/\c= .fn g/\args=first++cl.args.toList.map ρ++captured)\/ ∃b,ρ fo= .yld b/\c= .rd b/\args=cl.args.toList.map ρ))\/
  ∃r m t v,cl.callee= .invoke r m/\ρ r= .iface t v/\c= .mt t m/\args=v::cl.args.toList.map ρ):=by
 unfold jM at h;split at h
 ·rename_i cl hop;split at h
  ·rename_i fo hcal;split at h
   ·rename_i g first captured hf;simp only[ZI,ZP]at h;exact⟨cl,hop,.inl ⟨fo,hcal,.inl ⟨g,first,captured,hf,h.1.symm,h.2.symm⟩⟩⟩
   ·rename_i b hf;simp only[ZI,ZP]at h;exact⟨cl,hop,.inl ⟨fo,hcal,.inr ⟨b,hf,h.1.symm,h.2.symm⟩⟩⟩
   cases h
  ·rename_i r m hcal;split at h
   ·rename_i t v hf;simp only[ZI,ZP]at h;exact⟨cl,hop,.inr ⟨r,m,t,v,hcal,hf,h.1.symm,h.2.symm⟩⟩
   cases h
  cases h
 cases h
theorem qfR {call:zP} (hc:zg P call) (i:Inv F nu A w) {o:Oper} {fr:Fr} {a:Act} (h:RF F nu w fr a.tmps) {c:Cl} {args:List AV} (hcl:jM o (yJ fr)=some (c,args)) {v:AV} {A':Heap} (hr:call c args A=some (v,A')):
 (∀d,o.op≠ .defer d)/\((∃f vs,(execOp a.eval o).run P w= .ok (.enter f vs) w/\Calls P f vs w λe w'=> ∃x F' nu',e= .returned x/\Stp F nu A w F' nu' A' w'/\R F' nu' w' v x)\/
  (∃l fn tmps asg body,(execOp a.eval o).run P w= .ok (.round l fn tmps asg body) w/\RoundIn Fence.wide 0 P l fn tmps asg body w λe w'=> ∃x F' nu',e= .returned x/\Stp F nu A w F' nu' A' w'/\R F' nu' w' v x)\/
  ∃x w' F' nu',(execOp a.eval o).run P w= .ok (.value x) w'/\Stp F nu A w F' nu' A' w'/\R F' nu' w' v x):=by
 obtain⟨cl,hop,hcase0⟩:=qhm hcl;refine⟨λd hd=>(by rw[hop]at hd;cases hd),?_⟩;have hargs:=RL.map (λx=>h.eval i.glob x) cl.args.toList;have hok:=hc _ _ _ _ _ hr;rcases hcase0 with⟨fo,hcal,hcase⟩|⟨r,m,t,v0,hcal,hf,rfl,rfl⟩
 case inr=>
  obtain⟨f,hm,hcall⟩:=hok;have hrv:=h.eval i.glob r;rw[hf]at hrv;generalize hz:a.eval r=z at hrv
  cases hrv with
  |iface _ _ x hx=>
   refine .inl ⟨f,#[x]++cl.args.map a.eval,?_,hcall F nu w _ i ⟨by simp;omega,λj b y hb hy=>?_⟩⟩
   ·simp only[execOp,hop,resolve,hcal,hz,Sem.run_bind,Sem.run_pure,Result.andThen_ok,invoke]
    have e0:(#[Value.iface t x]++Array.map a.eval cl.args)[0]? =some (.iface t x):=by
     rw[YC (by simp)];rfl
    have e1:(#[Value.iface t x]++Array.map a.eval cl.args).extract 1 (#[Value.iface t x]++Array.map a.eval cl.args).size=Array.map a.eval cl.args:=by
     apply Array.ext'
     have e2:(List.map a.eval cl.args.toList).length=cl.args.size:=by simp
     simp only[Array.toList_extract,dS,Array.toList_map,List.extract_eq_take_drop];simp only[cK,bn,dp,YR,cW,Array.size_map];rw[show #[Value.iface t x].size+cl.args.size-1=(List.map a.eval cl.args.toList).length by rw[e2];simp,bJ]
    simp only[e0,e1];exact hm x _ w
   cases j with
   |zero=>
    rw[YC (by simp)]at hy;simp at hb hy;subst hb hy;exact hx
   |succ j=>exact hargs.2 j b y (by simpa using hb) (by
    rw[Array.getElem?_append_right (by simp)]at hy
    simpa using hy)
 have hfv:=h.eval i.glob fo;generalize hz:a.eval fo=z at hfv;have hargs2:RL F nu w (cl.args.toList.map (yJ fr)) (cl.args.map a.eval):=⟨by simp,λj b y hb hy=>hargs.2 j b y hb (by simpa using hy)⟩;rcases hcase with⟨g,first,captured,hf,rfl,rfl⟩|⟨b,hf,rfl,rfl⟩
 ·rw[hf]at hfv
  cases hfv with
  |func _ _ _ vf vc h1 h2 hff hcc=>
   rcases hok F nu w _ i (RL.append (RL.append ⟨h1,hff⟩ hargs2) ⟨h2,hcc⟩)with⟨hent,hcall⟩|⟨x,w',F',nu',hrun,hst,hR⟩
   ·refine .inl ⟨g,vf++cl.args.map a.eval++vc,?_,hcall⟩;simp only[execOp,hop,resolve,hcal,Deferred.ofValue,hz,Sem.run_bind,Sem.run_pure,Result.andThen_ok,invoke];exact qew hent _ _
   refine .inr (.inr ⟨x,w',F',nu',?_,hst,hR⟩);simp only[execOp,hop,resolve,hcal,Deferred.ofValue,hz,Sem.run_bind,Sem.run_pure,Result.andThen_ok,invoke];exact hrun
 rw[hf]at hfv
 cases hfv with
 |yld _ rb hb=>
  obtain⟨fn,tmps,asg,body,hy,hround⟩:=hok F nu w _ rb i hargs2 hb;refine .inr (.inl ⟨rb,fn,tmps,asg,body,?_,hround⟩);simp only[execOp,hop,resolve,hcal,Deferred.ofValue,hz,Sem.run_bind,Sem.run_pure,Result.andThen_ok,invoke];simpa using hy
theorem qn1 {o:Oper} {ρ:Operand->AV} {f:zG} {r:AV×Heap×zG} (h:exec (aop P o ρ) A f=some r): ∀d,o.op≠ .defer d:=by
 intro d hd;obtain⟨dst,op,type,pos,after,guard⟩:=o;simp only at hd;subst hd;simp[aop,zx,exec]at h
theorem qjg {call:zP} (hc:zg P call) (i:Inv F nu A w) {o:Oper} {fr:Fr} {a:Act} (h:RF F nu w fr a.tmps) {v:AV} {A':Heap} {f':zG} (hs:qbi P call o fr A=some (v,A',f')) {rr:Option Nat} {n:Nat} {K:Act->World->Prop} {Q:Exit->Act->World->Prop}
 (hk: ∀x F' nu' w',Stp F nu A w F' nu' A' w'->R F' nu' w' v x->RF F' nu' w' (qdF fr o.dst v) (a.put o.dst x).tmps->K (a.put o.dst x) w'):o.wpIn (fz rr) n P a w K Q:=by
 refine⟨λ_ _=>trivial,?_⟩;unfold qbi at hs;split at hs
 ·rename_i c args hg;obtain⟨r,hr,he⟩:=Yd.1 hs;simp only[ZP]at he;obtain⟨rfl,rfl,_⟩:=he;obtain⟨hnd,hcase⟩:=qfR hc i h hg hr;rw[Oper.semAt_eq _ _ _ hnd];rcases hcase with⟨f,vs,hrun,hcall⟩|⟨l,fn,tmps,asg,body,hrun,hround⟩|⟨x,w',F',nu',hrun,hst,hR⟩
  case inr.inr=>
   rw[hrun];exact hk x F' nu' w' hst hR ((h.mono (hst.ext i)).setDst _ hR)
  ·rw[hrun];refine⟨qiA _ _,qle (hcall.mono ?_)⟩;rintro e w' ⟨x,F',nu',rfl,hst,hR⟩;exact hk x F' nu' w' hst hR ((h.mono (hst.ext i)).setDst _ hR)
  rw[hrun];refine⟨qiA _ _,qpO (hround.mono ?_)⟩;rintro e w' ⟨x,F',nu',rfl,hst,hR⟩;exact hk x F' nu' w' hst hR ((h.mono (hst.ext i)).setDst _ hR)
 rw[Oper.semAt_eq _ _ _ (qn1 hs)];obtain⟨x,w',nu',hrun,hst,hR⟩:=qjs i (λx=>h.eval i.glob x) hs;have:=hk x F nu' w' hst hR ((h.mono (hst.ext i)).setDst _ hR);rcases hrun with hrun|⟨hrun,rfl⟩
 ·rw[hrun];exact this
 rw[hrun];exact this
theorem qpX {call:zP} (hc:zg P call) (i:Inv F nu A w) {o:Oper} {fr:Fr} {tmps:Array Value} (h:RF F nu w fr tmps) {v:AV} {A':Heap} {f':zG}
 (hs:qbi P call o fr A=some (v,A',f')): ∃x F' nu' w',Stp F nu A w F' nu' A' w'/\R F' nu' w' v x:=by
 unfold qbi at hs;split at hs
 ·rename_i c args hg;obtain⟨r,hr,he⟩:=Yd.1 hs;simp only[ZP]at he;obtain⟨rfl,rfl,_⟩:=he;obtain⟨_,hcase⟩:=qfR (a:=⟨tmps,[]⟩) hc i h hg hr;rcases hcase with⟨f,vs,_,hcall⟩|⟨l,fn,tm,asg,body,_,hround⟩|⟨x,w',F',nu',_,hst,hR⟩
  case inr.inr=>exact⟨x,F',nu',w',hst,hR⟩
  ·obtain⟨e,w',_,⟨x,F',nu',_,h3,h4⟩,_⟩:=hcall [];exact⟨x,F',nu',w',h3,h4⟩
  obtain⟨e,w',⟨x,F',nu',_,h3,h4⟩,_⟩:=hround.2 default [] (room_wide _);exact⟨x,F',nu',w',h3,h4⟩
 obtain⟨x,w',nu',_,hst,hR⟩:=qjs i (λx=>h.eval (a:=⟨tmps,[]⟩) i.glob x) hs;exact⟨x,F,nu',w',hst,hR⟩
theorem ql4 {call:zP} (hc:zg P call) {rr:Option Nat} {n:Nat} {ops:Array Oper} {Q:Exit->Act->World->Prop}: ∀(l:List Nat) {F:Nat->Prop} {nu:Nat->Option Nat} {A:Heap} {w:World} (_:Inv F nu A w) {fr:Fr} {a:Act} (_:RF F nu w fr a.tmps) {fr':Fr} {A':Heap}
 (_:qcK P call ops l fr A=some (fr',A')) (_: ∀F' nu' w' a',a'.defers=a.defers->Stp F nu A w F' nu' A' w'->RF F' nu' w' fr' a'.tmps->Q .normal a' w'),wpOpsIn (fz rr) n P ops Q l a w:=by
 intro l
 induction l with
 |nil=>
  intro F nu A w i fr a h fr' A' he hq;simp only[qcK,ZI,ZP]at he;obtain⟨rfl,rfl⟩:=he;exact hq F nu w a rfl (.refl i) h
 |cons j rest ih=>
  intro F nu A w i fr a h fr' A' he hq;simp only[qcK]at he;simp only[wpOpsIn]
  cases ho:ops[j]? with
  |none=>
   simp only[ho]at he⊢;exact ih i h he hq
  |some o=>
   simp only[ho]at he⊢;split at he
   ·rename_i hw;split at he
    ·rename_i v A1 f1 hs;rw[ae (qce h hw)];refine qjg hc i h hs (λx F' nu' w' hst hR hfr=>?_);exact ih hst.inv hfr he (λF2 nu2 w2 a2 hd hst2 hfr2=>hq F2 nu2 w2 a2 (by rw[hd];cases o.dst<;>rfl) (hst.trans hst2) hfr2)
    cases he
   ·rename_i hw;have:=qce h hw;rw[aa (by rw[this];simp)];exact⟨λ_ _=>trivial,ih i (h.setDst _ qhO) he (λF2 nu2 w2 a2 hd hst2 hfr2=>hq F2 nu2 w2 a2 (by rw[hd];cases o.dst<;>rfl) hst2 hfr2)⟩
   cases he
end
end
inductive XA where
 |normal
 |exit (id:Nat)
 |ret
abbrev St:=Fr×Heap
def qfK:Nat->(St->Option (XA×St))->St->Option (XA×St)
 |0,_,_=>none
 |n+1,f,s=>match f s with
  |some (.normal,s')=>qfK n f s'
  |r=>r
def jJ (P:Program) (fr:Fr) (A:Heap):List ResultVar->Option (List AV)
 |[]=>some []
 | .tmp t::rs=>(jJ P fr A rs).map (fr.get t:: ·)
 | .cell a t::rs=>match exec (qX P t (fr.get a)) A [],jJ P fr A rs with
   |some (v,_,_),some vs=>some (v::vs)
   |_,_=>none
def qgP:List AV->AV
 |[v]=>v
 |vs=> .tuple vs
end Go.Av
end
