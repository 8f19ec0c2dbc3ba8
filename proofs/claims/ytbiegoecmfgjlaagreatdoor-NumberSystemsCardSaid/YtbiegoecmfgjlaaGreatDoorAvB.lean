/-
  Calls and rounds: one operation of any kind; operations in the order of the text.
-/
import Derived.Test.YtbiegoecmfgjlaaGreatDoorAvA
import Derived.OrdersIn
import Derived.RangeFuncIn
import Derived.RangeFuncRecord
set_option linter.all false
noncomputable section
namespace Go.Av
section
variable [Glob]
open Go.RowKit
inductive Cl where
 |fn (f:FuncId)
 |rd (b:Nat)
 |mt (t:TypeId) (m:String)
def jL (o:Oper) (ρ:Operand->AV):Option (Cl×List AV):=
 match o.op with
 | .call c=>match c.callee with
   | .value f=>match ρ f with
     | .func (.func g) first captured=>some (.fn g,first++c.args.toList.map ρ++captured)
     | .yld b=>some (.rd b,c.args.toList.map ρ)
     |_=>none
   | .invoke r m=>match ρ r with
     | .iface t v=>some (.mt t m,v::c.args.toList.map ρ)
     |_=>none
   |_=>none
 |_=>none
def qa2 (ops:Array Oper) (o:Oper) (fr:Fr):Option Bool:=
 match o.guard with
 |none=>some true
 |some (j,want)=>match(ops[j]?).bind (·.dst)with
  |some d=>match fr.get d with
   | .bool b=>some (b==want)
   | .tuple _=>some false
   |_=>none
  |none=>none
abbrev zB:=Cl->List AV->Heap->Option (AV×Heap)
section
variable (P:Program) (call:zB)
def qbF (o:Oper) (fr:Fr) (A:Heap):Res:=
 match jL o (yj fr)with
 |some (g,args)=>(call g args A).map λr=>(r.1,r.2,[])
 |none=>exec (aop P o (yj fr)) A []
def qdi (ops:Array Oper):List Nat->Fr->Heap->Option (Fr×Heap)
 |[],fr,A=>some (fr,A)
 |i::rest,fr,A=>
  match ops[i]? with
  |none=>qdi ops rest fr A
  |some o=>
   match qa2 ops o fr with
   |some true=>match qbF P call o fr A with
    |some (v,A',_)=>qdi ops rest (qel fr o.dst v) A'
    |none=>none
   |some false=>qdi ops rest (qel fr o.dst (.tuple [])) A
   |none=>none
def qfT (ops:Array Oper):List Oper->Fr->Heap->Option (Fr×Heap)
 |[],fr,A=>some (fr,A)
 |o::rest,fr,A=>
  match qa2 ops o fr with
  |some true=>match qbF P call o fr A with
   |some (v,A',_)=>qfT ops rest (qel fr o.dst v) A'
   |none=>none
  |some false=>qfT ops rest (qel fr o.dst (.tuple [])) A
  |none=>none
end
def qlA {P:Program}{call:zB}{ops:Array Oper}:∀(rest pre:List Oper),ops.toList=pre++rest->∀fr A,qdi P call ops (List.range' pre.length rest.length) fr A=qfT P call ops rest fr A:=by
 intro rest
 induction rest with
 |nil=>intro pre _ fr A;rfl
 |cons o rest ih=>
  intro pre h fr A
  have ho:ops[pre.length]? =some o:=by
   rw[<-YT,h];simp
  have ih':=ih (pre++[o]) (by simp[h]);simp only[Yq,Yr,aN,aG]at ih';simp only[Yr,List.range'_succ,qdi,ho,qfT];split
  ·split
   ·exact ih' _ _
   rfl
  ·exact ih' _ _
  rfl
def qj0 {P:Program}{call:zB}{ops:Array Oper}(fr:Fr) (A:Heap):qdi P call ops (List.range ops.size) fr A=qfT P call ops ops.toList fr A:=by
 have:=qlA (P:=P) (call:=call) (ops:=ops) ops.toList [] rfl fr A;rw[<-this,List.range_eq_range'];simp
def Enters (P:Program) (f:FuncId):Prop:= ∃fn,P.funcs[f]? =some fn/\(fn.name== "runtime.NumGoroutine")=false/\fn.body.isNone=false
def fz (r:Option Nat):Fence:={Fence.wide with round:=r}
def qjN (r:Option Nat) (n:Nat):(fz r).depth.isSome=true->1<=n:=λh=>by simp[fz,Fence.wide]at h
def qmO {r:Option Nat}{n:Nat}{P:Program}{f:FuncId}{args:Array Value}{w:World}{R:Ending->World->Prop}(h:Calls P f args w R):CallsIn (fz r) n P f args w R:=by
 have h1:CallsIn Fence.wide n P f args w R:=callsIn_wide.2 h;exact h1
def qrJ {r:Option Nat}{n:Nat}{P:Program}{l:Nat}{f:FuncId}{tmps:Array Value}{asg body:Code}{w:World}{R:Ending->World->Prop}(h:RoundIn Fence.wide 0 P l f tmps asg body w R):RoundIn (fz r) n P l f tmps asg body w R:=
 ⟨trivial,λc cs _=>h.2 c cs (room_wide _)⟩
def qpc (P:Program) (t:TypeId) (m:String) (f:FuncId):Prop:= ∀(x:Value) (vs:Array Value) (w:World),(callMethod (.iface t x) m vs).run P w= .ok (.enter f (#[x]++vs)) w
def qc (P:Program) (c:Cl) (args:List AV) (A:Heap) (v:AV) (A':Heap):Prop:=
 match c with
 | .fn f=>∀F nu w (vs:Array Value),Inv F nu A w->RL F nu w args vs->
  (Enters P f/\Calls P f vs w λe w'=>∃x F' nu',e= .returned x/\Stp F nu A w F' nu' A' w'/\R F' nu' w' v x)\/
  ∃x w' F' nu',(callFunc f vs).run P w= .ok (.value x) w'/\Stp F nu A w F' nu' A' w'/\R F' nu' w' v x
 | .rd b=>∀F nu w (vs:Array Value) rb,Inv F nu A w->RL F nu w args vs->nu b=some rb->
  ∃fn tmps asg body,(Instr.yield rb vs).run P w= .ok (.round rb fn tmps asg body) w/\
   RoundIn Fence.wide 0 P rb fn tmps asg body w λe w'=>∃x F' nu',e= .returned x/\Stp F nu A w F' nu' A' w'/\R F' nu' w' v x
 | .mt t m=>∃f,qpc P t m f/\∀F nu w (vs:Array Value),Inv F nu A w->RL F nu w args vs->
  Calls P f vs w λe w'=>∃x F' nu',e= .returned x/\Stp F nu A w F' nu' A' w'/\R F' nu' w' v x
def ky (P:Program) (call:zB):Prop:= ∀f args A v A',call f args A=some (v,A')->qc P f args A v A'
section
variable {P:Program}{F:Nat->Prop}{nu:Nat->Option Nat}{A:Heap}{w:World}
def qeN {f:FuncId}(h:Enters P f) (args:Array Value) (w:World):(callFunc f args).run P w= .ok (.enter f args) w:=by
 obtain⟨fn,h1,h2,h3⟩:=h;simp only[callFunc,Sem.run_bind,run_program,Result.andThen_ok,h1,h2,h3,ZF,bh,Sem.run_pure]
def qln (P:Program) (f:FuncId):Bool:=
 match P.funcs[f]? with
 |some fn=>!(fn.name== "runtime.NumGoroutine")&&!fn.body.isNone
 |none=>false
def enters_of {f:FuncId}(h:qln P f=true):Enters P f:=by
 unfold qln at h;split at h
 ·rename_i fn hf;simp only[aR,dA]at h;exact⟨fn,hf,h.1,h.2⟩
 cases h
def qc.calls {f:FuncId}{args:List AV}{v:AV}{A':Heap}(hok:qc P (.fn f) args A v A') (he:Enters P f) {vs:Array Value}(i:Inv F nu A w) (h:RL F nu w args vs):
 Calls P f vs w λe w'=>∃x F' nu',e= .returned x/\Stp F nu A w F' nu' A' w'/\R F' nu' w' v x:=by
 rcases hok F nu w vs i h with h1|⟨x,w',F',nu',hrun,_⟩
 ·exact h1.2
 rw[qeN he]at hrun;simp at hrun
def RL.append {xs ys:List AV}{us vs:Array Value}(h:RL F nu w xs us) (k:RL F nu w ys vs):RL F nu w (xs++ys) (us++vs):=by
 refine⟨by simp[h.1,k.1],λj a v ha hv=>?_⟩;have h0:=h.1;rcases aw j xs.length with hj|hj
 ·rw[Yf hj]at ha;rw[YC (by omega)]at hv;exact h.2 j a v ha hv
 rw[Yo hj]at ha;rw[Array.getElem?_append_right (by omega),h0]at hv;exact k.2 _ a v ha hv
def qiA:R F nu w (.tuple []) undef:= .tuple [] _ rfl (by simp)
def qcI {ops:Array Oper}{o:Oper}{fr:Fr}{tmps:Array Value}(h:RF F nu w fr tmps) {b:Bool}(hw:qa2 ops o fr=some b):Region.wanted o (yielded ops tmps)=b:=by
 unfold qa2 at hw;unfold Region.wanted;split at hw
 ·rename_i hg;injection hw with hw;subst hw;simp[hg]
 rename_i j want hg;simp only[hg];split at hw
 ·rename_i d hd;split at hw
  ·rename_i c hc;injection hw with hw;subst hw
   have hlt2:d<tmps.size:=by
    rcases aw d tmps.size with hlt|hge
    ·exact hlt
    rw[h.out d (by rw[<-h.size];exact hge)]at hc;cases hc
   have hR:=h.at_ d _ (Yi hlt2);rw[hc]at hR
   have hv:tmps[d]? =some (.bool c):=by
    rw[Yi hlt2];generalize tmps[d]=y at hR;cases hR
    rfl
   have hd':(ops[j]?).bind (λx=>x.dst)=some d:=hd;simp only[yielded,hd',ZB,hv];cases c<;>cases want<;>rfl
  ·rename_i ts hc;injection hw with hw;subst hw
   have hlt2:d<tmps.size:=by
    rcases aw d tmps.size with hlt|hge
    ·exact hlt
    rw[h.out d (by rw[<-h.size];exact hge)]at hc;cases hc
   have hR:=h.at_ d _ (Yi hlt2);rw[hc]at hR
   have hv:∃vs,tmps[d]? =some (.tuple vs):=by
    rw[Yi hlt2];generalize tmps[d]=y at hR
    cases hR with
    |tuple _ vs _ _=>exact⟨vs,rfl⟩
   obtain⟨vs,hv⟩:=hv;have hd':(ops[j]?).bind (λx=>x.dst)=some d:=hd;simp only[yielded,hd',ZB,hv];rfl
  cases hw
 cases hw
def qh4 {o:Oper}{ρ:Operand->AV}{c:Cl}{args:List AV}(h:jL o ρ=some (c,args)):∃cl,o.op= .call cl/\
 ((∃fo,cl.callee= .value fo/\((∃g first captured,ρ fo= .func (.func g) first captured/\c= .fn g/\args=first++cl.args.toList.map ρ++captured)\/ ∃b,ρ fo= .yld b/\c= .rd b/\args=cl.args.toList.map ρ))\/
  ∃r m t v,cl.callee= .invoke r m/\ρ r= .iface t v/\c= .mt t m/\args=v::cl.args.toList.map ρ):=by
 unfold jL at h;split at h
 ·rename_i cl hop;split at h
  ·rename_i fo hcal;split at h
   ·rename_i g first captured hf;simp only[ZI,ZP]at h;exact⟨cl,hop,.inl ⟨fo,hcal,.inl ⟨g,first,captured,hf,h.1.symm,h.2.symm⟩⟩⟩
   ·rename_i b hf;simp only[ZI,ZP]at h;exact⟨cl,hop,.inl ⟨fo,hcal,.inr ⟨b,hf,h.1.symm,h.2.symm⟩⟩⟩
   cases h
  ·rename_i r m hcal;split at h
   ·rename_i t v hf;simp only[ZI,ZP]at h;exact⟨cl,hop,.inr ⟨r,m,t,v,hcal,hf,h.1.symm,h.2.symm⟩⟩
   cases h
  cases h
 cases h
def qgv {call:zB}(hc:ky P call) (i:Inv F nu A w) {o:Oper}{fr:Fr}{a:Act}(h:RF F nu w fr a.tmps) {c:Cl}{args:List AV}(hcl:jL o (yj fr)=some (c,args)) {v:AV}{A':Heap}(hr:call c args A=some (v,A')):
 (∀d,o.op≠ .defer d)/\((∃f vs,(execOp a.eval o).run P w= .ok (.enter f vs) w/\Calls P f vs w λe w'=>∃x F' nu',e= .returned x/\Stp F nu A w F' nu' A' w'/\R F' nu' w' v x)\/
  (∃l fn tmps asg body,(execOp a.eval o).run P w= .ok (.round l fn tmps asg body) w/\RoundIn Fence.wide 0 P l fn tmps asg body w λe w'=>∃x F' nu',e= .returned x/\Stp F nu A w F' nu' A' w'/\R F' nu' w' v x)\/
  ∃x w' F' nu',(execOp a.eval o).run P w= .ok (.value x) w'/\Stp F nu A w F' nu' A' w'/\R F' nu' w' v x):=by
 obtain⟨cl,hop,hcase0⟩:=qh4 hcl;refine⟨λd hd=>(by rw[hop]at hd;cases hd),?_⟩;have hargs:=RL.map (λx=>h.eval i.glob x) cl.args.toList;have hok:=hc _ _ _ _ _ hr;rcases hcase0 with⟨fo,hcal,hcase⟩|⟨r,m,t,v0,hcal,hf,rfl,rfl⟩
 case inr=>
  obtain⟨f,hm,hcall⟩:=hok;have hrv:=h.eval i.glob r;rw[hf]at hrv;generalize hz:a.eval r=z at hrv
  cases hrv with
  |iface _ _ x hx=>
   refine .inl ⟨f,#[x]++cl.args.map a.eval,?_,hcall F nu w _ i ⟨by simp;omega,λj b y hb hy=>?_⟩⟩
   ·simp only[execOp,hop,resolve,hcal,hz,Sem.run_bind,Sem.run_pure,Result.andThen_ok,invoke]
    have e0:(#[Value.iface t x]++Array.map a.eval cl.args)[0]? =some (.iface t x):=by
     rw[YC (by simp)];rfl
    have e1:(#[Value.iface t x]++Array.map a.eval cl.args).extract 1 (#[Value.iface t x]++Array.map a.eval cl.args).size=Array.map a.eval cl.args:=by
     apply Array.ext'
     have e2:(List.map a.eval cl.args.toList).length=cl.args.size:=by simp
     simp only[Array.toList_extract,eY,Array.toList_map,List.extract_eq_take_drop];simp only[dc,bp,dR,YR,dB,Array.size_map];rw[show #[Value.iface t x].size+cl.args.size-1=(List.map a.eval cl.args.toList).length by rw[e2];simp,bW]
    simp only[e0,e1];exact hm x _ w
   cases j with
   |zero=>
    rw[YC (by simp)]at hy;simp at hb hy;subst hb hy;exact hx
   |succ j=>exact hargs.2 j b y (by simpa using hb) (by
    rw[Array.getElem?_append_right (by simp)]at hy
    simpa using hy)
 have hfv:=h.eval i.glob fo;generalize hz:a.eval fo=z at hfv;have hargs2:RL F nu w (cl.args.toList.map (yj fr)) (cl.args.map a.eval):=⟨by simp,λj b y hb hy=>hargs.2 j b y hb (by simpa using hy)⟩;rcases hcase with⟨g,first,captured,hf,rfl,rfl⟩|⟨b,hf,rfl,rfl⟩
 ·rw[hf]at hfv
  cases hfv with
  |func _ _ _ vf vc h1 h2 hff hcc=>
   rcases hok F nu w _ i (RL.append (RL.append ⟨h1,hff⟩ hargs2) ⟨h2,hcc⟩)with⟨hent,hcall⟩|⟨x,w',F',nu',hrun,hst,hR⟩
   ·refine .inl ⟨g,vf++cl.args.map a.eval++vc,?_,hcall⟩;simp only[execOp,hop,resolve,hcal,Deferred.ofValue,hz,Sem.run_bind,Sem.run_pure,Result.andThen_ok,invoke];exact qeN hent _ _
   refine .inr (.inr ⟨x,w',F',nu',?_,hst,hR⟩);simp only[execOp,hop,resolve,hcal,Deferred.ofValue,hz,Sem.run_bind,Sem.run_pure,Result.andThen_ok,invoke];exact hrun
 rw[hf]at hfv
 cases hfv with
 |yld _ rb hb=>
  obtain⟨fn,tmps,asg,body,hy,hround⟩:=hok F nu w _ rb i hargs2 hb;refine .inr (.inl ⟨rb,fn,tmps,asg,body,?_,hround⟩);simp only[execOp,hop,resolve,hcal,Deferred.ofValue,hz,Sem.run_bind,Sem.run_pure,Result.andThen_ok,invoke];simpa using hy
def qpm {o:Oper}{ρ:Operand->AV}{f:zx}{r:AV×Heap×zx}(h:exec (aop P o ρ) A f=some r):∀d,o.op≠ .defer d:=by
 intro d hd;obtain⟨dst,op,type,pos,after,guard⟩:=o;simp only at hd;subst hd;simp[aop,zk,exec]at h
def qjh {call:zB}(hc:ky P call) (i:Inv F nu A w) {o:Oper}{fr:Fr}{a:Act}(h:RF F nu w fr a.tmps) {v:AV}{A':Heap}{f':zx}(hs:qbF P call o fr A=some (v,A',f')) {rr:Option Nat}{n:Nat}{K:Act->World->Prop}{Q:Exit->Act->World->Prop}
 (hk:∀x F' nu' w',Stp F nu A w F' nu' A' w'->R F' nu' w' v x->RF F' nu' w' (qel fr o.dst v) (a.put o.dst x).tmps->K (a.put o.dst x) w'):o.wpIn (fz rr) n P a w K Q:=by
 refine⟨λ_ _=>trivial,?_⟩;unfold qbF at hs;split at hs
 ·rename_i c args hg;obtain⟨r,hr,he⟩:=Yd.1 hs;simp only[ZP]at he;obtain⟨rfl,rfl,_⟩:=he;obtain⟨hnd,hcase⟩:=qgv hc i h hg hr;rw[Oper.semAt_eq _ _ _ hnd];rcases hcase with⟨f,vs,hrun,hcall⟩|⟨l,fn,tmps,asg,body,hrun,hround⟩|⟨x,w',F',nu',hrun,hst,hR⟩
  case inr.inr=>
   rw[hrun];exact hk x F' nu' w' hst hR ((h.mono (hst.ext i)).setDst _ hR)
  ·rw[hrun];refine⟨qjN _ _,qmO (hcall.mono ?_)⟩;rintro e w' ⟨x,F',nu',rfl,hst,hR⟩;exact hk x F' nu' w' hst hR ((h.mono (hst.ext i)).setDst _ hR)
  rw[hrun];refine⟨qjN _ _,qrJ (hround.mono ?_)⟩;rintro e w' ⟨x,F',nu',rfl,hst,hR⟩;exact hk x F' nu' w' hst hR ((h.mono (hst.ext i)).setDst _ hR)
 rw[Oper.semAt_eq _ _ _ (qpm hs)];obtain⟨x,w',nu',hrun,hst,hR⟩:=qkJ i (λx=>h.eval i.glob x) hs;have:=hk x F nu' w' hst hR ((h.mono (hst.ext i)).setDst _ hR);rcases hrun with hrun|⟨hrun,rfl⟩
 ·rw[hrun];exact this
 rw[hrun];exact this
def qqX {call:zB}(hc:ky P call) (i:Inv F nu A w) {o:Oper}{fr:Fr}{tmps:Array Value}(h:RF F nu w fr tmps) {v:AV}{A':Heap}{f':zx}
 (hs:qbF P call o fr A=some (v,A',f')):∃x F' nu' w',Stp F nu A w F' nu' A' w'/\R F' nu' w' v x:=by
 unfold qbF at hs;split at hs
 ·rename_i c args hg;obtain⟨r,hr,he⟩:=Yd.1 hs;simp only[ZP]at he;obtain⟨rfl,rfl,_⟩:=he;obtain⟨_,hcase⟩:=qgv (a:=⟨tmps,[]⟩) hc i h hg hr;rcases hcase with⟨f,vs,_,hcall⟩|⟨l,fn,tm,asg,body,_,hround⟩|⟨x,w',F',nu',_,hst,hR⟩
  case inr.inr=>exact⟨x,F',nu',w',hst,hR⟩
  ·obtain⟨e,w',_,⟨x,F',nu',_,h3,h4⟩,_⟩:=hcall [];exact⟨x,F',nu',w',h3,h4⟩
  obtain⟨e,w',⟨x,F',nu',_,h3,h4⟩,_⟩:=hround.2 default [] (room_wide _);exact⟨x,F',nu',w',h3,h4⟩
 obtain⟨x,w',nu',_,hst,hR⟩:=qkJ i (λx=>h.eval (a:=⟨tmps,[]⟩) i.glob x) hs;exact⟨x,F,nu',w',hst,hR⟩
def qnH {call:zB}(hc:ky P call) {rr:Option Nat}{n:Nat}{ops:Array Oper}{Q:Exit->Act->World->Prop}:∀(l:List Nat) {F:Nat->Prop}{nu:Nat->Option Nat}{A:Heap}{w:World}(_:Inv F nu A w) {fr:Fr}{a:Act}(_:RF F nu w fr a.tmps) {fr':Fr}{A':Heap}
 (_:qdi P call ops l fr A=some (fr',A')) (_:∀F' nu' w' a',a'.defers=a.defers->Stp F nu A w F' nu' A' w'->RF F' nu' w' fr' a'.tmps->Q .normal a' w'),wpOpsIn (fz rr) n P ops Q l a w:=by
 intro l
 induction l with
 |nil=>
  intro F nu A w i fr a h fr' A' he hq;simp only[qdi,ZI,ZP]at he;obtain⟨rfl,rfl⟩:=he;exact hq F nu w a rfl (.refl i) h
 |cons j rest ih=>
  intro F nu A w i fr a h fr' A' he hq;simp only[qdi]at he;simp only[wpOpsIn]
  cases ho:ops[j]? with
  |none=>
   simp only[ho]at he⊢;exact ih i h he hq
  |some o=>
   simp only[ho]at he⊢;split at he
   ·rename_i hw;split at he
    ·rename_i v A1 f1 hs;rw[ae (qcI h hw)];refine qjh hc i h hs (λx F' nu' w' hst hR hfr=>?_);exact ih hst.inv hfr he (λF2 nu2 w2 a2 hd hst2 hfr2=>hq F2 nu2 w2 a2 (by rw[hd];cases o.dst<;>rfl) (hst.trans hst2) hfr2)
    cases he
   ·rename_i hw;have:=qcI h hw;rw[aa (by rw[this];simp)];exact⟨λ_ _=>trivial,ih i (h.setDst _ qiA) he (λF2 nu2 w2 a2 hd hst2 hfr2=>hq F2 nu2 w2 a2 (by rw[hd];cases o.dst<;>rfl) hst2 hfr2)⟩
   cases he
end
end
inductive XA where
 |normal
 |exit (id:Nat)
 |ret
abbrev St:=Fr×Heap
def qgx:Nat->(St->Option (XA×St))->St->Option (XA×St)
 |0,_,_=>none
 |n+1,f,s=>match f s with
  |some (.normal,s')=>qgx n f s'
  |r=>r
def zU (P:Program) (fr:Fr) (A:Heap):List ResultVar->Option (List AV)
 |[]=>some []
 | .tmp t::rs=>(zU P fr A rs).map (fr.get t:: ·)
 | .cell a t::rs=>match exec (qa1 P t (fr.get a)) A [],zU P fr A rs with
   |some (v,_,_),some vs=>some (v::vs)
   |_,_=>none
def qg9:List AV->AV
 |[v]=>v
 |vs=> .tuple vs
section
variable [Glob]
open Go.RowKit
def Dom (nu:Nat->Option Nat) (b:Nat):Prop:=nu b≠none
def WF (G:Nat->Prop) (a:AV):Prop:= ∃F nu w v,(∀b,Dom nu b->G b)/\R F nu w a v
open Classical in
noncomputable def restr (nu:Nat->Option Nat) (G:Nat->Prop):Nat->Option Nat:=λb=>if G b then nu b else none
def y8 {nu:Nat->Option Nat}{G:Nat->Prop}{b r:Nat}(h:restr nu G b=some r):nu b=some r/\G b:=by
 unfold restr at h;split at h
 ·rename_i hg;exact⟨h,hg⟩
 cases h
def qck {nu:Nat->Option Nat}{G:Nat->Prop}{b r:Nat}(h:nu b=some r) (hg:G b):restr nu G b=some r:=by
 unfold restr;rw[ae hg];exact h
section
variable {F:Nat->Prop}{nu:Nat->Option Nat}{w:World}
def WF.mono {G G':Nat->Prop}{a:AV}(h:WF G a) (hg:∀b,G b->G' b):WF G' a:=by
 obtain⟨F,nu,w,v,h1,h2⟩:=h;exact⟨F,nu,w,v,λb hb=>hg b (h1 b hb),h2⟩
def WF.list {G:Nat->Prop}{nu:Nat->Option Nat}{F:Nat->Prop}{w:World}(hd:∀b,Dom nu b->G b) {cs:List AV}{vs:List Value}(hl:vs.length=cs.length) (hR:∀(j:Nat) (a:AV) (v:Value),cs[j]? =some a->vs[j]? =some v->R F nu w a v):
 ∀(j:Nat) (a:AV),cs[j]? =some a->WF G a:=by
 intro j a ha;have hlt:j<cs.length:=(Yb.1 ha).1;exact⟨F,nu,w,vs[j]'(by omega),hd,hR j a _ ha (Ya (by omega))⟩
def R.restr {G:Nat->Prop}{a:AV}{v:Value}(h:R F nu w a v) (hw:WF G a):R F (restr nu G) w a v:=by
 induction h with
 |undef v=>exact .undef v
 |anyb b=>exact .anyb b
 |bool b=>exact .bool b
 |int k n=>exact .int k n
 |str s l h=>exact .str s l h
 |nilptr=>exact .nilptr
 |ptr b off rb h=>
  obtain⟨F0,n0,w0,v0,hd,hr⟩:=hw
  cases hr with
  |ptr _ _ r0 h0=>exact .ptr b off rb (qck h (hd b (by simp[Dom,h0])))
 |fptr cs off ad vs hF hl hc hR ih=>
  obtain⟨F0,n0,w0,v0,hd,hr⟩:=hw
  cases hr with
  |fptr _ _ ad0 vs0 hF0 hl0 hc0 hR0=>exact .fptr cs off ad vs hF hl hc (λj a v ha hv=>ih j a v ha hv (WF.list hd hl0 hR0 j a ha))
 |nilslice=>exact .nilslice
 |slice b off n cap esz rb h hc=>
  obtain⟨F0,n0,w0,v0,hd,hr⟩:=hw
  cases hr with
  |slice _ _ _ _ _ r0 h0 hc0=>exact .slice b off n cap esz rb (qck h (hd b (by simp[Dom,h0]))) hc
 |oslice b n esz rb cap e m h hc hs hm hx=>
  obtain⟨F0,n0,w0,v0,hd,hr⟩:=hw
  cases hr with
  |oslice _ _ _ r0 cap0 e0 m0 h0 hc0 hs0 hm0=>exact .oslice b n esz rb cap e m (qck h (hd b (by simp[Dom,h0]))) hc hs hm hx
 |gslice0 b esz p=>exact .gslice0 b esz p
 |gslice b n esz rb cap e m hp h hc hs hm hx=>
  obtain⟨F0,n0,w0,v0,hd,hr⟩:=hw
  cases hr with
  |gslice0=>exact absurd hp (Nat.lt_irrefl _)
  |gslice _ _ _ r0 cap0 e0 m0 hp0 h0 hc0 hs0 hm0=>exact .gslice b n esz rb cap e m hp (qck h (hd b (by simp[Dom,h0]))) hc hs hm hx
 |wslice b off n esz rb cap h hc=>
  obtain⟨F0,n0,w0,v0,hd,hr⟩:=hw
  cases hr with
  |wslice _ _ _ _ r0 cap0 h0 hc0=>exact .wslice b off n esz rb cap (qck h (hd b (by simp[Dom,h0]))) hc
 |fslice0 A cap=>exact .fslice0 A cap
 |fslice n cs ad cap vs hn hF hl hc hR ih=>
  obtain⟨F0,n0,w0,v0,hd,hr⟩:=hw
  cases hr with
  |fslice0=>exact .fslice 0 [] ad cap vs hn hF hl hc (λj a v ha _=>by simp at ha)
  |fslice _ _ ad0 cap0 vs0 hn0 hF0 hl0 hc0 hR0=>exact .fslice n cs ad cap vs hn hF hl hc (λj a v ha hv=>ih j a v ha hv (WF.list hd hl0 hR0 j a ha))
 |nilmap=>exact .nilmap
 |map b rb h=>
  obtain⟨F0,n0,w0,v0,hd,hr⟩:=hw
  cases hr with
  |map _ r0 h0=>exact .map b rb (qck h (hd b (by simp[Dom,h0])))
 |fmap ks vs rb es clock hF hh hk hv hRk hRv ihk ihv=>
  obtain⟨F0,n0,w0,v0,hd,hr⟩:=hw
  cases hr with
  |fmap _ _ rb0 es0 c0 hF0 hh0 hk0 hv0 hRk0 hRv0=>
   refine .fmap ks vs rb es clock hF hh hk hv (λj a e ha he=>ihk j a e ha he ?_) (λj a e ha he=>ihv j a e ha he ?_)
   ·have hlt:j<ks.length:=(Yb.1 ha).1;exact⟨F0,n0,w0,_,hd,hRk0 j a _ ha (Yi (by omega))⟩
   have hlt:j<vs.length:=(Yb.1 ha).1;exact⟨F0,n0,w0,_,hd,hRv0 j a _ ha (Yi (by omega))⟩
 |func fn fs cs vf vc h1 h2 hf hc ihf ihc=>
  obtain⟨F0,n0,w0,v0,hd,hr⟩:=hw
  cases hr with
  |func _ _ _ vf0 vc0 g1 g2 hf0 hc0=>
   refine .func fn fs cs vf vc h1 h2 (λj a v ha hv=>ihf j a v ha hv ?_) (λj a v ha hv=>ihc j a v ha hv ?_)
   ·have hlt:j<fs.length:=(Yb.1 ha).1;exact⟨F0,n0,w0,_,hd,hf0 j a _ ha (Yi (by omega))⟩
   have hlt:j<cs.length:=(Yb.1 ha).1;exact⟨F0,n0,w0,_,hd,hc0 j a _ ha (Yi (by omega))⟩
 |nilfunc=>exact .nilfunc
 |yld b rb h=>
  obtain⟨F0,n0,w0,v0,hd,hr⟩:=hw
  cases hr with
  |yld _ r0 h0=>exact .yld b rb (qck h (hd b (by simp[Dom,h0])))
 |iface t a v h ih=>
  obtain⟨F0,n0,w0,v0,hd,hr⟩:=hw
  cases hr with
  |iface _ _ v1 h1=>exact .iface t a v (ih ⟨F0,n0,w0,v1,hd,h1⟩)
 |niliface=>exact .niliface
 |agg cs vs hl hR ih=>
  obtain⟨F0,n0,w0,v0,hd,hr⟩:=hw
  cases hr with
  |agg _ vs0 hl0 hR0=>
   refine .agg cs vs hl (λj a v ha hv=>ih j a v ha hv ?_);have hlt:j<cs.length:=(Yb.1 ha).1;exact⟨F0,n0,w0,_,hd,hR0 j a _ ha (Yi (by omega))⟩
 |tuple cs vs hl hR ih=>
  obtain⟨F0,n0,w0,v0,hd,hr⟩:=hw
  cases hr with
  |tuple _ vs0 hl0 hR0=>
   refine .tuple cs vs hl (λj a v ha hv=>ih j a v ha hv ?_);have hlt:j<cs.length:=(Yb.1 ha).1;exact⟨F0,n0,w0,_,hd,hR0 j a _ ha (Yi (by omega))⟩
def WFE (G:Nat->Prop):Ent->Prop
 | .av a=>WF G a
 | .own _ cs=>∀(j:Nat) (a:AV),cs[j]? =some a->WF G a
def WFB (G:Nat->Prop):Blk->Prop
 | .cells cs=>∀(j:Nat) (a:AV),cs[j]? =some a->WF G a
 | .frozen cs=>∀(j:Nat) (a:AV),cs[j]? =some a->WF G a
 | .map ks vs=>(∀(j:Nat) (a:AV),ks[j]? =some a->WF G a)/\∀(j:Nat) (a:AV),vs[j]? =some a->WF G a
 | .loop _ _ fr _ _ _=>∀(j:Nat),WF G (fr.get j)
 | .bld _ _ cs=>∀(j:Nat) (a:AV),cs[j]? =some a->WF G a
 | .bag es=>∀(j:Nat) (x:Ent),es[j]? =some x->WFE G x
 |_=>True
def RE.wf {G:Nat->Prop}(hd:∀b,Dom nu b->G b) {x:Ent}{v:Value}(h:RE F nu w x v):WFE G x:=by
 cases x with
 |av a=>exact⟨F,nu,w,v,hd,h⟩
 |own k cs=>
  obtain⟨rfl,_⟩|⟨g,n,cap,vs,e,rfl,h0,h1,h2,h3,h4,h5,h6,h7⟩:=h
  ·intro j a ha;simp at ha
  intro j a ha;have hlt:j<cs.length:=(Yb.1 ha).1;have:=aW k h2;exact⟨F,nu,w,_,hd,h7 j a _ ha (Yi (by omega))⟩
def RE.restr {G:Nat->Prop}{x:Ent}{v:Value}(h:RE F nu w x v) (hw:WFE G x):RE F (restr nu G) w x v:=by
 cases x with
 |av a=>exact R.restr h hw
 |own k cs=>
  obtain h|⟨g,n,cap,vs,e,rfl,h0,h1,h2,h3,h4,h5,h6,h7⟩:=h
  ·exact .inl h
  exact .inr ⟨g,n,cap,vs,e,rfl,h0,h1,h2,h3,h4,h5,h6,λj a v ha hv=>(h7 j a v ha hv).restr (hw j a ha)⟩
def RB.wf {G:Nat->Prop}(hd:∀b,Dom nu b->G b) {rb:Nat}{x:Blk}(h:RB F nu w rb x):WFB G x:=by
 cases x with
 |cells cs=>
  obtain⟨_,vs,e,_,hl,hR⟩:=h;intro j a ha;have hlt:j<cs.length:=(Yb.1 ha).1;exact⟨F,nu,w,_,hd,hR j a _ ha (Yi (by omega))⟩
 |frozen cs=>
  obtain⟨_,vs,e,fr,_,hl,hR⟩:=h;intro j a ha;have hlt:j<cs.length:=(Yb.1 ha).1;exact⟨F,nu,w,_,hd,hR j a _ ha (Yi (by omega))⟩
 |map ks xs=>
  obtain⟨_,es,c,_,h1,h2,h3,h4,_⟩:=h;refine⟨λj a ha=>?_,λj a ha=>?_⟩
  ·have hlt:j<ks.length:=(Yb.1 ha).1;exact⟨F,nu,w,_,hd,h3 j a _ ha (Yi (by omega))⟩
  have hlt:j<xs.length:=(Yb.1 ha).1;exact⟨F,nu,w,_,hd,h4 j a _ ha (Yi (by omega))⟩
 |loop st pend fr ps asg body=>
  obtain⟨_,fn,tmps,dd,_,hfr⟩:=h;intro j;exact⟨F,nu,w,_,hd,hfr.getD j⟩
 |bld T e cs=>
  obtain⟨_,vs,_,hl,hR,_⟩:=h;intro j a ha;have hlt:j<cs.length:=(Yb.1 ha).1;exact⟨F,nu,w,_,hd,hR j a _ ha (Yi (by omega))⟩
 |bag es=>
  obtain⟨_,vs,e,_,hl,hR,_⟩:=h;intro j x hx;have hlt:j<es.length:=(Yb.1 hx).1;exact(hR j x _ hx (Yi (by omega))).wf hd
 |_=>trivial
def RB.restr {G:Nat->Prop}{rb:Nat}{x:Blk}(h:RB F nu w rb x) (hw:WFB G x):RB F (restr nu G) w rb x:=by
 cases x with
 |dead=>trivial
 |cells cs=>
  obtain⟨h0,vs,e,h1,h2,h3⟩:=h;exact⟨h0,vs,e,h1,h2,λj a v ha hv=>(h3 j a v ha hv).restr (hw j a ha)⟩
 |frozen cs=>
  obtain⟨h0,vs,e,fr,h1,h2,h3⟩:=h;exact⟨h0,vs,e,fr,h1,h2,λj a v ha hv=>(h3 j a v ha hv).restr (hw j a ha)⟩
 |map ks xs=>
  obtain⟨h0,es,c,h1,h2,h3,h4,h5,h6⟩:=h;exact⟨h0,es,c,h1,h2,h3,λj a e ha he=>(h4 j a e ha he).restr (hw.1 j a ha),λj a e ha he=>(h5 j a e ha he).restr (hw.2 j a ha),h6⟩
 |iter s pos=>exact h
 |bag es=>
  obtain⟨h0,vs,e,h1,h2,h3,h4,h5⟩:=h;exact⟨h0,vs,e,h1,h2,λj a v ha hv=>(h3 j a v ha hv).restr (hw j a ha),h4,h5⟩
 |bld T e cs=>
  obtain⟨h0,vs,h1,h2,h3,h4⟩:=h;exact⟨h0,vs,h1,h2,λj a v ha hv=>(h3 j a v ha hv).restr (hw j a ha),h4⟩
 |loop st pend fr ps asg body=>
  obtain⟨h0,fn,tmps,dd,h1,h2⟩:=h;exact⟨h0,fn,tmps,dd,h1,h2.size,λj v hv=>(h2.at_ j v hv).restr (hw j),h2.out⟩
end
def mask (S:List Nat) (A:Heap):Heap:=A.zipIdx.map λp=>if S.contains p.2 then p.1 else .dead
def merge (S:List Nat) (A B:Heap):Heap:=B.zipIdx.map λp=>if p.2<A.length&&!S.contains p.2 then A.getD p.2 .dead else p.1
def xQ (S:List Nat) (A:Heap):(mask S A).length=A.length:=by simp[mask]
def qdU (S:List Nat) (A:Heap) (b:Nat):(mask S A)[b]? =(A[b]?).map λx=>if S.contains b then x else .dead:=by
 simp only[mask,YA,List.getElem?_zipIdx,eR,aG];rfl
def qaA (S:List Nat) (A B:Heap):(merge S A B).length=B.length:=by simp[merge]
def qcH (S:List Nat) (A B:Heap) (b:Nat):(merge S A B)[b]? =(B[b]?).map λx=>if b<A.length&&!S.contains b then A.getD b .dead else x:=by
 simp only[merge,YA,List.getElem?_zipIdx,eR,aG];rfl
section
variable {F F':Nat->Prop}{nu nu':Nat->Option Nat}{w w':World}
structure Mov (F:Nat->Prop) (nu:Nat->Option Nat) (A:Heap) (w:World) (F':Nat->Prop) (nu':Nat->Option Nat) (A':Heap) (w':World):Prop where
 f:∀b,F b->F' b
 n:∀b r,nu b=some r->nu' b=some r
 shape:∀rb s,w.shape? rb=some s->w'.shape? rb=some s
 inv:Inv F' nu' A' w'
 keep:∀rb,rb<w.heap.size->¬qa5 nu A w rb->w'.heap[rb]? =w.heap[rb]?
 own:∀rb,rb<w.heap.size->qa5 nu' A' w' rb->qa5 nu A w rb
 size:w.heap.size<=w'.heap.size
 os:w'.os=w.os
 tape:w'.tape=w.tape
 output:w'.output=w.output
 newF:∀rb,F' rb->F rb\/w.heap.size<=rb\/qa5 nu A w rb
def Mov.refl {A:Heap}(i:Inv F nu A w):Mov F nu A w F nu A w:=
 ⟨λ_ h=>h,λ_ _ h=>h,λ_ _ h=>h,i,λ_ _ _=>rfl,λ_ _ h=>h,ai _,rfl,rfl,rfl,λ_ h=> .inl h⟩
def Mov.ext {A A':Heap}(h:Mov F nu A w F' nu' A' w') (i:Inv F nu A w):Ext F nu w F' nu' w':=
 ⟨h.f,h.n,λrb hF=>h.keep rb (i.ltF rb hF) (i.notOwns hF),h.shape⟩
def Mov.trans {F'':Nat->Prop}{nu'':Nat->Option Nat}{A A' A'':Heap}{w'':World}
 (h:Mov F nu A w F' nu' A' w') (k:Mov F' nu' A' w' F'' nu'' A'' w''):Mov F nu A w F'' nu'' A'' w'' where
 f b hb:=k.f b (h.f b hb)
 n b r hb:=k.n b r (h.n b r hb)
 shape rb s hs:=k.shape rb s (h.shape rb s hs)
 inv:=k.inv
 keep rb hlt hno:=by
  rw[k.keep rb (by have:=h.size;omega) (λho=>hno (h.own rb hlt ho)),h.keep rb hlt hno]
 own rb hlt ho:=h.own rb hlt (k.own rb (by have:=h.size;omega) ho)
 size:=bx h.size k.size
 os:=k.os.trans h.os
 tape:=k.tape.trans h.tape
 output:=k.output.trans h.output
 newF rb hF:=by
  rcases k.newF rb hF with h1|h1|h1
  ·exact h.newF rb h1
  ·exact .inr (.inl (bx h.size h1))
  rcases aw rb w.heap.size with h2|h2
  ·exact .inr (.inr (h.own rb h2 h1))
  exact .inr (.inl h2)
open Classical in
noncomputable def qaF (nu nu':Nat->Option Nat) (lo hi:Nat) (G:Nat->Prop):Nat->Option Nat:=λb=>if lo<=b/\b<hi then(if G b then nu' b else none)else nu b
def Stp.part {C C' B B':Heap}{S:List Nat}{G G':Nat->Prop}{lo hi:Nat}(i:Inv F nu C w) (hB:B.length=lo) (hB':B'.length=hi) (hC:hi<=C.length) (hC':C'.length=C.length) (hnone:∀b,lo<=b->b<hi->nu b=none)
 (hS:∀b∈S,b<lo)
 (hBin:∀b,b∈S->B[b]? =C[b]?) (hBout:∀b y,b∉S->B[b]? =some y->y= .dead)
 (hdom:∀b,Dom nu b->b<lo->G b) (hGlo:∀b,G b->b<lo)
 (hwfB:∀b y,b∈S->Dom nu b->C[b]? =some y->WFB G y)
 (hst:Inv F (restr nu G) B w->Stp F (restr nu G) B w F' nu' B' w')
 (hwfB':∀b y,(b∈S/\Dom nu b\/lo<=b/\G' b)->B'[b]? =some y->WFB G' y) (hG':∀b,G' b->b<hi)
 (hCin:∀b,b<hi->(b∈S\/lo<=b)->C'[b]? =B'[b]?) (hCout:∀b,b∉S->(b<lo\/hi<=b)->C'[b]? =C[b]?):
 Mov F nu C w F' (qaF nu nu' lo hi G') C' w'/\∀a v,WF G' a->R F' nu' w' a v->R F' (qaF nu nu' lo hi G') w' a v:=by
 have iB:Inv F (restr nu G) B w:=by
  refine⟨λb rb x hb hx=>?_,λb b' rb rb' x x' r hb hb' hx hx' ho ho' hr hr'=>?_,λb hb=>?_,i.ltF,λb rb h=>i.ltN b rb (y8 h).1,i.glob⟩
  ·obtain⟨h1,h2⟩:=y8 hb;by_cases hs:b∈S
   ·rw[hBin b hs]at hx;exact(i.blk b rb x h1 hx).restr (hwfB b x hs (by simp[Dom,h1]) hx)
   rw[hBout b x hs hx];trivial
  ·have hs:b∈S:=by
    by_cases hs:b∈S
    ·exact hs
    rw[hBout b x hs hx]at ho;cases ho
   have hs':b'∈S:=by
    by_cases hs':b'∈S
    ·exact hs'
    rw[hBout b' x' hs' hx']at ho';cases ho'
   rw[hBin b hs]at hx;rw[hBin b' hs']at hx';exact i.injF b b' rb rb' x x' r (y8 hb).1 (y8 hb').1 hx hx' ho ho' hr hr'
  unfold restr;split
  ·rename_i hg;have:=hGlo b hg;omega
  rfl
 have st:=hst iB;have hsz:=st.size
 have ownB:∀r,qa5 (restr nu G) B w r->∃b x rb,b∈S/\nu b=some rb/\C[b]? =some x/\x.owned=true/\Ft w rb x r:=by
  rintro r ⟨b,x,rb,hb,hx,ho,hf⟩
  have hs:b∈S:=by
   by_cases hs:b∈S
   ·exact hs
   rw[hBout b x hs hx]at ho;cases ho
  rw[hBin b hs]at hx;exact⟨b,x,rb,hs,(y8 hb).1,hx,ho,hf⟩
 have hnu':∀b rb,b<lo->nu b=some rb->nu' b=some rb:=λb rb hb h=>st.n b rb (qck h (hdom b (by simp[Dom,h]) hb))
 have hnu'r:∀b rb,b<lo->nu' b=some rb->nu b=some rb:=by
  intro b rb hb h;rw[st.old b (by omega)]at h;exact(y8 h).1
 have hsub:∀b rb,restr nu' G' b=some rb->qaF nu nu' lo hi G' b=some rb:=by
  intro b rb h;obtain⟨h1,h2⟩:=y8 h;unfold qaF;by_cases hb:lo<=b/\b<hi
  ·rw[ae hb,ae h2];exact h1
  rw[aa hb];have:=hG' b h2;exact hnu'r b rb (by omega) h1
 have hn:∀b r,nu b=some r->qaF nu nu' lo hi G' b=some r:=by
  intro b r h;unfold qaF;rw[aa (λhb=>by rw[hnone b hb.1 hb.2]at h;cases h)];exact h
 have keepF:∀rb,F rb->w'.heap[rb]? =w.heap[rb]? :=λrb hF=>st.keep rb (i.ltF rb hF) (iB.notOwns hF)
 have x0:Ext F nu w F' (qaF nu nu' lo hi G') w':=⟨st.f,hn,keepF,st.shape⟩;have x1:Ext F' (restr nu' G') w' F' (qaF nu nu' lo hi G') w':=⟨λ_ h=>h,hsub,λ_ _=>rfl,λ_ _ h=>h⟩
 have join_cases:∀b rb,qaF nu nu' lo hi G' b=some rb->(lo<=b/\b<hi/\G' b/\nu' b=some rb)\/(¬(lo<=b/\b<hi)/\nu b=some rb):=by
  intro b rb h;unfold qaF at h;split at h
  ·rename_i hb;split at h
   ·rename_i hg;exact .inl ⟨hb.1,hb.2,hg,h⟩
   cases h
  rename_i hb;exact .inr ⟨hb,h⟩
 have outS:∀b rb y r,b∉S->nu b=some rb->C[b]? =some y->y.owned=true->Ft w rb y r->¬qa5 (restr nu G) B w r:=λb rb y r hs hb hy ho hf hO=>by
  obtain⟨c,z,rc,hcs,hc1,hc2,hc3,hc4⟩:=ownB r hO;exact hs (i.injF b c rb rc y z r hb hc1 hy hc2 ho hc3 hf hc4▸hcs)
 have ftOut:∀{b rb y r},b∉S->nu b=some rb->C[b]? =some y->y.owned=true->Ft w' rb y r->Ft w rb y r:=λhs hb hy ho hf=>
  hf.same (st.keep _ (i.ltN _ _ hb) (outS _ _ _ _ hs hb hy ho (.inl rfl)))
 have inv:Inv F' (qaF nu nu' lo hi G') C' w':=by
  have fromB':∀b rb y,(b∈S/\Dom nu b\/lo<=b/\G' b)->nu' b=some rb->B'[b]? =some y->RB F' (qaF nu nu' lo hi G') w' rb y:=
   λb rb y hc hb hy=>((st.inv.blk b rb y hb hy).restr (hwfB' b y hc hy)).monoF x1 (λ_ _=>rfl) (λ_ _=>id)
  refine⟨λb rb y hb hy=>?_,λb b' rb rb' y y' r hb hb' hy hy' ho ho' hr hr'=>?_,λb hb=>?_,λrb h=>st.inv.ltF rb h,λb rb h=>?_,st.inv.glob⟩
  ·rcases join_cases b rb hb with⟨h1,h2,h3,h4⟩|⟨h1,h2⟩
   ·rw[hCin b h2 (.inr h1)]at hy;exact fromB' b rb y (.inr ⟨h1,h3⟩) h4 hy
   by_cases hs:b∈S
   ·have hlt:=hS b hs;rw[hCin b (by have:=st.len;omega) (.inl hs)]at hy;exact fromB' b rb y (.inl ⟨hs,by simp[Dom,h2]⟩) (hnu' b rb hlt h2) hy
   rw[hCout b hs (by omega)]at hy
   refine i.keepB x0 h2 hy λhyo r hr=>?_
   have hno:=outS b rb y r hs h2 hy hyo hr;have hlt:=(i.ftF h2 hy hyo hr).2;refine⟨st.keep r hlt hno,λhF'=>?_⟩;rcases st.newF r hF' with h3|h3|h3
   ·exact h3
   ·omega
   exact absurd h3 hno
  ·
   have origin:∀b rb y,qaF nu nu' lo hi G' b=some rb->C'[b]? =some y->y.owned=true->(b<hi/\nu' b=some rb/\B'[b]? =some y)\/(b∉S/\(b<lo\/hi<=b)/\nu b=some rb/\C[b]? =some y):=by
    intro b rb y hb hy _;rcases join_cases b rb hb with⟨h1,h2,h3,h4⟩|⟨h1,h2⟩
    ·rw[hCin b h2 (.inr h1)]at hy;exact .inl ⟨h2,h4,hy⟩
    by_cases hs:b∈S
    ·have hlt:=hS b hs;rw[hCin b (by have:=st.len;omega) (.inl hs)]at hy;exact .inl ⟨by have:=st.len;omega,hnu' b rb hlt h2,hy⟩
    have h1':b<lo\/hi<=b:=by omega
    rw[hCout b hs h1']at hy;exact .inr ⟨hs,h1',h2,hy⟩
   have cross:∀b c rb rc y z r,nu' b=some rb->B'[b]? =some y->y.owned=true->Ft w' rb y r->c∉S->nu c=some rc->C[c]? =some z->z.owned=true->Ft w' rc z r->False:=by
    intro b c rb rc y z r hb hy ho hf hcs hc hz hoz hfz;have hfz':=ftOut hcs hc hz hoz hfz;exact outS c rc z r hcs hc hz hoz hfz' (st.own r (i.ftF hc hz hoz hfz').2 ⟨b,y,rb,hb,hy,ho,hf⟩)
   rcases origin b rb y hb hy ho with⟨_,h2,h3⟩|⟨h1,_,h2,h3⟩
   ·rcases origin b' rb' y' hb' hy' ho' with⟨_,k2,k3⟩|⟨k1,_,k2,k3⟩
    ·exact st.inv.injF b b' rb rb' y y' r h2 k2 h3 k3 ho ho' hr hr'
    exact(cross b b' rb rb' y y' r h2 h3 ho hr k1 k2 k3 ho' hr').elim
   rcases origin b' rb' y' hb' hy' ho' with⟨_,k2,k3⟩|⟨k1,_,k2,k3⟩
   ·exact(cross b' b rb' rb y' y r k2 k3 ho' hr' h1 h2 h3 ho hr).elim
   exact i.injF b b' rb rb' y y' r h2 k2 h3 k3 ho ho' (ftOut h1 h2 h3 ho hr) (ftOut k1 k2 k3 ho' hr')
  ·unfold qaF;rw[aa (by omega)];exact i.fresh b (by omega)
  rcases join_cases b rb h with⟨_,_,_,h4⟩|⟨_,h2⟩
  ·exact st.inv.ltN b rb h4
  have:=i.ltN b rb h2;omega
 refine⟨⟨st.f,hn,st.shape,inv,λrb hlt hno=>?_,λr hlt hO=>?_,hsz,st.os,st.tape,st.output,λrb hF'=>?_⟩,λa v hw hR=>(hR.restr hw).mono x1⟩
 ·refine st.keep rb hlt (λhO=>hno ?_);obtain⟨b,x,rc,_,h1,h2,h3,h4⟩:=ownB rb hO;exact⟨b,x,rc,h1,h2,h3,h4⟩
 ·obtain⟨b,y,rb,hb,hy,ho,hf⟩:=hO;rcases join_cases b rb hb with⟨h1,h2,h3,h4⟩|⟨h1,h2⟩
  ·rw[hCin b h2 (.inr h1)]at hy;obtain⟨c,z,rc,_,hc⟩:=ownB r (st.own r hlt ⟨b,y,rb,h4,hy,ho,hf⟩);exact⟨c,z,rc,hc⟩
  by_cases hs:b∈S
  ·have hl:=hS b hs;rw[hCin b (by have:=st.len;omega) (.inl hs)]at hy;obtain⟨c,z,rc,_,hc⟩:=ownB r (st.own r hlt ⟨b,y,rb,hnu' b rb hl h2,hy,ho,hf⟩);exact⟨c,z,rc,hc⟩
  rw[hCout b hs (by omega)]at hy;exact⟨b,y,rb,h2,hy,ho,ftOut hs h2 hy ho hf⟩
 rcases st.newF rb hF' with h1|h1|h1
 ·exact .inl h1
 ·exact .inr (.inl h1)
 obtain⟨b,x,rc,_,h2⟩:=ownB rb h1;exact .inr (.inr ⟨b,x,rc,h2⟩)
end
end
section
variable [Glob]
open Go.RowKit
structure Rec where
 fp:List Nat
 wr:Bool
 lo:Nat
 hi:Nat
def refsOf:AV->List Nat
 | .ptr b _=>[b]
 | .slice b _ _ _ _=>[b]
 | .oslice b _ _=>[b]
 | .gslice b _ _=>[b]
 | .wslice b _ _ _=>[b]
 | .map b=>[b]
 | .yld b=>[b]
 |_=>[]
def yH:Nat->AV->List Nat
 |0,_=>[]
 |d+1,.func _ a b=>a.flatMap (yH d)++b.flatMap (yH d)
 |d+1,.agg cs=>cs.flatMap (yH d)
 |d+1,.iface _ v=>yH d v
 |_+1,a=>refsOf a
def qju:Tr->List Nat
 | .leaf v=>yH 4 v
 | .node a b c d=>qju a++qju b++qju c++qju d
def qof:Blk->List Nat
 | .cells cs=>cs.flatMap (yH 4)
 | .frozen cs=>cs.flatMap (yH 4)
 | .map ks vs=>ks.flatMap (yH 4)++vs.flatMap (yH 4)
 | .loop _ _ (.tree _ tr) _ _ _=>qju tr
 |_=>[]
def qgI (S xs:List Nat):List Nat:=xs.foldl (λS b=>if S.contains b then S else b::S) S
def qds (A:Heap):Nat->List Nat->List Nat
 |0,S=>S
 |n+1,S=>if(qgI S (S.flatMap λb=>qof (A.getD b .dead))).length=S.length then S else qds A n (qgI S (S.flatMap λb=>qof (A.getD b .dead)))
def qlV (xs:List Operand):List Tmp:=xs.filterMap fun| .tmp t=>some t|_=>none
def vX (ops:Array Oper) (o:Oper):List Tmp:=
 qlV (o.op.operands.toList)++(match o.guard with
  |some (g,_)=>((ops[g]?).bind (·.dst)).toList
  |none=>[])
def maskF (ts:List Tmp) (fr:Fr):Fr:=ts.foldl (λf t=>f.set t (fr.get t)) fr.blank
def qcA (f:AV->AV->Bool):List AV->List AV->Bool
 |[],[]=>true
 |a::AZ,b::bs=>f a b&&qcA f AZ bs
 |_,_=>false
def qcw:Nat->AV->AV->Bool
 |0,_,_=>false
 |d+1,a,b=>match a,b with
  | .undef,.undef=>true
  | .bool x,.bool y=>x==y
  | .int k x,.int l y=>decide (k=l)&&decide (x=y)
  | .str x,.str y=>decide (x=y)
  | .nilptr,.nilptr=>true
  | .ptr x y,.ptr u v=>decide (x=u)&&decide (y=v)
  | .fptr x y,.fptr u v=>qcA (qcw d) x u&&decide (y=v)
  | .nilslice,.nilslice=>true
  | .slice x1 x2 x3 x4 x5,.slice y1 y2 y3 y4 y5=>decide (x1=y1)&&decide (x2=y2)&&decide (x3=y3)&&decide (x4=y4)&&decide (x5=y5)
  | .oslice x1 x2 x3,.oslice y1 y2 y3=>decide (x1=y1)&&decide (x2=y2)&&decide (x3=y3)
  | .gslice x1 x2 x3,.gslice y1 y2 y3=>decide (x1=y1)&&decide (x2=y2)&&decide (x3=y3)
  | .wslice x1 x2 x3 x4,.wslice y1 y2 y3 y4=>decide (x1=y1)&&decide (x2=y2)&&decide (x3=y3)&&decide (x4=y4)
  | .fslice x y,.fslice u v=>decide (x=u)&&qcA (qcw d) y v
  | .nilmap,.nilmap=>true
  | .map x,.map y=>decide (x=y)
  | .fmap x y,.fmap u v=>qcA (qcw d) x u&&qcA (qcw d) y v
  | .nilfunc,.nilfunc=>true
  | .iface t x,.iface u y=>decide (t=u)&&qcw d x y
  | .niliface,.niliface=>true
  | .agg x,.agg y=>qcA (qcw d) x y
  | .tuple x,.tuple y=>qcA (qcw d) x y
  |_,_=>false
def qg8 {f:AV->AV->Bool}(hf:∀a b,f a b=true->a=b):∀(x y:List AV),qcA f x y=true->x=y
 |[],[],_=>rfl
 |a::AZ,b::bs,h=>by
  simp only[qcA,aR]at h;rw[hf a b h.1,qg8 hf AZ bs h.2]
 |[],_::_,h=>by simp[qcA]at h
 |_::_,[],h=>by simp[qcA]at h
def qjr:∀(d:Nat) (a b:AV),qcw d a b=true->a=b:=by
 intro d
 induction d with
 |zero=>intro a b h;simp[qcw]at h
 |succ d ih=>
  intro a b h;have hl:=qg8 ih;cases a<;>cases b<;>simp only[qcw,aR,aO,bR,ZF]at h⊢
  all_goals first
   |(rw[h])
   |(rw[hl _ _ h])
   |(rw[hl _ _ h.1,hl _ _ h.2])
   |(rw[hl _ _ h.1,h.2])
   |(rw[h.1,hl _ _ h.2])
   |(rw[h.1,ih _ _ h.2])
   |(rw[h.1,h.2])
   |(obtain⟨⟨h1,h2⟩,h3⟩:=h;rw[h1,h2,h3])
   |(obtain⟨⟨⟨h1,h2⟩,h3⟩,h4⟩:=h;rw[h1,h2,h3,h4])
   |(obtain⟨⟨⟨⟨h1,h2⟩,h3⟩,h4⟩,h5⟩:=h;rw[h1,h2,h3,h4,h5])
def qqw (a b:Blk):Bool:=
 match a,b with
 | .dead,.dead=>true
 | .cells x,.cells y=>qcA (qcw 30) x y
 | .frozen x,.frozen y=>qcA (qcw 30) x y
 | .map x y,.map u v=>qcA (qcw 30) x u&&qcA (qcw 30) y v
 | .iter x y,.iter u v=>decide (x=u)&&decide (y=v)
 | .bld a b x,.bld c d y=>decide (a=c)&&decide (b=d)&&qcA (qcw 30) x y
 |_,_=>false
def qqn {a b:Blk}(h:qqw a b=true):a=b:=by
 have hl:=qg8 (qjr 30);cases a<;>cases b<;>simp only[qqw,aR,aO,ZF]at h⊢
 all_goals first
  |(rw[hl _ _ h])
  |(rw[hl _ _ h.1,hl _ _ h.2])
  |(rw[h.1,h.2])
  |(obtain⟨⟨h1,h2⟩,h3⟩:=h;rw[h1,h2,hl _ _ h3])
def qaG (o:Oper) (ρ:Operand->AV) (A:Heap):List Nat:=
 match jL o ρ with
 |some (.fn _,args)=>qds A 20 (qgI [] (args.flatMap (yH 4)))
 |some (.mt _ _,args)=>qds A 20 (qgI [] (args.flatMap (yH 4)))
 |some (.rd b,args)=>qds A 20 (qgI [b] (args.flatMap (yH 4)))
 |none=>match o.op with
  | .load _ p=>refsOf (ρ p)
  | .store _ p _=>refsOf (ρ p)
  | .lookup _ x _ _=>refsOf (ρ x)
  | .mapUpdate _ m _ _=>refsOf (ρ m)
  | .insert _ m _ _=>refsOf (ρ m)
  | .mapEntry _ m _=>refsOf (ρ m)
  | .entryStore _ m _ _=>refsOf (ρ m)
  | .range _ x=>refsOf (ρ x)
  | .next x _=>refsOf (ρ x)
  | .convert _ _ x=>refsOf (ρ x)
  | .call c=>(c.args.toList.map ρ).flatMap refsOf
  |_=>[]
section
variable (P:Program) (call:zB)
def qhu (o:Oper) (fr:Fr) (A:Heap):Option (AV×Heap×Rec):=
 let S:=qaG o (yj fr) A
 if S.all (λb=>decide (b<A.length))then
  match qbF P call o fr (mask S A)with
  |some (v,B,f)=>if A.length<=B.length then some (v,merge S A B,⟨S,f.any (·.2)||(jL o (yj fr)).isSome&&S.any (λb=>!qqw ((mask S A).getD b .dead) (B.getD b .dead)),A.length,B.length⟩)else none
  |none=>none
 else none
def qgB (ops:Array Oper) (j:Nat) (s:Fr×Heap):Option ((Fr×Heap)×Rec):=
 match ops[j]? with
 |none=>none
 |some o=>
  match qa2 ops o (maskF (vX ops o) s.1)with
  |some true=>match qhu P call o (maskF (vX ops o) s.1) s.2 with
   |some (v,A',r)=>some ((qel s.1 o.dst v,A'),r)
   |none=>none
  |some false=>some ((qel s.1 o.dst (.tuple []),s.2),⟨[],false,s.2.length,s.2.length⟩)
  |none=>none
def qiJ (ops:Array Oper):Nat->Nat->Fr×Heap->Option ((Fr×Heap)×List Rec)
 |0,_,s=>some (s,[])
 |m+1,j,s=>match qgB P call ops j s with
  |some (s',r)=>(qiJ ops m (j+1) s').map λq=>(q.1,r::q.2)
  |none=>none
def qhb (ops:Array Oper) (i j:Nat):Bool:=
 match ops[i]?,ops[j]? with
 |some x,some y=>
  (match x.dst with|some d=>(vX ops y).contains d||y.dst==some d|none=>false)||
  (match y.dst with|some d=>(vX ops x).contains d|none=>false)
 |_,_=>false
def qfU (r q:Rec):Bool:=r.fp.any (λb=>q.fp.contains b)&&(r.wr||q.wr)||q.fp.any (λb=>decide (r.lo<=b)&&decide (b<r.hi))
def masks (ops:List Oper):List Nat:=
 ops.foldl (λacc o=>acc++[o.after.toList.foldl (λs e=>if Region.binds .any e then s|||2^e.on|||acc.getD e.on 0 else s) 0]) []
def qsa (ops:Array Oper):Bool:=ops.toList.zipIdx.all λp=>p.1.after.toList.all λe=>!Region.binds .any e||decide (e.on<p.2)
def qnn (ops:Array Oper):Bool:=
 qsa ops&&(List.range ops.size).all λj=>(List.range j).all λi=>((masks ops.toList).getD j 0).testBit i||!qhb ops i j
def qtz (ms:List Nat) (rs:List (Rec×Nat)):Bool:=
 rs.all λq=>q.1.fp.isEmpty||rs.all λr=>Nat.ble q.2 r.2||(ms.getD q.2 0).testBit r.2||!qfU r.1 q.1
def qgK (ops:Array Oper) (rs:List Rec):Bool:=qnn ops&&qtz (masks ops.toList) rs.zipIdx
def qfz (ops:Array Oper) (fr:Fr) (A:Heap):Option (Fr×Heap):=
 match qiJ P call ops ops.size 0 (fr,A)with
 |some (s,rs)=>if qgK ops rs then some s else none
 |none=>none
end
section
variable {P:Program}{call:zB}{ops:Array Oper}
def qpE:∀(m j:Nat) (s t:Fr×Heap) (rs:List Rec),qiJ P call ops m j s=some (t,rs)->
 ∃(S:Nat->Fr×Heap) (rk:Nat->Rec),S 0=s/\S m=t/\(∀k,k<m->qgB P call ops (j+k) (S k)=some (S (k+1),rk k))/\∀k,k<m->rs[k]? =some (rk k):=by
 intro m
 induction m with
 |zero=>
  intro j s t rs h;simp only[qiJ,ZI,ZP]at h;exact⟨λ_=>s,λ_=>⟨[],false,0,0⟩,rfl,h.1,by omega,by omega⟩
 |succ m ih=>
  intro j s t rs h;simp only[qiJ]at h;split at h
  ·rename_i s' r hs;obtain⟨q,hq,he⟩:=Yd.1 h;simp only[ZP]at he;obtain⟨rfl,rfl⟩:=he;obtain⟨S,rk,h0,h1,h2,h3⟩:=ih (j+1) s' q.1 q.2 hq;refine⟨λk=>match k with|0=>s|k+1=>S k,λk=>match k with|0=>r|k+1=>rk k,rfl,h1,λk hk=>?_,λk hk=>?_⟩
   ·cases k with
    |zero=>simp only[bz,h0];exact hs
    |succ k=>
     have:=h2 k (by omega);rw[show j+(k+1)=j+1+k by omega];exact this
   cases k with
   |zero=>rfl
   |succ k=>simpa using h3 k (by omega)
  cases h
def qkd:∀(p:Pg) (A:Heap) (f:zx) (v:AV) (A':Heap) (f':zx),exec p A f=some (v,A',f')->(∀x,x∈f->x∈f')/\(f'.any (·.2)=false->∀b,b<A.length->A'[b]? =A[b]?)/\A.length<=A'.length:=by
 intro p
 induction p with
 |fail=>intro A f v A' f' h;cases h
 |done v=>intro A f v A' f' h;simp only[exec,ZI,ZP]at h;obtain⟨_,rfl,rfl⟩:=h;exact⟨λ_ h=>h,λ_ _ _=>rfl,ai _⟩
 |get b k ih=>
  intro A f v A' f' h;simp only[exec]at h;split at h
  ·obtain⟨h1,h2,h3⟩:=ih _ _ _ _ _ _ h;exact⟨λx hx=>h1 x (by simp[hx]),h2,h3⟩
  cases h
 |set b x k ih=>
  intro A f v A' f' h;simp only[exec]at h;split at h
  ·obtain⟨h1,h2,h3⟩:=ih _ _ _ _ _ h;refine⟨λy hy=>h1 y (by simp[hy]),λhf=>?_,by simpa using h3⟩;have:=h1 (b,true) (by simp);have h4:f'.any (·.2)=true:=fO.2 ⟨_,this,rfl⟩;rw[hf]at h4;cases h4
  cases h
 |new x k ih=>
  intro A f v A' f' h;simp only[exec]at h;obtain⟨h1,h2,h3⟩:=ih _ _ _ _ _ _ h;refine⟨h1,λhf b hb=>?_,by simp at h3;omega⟩;rw[h2 hf b (by simp;omega),Yf hb]
def qjF (fr:Fr):∀(ts:List Tmp) (f:Fr),(ts.foldl (λf t=>f.set t (fr.get t)) f).n=f.n/\∀t,(f.get t= .undef\/f.get t=fr.get t)->((ts.foldl (λf t=>f.set t (fr.get t)) f).get t= .undef\/((ts.foldl (λf t=>f.set t (fr.get t)) f).get t=fr.get t/\(t∈ts\/f.get t=fr.get t))):=by
 intro ts
 induction ts with
 |nil=>
  intro f;refine⟨rfl,λt h=>?_⟩;rcases h with h|h
  ·exact .inl h
  exact .inr ⟨h,.inr h⟩
 |cons u ts ih=>
  intro f;obtain⟨h1,h2⟩:=ih (f.set u (fr.get u));refine⟨by simpa using h1,λt h=>?_⟩;simp only[bI];by_cases e:u=t
  ·subst e
   have h3:(f.set u (fr.get u)).get u= .undef\/(f.set u (fr.get u)).get u=fr.get u:=by
    rcases f.get_set_same u (fr.get u)with h3|h3|⟨_,h3⟩
    ·exact .inr h3
    ·exact .inl h3
    rw[h3];exact h
   rcases h2 u h3 with h4|⟨h4,_⟩
   ·exact .inl h4
   exact .inr ⟨h4,.inl (by simp)⟩
  have h3:(f.set u (fr.get u)).get t=f.get t:=Uh e;rcases h2 t (by rw[h3];exact h)with h4|⟨h4,h5⟩
  ·exact .inl h4
  refine .inr ⟨h4,?_⟩;rcases h5 with h5|h5
  ·exact .inl (by simp[h5])
  exact .inr (by rw[<-h3];exact h5)
def qit (ts:List Tmp) (fr:Fr):(maskF ts fr).n=fr.n:=((qjF fr ts fr.blank).1.trans fr.blank_n)
def qeC (ts:List Tmp) (fr:Fr) (t:Nat):(maskF ts fr).get t= .undef\/((maskF ts fr).get t=fr.get t/\t∈ts):=by
 rcases(qjF fr ts fr.blank).2 t (.inl (Fr.get_blank _ _))with h|⟨h1,h2⟩
 ·exact .inl h
 rcases h2 with h2|h2
 ·exact .inr ⟨h1,h2⟩
 rw[Fr.get_blank]at h2;exact .inl (h1.trans h2.symm)
def qnB {j:Nat}{s s':Fr×Heap}{r:Rec}(h:qgB P call ops j s=some (s',r)):∃o,ops[j]? =some o/\
 ((qa2 ops o (maskF (vX ops o) s.1)=some false/\s'=(qel s.1 o.dst (.tuple []),s.2)/\r=⟨[],false,s.2.length,s.2.length⟩)\/
  (qa2 ops o (maskF (vX ops o) s.1)=some true/\∃v B f,qbF P call o (maskF (vX ops o) s.1) (mask r.fp s.2)=some (v,B,f)/\s'=(qel s.1 o.dst v,merge r.fp s.2 B)/\(∀b∈r.fp,b<s.2.length)/\s.2.length<=B.length/\r.lo=s.2.length/\r.hi=B.length/\
   (r.wr=false->∀b,b∈r.fp->B[b]? =(mask r.fp s.2)[b]?))):=by
 unfold qgB at h;split at h
 ·cases h
 rename_i o ho;refine⟨o,ho,?_⟩;split at h
 ·rename_i hw;split at h
  ·rename_i v A' r' hs;simp only[ZI,ZP]at h;obtain⟨rfl,rfl⟩:=h;refine .inr ⟨hw,?_⟩;unfold qhu at hs;simp only at hs;split at hs
   ·rename_i hall;split at hs
    ·rename_i v2 B f hst;split at hs
     ·rename_i hle;simp only[ZI,ZP]at hs;obtain⟨rfl,rfl,rfl⟩:=hs;refine⟨_,B,f,hst,rfl,λb hb=>aP (Yp.1 hall b hb),hle,rfl,rfl,λhwr b hbS=>?_⟩;have hb:b<s.2.length:=aP (Yp.1 hall b hbS);simp only[db]at hwr;unfold qbF at hst
      cases hc:jL o (yj (maskF (vX ops o) s.1))with
      |some q=>
       rw[hc]at hwr;simp only[fj,dj]at hwr;have h1:=List.any_eq_false.1 hwr.2 b hbS;simp only[dJ,Bool.not_eq_false']at h1;have h2:=qqn h1
       have hm:b<(mask (qaG o (yj (maskF (vX ops o) s.1)) s.2) s.2).length:=by rw[xQ];exact hb
       have hB:b<B.length:=by omega
       rw[Yy,Yy,Ya hm,Ya hB]at h2;rw[Ya hm,Ya hB];exact az some h2.symm
      |none=>
       rw[hc]at hst;simp only at hst;exact(qkd _ _ _ _ _ _ hst).2.1 hwr.1 b (by rw[xQ];exact hb)
     cases hs
    cases hs
   cases hs
  cases h
 ·rename_i hw;simp only[ZI,ZP]at h;obtain⟨rfl,rfl⟩:=h;exact .inl ⟨hw,rfl,rfl⟩
 cases h
def qi9 {s m i:Nat}(k:Nat) (h:(s|||2^k|||m).testBit i=true):s.testBit i=true\/i=k\/m.testBit i=true:=by
 simp only[Nat.testBit_or,dP]at h;rcases h with(h|h)|h
 ·exact .inl h
 ·right;left;rw[Nat.testBit_two_pow]at h;exact(aP h).symm
 exact .inr (.inr h)
def qg6 (D:Nat->Prop):∀(os:List Oper) (acc:List Nat) (n:Nat),acc.length=n->(∀k,k<n+os.length->D k->∀o,(n<=k->os[k-n]? =some o->∀e∈o.after.toList,Region.binds .any e=true->D e.on))->
 (∀k i,k<n->(acc.getD k 0).testBit i=true->D k->D i)->
 ∀k i,((os.foldl (λacc o=>acc++[o.after.toList.foldl (λs e=>if Region.binds .any e then s|||2^e.on|||acc.getD e.on 0 else s) 0]) acc).getD k 0).testBit i=true->D k->D i:=by
 intro os
 induction os with
 |nil=>
  intro acc n hn _ hacc k i h hk;simp only[gn]at h;rcases aw k n with hlt|hge
  ·exact hacc k i hlt h hk
  rw[Yy,Yg (by omega)]at h;simp at h
 |cons o os ih=>
  intro acc n hn hcl hacc k i h hk;simp only[bI]at h;refine ih (acc++[o.after.toList.foldl (λs e=>if Region.binds .any e then s|||2^e.on|||acc.getD e.on 0 else s) 0]) (n+1) (by simp[hn]) (λk hk1 hD o' hge ho' e he hb=>?_) (λk i hk1 hbit hD=>?_) k i h hk
  ·have h1:k-n=(k-(n+1))+1:=by omega
   exact hcl k (by simp;omega) hD o' (by omega) (by rw[h1];simpa using ho') e he hb
  rcases aw k n with hlt|hge
  ·rw[Yy,Yf (by omega),<-Yy]at hbit;exact hacc k i hlt hbit hD
  have hkn:k=n:=by omega
  subst hkn;rw[Yy,Yo (by omega),hn,cd]at hbit;simp only[Yj,YN]at hbit
  have hedges:∀e∈o.after.toList,Region.binds .any e=true->D e.on:=λe he hb=>hcl k (by simp) hD o (ai _) (by simp) e he hb
  have hsmall:∀m i,(acc.getD m 0).testBit i=true->D m->D i:=by
   intro m i hb hm;rcases aw m k with hl|hg
   ·exact hacc m i hl hb hm
   rw[Yy,Yg (by omega)]at hb;simp at hb
  have key:∀(es:List Edge) (s:Nat),(∀e∈es,Region.binds .any e=true->D e.on)->(∀i,s.testBit i=true->D i)->
   ∀i,(es.foldl (λs e=>if Region.binds .any e then s|||2^e.on|||acc.getD e.on 0 else s) s).testBit i=true->D i:=by
   intro es
   induction es with
   |nil=>intro s _ hs i h;exact hs i h
   |cons e es ihe=>
    intro s hes hs i h;simp only[bI]at h;refine ihe _ (λe' he'=>hes e' (by simp[he'])) (λi h=>?_) i h;split at h
    ·rename_i hb;have hD:=hes e (by simp) hb;rcases qi9 e.on h with h1|h1|h1
     ·exact hs i h1
     ·subst h1;exact hD
     exact hsmall e.on i h1 hD
    exact hs i h
  exact key _ 0 hedges (by simp) i hbit
end
end
section
variable [Glob]
open Go.RowKit
section
variable {F:Nat->Prop}{nu:Nat->Option Nat}{w:World}
def qmW {C B:Heap}{S:List Nat}{G:Nat->Prop}{lo:Nat}(i:Inv F nu C w) (hB:B.length=lo)
 (hBin:∀b,b∈S->B[b]? =C[b]?) (hBout:∀b y,b∉S->B[b]? =some y->y= .dead) (hGlo:∀b,G b->b<lo)
 (hwfB:∀b y,b∈S->Dom nu b->C[b]? =some y->WFB G y):Inv F (restr nu G) B w:=by
 refine⟨λb rb x hb hx=>?_,λb b' rb rb' x x' r hb hb' hx hx' ho ho' hr hr'=>?_,λb hb=>?_,i.ltF,λb rb h=>i.ltN b rb (y8 h).1,i.glob⟩
 ·obtain⟨h1,h2⟩:=y8 hb;by_cases hs:b∈S
  ·rw[hBin b hs]at hx;exact(i.blk b rb x h1 hx).restr (hwfB b x hs (by simp[Dom,h1]) hx)
  rw[hBout b x hs hx];trivial
 ·have hs:b∈S:=by
   by_cases hs:b∈S
   ·exact hs
   rw[hBout b x hs hx]at ho;cases ho
  have hs':b'∈S:=by
   by_cases hs':b'∈S
   ·exact hs'
   rw[hBout b' x' hs' hx']at ho';cases ho'
  rw[hBin b hs]at hx;rw[hBin b' hs']at hx';exact i.injF b b' rb rb' x x' r (y8 hb).1 (y8 hb').1 hx hx' ho ho' hr hr'
 unfold restr;split
 ·rename_i hg;have:=hGlo b hg;omega
 rfl
def WFB.mono {G G':Nat->Prop}{x:Blk}(h:WFB G x) (hg:∀b,G b->G' b):WFB G' x:=by
 cases x with
 |cells cs=>exact λj a ha=>(h j a ha).mono hg
 |frozen cs=>exact λj a ha=>(h j a ha).mono hg
 |map ks vs=>exact⟨λj a ha=>(h.1 j a ha).mono hg,λj a ha=>(h.2 j a ha).mono hg⟩
 |loop st pend fr ps asg body=>exact λj=>(h j).mono hg
 |bld T e cs=>exact λj a ha=>(h j a ha).mono hg
 |bag es=>
  intro j x hx;have h0:=h j x hx
  cases x with
  |av a=>exact WF.mono h0 hg
  |own k cs=>exact λq a ha=>(h0 q a ha).mono hg
 |_=>trivial
def Inv.domLt {A:Heap}(i:Inv F nu A w) {b:Nat}(h:Dom nu b):b<A.length:=by
 rcases aw b A.length with h1|h1
 ·exact h1
 exact absurd (i.fresh b h1) h
def pad (A:Heap) (N:Nat):Heap:=A++List.replicate (N-A.length) .dead
def qdx {A:Heap}{N:Nat}(h:A.length<=N):(pad A N).length=N:=by simp[pad];omega
def qgh {A:Heap}{N b:Nat}(h:b<A.length):(pad A N)[b]? =A[b]? :=by simp[pad,List.getElem?_append_left h]
def qsZ {A:Heap}{N b:Nat}{y:Blk}(h:A.length<=b) (hy:(pad A N)[b]? =some y):y= .dead:=by
 simp only[pad]at hy;rw[Yo h,List.getElem?_replicate]at hy;split at hy
 ·injection hy with hy;exact hy.symm
 cases hy
def Inv.pad {A:Heap}(i:Inv F nu A w) {N:Nat}(h:A.length<=N):Inv F nu (pad A N) w:=by
 have key:∀b rb y,nu b=some rb->(Go.Av.pad A N)[b]? =some y->A[b]? =some y:=by
  intro b rb y hb hy;have:=i.domLt (b:=b) (by simp[Dom,hb])
  rwa [qgh this]at hy
 refine⟨λb rb x hb hx=>i.blk b rb x hb (key b rb x hb hx),λb b' rb rb' x x' r hb hb' hx hx'=>i.injF b b' rb rb' x x' r hb hb' (key _ _ _ hb hx) (key _ _ _ hb' hx'),λb hb=>i.fresh b (by rw[qdx h]at hb;omega),i.ltF,i.ltN,i.glob⟩
def RF.maskF {fr:Fr}{tmps:Array Value}(ts:List Tmp) (h:RF F nu w fr tmps):RF F nu w (maskF ts fr) tmps:=by
 refine⟨by rw[h.size,qit],λt v hv=>?_,λt ht=>?_⟩
 ·rcases qeC ts fr t with e|⟨e,_⟩
  ·rw[e];exact .undef v
  rw[e];exact h.at_ t v hv
 rcases qeC ts fr t with e|⟨e,_⟩
 ·exact e
 rw[e];exact h.out t (by rwa [qit]at ht)
def RF.restr {G:Nat->Prop}{fr:Fr}{tmps:Array Value}(h:RF F nu w fr tmps) (hw:∀t,WF G (fr.get t)):RF F (restr nu G) w fr tmps:=
 ⟨h.size,λt v hv=>(h.at_ t v hv).restr (hw t),h.out⟩
end
structure SF (P:Program) (ops:Array Oper) (k:Nat) (s s':Fr×Heap) (r:Rec) (o:Oper) (v:AV):Prop where
 ho:ops[k]? =some o
 fr:s'.1=qel s.1 o.dst v
 lo:r.lo=s.2.length
 hi:r.hi=s'.2.length
 le:s.2.length<=s'.2.length
 fp:∀b∈r.fp,b<s.2.length
 quiet:∀b,b<s.2.length->(b∈r.fp->r.wr=false)->s'.2[b]? =s.2[b]?
 run:(qa2 ops o (maskF (vX ops o) s.1)=some false/\v= .tuple []/\s'.2=s.2/\r.fp=[]/\r.wr=false)\/
  (qa2 ops o (maskF (vX ops o) s.1)=some true/\∃B,(∃call f,ky P call/\qbF P call o (maskF (vX ops o) s.1) (mask r.fp s.2)=some (v,B,f))/\B.length=s'.2.length/\
   ∀b,(b∈r.fp\/s.2.length<=b)->s'.2[b]? =B[b]?)
def SF.of {P:Program}{call:zB}(hc:ky P call) {ops:Array Oper}{k:Nat}{s s':Fr×Heap}{r:Rec}(h:qgB P call ops k s=some (s',r)):∃o v,SF P ops k s s' r o v:=by
 obtain⟨o,ho,⟨hw,rfl,rfl⟩|⟨hw,v,B,f,hst,rfl,hfp,hle,hlo,hhi,hwr⟩⟩:=qnB h
 ·exact⟨o,.tuple [],ho,rfl,rfl,rfl,ai _,by simp,λ_ _ _=>rfl,.inl ⟨hw,rfl,rfl,rfl,rfl⟩⟩
 refine⟨o,v,ho,rfl,hlo,by simp[qaA,hhi],by simpa[qaA]using hle,hfp,λb hb hq=>?_,.inr ⟨hw,B,⟨call,f,hc,hst⟩,by simp[qaA],λb hb=>?_⟩⟩
 ·simp only[qcH]
  have hlt:b<B.length:=by omega
  rw[Ya hlt,Ya hb];simp only[ZM,ZI,hb,decide_true,dj,dA];split
  ·simp[List.getD_eq_getElem?_getD,List.getElem?_eq_getElem hb]
  rename_i hc
  have hin:b∈r.fp:=by simpa using hc
  have h1:=hwr (hq hin) b hin;rw[qdU,Ya hb,Ya hlt]at h1;simpa[hin]using h1
 simp only[qcH];rcases aw b B.length with hlt|hge
 ·rw[Ya hlt];simp only[ZM,ZI];rw[aa];rcases hb with hb|hb
  ·simp[hb]
  simp;omega
 rw[Yg hge];rfl
structure Txt (P:Program) (ops:Array Oper) (S:Nat->Fr×Heap) (rk:Nat->Rec) (ok:Nat->Oper) (vk:Nat->AV):Prop where
 sf:∀k,k<ops.size->SF P ops k (S k) (S (k+1)) (rk k) (ok k) (vk k)
section
variable {P:Program}{call:zB}{ops:Array Oper}{S:Nat->Fr×Heap}{rk:Nat->Rec}{ok:Nat->Oper}{vk:Nat->AV}
def Txt.mono (T:Txt P ops S rk ok vk) {m:Nat}:∀(d:Nat),m+d<=ops.size->(S m).2.length<=(S (m+d)).2.length:=by
 intro d
 induction d with
 |zero=>intro _;exact ai _
 |succ d ih=>intro h;exact bx (ih (by omega)) (T.sf (m+d) (by omega)).le
def Txt.le (T:Txt P ops S rk ok vk) {m m':Nat}(h:m<=m') (h':m'<=ops.size):(S m).2.length<=(S m').2.length:=by
 have:=T.mono (m:=m) (m'-m) (by omega)
 rwa [show m+(m'-m)=m' by omega]at this
def Txt.heap (T:Txt P ops S rk ok vk) {m b:Nat}(hb:b<(S m).2.length):∀(d:Nat),m+d<=ops.size->(∀k,m<=k->k<m+d->b∈(rk k).fp->(rk k).wr=false)->(S (m+d)).2[b]? =(S m).2[b]? :=by
 intro d
 induction d with
 |zero=>intro _ _;rfl
 |succ d ih=>
  intro h hq;rw[<-ih (by omega) (λk h1 h2=>hq k h1 (by omega))];exact(T.sf (m+d) (by omega)).quiet b (by have:=T.mono (m:=m) d (by omega);omega) (hq (m+d) (by omega) (by omega))
def qnp {fr:Fr}{dst:Option Tmp}{v:AV}{t:Nat}(h:dst≠some t):(qel fr dst v).get t=fr.get t:=by
 cases dst with
 |none=>rfl
 |some d=>exact Uh (λe=>h (by rw[e]))
def qtT {fr:Fr}{dst:Option Tmp}{v:AV}:(qel fr dst v).n=fr.n:=by
 cases dst<;>simp[qel]
def qpI {fr:Fr}{dst:Option Tmp}{v:AV}{t:Nat}(h:fr.n<=t):(qel fr dst v).get t=fr.get t:=by
 cases dst with
 |none=>rfl
 |some d=>
  by_cases e:d=t
  ·subst e;exact Fr.get_set_out h
  exact Uh e
def Txt.frame (T:Txt P ops S rk ok vk) {m t:Nat}:∀(d:Nat),m+d<=ops.size->(∀k,m<=k->k<m+d->(ok k).dst≠some t)->(S (m+d)).1.get t=(S m).1.get t:=by
 intro d
 induction d with
 |zero=>intro _ _;rfl
 |succ d ih=>
  intro h hq;rw[<-ih (by omega) (λk h1 h2=>hq k h1 (by omega))];have:=(T.sf (m+d) (by omega)).fr;rw[show m+(d+1)=m+d+1 by omega,this];exact qnp (hq (m+d) (by omega) (by omega))
def Txt.flen (T:Txt P ops S rk ok vk):∀(d:Nat),d<=ops.size->(S d).1.n=(S 0).1.n:=by
 intro d
 induction d with
 |zero=>intro _;rfl
 |succ d ih=>
  intro h;rw[(T.sf d (by omega)).fr,qtT,ih (by omega)]
def Txt.fout (T:Txt P ops S rk ok vk) {t:Nat}(ht:(S 0).1.n<=t):∀(d:Nat),d<=ops.size->(S d).1.get t=(S 0).1.get t:=by
 intro d
 induction d with
 |zero=>intro _;rfl
 |succ d ih=>
  intro h;rw[(T.sf d (by omega)).fr,qpI (by rw[T.flen d (by omega)];exact ht),ih (by omega)]
def Txt.place (S:Nat->Fr×Heap) {b:Nat}:∀(d:Nat),b<(S d).2.length->b<(S 0).2.length\/ ∃k,k<d/\(S k).2.length<=b/\b<(S (k+1)).2.length:=by
 intro d
 induction d with
 |zero=>intro h;exact .inl h
 |succ d ih=>
  intro hb;rcases aw b (S d).2.length with h1|h1
  ·rcases ih h1 with h2|⟨k,h2,h3⟩
   ·exact .inl h2
   exact .inr ⟨k,by omega,h3⟩
  exact .inr ⟨d,by omega,h1,hb⟩
def WF.sub {F:Nat->Prop}{nu:Nat->Option Nat}{w:World}{a:AV}{v:Value}(h:R F nu w a v) {G:Nat->Prop}(hG:∀b,Dom nu b->G b):WF G a:=⟨F,nu,w,v,hG,h⟩
def Txt.ghost (T:Txt P ops S rk ok vk) {F0:Nat->Prop}{nu0:Nat->Option Nat}{w0:World}{t0:Array Value}(i0:Inv F0 nu0 (S 0).2 w0) (h0:RF F0 nu0 w0 (S 0).1 t0):
 ∀m,m<=ops.size->∃F nu w tmps,Inv F nu (S m).2 w/\RF F nu w (S m).1 tmps/\(∀b,Dom nu0 b->Dom nu b)/\
  ∀k,k<=m->(∀(t:Nat),WF (λb=>Dom nu b/\b<(S k).2.length) ((S k).1.get t))/\∀(b:Nat) (y:Blk),Dom nu b->(S k).2[b]? =some y->WFB (λb=>Dom nu b/\b<(S k).2.length) y:=by
 intro m
 induction m with
 |zero=>
  intro _;refine⟨F0,nu0,w0,t0,i0,h0,λ_ h=>h,λk hk=>?_⟩
  obtain rfl:k=0:=by omega
  refine⟨λt=>?_,λb y hb hy=>?_⟩
  ·exact WF.sub (h0.getD t) (λb hb=>⟨hb,i0.domLt hb⟩)
  cases hn:nu0 b with
  |none=>exact absurd hn hb
  |some rb=>exact(i0.blk b rb y hn hy).wf (λb hb=>⟨hb,i0.domLt hb⟩)
 |succ m ih=>
  intro hm;obtain⟨F,nu,w,tmps,i,h,hd,hg⟩:=ih (by omega);have sf:=T.sf m (by omega);have fin:∀(F':Nat->Prop) (nu':Nat->Option Nat) (w':World) (x:Value),Inv F' nu' (S (m+1)).2 w'->RF F' nu' w' (S (m+1)).1 (Act.put ⟨tmps,[]⟩ (ok m).dst x).tmps->(∀b,Dom nu b->Dom nu' b)->(∀b,b<(S m).2.length->Dom nu' b->Dom nu b)->
   ∃F nu w tmps,Inv F nu (S (m+1)).2 w/\RF F nu w (S (m+1)).1 tmps/\(∀b,Dom nu0 b->Dom nu b)/\
    ∀k,k<=m+1->(∀(t:Nat),WF (λb=>Dom nu b/\b<(S k).2.length) ((S k).1.get t))/\∀(b:Nat) (y:Blk),Dom nu b->(S k).2[b]? =some y->WFB (λb=>Dom nu b/\b<(S k).2.length) y:=by
   intro F' nu' w' x i' h' hd1 hd2;refine⟨F',nu',w',_,i',h',λb hb=>hd1 b (hd b hb),λk hk=>?_⟩;rcases aw m k with hk2|hk2
   ·obtain rfl:k=m+1:=by omega
    refine⟨λt=>?_,λb y hb hy=>?_⟩
    ·exact WF.sub (h'.getD t) (λb hb=>⟨hb,i'.domLt hb⟩)
    cases hn:nu' b with
    |none=>exact absurd hn hb
    |some rb=>exact(i'.blk b rb y hn hy).wf (λb hb=>⟨hb,i'.domLt hb⟩)
   have hle:=T.le hk2 (by omega);obtain⟨g1,g2⟩:=hg k hk2;refine⟨λt=>(g1 t).mono λb hb=>⟨hd1 b hb.1,hb.2⟩,λb y hb hy=>?_⟩;have hlt:b<(S k).2.length:=(Yb.1 hy).1;have:=g2 b y (hd2 b (by omega) hb) hy
   exact WFB.mono this λb hb=>⟨hd1 b hb.1,hb.2⟩
  rcases sf.run with⟨_,hv,hA,_,_⟩|⟨_,B,⟨call,f,hc,hst⟩,hBl,hBs⟩
  ·refine fin F nu w undef (by rw[hA];exact i) ?_ (λ_ h=>h) (λ_ _ h=>h);rw[sf.fr,hv];exact h.setDst (a:=⟨tmps,[]⟩) _ qiA
  have gm:=hg m (ai _);have hle:=sf.le;have iC:=i.pad (N:=(S (m+1)).2.length) hle
  have hmask:∀b,b∈(rk m).fp->(mask (rk m).fp (S m).2)[b]? =(pad (S m).2 (S (m+1)).2.length)[b]? :=by
   intro b hb;rw[qgh (sf.fp b hb),qdU,Ya (sf.fp b hb)];simp[hb]
  have hmaskO:∀b y,b∉(rk m).fp->(mask (rk m).fp (S m).2)[b]? =some y->y= .dead:=by
   intro b y hb hy;rw[qdU]at hy
   cases hz:(S m).2[b]? with
   |none=>simp[hz]at hy
   |some z=>simp[hz,hb]at hy;exact hy.symm
  have hwfB:∀b y,b∈(rk m).fp->Dom nu b->(pad (S m).2 (S (m+1)).2.length)[b]? =some y->WFB (λb=>Dom nu b/\b<(S m).2.length) y:=by
   intro b y hb hdb hy;rw[qgh (sf.fp b hb)]at hy;exact gm.2 b y hdb hy
  have iB:=qmW iC (B:=mask (rk m).fp (S m).2) (lo:=(S m).2.length) (xQ _ _) hmask hmaskO (λb hb=>hb.2) hwfB;have hB:RF F (restr nu λb=>Dom nu b/\b<(S m).2.length) w (S m).1 tmps:=h.restr gm.1;obtain⟨x,F',nu',w',st,hR⟩:=qqX hc iB (hB.maskF (vX ops (ok m))) hst
  have hdn:∀b,b<(S m).2.length->Dom nu b->Dom nu' b:=by
   intro b hb hdb
   cases hn:nu b with
   |none=>exact absurd hn hdb
   |some rb=>simp[Dom,st.n b rb (qck hn ⟨hdb,hb⟩)]
  obtain⟨mv,hR2⟩:=Stp.part (S:=(rk m).fp) (G:=λb=>Dom nu b/\b<(S m).2.length) (G':=λb=>Dom nu' b/\b<(S (m+1)).2.length) (lo:=(S m).2.length) (hi:=(S (m+1)).2.length) (C:=pad (S m).2 (S (m+1)).2.length) (C':=(S (m+1)).2) (B:=mask (rk m).fp (S m).2) (B':=B)
   iC (xQ _ _) hBl (by rw[qdx hle];exact ai _) (by rw[qdx hle]) (λb hb _=>i.fresh b hb) sf.fp hmask hmaskO (λb h1 h2=>⟨h1,h2⟩) (λb hb=>hb.2) hwfB (λ_=>st)
   (λb y hb hy=>by
    have hbd:Dom nu' b:=by
     rcases hb with⟨h1,h2⟩|⟨_,h2⟩
     ·exact hdn b (sf.fp b h1) h2
     exact h2.1
    cases hn:nu' b with
    |none=>exact absurd hn hbd
    |some rb=>exact(st.inv.blk b rb y hn hy).wf (λb hb=>⟨hb,by have:=st.inv.domLt hb;omega⟩))
   (λb hb=>hb.2) (λb _ hb=>hBs b hb)
   (λb hb hb2=>by
    rcases hb2 with hb2|hb2
    ·rw[qgh hb2];exact sf.quiet b hb2 (λh=>absurd h hb)
    rw[Yg hb2,Yg (by rw[qdx hle];exact hb2)])
  have hvR:R F' (qaF nu nu' (S m).2.length (S (m+1)).2.length λb=>Dom nu' b/\b<(S (m+1)).2.length) w' (vk m) x:=
   hR2 (vk m) x (WF.sub hR λb hb=>⟨hb,by have:=st.inv.domLt hb;omega⟩) hR
  refine fin F' _ w' x mv.inv ?_ (λb hb=>?_) (λb hb hdb=>?_)
  ·rw[sf.fr];exact(h.mono (mv.ext iC)).setDst (a:=⟨tmps,[]⟩) _ hvR
  ·cases hn:nu b with
   |none=>exact absurd hn hb
   |some rb=>intro e;rw[mv.n b rb hn]at e;cases e
  simp only[Dom,qaF]at hdb
  rwa [aa (by omega)]at hdb
structure DI (ops:Array Oper) (S:Nat->Fr×Heap) (rk:Nat->Rec) (ok:Nat->Oper) (G F0:Nat->Prop) (nu0:Nat->Option Nat) (w0:World) (D:Nat->Prop) (C:Heap) (F:Nat->Prop) (nu:Nat->Option Nat) (w:World) (tmps:Array Value):Prop where
 len:C.length=(S ops.size).2.length
 mov:Mov F0 nu0 (pad (S 0).2 (S ops.size).2.length) w0 F nu C w
 dom:∀b,Dom nu b->G b
 made:∀b,Dom nu b->b<(S 0).2.length\/ ∃k,k<ops.size/\D k/\(S k).2.length<=b/\b<(S (k+1)).2.length
 nold:∀b,b<(S 0).2.length->nu b=nu0 b
 cells:∀m,m<=ops.size->∀b,b<(S m).2.length->(b<(S 0).2.length\/ ∃k,k<ops.size/\D k/\(S k).2.length<=b/\b<(S (k+1)).2.length)->
  (∀k,k<ops.size->b∈(rk k).fp->(rk k).wr=true->(k<m↔D k))->C[b]? =(S m).2[b]?
 size:tmps.size=(S 0).1.n
 out:∀t,(S 0).1.n<=t->(S 0).1.get t= .undef
 temps:∀m,m<=ops.size->∀(t:Nat) (v:Value),(∀k,k<ops.size->(ok k).dst=some t->(k<m↔D k))->tmps[t]? =some v->R F nu w ((S m).1.get t) v
structure qh0 (ops:Array Oper) (rk:Nat->Rec) (ok:Nat->Oper) (ord:Nat->Nat->Prop):Prop where
 tmp:∀i j,i<j->j<ops.size->¬ord i j->∀t,(ok i).dst=some t->t∉vX ops (ok j)/\(ok j).dst≠some t
 tmp':∀i j,i<j->j<ops.size->¬ord i j->∀t,(ok j).dst=some t->t∉vX ops (ok i)
 mem:∀i j,i<j->j<ops.size->¬ord i j->((rk i).wr=true\/(rk j).wr=true)->∀b,b∈(rk i).fp->b∉(rk j).fp
 new:∀i j,i<j->j<ops.size->¬ord i j->∀b,b∈(rk j).fp->¬((rk i).lo<=b/\b<(rk i).hi)
def next (fp:List Nat) (C A':Heap) (lo hi:Nat):Heap:=C.zipIdx.map λp=>if(fp.contains p.2||decide (lo<=p.2))&&decide (p.2<hi)then A'.getD p.2 .dead else p.1
def qh2 (fp:List Nat) (C A':Heap) (lo hi:Nat):(next fp C A' lo hi).length=C.length:=by simp[next]
def qll {fp:List Nat}{C A':Heap}{lo hi b:Nat}(hA:A'.length=hi) (hC:hi<=C.length) (hb:b<hi) (h:b∈fp\/lo<=b):(next fp C A' lo hi)[b]? =A'[b]? :=by
 simp only[next,YA,List.getElem?_zipIdx,eR,aG];rw[Ya (show b<C.length by omega),Ya (show b<A'.length by omega)]
 have:(fp.contains b||decide (lo<=b))=true:=by
  rcases h with h|h<;>simp[h]
 simp only[ZM,Function.comp,this,hb,decide_true,Bool.and_self,aT,ZI];rw[Yy,Ya (show b<A'.length by omega)];rfl
def qmt {fp:List Nat}{C A':Heap}{lo hi b:Nat}(h1:b∉fp) (h2:b<lo\/hi<=b):(next fp C A' lo hi)[b]? =C[b]? :=by
 simp only[next,YA,List.getElem?_zipIdx,eR,aG]
 cases h:C[b]? with
 |none=>rfl
 |some x=>
  have:((fp.contains b||decide (lo<=b))&&decide (b<hi))=false:=by
   have:fp.contains b=false:=by simpa using h1
   simp only[this,eZ,Bool.and_eq_false_iff,dr];omega
  simp only[ZM,Function.comp,this,ZF,bh]
def qjI (tmps:Array Value) (df:List Deferred) (dst:Option Tmp) (x:Value):(Act.put ⟨tmps,df⟩ dst x).tmps.size=tmps.size:=by
 cases dst<;>simp[Act.put]
def qo4 {tmps:Array Value}{df:List Deferred}{dst:Option Tmp}{x:Value}{t:Nat}(h:dst≠some t):(Act.put ⟨tmps,df⟩ dst x).tmps[t]? =tmps[t]? :=by
 cases dst with
 |none=>rfl
 |some d=>
  simp only[Act.put];rw[Array.getElem?_setIfInBounds_ne (λe=>h (by rw[e]))]
def qpN {tmps:Array Value}{df:List Deferred}{x v:Value}{t:Nat}(h:(Act.put ⟨tmps,df⟩ (some t) x).tmps[t]? =some v):v=x:=by
 simp only[Act.put]at h;rw[Array.getElem?_setIfInBounds]at h;simp only[aT]at h;split at h
 ·injection h with h;exact h.symm
 cases h
section
variable {G F0:Nat->Prop}{nu0:Nat->Option Nat}{w0:World}{D:Nat->Prop}{C:Heap}{F:Nat->Prop}{nu:Nat->Option Nat}{w:World}{tmps:Array Value}{ord:Nat->Nat->Prop}
def DI.cut (K:qh0 ops rk ok ord) (hcl:∀i k,ord i k->D k->D i) {j:Nat}(hj:j<ops.size) (hnj:¬D j) (hord:∀i,i<j->ord i j->D i) {b:Nat}(hb:b∈(rk j).fp):
 ∀k,k<ops.size->b∈(rk k).fp->(rk k).wr=true->(k<j↔D k):=by
 intro k hk hbk hwk;rcases ee k j with h|h|h
 ·refine⟨λ_=>?_,λ_=>h⟩
  cases Classical.em (ord k j)with
  |inl ho=>exact hord k (by omega) ho
  |inr ho=>exact absurd hb (K.mem k j h hj ho (.inl hwk) b hbk)
 ·subst h;exact⟨λh=>by omega,λh=>absurd h hnj⟩
 refine⟨λh'=>by omega,λhD=>?_⟩
 cases Classical.em (ord j k)with
 |inl ho=>exact absurd (hcl j k ho hD) hnj
 |inr ho=>exact absurd hbk (K.mem j k h hk ho (.inr hwk) b hb)
def DI.cutT (K:qh0 ops rk ok ord) (hcl:∀i k,ord i k->D k->D i) {j:Nat}(hj:j<ops.size) (hnj:¬D j) (hord:∀i,i<j->ord i j->D i) {t:Nat}(ht:t∈vX ops (ok j)):
 ∀k,k<ops.size->(ok k).dst=some t->(k<j↔D k):=by
 intro k hk hd;rcases ee k j with h|h|h
 ·refine⟨λ_=>?_,λ_=>h⟩
  cases Classical.em (ord k j)with
  |inl ho=>exact hord k (by omega) ho
  |inr ho=>exact absurd ht (K.tmp k j h hj ho t hd).1
 ·subst h;exact⟨λh=>by omega,λh=>absurd h hnj⟩
 refine⟨λh'=>by omega,λhD=>?_⟩
 cases Classical.em (ord j k)with
 |inl ho=>exact absurd (hcl j k ho hD) hnj
 |inr ho=>exact absurd ht (K.tmp' j k h hk ho t hd)
def DI.reads (I:DI ops S rk ok G F0 nu0 w0 D C F nu w tmps) (T:Txt P ops S rk ok vk) (K:qh0 ops rk ok ord) (hcl:∀i k,ord i k->D k->D i) {j:Nat}(hj:j<ops.size) (hnj:¬D j) (hord:∀i,i<j->ord i j->D i):
 RF F nu w (maskF (vX ops (ok j)) (S j).1) tmps:=by
 refine⟨by rw[qit,I.size,T.flen j (by omega)],λt v hv=>?_,λt ht=>?_⟩
 ·rcases qeC (vX ops (ok j)) (S j).1 t with e|⟨e,hc⟩
  ·rw[e];exact .undef v
  rw[e];exact I.temps j (by omega) t v (DI.cutT K hcl hj hnj hord hc) hv
 rcases qeC (vX ops (ok j)) (S j).1 t with e|⟨e,_⟩
 ·exact e
 rw[qit,T.flen j (by omega)]at ht;rw[e,T.fout ht j (by omega)];exact I.out t ht
def DI.nextT (I:DI ops S rk ok G F0 nu0 w0 D C F nu w tmps) (T:Txt P ops S rk ok vk) (K:qh0 ops rk ok ord) (hcl:∀i k,ord i k->D k->D i) {j:Nat}(hj:j<ops.size) (hnj:¬D j)
 {D':Nat->Prop}(hD':∀k,D' k↔D k\/k=j) {F':Nat->Prop}{nu':Nat->Option Nat}{w':World}(x1:Ext F nu w F' nu' w') {x:Value}(hx:(∃t:Nat,(ok j).dst=some t/\(S (j+1)).1.get t=vk j)->R F' nu' w' (vk j) x) (df:List Deferred):
 ∀m,m<=ops.size->∀(t:Nat) (v:Value),(∀k,k<ops.size->(ok k).dst=some t->(k<m↔D' k))->(Act.put ⟨tmps,df⟩ (ok j).dst x).tmps[t]? =some v->R F' nu' w' ((S m).1.get t) v:=by
 intro m hm t v hcut hv;by_cases hd:(ok j).dst=some t
 ·have hjm:j<m:=(hcut j hj hd).2 ((hD' j).2 (.inr rfl))
  have hlt:t<tmps.size:=by
   have:=(YB.1 hv).1
   rwa [qjI]at this
  rw[hd]at hv;obtain rfl:=qpN hv
  have hq:∀k,j+1<=k->k<(j+1)+(m-(j+1))->(ok k).dst≠some t:=by
   intro k h1 h2 hdk;have hDk:D' k:=(hcut k (by omega) hdk).1 (by omega);rcases(hD' k).1 hDk with hDk|hDk
   ·cases Classical.em (ord j k)with
    |inl ho=>exact hnj (hcl j k ho hDk)
    |inr ho=>exact(K.tmp j k (by omega) (by omega) ho t hd).2 hdk
   omega
  have h1:=T.frame (m:=j+1) (t:=t) (m-(j+1)) (by omega) hq;rw[show j+1+(m-(j+1))=m by omega]at h1;rw[h1]
  have h2:(S (j+1)).1=(S j).1.set t (vk j):=by rw[(T.sf j hj).fr,hd];rfl
  rcases(S j).1.get_set_same t (vk j)with e|e|⟨hge,_⟩
  ·rw[<-h2]at e;rw[e];exact hx ⟨t,hd,e⟩
  ·rw[<-h2]at e;rw[e];exact .undef _
  rw[T.flen j (by omega),<-I.size]at hge;omega
 rw[qo4 hd]at hv;refine(I.temps m hm t v (λk hk hdk=>?_) hv).mono x1;rw[hcut k hk hdk,hD' k];refine⟨λh=>h.elim id λe=>?_,.inl⟩;subst e;exact absurd hdk hd
set_option maxHeartbeats 1000000 in
def DI.step (I:DI ops S rk ok G F0 nu0 w0 D C F nu w tmps) (T:Txt P ops S rk ok vk) (K:qh0 ops rk ok ord) (hcl:∀i k,ord i k->D k->D i) {j:Nat}(hj:j<ops.size) (hnj:¬D j) (hord:∀i,i<j->ord i j->D i)
 (hG:∀k,k<=ops.size->(∀(t:Nat),WF (λb=>G b/\b<(S k).2.length) ((S k).1.get t))/\∀(b:Nat) (y:Blk),G b->(S k).2[b]? =some y->WFB (λb=>G b/\b<(S k).2.length) y)
 {D':Nat->Prop}(hD':∀k,D' k↔D k\/k=j) {df:List Deferred}{rr:Option Nat}{n:Nat}{Kn:Act->World->Prop}{Q:Exit->Act->World->Prop}
 (hk:∀C' F' nu' w' tmps',DI ops S rk ok G F0 nu0 w0 D' C' F' nu' w' tmps'->Kn ⟨tmps',df⟩ w'):wpOpIn (fz rr) n P ops Q j Kn ⟨tmps,df⟩ w:=by
 have sf:=T.sf j hj;have hreads:=I.reads T K hcl hj hnj hord;have hle:=sf.le;have hleN:(S (j+1)).2.length<=(S ops.size).2.length:=T.le (by omega) (ai _)
 have madeUp:∀b,(b<(S 0).2.length\/ ∃k,k<ops.size/\D k/\(S k).2.length<=b/\b<(S (k+1)).2.length)->(b<(S 0).2.length\/ ∃k,k<ops.size/\D' k/\(S k).2.length<=b/\b<(S (k+1)).2.length):=by
  rintro b (h|⟨k,h1,h2,h3⟩)
  ·exact .inl h
  exact .inr ⟨k,h1,(hD' k).2 (.inl h2),h3⟩
 have sepK:∀k b,k<ops.size->(S k).2.length<=b->b<(S (k+1)).2.length->(S j).2.length<=b->b<(S (j+1)).2.length->k=j:=by
  intro k b hk h1 h2 h3 h4;rcases ee k j with h|h|h
  ·have:=T.le (m:=k+1) (m':=j) (by omega) (by omega);omega
  ·exact h
  have:=T.le (m:=j+1) (m':=k) (by omega) (by omega);omega
 have hnone:∀b,(S j).2.length<=b->b<(S (j+1)).2.length->nu b=none:=by
  intro b h1 h2
  cases hn:nu b with
  |none=>rfl
  |some r=>
   rcases I.made b (by simp[Dom,hn])with h|⟨k,hk1,hk2,hk3,hk4⟩
   ·have:=T.le (m:=0) (m':=j) (by omega) (by omega);omega
   obtain rfl:=sepK k b hk1 hk3 hk4 h1 h2;exact absurd hk2 hnj
 have hfpm:∀b,b∈(rk j).fp->b<(S 0).2.length\/ ∃k,k<ops.size/\D k/\(S k).2.length<=b/\b<(S (k+1)).2.length:=by
  intro b hb;rcases Txt.place S j (sf.fp b hb)with h|⟨k,h1,h2,h3⟩
  ·exact .inl h
  refine .inr ⟨k,by omega,?_,h2,h3⟩
  cases Classical.em (ord k j)with
  |inl ho=>exact hord k (by omega) ho
  |inr ho=>exact absurd ⟨by rw[(T.sf k (by omega)).lo];exact h2,by rw[(T.sf k (by omega)).hi];exact h3⟩ (K.new k j h1 hj ho b hb)
 have hfpC:∀b,b∈(rk j).fp->C[b]? =(S j).2[b]? :=λb hb=>I.cells j (by omega) b (sf.fp b hb) (hfpm b hb) (DI.cut K hcl hj hnj hord hb)
 unfold wpOpIn;rw[sf.ho];simp only;rcases sf.run with⟨hw,hv,hA,hfp,hwr⟩|⟨hw,B,⟨call,f,hc,hst⟩,hBl,hBs⟩
 ·rw[qcI hreads hw];simp only[ZF,bh]
  have:Act.put ⟨tmps,df⟩ (ok j).dst undef=⟨(Act.put ⟨tmps,df⟩ (ok j).dst undef).tmps,df⟩:=by cases(ok j).dst<;>rfl
  rw[this];refine⟨λ_ _=>trivial,?_⟩;refine hk C F nu w _ ⟨I.len,I.mov,I.dom,λb hb=>madeUp b (I.made b hb),I.nold,λm hm b hb hmd hcut=>?_,by rw[qjI];exact I.size,I.out,I.nextT T K hcl hj hnj hD' (Ext.refl _ _ _) (λ_=>by rw[hv];exact qiA) df⟩;refine I.cells m hm b hb ?_ (λk hk1 hk2 hk3=>?_)
  ·rcases hmd with h|⟨k,h1,h2,h3,h4⟩
   ·exact .inl h
   rcases(hD' k).1 h2 with h2|rfl
   ·exact .inr ⟨k,h1,h2,h3,h4⟩
   rw[hA]at h4;omega
  rw[hcut k hk1 hk2 hk3,hD' k];refine⟨λh=>h.elim id λe=>?_,.inl⟩;subst e;rw[hfp]at hk2;cases hk2
 rw[qcI hreads hw];simp only[aT];have iC:=I.mov.inv;obtain⟨gj1,gj2⟩:=hG j (by omega);obtain⟨gn1,gn2⟩:=hG (j+1) (by omega)
 have hmask:∀b,b∈(rk j).fp->(mask (rk j).fp (S j).2)[b]? =C[b]? :=by
  intro b hb;rw[hfpC b hb,qdU,Ya (sf.fp b hb)];simp[hb]
 have hmaskO:∀b y,b∉(rk j).fp->(mask (rk j).fp (S j).2)[b]? =some y->y= .dead:=by
  intro b y hb hy;rw[qdU]at hy
  cases hz:(S j).2[b]? with
  |none=>simp[hz]at hy
  |some z=>simp[hz,hb]at hy;exact hy.symm
 have hwfB:∀b y,b∈(rk j).fp->Dom nu b->C[b]? =some y->WFB (λb=>G b/\b<(S j).2.length) y:=by
  intro b y hb hdb hy;rw[hfpC b hb]at hy;exact gj2 b y (I.dom b hdb) hy
 have iB:=qmW iC (B:=mask (rk j).fp (S j).2) (lo:=(S j).2.length) (xQ _ _) hmask hmaskO (λb hb=>hb.2) hwfB
 have hB:RF F (restr nu λb=>G b/\b<(S j).2.length) w (maskF (vX ops (ok j)) (S j).1) tmps:=by
  refine hreads.restr λt=>?_
  rcases qeC (vX ops (ok j)) (S j).1 t with e|⟨e,_⟩
  ·rw[e];exact⟨F,λ_=>none,w,.nilIface,λb hb=>absurd rfl hb,.undef _⟩
  rw[e];exact gj1 t
 refine qjh hc iB hB hst (λx F' nu' w' st hR _=>?_);obtain⟨mv,hR2⟩:=Stp.part (S:=(rk j).fp) (G:=λb=>G b/\b<(S j).2.length) (G':=λb=>G b/\b<(S (j+1)).2.length) (lo:=(S j).2.length) (hi:=(S (j+1)).2.length) (C:=C)
  (C':=next (rk j).fp C (S (j+1)).2 (S j).2.length (S (j+1)).2.length) (B:=mask (rk j).fp (S j).2) (B':=B)
  iC (xQ _ _) hBl (by rw[I.len];exact hleN) (qh2 _ _ _ _ _) hnone sf.fp hmask hmaskO (λb h1 h2=>⟨I.dom b h1,h2⟩) (λb hb=>hb.2) hwfB (λ_=>st)
  (λb y hb hy=>by
   rcases hb with⟨h1,h2⟩|⟨h1,h2⟩
   ·rw[<-hBs b (.inl h1)]at hy;exact gn2 b y (I.dom b h2) hy
   rw[<-hBs b (.inr h1)]at hy
   exact gn2 b y h2.1 hy)
  (λb hb=>hb.2) (λb hb hb2=>by rw[qll rfl (by rw[I.len];exact hleN) hb hb2];exact hBs b hb2)
  (λb hb hb2=>qmt hb hb2)
 have:Act.put ⟨tmps,df⟩ (ok j).dst x=⟨(Act.put ⟨tmps,df⟩ (ok j).dst x).tmps,df⟩:=by cases(ok j).dst<;>rfl
 rw[this]
 have jn:∀b,Dom (qaF nu nu' (S j).2.length (S (j+1)).2.length λb=>G b/\b<(S (j+1)).2.length) b->((S j).2.length<=b/\b<(S (j+1)).2.length/\G b)\/Dom nu b:=by
  intro b hb;simp only[Dom,qaF]at hb;split at hb
  ·rename_i h;split at hb
   ·rename_i h2;exact .inl ⟨h.1,h.2,h2.1⟩
   exact absurd rfl hb
  exact .inr hb
 refine hk (next (rk j).fp C (S (j+1)).2 (S j).2.length (S (j+1)).2.length) F' _ w' _ ⟨by rw[qh2];exact I.len,I.mov.trans mv,λb hb=>?_,λb hb=>?_,λb hb=>?_,λm hm b hb hmd hcut=>?_,by rw[qjI];exact I.size,I.out,?_⟩
 ·rcases jn b hb with h|h
  ·exact h.2.2
  exact I.dom b h
 ·rcases jn b hb with h|h
  ·exact .inr ⟨j,hj,(hD' j).2 (.inr rfl),h.1,h.2.1⟩
  exact madeUp b (I.made b h)
 ·have:=T.le (m:=0) (m':=j) (by omega) (by omega);simp only[qaF];rw[aa (by omega)];exact I.nold b hb
 ·
  have later:(b∈(rk j).fp/\(rk j).wr=true\/(S j).2.length<=b/\b<(S (j+1)).2.length)->j<m->(S (j+1)).2[b]? =(S m).2[b]? :=by
   intro hcase hjm
   have hbl:b<(S (j+1)).2.length:=by
    rcases hcase with h|h
    ·have:=sf.fp b h.1;omega
    exact h.2
   have:=T.heap (m:=j+1) hbl (m-(j+1)) (by omega) (λk h1 h2 hbk=>by
    cases hwk:(rk k).wr with
    |false=>rfl
    |true=>
     have hDk:=(hD' k).1 ((hcut k (by omega) hbk hwk).1 (by omega));rcases hDk with hDk|hDk
     ·cases Classical.em (ord j k)with
      |inl ho=>exact absurd (hcl j k ho hDk) hnj
      |inr ho=>
       rcases hcase with h|h
       ·exact absurd hbk (K.mem j k (by omega) (by omega) ho (.inl h.2) b h.1)
       exact absurd ⟨by rw[sf.lo];exact h.1,by rw[sf.hi];exact h.2⟩ (K.new j k (by omega) (by omega) ho b hbk)
     omega)
   rw[show j+1+(m-(j+1))=m by omega]at this;exact this.symm
  by_cases hin:b∈(rk j).fp
  ·have hbl:=sf.fp b hin;rw[qll rfl (by rw[I.len];exact hleN) (by omega) (.inl hin)]
   cases hwj:(rk j).wr with
   |true=>exact later (.inl ⟨hin,hwj⟩) ((hcut j hj hin hwj).2 ((hD' j).2 (.inr rfl)))
   |false=>
    rw[sf.quiet b hbl (λ_=>hwj),<-hfpC b hin];refine I.cells m hm b hb (hfpm b hin) (λk hk1 hk2 hk3=>?_);rw[hcut k hk1 hk2 hk3,hD' k];refine⟨λh=>h.elim id λe=>?_,.inl⟩;subst e;rw[hwj]at hk3;cases hk3
  by_cases hnew:(S j).2.length<=b/\b<(S (j+1)).2.length
  ·rw[qll rfl (by rw[I.len];exact hleN) hnew.2 (.inr hnew.1)];refine later (.inr hnew) ?_;rcases aw j m with h|h
   ·exact h
   have:=T.le h (by omega);omega
  rw[qmt hin (by omega)];refine I.cells m hm b hb ?_ (λk hk1 hk2 hk3=>?_)
  ·rcases hmd with h|⟨k,h1,h2,h3,h4⟩
   ·exact .inl h
   rcases(hD' k).1 h2 with h2|rfl
   ·exact .inr ⟨k,h1,h2,h3,h4⟩
   exact absurd ⟨h3,h4⟩ hnew
  rw[hcut k hk1 hk2 hk3,hD' k];refine⟨λh=>h.elim id λe=>?_,.inl⟩;subst e;exact absurd hk2 hin
 refine I.nextT T K hcl hj hnj hD' (mv.ext iC) (λ⟨t,_,e⟩=>hR2 _ x (e▸gn1 t) hR) df
end
def qjX {nu:Nat->Option Nat}{A:Heap}{N rb:Nat}{w:World}(h:qa5 nu (pad A N) w rb):qa5 nu A w rb:=by
 obtain⟨b,x,rc,h1,h2,h3,h4⟩:=h;rcases aw b A.length with hb|hb
 ·rw[qgh hb]at h2;exact⟨b,x,rc,h1,h2,h3,h4⟩
 rw[qsZ hb h2]at h3;cases h3
def qh0.of {rs:List Rec}(h:qgK ops rs=true) (hr:∀k,k<ops.size->rs[k]? =some (rk k)) (ho:∀k,k<ops.size->ops[k]? =some (ok k)):
 qh0 ops rk ok λi j=>((masks ops.toList).getD j 0).testBit i=true:=by
 have key:∀i j,i<j->j<ops.size->¬((masks ops.toList).getD j 0).testBit i=true->qhb ops i j=false/\qfU (rk i) (rk j)=false:=by
  intro i j hij hj hno;simp only[qgK,qnn,qtz,aR]at h;simp only[dJ]at hno;have h1:=Yp.1 (Yp.1 h.1.2 j (cP.2 hj)) i (cP.2 hij);rw[hno]at h1;have hi':(rk i,i)∈rs.zipIdx:=List.mem_zipIdx_iff_getElem?.2 (hr i (by omega));have hj':(rk j,j)∈rs.zipIdx:=List.mem_zipIdx_iff_getElem?.2 (hr j hj);have h2:=Yp.1 h.2 (rk j,j) hj';refine⟨by simpa using h1,?_⟩;simp only[dP]at h2;rcases h2 with h2|h2
  ·have e:(rk j).fp=[]:=eo.1 h2;simp[qfU,e]
  have h3:=Yp.1 h2 (rk i,i) hi'
  have hb:Nat.ble j i=false:=by
   cases hb:Nat.ble j i with
   |false=>rfl
   |true=>have:=Ys hb;omega
  simp only[hno,hb,eZ]at h3;simpa using h3
 refine⟨λi j hij hj hno t ht=>?_,λi j hij hj hno t ht=>?_,λi j hij hj hno hw b hb hb2=>?_,λi j hij hj hno b hb hb2=>?_⟩
 ·have:=(key i j hij hj hno).1;simp only[qhb,ho i (by omega),ho j hj,ht]at this;simp only[db]at this;refine⟨by simpa using this.1.1,λe=>?_⟩;have h2:=this.1.2;rw[e]at h2;simp at h2
 ·have:=(key i j hij hj hno).1;simp only[qhb,ho i (by omega),ho j hj,ht]at this;simp only[db]at this;simpa using this.2
 ·have:=(key i j hij hj hno).2;simp only[qfU,db,Bool.and_eq_false_iff]at this;rcases this.1 with h1|h1
  ·have h2:((rk i).fp.any λb=>(rk j).fp.contains b)=true:=fO.2 ⟨b,hb,by simpa using hb2⟩;rw[h1]at h2;cases h2
  rcases hw with hw|hw
  ·rw[h1.1]at hw;cases hw
  rw[h1.2]at hw;cases hw
 have:=(key i j hij hj hno).2;simp only[qfU,db]at this;have h2:((rk j).fp.any λb=>decide ((rk i).lo<=b)&&decide (b<(rk i).hi))=true:=fO.2 ⟨b,hb,by simp[hb2.1,hb2.2]⟩;rw[this.2]at h2;cases h2
def qqq {p q:Nat->Bool}{i:Nat}:∀(l:List Nat),i∈l->(∀k,q k=true->p k=true)->p i=true->q i=false->(l.filter q).length<(l.filter p).length:=by
 intro l
 induction l with
 |nil=>intro h;cases h
 |cons x l ih=>
  intro hi hpq hp hq
  have hle:∀l:List Nat,(l.filter q).length<=(l.filter p).length:=by
   intro l
   induction l with
   |nil=>exact ai _
   |cons y l ihl=>
    simp only[fN]
    cases hy:q y with
    |true=>simp[hpq y hy,ihl]
    |false=>
     cases p y<;>simp<;>omega
  rcases bT.1 hi with rfl|h
  ·simp only[fN,hp,hq];have:=hle l;simp;omega
  have:=ih h hpq hp hq;simp only[fN]
  cases hx:q x with
  |true=>simp[hpq x hx,this]
  |false=>cases p x<;>simp<;>omega
def qeR {listed:Array Bool}{j k:Nat}(hj:j<listed.size):(listed.setIfInBounds j true).getD k false=true↔listed.getD k false=true\/k=j:=by
 simp only[Array.getD_eq_getD_getElem?,Array.getElem?_setIfInBounds];by_cases e:j=k
 ·subst e;simp[hj]
 have e':¬k=j:=λh=>e h.symm
 simp[e,e']
def mem_ready {ops:Array Oper}{listed:Array Bool}{i:Nat}:i∈Region.ready .any ops listed↔i<ops.size/\listed.getD i true=false/\∃o,ops[i]? =some o/\∀e∈o.after.toList,Region.binds .any e=true->listed.getD e.on false=true:=by
 simp only[Region.ready,fZ,cP,aR,dA];refine and_congr Iff.rfl (and_congr Iff.rfl ?_)
 cases h:ops[i]? with
 |none=>simp
 |some o=>
  simp only[ZM,YN,ZI,exists_eq_left'];rw[<-Array.all_toList,Yp]
  refine forall_congr' λe=>forall_congr' λhe=>?_
  cases Region.binds .any e<;>simp
section
variable {F:Nat->Prop}{nu:Nat->Option Nat}{w:World}{A:Heap}
def qms (i:Inv F nu A w) {fr:Fr}{a:Act}(h:RF F nu w fr a.tmps) {fr':Fr}{A':Heap}{S:Nat->Fr×Heap}{rk:Nat->Rec}{rs:List Rec}(hS0:S 0=(fr,A)) (hSn:S ops.size=(fr',A')) (hex:∀k,∃o v,k<ops.size->SF P ops k (S k) (S (k+1)) (rk k) o v)
 (hok:qgK ops rs=true) (hrs:∀k,k<ops.size->rs[k]? =some (rk k)) {rr:Option Nat}{n:Nat}{Q:Exit->Act->World->Prop}
 (hq:∀F' nu' w' a',a'.defers=a.defers->Stp F nu A w F' nu' A' w'->RF F' nu' w' fr' a'.tmps->Q .normal a' w'):wpAnyIn (fz rr) n P .any ops Q ops.size (Array.replicate ops.size false) a w:=by
 have he:(S ops.size)=(fr',A'):=hSn;obtain⟨ok,hok2⟩:=Classical.axiomOfChoice hex;obtain⟨vk,hvk⟩:=Classical.axiomOfChoice hok2;have T:Txt P ops S rk ok vk:=⟨λk hk=>hvk k hk⟩;have K:=qh0.of hok (λk hk=>hrs k hk) (λk hk=>(T.sf k hk).ho)
 have hA0:(S 0).2=A:=by rw[hS0]
 have hf0:(S 0).1=fr:=by rw[hS0]
 have hAn:(S ops.size).2=A':=by rw[hSn]
 have hfn:(S ops.size).1=fr':=by rw[hSn]
 have i0:Inv F nu (S 0).2 w:=by rw[hA0];exact i
 have h0:RF F nu w (S 0).1 a.tmps:=by rw[hf0];exact h
 obtain⟨Fg,nug,wg,tg,_,_,hd0,hG⟩:=T.ghost i0 h0 ops.size (ai _);have hle:=T.le (aD ops.size) (ai _)
 have hedge:∀k o,ops[k]? =some o->∀e∈o.after.toList,Region.binds .any e=true->e.on<k:=by
  intro k o ho e he hb;simp only[qgK,qnn,aR]at hok
  have hmem:(o,k)∈ops.toList.zipIdx:=by
   rw[List.mem_zipIdx_iff_getElem?];simpa using ho
  have h1:=Yp.1 (Yp.1 hok.1.1 (o,k) hmem) e he;simpa[hb]using h1
 have fin:∀(D:Nat->Prop) C F' nu' w' tmps,(∀k,k<ops.size->D k)->DI ops S rk ok (λb=>Dom nug b) F nu w D C F' nu' w' tmps->Q .normal ⟨tmps,a.defers⟩ w':=by
  intro D C F' nu' w' tmps hD I
  have hC:C=A':=by
   rw[<-hAn]
   refine List.ext_getElem? λb=>?_
   rcases aw b (S ops.size).2.length with hb|hb
   ·refine I.cells ops.size (ai _) b hb ?_ (λk hk _ _=>⟨λ_=>hD k hk,λ_=>hk⟩);rcases Txt.place S ops.size hb with h1|⟨k,h1,h2,h3⟩
    ·exact .inl h1
    exact .inr ⟨k,h1,hD k h1,h2,h3⟩
   rw[Yg hb,Yg (by rw[I.len];exact hb)]
  subst hC;refine hq F' nu' w' _ rfl ?_ ⟨?_,λt v hv=>?_,λt ht=>?_⟩
  ·have mv:=I.mov;rw[hA0]at mv;have hlen:=I.len;rw[hA0]at hle;refine⟨mv.f,mv.n,mv.shape,mv.inv,λrb hlt hno=>mv.keep rb hlt λhO=>hno (qjX hO),λrb hlt hO=>qjX (mv.own rb hlt hO),mv.size,mv.os,mv.tape,mv.output,λb hb=>I.nold b (by rw[hA0];exact hb),by rw[hlen];exact hle,λrb hF=>?_⟩;rcases mv.newF rb hF with h1|h1|h1
   ·exact .inl h1
   ·exact .inr (.inl h1)
   exact .inr (.inr (qjX h1))
  ·rw[I.size,<-hfn,T.flen ops.size (ai _)]
  ·rw[<-hfn];exact I.temps ops.size (ai _) t v (λk hk _=>⟨λ_=>hD k hk,λ_=>hk⟩) hv
  rw[<-hfn]at ht⊢;rw[T.flen ops.size (ai _)]at ht;rw[T.fout ht ops.size (ai _)];exact I.out t ht
 have go:∀(fuel:Nat) (listed:Array Bool) C F' nu' w' tmps,listed.size=ops.size->((List.range ops.size).filter λk=>!listed.getD k true).length<=fuel->
  (∀k o,listed.getD k false=true->ops[k]? =some o->∀e∈o.after.toList,Region.binds .any e=true->listed.getD e.on false=true)->
  DI ops S rk ok (λb=>Dom nug b) F nu w (λk=>listed.getD k false=true) C F' nu' w' tmps->wpAnyIn (fz rr) n P .any ops Q fuel listed ⟨tmps,a.defers⟩ w':=by
  have tf:∀(listed:Array Bool) k,k<listed.size->listed.getD k true=listed.getD k false:=by
   intro listed k hk;simp[Array.getD,hk]
  intro fuel
  induction fuel with
  |zero=>
   intro listed C F' nu' w' tmps hsz hcount _ I
   have hall:∀k,k<ops.size->listed.getD k false=true:=by
    intro k hk
    cases hl:listed.getD k false with
    |true=>rfl
    |false=>
     have hm:k∈(List.range ops.size).filter λk=>!listed.getD k true:=by
      simp only[fZ,cP,hk,true_and];rw[tf listed k (by omega),hl];rfl
     have:=List.length_pos_of_mem hm;omega
   refine⟨?_,fin _ C F' nu' w' tmps hall I⟩
   refine List.eq_nil_iff_forall_not_mem.2 λk hk=>?_
   obtain⟨h1,h2,_⟩:=mem_ready.1 hk;rw[tf listed k (by omega),hall k h1]at h2;cases h2
  |succ fuel ih=>
   intro listed C F' nu' w' tmps hsz hcount hclo I;refine⟨λhnil=>fin _ C F' nu' w' tmps (λk=>?_) I,λj hj=>?_⟩
   ·induction k using Nat.strongRecOn with
    |_ k ihk=>
     intro hk
     cases hl:listed.getD k false with
     |true=>rfl
     |false=>
      have:k∈Region.ready .any ops listed:=by
       refine mem_ready.2 ⟨hk,by rw[tf listed k (by omega),hl],ok k,(T.sf k hk).ho,λe he hb=>?_⟩;have:=hedge k (ok k) (T.sf k hk).ho e he hb;exact ihk e.on this (by omega)
      rw[hnil]at this;cases this
   obtain⟨hj1,hj2,o,hj3,hj4⟩:=mem_ready.1 hj
   have hjs:j<listed.size:=by omega
   have hnj:¬listed.getD j false=true:=by rw[<-tf listed j hjs,hj2];simp
   have hclo':∀k o,(listed.setIfInBounds j true).getD k false=true->ops[k]? =some o->∀e∈o.after.toList,Region.binds .any e=true->(listed.setIfInBounds j true).getD e.on false=true:=by
    intro k o' hk ho' e he hb;rw[qeR hjs]at hk⊢;rcases hk with hk|rfl
    ·exact .inl (hclo k o' hk ho' e he hb)
    rw[hj3]at ho';injection ho' with ho';subst ho';exact .inl (hj4 e he hb)
   have hcl:∀i k,((masks ops.toList).getD k 0).testBit i=true->listed.getD k false=true->listed.getD i false=true:=by
    intro i k hb hk;exact qg6 (λk=>listed.getD k false=true) ops.toList [] 0 rfl (λk _ hD o' _ ho' e he hbb=>hclo k o' hD (by simpa using ho') e he hbb) (λk i hk=>by omega) k i hb hk
   have hord:∀i,i<j->((masks ops.toList).getD j 0).testBit i=true->listed.getD i false=true:=by
    intro i hij hb;have:=qg6 (λk=>(listed.setIfInBounds j true).getD k false=true) ops.toList [] 0 rfl (λk _ hD o' _ ho' e he hbb=>hclo' k o' hD (by simpa using ho') e he hbb) (λk i hk=>by omega) j i hb ((qeR hjs).2 (.inr rfl));rcases(qeR hjs).1 this with h1|h1
    ·exact h1
    omega
   refine I.step T K hcl hj1 hnj hord hG (D':=λk=>(listed.setIfInBounds j true).getD k false=true) (λk=>qeR hjs) (λC2 F2 nu2 w2 tmps2 I2=>?_);refine ih _ C2 F2 nu2 w2 tmps2 (by simpa using hsz) ?_ hclo' I2;have:=qqq (p:=λk=>!listed.getD k true) (q:=λk=>!(listed.setIfInBounds j true).getD k true) (i:=j) (List.range ops.size) (cP.2 hj1) (λk hk=>?_) (by simp only[hj2,Bool.not_false]) ?_
   ·omega
   ·simp only[Array.getD_eq_getD_getElem?,Array.getElem?_setIfInBounds]at hk⊢;by_cases e:j=k
    ·subst e;simp[hjs]at hk
    simpa[e]using hk
   simp[Array.getD_eq_getD_getElem?,hjs]
 have:=go ops.size (Array.replicate ops.size false) (pad (S 0).2 (S ops.size).2.length) F nu w a.tmps (by simp) (by
  refine bx (List.length_filter_le _ _) ?_
  simp) (λk o hk=>by
  simp[Array.getD_eq_getD_getElem?,Array.getElem?_replicate]at hk
  split at hk<;>simp at hk) ?_
 ·exact this
 refine⟨qdx hle,.refl (i0.pad hle),hd0,λb hb=> .inl (i0.domLt hb),λ_ _=>rfl,λm hm b hb hmd hcut=>?_,h0.size,h0.out,λm hm t v hcut hv=>?_⟩
 ·have hno:∀k,¬((Array.replicate ops.size false).getD k false=true):=by
   intro k;simp only[Array.getD_eq_getD_getElem?,Array.getElem?_replicate];split<;>simp
  rcases hmd with h1|⟨k,_,h2,_⟩
  ·rw[qgh h1]
   have:=T.heap (m:=0) h1 m (by omega) (λk _ hk hbk=>by
    cases hwk:(rk k).wr with
    |false=>rfl
    |true=>exact absurd ((hcut k (by omega) hbk hwk).1 (by omega)) (hno k))
   rw[aG]at this;exact this.symm
  exact absurd h2 (hno k)
 have hno:∀k,¬((Array.replicate ops.size false).getD k false=true):=by
  intro k;simp only[Array.getD_eq_getD_getElem?,Array.getElem?_replicate];split<;>simp
 have:=T.frame (m:=0) (t:=t) m (by omega) (λk _ hk hd=>hno k ((hcut k (by omega) hd).1 (by omega)));rw[aG]at this;rw[this];exact h0.at_ t v hv
def qp2 (hc:ky P call) (i:Inv F nu A w) {fr:Fr}{a:Act}(h:RF F nu w fr a.tmps) {fr':Fr}{A':Heap}(he:qfz P call ops fr A=some (fr',A')) {rr:Option Nat}{n:Nat}{Q:Exit->Act->World->Prop}
 (hq:∀F' nu' w' a',a'.defers=a.defers->Stp F nu A w F' nu' A' w'->RF F' nu' w' fr' a'.tmps->Q .normal a' w'):wpAnyIn (fz rr) n P .any ops Q ops.size (Array.replicate ops.size false) a w:=by
 unfold qfz at he;split at he
 ·rename_i s rs hrun;split at he
  ·rename_i hok;injection he with he;obtain⟨S,rk,hS0,hSn,hstep,hrs⟩:=qpE _ _ _ _ _ hrun;refine qms i h hS0 (hSn.trans he) (λk=>?_) hok hrs hq;by_cases hk:k<ops.size
   ·have:=hstep k hk;rw[aG]at this;obtain⟨o,v,sf⟩:=SF.of hc this;exact⟨o,v,λ_=>sf⟩
   exact⟨default,default,λh=>absurd h hk⟩
  cases he
 cases he
end
end
end
section
variable [Glob]
open Go.RowKit
def qeW (P:Program) (call:zB) (ops:Array Oper) (draw:Bool) (s:St):Option St:=
 if draw then qfz P call ops s.1 s.2 else qfT P call ops ops.toList s.1 s.2
def rdOK (rd:Option Nat) (A:Heap):Bool:=
 match rd with
 |none=>true
 |some b=>match A[b]? with
  |some (.loop ..)=>true
  |_=>false
def endA (b:Nat) (fr:Fr) (A:Heap):Option (XA×St):=
 match A[b]? with
 |some (.loop st pend fr2 ps2 asg2 body2)=>
  if st= .busy then none else
  match pend with
  |none=>some (.normal,fr,A.set b (.loop .exhausted pend fr2 ps2 asg2 body2))
  |some .ret=>some (.ret,fr,A.set b (.loop .exhausted pend fr2 ps2 asg2 body2))
  |some (.exit id)=>some (.exit id,fr,A.set b (.loop .exhausted pend fr2 ps2 asg2 body2))
  |_=>none
 |_=>none
section
variable (P:Program) (call:zB) (N:Nat) (rd:Option Nat)
def zo:Code->St->Option (XA×St)
 | .skip,s=>some (.normal,s)
 | .label _,s=>some (.normal,s)
 | .region _ ops draw,s=>(qeW P call ops draw s).map λr=>(.normal,r)
 | .seq a b,s=>match zo a s with
   |some (.normal,s')=>zo b s'
   |r=>r
 | .cond c a b,s=>match yj s.1 c with
   | .bool true=>zo a s
   | .bool false=>zo b s
   |_=>none
 | .block id b,s=>match zo b s with
   |some (.exit k,s')=>if k=id then some (.normal,s')else some (.exit k,s')
   |r=>r
 | .loop b,s=>qgx N (zo b) s
 | .exit id,s=>some (.exit id,s)
 | .scope b,s=>zo b s
 | .ret,s=>some (.ret,s)
 | .rangeFunc g ps asg body,s=>
   match rdOK rd s.2,yj s.1 g with
   |true,.func (.func gf) first captured=>
    if !qln P gf then none else
    match call (.fn gf) (first++[.yld s.2.length]++captured) (s.2++[.loop .ready none s.1 ps asg body])with
    |some (_,A2)=>endA s.2.length s.1 A2
    |none=>none
   |_,_=>none
 |_,_=>none
def setAll (fr:Fr) (ps:List Tmp) (args:List AV):Fr:=(ps.zip args).foldl (λfr p=>fr.set p.1 p.2) fr
def qgN:XA->Option Code
 | .normal=>none
 | .exit id=>some (.exit id)
 | .ret=>some .ret
end
section
variable (P:Program) (call:zB) (N:Nat)
def qpu (b:Nat) (r:Option (XA×St)):Option (AV×Heap):=
 match r with
 |some (x,_,A2)=>match A2[b]? with
  |some (.loop _ _ f2 ps2 as2 bd2)=>some (.bool (qgN x).isNone,A2.set b (.loop (if(qgN x).isNone then .ready else .done) (qgN x) f2 ps2 as2 bd2))
  |_=>none
 |none=>none
def qmh (b:Nat) (args:List AV) (A:Heap):Option (AV×Heap):=
 match A[b]? with
 |some (.loop _ _ fr ps asg bd)=>
  if args.length=ps.size then
   match zo P call N (some b) asg (setAll fr ps.toList args,A)with
   |some (.normal,fr1,A1)=>match A1[b]? with
    |some (.loop .ready p1 f1 ps1 as1 bd1)=>qpu b (zo P call N (some b) bd (fr1,A1.set b (.loop .busy p1 f1 ps1 as1 bd1)))
    |_=>none
   |_=>none
  else none
 |_=>none
def qgz:List AV->Nat->Tr->Tr
 |[],_,t=>t
 |a::AZ,k,t=>qgz AZ (k+1) (t.set k a)
def frOf (n:Nat) (args:List AV):Fr:= .tree (args.length+(n-args.length)) (qgz args 0 (Ui (U1 n)))
def ql2 (f:FuncId) (args:List AV) (A:Heap):Option (AV×Heap):=
 match P.funcs[f]? with
 |some fn=>
  if fn.name== "runtime.NumGoroutine" then none else
  match fn.body with
  |some c=>
   match zo P call N none c (frOf fn.ntmps args,A)with
   |some (.exit _,_)=>none
   |some (_,fr,A')=>(zU P fr A' fn.results.toList).map λvs=>(qg9 vs,A')
   |none=>none
  |none=>none
 |none=>none
def qnk (c:Cl) (args:List AV) (A:Heap):Option (AV×Heap):=
 match c with
 | .fn f=>ql2 P call N f args A
 | .rd b=>qmh P call N b args A
 | .mt _ _=>none
end
def qi0:XA->Exit
 | .normal=> .normal
 | .exit id=> .exit id
 | .ret=> .ret
structure Dfr (base:Nat) (F:Nat->Prop) (nu:Nat->Option Nat) (A:Heap) (w:World) (ds:List Deferred):Prop where
 each:∀d∈ds,∃r,d.target= .collected r/\base<=r/\w.heap[r]? =some (.deferred (some []))/\¬qa5 nu A w r/\¬F r
 apart:ds.Pairwise λd e=>d.target≠e.target
def qnz (rd rr:Option Nat) (nu:Nat->Option Nat):Prop:=
 match rd,rr with
 |none,none=>True
 |some b,some rb=>nu b=some rb
 |_,_=>False
section
variable {P:Program}{call:zB}{N:Nat}
section
variable {F F':Nat->Prop}{nu nu':Nat->Option Nat}{A A':Heap}{w w':World}{base:Nat}
def Dfr.nil:Dfr base F nu A w []:=⟨by simp,.nil⟩
def Dfr.step {ds:List Deferred}(h:Dfr base F nu A w ds) (st:Stp F nu A w F' nu' A' w'):Dfr base F' nu' A' w' ds:=by
 refine⟨λd hd=>?_,h.apart⟩;obtain⟨r,h1,h2,h3,h4,h5⟩:=h.each d hd;have hlt:r<w.heap.size:=(YB.1 h3).1;refine⟨r,h1,h2,(st.keep r hlt h4).trans h3,λhO=>h4 (st.own r hlt hO),λhF=>?_⟩;rcases st.newF r hF with h|h|h
 ·exact h5 h
 ·omega
 exact h4 h
def qnz.step {rd rr:Option Nat}(h:qnz rd rr nu) (st:Stp F nu A w F' nu' A' w'):qnz rd rr nu':=by
 cases rd<;>cases rr<;>simp only[qnz]at h⊢
 exact st.n _ _ h
def RF.setAll {params:List Tmp}:∀{fr:Fr}{tmps:Array Value}{args:List AV}{vs:List Value},RF F nu w fr tmps->args.length=vs.length->(∀(i:Nat) (a:AV) (v:Value),args[i]? =some a->vs[i]? =some v->R F nu w a v)->
 RF F nu w (setAll fr params args) ((params.zip vs).foldl (λtmps (p:Tmp×Value)=>tmps.setIfInBounds p.1 p.2) tmps):=by
 induction params with
 |nil=>intro fr tmps args vs h _ _;simpa[Go.Av.setAll]using h
 |cons p params ih=>
  intro fr tmps args vs h hl hR
  cases args with
  |nil=>
   cases vs with
   |nil=>simpa[Go.Av.setAll]using h
   |cons v vs=>simp at hl
  |cons a args=>
   cases vs with
   |nil=>simp at hl
   |cons v vs=>
    have h1:=h.setDst (a:=⟨tmps,[]⟩) (some p) (hR 0 a v rfl rfl);exact ih (fr:=fr.set p a) (tmps:=tmps.setIfInBounds p v) h1 (by simpa using hl) (λi a v ha hv=>hR (i+1) a v (by simpa using ha) (by simpa using hv))
def qkH:∀(AZ:List AV) (k:Nat) (t:Tr) (j:Nat),(j<k\/k+AZ.length<=j->(qgz AZ k t).get j=t.get j)/\(k<=j->∀a,AZ[j-k]? =some a->(qgz AZ k t).get j=a\/(qgz AZ k t).get j= .undef):=by
 intro AZ
 induction AZ with
 |nil=>intro k t j;exact⟨λ_=>rfl,λ_ a h=>by simp at h⟩
 |cons a AZ ih=>
  intro k t j;obtain⟨h1,h2⟩:=ih (k+1) (t.set k a) j;simp only[qgz];refine⟨λh=>?_,λh b hb=>?_⟩
  ·have hj:j<k\/k+(AZ.length+1)<=j:=by simpa using h
   rw[h1 (by omega)];exact Tr.get_set_other _ _ _ _ (by omega)
  rcases aw k j with hk|hk
  ·have e:j-k=(j-(k+1))+1:=by omega
   rw[e]at hb;exact h2 (by omega) b (by simpa using hb)
  have e:j=k:=by omega
  subst e;rw[cd]at hb;simp only[Yj,ZI]at hb;subst hb;rw[h1 (.inl (by omega))];exact Tr.get_set_same _ _ _
def RF.frOf {args:List AV}{vs:Array Value}(n:Nat) (h:RL F nu w args vs):RF F nu w (frOf n args) (vs++Array.replicate (n-vs.size) undef):=by
 have hs:=h.1;refine⟨by simp[Go.Av.frOf,Fr.n,hs],λt v hv=>?_,λt ht=>?_⟩
 ·have hg:=qkH args 0 (Ui (U1 n)) t;rcases aw t args.length with hlt|hge
  ·rw[YC (by omega)]at hv;rcases hg.2 (aD _) args[t] (by simp[hlt])with e|e
   ·show R F nu w ((qgz args 0 (Ui (U1 n))).get t) v;rw[e];exact h.2 t _ v (Ya hlt) hv
   show R F nu w ((qgz args 0 (Ui (U1 n))).get t) v;rw[e];exact .undef v
  show R F nu w ((qgz args 0 (Ui (U1 n))).get t) v;rw[hg.1 (by omega),Tr.get_full];exact .undef v
 have hge:args.length<=t:=by simp only[Go.Av.frOf,Fr.n]at ht;omega
 show(qgz args 0 (Ui (U1 n))).get t= .undef;rw[(qkH args 0 (Ui (U1 n)) t).1 (by omega),Tr.get_full]
def qrk (i:Inv F nu A w) {fr:Fr}{tmps:Array Value}(h:RF F nu w fr tmps) (fn:FuncId) (dd:Nat) (ps:Array Tmp) (asg body:Code):∃w2 nu2,
 w.alloc (.loop {state:= .ready,pending:=none,fn:=fn,tmps:=tmps,params:=ps,assign:=asg,body:=body,defers:=dd})=w2/\Stp F nu A w F nu2 (A++[.loop .ready none fr ps asg body]) w2/\nu2 A.length=some w.heap.size:=by
 have x1:∀o,Ext F nu w F (upd nu A.length w.heap.size) (w.alloc o):=λo=>
  ⟨λ_ h=>h,qec i _,λrb h=>Go.heap_alloc_old w o rb (i.ltF rb h),λrb s hs=>qb7 o rb s hs⟩
 exact⟨_,_,rfl,Stp.alloc i _ _ ⟨λh=>absurd (i.ltF _ h) (by omega),fn,tmps,dd,Go.heap_alloc_new w _,h.mono (x1 _)⟩,upd_same _ _⟩
def run_enterLoop_inner {l:Nat}{r:Loop}(h:w.heap[l]? =some (.loop r)) (fn:FuncId) (tmps:Array Value) (ps:Array Tmp) (assign body:Code):
 (Instr.enterLoop fn tmps ps assign body (some l)).run P w=
  .ok (w.heap.size,[]) (w.alloc (.loop {state:= .ready,pending:=none,fn,tmps,params:=ps,assign,body,defers:=r.defers})):=by
 unfold Instr.enterLoop;simp only[Sem.run_bind,run_getLoop h,run_newObj_alloc,Result.andThen,Sem.run_pure]
end
def qj8 {a:Act}{g:Operand}{l gf:Nat}{vf vc:Array Value}{w:World}(hz:a.eval g= .func (.func gf) vf vc):
 (resolve a.eval (rangeCall g l) 0).run P w= .ok ⟨.fn (.func gf) vc,vf++#[.func (.yield l) #[] #[]]⟩ w:=by
 have e:Array.map a.eval #[Operand.const (Value.func (Fn.yield l) #[] #[])]=#[.func (.yield l) #[] #[]]:=by simp[Act.eval]
 unfold resolve;simp only[hz,Deferred.ofValue,e,Sem.run_pure]
def qm0 {gf:FuncId}(hent:Enters P gf) (vs vc:Array Value) (w:World):(invoke (.fn (.func gf) vc) vs).run P w= .ok (.enter gf (vs++vc)) w:=by
 simp only[invoke];exact qeN hent _ _
def qs5 {F:Nat->Prop}{nu:Nat->Option Nat}{A2:Heap}{w:World}{b l:Nat}{fr:Fr}{x:XA}{fr':Fr}{A':Heap}(i:Inv F nu A2 w) (hb:nu b=some l) (he:endA b fr A2=some (x,fr',A')):
 fr'=fr/\∃pend w',(Instr.endLoop l).run P w= .ok pend w'/\Stp F nu A2 w F nu A' w'/\((pend=none/\x= .normal)\/(pend=some .ret/\x= .ret)\/ ∃id,pend=some (.exit id)/\x= .exit id):=by
 unfold endA at he;split at he
 ·rename_i stt pend fr2 ps2 asg2 body2 hA2;obtain⟨hnF,fn2,tmps2,dd2,hheap,hfr2⟩:=i.blk _ _ _ hb hA2;split at he
  ·cases he
  rename_i hbusy;have hend:=run_endLoop (P:=P) hheap hbusy;have st4:=Stp.setLoop i (st:= .exhausted) (pend:=pend) (fr:=fr2) (ps:=ps2) (asg:=asg2) (body:=body2) (r:={state:= .exhausted,pending:=pend,fn:=fn2,tmps:=tmps2,params:=ps2,assign:=asg2,body:=body2,defers:=dd2}) hb hA2 rfl hheap rfl hfr2;split at he
  ·simp only[ZI,ZP]at he;obtain⟨rfl,rfl,rfl⟩:=he;exact⟨rfl,_,_,hend,st4,.inl ⟨rfl,rfl⟩⟩
  ·simp only[ZI,ZP]at he;obtain⟨rfl,rfl,rfl⟩:=he;exact⟨rfl,_,_,hend,st4,.inr (.inl ⟨rfl,rfl⟩)⟩
  ·simp only[ZI,ZP]at he;obtain⟨rfl,rfl,rfl⟩:=he;exact⟨rfl,_,_,hend,st4,.inr (.inr ⟨_,rfl,rfl⟩)⟩
  cases he
 cases he
def qeH {FF:Fence}{n:Nat}{c:Code}{Q:Exit->Act->World->Prop}{a:Act}{w:World}
 (h:c.wpIn FF n P (Exit.then (λa' w'=>∀(b:Frame) (k:List Item) (cs:List Frame),b.roundOf=FF.round->FF.fn b.fn->FF.room (cs.length+1+n)->∃e a₂ w₂,Q e a₂ w₂/\ArrivesIn (Machine.fenced P FF) P (lone (b.atR a' (.code c:: .inLoop c::k)) cs w') b k cs e a₂ w₂) Q) a w)
 (b:Frame) (k:List Item) (cs:List Frame) (hro:b.roundOf=FF.round) (hb:FF.fn b.fn) (hr:FF.room (cs.length+1+n)):∃e a₂ w₂,Q e a₂ w₂/\ArrivesIn (Machine.fenced P FF) P (lone (b.atR a (.code c:: .inLoop c::k)) cs w) b k cs e a₂ w₂:=by
 obtain⟨e,a₁,w₁,hq,harr⟩:=h b (.inLoop c::k) cs hro hb hr
 cases e with
 |normal=>
  obtain⟨e₂,a₂,w₂,hq₂,harr₂⟩:=hq b k cs hro hb hr;exact⟨e₂,a₂,w₂,hq₂,.of_steps (StepsIn.trans harr (.one (fenced_calm hb hr rfl) stepR_inLoop)) harr₂⟩
 |exit id=>exact⟨_,a₁,w₁,hq,.pass (x:= .inLoop c) rfl (λ_ _=> .inl (by simp)) harr⟩
 |goto l=>exact⟨_,a₁,w₁,hq,.pass (x:= .inLoop c) rfl (λ_ _=> .inl (by simp)) harr⟩
 |ret=>exact⟨_,a₁,w₁,hq,.pass (x:= .inLoop c) rfl (λ_ _=> .inl (by simp)) harr⟩
 |panic ch=>exact⟨_,a₁,w₁,hq,.pass (x:= .inLoop c) rfl (λ_ _=> .inl (by simp)) harr⟩
 |outgrown=>exact⟨_,a₁,w₁,hq,.pass (x:= .inLoop c) rfl (λ_ _=> .inl (by simp)) harr⟩
def qbt {b:Frame}{a:Act}{k:List Item}{cs:List Frame}{w:World}{c:Code}:step P (lone (b.atR a (.code (.scope c)::k)) cs w)= .next (lone (b.atR a (.code c:: .inScope c::k)) cs w):=
 step_lone_go (by simp[stepG,stepG.exec,Frame.atR])
def qjx {b:Frame}{a:Act}{k:List Item}{cs:List Frame}{w:World}{c:Code}:step P (lone (b.atR a (.inScope c::k)) cs w)= .next (lone (b.atR a k) cs w):=
 step_lone_go (by simp[stepG,stepG.exec,Frame.atR])
def qde {FF:Fence}{n:Nat}{c:Code}{Q:Exit->Act->World->Prop}{a:Act}{w:World}(h:c.wpIn FF n P (Exit.noGoto Q) a w):(Code.scope c).wpIn FF n P Q a w:=by
 intro b k cs hro hb hr;have h0:(lone (b.atR a (.code (.scope c)::k)) cs w).fenced P FF:=fenced_calm hb hr rfl;obtain⟨e,a₁,w₁,hq,harr⟩:=h b (.inScope c::k) cs hro hb hr
 have hx:∀id,exitTo id (.inScope c::k)=exitTo id k:=λid=>by simp[exitTo]
 cases e with
 |normal=>exact⟨.normal,a₁,w₁,hq,.head h0 qbt (StepsIn.trans harr (.one (fenced_calm hb hr rfl) qjx))⟩
 |exit id=>exact⟨.exit id,a₁,w₁,hq,λk' hk=> .head h0 qbt (harr.1 k' (by rw[hx];exact hk)),λhr' hk=>let⟨k₁,h1,h2⟩:=harr.2 hr' (by rw[hx];exact hk);⟨k₁,h1,.head h0 qbt h2⟩⟩
 |goto l=>exact hq.elim
 |ret=>exact⟨_,a₁,w₁,hq,.of_steps (.one h0 qbt) harr⟩
 |panic ch=>exact⟨_,a₁,w₁,hq,.of_steps (.one h0 qbt) harr⟩
 |outgrown=>exact⟨_,a₁,w₁,hq,.of_steps (.one h0 qbt) harr⟩
set_option maxHeartbeats 4000000 in
def qha (hc:ky P call) (hm:P.follows .mixedOrders=true) {rd rr:Option Nat}{n base:Nat}:∀(c:Code) {F:Nat->Prop}{nu:Nat->Option Nat}{A:Heap}{w:World}(_:Inv F nu A w) {fr:Fr}{a:Act}(_:RF F nu w fr a.tmps)
 (_:qnz rd rr nu) (_:Dfr base F nu A w a.defers) (_:base<=w.heap.size) {x:XA}{fr':Fr}{A':Heap}
 (_:zo P call N rd c (fr,A)=some (x,fr',A')) {Q:Exit->Act->World->Prop}(_:∀F' nu' w' a',Dfr base F' nu' A' w' a'.defers->Stp F nu A w F' nu' A' w'->RF F' nu' w' fr' a'.tmps->Q (qi0 x) a' w'),c.wpIn (fz rr) n P Q a w:=by
 intro c
 induction c with
 |skip=>
  intro F nu A w i fr a h hrd hdf hbase x fr' A' he Q hq;simp only[zo,ZI,ZP]at he;obtain⟨rfl,rfl,rfl⟩:=he;exact wpIn_skip (hq F nu w a hdf (.refl i) h)
 |label l=>
  intro F nu A w i fr a h hrd hdf hbase x fr' A' he Q hq;simp only[zo,ZI,ZP]at he;obtain⟨rfl,rfl,rfl⟩:=he;exact wpIn_label (hq F nu w a hdf (.refl i) h)
 |exit id=>
  intro F nu A w i fr a h hrd hdf hbase x fr' A' he Q hq;simp only[zo,ZI,ZP]at he;obtain⟨rfl,rfl,rfl⟩:=he;exact wpIn_exit (hq F nu w a hdf (.refl i) h)
 |ret=>
  intro F nu A w i fr a h hrd hdf hbase x fr' A' he Q hq;simp only[zo,ZI,ZP]at he;obtain⟨rfl,rfl,rfl⟩:=he;exact wpIn_ret (hq F nu w a hdf (.refl i) h)
 |region id ops draw=>
  intro F nu A w i fr a h hrd hdf hbase x fr' A' he Q hq;simp only[zo,Yd,ZP]at he;obtain⟨⟨fr1,A1⟩,hr,rfl,he⟩:=he;simp only[ZP]at he;obtain⟨rfl,rfl⟩:=he;unfold qeW at hr
  cases draw with
  |false=>
   simp only[ZF,bh]at hr;rw[<-qj0]at hr;exact wpIn_region (qnH hc _ i h hr (λF' nu' w' a' hd st hfr=>hq F' nu' w' a' (by rw[hd];exact hdf.step st) st hfr))
  |true=>
   simp only[aT]at hr;have sd:=Stp.drew (w:=w) i;refine wpIn_region_any hm ?_;exact qp2 hc sd.inv (h.mono (sd.ext i)) hr (λF' nu' w' a' hd hst hfr=>hq F' nu' w' a' (by rw[hd];exact hdf.step (sd.trans hst)) (sd.trans hst) hfr)
 |seq c1 c2 ih1 ih2=>
  intro F nu A w i fr a h hrd hdf hbase x fr' A' he Q hq;simp only[zo]at he;refine wpIn_seq ?_
  cases h1:zo P call N rd c1 (fr,A)with
  |none=>simp[h1]at he
  |some r=>
   obtain⟨x1,fr1,A1⟩:=r;rw[h1]at he
   cases x1 with
   |normal=>
    refine ih1 i h hrd hdf hbase h1 (λF1 nu1 w1 a1 hd1 st1 hf1=>?_);exact ih2 st1.inv hf1 (hrd.step st1) hd1 (bx hbase st1.size) he (λF2 nu2 w2 a2 hd2 st2 hf2=>hq F2 nu2 w2 a2 hd2 (st1.trans st2) hf2)
   |exit k=>
    simp only[ZI,ZP]at he;obtain⟨rfl,rfl,rfl⟩:=he;exact ih1 i h hrd hdf hbase h1 hq
   |ret=>
    simp only[ZI,ZP]at he;obtain⟨rfl,rfl,rfl⟩:=he;exact ih1 i h hrd hdf hbase h1 hq
 |cond c c1 c2 ih1 ih2=>
  intro F nu A w i fr a h hrd hdf hbase x fr' A' he Q hq;simp only[zo]at he;have hv:=h.eval i.glob c
  cases hcv:yj fr c with
  |bool b=>
   rw[hcv]at he hv
   have hb:a.eval c= .bool b:=by
    generalize a.eval c=z at hv;cases hv
    rfl
   cases b with
   |true=>exact wpIn_cond_true hb (ih1 i h hrd hdf hbase he hq)
   |false=>exact wpIn_cond_false hb (ih2 i h hrd hdf hbase he hq)
  |_=>simp[hcv]at he
 |block id c ih=>
  intro F nu A w i fr a h hrd hdf hbase x fr' A' he Q hq;simp only[zo]at he;refine wpIn_block ?_
  cases h1:zo P call N rd c (fr,A)with
  |none=>simp[h1]at he
  |some r=>
   obtain⟨x1,fr1,A1⟩:=r;rw[h1]at he
   cases x1 with
   |normal=>
    simp only[ZI,ZP]at he;obtain⟨rfl,rfl,rfl⟩:=he;exact ih i h hrd hdf hbase h1 hq
   |ret=>
    simp only[ZI,ZP]at he;obtain⟨rfl,rfl,rfl⟩:=he;exact ih i h hrd hdf hbase h1 hq
   |exit k=>
    simp only at he;refine ih i h hrd hdf hbase h1 (λF1 nu1 w1 a1 hd1 st1 hf1=>?_);simp only[qi0,Exit.inBlock];split at he
    ·rename_i e;simp only[ZI,ZP]at he;obtain⟨rfl,rfl,rfl⟩:=he;rw[ae e];exact hq F1 nu1 w1 a1 hd1 st1 hf1
    rename_i e;simp only[ZI,ZP]at he;obtain⟨rfl,rfl,rfl⟩:=he;rw[aa e];exact hq F1 nu1 w1 a1 hd1 st1 hf1
 |loop c ih=>
  intro F nu A w i fr a h hrd hdf hbase x fr' A' he Q hq;simp only[zo]at he;have key:∀(m:Nat) {F:Nat->Prop}{nu:Nat->Option Nat}{A:Heap}{w:World}(_:Inv F nu A w) {fr:Fr}{a:Act}(_:RF F nu w fr a.tmps) (_:qnz rd rr nu) (_:Dfr base F nu A w a.defers) (_:base<=w.heap.size)
   (_:qgx m (zo P call N rd c) (fr,A)=some (x,fr',A'))
   (_:∀F' nu' w' a',Dfr base F' nu' A' w' a'.defers->Stp F nu A w F' nu' A' w'->RF F' nu' w' fr' a'.tmps->Q (qi0 x) a' w') (b:Frame) (k:List Item) (cs:List Frame),b.roundOf=(fz rr).round->(fz rr).fn b.fn->(fz rr).room (cs.length+1+n)->
   ∃e a₂ w₂,Q e a₂ w₂/\ArrivesIn (Machine.fenced P (fz rr)) P (lone (b.atR a (.code c:: .inLoop c::k)) cs w) b k cs e a₂ w₂:=by
   intro m
   induction m with
   |zero=>intro F nu A w i fr a h hrd hdf hbase he;simp[qgx]at he
   |succ m ihm=>
    intro F nu A w i fr a h hrd hdf hbase he hq b k cs hro hb hr;simp only[qgx]at he;refine qeH ?_ b k cs hro hb hr
    cases h1:zo P call N rd c (fr,A)with
    |none=>simp[h1]at he
    |some r=>
     obtain⟨x1,fr1,A1⟩:=r;rw[h1]at he
     cases x1 with
     |normal=>
      refine ih i h hrd hdf hbase h1 (λF1 nu1 w1 a1 hd1 st1 hf1=>?_);exact ihm st1.inv hf1 (hrd.step st1) hd1 (bx hbase st1.size) he (λF2 nu2 w2 a2 hd2 st2 hf2=>hq F2 nu2 w2 a2 hd2 (st1.trans st2) hf2)
     |exit k=>
      simp only[ZI,ZP]at he;obtain⟨rfl,rfl,rfl⟩:=he;exact ih i h hrd hdf hbase h1 hq
     |ret=>
      simp only[ZI,ZP]at he;obtain⟨rfl,rfl,rfl⟩:=he;exact ih i h hrd hdf hbase h1 hq
  intro b k cs hro hb hr;obtain⟨e,a₂,w₂,hq2,harr⟩:=key N i h hrd hdf hbase he hq b k cs hro hb hr;exact⟨e,a₂,w₂,hq2,.of_steps (.one (fenced_calm hb hr rfl) stepR_loop) harr⟩
 |scope c ih=>
  intro F nu A w i fr a h hrd hdf hbase x fr' A' he Q hq;simp only[zo]at he;refine qde (ih i h hrd hdf hbase he (λF1 nu1 w1 a1 hd1 st1 hf1=>?_));have:=hq F1 nu1 w1 a1 hd1 st1 hf1;cases x<;>exact this
 |rangeFunc g ps asg body=>
  intro F nu A w i fr a h hrd hdf hbase x fr' A' he Q hq;simp only[zo]at he;split at he
  ·rename_i gf first captured hok hg;split at he
   ·cases he
   rename_i hentB;have hent:Enters P gf:=enters_of (by simpa using hentB);split at he
   ·rename_i v A2 hcallA;have hgv:=h.eval i.glob g;rw[hg]at hgv;generalize hz:a.eval g=z at hgv
    cases hgv with
    |func _ _ _ vf vc hl1 hl2 hR1 hR2=>
     have hok2:=hc _ _ _ _ _ hcallA;have core:∀(w1:World) (mark:List Deferred) (dd:Nat),Stp F nu A w F nu A w1->Dfr base F nu A w1 (mark++a.defers)->
      (∀fn,(Instr.enterLoop fn a.tmps ps asg body rr).run P w= .ok (w1.heap.size,mark) (w1.alloc (.loop {state:= .ready,pending:=none,fn:=fn,tmps:=a.tmps,params:=ps,assign:=asg,body:=body,defers:=dd})))->
      (Code.rangeFunc g ps asg body).wpIn (fz rr) n P Q a w:=by
      intro w1 mark dd st1 hdf1 henter
      refine wpIn_rangeFunc λfn _=>?_
      have h1:=h.mono (st1.ext i);obtain⟨w2,nu2,hw2,st2,hb2⟩:=qrk st1.inv h1 fn dd ps asg body;have henter:=henter fn;rw[hw2]at henter;have st12:=st1.trans st2
      have hyld:RL F nu2 w2 [.yld A.length] #[.func (.yield w1.heap.size) #[] #[]]:=by
       refine⟨rfl,λj b y hb hy=>?_⟩
       cases j with
       |zero=>simp at hb hy;subst hb;subst hy;exact .yld _ _ hb2
       |succ j=>simp at hb
      have hf1:RL F nu w first vf:=⟨hl1,hR1⟩;have hf2:RL F nu w captured vc:=⟨hl2,hR2⟩
      have hargs:RL F nu2 w2 (first++[.yld A.length]++captured) (vf++#[.func (.yield w1.heap.size) #[] #[]]++vc):=
       ((hf1.mono (st12.ext i)).append hyld).append (hf2.mono (st12.ext i))
      have hinv:=qm0 (w:=w2) hent (vf++#[.func (.yield w1.heap.size) #[] #[]]) vc;have hres:=qj8 (P:=P) (l:=w1.heap.size) (w:=w2) hz;have hcall2:=hok2.calls hent st2.inv hargs;refine⟨w1.heap.size,mark,w2,_,w2,gf,_,w2,henter,hres,λ_ _=>trivial,hinv,qjN _ _,?_⟩;refine qmO (hcall2.mono ?_);rintro e w3 ⟨v3,F3,nu3,rfl,st3,_⟩;have st:=st12.trans st3;have hdf3:=(hdf1.step st2).step st3;have hfr3:=h.mono (st.ext i);obtain⟨rfl,pend,w4,hend,st4,hcase⟩:=qs5 (P:=P) st3.inv (st3.n _ _ hb2) he;have hdf4:=hdf3.step st4;have hfr4:=hfr3.mono (st4.ext st3.inv);have stAll:=st.trans st4;have fin:=hq _ _ _ {a with defers:=mark++a.defers} hdf4 stAll hfr4;refine⟨pend,w4,hend,?_⟩;rcases hcase with⟨rfl,rfl⟩|⟨rfl,rfl⟩|⟨id,rfl,rfl⟩
      ·exact fin
      ·exact wpIn_ret fin
      exact wpIn_exit fin
     cases rd with
     |none=>
      cases rr with
      |some r=>exact hrd.elim
      |none=>
       have sth:=Stp.hidden i (.deferred (some []));refine core (w.alloc (.deferred (some []))) [{target:= .collected w.heap.size,args:=#[]}] w.heap.size sth ⟨λd hd=>?_,?_⟩ (λfn=>?_)
       ·simp only[List.singleton_append,bT]at hd;rcases hd with rfl|hd
        ·refine⟨w.heap.size,rfl,hbase,Go.heap_alloc_new w _,?_,λhF=>absurd (i.ltF _ hF) (by omega)⟩;rintro⟨b,y,rb,hb,hy,ho,hf⟩;have:=(i.ftF hb hy ho (hf.same (Go.heap_alloc_old w _ rb (i.ltN b rb hb)))).2;omega
        exact(hdf.step sth).each d hd
       ·simp only[List.singleton_append,fk];refine⟨λd hd e=>?_,hdf.apart⟩;obtain⟨r,h1,_,h3,_⟩:=hdf.each d hd;have hlt:r<w.heap.size:=(YB.1 h3).1;rw[h1]at e;injection e with e;omega
       have:=run_enterLoop_outer (P:=P) (w:=w) fn a.tmps ps asg body;simpa using this
     |some b=>
      cases rr with
      |none=>exact hrd.elim
      |some r=>
       simp only[rdOK]at hok;split at hok
       ·rename_i s0 p0 f0 ps0 as0 bd0 hA0;obtain⟨_,fn0,tmps0,dd0,hheap,_⟩:=i.blk _ _ _ hrd hA0;exact core w [] dd0 (.refl i) (by simpa using hdf) (λfn=>run_enterLoop_inner hheap fn a.tmps ps asg body)
       cases hok
   cases he
  cases he
 |_=>intro F nu A w i fr a h hrd hdf hbase x fr' A' he;simp[zo]at he
end
end
section
variable [Glob]
open Go.RowKit
section
variable {P:Program}{call:zB}{N:Nat}
section
variable {F:Nat->Prop}{nu:Nat->Option Nat}{A:Heap}{w:World}
def qp3 (i:Inv F nu A w) {t:TypeId}{p:AV}{x:Value}(hp:R F nu w p x) {f:zx}{v:AV}{A':Heap}{f':zx}(h:exec (qa1 P t p) A f=some (v,A',f')):
 ∃y,(do loadVar t (<-asAddr x):Sem Value).run P w= .ok y w/\R F nu w v y:=by
 unfold qa1 at h;split at h
 ·rename_i d inf hd hi;split at h
  ·rename_i ha;obtain⟨ad,cs,vs,f2,rfl,h1,h2,h3,h4,h5⟩:=qe9 i hp h;simp only[exec,ZI,ZP]at h5;obtain⟨rfl,rfl,rfl⟩:=h5;refine⟨.agg vs.toArray,?_,.agg _ _ (by simp;omega) (λj a v ha hv=>h4 j a v ha (by simpa using hv))⟩;have:=run_loadCells_list (P:=P) w ad vs h3;rw[h1]at this;simp[asAddr,loadVar,qdt hd,ha,qP hi,this]
  rename_i ha;obtain⟨ad,cs,vs,f2,rfl,h1,h2,h3,h4,h5⟩:=qe9 i hp h
  match cs,h2 with
  |[c],_=>
   match vs,h1 with
   |[y],_=>
    simp only[exec,ZI,ZP]at h5;obtain⟨rfl,rfl,rfl⟩:=h5;have hc:=h3 0 y rfl;rw[add_zero']at hc;refine⟨y,?_,h4 0 c y rfl rfl⟩;simp[asAddr,loadVar,qdt hd,ha,hc]
 simp[exec]at h
def qqH (tmps:Array Value):ResultVar->Sem Value
 | .tmp t=>pure (tmps.getD t undef)
 | .cell a t=>do loadVar t (<-asAddr (tmps.getD a undef))
def qnM (fn:Func) (tmps:Array Value):results fn tmps=(do
 let vs<-fn.results.mapM (qqH tmps)
 pure (if h:vs.size=1 then vs[0]else .tuple vs)):=by
 unfold results;congr 1
def qlr (i:Inv F nu A w) {fr:Fr}{tmps:Array Value}(h:RF F nu w fr tmps):∀(rs:List ResultVar) {vs:List AV},zU P fr A rs=some vs->
 ∃xs:List Value,(rs.mapM (qqH tmps)).run P w= .ok xs w/\RL F nu w vs xs.toArray:=by
 intro rs
 induction rs with
 |nil=>
  intro vs hv;simp only[zU,ZI]at hv;subst hv;exact⟨[],by simp,rfl,by simp⟩
 |cons r rs ih=>
  intro vs hv
  have cons:∀{v:AV}{y:Value}{vs:List AV}{xs:List Value},R F nu w v y->RL F nu w vs xs.toArray->RL F nu w (v::vs) (y::xs).toArray:=by
   intro v y vs xs h1 h2;have:=h2.1;refine⟨by simp at this⊢;exact this,λj a u ha hu=>?_⟩
   cases j with
   |zero=>simp at ha hu;subst ha;subst hu;exact h1
   |succ j=>exact h2.2 j a u (by simpa using ha) (by simpa using hu)
  cases r with
  |tmp t=>
   simp only[zU,Yd]at hv;obtain⟨vs',hv',rfl⟩:=hv;obtain⟨xs,hx,hl⟩:=ih hv';exact⟨tmps.getD t undef::xs,by rw[cA];simp only[qqH,Sem.run_bind,Sem.run_pure,Result.andThen_ok,hx],cons (h.getD t) hl⟩
  |cell a t=>
   simp only[zU]at hv;split at hv
   ·rename_i v A1 f1 vs' he hvs;simp only[ZI]at hv;subst hv;obtain⟨xs,hx,hl⟩:=ih hvs;obtain⟨y,hy,hR⟩:=qp3 i (h.getD a) he;refine⟨y::xs,?_,cons hR hl⟩;rw[cA];simp only[qqH,Sem.run_bind]at hy⊢;rw[hy];simp only[Result.andThen_ok,hx,Sem.run_pure]
   cases hv
def qmq (i:Inv F nu A w) {fr:Fr}{tmps:Array Value}(h:RF F nu w fr tmps) {fn:Func}{vs:List AV}(hv:zU P fr A fn.results.toList=some vs):
 ∃x,(results fn tmps).run P w= .ok x w/\R F nu w (qg9 vs) x:=by
 obtain⟨xs,hx,hl⟩:=qlr (P:=P) i h _ hv
 have hrun:(results fn tmps).run P w= .ok (if h:xs.toArray.size=1 then xs.toArray[0]else .tuple xs.toArray) w:=by
  have h2:(fn.results.mapM (qqH tmps)).run P w= .ok xs.toArray w:=by
   rw[Array.mapM_eq_mapM_toList,map_eq_pure_bind];rw[Sem.run_bind,hx];rfl
  rw[qnM,Sem.run_bind,h2];rfl
 refine⟨_,hrun,?_⟩;have h1:=hl.1
 match vs,xs,h1,hl with
 |[],[],_,hl=>exact .tuple _ _ rfl (by simp)
 |[v],[y],_,hl=>exact hl.2 0 v y rfl rfl
 |v::v'::vs,y::y'::ys,h1,hl=>
  have:¬(y::y'::ys).toArray.size=1:=by simp
  rw[dif_neg this];exact .tuple _ _ h1 hl.2
end
def qa5.touch {nu':Nat->Option Nat}{A':Heap}{w':World}{r q:Nat}{o:Obj}(hno:¬qa5 nu' A' w' r) (h:qa5 nu' A' (w'.putObj r o) q):qa5 nu' A' w' q:=by
 obtain⟨b,y,rb,h1,h2,h3,h4⟩:=h;refine⟨b,y,rb,h1,h2,h3,h4.same (World.putObj_heap_other λe=>hno ?_)⟩;subst e;exact qa5.of h1 h2 h3
def qhU {F:Nat->Prop}{nu:Nat->Option Nat}{A:Heap}{w:World}{fn:Func}{n:Nat}{rs:List AV}{A':Heap}{R0:Ending->World->Prop}{tmps:Array Value}{fr:Fr}(hrs:zU P fr A' fn.results.toList=some rs):
 ∀(ds:List Deferred) {F':Nat->Prop}{nu':Nat->Option Nat}{w':World},Stp F nu A w F' nu' A' w'->RF F' nu' w' fr tmps->Dfr w.heap.size F' nu' A' w' ds->
  (∀F' nu' w' y,Stp F nu A w F' nu' A' w'->R F' nu' w' (qg9 rs) y->R0 (.returned y) w')->LeavesInM (fz none) n P fn tmps R0 ds .returning w':=by
 intro ds
 induction ds with
 |nil=>
  intro F' nu' w' st hfr _ hq;obtain⟨y,hy,hR⟩:=qmq st.inv hfr hrs;exact⟨y,hy,hq _ _ _ _ st hR⟩
 |cons d ds ih=>
  intro F' nu' w' st hfr hd hq;obtain⟨r,h1,h2,h3,h4,h5⟩:=hd.each d (by simp);have htake:=run_takeDeferred (P:=P) h3;obtain⟨st2,x2⟩:=Stp.touch st (r:=r) (o:= .deferred none) h2 h4 h5 (by simp[World.shape?,h3]);refine⟨by simp,.inl ⟨r,_,h1,htake,?_⟩⟩;refine ih st2 (hfr.mono x2) ⟨λe he=>?_,?_⟩ hq
  ·obtain⟨r',g1,g2,g3,g4,g5⟩:=hd.each e (by simp[he])
   have hne:r'≠r:=by
    intro e2;have:=(fk.1 hd.apart).1 e he;rw[h1,g1,e2]at this;exact this rfl
   exact⟨r',g1,g2,(World.putObj_heap_other hne).trans g3,λhO=>g4 (qa5.touch h4 hO),g5⟩
  exact(fk.1 hd.apart).2
def qrg (hc:ky P call) (hm:P.follows .mixedOrders=true) {f:FuncId}{args:List AV}{A:Heap}{v:AV}{A':Heap}(he:ql2 P call N f args A=some (v,A')):qc P (.fn f) args A v A':=by
 unfold ql2 at he;split at he
 ·rename_i fn hfn;split at he
  ·cases he
  rename_i hname;split at he
  ·rename_i c hbody
   refine λF nu w vs i hargs=> .inl ⟨⟨fn,hfn,by simpa using hname,by rw[hbody];rfl⟩,?_⟩
   refine(callsIn_wide (n:=0)).1 ?_;refine callsIn_of_wp_marks hfn hbody trivial ?_;have hframe:RF F nu w (frOf fn.ntmps args) (vs++Array.replicate (fn.ntmps-vs.size) undef):=RF.frOf _ hargs
   cases h1:zo P call N none c (frOf fn.ntmps args,A)with
   |none=>simp[h1]at he
   |some r=>
    obtain⟨x,fr,A1⟩:=r;rw[h1]at he;have post:∀rs,zU P fr A1 fn.results.toList=some rs->qg9 rs=v->A1=A'->∀F' nu' w' (a':Act),Dfr w.heap.size F' nu' A1 w' a'.defers->Stp F nu A w F' nu' A1 w'->RF F' nu' w' fr a'.tmps->
     LeavesInM (fz none) 0 P fn a'.tmps (λe w'=>∃x F' nu',e= .returned x/\Stp F nu A w F' nu' A' w'/\R F' nu' w' v x) a'.defers .returning w':=by
     intro rs hrs htv hA F' nu' w' a' hd st hfr;subst hA;exact qhU hrs a'.defers st hfr hd (λF2 nu2 w2 y st2 hR=>⟨y,F2,nu2,rfl,st2,htv▸hR⟩)
    cases x with
    |normal=>
     obtain⟨rs,hrs,hr⟩:=Yd.1 he;simp only[ZP]at hr;exact qha (rd:=none) (rr:=none) (base:=w.heap.size) hc hm c i hframe trivial .nil (ai _) h1 (λF' nu' w' a' hd st hfr=>post rs hrs hr.1 hr.2 F' nu' w' a' hd st hfr)
    |ret=>
     obtain⟨rs,hrs,hr⟩:=Yd.1 he;simp only[ZP]at hr;exact qha (rd:=none) (rr:=none) (base:=w.heap.size) hc hm c i hframe trivial .nil (ai _) h1 (λF' nu' w' a' hd st hfr=>post rs hrs hr.1 hr.2 F' nu' w' a' hd st hfr)
    |exit k=>cases he
  cases he
 cases he
def qte {F:Nat->Prop}{nu:Nat->Option Nat}{A2:Heap}{w:World}{b l:Nat}{x:XA}{fr:Fr}{v:AV}{A':Heap}(i:Inv F nu A2 w) (hb:nu b=some l) (he:qpu b (some (x,fr,A2))=some (v,A')):
 ∃y w',(Instr.endRound l (qgN x)).run P w= .ok y w'/\Stp F nu A2 w F nu A' w'/\R F nu w' v y:=by
 simp only[qpu]at he;split at he
 ·rename_i stt pend fr2 ps2 asg2 body2 hA2;obtain⟨hnF,fn2,tmps2,dd2,hheap,hfr2⟩:=i.blk _ _ _ hb hA2;simp only[ZI,ZP]at he;obtain⟨rfl,rfl⟩:=he;have hend:=run_endRound (P:=P) (qgN x) hheap;exact⟨_,_,hend,Stp.setLoop i (r:={state:=if(qgN x).isNone then .ready else .done,pending:=qgN x,fn:=fn2,tmps:=tmps2,params:=ps2,assign:=asg2,body:=body2,defers:=dd2}) hb hA2 rfl hheap rfl hfr2,.bool _⟩
 cases he
def qqJ (hc:ky P call) (hm:P.follows .mixedOrders=true) {b:Nat}{args:List AV}{A:Heap}{v:AV}{A':Heap}(he:qmh P call N b args A=some (v,A')):qc P (.rd b) args A v A':=by
 intro F nu w vs rb i hargs hb;unfold qmh at he;split at he
 ·rename_i st0 p0 fr ps asg bd hA;obtain⟨hnF,fn0,tmps0,dd0,hheap,hfr⟩:=i.blk _ _ _ hb hA;split at he
  ·rename_i hlen
   have hsz:vs.size=ps.size:=by rw[hargs.1,hlen]
   have hy:=run_yield (P:=P) hheap (args:=vs) (by exact hsz);refine⟨_,_,_,_,hy,?_⟩;refine roundIn_of_wpIn trivial ?_
   have hset:RF F nu w (setAll fr ps.toList args) ((ps.zip vs).foldl (λtmps (t,a)=>tmps.setIfInBounds t a) tmps0):=by
    have h1:=RF.setAll (params:=ps.toList) hfr (args:=args) (vs:=vs.toList) (by simp[hargs.1]) (λj a v ha hv=>hargs.2 j a v ha (by simpa using hv))
    have e:(ps.zip vs).foldl (λtmps (t,a)=>tmps.setIfInBounds t a) tmps0=(ps.toList.zip vs.toList).foldl (λtmps (p:Tmp×Value)=>tmps.setIfInBounds p.1 p.2) tmps0:=by
     rw[<-Array.foldl_toList,Array.toList_zip]
    rw[e];exact h1
   have hfz:Fence.wide.inRound rb=fz (some rb):=rfl;rw[hfz]
   cases h1:zo P call N (some b) asg (setAll fr ps.toList args,A)with
   |none=>simp[h1]at he
   |some r=>
    obtain⟨x1,fr1,A1⟩:=r;rw[h1]at he
    cases x1 with
    |normal=>
     simp only at he;refine qha (rd:=some b) (rr:=some rb) (base:=0) hc hm asg i hset hb .nil (aD _) h1 (λF1 nu1 w1 a1 hd1 st1 hf1=>?_);split at he
     ·rename_i p1 f1 ps1 as1 bd1 hA1;have hb1:=st1.n _ _ hb;obtain⟨hnF1,fn1,tmps1,dd1,hheap1,hfr1⟩:=st1.inv.blk _ _ _ hb1 hA1;have hbeg:=run_beginRound (P:=P) hheap1 rfl;have st2:=Stp.setLoop st1.inv (st:= .busy) (pend:=p1) (fr:=f1) (ps:=ps1) (asg:=as1) (body:=bd1) (r:={state:= .busy,pending:=p1,fn:=fn1,tmps:=tmps1,params:=ps1,assign:=as1,body:=bd1,defers:=dd1}) hb1 hA1 rfl hheap1 rfl hfr1;refine⟨_,hbeg,?_⟩
      cases h2:zo P call N (some b) bd (fr1,A1.set b (.loop .busy p1 f1 ps1 as1 bd1))with
      |none=>simp[h2,qpu]at he
      |some r2=>
       obtain⟨x2,fr2,A2⟩:=r2;rw[h2]at he;have hf1':=hf1.mono (st2.ext st1.inv);refine qha (rd:=some b) (rr:=some rb) (base:=0) hc hm bd st2.inv hf1' hb1 (hd1.step st2) (aD _) h2 (λF2 nu2 w2 a2 hd2 st3 hf2=>?_);obtain⟨y,w3,hend,st4,hR⟩:=qte (P:=P) st3.inv (st3.n _ _ hb1) he;have stAll:=((st1.trans st2).trans st3).trans st4;cases x2<;>exact⟨y,w3,hend,y,F2,nu2,rfl,stAll,hR⟩
     cases he
    |exit k=>cases he
    |ret=>cases he
  cases he
 cases he
end
end
section
variable [Glob]
open Go.RowKit
def frz (A:Heap) (S:List Nat):Nat->AV->Option AV
 |0,_=>none
 |d+1,a=>match a with
  | .ptr b off=>if S.contains b then match A[b]? with
   |some (.cells cs)=>(cs.mapM (frz A S d)).map λcs=> .fptr cs off
   |some (.frozen cs)=>(cs.mapM (frz A S d)).map λcs=> .fptr cs off
   |_=>none
   else none
  | .slice b off n _ esz=>if S.contains b then match A[b]? with
   |some (.cells cs)=>(((cs.drop off).take (n*esz)).mapM (frz A S d)).map λcs=> .fslice n cs
   |some (.frozen cs)=>(((cs.drop off).take (n*esz)).mapM (frz A S d)).map λcs=> .fslice n cs
   |_=>none
   else none
  | .oslice b n esz=>if S.contains b then match A[b]? with
   |some (.cells cs)=>((cs.take (n*esz)).mapM (frz A S d)).map λcs=> .fslice n cs
   |some (.frozen cs)=>((cs.take (n*esz)).mapM (frz A S d)).map λcs=> .fslice n cs
   |_=>none
   else none
  | .gslice b n esz=>if S.contains b then match A[b]? with
   |some (.cells cs)=>((cs.take (n*esz)).mapM (frz A S d)).map λcs=> .fslice n cs
   |some (.frozen cs)=>((cs.take (n*esz)).mapM (frz A S d)).map λcs=> .fslice n cs
   |_=>none
   else none
  | .wslice b off n esz=>if S.contains b then match A[b]? with
   |some (.cells cs)=>(((cs.drop off).take (n*esz)).mapM (frz A S d)).map λcs=> .fslice n cs
   |some (.frozen cs)=>(((cs.drop off).take (n*esz)).mapM (frz A S d)).map λcs=> .fslice n cs
   |_=>none
   else none
  | .map b=>if S.contains b then match A[b]? with
   |some (.map ks vs)=>match ks.mapM (frz A S d),vs.mapM (frz A S d)with
    |some ks,some vs=>some (.fmap ks vs)
    |_,_=>none
   |_=>none
   else none
  | .fptr cs off=>(cs.mapM (frz A S d)).map λcs=> .fptr cs off
  | .fslice n cs=>(cs.mapM (frz A S d)).map λcs=> .fslice n cs
  | .fmap ks vs=>match ks.mapM (frz A S d),vs.mapM (frz A S d)with
    |some ks,some vs=>some (.fmap ks vs)
    |_,_=>none
  | .func fn fs cs=>match fs.mapM (frz A S d),cs.mapM (frz A S d)with
    |some fs,some cs=>some (.func fn fs cs)
    |_,_=>none
  | .iface t v=>(frz A S d v).map (.iface t)
  | .agg cs=>(cs.mapM (frz A S d)).map .agg
  | .tuple cs=>(cs.mapM (frz A S d)).map .tuple
  | .yld _=>none
  |a=>some a
def flat:Nat->AV->Bool
 |0,_=>false
 |d+1,a=>match a with
  | .undef=>true
  | .bool _=>true
  | .int _ _=>true
  | .str _=>true
  | .nilptr=>true
  | .nilslice=>true
  | .nilmap=>true
  | .nilfunc=>true
  | .niliface=>true
  | .fslice n cs=>decide (n=0)&&cs.isEmpty
  | .iface _ v=>flat d v
  | .agg cs=>cs.all (flat d)
  | .tuple cs=>cs.all (flat d)
  |_=>false
def qf5:Blk->Blk
 | .cells cs=> .frozen cs
 | .frozen cs=> .frozen cs
 |_=> .dead
def qU (S:List Nat) (A:Heap):Heap:=S.foldl (λA b=>match A[b]? with
 |some k=>A.set b (qf5 k)
 |none=>A) A
def qlK (call:zB) (pl:FuncId->Bool):zB:=λc args A=>
 match c with
 | .fn f=>if pl f then
  let S:=qds A 20 (qgI [] (args.flatMap (yH 4)))
  match args.mapM (frz A S 12)with
  |some args'=>match call c args' []with
   |some (v,Al)=>match frz Al (List.range Al.length) 12 v with
    |some v'=>if flat 6 v' then some (v',A)else some (v',qU S A)
    |none=>none
   |none=>none
  |none=>none
  else call c args A
 | .rd _=>call c args A
 | .mt _ _=>call c args A
def mapM_some {f:AV->Option AV}:∀{xs ys:List AV},xs.mapM f=some ys->ys.length=xs.length/\∀(i:Nat) (y:AV),ys[i]? =some y->∃x,xs[i]? =some x/\f x=some y:=by
 intro xs
 induction xs with
 |nil=>intro ys h;simp at h;subst h;exact⟨rfl,by simp⟩
 |cons x xs ih=>
  intro ys h;rw[cA]at h
  cases hx:f x with
  |none=>simp[hx]at h
  |some y=>
   cases hxs:xs.mapM f with
   |none=>simp[hx,hxs]at h
   |some zs=>
    simp only[hx,hxs,fV,Option.bind_eq_bind,ZB,ZI]at h;subst h;obtain⟨h1,h2⟩:=ih hxs;refine⟨by simp[h1],λi z hz=>?_⟩
    cases i with
    |zero=>simp at hz;subst hz;exact⟨x,rfl,hx⟩
    |succ i=>exact h2 i z (by simpa using hz)
section
variable {F:Nat->Prop}{nu:Nat->Option Nat}{A:Heap}{w:World}
def FS (F:Nat->Prop) (nu:Nat->Option Nat) (A:Heap) (S:List Nat):Nat->Prop:=λrb=>F rb\/ ∃b x,b∈S/\nu b=some rb/\A[b]? =some x/\x.owned=true
def cell_of_heap {rb off i:Nat}{vs:Array Value}{e:TypeId}{fr:Nat×Nat}{v:Value}(h:w.heap[rb]? =some (.cells vs e fr)) (hv:vs[off+i]? =some v):w.cell? ((⟨rb,off,none⟩:Addr).add i)=some v:=by
 rw[jB];simp[World.cell?,h,hv]
def qh3 (i:Inv F nu A w) {S:List Nat}:∀(d:Nat) {a a':AV}{v:Value},frz A S d a=some a'->R F nu w a v->R (FS F nu A S) (λ_=>none) w a' v:=by
 intro d
 induction d with
 |zero=>intro a a' v h;simp[frz]at h
 |succ d ih=>
  intro a a' v h hR
  have hF:∀rb,F rb->FS F nu A S rb:=λrb h=> .inl h
  have hlist:∀{cs cs':List AV}{vs:List Value},cs.mapM (frz A S d)=some cs'->vs.length=cs.length->(∀(j:Nat) (a:AV) (v:Value),cs[j]? =some a->vs[j]? =some v->R F nu w a v)->
   vs.length=cs'.length/\∀(j:Nat) (a:AV) (v:Value),cs'[j]? =some a->vs[j]? =some v->R (FS F nu A S) (λ_=>none) w a v:=by
   intro cs cs' vs hm hl hr;obtain⟨h1,h2⟩:=mapM_some hm;refine⟨by omega,λj a v ha hv=>?_⟩;obtain⟨x,hx1,hx2⟩:=h2 j a ha;exact ih hx2 (hr j x v hx1 hv)
  have hrow:∀{b rb off:Nat}{k:Blk}{cs cs':List AV},nu b=some rb->S.contains b=true->A[b]? =some k->(k= .cells cs\/k= .frozen cs)->∀(sub:List AV),(∀(j:Nat) (a:AV),sub[j]? =some a->cs[off+j]? =some a)->sub.mapM (frz A S d)=some cs'->
   FS F nu A S rb/\∃vs:List Value,vs.length=cs'.length/\(∀(j:Nat) (v:Value),vs[j]? =some v->w.cell? ((⟨rb,off,none⟩:Addr).add j)=some v)/\∀(j:Nat) (a:AV) (v:Value),cs'[j]? =some a->vs[j]? =some v->R (FS F nu A S) (λ_=>none) w a v:=by
   intro b rb off k cs cs' hb hS hA hk sub hsub hm;have hRB:=i.blk b rb k hb hA
   have hFS:FS F nu A S rb:=by
    rcases hk with rfl|rfl
    ·exact .inr ⟨b,_,by simpa using hS,hb,hA,rfl⟩
    exact .inl hRB.1
   have hrowv:∃vs e fr,w.heap[rb]? =some (.cells vs e fr)/\cs.length<=vs.size/\∀(j:Nat) (a:AV) (v:Value),cs[j]? =some a->vs[j]? =some v->R F nu w a v:=by
    rcases hk with rfl|rfl
    ·obtain⟨_,vs,e,h1,h2,h3⟩:=hRB;exact⟨vs,e,_,h1,h2,h3⟩
    obtain⟨_,vs,e,fr,h1,h2,h3⟩:=hRB;exact⟨vs,e,fr,h1,h2,h3⟩
   obtain⟨vs,e,fr,h1,h2,h3⟩:=hrowv;obtain⟨g1,g2⟩:=mapM_some hm
   have hin:∀j,j<sub.length->off+j<vs.size:=by
    intro j hj;have:=hsub j _ (Ya hj);have:=(Yb.1 this).1;omega
   refine⟨hFS,(List.range sub.length).map λj=>vs.getD (off+j) undef,by simp[g1],λj v hv=>?_,λj a v ha hv=>?_⟩
   ·rw[YA]at hv;rcases aw j sub.length with hj|hj
    ·rw[List.getElem?_range hj]at hv;simp only[ZM,ZI]at hv;refine cell_of_heap h1 ?_;have:=hin j hj;rw[<-hv];simp[Array.getD,this]
    rw[Yg (by simpa using hj)]at hv;simp at hv
   obtain⟨x,hx1,hx2⟩:=g2 j a ha;have hj:j<sub.length:=(Yb.1 hx1).1;rw[YA,List.getElem?_range hj]at hv;simp only[ZM,ZI]at hv;have hlt:=hin j hj;refine ih hx2 (h3 (off+j) x v (hsub j x hx1) ?_);rw[<-hv];simp[Array.getD,hlt]
  cases hR with
  |undef v=>simp only[frz,ZI]at h;subst h;exact .undef _
  |bool b=>simp only[frz,ZI]at h;subst h;exact .bool _
  |anyb b=>simp only[frz,ZI]at h;subst h;exact .anyb _
  |int k n=>simp only[frz,ZI]at h;subst h;exact .int _ _
  |str s l hl=>simp only[frz,ZI]at h;subst h;exact .str _ _ hl
  |nilptr=>simp only[frz,ZI]at h;subst h;exact .nilptr
  |nilslice=>simp only[frz,ZI]at h;subst h;exact .nilslice
  |nilmap=>simp only[frz,ZI]at h;subst h;exact .nilmap
  |nilfunc=>simp only[frz,ZI]at h;subst h;exact .nilfunc
  |niliface=>simp only[frz,ZI]at h;subst h;exact .niliface
  |yld b rb hb=>simp[frz]at h
  |ptr b off rb hb=>
   simp only[frz]at h;split at h
   ·rename_i hS;split at h
    ·rename_i cs hA;obtain⟨cs',hm,rfl⟩:=Yd.1 h;obtain⟨g1,vs,g2,g3,g4⟩:=hrow (off:=0) hb hS hA (.inl rfl) cs (λj a ha=>by simpa using ha) hm;have:=R.fptr cs' off ⟨rb,0,none⟩ vs g1 g2 g3 g4
     rwa [jB,aG]at this
    ·rename_i cs hA;obtain⟨cs',hm,rfl⟩:=Yd.1 h;obtain⟨g1,vs,g2,g3,g4⟩:=hrow (off:=0) hb hS hA (.inr rfl) cs (λj a ha=>by simpa using ha) hm;have:=R.fptr cs' off ⟨rb,0,none⟩ vs g1 g2 g3 g4
     rwa [jB,aG]at this
    cases h
   cases h
  |slice b off n cap esz rb hb hcap=>
   simp only[frz]at h;split at h
   ·rename_i hS
    have hsub:∀cs:List AV,∀(j:Nat) (a:AV),((cs.drop off).take (n*esz))[j]? =some a->cs[off+j]? =some a:=by
     intro cs j a ha;rw[Yt]at ha;split at ha
     ·rwa [YI]at ha
     cases ha
    split at h
    ·rename_i cs hA;obtain⟨cs',hm,rfl⟩:=Yd.1 h;obtain⟨g1,vs,g2,g3,g4⟩:=hrow (off:=off) hb hS hA (.inl rfl) _ (hsub cs) hm;exact .fslice n cs' _ cap vs hcap g1 g2 g3 g4
    ·rename_i cs hA;obtain⟨cs',hm,rfl⟩:=Yd.1 h;obtain⟨g1,vs,g2,g3,g4⟩:=hrow (off:=off) hb hS hA (.inr rfl) _ (hsub cs) hm;exact .fslice n cs' _ cap vs hcap g1 g2 g3 g4
    cases h
   cases h
  |wslice b off n esz rb cap hb hcap=>
   simp only[frz]at h;split at h
   ·rename_i hS
    have hsub:∀cs:List AV,∀(j:Nat) (a:AV),((cs.drop off).take (n*esz))[j]? =some a->cs[off+j]? =some a:=by
     intro cs j a ha;rw[Yt]at ha;split at ha
     ·rwa [YI]at ha
     cases ha
    split at h
    ·rename_i cs hA;obtain⟨cs',hm,rfl⟩:=Yd.1 h;obtain⟨g1,vs,g2,g3,g4⟩:=hrow (off:=off) hb hS hA (.inl rfl) _ (hsub cs) hm;exact .fslice n cs' _ cap vs hcap g1 g2 g3 g4
    ·rename_i cs hA;obtain⟨cs',hm,rfl⟩:=Yd.1 h;obtain⟨g1,vs,g2,g3,g4⟩:=hrow (off:=off) hb hS hA (.inr rfl) _ (hsub cs) hm;exact .fslice n cs' _ cap vs hcap g1 g2 g3 g4
    cases h
   cases h
  |oslice b n esz rb cap e m hb hcap hs hm0=>
   simp only[frz]at h;split at h
   ·rename_i hS
    have hsub:∀cs:List AV,∀(j:Nat) (a:AV),(cs.take (n*esz))[j]? =some a->cs[0+j]? =some a:=by
     intro cs j a ha;rw[Yt]at ha;split at ha
     ·rwa [aG]
     cases ha
    split at h
    ·rename_i cs hA;obtain⟨cs',hm,rfl⟩:=Yd.1 h;obtain⟨g1,vs,g2,g3,g4⟩:=hrow (off:=0) hb hS hA (.inl rfl) _ (hsub cs) hm;exact .fslice n cs' _ cap vs hcap g1 g2 g3 g4
    ·rename_i cs hA;obtain⟨cs',hm,rfl⟩:=Yd.1 h;obtain⟨g1,vs,g2,g3,g4⟩:=hrow (off:=0) hb hS hA (.inr rfl) _ (hsub cs) hm;exact .fslice n cs' _ cap vs hcap g1 g2 g3 g4
    cases h
   cases h
  |gslice0 b esz p=>
   simp only[frz]at h
   have hfin:∀cs:List AV,((cs.take (0*esz)).mapM (frz A S d)).map (λcs=>AV.fslice 0 cs)=some a'->R (FS F nu A S) (λ_=>none) w a' (.slice p 0 0):=by
    intro cs h;rw[bC,bj]at h;simp only[List.mapM_nil,fV,ZM,ZI]at h;subst h;exact .fslice0 _ _
   split at h
   ·split at h
    ·exact hfin _ h
    ·exact hfin _ h
    cases h
   cases h
  |gslice b n esz rb cap e m hp hb hcap hs hm0=>
   simp only[frz]at h;split at h
   ·rename_i hS
    have hsub:∀cs:List AV,∀(j:Nat) (a:AV),(cs.take (n*esz))[j]? =some a->cs[0+j]? =some a:=by
     intro cs j a ha;rw[Yt]at ha;split at ha
     ·rwa [aG]
     cases ha
    split at h
    ·rename_i cs hA;obtain⟨cs',hm,rfl⟩:=Yd.1 h;obtain⟨g1,vs,g2,g3,g4⟩:=hrow (off:=0) hb hS hA (.inl rfl) _ (hsub cs) hm;exact .fslice n cs' _ cap vs hcap g1 g2 g3 g4
    ·rename_i cs hA;obtain⟨cs',hm,rfl⟩:=Yd.1 h;obtain⟨g1,vs,g2,g3,g4⟩:=hrow (off:=0) hb hS hA (.inr rfl) _ (hsub cs) hm;exact .fslice n cs' _ cap vs hcap g1 g2 g3 g4
    cases h
   cases h
  |map b rb hb=>
   simp only[frz]at h;split at h
   ·rename_i hS;split at h
    ·rename_i ks xs hA;split at h
     ·rename_i ks' xs' hk hx;simp only[ZI]at h;subst h;obtain⟨hnF,es,c,h1,h2,h3,h4,h5,_⟩:=i.blk b rb _ hb hA;obtain⟨k1,k2⟩:=mapM_some hk;obtain⟨x1,x2⟩:=mapM_some hx;refine .fmap _ _ rb es c (.inr ⟨b,_,by simpa using hS,hb,hA,rfl⟩) h1 (by omega) (by omega) (λj a e ha he=>?_) (λj a e ha he=>?_)
      ·obtain⟨y,hy1,hy2⟩:=k2 j a ha;exact ih hy2 (h4 j y e hy1 he)
      obtain⟨y,hy1,hy2⟩:=x2 j a ha;exact ih hy2 (h5 j y e hy1 he)
     cases h
    cases h
   cases h
  |fptr cs off ad vs hFb hl hc hRc=>
   simp only[frz]at h;obtain⟨cs',hm,rfl⟩:=Yd.1 h;obtain⟨g1,g2⟩:=hlist hm hl hRc;exact .fptr cs' off ad vs (hF _ hFb) g1 hc g2
  |fslice0 Ad cap=>
   simp only[frz]at h;obtain⟨cs',hm,rfl⟩:=Yd.1 h;simp at hm;subst hm;exact .fslice0 _ _
  |fslice n cs ad cap vs hn hFb hl hc hRc=>
   simp only[frz]at h;obtain⟨cs',hm,rfl⟩:=Yd.1 h;obtain⟨g1,g2⟩:=hlist hm hl hRc;exact .fslice n cs' ad cap vs hn (hF _ hFb) g1 hc g2
  |fmap ks xs rb es c hFb hh hk hv hRk hRv=>
   simp only[frz]at h;split at h
   ·rename_i ks' xs' hk' hx';simp only[ZI]at h;subst h;obtain⟨k1,k2⟩:=mapM_some hk';obtain⟨x1,x2⟩:=mapM_some hx';refine .fmap _ _ rb es c (hF _ hFb) hh (by omega) (by omega) (λj a e ha he=>?_) (λj a e ha he=>?_)
    ·obtain⟨y,hy1,hy2⟩:=k2 j a ha;exact ih hy2 (hRk j y e hy1 he)
    obtain⟨y,hy1,hy2⟩:=x2 j a ha;exact ih hy2 (hRv j y e hy1 he)
   cases h
  |func fn fs cs vf vc h1 h2 hRf hRc=>
   simp only[frz]at h;split at h
   ·rename_i fs' cs' hf' hc';simp only[ZI]at h;subst h;obtain⟨k1,k2⟩:=mapM_some hf';obtain⟨x1,x2⟩:=mapM_some hc';refine .func _ _ _ _ _ (by omega) (by omega) (λj a v ha hv=>?_) (λj a v ha hv=>?_)
    ·obtain⟨y,hy1,hy2⟩:=k2 j a ha;exact ih hy2 (hRf j y v hy1 hv)
    obtain⟨y,hy1,hy2⟩:=x2 j a ha;exact ih hy2 (hRc j y v hy1 hv)
   cases h
  |iface t a v hv=>
   simp only[frz]at h;obtain⟨x,hx,rfl⟩:=Yd.1 h;exact .iface _ _ _ (ih hx hv)
  |agg cs vs hl hRc=>
   simp only[frz]at h;obtain⟨cs',hm,rfl⟩:=Yd.1 h;obtain⟨k1,k2⟩:=mapM_some hm;refine .agg _ _ (by omega) (λj a v ha hv=>?_);obtain⟨y,hy1,hy2⟩:=k2 j a ha;exact ih hy2 (hRc j y v hy1 hv)
  |tuple cs vs hl hRc=>
   simp only[frz]at h;obtain⟨cs',hm,rfl⟩:=Yd.1 h;obtain⟨k1,k2⟩:=mapM_some hm;refine .tuple _ _ (by omega) (λj a v ha hv=>?_);obtain⟨y,hy1,hy2⟩:=k2 j a ha;exact ih hy2 (hRc j y v hy1 hv)
def qrO {F':Nat->Prop}{nu':Nat->Option Nat}{w':World}:∀(d:Nat) {a:AV}{v:Value},flat d a=true->R F nu w a v->R F' nu' w' a v:=by
 intro d
 induction d with
 |zero=>intro a v h;simp[flat]at h
 |succ d ih=>
  intro a v h hR
  cases hR with
  |undef v=>exact .undef _
  |bool b=>exact .bool _
  |int k n=>exact .int _ _
  |str s l hl=>exact .str _ _ hl
  |nilptr=>exact .nilptr
  |nilslice=>exact .nilslice
  |nilmap=>exact .nilmap
  |nilfunc=>exact .nilfunc
  |niliface=>exact .niliface
  |fslice0 A cap=>exact .fslice0 _ _
  |fslice n cs ad cap vs hn hFb hl hc hRc=>
   simp only[flat,aR,aO,eo]at h;obtain⟨rfl,rfl⟩:=h;exact .fslice0 _ _
  |iface t a v hv=>exact .iface _ _ _ (ih (by simpa[flat]using h) hv)
  |agg cs vs hl hRc=>
   simp only[flat]at h;exact .agg _ _ hl (λj a v ha hv=>ih (Yp.1 h a (Yn ha)) (hRc j a v ha hv))
  |tuple cs vs hl hRc=>
   simp only[flat]at h;exact .tuple _ _ hl (λj a v ha hv=>ih (Yp.1 h a (Yn ha)) (hRc j a v ha hv))
  |_=>simp[flat]at h
def vL:∀(S:List Nat) (A:Heap) (b:Nat) (y:Blk),(qU S A)[b]? =some y->(y= .dead)\/(b∉S/\A[b]? =some y)\/(b∈S/\∃cs,y= .frozen cs/\(A[b]? =some (.cells cs)\/A[b]? =some (.frozen cs))):=by
 intro S
 induction S with
 |nil=>intro A b y h;exact .inr (.inl ⟨by simp,h⟩)
 |cons c S ih=>
  intro A b y h;simp only[qU,bI]at h;have h':=ih _ b y h
  cases hc:A[c]? with
  |none=>
   simp only[hc]at h';rcases h' with h1|⟨h1,h2⟩|⟨h1,cs,h2,h3⟩
   ·exact .inl h1
   ·refine .inr (.inl ⟨?_,h2⟩);intro hm;rcases bT.1 hm with rfl|hm
    ·rw[hc]at h2;cases h2
    exact h1 hm
   exact .inr (.inr ⟨by simp[h1],cs,h2,h3⟩)
  |some k=>
   simp only[hc]at h'
   have key:∀z,(A.set c (qf5 k))[b]? =some z->(b=c/\z=qf5 k)\/(b≠c/\A[b]? =some z):=by
    intro z hz;rcases getElem?_set' hz with⟨h1,h2⟩|⟨h1,h2⟩
    ·exact .inl ⟨h1.symm,h2⟩
    exact .inr ⟨λe=>h1 e.symm,h2⟩
   have hfk:∀z,z=qf5 k->z= .dead\/ ∃cs,z= .frozen cs/\(k= .cells cs\/k= .frozen cs):=by
    intro z hz;subst hz;cases k<;>simp[qf5]
   rcases h' with h1|⟨h1,h2⟩|⟨h1,cs,h2,h3⟩
   ·exact .inl h1
   ·rcases key y h2 with⟨rfl,hz⟩|⟨hne,hz⟩
    ·rcases hfk y hz with h3|⟨cs,h3,h4⟩
     ·exact .inl h3
     exact .inr (.inr ⟨by simp,cs,h3,by rcases h4 with rfl|rfl<;>simp[hc]⟩)
    exact .inr (.inl ⟨by simp[hne,h1],hz⟩)
   refine .inr (.inr ⟨by simp[h1],cs,h2,?_⟩);rcases h3 with h3|h3
   ·rcases key _ h3 with⟨rfl,hz⟩|⟨_,hz⟩
    ·rcases hfk _ hz with h4|⟨cs',h4,_⟩<;>cases h4
    exact .inl hz
   rcases key _ h3 with⟨rfl,hz⟩|⟨_,hz⟩
   ·rcases hfk _ hz with h4|⟨cs',h4,h5⟩
    ·cases h4
    cases h4
    rcases h5 with rfl|rfl
    ·exact .inl hc
    exact .inr hc
   exact .inr hz
def zw:∀(S:List Nat) (A:Heap),(qU S A).length=A.length:=by
 intro S
 induction S with
 |nil=>intro A;rfl
 |cons c S ih=>
  intro A;simp only[qU,bI]at ih⊢;rw[ih];split<;>simp
end
end
section
variable [Glob]
open Go.RowKit
section
variable {P:Program}
def qr3 {call:zB}(hc:ky P call) (pl:FuncId->Bool):ky P (qlK call pl):=by
 intro c args A v' A'' h;unfold qlK at h
 cases c with
 |rd b=>exact hc _ _ _ _ _ h
 |mt t m=>exact hc _ _ _ _ _ h
 |fn f=>
  simp only at h;split at h
  ·generalize hS:qds A 20 (qgI [] (args.flatMap (yH 4)))=S at h;split at h
   ·rename_i args' hargs';split at h
    ·rename_i v Al hcall;split at h
     ·rename_i v0 hv0;have hok:=hc _ _ _ _ _ hcall
      refine λF nu w vs i hargs=>?_
      obtain⟨m1,m2⟩:=mapM_some hargs'
      have hR':RL (FS F nu A S) (λ_=>none) w args' vs:=by
       refine⟨by rw[hargs.1,m1],λj a v ha hv=>?_⟩;obtain⟨x,hx1,hx2⟩:=m2 j a ha;exact qh3 i 12 hx2 (hargs.2 j x v hx1 hv)
      have hlt1:∀rb,FS F nu A S rb->rb<w.heap.size:=by
       rintro rb (h|⟨b,x,_,h,_⟩)
       ·exact i.ltF rb h
       exact i.ltN b rb h
      have i1:Inv (FS F nu A S) (λ_=>none) [] w:=⟨by simp,by simp,λ_ _=>rfl,hlt1,by simp,Glob.mono i.glob (λ_ h=> .inl h) λ_ _=>rfl⟩
      have core:∀x F2 nu2 w',Stp (FS F nu A S) (λ_=>none) [] w F2 nu2 Al w'->R F2 nu2 w' v x->∃F' nu',Stp F nu A w F' nu' A'' w'/\R F' nu' w' v' x:=by
       intro x F2 nu2 w' st hRv
       have noOwn:∀rb,¬qa5 (λ_=>none) [] w rb:=by
        rintro rb ⟨b,x,r,hb,_⟩;cases hb
       have hkeep:∀rb,rb<w.heap.size->w'.heap[rb]? =w.heap[rb]? :=λrb hlt=>st.keep rb hlt (noOwn rb)
       have hF3:∀rb,rb<w.heap.size->FS F2 nu2 Al (List.range Al.length) rb->FS F nu A S rb:=by
        rintro rb hlt (h1|⟨b,x,_,h1,h2,h3⟩)
        ·rcases st.newF rb h1 with h2|h2|h2
         ·exact h2
         ·omega
         exact absurd h2 (noOwn rb)
        exact absurd (st.own rb hlt (.of h1 h2 h3)) (noOwn rb)
       have ftO:∀{b rb:Nat}{y:Blk}{r:Nat},nu b=some rb->Ft w' rb y r->Ft w rb y r:=λhb hf=>hf.same (hkeep _ (i.ltN _ _ hb))
       have hv3:=qh3 st.inv 12 hv0 hRv;split at h
       ·rename_i hflat;simp only[ZI,ZP]at h;obtain⟨rfl,rfl⟩:=h;have x1:Ext F nu w F nu w':=⟨λ_ h=>h,λ_ _ h=>h,λrb h=>hkeep rb (i.ltF rb h),st.shape⟩;refine⟨F,nu,⟨λ_ h=>h,λ_ _ h=>h,st.shape,⟨λb rb y hb hy=>i.keepB x1 hb hy λho r hr=>⟨hkeep r (i.ftF hb hy ho hr).2,id⟩,λb b' rb rb' y y' r hb hb' hy hy' ho ho' hr hr'=>i.injF b b' rb rb' y y' r hb hb' hy hy' ho ho' (ftO hb hr) (ftO hb' hr'),i.fresh,λrb h=>?_,λb rb h=>?_,eh i.glob x1⟩,λrb hlt _=>hkeep rb hlt,λr _ ⟨b,y,rb,h1,h2,h3,h4⟩=>⟨b,y,rb,h1,h2,h3,ftO h1 h4⟩,st.size,st.os,st.tape,st.output,λ_ _=>rfl,ai _,λ_ h=> .inl h⟩,qrO 6 hflat hv3⟩
        ·have:=i.ltF rb h;have:=st.size;omega
        have:=i.ltN b rb h;have:=st.size;omega
       simp only[ZI,ZP]at h;obtain⟨rfl,rfl⟩:=h
       have fF:∀rb,F rb->FS F2 nu2 Al (List.range Al.length) rb:=λrb h=> .inl (st.f rb (.inl h))
       have x1:Ext F nu w (FS F2 nu2 Al (List.range Al.length)) nu w':=⟨fF,λ_ _ h=>h,λrb h=>hkeep rb (i.ltF rb h),st.shape⟩;refine⟨FS F2 nu2 Al (List.range Al.length),nu,⟨fF,λ_ _ h=>h,st.shape,⟨λb rb y hb hy=>?_,λb b' rb rb' y y' r hb hb' hy hy' ho ho' hr hr'=>?_,λb hb=>i.fresh b (by rwa [zw]at hb),λrb h=>?_,λb rb h=>?_,eh i.glob x1⟩,λrb hlt _=>hkeep rb hlt,?_,st.size,st.os,st.tape,st.output,λ_ _=>rfl,by rw[zw];exact ai _,λrb h=>?_⟩,hv3.mono ⟨λ_ h=>h,by simp,λ_ _=>rfl,λ_ _ h=>h⟩⟩
       ·have hlt:=i.ltN b rb hb;rcases vL S A b y hy with rfl|⟨hnS,hA⟩|⟨hS2,cs,rfl,hA⟩
        ·trivial
        ·refine i.keepB x1 hb hA λhyo r hr=>⟨hkeep r (i.ftF hb hA hyo hr).2,λhf=>?_⟩
         rcases hF3 r (i.ftF hb hA hyo hr).2 hf with h1|⟨b',x',h1,h2,h3,h4⟩
         ·exact h1
         exact absurd (i.injF b b' rb r y x' r hb h2 hA h3 hyo h4 hr (.inl rfl)▸h1) hnS
        rcases hA with hA|hA
        ·obtain⟨h0,vs2,e,h1,h2,h3⟩:=i.blk b rb _ hb hA;exact⟨.inl (st.f rb (.inr ⟨b,_,hS2,hb,hA,rfl⟩)),vs2,e,_,(hkeep rb hlt).trans h1,h2,λj a v ha hv=>(h3 j a v ha hv).mono x1⟩
        obtain⟨h0,vs2,e,fr,h1,h2,h3⟩:=i.blk b rb _ hb hA;exact⟨fF rb h0,vs2,e,fr,(hkeep rb hlt).trans h1,h2,λj a v ha hv=>(h3 j a v ha hv).mono x1⟩
       ·have old:∀(b:Nat) (y:Blk),(qU S A)[b]? =some y->y.owned=true->A[b]? =some y:=by
         intro b y hy ho;rcases vL S A b y hy with rfl|⟨_,hA⟩|⟨_,cs,rfl,_⟩
         ·cases ho
         ·exact hA
         cases ho
        exact i.injF b b' rb rb' y y' r hb hb' (old b y hy ho) (old b' y' hy' ho') ho ho' (ftO hb hr) (ftO hb' hr')
       ·rcases h with h|⟨b,x,_,h,_⟩
        ·exact st.inv.ltF rb h
        exact st.inv.ltN b rb h
       ·have:=i.ltN b rb h;have:=st.size;omega
       ·rintro r hlt ⟨b,y,rb,hb,hy,ho,hf⟩;rcases vL S A b y hy with rfl|⟨_,hA⟩|⟨_,cs,rfl,_⟩
        ·cases ho
        ·exact⟨b,y,rb,hb,hA,ho,ftO hb hf⟩
        cases ho
       rcases aw rb w.heap.size with hlt|hge
       ·rcases hF3 rb hlt h with h1|⟨b,x,_,h1,h2,h3⟩
        ·exact .inl h1
        exact .inr (.inr (.of h1 h2 h3))
       exact .inr (.inl hge)
      rcases hok _ _ w vs i1 hR' with⟨hent,hcalls⟩|⟨x,w',F2,nu2,hrun,st,hRv⟩
      ·refine .inl ⟨hent,hcalls.mono ?_⟩;rintro e w' ⟨x,F2,nu2,rfl,st,hRv⟩;obtain⟨F',nu',h1,h2⟩:=core x F2 nu2 w' st hRv;exact⟨x,F',nu',rfl,h1,h2⟩
      obtain⟨F',nu',h1,h2⟩:=core x F2 nu2 w' st hRv;exact .inr ⟨x,w',F',nu',hrun,h1,h2⟩
     cases h
    cases h
   cases h
  exact hc _ _ _ _ _ h
def qtv (P:Program) (N:Nat) (pre:zB) (pl:FuncId->Bool):Nat->zB
 |0=>pre
 |d+1=>λc args A=>match pre c args A with
  |some r=>some r
  |none=>qlK (qnk P (qtv P N pre pl d) N) pl c args A
def qo8 {call:zB}{N:Nat}(hm:P.follows .mixedOrders=true) (hc:ky P call):ky P (qnk P call N):=by
 intro c args A v A' h
 cases c with
 |fn f=>exact qrg hc hm h
 |rd b=>exact qqJ hc hm h
 |mt t m=>cases h
end
end
section
variable [Glob]
open Go.RowKit
def orElse (a b:zB):zB:=λc args A=>match a c args A with
 |some r=>some r
 |none=>b c args A
def only (f:FuncId) (spec:List AV->Option AV):zB:=λc args A=>match c with
 | .fn g=>if g=f then(spec args).map λv=>(v,A)else none
 | .rd _=>none
 | .mt _ _=>none
def qod:zB:=λ_ _ _=>none
section
variable {P:Program}
def qnI:ky P qod:=λ_ _ _ _ _ h=>by cases h
def qo3 {a b:zB}(ha:ky P a) (hb:ky P b):ky P (orElse a b):=by
 intro c args A v A' h;unfold orElse at h;split at h
 ·rename_i r hr;injection h with h;subst h;exact ha _ _ _ _ _ hr
 exact hb _ _ _ _ _ h
section
variable {F:Nat->Prop}{nu:Nat->Option Nat}{A:Heap}{w:World}
def Stp.kept (i:Inv F nu A w) {w':World}(hk:∀rb,rb<w.heap.size->w'.heap[rb]? =w.heap[rb]?) (hs:w.heap.size<=w'.heap.size) (ho:w'.os=w.os) (ht:w'.tape=w.tape) (hp:w'.output=w.output):Stp F nu A w F nu A w':=by
 have shape:∀rb s,w.shape? rb=some s->w'.shape? rb=some s:=by
  intro rb s h
  have hlt:rb<w.heap.size:=by
   rcases aw rb w.heap.size with h1|h1
   ·exact h1
   simp[World.shape?,Array.getElem?_eq_none h1]at h
  rw[<-h];simp only[World.shape?,hk rb hlt]
 have x:Ext F nu w F nu w':=⟨λ_ h=>h,λ_ _ h=>h,λrb h=>hk rb (i.ltF rb h),shape⟩
 have ftO:∀{b rb:Nat}{y:Blk}{r:Nat},nu b=some rb->Ft w' rb y r->Ft w rb y r:=λhb hf=>hf.same (hk _ (i.ltN _ _ hb))
 exact⟨x.f,x.n,x.shape,⟨λb rb k hb hA=>i.keepB x hb hA λho r hr=>⟨hk r (i.ftF hb hA ho hr).2,id⟩,λb b' rb rb' y y' r hb hb' hy hy' ho ho' hr hr'=>i.injF b b' rb rb' y y' r hb hb' hy hy' ho ho' (ftO hb hr) (ftO hb' hr'),i.fresh,λrb h=>cD (i.ltF rb h) hs,λb rb h=>cD (i.ltN b rb h) hs,eh i.glob x⟩,
  λrb hlt _=>hk rb hlt,λr _ ⟨b,y,rb,h1,h2,h3,h4⟩=>⟨b,y,rb,h1,h2,h3,ftO h1 h4⟩,hs,ho,ht,hp,λ_ _=>rfl,ai _,λ_ h=> .inl h⟩
end
structure Kept (w w':World):Prop where
 heap:∀rb,rb<w.heap.size->w'.heap[rb]? =w.heap[rb]?
 size:w.heap.size<=w'.heap.size
 os:w'.os=w.os
 tape:w'.tape=w.tape
 output:w'.output=w.output
inductive Scal:AV->Value->Prop
 |int (k:IntKind) (n:Int):Scal (.int k n) (.int k n)
 |bool (b:Bool):Scal (.bool b) (.bool b)
 |str (s:ByteArray):Scal (.str s.data.toList) (.string s)
def qc.ofCalls {f:FuncId}{args:List AV}{v:AV}(he:Enters P f)
 (h:∀F nu w (vs:Array Value),Glob.G F w->RL F nu w args vs->∃x,R (λ_=>False) (λ_=>none) w v x/\Calls P f vs w λe w'=>e= .returned x/\Kept w w') (A:Heap):qc P (.fn f) args A v A:=by
 intro F nu w vs i hargs;obtain⟨x,hR,hc⟩:=h F nu w vs i.glob hargs;refine .inl ⟨he,hc.mono ?_⟩;rintro e w' ⟨rfl,hk⟩;have st:=Stp.kept i hk.heap hk.size hk.os hk.tape hk.output;exact⟨x,F,nu,rfl,st,hR.mono ⟨λ_ h=>h.elim,by simp,λ_ h=>h.elim,st.shape⟩⟩
end
def RL.cons_inv {F:Nat->Prop}{nu:Nat->Option Nat}{w:World}{a:AV}{AZ:List AV}{vs:Array Value}(h:RL F nu w (a::AZ) vs):∃(v:Value) (ws:List Value),vs=(v::ws).toArray/\R F nu w a v/\RL F nu w AZ ws.toArray:=by
 obtain⟨h1,h2⟩:=h;obtain⟨l⟩:=vs
 cases l with
 |nil=>simp at h1
 |cons v ws=>
  refine⟨v,ws,rfl,h2 0 a v rfl rfl,by simpa using h1,λi b y hb hy=>h2 (i+1) b y (by simpa using hb) (by simpa using hy)⟩
def RL.nil_inv {F:Nat->Prop}{nu:Nat->Option Nat}{w:World}{ws:List Value}(h:RL F nu w [] ws.toArray):ws=[]:=by
 have:=h.1;simpa using this
def R.int_inv {F:Nat->Prop}{nu:Nat->Option Nat}{w:World}{k:IntKind}{n:Int}{v:Value}(h:R F nu w (.int k n) v):v= .int k n:=by cases h;rfl
def R.bool_inv {F:Nat->Prop}{nu:Nat->Option Nat}{w:World}{b:Bool}{v:Value}(h:R F nu w (.bool b) v):v= .bool b:=by cases h;rfl
def R.str_inv {F:Nat->Prop}{nu:Nat->Option Nat}{w:World}{s:List UInt8}{v:Value}(h:R F nu w (.str s) v):∃b:ByteArray,v= .string b/\b.data.toList=s:=by
 cases h with
 |str b l hl=>exact⟨b,rfl,hl⟩
end
abbrev eB:=@qc.ofCalls
end Go.Av
end
