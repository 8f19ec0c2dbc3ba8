/-
  A logic of code on abstract values: what every run of a piece of code comes to, from a state that is told.
-/
import Derived.Test.YtjflombnfhlkaaaGreatDoorAvFast
noncomputable section
namespace Go.Av
set_option linter.unusedSectionVars false
variable [Glob]
open Go.RowKit
class Base where
 nu:Nat→Option Nat
 A:Heap
 fresh: ∀b,A.length≤b→nu b=none
 rd:Option Nat
 rr:Option Nat
 hrd:qky rd rr nu
@[instance_reducible] def Base.zero:Base:=⟨fun _=>none,[],fun _ _=>rfl,none,none,trivial⟩
instance (priority:=low) instBaseZero:Base:=Base.zero
def Goes [Base] (P:Program) (c:Code) (s:St) (Q:XA→St→Prop):Prop:=
 ∀(F0:Nat→Prop) (w0:World) (n:Nat) (F:Nat→Prop) (nu:Nat→Option Nat) (a:Act) (w:World),
  Stp F0 Base.nu Base.A w0 F nu s.2 w→RF F nu w s.1 a.tmps→Dfr w0.heap.size F nu s.2 w a.defers→
  ∀K:Exit→Act→World→Prop,(∀x s' F' nu' a' w',Q x s'→Stp F0 Base.nu Base.A w0 F' nu' s'.2 w'→RF F' nu' w' s'.1 a'.tmps→Dfr w0.heap.size F' nu' s'.2 w' a'.defers→K (qgT x) a' w')→
  c.wpIn (fz Base.rr) n P K a w
section
variable [Base] {P:Program} {call:zM} {N:Nat} {c c1 c2:Code} {s:St} {Q:XA→St→Prop}
theorem Goes.eval (hm:P.follows .mixedOrders=true) (hc:zg P call) {x:XA} {s':St} (h:zD P call N Base.rd c s=some (x,s')) (hq:Q x s'):Goes P c s Q:=by
 intro F0 w0 n F nu a w st hf hd K hK
 obtain⟨fr,A⟩:=s
 obtain⟨fr',A'⟩:=s'
 exact qdo (rd:=Base.rd) (rr:=Base.rr) (base:=w0.heap.size) hc hm c st.inv hf (Base.hrd.step st) hd st.size h (fun F' nu' w' a' hd' st' hf'=>hK x _ F' nu' a' w' hq (st.trans st') hf' hd')
theorem Goes.imp {Q':XA→St→Prop} (h:Goes P c s Q) (hq: ∀x s',Q x s'→Q' x s'):Goes P c s Q':=
 fun F0 w0 n F nu a w st hf hd K hK=>h F0 w0 n F nu a w st hf hd K (fun x s' F' nu' a' w' q=>hK x s' F' nu' a' w' (hq x s' q))
theorem Goes.skip (h:Q .normal s):Goes P .skip s Q:=fun _ _ _ F nu a w st hf hd _ hK=>wpIn_skip (hK .normal s F nu a w h st hf hd)
theorem Goes.label {l:Nat} (h:Q .normal s):Goes P (.label l) s Q:=fun _ _ _ F nu a w st hf hd _ hK=>wpIn_label (hK .normal s F nu a w h st hf hd)
theorem Goes.exit {id:Nat} (h:Q (.exit id) s):Goes P (.exit id) s Q:=fun _ _ _ F nu a w st hf hd _ hK=>wpIn_exit (hK (.exit id) s F nu a w h st hf hd)
theorem Goes.ret (h:Q .ret s):Goes P .ret s Q:=fun _ _ _ F nu a w st hf hd _ hK=>wpIn_ret (hK .ret s F nu a w h st hf hd)
def andThen (k:St→Prop) (Q:XA→St→Prop):XA→St→Prop
 | .normal,s=>k s
 |x,s=>Q x s
theorem Goes.seq (h:Goes P c1 s (andThen (fun s'=>Goes P c2 s' Q) Q)):Goes P (.seq c1 c2) s Q:=by
 intro F0 w0 n F nu a w st hf hd K hK
 refine wpIn_seq (h F0 w0 n F nu a w st hf hd _ (fun x s' F' nu' a' w' q st' hf' hd'=>?_))
 cases x with
 |normal=>exact q F0 w0 n F' nu' a' w' st' hf' hd' K hK
 |exit id=>exact hK (.exit id) s' F' nu' a' w' q st' hf' hd'
 |ret=>exact hK .ret s' F' nu' a' w' q st' hf' hd'
theorem Goes.cond {co:Operand} {b:Bool} (hv:jv s.1 co= .bool b) (ht:b=true→Goes P c1 s Q) (hf:b=false→Goes P c2 s Q):Goes P (.cond co c1 c2) s Q:=by
 intro F0 w0 n F nu a w st hfr hd K hK
 have hv2:=hfr.eval st.inv.glob co
 rw[hv]at hv2
 have hb:a.eval co= .bool b:=by
  generalize a.eval co=z at hv2
  cases hv2
  rfl
 cases b with
 |true=>exact wpIn_cond_true hb (ht rfl F0 w0 n F nu a w st hfr hd K hK)
 |false=>exact wpIn_cond_false hb (hf rfl F0 w0 n F nu a w st hfr hd K hK)
theorem Goes.condAny {co:Operand} (hv:jv s.1 co= .anyb) (ht:Goes P c1 s Q) (hf:Goes P c2 s Q):Goes P (.cond co c1 c2) s Q:=by
 intro F0 w0 n F nu a w st hfr hd K hK
 have hv2:=hfr.eval st.inv.glob co
 rw[hv]at hv2
 obtain⟨b,hb⟩: ∃b,a.eval co= .bool b:=by
  generalize a.eval co=z at hv2
  cases hv2
  exact⟨_,rfl⟩
 cases b with
 |true=>exact wpIn_cond_true hb (ht F0 w0 n F nu a w st hfr hd K hK)
 |false=>exact wpIn_cond_false hb (hf F0 w0 n F nu a w st hfr hd K hK)
def condGo (v:AV) (k1 k2:Prop):Prop:=match v with
 | .bool b=>(b=true→k1)∧(b=false→k2)
 |_=>False
def qlf (id:Nat) (Q:XA→St→Prop):XA→St→Prop
 | .exit k,s=>if k=id then Q .normal s else Q (.exit k) s
 |x,s=>Q x s
theorem Goes.block {id:Nat} (h:Goes P c s (qlf id Q)):Goes P (.block id c) s Q:=by
 intro F0 w0 n F nu a w st hf hd K hK
 refine wpIn_block (h F0 w0 n F nu a w st hf hd _ (fun x s' F' nu' a' w' q st' hf' hd'=>?_))
 cases x with
 |normal=>exact hK .normal s' F' nu' a' w' q st' hf' hd'
 |ret=>exact hK .ret s' F' nu' a' w' q st' hf' hd'
 |exit k=>
  simp only[qgT,Exit.inBlock]
  simp only[qlf]at q
  split at q
  ·rename_i e
   rw[if_pos e]
   exact hK .normal s' F' nu' a' w' q st' hf' hd'
  ·rename_i e
   rw[if_neg e]
   exact hK (.exit k) s' F' nu' a' w' q st' hf' hd'
theorem Goes.scope (h:Goes P c s Q):Goes P (.scope c) s Q:=by
 intro F0 w0 n F nu a w st hf hd K hK
 refine qbn (h F0 w0 n F nu a w st hf hd _ (fun x s' F' nu' a' w' q st' hf' hd'=>?_))
 have:=hK x s' F' nu' a' w' q st' hf' hd'
 cases x<;>exact this
theorem Goes.loop (I:Nat→St→Prop) (hstep: ∀m s,I m s→Goes P c s (andThen (fun s'=> ∃m',m'<m∧I m' s') Q)) {m:Nat} (h0:I m s):Goes P (.loop c) s Q:=by
 intro F0 w0 n F nu a w st hf hd K hK
 have key: ∀(m:Nat) (s:St),I m s→ ∀(F:Nat→Prop) (nu:Nat→Option Nat) (a:Act) (w:World),Stp F0 Base.nu Base.A w0 F nu s.2 w→RF F nu w s.1 a.tmps→Dfr w0.heap.size F nu s.2 w a.defers→
  ∀(b:Frame) (k:List Item) (cs:List Frame),b.roundOf=(fz Base.rr).round→(fz Base.rr).fn b.fn→(fz Base.rr).room (cs.length+1+n)→
  ∃e a₂ w₂,K e a₂ w₂∧ArrivesIn (Machine.fenced P (fz Base.rr)) P (lone (b.atR a (.code c:: .inLoop c::k)) cs w) b k cs e a₂ w₂:=by
  intro m
  induction m using Nat.strongRecOn with
  |_ m ih=>
   intro s hI F nu a w st hf hd b k cs hro hb hr
   refine qcc ?_ b k cs hro hb hr
   refine hstep m s hI F0 w0 n F nu a w st hf hd _ (fun x s' F' nu' a' w' q st' hf' hd'=>?_)
   cases x with
   |normal=>
    obtain⟨m',hlt,hI'⟩:=q
    exact ih m' hlt s' hI' F' nu' a' w' st' hf' hd'
   |exit id=>exact hK (.exit id) s' F' nu' a' w' q st' hf' hd'
   |ret=>exact hK .ret s' F' nu' a' w' q st' hf' hd'
 intro b k cs hro hb hr
 obtain⟨e,a₂,w₂,hq2,harr⟩:=key m s h0 F nu a w st hf hd b k cs hro hb hr
 exact⟨e,a₂,w₂,hq2,.of_steps (.one (fenced_calm hb hr rfl) stepR_loop) harr⟩
def Ops (P:Program) (call:zM) (ops:Array Oper) (l:List Oper) (fr:Fr) (A:Heap) (K:Fr→Heap→Prop):Prop:=
 ∃fr' A',qb0 P call ops l fr A=some (fr',A')∧K fr' A'
variable {ops:Array Oper} {l:List Oper} {fr:Fr} {A:Heap} {K:Fr→Heap→Prop}
theorem Ops.nil (h:K fr A):Ops P call ops [] fr A K:=⟨fr,A,rfl,h⟩
theorem Ops.step {o:Oper} (hw:vC ops o fr=some true) {v:AV} {A':Heap} {f:zR} (hs:yV P call o fr A=some (v,A',f)) (h:Ops P call ops l (qaM fr o.dst v) A' K):Ops P call ops (o::l) fr A K:=by
 obtain⟨fr2,A2,h1,h2⟩:=h
 exact⟨fr2,A2,by simp only[qb0,hw,hs,h1],h2⟩
theorem Ops.off {o:Oper} (hw:vC ops o fr=some false) (h:Ops P call ops l (qaM fr o.dst (.tuple [])) A K):Ops P call ops (o::l) fr A K:=by
 obtain⟨fr2,A2,h1,h2⟩:=h
 exact⟨fr2,A2,by simp only[qb0,hw,h1],h2⟩
theorem Goes.region (hm:P.follows .mixedOrders=true) (hc:zg P call) {id:Nat} (h:Ops P call ops ops.toList s.1 s.2 fun fr A=>Q .normal (fr,A)):Goes P (.region id ops false) s Q:=by
 obtain⟨fr',A',h1,h2⟩:=h
 refine Goes.eval (N:=0) (x:= .normal) (s':=(fr',A')) hm hc ?_ h2
 simp[zD,qbv,h1]
theorem Goes.draw (hm:P.follows .mixedOrders=true) (hc:zg P call) {id:Nat} {s':St} (h:qbG P call ops s.1 s.2=some s') (hq:Q .normal s'):Goes P (.region id ops true) s Q:=by
 refine Goes.eval (N:=0) (x:= .normal) (s':=s') hm hc ?_ hq
 simp[zD,qbv,h]
def opsGo (P:Program) (call:zM) (ops:Array Oper) (o:Oper) (l:List Oper) (fr:Fr) (A:Heap) (K:Fr→Heap→Prop):Option Bool→Prop
 |some true=>match yV P call o fr A with
  |some (v,A',_)=>Ops P call ops l (qaM fr o.dst v) A' K
  |none=>False
 |some false=>Ops P call ops l (qaM fr o.dst (.tuple [])) A K
 |none=>False
theorem Fr.get_fn (n:Nat) (g:Nat→AV) (t:Nat):(Fr.fn n g).get t=if t<n then g t else .undef:=by
 simp only[Fr.get]
 by_cases h:t<n
 ·rw[if_pos h,show Nat.blt t n=true from Nat.ble_eq_true_of_le h];rfl
 ·rw[if_neg h,qa3 (by omega)];rfl
theorem qe2 (g:Nat→AV) (t:Nat) (a:AV) (u:Nat):qe5 g t a u=if u=t then a else g u:=by
 unfold qe5
 by_cases h:u=t
 ·rw[if_pos h,qcP h];rfl
 ·rw[if_neg h,qa8 h];rfl
theorem qj1 {o:Oper} {v:AV} (hn:zX o (jv fr)=none) (h:aop P o (jv fr)= .done v):yV P call o fr A=some (v,A,[]):=by
 unfold yV
 rw[hn,h]
 rfl
def qjN (P:Program) (ops:Array Oper) (l:List Oper) (fr:Fr) (K:Fr→Prop):Prop:=
 match l with
 |[]=>K fr
 |o::l=>(vC ops o (maskF (zN ops o) fr)=some false∧qjN P ops l (qaM fr o.dst (.tuple [])) K)∨
  (vC ops o (maskF (zN ops o) fr)=some true∧zX o (jv (maskF (zN ops o) fr))=none∧(∀A,vO o (jv (maskF (zN ops o) fr)) A=[])∧ ∃v,aop P o (jv (maskF (zN ops o) fr))= .done v∧qjN P ops l (qaM fr o.dst v) K)
theorem qjN.run: ∀(l pre:List Oper),ops.toList=pre++l→ ∀{fr:Fr} {K:Fr→Prop},qjN P ops l fr K→
 ∃fr' rs,qem P call ops l.length pre.length (fr,A)=some ((fr',A),rs)∧(∀r∈rs,r.fp=[])∧K fr':=by
 intro l
 induction l with
 |nil=>intro pre _ fr K h;exact⟨fr,[],rfl,by simp,h⟩
 |cons o l ih=>
  intro pre hp fr K h
  have ho:ops[pre.length]? =some o:=by
   rw[←Array.getElem?_toList,hp]
   simp
  have hp':ops.toList=(pre++[o])++l:=by simp[hp]
  rcases h with⟨hw,h⟩|⟨hw,hn,hf,v,hv,h⟩
  ·obtain⟨fr',rs,h1,h2,h3⟩:=ih (pre++[o]) hp' h
   simp only[List.length_append,List.length_cons,List.length_nil,Nat.zero_add]at h1
   refine⟨fr',⟨[],false,A.length,A.length⟩::rs,?_,?_,h3⟩
   ·simp only[List.length_cons,qem,qcY,ho,hw,h1,Option.map_some]
   ·intro r hr
    rcases List.mem_cons.1 hr with rfl|hr
    ·rfl
    ·exact h2 r hr
  ·obtain⟨fr',rs,h1,h2,h3⟩:=ih (pre++[o]) hp' h
   simp only[List.length_append,List.length_cons,List.length_nil,Nat.zero_add]at h1
   have hs:qdJ P call o (maskF (zN ops o) fr) A=some (v,A,⟨[],false,A.length,A.length⟩):=by
    unfold qdJ
    simp only[hf,hn,List.all_nil,if_true]
    rw[qj1 hn hv]
    have hl:A.length≤(mask [] A).length:=by rw[jX];exact Nat.le_refl _
    simp only[hl,if_true,List.any_nil,Option.isSome_none,Bool.false_and,Bool.or_false]
    rw[qh6 (jX _ _),jX]
   refine⟨fr',⟨[],false,A.length,A.length⟩::rs,?_,?_,h3⟩
   ·simp only[List.length_cons,qem,qcY,ho,hw,hs,h1,Option.map_some]
   ·intro r hr
    rcases List.mem_cons.1 hr with rfl|hr
    ·rfl
    ·exact h2 r hr
theorem qlH {ms:List Nat} {rs:List Rec} (h: ∀r∈rs,r.fp=[]):qmD ms rs.zipIdx=true:=by
 refine List.all_eq_true.2 fun q hq=>?_
 have:q.1∈rs:=by
  have:=List.mem_zipIdx_iff_getElem?.1 (show(q.1,q.2)∈rs.zipIdx from hq)
  exact List.mem_of_getElem? this
 rw[h q.1 this]
 rfl
theorem Goes.look (hm:P.follows .mixedOrders=true) {id:Nat} (hs:qgG ops=true) (h:qjN P ops ops.toList s.1 fun fr=>Q .normal (fr,s.2)):Goes P (.region id ops true) s Q:=by
 obtain⟨fr',rs,h1,h2,h3⟩:=qjN.run (call:=qdS) (A:=s.2) ops.toList [] rfl h
 refine Goes.draw (call:=qdS) (s':=(fr',s.2)) hm qep ?_ h3
 have hlen:ops.toList.length=ops.size:=by simp
 rw[hlen]at h1
 unfold qbG
 rw[show qem P qdS ops ops.size 0 (s.1,s.2)=some ((fr',s.2),rs)from h1]
 simp only[qdH,hs,qlH h2,Bool.and_self,if_true]
def qho:List AV→Nat→(Nat→AV)→Nat→AV
 |[],_,g=>g
 |a::as,k,g=>qho as (k+1) (qe5 g k a)
theorem qhG: ∀(as:List AV) (k:Nat) (g:Nat→AV) (j:Nat),(j<k∨k+as.length≤j→qho as k g j=g j)∧(k≤j→ ∀a,as[j-k]? =some a→qho as k g j=a):=by
 intro as
 induction as with
 |nil=>intro k g j;exact⟨fun _=>rfl,fun _ a h=>by simp at h⟩
 |cons a as ih=>
  intro k g j
  obtain⟨h1,h2⟩:=ih (k+1) (qe5 g k a) j
  simp only[qho]
  refine⟨fun h=>?_,fun h b hb=>?_⟩
  ·have hj:j<k∨k+(as.length+1)≤j:=by simpa using h
   rw[h1 (by omega)]
   simp only[qe5,qa8 (show j≠k by omega),cond_false]
  ·rcases Nat.lt_or_ge k j with hk|hk
   ·have e:j-k=(j-(k+1))+1:=by omega
    rw[e]at hb
    exact h2 (by omega) b (by simpa using hb)
   ·have e:j=k:=by omega
    subst e
    rw[Nat.sub_self]at hb
    simp only[List.getElem?_cons_zero,Option.some.injEq]at hb
    subst hb
    rw[h1 (.inl (by omega))]
    simp only[qe5,qcP rfl,cond_true]
def frFn (n:Nat) (args:List AV):Fr:= .fn n (qho args 0 fun _=> .undef)
theorem RF.frFn {F:Nat→Prop} {nu:Nat→Option Nat} {w:World} {args:List AV} {vs:Array Value} {n m:Nat} (hm:args.length+(n-args.length)=m) (h:RL F nu w args vs):RF F nu w (frFn m args) (vs++Array.replicate (n-vs.size) undef):=by
 have hs:=h.1
 refine⟨by simp[Go.Av.frFn,Fr.n,hs,hm],fun t v hv=>?_,fun t ht=>?_⟩
 ·have hlt:t<m:=by
   have:=(Array.getElem?_eq_some_iff.1 hv).1
   simp[hs]at this
   omega
  have hb:Nat.blt t m=true:=Nat.ble_eq_true_of_le hlt
  show R F nu w (cond (Nat.blt t m) (qho args 0 (fun _=> .undef) t) .undef) v
  rw[hb,cond_true]
  rcases Nat.lt_or_ge t args.length with h1|h1
  ·rw[Array.getElem?_append_left (by omega)]at hv
   rw[(qhG args 0 _ t).2 (Nat.zero_le _) args[t] (by simp[h1])]
   exact h.2 t _ v (List.getElem?_eq_getElem h1) hv
  ·rw[(qhG args 0 _ t).1 (by omega)]
   exact .undef v
 ·simp only[Go.Av.frFn,Fr.n]at ht
  show cond (Nat.blt t m) (qho args 0 (fun _=> .undef) t) AV.undef=AV.undef
  rw[qa3 ht]
  rfl
end
section
variable {P:Program} {c:Code}
def returns (P:Program) (rs:List ResultVar) (v:AV):XA→St→Prop
 | .exit _,_=>False
 |_,s=> ∃xs,jB P s.1 s.2 rs=some xs∧frz s.2 (List.range s.2.length) 12 (qex xs)=some v
theorem Stp.hand {F F2:Nat→Prop} {nu2:Nat→Option Nat} {w w':World} {Al:Heap} (st:Stp F (fun _=>none) [] w F2 nu2 Al w'):Stp F (fun _=>none) [] w (FS F2 nu2 Al (List.range Al.length)) (fun _=>none) [] w':=by
 have noOwn: ∀rb,¬qa9 (fun _=>none) [] rb:=by
  rintro rb ⟨b,x,hb,_⟩
  cases hb
 have hF3: ∀rb,rb<w.heap.size→FS F2 nu2 Al (List.range Al.length) rb→F rb:=by
  rintro rb hlt (h1|⟨b,x,_,h1,h2,h3⟩)
  ·rcases st.newF rb h1 with h2|h2|h2
   ·exact h2
   ·omega
   ·exact absurd h2 (noOwn rb)
  ·exact absurd (st.own rb hlt ⟨b,x,h1,h2,h3⟩) (noOwn rb)
 refine⟨fun rb h=> .inl (st.f rb h),fun _ _ h=>h,st.shape,⟨by simp,by simp,fun _ _=>rfl,fun rb h=>?_,by simp,Glob.mono st.inv.glob (fun _ h=> .inl h) fun _ _=>rfl⟩,fun rb hlt _=>st.keep rb hlt (noOwn rb),?_,st.size,st.os,st.tape,st.output,fun _ _=>rfl,Nat.le_refl _,fun rb h=>?_⟩
 ·rcases h with h|⟨b,x,_,h,_⟩
  ·exact st.inv.ltF rb h
  ·exact st.inv.ltN b rb h
 ·rintro rb _ ⟨b,x,hb,_⟩
  cases hb
 ·rcases Nat.lt_or_ge rb w.heap.size with hlt|hge
  ·exact .inl (hF3 rb hlt h)
  ·exact .inr (.inl hge)
theorem Goes.fn {f:FuncId} {fn:Func} {args:List AV} {v:AV} {m:Nat} {rs:List ResultVar} (hf:P.funcs[f]? =some fn) (hn:(fn.name== "runtime.NumGoroutine")=false) (hb:fn.body=some c) (hm:args.length+(fn.ntmps-args.length)=m) (hr:fn.results.toList=rs) (h:Goes P c (frFn m args,[]) (returns P rs v)):
 qf P (.fn f) args [] v []:=by
 intro F nu w vs i hargs
 have hnu:nu=fun _=>none:=funext fun b=>i.fresh b (Nat.zero_le _)
 subst hnu
 subst hr
 refine .inl ⟨⟨fn,hf,hn,by rw[hb];rfl⟩,?_⟩
 refine(callsIn_wide (n:=0)).1 ?_
 refine callsIn_of_wp_marks hf hb trivial ?_
 refine h F w 0 F (fun _=>none) _ w (.refl i) (RF.frFn hm hargs) .nil _ (fun x s' F' nu' a' w' q st hfr hd=>?_)
 have post: ∀xs,jB P s'.1 s'.2 fn.results.toList=some xs→frz s'.2 (List.range s'.2.length) 12 (qex xs)=some v→
  LeavesInM (fz none) 0 P fn a'.tmps (fun e w'=> ∃x F' nu',e= .returned x∧Stp F (fun _=>none) [] w F' nu' [] w'∧R F' nu' w' v x) a'.defers .returning w':=by
  intro xs hrs hv
  refine qdU hrs a'.defers st hfr hd (fun F2 nu2 w2 y st2 hR=>?_)
  exact⟨y,_,_,rfl,st2.hand,qeY st2.inv 12 hv hR⟩
 cases x with
 |normal=>obtain⟨xs,h1,h2⟩:=q;exact post xs h1 h2
 |ret=>obtain⟨xs,h1,h2⟩:=q;exact post xs h1 h2
 |exit k=>exact q.elim
end
end Go.Av
