/-
  Runs on abstract values: operations in the order of the text, code, loops, calls; and that they tell what the machine does.
-/
import Derived.Test.YthgioiakbbhonaaGreatDoorAvSndG
import Derived.Scope
noncomputable section
namespace Go.Av
set_option linter.unusedSectionVars false
set_option linter.unusedSimpArgs false
variable [Glob]
open Go.RowKit
def yJ (fr:Fr):Operand->AV
 | .tmp t=>fr.get t
 | .const v=>qb4 3 v
 | .global g=>Glob.gl g
 | .func f=> .func (.func f) [] []
def qdF (fr:Fr) (dst:Option Tmp) (v:AV):Fr:=
 match dst with
 |some d=>fr.set d v
 |none=>fr
section
variable {P:Program} {F:Nat->Prop} {nu:Nat->Option Nat} {A:Heap} {w:World}
theorem RF.getD {fr:Fr} {tmps:Array Value} (h:RF F nu w fr tmps) (t:Nat):R F nu w (fr.get t) (tmps.getD t undef):=by
 rcases ak t tmps.size with hlt|hge
 ·have e:tmps.getD t undef=tmps[t]:=by simp[Array.getD,hlt]
  rw[e];exact h.at_ t _ (Yi hlt)
 rw[h.out t (by rw[<-h.size];exact hge)];exact .undef _
theorem RF.eval {fr:Fr} {a:Act} (h:RF F nu w fr a.tmps) (hg:Glob.G F w) (x:Operand):R F nu w (yJ fr x) (a.eval x):=by
 cases x with
 |tmp t=>exact h.getD t
 |const v=>exact qer 3 v
 |global g=>exact(Glob.val g hg).mono ⟨λ_ h=>h,by simp,λ_ _=>rfl,λ_ _ h=>h⟩
 |func f=>exact .func _ [] [] _ _ rfl rfl (by simp) (by simp)
theorem RF.setDst {fr:Fr} {a:Act} (h:RF F nu w fr a.tmps) (dst:Option Tmp) {v:AV} {x:Value} (hv:R F nu w v x):RF F nu w (qdF fr dst v) (a.put dst x).tmps:=by
 cases dst with
 |none=>exact h
 |some d=>
  refine⟨by simp[qdF,Act.put,h.size],λj y hy=>?_,λj hj=>?_⟩
  ·simp only[qdF,Act.put]at hy⊢;rw[Array.getElem?_setIfInBounds]at hy;by_cases e:d=j
   ·subst e;rw[ae rfl]at hy;split at hy
    ·rename_i hlt;injection hy with hy;subst hy;rcases fr.get_set_same d v with h1|h1|⟨h1,_⟩
     ·rw[h1];exact hv
     ·rw[h1];exact .undef _
     have:=h.size;omega
    cases hy
   rw[aa e]at hy;rw[Ui e];exact h.at_ j y hy
  simp only[qdF,Fr.set_n]at hj⊢;by_cases e:d=j
  ·subst e;rw[Fr.get_set_out hj];exact h.out d hj
  rw[Ui e];exact h.out j hj
theorem RL.map {ρ:Operand->AV} {ρv:Operand->Value} (hρ: ∀x,R F nu w (ρ x) (ρv x)) (xs:List Operand):RA F nu w (xs.map ρ) (xs.map ρv):=by
 refine⟨by simp,λj a v ha hv=>?_⟩;rw[YA]at ha hv
 cases h:xs[j]? with
 |none=>simp[h]at ha
 |some x=>
  simp only[h,ZM,ZI]at ha hv;subst ha;subst hv;exact hρ x
theorem RP.map {ρ:Operand->AV} {ρv:Operand->Value} (hρ: ∀x,R F nu w (ρ x) (ρv x)): ∀xs:List (Nat×Operand),RP F nu w (xs.map λp=>(p.1,ρ p.2)) (xs.map λp=>(p.1,ρv p.2))
 |[]=>trivial
 |_::xs=>⟨rfl,hρ _,RP.map hρ xs⟩
theorem RO.map {ρ:Operand->AV} {ρv:Operand->Value} (hρ: ∀x,R F nu w (ρ x) (ρv x)) (x:Option Operand):RO F nu w (x.map ρ) (x.map ρv):=by
 cases x with
 |none=>trivial
 |some x=>exact hρ x
set_option maxHeartbeats 4000000 in
theorem qjs (i:Inv F nu A w) {o:Oper} {ρ:Operand->AV} {ρv:Operand->Value} (hρ: ∀x,R F nu w (ρ x) (ρv x)) {f:zG} {v:AV} {A':Heap} {f':zG} (h:exec (aop P o ρ) A f=some (v,A',f')):
 ∃x w' nu',((execOp ρv o).run P w= .ok (.value x) w'\/((execOp ρv o).run P w= .ok .skip w'/\x=undef))/\Stp F nu A w F nu' A' w'/\R F nu' w' v x:=by
 have val: ∀(s:Sem Value) (r:Res),execOp ρv o=(do pure (.value (<-s)):Sem Next)->Ok P F nu A w s r->r=some (v,A',f')->
  ∃x w' nu',((execOp ρv o).run P w= .ok (.value x) w'\/((execOp ρv o).run P w= .ok .skip w'/\x=undef))/\Stp F nu A w F nu' A' w'/\R F nu' w' v x:=by
  intro s r hs hok hr;obtain⟨x,w',nu',h1,h2,h3⟩:=hok v A' f' hr;exact⟨x,w',nu',.inl (by rw[hs];simp[h1]),h2,h3⟩
 have unit: ∀(s:Sem Unit),execOp ρv o=(do s;pure .skip:Sem Next)->(v= .undef/\ ∃w',s.run P w= .ok () w'/\Stp F nu A w F nu A' w')->
  ∃x w' nu',((execOp ρv o).run P w= .ok (.value x) w'\/((execOp ρv o).run P w= .ok .skip w'/\x=undef))/\Stp F nu A w F nu' A' w'/\R F nu' w' v x:=by
  intro s hs ⟨hv,w',h1,h2⟩;subst hv;exact⟨undef,w',nu,.inr ⟨by rw[hs];simp[h1],rfl⟩,h2,.undef _⟩
 have pureV: ∀(x:Value),execOp ρv o=(pure (.value x):Sem Next)->R F nu w v x->A'=A->
  ∃x w' nu',((execOp ρv o).run P w= .ok (.value x) w'\/((execOp ρv o).run P w= .ok .skip w'/\x=undef))/\Stp F nu A w F nu' A' w'/\R F nu' w' v x:=by
  intro x hx hR hA;subst hA;exact⟨x,w,nu,.inl (by rw[hx];rfl),.refl i,hR⟩
 obtain⟨dst,op,type,pos,after,guard⟩:=o
 cases op with
 |move x=>obtain⟨rfl,rfl⟩:=zD h;exact pureV _ rfl (hρ x) rfl
 |assign x=>obtain⟨rfl,rfl⟩:=zD h;exact pureV _ rfl (hρ x) rfl
 |pick c a b=>
  simp only[aop,zx]at h;split at h
  ·rename_i t ht;obtain⟨rfl,rfl⟩:=zD h;have hc:=hρ c;rw[ht]at hc
   have hc2:ρv c= .bool t:=by
    generalize ρv c=z at hc;cases hc
    rfl
   refine⟨if t then ρv a else ρv b,w,nu,.inl ?_,.refl i,?_⟩
   ·simp[execOp,hc2,asBool]
   cases t
   ·exact hρ b
   exact hρ a
  simp[exec]at h
 |alloc e=>simp only[aop,zx]at h;exact val (Instr.alloc e true (.tuple #[])) _ rfl (qpR i) h
 |box e x=>simp only[aop,zx]at h;exact val (Instr.box e (ρv x)) _ rfl (qr7 i (hρ x)) h
 |build t parts=>
  simp only[aop,zx]at h
  have hp:RP F nu w (parts.toList.map λp=>(p.1,ρ p.2)) (parts.map λ(i,x)=>(i,ρv x)).toList:=by
   rw[Array.toList_map];exact RP.map hρ _
  exact val (Instr.build t (parts.map λ(i,x)=>(i,ρv x))) _ rfl (qpJ i hp) h
 |buildSlice t len parts=>
  simp only[aop,zx]at h
  have hp:RP F nu w (parts.toList.map λp=>(p.1,ρ p.2)) (parts.map λ(i,x)=>(i,ρv x)).toList:=by
   rw[Array.toList_map];exact RP.map hρ _
  exact val (Instr.buildSlice t len (parts.map λ(i,x)=>(i,ρv x))) _ rfl (qjo i hp) h
 |insert t m k x=>simp only[aop,zx]at h;exact unit (Instr.mapUpdate t (ρv m) (ρv k) (ρv x)) rfl (qgA i (hρ m) (hρ k) (hρ x) h)
 |load t p=>simp only[aop,zx]at h;exact val (Instr.loadAt t (ρv p)) _ rfl (qrz i (hρ p)) h
 |store t p x=>simp only[aop,zx]at h;exact unit (Instr.storeAt t (ρv p) (ρv x)) rfl (qqh i (hρ p) (hρ x) h)
 |nilCheck x=>
  simp only[aop,zx]at h;have hx:=hρ x;generalize hy:ρ x=y at h hx;generalize hz:ρv x=z at hx;cases y<;>simp only[qjT,Pg.opt,exec,reduceCtorEq,ZI,ZP]at h
  ·obtain⟨rfl,rfl,_⟩:=h
   cases hx with
   |ptr _ _ rb hb=>exact⟨_,w,nu,.inl (by simp[execOp,hz]),.refl i,.ptr _ _ _ hb⟩
  ·obtain⟨rfl,rfl,_⟩:=h
   cases hx with
   |fptr cs off ad vs hF hl hc hR=>exact⟨_,w,nu,.inl (by simp[execOp,hz]),.refl i,.fptr _ _ _ _ hF hl hc hR⟩
  rename_i fn fs cs;cases fn<;>simp only[exec,reduceCtorEq,ZI,ZP]at h
  obtain⟨rfl,rfl,_⟩:=h
  cases hx with
  |func _ _ _ vf vc h1 h2 hf hc=>exact⟨_,w,nu,.inl (by simp[execOp,hz]),.refl i,.func _ _ _ _ _ h1 h2 hf hc⟩
 |binOp op t x y yt=>simp only[aop,zx]at h;exact val (do eqGuard op t x y (ρv x) (ρv y);binOp op t (ρv x) (ρv y)) _ rfl (qsu i (hρ x) (hρ y)) h
 |unOp op t x=>simp only[aop,zx]at h;exact val (Op.unary op (ρv x)) _ rfl (ok_un i (hρ x)) h
 |convert s d x=>simp only[aop,zx]at h;exact val (convert s d (ρv x)) _ rfl (ql1 i (hρ x)) h
 |makeFunc fn first captured=>
  obtain⟨rfl,rfl⟩:=zD h;have h1:=RL.map hρ first.toList;have h2:=RL.map hρ captured.toList;refine⟨.func fn (first.map ρv) (captured.map ρv),w,nu,.inl rfl,.refl i,.func _ _ _ _ _ (by simp) (by simp) (λj a v ha hv=>?_) (λj a v ha hv=>?_)⟩
  ·exact h1.2 j a v ha (by simpa using hv)
  exact h2.2 j a v ha (by simpa using hv)
 |makeMap t r=>simp only[aop,zx]at h;exact val (Instr.makeMap t (r.map ρv)) _ rfl (qlW i (RO.map hρ r)) h
 |makeSlice t l c=>simp only[aop,zx]at h;exact val (Instr.makeSlice t (ρv l) (ρv c)) _ rfl (qkf i (hρ l) (hρ c)) h
 |slice t x l hh m=>simp only[aop,zx]at h;exact val (Instr.sliceAt t (ρv x) (l.map ρv) (hh.map ρv) (m.map ρv)) _ rfl (ok_slice i (hρ x) (RO.map hρ l) (RO.map hρ hh) (RO.map hρ m)) h
 |fieldAddr s x fi=>simp only[aop,zx]at h;exact val (Instr.fieldAt s (ρv x) fi) _ rfl (qko i (hρ x)) h
 |field t x fi=>simp only[aop,zx]at h;exact val (Instr.field t (ρv x) fi) _ rfl (qou i (hρ x)) h
 |indexAddr t x ix=>simp only[aop,zx]at h;exact val (Instr.indexAt t (ρv x) (ρv ix)) _ rfl (qkG i (hρ x) (hρ ix)) h
 |index t x ix=>simp only[aop,zx]at h;exact val (Instr.index t (ρv x) (ρv ix)) _ rfl (qoE i (hρ x) (hρ ix)) h
 |lookup t x k ok=>simp only[aop,zx]at h;exact val (Instr.lookup t (ρv x) (ρv k) ok) _ rfl (qnO i (hρ x) (hρ k)) h
 |mapUpdate t m k x=>simp only[aop,zx]at h;exact unit (Instr.mapUpdate t (ρv m) (ρv k) (ρv x)) rfl (qgA i (hρ m) (hρ k) (hρ x) h)
 |mapEntry t m k=>simp only[aop,zx]at h;exact val (Instr.mapEntry t (ρv m) (ρv k)) _ rfl (qkZ i (hρ m) (hρ k)) h
 |entryStore t m k x=>simp only[aop,zx]at h;exact unit (Instr.entryStore t (ρv m) (ρv k) (ρv x)) rfl (qjk i (hρ m) (hρ k) (hρ x) h)
 |range t x=>simp only[aop,zx]at h;exact val (Instr.range t (ρv x)) _ rfl (qo6 i (hρ x)) h
 |next x s=>simp only[aop,zx]at h;exact val (Instr.next (ρv x) s type) _ rfl (qqL i (hρ x)) h
 |extract t ix=>
  simp only[aop,zx]at h;split at h
  ·rename_i vs ht;have hx:=hρ t;rw[ht]at hx;generalize hz:ρv t=z at hx
   cases hx with
   |tuple _ xs hl hR=>
    cases hv:vs[ix]? with
    |none=>simp[hv,Pg.opt,exec]at h
    |some y=>
     rw[hv]at h;obtain⟨rfl,rfl⟩:=zD h;have hlt:ix<vs.length:=(Yb.1 hv).1;have hx2:xs[ix]? =some xs[ix]:=Yi (by omega);exact⟨xs[ix],w,nu,.inl (by simp[execOp,hz,Instr.extract,hx2]),.refl i,hR ix _ _ hv hx2⟩
  simp[exec]at h
 |makeInterface t x=>
  simp only[aop,zx]at h;split at h
  ·simp[exec]at h
  ·rename_i d hni ht;obtain⟨rfl,rfl⟩:=zD h;refine⟨.iface t (ρv x),w,nu,.inl ?_,.refl i,.iface _ _ _ (hρ x)⟩;simp only[execOp,Instr.makeInterface,Sem.run_bind,run_underlying ht,Result.andThen_ok];cases d<;>first|rfl|exact absurd ht (hni _)
  simp[exec]at h
 |call c=>
  simp only[aop,zx]at h;split at h
  ·rename_i b hb;obtain⟨x,w',nu',h1,h2,h3⟩:=ql0 (P:=P) (ty:=type) (consts:=c.args.map fun| .const _=>true|_=>false) i (RL.map hρ c.args.toList) h;refine⟨x,w',nu',.inl ?_,h2,h3⟩
   have e1:c.argTypes.toList.toArray=c.argTypes:=by simp
   have e2:(c.args.toList.map ρv).toArray=c.args.map ρv:=by rw[<-Array.toList_map,Array.toArray_toList]
   rw[e1,e2]at h1;simp only[execOp,resolve,hb,Sem.run_bind,Sem.run_pure,Result.andThen_ok,invoke];exact h1
  simp[exec]at h
 |_=>simp[aop,zx,exec]at h
end
end Go.Av
