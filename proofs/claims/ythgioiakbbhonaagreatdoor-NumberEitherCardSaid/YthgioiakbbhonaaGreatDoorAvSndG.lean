/-
  The operations on abstract values tell what the machine does: one operation, whatever it is.
-/
import Derived.Test.YthgioiakbbhonaaGreatDoorAvSndF
noncomputable section
namespace Go.Av
set_option linter.unusedSectionVars false
variable [Glob]
open Go.RowKit
section
variable {P:Program} {F:Nat->Prop} {nu:Nat->Option Nat} {A:Heap} {w:World}
theorem qag {op:BinOp} {t:TypeId} {ox oy:Operand} {xv yv:Value} (h1: ¬(xv= .nilIface/\yv= .nilIface)) (h2: ∀a b,xv= .agg a->yv= .agg b->P.eqGuardType P.depth t=false):(eqGuard op t ox oy xv yv).run P w= .ok () w:=by
 by_cases ho:(op matches .eql| .neq)=true
 ·unfold eqGuard;cases xv<;>cases yv<;>first
   |(simp at h1;done)
   |(have:=h2 _ _ rfl rfl;cases op<;>simp[this]at ho⊢;done)
   |(cases op<;>simp at ho⊢)
 cases op<;>simp[eqGuard]at ho⊢
theorem qht {op:BinOp} {t:TypeId} {ox oy:Operand} (h:(qfl ox||qfl oy)=true):(eqGuard op t ox oy .nilIface .nilIface).run P w= .ok () w:=by
 cases op<;>cases ox<;>cases oy<;>first|rfl|(simp[qfl]at h;done)
theorem qsu (i:Inv F nu A w) {op:BinOp} {t:TypeId} {ox oy:Operand} {x y:AV} {xv yv:Value} (hx:R F nu w x xv) (hy:R F nu w y yv) {f:zG}:
 Ok P F nu A w (do eqGuard op t ox oy xv yv;binOp op t xv yv) (exec (.opt (zt P op t ox oy x y)) A f):=by
 refine Ok.opt i (λv hv=>?_)
 have fin: ∀r,(eqGuard op t ox oy xv yv).run P w= .ok () w->(binOp op t xv yv).run P w= .ok r w->R F nu w v r-> ∃r,((do eqGuard op t ox oy xv yv;binOp op t xv yv):Sem Value).run P w= .ok r w/\R F nu w v r:=by
  intro r h1 h2 h3;exact⟨r,by simp only[Sem.run_bind,h1,Result.andThen_ok,h2],h3⟩
 unfold zt at hv;split at hv
 ·split at hv
  ·rename_i hc;cases hx;cases hy
   obtain⟨D,hD⟩: ∃D,Op.maxDepth=D+1:=⟨9999,rfl⟩;have hg:=qht (P:=P) (w:=w) (op:=op) (t:=t) hc;split at hv
   ·rename_i ms ht;injection hv with hv;subst hv
    have h0:(Op.equalIn Op.maxDepth t .nilIface .nilIface).run P w= .ok true w:=by rw[hD];simp[Op.equalIn,run_underlying ht]
    exact fin _ hg (by simp[binOp,Op.equal,h0]) (.bool _)
   ·rename_i ms ht;injection hv with hv;subst hv
    have h0:(Op.equalIn Op.maxDepth t .nilIface .nilIface).run P w= .ok true w:=by rw[hD];simp[Op.equalIn,run_underlying ht]
    exact fin _ hg (by simp[binOp,Op.equal,h0]) (.bool _)
   cases hv
  cases hv
 ·rename_i k a k' b;cases hx;cases hy
  have hg:(eqGuard op t ox oy (.int k a) (.int k' b)).run P w= .ok () w:=qag (by simp) (by simp);split at hv
  ·rename_i hs;obtain⟨r,h1,h2⟩:=qlC (P:=P) (F:=F) (nu:=nu) (w:=w) (k':=k') hs (t:=t) hv;exact fin r hg h1 h2
  rename_i hs;split at hv
  ·rename_i hk;subst hk;obtain⟨r,h1,h2⟩:=qn6 (P:=P) (F:=F) (nu:=nu) (w:=w) (by simpa using hs) (t:=t) hv;exact fin r hg h1 h2
  cases hv
 ·cases hx with
  |str s1 _ h1=>
   cases hy with
   |str s2 _ h2=>
    obtain⟨r,g1,g2⟩:=qn0 (P:=P) (F:=F) (nu:=nu) (w:=w) h1 h2 hv;refine fin r (qag (by simp) (by simp)) ?_ g2;cases op<;>first|(simp[qja]at hv;done)|exact g1
 ·rename_i a b;cases hx;cases hy
  have hg:(eqGuard op t ox oy (.bool a) (.bool b)).run P w= .ok () w:=qag (by simp) (by simp);have hd: ∃D,Op.maxDepth=D+1:=⟨9999,rfl⟩;obtain⟨D,hD⟩:=hd;split at hv
  ·rename_i ht;injection hv with hv;subst hv;exact fin _ hg (by simp[binOp,Op.equal,hD,run_equalIn_bool' w D t a b ht]) (.bool _)
  ·rename_i ht;injection hv with hv;subst hv;exact fin _ hg (by simp[binOp,Op.equal,hD,run_equalIn_bool' w D t a b ht]) (.bool _)
  cases hv
 ·rename_i xs ys;split at hv
  ·cases hv
  rename_i hgt
  have hgt':P.eqGuardType P.depth t=false:=by simpa using hgt
  have hlarge:100<=Op.maxDepth:=by decide
  split at hv
  ·rename_i r he;injection hv with hv;subst hv;have h1:=qpI 100 Op.maxDepth hlarge t _ _ _ _ _ hx hy he;cases hx;cases hy
   exact fin _ (qag (by simp) (λ_ _ _ _=>hgt')) (by simp[binOp,Op.equal,h1]) (.bool _)
  ·rename_i r he;injection hv with hv;subst hv;have h1:=qpI 100 Op.maxDepth hlarge t _ _ _ _ _ hx hy he;cases hx;cases hy
   exact fin _ (qag (by simp) (λ_ _ _ _=>hgt')) (by simp[binOp,Op.equal,h1]) (.bool _)
  cases hv
 ·split at hv
  ·rename_i e ht;injection hv with hv;subst hv;obtain⟨b,h1⟩:=qnN (P:=P) ht hx hy;refine fin (.bool b) ?_ ?_ (.anyb _)
   ·refine qag (λ⟨e1,e2⟩=>?_) (λa b e1 e2=>?_)
    ·subst e1;cases hx
    subst e1;cases hx
   have hbin:binOp .eql t xv yv=(do pure (.bool (<-Op.equal t xv yv)):Sem Value):=by
    cases hx<;>cases hy<;>rfl
   rw[hbin];simp[Op.equal,h1]
  cases hv
 split at hv
 ·rename_i d ht;obtain⟨r,hr,rfl⟩:=Yd.1 hv;have h1:=qlz (P:=P) ht hx hy hr;refine fin (.bool r) ?_ ?_ (.bool _)
  ·refine qag (λ⟨e1,e2⟩=>?_) (λa b e1 e2=>?_)
   ·subst e1 e2;cases hx<;>cases hy<;>simp[qfM]at hr
   subst e1 e2;cases hx<;>cases hy<;>simp[qfM]at hr
  have hbin:binOp .eql t xv yv=(do pure (.bool (<-Op.equal t xv yv)):Sem Value):=by
   unfold qfM at hr;split at hr<;>first|(cases hr;done)|skip
   all_goals (cases hx;try (split at hr))<;>first|(cases hr;done)|(cases hy<;>rfl)|rfl
  rw[hbin];simp[Op.equal,h1]
 ·rename_i d ht;obtain⟨r,hr,rfl⟩:=Yd.1 hv;have h1:=qlz (P:=P) ht hx hy hr;refine fin (.bool (!r)) ?_ ?_ (.bool _)
  ·refine qag (λ⟨e1,e2⟩=>?_) (λa b e1 e2=>?_)
   ·subst e1 e2;cases hx<;>cases hy<;>simp[qfM]at hr
   subst e1 e2;cases hx<;>cases hy<;>simp[qfM]at hr
  have hbin:binOp .neq t xv yv=(do pure (.bool (!(<-Op.equal t xv yv))):Sem Value):=by
   unfold qfM at hr;split at hr<;>first|(cases hr;done)|skip
   all_goals (cases hx;try (split at hr))<;>first|(cases hr;done)|(cases hy<;>rfl)|rfl
  rw[hbin];simp[Op.equal,h1]
 cases hv
theorem ok_un (i:Inv F nu A w) {op:UnOp} {x:AV} {xv:Value} (hx:R F nu w x xv) {f:zG}:Ok P F nu A w (Op.unary op xv) (exec (.opt (aUn op x)) A f):=by
 refine Ok.opt i (λv hv=>?_);unfold aUn at hv;split at hv
 ·cases hx;injection hv with hv;subst hv;exact⟨_,rfl,.bool _⟩
 ·cases hx;injection hv with hv;subst hv;exact⟨_,rfl,.int _ _⟩
 ·cases hx;injection hv with hv;subst hv;exact⟨_,rfl,.int _ _⟩
 cases hv
theorem qjD (g:AV->AV->Option AV) (s:Value->Value->Sem Value) (hg: ∀a b c av bv,R F nu w a av->R F nu w b bv->g a b=some c-> ∃r,(s av bv).run P w= .ok r w/\R F nu w c r):
 ∀(xs:List AV) (vs:List Value) (a c:AV) (av:Value),xs.length=vs.length->(∀(j:Nat) (a:AV) (v:Value),xs[j]? =some a->vs[j]? =some v->R F nu w a v)->R F nu w a av->xs.foldlM g a=some c-> ∃r,(vs.foldlM s av).run P w= .ok r w/\R F nu w c r:=by
 intro xs
 induction xs with
 |nil=>
  intro vs a c av hl _ ha h
  cases vs with
  |nil=>simp only[List.foldlM_nil,eM,ZI]at h;subst h;exact⟨av,rfl,ha⟩
  |cons v vs=>simp at hl
 |cons x xs ih=>
  intro vs a c av hl hR ha h
  cases vs with
  |nil=>simp at hl
  |cons v vs=>
   simp only[List.foldlM_cons,Option.bind_eq_bind,aG]at h;obtain⟨b,hb,h⟩:=h;obtain⟨r,h1,h2⟩:=hg a x b av v ha (hR 0 x v rfl rfl) hb;obtain⟨r',h3,h4⟩:=ih vs b c r (by simpa using hl) (λj a v ha hv=>hR (j+1) a v (by simpa using ha) (by simpa using hv)) h2 h;exact⟨r',by simp only[List.foldlM_cons,Sem.run_bind,h1,Result.andThen_ok,h3],h4⟩
def RA (F:Nat->Prop) (nu:Nat->Option Nat) (w:World) (as:List AV) (vs:List Value):Prop:=
 as.length=vs.length/\ ∀(j:Nat) (a:AV) (v:Value),as[j]? =some a->vs[j]? =some v->R F nu w a v
theorem ql0 (i:Inv F nu A w) {b:Builtin} {types:List TypeId} {ty:TypeId} {consts:Array Bool} {as:List AV} {vs:List Value} (h:RA F nu w as vs) {f:zG} {v:AV} {A':Heap} {f':zG} (hx:exec (yE P b types as) A f=some (v,A',f')):
 ∃x w' nu',(builtin b types.toArray ty consts vs.toArray).run P w= .ok (.value x) w'/\Stp F nu A w F nu' A' w'/\R F nu' w' v x:=by
 have two: ∀s x,as=[s,x]-> ∃sv xv,vs=[sv,xv]/\R F nu w s sv/\R F nu w x xv:=by
  intro s x e;subst e
  match vs,h.1 with
  |[sv,xv],_=>exact⟨sv,xv,rfl,h.2 0 _ _ rfl rfl,h.2 1 _ _ rfl rfl⟩
 have one: ∀x,as=[x]-> ∃xv,vs=[xv]/\R F nu w x xv:=by
  intro x e;subst e
  match vs,h.1 with
  |[xv],_=>exact⟨xv,rfl,h.2 0 _ _ rfl rfl⟩
 have fin: ∀(s:Sem Value),(builtin b types.toArray ty consts vs.toArray)=(do pure (.value (<-s)):Sem Next)->Ok P F nu A w s (exec (yE P b types as) A f)->
  ∃x w' nu',(builtin b types.toArray ty consts vs.toArray).run P w= .ok (.value x) w'/\Stp F nu A w F nu' A' w'/\R F nu' w' v x:=by
  intro s hs hok;obtain⟨x,w',nu',h1,h2,h3⟩:=hok v A' f' hx;exact⟨x,w',nu',by rw[hs];simp[h1],h2,h3⟩
 have hx0:=hx;unfold yE at hx;split at hx
 ·obtain⟨sv,xv,rfl,h1,h2⟩:=two _ _ rfl;exact fin _ rfl (by simpa only[yE]using qnM i h1 h2)
 ·obtain⟨sv,xv,rfl,h1,h2⟩:=two _ _ rfl;exact fin _ rfl (by simpa only[yE]using qqT i h1 h2)
 ·obtain⟨xv,rfl,h1⟩:=one _ rfl;exact fin _ rfl (by simpa only[yE]using qom i h1)
 ·obtain⟨xv,rfl,h1⟩:=one _ rfl;split at hx
  ·rename_i t;split at hx
   ·rename_i d ht;refine fin (Builtin.len_ #[t] ty #[xv]) rfl ?_;simp only[yE,ht];exact qr9 i ht ty h1
   simp[exec]at hx
  simp[exec]at hx
 ·obtain⟨xv,rfl,h1⟩:=one _ rfl;split at hx
  ·rename_i t;split at hx
   ·rename_i e ht;refine fin (Builtin.cap_ #[t] ty #[xv]) rfl ?_;simp only[yE,ht];exact qsd i ht ty h1
   simp[exec]at hx
  simp[exec]at hx
 ·rename_i x rest
  match vs,h.1 with
  |av::ws,hl=>
   refine fin (Builtin.min_ types.toArray ty (av::ws).toArray) rfl ?_;simp only[yE];refine Ok.opt i (λc hc=>?_)
   obtain⟨r,h1,h2⟩:=qjD (P:=P) minA Builtin.min2 (λa b c av bv ha hb hm=>by
    cases ha<;>cases hb<;>simp only[minA,ZI,reduceCtorEq]at hm
    subst hm
    exact⟨_,rfl,.int _ _⟩) rest ws x c av (by simpa using hl) (λj a v ha hv=>h.2 (j+1) a v (by simpa using ha) (by simpa using hv)) (h.2 0 _ _ rfl rfl) hc
   exact⟨r,by simpa[Builtin.min_]using h1,h2⟩
 ·rename_i x rest
  match vs,h.1 with
  |av::ws,hl=>
   refine fin (Builtin.max_ types.toArray ty (av::ws).toArray) rfl ?_;simp only[yE];refine Ok.opt i (λc hc=>?_)
   obtain⟨r,h1,h2⟩:=qjD (P:=P) maxA Builtin.max2 (λa b c av bv ha hb hm=>by
    cases ha<;>cases hb<;>simp only[maxA,ZI,reduceCtorEq]at hm
    subst hm
    exact⟨_,rfl,.int _ _⟩) rest ws x c av (by simpa using hl) (λj a v ha hv=>h.2 (j+1) a v (by simpa using ha) (by simpa using hv)) (h.2 0 _ _ rfl rfl) hc
   exact⟨r,by simpa[Builtin.max_]using h1,h2⟩
 simp[exec]at hx
end
end Go.Av
