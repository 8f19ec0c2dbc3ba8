/-
  The evaluator once more, told by recursors, so that the kernel has few steps to go; where it tells something, callP tells the same.
-/
import Derived.Test.YthfnnbgiclognaaGreatAvFn
import Derived.IntWalk
set_option linter.unusedSectionVars false
noncomputable section
namespace Go.Av
variable [Glob]
def ob {α β:Type} (x:Option α) (k:α->Option β):Option β:=Option.rec (motive:=fun _=>Option β) none k x
theorem qY {α β:Type} {x:Option α} {k:α->Option β} {r:β} (h:ob x k=some r): ∃a,x=some a/\k a=some r:=by
 cases x with
 |none=>cases h
 |some a=>exact⟨a,rfl,h⟩
def zA {α:Type} (b:Bool) (x y:α):α:=Bool.rec (motive:=fun _=>α) y x b
theorem ku {α:Type} (b:Bool) (x y:α):zA b x y=if b=true then x else y:=by cases b<;>rfl
def hget (A:Heap):Nat->Option Blk:=
 List.rec (motive:=fun _=>Nat->Option Blk) (fun _=>none) (fun x _ ih b=>Nat.rec (motive:=fun _=>Option Blk) (some x) (fun n _=>ih n) b) A
theorem qbU: ∀(A:Heap) (b:Nat),hget A b=A[b]? :=by
 intro A
 induction A with
 |nil=>intro b;rfl
 |cons x A ih=>
  intro b
  cases b with
  |zero=>rfl
  |succ b=>exact(ih b).trans (by simp)
def hset (A:Heap):Nat->Blk->Heap:=
 List.rec (motive:=fun _=>Nat->Blk->Heap) (fun _ _=>[]) (fun y ys ih b x=>Nat.rec (motive:=fun _=>Heap) (x::ys) (fun n _=>y::ih n x) b) A
theorem qbQ: ∀(A:Heap) (b:Nat) (x:Blk),hset A b x=A.set b x:=by
 intro A
 induction A with
 |nil=>intro b x;rfl
 |cons y A ih=>
  intro b x
  cases b with
  |zero=>rfl
  |succ b=>exact congrArg (y:: ·) (ih b x)
def happ (A:Heap) (x:Blk):Heap:=List.rec (motive:=fun _=>Heap) [x] (fun y _ ih=>y::ih) A
theorem qbW: ∀(A:Heap) (x:Blk),happ A x=A++[x]:=by
 intro A
 induction A with
 |nil=>intro x;rfl
 |cons y A ih=>intro x;exact congrArg (y:: ·) (ih x)
def hlen (A:Heap):Nat:=List.rec (motive:=fun _=>Nat) 0 (fun _ _ ih=>Nat.succ ih) A
theorem zN: ∀(A:Heap),hlen A=A.length:=by
 intro A
 induction A with
 |nil=>rfl
 |cons y A ih=>exact congrArg Nat.succ ih
def qgZ (v:Value):AV:=
 match v with
 | .int k n=> .int k n
 | .bool b=> .bool b
 |v=>vQ 3 v
theorem qf0 (v:Value):qgZ v=vQ 3 v:=by cases v<;>rfl
def zF (fr:Fr) (x:Operand):AV:=
 Operand.rec (motive:=fun _=>AV) (fun t=>fr.get t) (fun v=>qgZ v) (fun g=>Glob.gl g) (fun f=> .func (.func f) [] []) x
theorem qaJ (fr:Fr):zF fr=kw fr:=by
 funext x
 cases x with
 |const v=>exact qf0 v
 |_=>rfl
def qej {β:Type} (a:AV) (k:IntKind->Int->Option β):Option β:=
 AV.rec (motive_1:=fun _=>Option β) (motive_2:=fun _=>Unit) none (fun _=>none) k (fun _=>none) none (fun _ _=>none) (fun _ _ _=>none) none (fun _ _ _ _ _=>none) (fun _ _ _=>none) (fun _ _ _=>none) (fun _ _ _ _=>none) (fun _ _ _=>none) none (fun _=>none)
  (fun _ _ _ _=>none) (fun _ _ _ _ _=>none) (fun _=>none) none (fun _ _ _=>none) none (fun _ _=>none) (fun _ _=>none) none () (fun _ _ _ _=>()) a
theorem qcN {β:Type} {a:AV} {k:IntKind->Int->Option β} {r:β} (h:qej a k=some r): ∃q n,a= .int q n/\k q n=some r:=by
 cases a<;>first|exact⟨_,_,rfl,h⟩|cases h
def qd2 {β:Type} (k:IntKind) (x:Option β):Option β:=IntKind.rec (motive:=fun _=>Option β) none none none x none none none none k
def qgd (n:Int):Int:=
 Int.rec (motive:=fun _=>Int) (fun m=>zA (Nat.blt m 9223372036854775808) (.ofNat m) (IntKind.wrap .i64 (.ofNat m))) (fun m=>zA (Nat.blt m 9223372036854775808) (.negSucc m) (IntKind.wrap .i64 (.negSucc m))) n
theorem qgE (n:Int):qgd n=IntKind.wrap .i64 n:=by
 cases n with
 |ofNat m=>
  show zA _ _ _=_
  rw[ku]
  split
  ·rename_i h
   have h:m<9223372036854775808:=Ys h
   exact(Go.IntWalk.i64_in _ ⟨by simp only[Int.ofNat_eq_natCast];omega,by simp only[Int.ofNat_eq_natCast];omega⟩).symm
  rfl
 |negSucc m=>
  show zA _ _ _=_
  rw[ku]
  split
  ·rename_i h
   have h:m<9223372036854775808:=Ys h
   have:=Int.negSucc_eq m
   exact(Go.IntWalk.i64_in _ ⟨by omega,by omega⟩).symm
  rfl
def addK (a b:Int):Int:=
 Int.rec (motive:=fun _=>Int) (fun m=>Int.rec (motive:=fun _=>Int) (fun n=> .ofNat (Nat.add m n)) (fun n=>Int.add (.ofNat m) (.negSucc n)) b) (fun m=>Int.add (.negSucc m) b) a
theorem qhK (a b:Int):addK a b=a+b:=by
 cases a<;>cases b<;>rfl
def mulK (a b:Int):Int:=
 Int.rec (motive:=fun _=>Int) (fun m=>Int.rec (motive:=fun _=>Int) (fun n=> .ofNat (Nat.mul m n)) (fun n=>Int.mul (.ofNat m) (.negSucc n)) b) (fun m=>Int.mul (.negSucc m) b) a
theorem qhO (a b:Int):mulK a b=a*b:=by
 cases a<;>cases b<;>rfl
def ltK (a b:Int):Bool:=
 Int.rec (motive:=fun _=>Bool) (fun m=>Int.rec (motive:=fun _=>Bool) (fun n=>Nat.blt m n) (fun _=>false) b) (fun m=>Int.rec (motive:=fun _=>Bool) (fun _=>true) (fun n=>Nat.blt n m) b) a
theorem qib (a b:Int):ltK a b=decide (a<b):=by
 have key: ∀m n:Nat,Nat.blt m n=decide (m<n):=by
  intro m n
  by_cases h:m<n
  ·rw[decide_eq_true h];exact Nat.ble_eq_true_of_le h
  rw[decide_eq_false h];exact yK (by omega)
 cases a with
 |ofNat m=>
  cases b with
  |ofNat n=>exact(key m n).trans (decide_eq_decide.2 (by simp))
  |negSucc n=>
   refine(decide_eq_false ?_).symm
   have:=Int.negSucc_eq n
   simp only[Int.ofNat_eq_natCast]
   omega
 |negSucc m=>
  cases b with
  |ofNat n=>
   refine(decide_eq_true ?_).symm
   have:=Int.negSucc_eq m
   simp only[Int.ofNat_eq_natCast]
   omega
  |negSucc n=>
   refine(key n m).trans (decide_eq_decide.2 ?_)
   have:=Int.negSucc_eq n
   have:=Int.negSucc_eq m
   omega
def eqK (a b:Int):Bool:=
 Int.rec (motive:=fun _=>Bool) (fun m=>Int.rec (motive:=fun _=>Bool) (fun n=>Nat.beq m n) (fun _=>false) b) (fun m=>Int.rec (motive:=fun _=>Bool) (fun _=>false) (fun n=>Nat.beq m n) b) a
theorem qia (a b:Int):eqK a b=(a==b):=by
 have key: ∀m n:Nat,Nat.beq m n=decide (m=n):=by
  intro m n
  by_cases h:m=n
  ·rw[decide_eq_true h];exact qbp h
  rw[decide_eq_false h];exact qaK h
 have e:(a==b)=decide (a=b):=by rfl
 rw[e]
 cases a with
 |ofNat m=>
  cases b with
  |ofNat n=>exact(key m n).trans (decide_eq_decide.2 (by simp only[Int.ofNat_eq_natCast];omega))
  |negSucc n=>exact(decide_eq_false (by simp)).symm
 |negSucc m=>
  cases b with
  |ofNat n=>exact(decide_eq_false (by simp)).symm
  |negSucc n=>exact(key m n).trans (decide_eq_decide.2 (by simp))
def binI (op:BinOp) (a b:Int):Option AV:=
 match op with
 | .add=>some (.int .i64 (qgd (addK a b)))
 | .mul=>some (.int .i64 (qgd (mulK a b)))
 | .eql=>some (.bool (eqK a b))
 | .neq=>some (.bool (zA (eqK a b) false true))
 | .lss=>some (.bool (ltK a b))
 | .leq=>some (.bool (zA (ltK b a) false true))
 | .gtr=>some (.bool (ltK b a))
 | .geq=>some (.bool (zA (ltK a b) false true))
 |_=>none
theorem qhU {op:BinOp} {a b:Int} {v:AV} (h:binI op a b=some v) (P:Program) (t:TypeId) (ox oy:Operand):qes P op t ox oy (.int .i64 a) (.int .i64 b)=some v:=by
 have nb: ∀x:Bool,zA x false true=!x:=by intro x;cases x<;>rfl
 cases op<;>simp only[binI,qgE,qhK,qhO,qib,qia,nb,reduceCtorEq]at h<;>rw[<-h]<;>simp only[qes,qbi,qdu,ZF,if_false,if_true,ZI,AV.bool.injEq]
 ·rfl
 ·rw[<-decide_not];exact decide_eq_decide.2 (by omega)
 rw[<-decide_not];exact decide_eq_decide.2 (by omega)
def binK (P:Program) (op:BinOp) (t:TypeId) (ox oy:Operand) (x y:AV):Option AV:=
 Option.rec (motive:=fun _=>Option AV) (qes P op t ox oy x y) some
  (qej x fun k a=>qd2 k (qej y fun q b=>qd2 q (binI op a b)))
theorem qcu {β:Type} {k:IntKind} {x:Option β} {r:β} (h:qd2 k x=some r):k= .i64/\x=some r:=by
 cases k<;>first|exact⟨rfl,h⟩|cases h
theorem qhP (P:Program) (op:BinOp) (t:TypeId) (ox oy:Operand) (x y:AV):binK P op t ox oy x y=qes P op t ox oy x y:=by
 unfold binK
 cases h:qej x fun k a=>qd2 k (qej y fun q b=>qd2 q (binI op a b))with
 |none=>rfl
 |some v=>
  obtain⟨k,a,e1,h1⟩:=qcN h
  obtain⟨e2,h2⟩:=qcu h1
  obtain⟨q,b,e3,h3⟩:=qcN h2
  obtain⟨e4,h4⟩:=qcu h3
  subst e1 e2 e3 e4
  exact(qhU h4 P t ox oy).symm
def optK (x:Option AV):Pg:=Option.rec (motive:=fun _=>Pg) .fail .done x
theorem qhS (x:Option AV):optK x= .opt x:=by cases x<;>rfl
def qgO (P:Program) (o:Oper) (ρ:Operand->AV):Pg:=
 match o.op with
 | .move x=> .done (ρ x)
 | .assign x=> .done (ρ x)
 | .binOp op t x y _=>optK (binK P op t x y (ρ x) (ρ y))
 |_=>aop P o ρ
theorem qfk (P:Program) (o:Oper) (ρ:Operand->AV):qgO P o ρ=aop P o ρ:=by
 unfold qgO
 split
 ·rename_i h;simp only[aop,h]
 ·rename_i h;simp only[aop,h]
 ·rename_i h;simp only[aop,h,qhS,qhP]
 rfl
def vN (fr:Fr) (dst:Option Tmp) (v:AV):Fr:=Option.rec (motive:=fun _=>Fr) fr (fun d=>fr.set d v) dst
theorem jS (fr:Fr) (dst:Option Tmp) (v:AV):vN fr dst v=vR fr dst v:=by cases dst<;>rfl
def xB (ops:Array Oper) (o:Oper) (fr:Fr):Option Bool:=Option.rec (motive:=fun _=>Option Bool) (some true) (fun _=>zL ops o fr) o.guard
theorem qak (ops:Array Oper) (o:Oper) (fr:Fr):xB ops o fr=zL ops o fr:=by
 unfold xB
 cases h:o.guard with
 |none=>simp[zL,h]
 |some g=>rfl
def qd4 (p:Pg):Heap->qO->Res:=
 Pg.rec (motive:=fun _=>Heap->qO->Res) (fun _ _=>none) (fun v A f=>some (v,A,f))
  (fun b _ ih A f=>ob (hget A b) fun x=>ih x A ((b,false)::f))
  (fun b x _ ih A f=>zA (Nat.blt b (hlen A)) (ih (hset A b x) ((b,true)::f)) none)
  (fun x _ ih A f=>ih (hlen A) (happ A x) f) p
theorem qhx: ∀(p:Pg) (A:Heap) (f:qO),qd4 p A f=exec p A f:=by
 intro p
 induction p with
 |fail=>intro A f;rfl
 |done v=>intro A f;rfl
 |get b k ih=>
  intro A f
  show ob (hget A b) _=_
  rw[qbU]
  simp only[exec]
  cases A[b]? with
  |none=>rfl
  |some x=>exact ih x A _
 |set b x k ih=>
  intro A f
  show zA (Nat.blt b (hlen A)) (qd4 k (hset A b x) _) none=_
  rw[zN,qbQ,ku,ih]
  simp only[exec]
  by_cases h:b<A.length
  ·rw[if_pos h,if_pos (show Nat.blt b A.length=true from Nat.ble_eq_true_of_le h)]
  rw[if_neg h,if_neg (by rw[yK (by omega)];simp)]
 |new x k ih=>
  intro A f
  show qd4 (k (hlen A)) (happ A x) f=_
  rw[zN,qbW,ih]
  rfl
def jl (S:List Nat) (lo:Nat) (p:Pg):Heap->qO->Res:=
 Pg.rec (motive:=fun _=>Heap->qO->Res) (fun _ _=>none) (fun v A f=>some (v,A,f))
  (fun b _ ih A f=>zA (S.contains b||Nat.ble lo b) (ob (hget A b) fun x=>ih x A ((b,false)::f)) none)
  (fun b x _ ih A f=>zA (S.contains b||Nat.ble lo b) (zA (Nat.blt b (hlen A)) (ih (hset A b x) ((b,true)::f)) none) none)
  (fun x _ ih A f=>ih (hlen A) (happ A x) f) p
theorem qfu {S:List Nat} {lo b:Nat} (h:(S.contains b||Nat.ble lo b)=true):b∈S\/lo<=b:=by
 simp only[Bool.or_eq_true]at h
 rcases h with h|h
 ·exact .inl (by simpa using h)
 exact .inr (Ys h)
theorem qa9 (S:List Nat) (lo:Nat): ∀(p:Pg) (A M:Heap) (f:qO) (v:AV) (A':Heap) (f':qO),M.length=A.length->lo<=A.length->(∀b,(b∈S\/lo<=b)->M[b]? =A[b]?)->jl S lo p A f=some (v,A',f')->
 ∃M',exec p M f=some (v,M',f')/\M'.length=A'.length/\(∀b,(b∈S\/lo<=b)->M'[b]? =A'[b]?)/\(∀b,b<lo->b∉S->A'[b]? =A[b]?)/\A.length<=A'.length:=by
 intro p
 induction p with
 |fail=>intro A M f v A' f' _ _ _ h;cases h
 |done u=>
  intro A M f v A' f' hl hlo hM h
  have h:some (u,A,f)=some (v,A',f'):=h
  simp only[ZI,ZP]at h
  obtain⟨rfl,rfl,rfl⟩:=h
  exact⟨M,rfl,hl,hM,fun _ _ _=>rfl,Nat.le_refl _⟩
 |get b k ih=>
  intro A M f v A' f' hl hlo hM h
  have h:zA (S.contains b||Nat.ble lo b) (ob (hget A b) fun x=>jl S lo (k x) A ((b,false)::f)) none=some (v,A',f'):=h
  rw[ku]at h
  split at h
  ·rename_i hs
   obtain⟨x,hx,h⟩:=qY h
   rw[qbU]at hx
   have hMb:=hM b (qfu hs)
   obtain⟨M',h1,h2⟩:=ih x A M _ v A' f' hl hlo hM h
   refine⟨M',?_,h2⟩
   simp only[exec,hMb,hx]
   exact h1
  cases h
 |set b x k ih=>
  intro A M f v A' f' hl hlo hM h
  have h:zA (S.contains b||Nat.ble lo b) (zA (Nat.blt b (hlen A)) (jl S lo k (hset A b x) ((b,true)::f)) none) none=some (v,A',f'):=h
  rw[ku]at h
  split at h
  ·rename_i hs
   rw[ku]at h
   split at h
   ·rename_i hlt
    rw[zN]at hlt
    rw[qbQ]at h
    have hb:b<A.length:=Ys hlt
    obtain⟨M',h1,h2,h3,h4,h5⟩:=ih (A.set b x) (M.set b x) _ v A' f' (by simp[hl]) (by simpa using hlo) (fun c hc=>by
     by_cases e:b=c
     ·subst e
      rw[List.getElem?_set_self (by omega),List.getElem?_set_self hb]
     rw[Yw e,Yw e,hM c hc]) h
    refine⟨M',?_,h2,h3,fun c hc hcS=>?_,by simpa using h5⟩
    ·simp only[exec,hl,hb,if_true]
     exact h1
    rw[h4 c hc hcS,Yw]
    rintro rfl
    rcases qfu hs with h|h
    ·exact hcS h
    omega
   cases h
  cases h
 |new x k ih=>
  intro A M f v A' f' hl hlo hM h
  have h:jl S lo (k (hlen A)) (happ A x) f=some (v,A',f'):=h
  rw[zN,qbW]at h
  obtain⟨M',h1,h2,h3,h4,h5⟩:=ih A.length (A++[x]) (M++[x]) f v A' f' (by simp[hl]) (by simp;omega) (fun c hc=>by
   rcases Nat.lt_or_ge c A.length with hlt|hge
   ·rw[Yf (by omega),Yf hlt,hM c hc]
   rw[Yo (by omega),Yo hge,hl]) h
  refine⟨M',?_,h2,h3,fun c hc hcS=>?_,?_⟩
  ·simp only[exec,hl]
   exact h1
  ·rw[h4 c hc hcS,Yf (by omega)]
  simp at h5;omega
def Le (a b:qW):Prop:= ∀c args A r,a c args A=some r->b c args A=some r
section
variable (P:Program) (call:qW)
def xS (o:Op):Bool:=match o with
 | .call _=>true
 |_=>false
def qb8 (o:Oper) (fr:Fr) (A:Heap):Res:=
 zA (xS o.op)
  (Option.rec (motive:=fun _=>Res) (qd4 (qgO P o (zF fr)) A []) (fun g=>ob (call g.1 g.2 A) fun r=>some (r.1,r.2,[])) (qU o (zF fr)))
  (qd4 (qgO P o (zF fr)) A [])
def qbC (ops:Array Oper) (l:List Oper):Fr->Heap->Option (Fr×Heap):=
 List.rec (motive:=fun _=>Fr->Heap->Option (Fr×Heap)) (fun fr A=>some (fr,A))
  (fun o _ ih fr A=>ob (xB ops o fr) fun w=>zA w (ob (qb8 P call o fr A) fun r=>ih (vN fr o.dst r.1) r.2.1) (ih (vN fr o.dst (.tuple [])) A)) l
def qdF (o:Oper) (fr:Fr) (A:Heap):Option (AV×Heap×Rec):=
 zA (xS o.op&&(qU o (zF fr)).isSome)
  (ob (qaz P call o fr A) fun r=>some (r.1,zA (r.2.2.fp.isEmpty&&Nat.beq (hlen r.2.1) (hlen A)) A r.2.1,r.2.2))
  (zA ((zR o (zF fr) A).all fun b=>Nat.blt b (hlen A))
   (ob (jl (zR o (zF fr) A) (hlen A) (qgO P o (zF fr)) A []) fun r=>some (r.1,r.2.1,⟨zR o (zF fr) A,r.2.2.any (·.2),hlen A,hlen r.2.1⟩)) none)
def qeL (ops:Array Oper) (o:Oper) (fr:Fr) (A:Heap):Option ((Fr×Heap)×Rec):=
 ob (xB ops o (maskF (qP ops o) fr)) fun w=>zA w
  (ob (qdF P call o (maskF (qP ops o) fr) A) fun r=>some ((vN fr o.dst r.1,r.2.1),r.2.2))
  (some ((vN fr o.dst (.tuple []),A),⟨[],false,hlen A,hlen A⟩))
def qhy (ops:Array Oper) (l:List Oper):Fr->Heap->Option ((Fr×Heap)×List Rec):=
 List.rec (motive:=fun _=>Fr->Heap->Option ((Fr×Heap)×List Rec)) (fun fr A=>some ((fr,A),[]))
  (fun o _ ih fr A=>ob (qeL P call ops o fr A) fun q=>ob (ih q.1.1 q.1.2) fun r=>some (r.1,q.2::r.2)) l
def qdk (ops:Array Oper) (fr:Fr) (A:Heap):Option (Fr×Heap):=
 ob (qhy P call ops ops.toList fr A) fun r=>zA (qam ops r.2) (some r.1) none
def qbr (ops:Array Oper) (draw:Bool) (s:St):Option St:=
 zA draw (qdk P call ops s.1 s.2) (qbC P call ops ops.toList s.1 s.2)
variable (N:Nat) (rd:Option Nat)
def qgC (n:Nat) (f:St->Option (XA×St)):St->Option (XA×St):=
 Nat.rec (motive:=fun _=>St->Option (XA×St)) (fun _=>none)
  (fun _ ih s=>ob (f s) fun r=>XA.rec (motive:=fun _=>Option (XA×St)) (ih r.2) (fun id=>some (.exit id,r.2)) (some (.ret,r.2)) r.1) n
def qdH (a:AV):Option Bool:=match a with
 | .bool b=>some b
 |_=>none
def xq (c:Code):St->Option (XA×St):=
 Code.rec (motive:=fun _=>St->Option (XA×St))
  (fun s=>some (.normal,s))
  (fun _ ops draw s=>ob (qbr P call ops draw s) fun r=>some (.normal,r))
  (fun _ _ iha ihb s=>ob (iha s) fun r=>XA.rec (motive:=fun _=>Option (XA×St)) (ihb r.2) (fun id=>some (.exit id,r.2)) (some (.ret,r.2)) r.1)
  (fun c _ _ iha ihb s=>ob (qdH (zF s.1 c)) fun b=>zA b (iha s) (ihb s))
  (fun id _ ih s=>ob (ih s) fun r=>XA.rec (motive:=fun _=>Option (XA×St)) (some (.normal,r.2)) (fun k=>zA (Nat.beq k id) (some (.normal,r.2)) (some (.exit k,r.2))) (some (.ret,r.2)) r.1)
  (fun _ ih s=>qgC N ih s)
  (fun g ps asg body _ _ s=>qI P call N rd (.rangeFunc g ps asg body) s)
  (fun id s=>some (.exit id,s))
  (fun _ ih s=>ih s)
  (fun _ s=>some (.normal,s))
  (fun _ _=>none)
  (fun s=>some (.ret,s))
  (fun _ _=>none) c
def qe6 (b:Nat) (args:List AV) (A:Heap):Option (AV×Heap):=
 match A[b]? with
 |some (.loop _ _ fr ps asg bd)=>
  if args.length=ps.size then
   match xq P call N (some b) asg (setAll fr ps.toList args,A)with
   |some (.normal,fr1,A1)=>match A1[b]? with
    |some (.loop .ready p1 f1 ps1 as1 bd1)=>qe1 b (xq P call N (some b) bd (fr1,A1.set b (.loop .busy p1 f1 ps1 as1 bd1)))
    |_=>none
   |_=>none
  else none
 |_=>none
def qeU (f:FuncId) (args:List AV) (A:Heap):Option (AV×Heap):=
 match P.funcs[f]? with
 |some fn=>
  if fn.name== "runtime.NumGoroutine" then none else
  match fn.body with
  |some c=>
   match xq P call N none c (frOf fn.ntmps args,A)with
   |some (.exit _,_)=>none
   |some (_,fr,A')=>(ky P fr A' fn.results.toList).map fun vs=>(qa2 vs,A')
   |none=>none
  |none=>none
 |none=>none
def qdI (c:Cl) (args:List AV) (A:Heap):Option (AV×Heap):=
 Cl.rec (motive:=fun _=>Option (AV×Heap)) (fun f=>qeU P call N f args A) (fun b=>qe6 P call N b args A) (fun _ _=>none) c
end
def qbR (P:Program) (call:qW) (N:Nat) (post:qW):qW:=fun c args A=>
 Option.rec (motive:=fun _=>Option (AV×Heap)) (qdI P call N c args A) some (post c args A)
def qda (mt:TypeId->String->Option FuncId) (c:Cl):Cl:=
 Cl.rec (motive:=fun _=>Cl) (fun f=> .fn f) (fun b=> .rd b) (fun t m=>Option.rec (motive:=fun _=>Cl) (.mt t m) (fun f=> .fn f) (mt t m)) c
def qgk (P:Program) (N:Nat) (mt:TypeId->String->Option FuncId) (pre post:qW) (pl:FuncId->Bool) (d:Nat):qW:=
 Nat.rec (motive:=fun _=>qW) pre (fun _ ih c args A=>Option.rec (motive:=fun _=>Option (AV×Heap)) (qd3 (qbR P ih N post) pl (qda mt c) args A) some (pre (qda mt c) args A)) d
section
variable {P:Program} {call call':qW} {N:Nat} {rd:Option Nat}
theorem qer (hc:Le call call') {o:Oper} {fr:Fr} {A:Heap} {r:AV×Heap×qO} (h:jE P call o fr A=some r):jE P call' o fr A=some r:=by
 unfold jE at h⊢
 split at h
 ·obtain⟨x,hx,he⟩:=Yd.1 h
  rw[hc _ _ _ _ hx]
  exact congrArg some he
 exact h
theorem qf5 (hc:Le call call') {o:Oper} {fr:Fr} {A:Heap} {r:AV×Heap×qO} (h:qb8 P call o fr A=some r):jE P call' o fr A=some r:=by
 unfold qb8 at h
 rw[qaJ,ku,qhx,qfk]at h
 unfold jE
 split at h
 ·cases hg:qU o (kw fr)with
  |none=>rw[hg]at h;exact h
  |some g=>
   rw[hg]at h
   obtain⟨x,hx,he⟩:=qY h
   obtain⟨g,args⟩:=g
   simp only[hc _ _ _ _ hx,ZM]
   exact he
 rename_i hn
 have:qU o (kw fr)=none:=by
  unfold qU
  cases ho:o.op<;>simp[ho,xS]at hn⊢
 rw[this]
 exact h
theorem qfQ (hc:Le call call') {ops:Array Oper}: ∀(l:List Oper) {fr:Fr} {A:Heap} {r:Fr×Heap},qbC P call ops l fr A=some r->y9 P call' ops l fr A=some r:=by
 intro l
 induction l with
 |nil=>intro fr A r h;exact h
 |cons o l ih=>
  intro fr A r h
  obtain⟨w,hw,h⟩:=qY (show ob (xB ops o fr) (fun w=>zA w (ob (qb8 P call o fr A) fun r=>qbC P call ops l (vN fr o.dst r.1) r.2.1) (qbC P call ops l (vN fr o.dst (.tuple [])) A))=some r from h)
  rw[qak]at hw
  simp only[y9,hw]
  cases w with
  |true=>
   obtain⟨x,hx,h⟩:=qY (show ob (qb8 P call o fr A) (fun r=>qbC P call ops l (vN fr o.dst r.1) r.2.1)=some r from h)
   obtain⟨v,A',f⟩:=x
   rw[jS]at h
   simp only[qf5 hc hx]
   exact ih h
  |false=>
   have h:qbC P call ops l (vN fr o.dst (.tuple [])) A=some r:=h
   rw[jS]at h
   exact ih h
theorem qei (hc:Le call call') {o:Oper} {fr:Fr} {A:Heap} {r:AV×Heap×Rec} (h:qaz P call o fr A=some r):qaz P call' o fr A=some r:=by
 unfold qaz at h⊢
 simp only at h⊢
 split at h
 ·rename_i hall
  rw[if_pos hall]
  split at h
  ·rename_i v B f hs
   rw[qer hc hs]
   exact h
  cases h
 cases h
theorem qdg {A B:Heap} (h:B.length=A.length):merge [] A B=A:=by
 refine List.ext_getElem? fun b=>?_
 rw[vV]
 rcases Nat.lt_or_ge b A.length with hb|hb
 ·rw[Ya (show b<B.length by omega),Ya hb]
  simp[hb,List.getD_eq_getElem?_getD]
 rw[Yg (by omega),Yg hb]
 rfl
theorem qf4 (hc:Le call call') {o:Oper} {fr:Fr} {A:Heap} {r:AV×Heap×Rec} (h:qdF P call o fr A=some r):qaz P call' o fr A=some r:=by
 unfold qdF at h
 rw[qaJ,qfk]at h
 rw[ku]at h
 split at h
 ·obtain⟨x,hx,h⟩:=qY h
  have hx':=qei hc hx
  rw[hx']
  rw[<-h]
  obtain⟨v,B,q⟩:=x
  simp only[ZI,ZP,true_and,and_true]
  rw[ku]
  split
  ·rename_i hb
   simp only[Bool.and_eq_true,zN]at hb
   obtain⟨h1,h2⟩:=hb
   have hlen:=Nat.eq_of_beq_eq_true h2
   unfold qaz at hx
   simp only at hx
   split at hx
   ·split at hx
    ·split at hx
     ·simp only[ZI,ZP]at hx
      obtain⟨_,h3,h4⟩:=hx
      rw[<-h4]at h1
      simp only[List.isEmpty_iff]at h1
      rw[h1]at h3
      rw[<-h3]at hlen⊢
      rw[jy]at hlen
      exact qdg hlen
     cases hx
    cases hx
   cases hx
  rfl
 rename_i hn
 rw[ku]at h
 split at h
 ·rename_i hall
  obtain⟨x,hx,h⟩:=qY h
  obtain⟨v,A',f⟩:=x
  have hnc:qU o (kw fr)=none:=by
   cases hg:qU o (kw fr)with
   |none=>rfl
   |some g=>
    exfalso
    apply hn
    rw[hg]
    unfold qU at hg
    cases ho:o.op<;>simp[ho,xS]at hg⊢
  simp only[zN]at hall hx h
  generalize hS:zR o (kw fr) A=S at hall hx h
  have hall2: ∀b∈S,b<A.length:=fun b hb=>Ys (Yp.1 hall b hb)
  obtain⟨M',h1,h2,h3,h4,h5⟩:=qa9 S A.length (aop P o (kw fr)) A (mask S A) [] v A' f (zy _ _) (Nat.le_refl _) (fun b hb=>by
   rw[yZ]
   rcases hb with hb|hb
   ·rw[Ya (hall2 b hb)]
    simp[hb]
   rw[Yg hb];rfl) hx
  have hm:merge S A M'=A':=by
   refine List.ext_getElem? fun b=>?_
   rw[vV]
   rcases Nat.lt_or_ge b A'.length with hb|hb
   ·rw[Ya (show b<M'.length by omega)]
    simp only[ZM]
    by_cases hc:b<A.length/\b∉S
    ·have e:(decide (b<A.length)&&!S.contains b)=true:=by simp[hc.1,hc.2]
     rw[if_pos e,h4 b hc.1 hc.2,Ya hc.1]
     simp[List.getD_eq_getElem?_getD,List.getElem?_eq_getElem hc.1]
    have e: ¬(decide (b<A.length)&&!S.contains b)=true:=by
     simp only[Bool.and_eq_true,decide_eq_true_eq,Bool.not_eq_true',List.contains_eq_mem]
     intro h
     exact hc ⟨h.1,by simpa using h.2⟩
    rw[if_neg e,<-h3 b (by
     rcases Nat.lt_or_ge b A.length with hlt|hge
     ·left
      exact Classical.byContradiction fun hs=>hc ⟨hlt,hs⟩
     exact .inr hge),Ya (show b<M'.length by omega)]
   rw[Yg (show M'.length<=b by omega),Yg hb]
   rfl
  have hall3:(S.all fun b=>decide (b<A.length))=true:=Yp.2 fun b hb=>decide_eq_true (hall2 b hb)
  unfold qaz
  simp only[hS,hall3,if_true]
  unfold jE
  simp only[hnc,h1,Option.isSome_none,Bool.false_and,Bool.or_false]
  have h0:A.length<=M'.length:=by omega
  rw[if_pos h0,hm,<-h,h2]
 cases h
theorem qfx (hc:Le call call') {ops:Array Oper} {j:Nat} {o:Oper} (ho:ops[j]? =some o) {fr:Fr} {A:Heap} {r:(Fr×Heap)×Rec} (h:qeL P call ops o fr A=some r):qac P call' ops j (fr,A)=some r:=by
 obtain⟨w,hw,h⟩:=qY h
 rw[qak]at hw
 simp only[qac,ho,hw]
 cases w with
 |true=>
  obtain⟨x,hx,h⟩:=qY (show ob (qdF P call o (maskF (qP ops o) fr) A) (fun r=>some ((vN fr o.dst r.1,r.2.1),r.2.2))=some r from h)
  obtain⟨v,B,q⟩:=x
  rw[jS]at h
  simp only[qf4 hc hx]
  exact h
 |false=>
  have h:some ((vN fr o.dst (.tuple []),A),(⟨[],false,hlen A,hlen A⟩:Rec))=some r:=h
  rw[jS,zN]at h
  exact h
theorem qge (hc:Le call call') {ops:Array Oper}: ∀(l pre:List Oper),ops.toList=pre++l-> ∀{fr:Fr} {A:Heap} {r:(Fr×Heap)×List Rec},qhy P call ops l fr A=some r->qa6 P call' ops l.length pre.length (fr,A)=some r:=by
 intro l
 induction l with
 |nil=>intro pre _ fr A r h;exact h
 |cons o l ih=>
  intro pre hp fr A r h
  obtain⟨q,hq,h⟩:=qY (show ob (qeL P call ops o fr A) (fun q=>ob (qhy P call ops l q.1.1 q.1.2) fun r=>some (r.1,q.2::r.2))=some r from h)
  obtain⟨x,hx,h⟩:=qY h
  have ho:ops[pre.length]? =some o:=by
   rw[<-YT,hp]
   simp
  obtain⟨⟨fr1,A1⟩,rc⟩:=q
  have h2:=ih (pre++[o]) (by simp[hp]) hx
  simp only[Yq,Yr,List.length_nil,Nat.zero_add]at h2
  simp only[Yr,qa6,qfx hc ho hq,h2,ZM]
  exact h
theorem qeh (hc:Le call call') {ops:Array Oper} {draw:Bool} {s r:St} (h:qbr P call ops draw s=some r):yC P call' ops draw s=some r:=by
 unfold qbr at h
 unfold yC
 cases draw with
 |true=>
  obtain⟨x,hx,h⟩:=qY (show qdk P call ops s.1 s.2=some r from h)
  have h2:=qge hc ops.toList [] rfl hx
  have hlen:ops.toList.length=ops.size:=by simp
  rw[hlen]at h2
  simp only[if_true,yR]
  rw[show qa6 P call' ops ops.size 0 (s.1,s.2)=some x from h2]
  obtain⟨x1,x2⟩:=x
  rw[ku]at h
  exact h
 |false=>
  simp only[ZF,if_false]
  exact qfQ hc _ h
theorem qg9 {f f':St->Option (XA×St)} (hf: ∀s r,f s=some r->f' s=some r): ∀(n:Nat) {s:St} {r:XA×St},qgC n f s=some r->qaZ n f' s=some r:=by
 intro n
 induction n with
 |zero=>intro s r h;cases h
 |succ n ih=>
  intro s r h
  obtain⟨x,hx,h⟩:=qY (show ob (f s) (fun r=>XA.rec (motive:=fun _=>Option (XA×St)) (qgC n f r.2) (fun id=>some (.exit id,r.2)) (some (.ret,r.2)) r.1)=some r from h)
  obtain⟨x1,x2⟩:=x
  simp only[qaZ,hf _ _ hx]
  cases x1 with
  |normal=>exact ih h
  |exit id=>exact h
  |ret=>exact h
theorem qeo {a:AV} {b:Bool} (h:qdH a=some b):a= .bool b:=by
 unfold qdH at h
 split at h
 ·injection h with h;rw[h]
 cases h
theorem qgJ (hc:Le call call'): ∀(c:Code) {s:St} {r:XA×St},qI P call N rd c s=some r->qI P call' N rd c s=some r:=by
 have regLe: ∀{ops:Array Oper} {draw:Bool} {s r:St},yC P call ops draw s=some r->yC P call' ops draw s=some r:=by
  intro ops draw s r h
  have hI: ∀{j:Nat} {s:Fr×Heap} {r:(Fr×Heap)×Rec},qac P call ops j s=some r->qac P call' ops j s=some r:=by
   intro j s r h
   unfold qac at h⊢
   split at h
   ·cases h
   rename_i o ho
   split at h
   ·split at h
    ·rename_i v A' q hs
     simp only[qei hc hs]
     exact h
    cases h
   ·exact h
   cases h
  have hL: ∀(l:List Oper) {fr:Fr} {A:Heap} {r:Fr×Heap},y9 P call ops l fr A=some r->y9 P call' ops l fr A=some r:=by
   intro l
   induction l with
   |nil=>intro fr A r h;exact h
   |cons o l ih=>
    intro fr A r h
    simp only[y9]at h⊢
    split at h
    ·split at h
     ·rename_i v A' f hs
      simp only[qer hc hs]
      exact ih h
     cases h
    ·exact ih h
    cases h
  have hR: ∀(m j:Nat) {s:Fr×Heap} {r:(Fr×Heap)×List Rec},qa6 P call ops m j s=some r->qa6 P call' ops m j s=some r:=by
   intro m
   induction m with
   |zero=>intro j s r h;exact h
   |succ m ih=>
    intro j s r h
    simp only[qa6]at h⊢
    split at h
    ·rename_i s' q hs
     simp only[hI hs]
     obtain⟨x,hx,he⟩:=Yd.1 h
     rw[ih _ hx]
     exact congrArg some he
    cases h
  unfold yC at h⊢
  split at h
  ·rename_i hd
   rw[if_pos hd]
   unfold yR at h⊢
   split at h
   ·rename_i x rs hs
    rw[hR _ _ hs]
    exact h
   cases h
  rename_i hd
  rw[if_neg hd]
  exact hL _ h
 intro c
 induction c with
 |region id ops draw=>
  intro s r h
  simp only[qI]at h⊢
  obtain⟨x,hx,he⟩:=Yd.1 h
  rw[regLe hx]
  exact congrArg some he
 |seq a b iha ihb=>
  intro s r h
  simp only[qI]at h⊢
  split at h
  ·rename_i s' hs
   rw[iha hs]
   exact ihb h
  rename_i r' hr
  cases hx:qI P call N rd a s with
  |none=>rw[hx]at h;cases h
  |some x=>
   rw[iha hx]
   rw[hx]at h
   obtain⟨x1,x2⟩:=x
   cases x1 with
   |normal=>exact absurd hx (hr x2)
   |exit id=>exact h
   |ret=>exact h
 |cond c a b iha ihb=>
  intro s r h
  simp only[qI]at h⊢
  split at h
  ·exact iha h
  ·exact ihb h
  cases h
 |block id b ih=>
  intro s r h
  simp only[qI]at h⊢
  cases hx:qI P call N rd b s with
  |none=>rw[hx]at h;cases h
  |some x=>
   rw[ih hx]
   rw[hx]at h
   exact h
 |loop b ih=>
  intro s r h
  simp only[qI]at h⊢
  have: ∀(n:Nat) {s:St} {r:XA×St},qaZ n (qI P call N rd b) s=some r->qaZ n (qI P call' N rd b) s=some r:=by
   intro n
   induction n with
   |zero=>intro s r h;cases h
   |succ n ihn=>
    intro s r h
    simp only[qaZ]at h⊢
    cases hx:qI P call N rd b s with
    |none=>rw[hx]at h;cases h
    |some x=>
     rw[ih hx]
     rw[hx]at h
     obtain⟨x1,x2⟩:=x
     cases x1 with
     |normal=>exact ihn h
     |exit id=>exact h
     |ret=>exact h
  exact this N h
 |scope b ih=>intro s r h;exact ih h
 |rangeFunc g ps asg body=>
  intro s r h
  simp only[qI]at h⊢
  split at h
  ·rename_i hok hg
   split at h
   ·cases h
   rename_i hent
   rw[if_neg hent]
   split at h
   ·rename_i v A2 hcall
    rw[hc _ _ _ _ hcall]
    exact h
   cases h
  cases h
 |_=>intro s r h;first|exact h|(simp[qI]at h⊢;done)|(simp only[qI]at h⊢;exact h)
theorem qbz (hc:Le call call'): ∀(c:Code) {s:St} {r:XA×St},xq P call N rd c s=some r->qI P call' N rd c s=some r:=by
 intro c
 induction c with
 |skip=>intro s r h;exact h
 |region id ops draw=>
  intro s r h
  obtain⟨x,hx,h⟩:=qY (show ob (qbr P call ops draw s) (fun r=>some (XA.normal,r))=some r from h)
  simp only[qI,qeh hc hx,ZM]
  exact h
 |seq a b iha ihb=>
  intro s r h
  obtain⟨x,hx,h⟩:=qY (show ob (xq P call N rd a s) (fun r=>XA.rec (motive:=fun _=>Option (XA×St)) (xq P call N rd b r.2) (fun id=>some (.exit id,r.2)) (some (.ret,r.2)) r.1)=some r from h)
  obtain⟨x1,x2⟩:=x
  simp only[qI,iha hx]
  cases x1 with
  |normal=>exact ihb h
  |exit id=>exact h
  |ret=>exact h
 |cond c a b iha ihb=>
  intro s r h
  obtain⟨x,hx,h⟩:=qY (show ob (qdH (zF s.1 c)) (fun t=>zA t (xq P call N rd a s) (xq P call N rd b s))=some r from h)
  rw[qaJ]at hx
  simp only[qI,qeo hx]
  cases x with
  |true=>exact iha h
  |false=>exact ihb h
 |block id b ih=>
  intro s r h
  obtain⟨x,hx,h⟩:=qY (show ob (xq P call N rd b s) (fun r=>XA.rec (motive:=fun _=>Option (XA×St)) (some (.normal,r.2)) (fun k=>zA (Nat.beq k id) (some (.normal,r.2)) (some (.exit k,r.2))) (some (.ret,r.2)) r.1)=some r from h)
  obtain⟨x1,x2⟩:=x
  simp only[qI,ih hx]
  cases x1 with
  |normal=>exact h
  |exit k=>
   have h:zA (Nat.beq k id) (some (XA.normal,x2)) (some (.exit k,x2))=some r:=h
   rw[ku]at h
   simp only
   by_cases e:k=id
   ·rw[if_pos e]
    rw[if_pos (qbp e)]at h
    exact h
   rw[if_neg e]
   rw[if_neg (by rw[qaK e];simp)]at h
   exact h
  |ret=>exact h
 |loop b ih=>
  intro s r h
  exact qg9 (fun s r h=>ih h) N h
 |scope b ih=>intro s r h;exact ih h
 |rangeFunc g ps asg body=>intro s r h;exact qgJ hc (.rangeFunc g ps asg body) h
 |exit id=>intro s r h;exact h
 |label l=>intro s r h;exact h
 |ret=>intro s r h;exact h
 |_=>intro s r h;cases h
theorem qew (hc:Le call call'):Le (qdI P call N) (qe2 P call' N):=by
 intro c args A r h
 cases c with
 |fn f=>
  have h:qeU P call N f args A=some r:=h
  show qd6 P call' N f args A=some r
  unfold qeU at h
  unfold qd6
  split at h
  ·rename_i fn hf
   rw[hf]
   simp only
   split at h
   ·cases h
   rename_i hn
   rw[if_neg hn]
   split at h
   ·rename_i c hb
    rw[hb]
    simp only
    cases hx:xq P call N none c (frOf _ args,A)with
    |none=>rw[hx]at h;cases h
    |some x=>
     rw[qbz hc c hx]
     rw[hx]at h
     exact h
   cases h
  cases h
 |mt t m=>cases h
 |rd b=>
  have h:qe6 P call N b args A=some r:=h
  show qeq P call' N b args A=some r
  unfold qe6 at h
  unfold qeq
  split at h
  ·rename_i hb
   rw[hb]
   simp only
   split at h
   ·rename_i hl
    rw[if_pos hl]
    split at h
    ·rename_i hx
     rw[qbz hc _ hx]
     simp only
     split at h
     ·rename_i hb2
      rw[hb2]
      simp only
      rename_i p1 f1 ps1 as1 bd1
      unfold qe1 at h
      split at h
      ·rename_i x fr2 A2 hy
       rw[qbz hc _ hy]
       exact h
      cases h
     cases h
    cases h
   cases h
  cases h
theorem qey (hm:P.follows .mixedOrders=true) (hc:qC P call):qC P (qdI P call N):=
 fun c args A v A' h=>qfP hm hc c args A v A' (qew (fun _ _ _ _ h=>h) c args A _ h)
theorem qeV (hm:P.follows .mixedOrders=true) (hc:qC P call) {post:qW} (hp:qC P post):qC P (qbR P call N post):=by
 intro c args A v A' h
 unfold qbR at h
 cases hx:post c args A with
 |some x=>
  rw[hx]at h
  have h:some x=some (v,A'):=h
  injection h with h
  subst h
  exact hp _ _ _ _ _ hx
 |none=>
  rw[hx]at h
  exact qey hm hc _ _ _ _ _ h
theorem qgx {mt:TypeId->String->Option FuncId} (hmt: ∀t m f,mt t m=some f->Enters P f/\MtOK P t m f) {c:Cl} {args:List AV} {A:Heap} {v:AV} {A':Heap} (h:qd P (qda mt c) args A v A'):qd P c args A v A':=by
 cases c with
 |fn f=>exact h
 |rd b=>exact h
 |mt t m=>
  have h:qd P (Option.rec (motive:=fun _=>Cl) (.mt t m) (fun f=> .fn f) (mt t m)) args A v A':=h
  cases hf:mt t m with
  |none=>rw[hf]at h;exact h
  |some f=>
   rw[hf]at h
   obtain⟨h1,h2⟩:=hmt t m f hf
   exact⟨f,h2,fun F nu w vs i hargs=>qd.calls (f:=f) h h1 i hargs⟩
theorem qg1 (hm:P.follows .mixedOrders=true) {mt:TypeId->String->Option FuncId} (hmt: ∀t m f,mt t m=some f->Enters P f/\MtOK P t m f) {pre post:qW} {pl:FuncId->Bool} (hp:qC P pre) (hq:qC P post): ∀d,qC P (qgk P N mt pre post pl d):=by
 intro d
 induction d with
 |zero=>exact hp
 |succ d ih=>
  intro c args A v A' h
  refine qgx hmt ?_
  have h:Option.rec (motive:=fun _=>Option (AV×Heap)) (qd3 (qbR P (qgk P N mt pre post pl d) N post) pl (qda mt c) args A) some (pre (qda mt c) args A)=some (v,A'):=h
  cases hx:pre (qda mt c) args A with
  |some x=>
   rw[hx]at h
   have h:some x=some (v,A'):=h
   injection h with h
   subst h
   exact hp _ _ _ _ _ hx
  |none=>
   rw[hx]at h
   exact qhv (qeV hm ih hq) pl _ _ _ _ _ h
def memo (l:List (FuncId×List AV×AV)):qW:=fun c args A=>
 Cl.rec (motive:=fun _=>Option (AV×Heap)) (fun f=>List.rec (motive:=fun _=>Option (AV×Heap))
  (List.rec (motive:=fun _=>Option (AV×Heap)) none (fun e _ ih=>zA (Nat.beq f e.1&&vP (vO 30) args e.2.1) (some (e.2.2,[])) ih) l) (fun _ _ _=>none) A) (fun _=>none) (fun _ _=>none) c
theorem qhT: ∀{l:List (FuncId×List AV×AV)},(∀e∈l,qd P (.fn e.1) e.2.1 [] e.2.2 [])->qC P (memo l):=by
 intro l
 induction l with
 |nil=>
  intro _ c args A v A' h
  cases c with
  |rd b=>cases h
  |mt t m=>cases h
  |fn f=>
   cases A with
   |nil=>cases h
   |cons x A=>cases h
 |cons e l ih=>
  intro hl c args A v A' h
  cases c with
  |rd b=>cases h
  |mt t m=>cases h
  |fn f=>
   cases A with
   |cons x A=>cases h
   |nil=>
    have h:zA (Nat.beq f e.1&&vP (vO 30) args e.2.1) (some (e.2.2,[])) (memo l (.fn f) args [])=some (v,A'):=h
    rw[ku]at h
    split at h
    ·rename_i hb
     simp only[Bool.and_eq_true]at hb
     have e1:=Nat.eq_of_beq_eq_true hb.1
     have e2:=qbl (qcK 30) _ _ hb.2
     simp only[ZI,ZP]at h
     obtain⟨rfl,rfl⟩:=h
     subst e1 e2
     exact hl e (by simp)
    exact ih (fun e he=>hl e (by simp[he])) _ _ _ _ _ h
end
end Go.Av
end
noncomputable section
namespace Go.Av
variable [Glob]
open Go.RowKit
class Base where
 nu:Nat->Option Nat
 A:Heap
 fresh: ∀b,A.length<=b->nu b=none
 rd:Option Nat
 rr:Option Nat
 hrd:qez rd rr nu
@[instance_reducible] def Base.zero:Base:=⟨fun _=>none,[],fun _ _=>rfl,none,none,trivial⟩
instance (priority:=low) instBaseZero:Base:=Base.zero
def Goes [Base] (P:Program) (c:Code) (s:St) (Q:XA->St->Prop):Prop:=
 ∀(F0:Nat->Prop) (w0:World) (n:Nat) (F:Nat->Prop) (nu:Nat->Option Nat) (a:Act) (w:World),
  Stp F0 Base.nu Base.A w0 F nu s.2 w->RF F nu w s.1 a.tmps->Dfr w0.heap.size F nu s.2 w a.defers->
  ∀K:Exit->Act->World->Prop,(∀x s' F' nu' a' w',Q x s'->Stp F0 Base.nu Base.A w0 F' nu' s'.2 w'->RF F' nu' w' s'.1 a'.tmps->Dfr w0.heap.size F' nu' s'.2 w' a'.defers->K (qcd x) a' w')->
  c.wpIn (fz Base.rr) n P K a w
section
variable [Base] {P:Program} {call:qW} {N:Nat} {c c1 c2:Code} {s:St} {Q:XA->St->Prop}
theorem Goes.eval (hm:P.follows .mixedOrders=true) (hc:qC P call) {x:XA} {s':St} (h:qI P call N Base.rd c s=some (x,s')) (hq:Q x s'):Goes P c s Q:=by
 intro F0 w0 n F nu a w st hf hd K hK
 obtain⟨fr,A⟩:=s
 obtain⟨fr',A'⟩:=s'
 exact qay (rd:=Base.rd) (rr:=Base.rr) (base:=w0.heap.size) hc hm c st.inv hf (Base.hrd.step st) hd st.size h (fun F' nu' w' a' hd' st' hf'=>hK x _ F' nu' a' w' hq (st.trans st') hf' hd')
theorem Goes.imp {Q':XA->St->Prop} (h:Goes P c s Q) (hq: ∀x s',Q x s'->Q' x s'):Goes P c s Q':=
 fun F0 w0 n F nu a w st hf hd K hK=>h F0 w0 n F nu a w st hf hd K (fun x s' F' nu' a' w' q=>hK x s' F' nu' a' w' (hq x s' q))
theorem Goes.skip (h:Q .normal s):Goes P .skip s Q:=fun _ _ _ F nu a w st hf hd _ hK=>wpIn_skip (hK .normal s F nu a w h st hf hd)
theorem Goes.label {l:Nat} (h:Q .normal s):Goes P (.label l) s Q:=fun _ _ _ F nu a w st hf hd _ hK=>wpIn_label (hK .normal s F nu a w h st hf hd)
theorem Goes.exit {id:Nat} (h:Q (.exit id) s):Goes P (.exit id) s Q:=fun _ _ _ F nu a w st hf hd _ hK=>wpIn_exit (hK (.exit id) s F nu a w h st hf hd)
theorem Goes.ret (h:Q .ret s):Goes P .ret s Q:=fun _ _ _ F nu a w st hf hd _ hK=>wpIn_ret (hK .ret s F nu a w h st hf hd)
def andThen (k:St->Prop) (Q:XA->St->Prop):XA->St->Prop
 | .normal,s=>k s
 |x,s=>Q x s
theorem Goes.seq (h:Goes P c1 s (andThen (fun s'=>Goes P c2 s' Q) Q)):Goes P (.seq c1 c2) s Q:=by
 intro F0 w0 n F nu a w st hf hd K hK
 refine wpIn_seq (h F0 w0 n F nu a w st hf hd _ (fun x s' F' nu' a' w' q st' hf' hd'=>?_))
 cases x with
 |normal=>exact q F0 w0 n F' nu' a' w' st' hf' hd' K hK
 |exit id=>exact hK (.exit id) s' F' nu' a' w' q st' hf' hd'
 |ret=>exact hK .ret s' F' nu' a' w' q st' hf' hd'
theorem Goes.cond {co:Operand} {b:Bool} (hv:kw s.1 co= .bool b) (ht:b=true->Goes P c1 s Q) (hf:b=false->Goes P c2 s Q):Goes P (.cond co c1 c2) s Q:=by
 intro F0 w0 n F nu a w st hfr hd K hK
 have hv2:=hfr.eval st.inv.glob co
 rw[hv]at hv2
 have hb:a.eval co= .bool b:=by
  generalize a.eval co=z at hv2
  cases hv2
  rfl
 cases b with
 |true=>exact wpIn_cond_true hb (ht rfl F0 w0 n F nu a w st hfr hd K hK)
 |false=>exact wpIn_cond_false hb (hf rfl F0 w0 n F nu a w st hfr hd K hK)
def qfa (id:Nat) (Q:XA->St->Prop):XA->St->Prop
 | .exit k,s=>if k=id then Q .normal s else Q (.exit k) s
 |x,s=>Q x s
theorem Goes.block {id:Nat} (h:Goes P c s (qfa id Q)):Goes P (.block id c) s Q:=by
 intro F0 w0 n F nu a w st hf hd K hK
 refine wpIn_block (h F0 w0 n F nu a w st hf hd _ (fun x s' F' nu' a' w' q st' hf' hd'=>?_))
 cases x with
 |normal=>exact hK .normal s' F' nu' a' w' q st' hf' hd'
 |ret=>exact hK .ret s' F' nu' a' w' q st' hf' hd'
 |exit k=>
  simp only[qcd,Exit.inBlock]
  simp only[qfa]at q
  split at q
  ·rename_i e
   rw[if_pos e]
   exact hK .normal s' F' nu' a' w' q st' hf' hd'
  rename_i e
  rw[if_neg e]
  exact hK (.exit k) s' F' nu' a' w' q st' hf' hd'
theorem Goes.scope (h:Goes P c s Q):Goes P (.scope c) s Q:=by
 intro F0 w0 n F nu a w st hf hd K hK
 refine yu (h F0 w0 n F nu a w st hf hd _ (fun x s' F' nu' a' w' q st' hf' hd'=>?_))
 have:=hK x s' F' nu' a' w' q st' hf' hd'
 cases x<;>exact this
theorem Goes.loop (I:Nat->St->Prop) (hstep: ∀m s,I m s->Goes P c s (andThen (fun s'=> ∃m',m'<m/\I m' s') Q)) {m:Nat} (h0:I m s):Goes P (.loop c) s Q:=by
 intro F0 w0 n F nu a w st hf hd K hK
 have key: ∀(m:Nat) (s:St),I m s-> ∀(F:Nat->Prop) (nu:Nat->Option Nat) (a:Act) (w:World),Stp F0 Base.nu Base.A w0 F nu s.2 w->RF F nu w s.1 a.tmps->Dfr w0.heap.size F nu s.2 w a.defers->
  ∀(b:Frame) (k:List Item) (cs:List Frame),b.roundOf=(fz Base.rr).round->(fz Base.rr).fn b.fn->(fz Base.rr).room (cs.length+1+n)->
  ∃e a₂ w₂,K e a₂ w₂/\ArrivesIn (Machine.fenced P (fz Base.rr)) P (lone (b.atR a (.code c:: .inLoop c::k)) cs w) b k cs e a₂ w₂:=by
  intro m
  induction m using Nat.strongRecOn with
  |_ m ih=>
   intro s hI F nu a w st hf hd b k cs hro hb hr
   refine xE ?_ b k cs hro hb hr
   refine hstep m s hI F0 w0 n F nu a w st hf hd _ (fun x s' F' nu' a' w' q st' hf' hd'=>?_)
   cases x with
   |normal=>
    obtain⟨m',hlt,hI'⟩:=q
    exact ih m' hlt s' hI' F' nu' a' w' st' hf' hd'
   |exit id=>exact hK (.exit id) s' F' nu' a' w' q st' hf' hd'
   |ret=>exact hK .ret s' F' nu' a' w' q st' hf' hd'
 intro b k cs hro hb hr
 obtain⟨e,a₂,w₂,hq2,harr⟩:=key m s h0 F nu a w st hf hd b k cs hro hb hr
 exact⟨e,a₂,w₂,hq2,.of_steps (.one (fenced_calm hb hr rfl) stepR_loop) harr⟩
def Ops (P:Program) (call:qW) (ops:Array Oper) (l:List Oper) (fr:Fr) (A:Heap) (K:Fr->Heap->Prop):Prop:=
 ∃fr' A',y9 P call ops l fr A=some (fr',A')/\K fr' A'
variable {ops:Array Oper} {l:List Oper} {fr:Fr} {A:Heap} {K:Fr->Heap->Prop}
theorem Ops.nil (h:K fr A):Ops P call ops [] fr A K:=⟨fr,A,rfl,h⟩
theorem Ops.step {o:Oper} (hw:zL ops o fr=some true) {v:AV} {A':Heap} {f:qO} (hs:jE P call o fr A=some (v,A',f)) (h:Ops P call ops l (vR fr o.dst v) A' K):Ops P call ops (o::l) fr A K:=by
 obtain⟨fr2,A2,h1,h2⟩:=h
 exact⟨fr2,A2,by simp only[y9,hw,hs,h1],h2⟩
theorem Ops.off {o:Oper} (hw:zL ops o fr=some false) (h:Ops P call ops l (vR fr o.dst (.tuple [])) A K):Ops P call ops (o::l) fr A K:=by
 obtain⟨fr2,A2,h1,h2⟩:=h
 exact⟨fr2,A2,by simp only[y9,hw,h1],h2⟩
theorem Goes.region (hm:P.follows .mixedOrders=true) (hc:qC P call) {id:Nat} (h:Ops P call ops ops.toList s.1 s.2 fun fr A=>Q .normal (fr,A)):Goes P (.region id ops false) s Q:=by
 obtain⟨fr',A',h1,h2⟩:=h
 refine Goes.eval (N:=0) (x:= .normal) (s':=(fr',A')) hm hc ?_ h2
 simp[qI,yC,h1]
theorem Goes.draw (hm:P.follows .mixedOrders=true) (hc:qC P call) {id:Nat} {s':St} (h:yR P call ops s.1 s.2=some s') (hq:Q .normal s'):Goes P (.region id ops true) s Q:=by
 refine Goes.eval (N:=0) (x:= .normal) (s':=s') hm hc ?_ hq
 simp[qI,yC,h]
theorem Uj (n:Nat) (g:Nat->AV) (t:Nat):(Fr.fn n g).get t=if t<n then g t else .undef:=by
 simp only[Fr.get]
 by_cases h:t<n
 ·rw[if_pos h,show Nat.blt t n=true from Nat.ble_eq_true_of_le h];rfl
 rw[if_neg h,yK (by omega)];rfl
theorem qbf (g:Nat->AV) (t:Nat) (a:AV) (u:Nat):qbm g t a u=if u=t then a else g u:=by
 unfold qbm
 by_cases h:u=t
 ·rw[if_pos h,qbp h];rfl
 rw[if_neg h,qaK h];rfl
theorem qeK {o:Oper} {v:AV} (hn:qU o (kw fr)=none) (h:aop P o (kw fr)= .done v):jE P call o fr A=some (v,A,[]):=by
 unfold jE
 rw[hn,h]
 rfl
def qe0 (P:Program) (ops:Array Oper) (l:List Oper) (fr:Fr) (K:Fr->Prop):Prop:=
 match l with
 |[]=>K fr
 |o::l=>(zL ops o (maskF (qP ops o) fr)=some false/\qe0 P ops l (vR fr o.dst (.tuple [])) K)\/
  (zL ops o (maskF (qP ops o) fr)=some true/\qU o (kw (maskF (qP ops o) fr))=none/\(∀A,zR o (kw (maskF (qP ops o) fr)) A=[])/\ ∃v,aop P o (kw (maskF (qP ops o) fr))= .done v/\qe0 P ops l (vR fr o.dst v) K)
theorem qe0.run: ∀(l pre:List Oper),ops.toList=pre++l-> ∀{fr:Fr} {K:Fr->Prop},qe0 P ops l fr K->
 ∃fr' rs,qa6 P call ops l.length pre.length (fr,A)=some ((fr',A),rs)/\(∀r∈rs,r.fp=[])/\K fr':=by
 intro l
 induction l with
 |nil=>intro pre _ fr K h;exact⟨fr,[],rfl,by simp,h⟩
 |cons o l ih=>
  intro pre hp fr K h
  have ho:ops[pre.length]? =some o:=by
   rw[<-YT,hp]
   simp
  have hp':ops.toList=(pre++[o])++l:=by simp[hp]
  rcases h with⟨hw,h⟩|⟨hw,hn,hf,v,hv,h⟩
  ·obtain⟨fr',rs,h1,h2,h3⟩:=ih (pre++[o]) hp' h
   simp only[Yq,Yr,List.length_nil,Nat.zero_add]at h1
   refine⟨fr',⟨[],false,A.length,A.length⟩::rs,?_,?_,h3⟩
   ·simp only[Yr,qa6,qac,ho,hw,h1,ZM]
   intro r hr
   rcases List.mem_cons.1 hr with rfl|hr
   ·rfl
   exact h2 r hr
  obtain⟨fr',rs,h1,h2,h3⟩:=ih (pre++[o]) hp' h
  simp only[Yq,Yr,List.length_nil,Nat.zero_add]at h1
  have hs:qaz P call o (maskF (qP ops o) fr) A=some (v,A,⟨[],false,A.length,A.length⟩):=by
   unfold qaz
   simp only[hf,hn,List.all_nil,if_true]
   rw[qeK hn hv]
   have hl:A.length<=(mask [] A).length:=by rw[zy];exact Nat.le_refl _
   simp only[hl,if_true,List.any_nil,Option.isSome_none,Bool.false_and,Bool.or_false]
   rw[qdg (zy _ _),zy]
  refine⟨fr',⟨[],false,A.length,A.length⟩::rs,?_,?_,h3⟩
  ·simp only[Yr,qa6,qac,ho,hw,hs,h1,ZM]
  intro r hr
  rcases List.mem_cons.1 hr with rfl|hr
  ·rfl
  exact h2 r hr
theorem qfZ {ms:List Nat} {rs:List Rec} (h: ∀r∈rs,r.fp=[]):qg3 ms rs.zipIdx=true:=by
 refine Yp.2 fun q hq=>?_
 have:q.1∈rs:=by
  have:=List.mem_zipIdx_iff_getElem?.1 (show(q.1,q.2)∈rs.zipIdx from hq)
  exact Yn this
 rw[h q.1 this]
 rfl
theorem Goes.look (hm:P.follows .mixedOrders=true) {id:Nat} (hs:qdM ops=true) (h:qe0 P ops ops.toList s.1 fun fr=>Q .normal (fr,s.2)):Goes P (.region id ops true) s Q:=by
 obtain⟨fr',rs,h1,h2,h3⟩:=qe0.run (call:=qbc) (A:=s.2) ops.toList [] rfl h
 refine Goes.draw (call:=qbc) (s':=(fr',s.2)) hm qch ?_ h3
 have hlen:ops.toList.length=ops.size:=by simp
 rw[hlen]at h1
 unfold yR
 rw[show qa6 P qbc ops ops.size 0 (s.1,s.2)=some ((fr',s.2),rs)from h1]
 simp only[qam,hs,qfZ h2,Bool.and_self,if_true]
def qcv:List AV->Nat->(Nat->AV)->Nat->AV
 |[],_,g=>g
 |a::as,k,g=>qcv as (k+1) (qbm g k a)
theorem qdb: ∀(as:List AV) (k:Nat) (g:Nat->AV) (j:Nat),(j<k\/k+as.length<=j->qcv as k g j=g j)/\(k<=j-> ∀a,as[j-k]? =some a->qcv as k g j=a):=by
 intro as
 induction as with
 |nil=>intro k g j;exact⟨fun _=>rfl,fun _ a h=>by simp at h⟩
 |cons a as ih=>
  intro k g j
  obtain⟨h1,h2⟩:=ih (k+1) (qbm g k a) j
  simp only[qcv]
  refine⟨fun h=>?_,fun h b hb=>?_⟩
  ·have hj:j<k\/k+(as.length+1)<=j:=by simpa using h
   rw[h1 (by omega)]
   simp only[qbm,qaK (show j≠k by omega),cond_false]
  rcases Nat.lt_or_ge k j with hk|hk
  ·have e:j-k=(j-(k+1))+1:=by omega
   rw[e]at hb
   exact h2 (by omega) b (by simpa using hb)
  have e:j=k:=by omega
  subst e
  rw[Nat.sub_self]at hb
  simp only[List.getElem?_cons_zero,ZI]at hb
  subst hb
  rw[h1 (.inl (by omega))]
  simp only[qbm,qbp rfl,cond_true]
def frFn (n:Nat) (args:List AV):Fr:= .fn n (qcv args 0 fun _=> .undef)
theorem RF.frFn {F:Nat->Prop} {nu:Nat->Option Nat} {w:World} {args:List AV} {vs:Array Value} {n m:Nat} (hm:args.length+(n-args.length)=m) (h:RL F nu w args vs):RF F nu w (frFn m args) (vs++Array.replicate (n-vs.size) undef):=by
 have hs:=h.1
 refine⟨by simp[Go.Av.frFn,Fr.n,hs,hm],fun t v hv=>?_,fun t ht=>?_⟩
 ·have hlt:t<m:=by
   have:=(YB.1 hv).1
   simp[hs]at this
   omega
  have hb:Nat.blt t m=true:=Nat.ble_eq_true_of_le hlt
  show R F nu w (cond (Nat.blt t m) (qcv args 0 (fun _=> .undef) t) .undef) v
  rw[hb,cond_true]
  rcases Nat.lt_or_ge t args.length with h1|h1
  ·rw[YC (by omega)]at hv
   rw[(qdb args 0 _ t).2 (Nat.zero_le _) args[t] (by simp[h1])]
   exact h.2 t _ v (Ya h1) hv
  rw[(qdb args 0 _ t).1 (by omega)]
  exact .undef v
 simp only[Go.Av.frFn,Fr.n]at ht
 show cond (Nat.blt t m) (qcv args 0 (fun _=> .undef) t) AV.undef=AV.undef
 rw[yK ht]
 rfl
end
section
variable {P:Program} {c:Code}
def returns (P:Program) (rs:List ResultVar) (v:AV):XA->St->Prop
 | .exit _,_=>False
 |_,s=> ∃xs,ky P s.1 s.2 rs=some xs/\frz s.2 (List.range s.2.length) 12 (qa2 xs)=some v
theorem Stp.hand {F F2:Nat->Prop} {nu2:Nat->Option Nat} {w w':World} {Al:Heap} (st:Stp F (fun _=>none) [] w F2 nu2 Al w'):Stp F (fun _=>none) [] w (FS F2 nu2 Al (List.range Al.length)) (fun _=>none) [] w':=by
 have noOwn: ∀rb,¬vZ (fun _=>none) [] rb:=by
  rintro rb ⟨b,x,hb,_⟩
  cases hb
 have hF3: ∀rb,rb<w.heap.size->FS F2 nu2 Al (List.range Al.length) rb->F rb:=by
  rintro rb hlt (h1|⟨b,x,_,h1,h2,h3⟩)
  ·rcases st.newF rb h1 with h2|h2|h2
   ·exact h2
   ·omega
   exact absurd h2 (noOwn rb)
  exact absurd (st.own rb hlt ⟨b,x,h1,h2,h3⟩) (noOwn rb)
 refine⟨fun rb h=> .inl (st.f rb h),fun _ _ h=>h,st.shape,⟨by simp,by simp,fun _ _=>rfl,fun rb h=>?_,by simp,Glob.mono st.inv.glob (fun _ h=> .inl h) fun _ _=>rfl⟩,fun rb hlt _=>st.keep rb hlt (noOwn rb),?_,st.size,st.os,st.tape,st.output,fun _ _=>rfl,Nat.le_refl _,fun rb h=>?_⟩
 ·rcases h with h|⟨b,x,_,h,_⟩
  ·exact st.inv.ltF rb h
  exact st.inv.ltN b rb h
 ·rintro rb _ ⟨b,x,hb,_⟩
  cases hb
 rcases Nat.lt_or_ge rb w.heap.size with hlt|hge
 ·exact .inl (hF3 rb hlt h)
 exact .inr (.inl hge)
theorem Goes.fn {f:FuncId} {fn:Func} {args:List AV} {v:AV} {m:Nat} {rs:List ResultVar} (hf:P.funcs[f]? =some fn) (hn:(fn.name== "runtime.NumGoroutine")=false) (hb:fn.body=some c) (hm:args.length+(fn.ntmps-args.length)=m) (hr:fn.results.toList=rs) (h:Goes P c (frFn m args,[]) (returns P rs v)):
 qd P (.fn f) args [] v []:=by
 intro F nu w vs i hargs
 have hnu:nu=fun _=>none:=funext fun b=>i.fresh b (Nat.zero_le _)
 subst hnu
 subst hr
 refine .inl ⟨⟨fn,hf,hn,by rw[hb];rfl⟩,?_⟩
 refine(callsIn_wide (n:=0)).1 ?_
 refine callsIn_of_wp_marks hf hb trivial ?_
 refine h F w 0 F (fun _=>none) _ w (.refl i) (RF.frFn hm hargs) .nil _ (fun x s' F' nu' a' w' q st hfr hd=>?_)
 have post: ∀xs,ky P s'.1 s'.2 fn.results.toList=some xs->frz s'.2 (List.range s'.2.length) 12 (qa2 xs)=some v->
  LeavesInM (fz none) 0 P fn a'.tmps (fun e w'=> ∃x F' nu',e= .returned x/\Stp F (fun _=>none) [] w F' nu' [] w'/\R F' nu' w' v x) a'.defers .returning w':=by
  intro xs hrs hv
  refine qaO hrs a'.defers st hfr hd (fun F2 nu2 w2 y st2 hR=>?_)
  exact⟨y,_,_,rfl,st2.hand,qbo st2.inv 12 hv hR⟩
 cases x with
 |normal=>obtain⟨xs,h1,h2⟩:=q;exact post xs h1 h2
 |ret=>obtain⟨xs,h1,h2⟩:=q;exact post xs h1 h2
 |exit k=>exact q.elim
end
end Go.Av
end
noncomputable section
namespace Go.Av
variable [Glob]
section
variable {P:Program} {call:qW} {fr:Fr} {A:Heap} {d:Option Tmp} {ty:TypeId} {ps:String} {af:Array Edge} {g:Option (Nat×Bool)}
end
section
variable {P:Program} {call:qW} {ops:Array Oper} {l:List Oper} {fr:Fr} {A:Heap} {s:St} {Q:XA->St->Prop}
def qem (P:Program) (o:Oper) (ρ:Operand->AV):Option AV:=
 match qU o ρ with
 |some _=>none
 |none=>match zR o ρ []with
  |[]=>match aop P o ρ with
   | .done v=>some v
   |_=>none
  |_=>none
theorem qeP {o:Oper} {ρ:Operand->AV} (h:qU o ρ=none) (A:Heap):zR o ρ A=zR o ρ []:=by
 unfold zR
 rw[h]
theorem qeA {o:Oper} {ρ:Operand->AV} {v:AV} (h:qem P o ρ=some v):qU o ρ=none/\(∀A,zR o ρ A=[])/\aop P o ρ= .done v:=by
 unfold qem at h
 split at h
 ·cases h
 rename_i hn
 split at h
 ·rename_i hf
  split at h
  ·rename_i hv
   injection h with h
   subst h
   exact⟨hn,fun A=>(qeP hn A).trans hf,hv⟩
  cases h
 cases h
def qfe (o:Oper) (fr:Fr) (k:Fr->Prop):Option Bool->Option AV->Prop
 |some true,some v=>k (vR fr o.dst v)
 |some false,_=>k (vR fr o.dst (.tuple []))
 |_,_=>False
def Looks (P:Program) (ops:Array Oper):List Oper->Fr->(Fr->Prop)->Prop
 |[],fr,K=>K fr
 |o::l,fr,K=>qfe o fr (fun fr'=>Looks P ops l fr' K) (zL ops o (maskF (qP ops o) fr)) (qem P o (kw (maskF (qP ops o) fr)))
theorem Looks.look: ∀(l:List Oper) {fr:Fr} {K:Fr->Prop},Looks P ops l fr K->qe0 P ops l fr K:=by
 intro l
 induction l with
 |nil=>intro fr K h;exact h
 |cons o l ih=>
  intro fr K h
  have h:qfe o fr (fun fr'=>Looks P ops l fr' K) (zL ops o (maskF (qP ops o) fr)) (qem P o (kw (maskF (qP ops o) fr))):=h
  cases hw:zL ops o (maskF (qP ops o) fr)with
  |none=>rw[hw]at h;exact h.elim
  |some w=>
   rw[hw]at h
   cases w with
   |false=>exact .inl ⟨hw,ih h⟩
   |true=>
    cases hv:qem P o (kw (maskF (qP ops o) fr))with
    |none=>rw[hv]at h;exact h.elim
    |some v=>
     rw[hv]at h
     obtain⟨h1,h2,h3⟩:=qeA hv
     exact .inr ⟨hw,h1,h2,v,h3,ih h⟩
end
section
variable {P:Program} {d:Option Tmp} {ty:TypeId} {ps:String} {af:Array Edge} {g:Option (Nat×Bool)} {ρ:Operand->AV}
end
def Still (d:Nat) (a:AV):Prop:= ∀(A:Heap) (S:List Nat),frz A S d a=some a
theorem zG {A:Heap} {S:List Nat} {d:Nat}: ∀{cs:List AV},(∀c∈cs,Still d c)->cs.mapM (frz A S d)=some cs:=by
 intro cs
 induction cs with
 |nil=>intro _;rfl
 |cons c cs ih=>
  intro h
  rw[List.mapM_cons,h c (by simp) A S,ih fun x hx=>h x (by simp[hx])]
  rfl
theorem Still.int (d:Nat) (k:IntKind) (n:Int):Still (d+1) (.int k n):=fun _ _=>rfl
theorem Still.bool (d:Nat) (b:Bool):Still (d+1) (.bool b):=fun _ _=>rfl
theorem Still.str (d:Nat) (b:List UInt8):Still (d+1) (.str b):=fun _ _=>rfl
theorem Still.nilslice (d:Nat):Still (d+1) .nilslice:=fun _ _=>rfl
theorem Still.fslice {d n:Nat} {cs:List AV} (h: ∀c∈cs,Still d c):Still (d+1) (.fslice n cs):=fun A S=>by
 simp only[frz,zG h,ZM]
theorem Still.agg {d:Nat} {cs:List AV} (h: ∀c∈cs,Still d c):Still (d+1) (.agg cs):=fun A S=>by
 simp only[frz,zG h,ZM]
theorem Still.tuple {d:Nat} {cs:List AV} (h: ∀c∈cs,Still d c):Still (d+1) (.tuple cs):=fun A S=>by
 simp only[frz,zG h,ZM]
end Go.Av
end
