/-
  The evaluator once more, told by recursors, so that the kernel has few steps to go; where it tells something, callP tells the same.
-/
import Derived.Test.YtkdbjocpkfeckaaGreatDoorAvFn
import Derived.IntWalk
set_option linter.unusedSectionVars false
noncomputable section
namespace Go.Av
variable [Glob]
def ob {α β:Type} (x:Option α) (k:α->Option β):Option β:=Option.rec (motive:=fun _=>Option β) none k x
theorem jc {α β:Type} {x:Option α} {k:α->Option β} {r:β} (h:ob x k=some r): ∃a,x=some a/\k a=some r:=by
 cases x with
 |none=>cases h
 |some a=>exact⟨a,rfl,h⟩
def jD {α:Type} (b:Bool) (x y:α):α:=Bool.rec (motive:=fun _=>α) y x b
theorem zP {α:Type} (b:Bool) (x y:α):jD b x y=if b=true then x else y:=by cases b<;>rfl
def hget (A:Heap):Nat->Option Blk:=
 List.rec (motive:=fun _=>Nat->Option Blk) (fun _=>none) (fun x _ ih b=>Nat.rec (motive:=fun _=>Option Blk) (some x) (fun n _=>ih n) b) A
theorem qhm: ∀(A:Heap) (b:Nat),hget A b=A[b]? :=by
 intro A
 induction A with
 |nil=>intro b;rfl
 |cons x A ih=>
  intro b
  cases b with
  |zero=>rfl
  |succ b=>exact(ih b).trans (by simp)
def hset (A:Heap):Nat->Blk->Heap:=
 List.rec (motive:=fun _=>Nat->Blk->Heap) (fun _ _=>[]) (fun y ys ih b x=>Nat.rec (motive:=fun _=>Heap) (x::ys) (fun n _=>y::ih n x) b) A
theorem qhg: ∀(A:Heap) (b:Nat) (x:Blk),hset A b x=A.set b x:=by
 intro A
 induction A with
 |nil=>intro b x;rfl
 |cons y A ih=>
  intro b x
  cases b with
  |zero=>rfl
  |succ b=>exact congrArg (y:: ·) (ih b x)
def happ (A:Heap) (x:Blk):Heap:=List.rec (motive:=fun _=>Heap) [x] (fun y _ ih=>y::ih) A
theorem qhD: ∀(A:Heap) (x:Blk),happ A x=A++[x]:=by
 intro A
 induction A with
 |nil=>intro x;rfl
 |cons y A ih=>intro x;exact congrArg (y:: ·) (ih x)
def hlen (A:Heap):Nat:=List.rec (motive:=fun _=>Nat) 0 (fun _ _ ih=>Nat.succ ih) A
theorem vO: ∀(A:Heap),hlen A=A.length:=by
 intro A
 induction A with
 |nil=>rfl
 |cons y A ih=>exact congrArg Nat.succ ih
def qpP (v:Value):AV:=
 match v with
 | .int k n=> .int k n
 | .bool b=> .bool b
 |v=>qbT 3 v
theorem qoS (v:Value):qpP v=qbT 3 v:=by cases v<;>rfl
def vw (fr:Fr) (x:Operand):AV:=
 Operand.rec (motive:=fun _=>AV) (fun t=>fr.get t) (fun v=>qpP v) (fun g=>Glob.gl g) (fun f=> .func (.func f) [] []) x
theorem qe3 (fr:Fr):vw fr=jA fr:=by
 funext x
 cases x with
 |const v=>exact qoS v
 |_=>rfl
def qk6 {β:Type} (a:AV) (k:IntKind->Int->Option β):Option β:=
 AV.rec (motive_1:=fun _=>Option β) (motive_2:=fun _=>Unit) none (fun _=>none) k (fun _=>none) none (fun _ _=>none) (fun _ _ _=>none) none (fun _ _ _ _ _=>none) (fun _ _ _=>none) (fun _ _ _=>none) (fun _ _ _ _=>none) (fun _ _ _=>none) none (fun _=>none)
  (fun _ _ _ _=>none) (fun _ _ _ _ _=>none) (fun _=>none) none (fun _ _ _=>none) none (fun _ _=>none) (fun _ _=>none) none () (fun _ _ _ _=>()) a
theorem qhO {β:Type} {a:AV} {k:IntKind->Int->Option β} {r:β} (h:qk6 a k=some r): ∃q n,a= .int q n/\k q n=some r:=by
 cases a<;>first|exact⟨_,_,rfl,h⟩|cases h
def ql7 {β:Type} (k:IntKind) (x:Option β):Option β:=IntKind.rec (motive:=fun _=>Option β) none none none x none none none none k
def qrd (n:Int):Int:=
 Int.rec (motive:=fun _=>Int) (fun m=>jD (Nat.blt m 9223372036854775808) (.ofNat m) (IntKind.wrap .i64 (.ofNat m))) (fun m=>jD (Nat.blt m 9223372036854775808) (.negSucc m) (IntKind.wrap .i64 (.negSucc m))) n
theorem qsu (n:Int):qrd n=IntKind.wrap .i64 n:=by
 cases n with
 |ofNat m=>
  show jD _ _ _=_;rw[zP];split
  ·rename_i h;have h:m<9223372036854775808:=Ys h;exact(Go.IntWalk.i64_in _ ⟨by simp only[Int.ofNat_eq_natCast];omega,by simp only[Int.ofNat_eq_natCast];omega⟩).symm
  rfl
 |negSucc m=>
  show jD _ _ _=_;rw[zP];split
  ·rename_i h;have h:m<9223372036854775808:=Ys h;have:=Int.negSucc_eq m;exact(Go.IntWalk.i64_in _ ⟨by omega,by omega⟩).symm
  rfl
def addK (a b:Int):Int:=
 Int.rec (motive:=fun _=>Int) (fun m=>Int.rec (motive:=fun _=>Int) (fun n=> .ofNat (Nat.add m n)) (fun n=>Int.add (.ofNat m) (.negSucc n)) b) (fun m=>Int.add (.negSucc m) b) a
theorem qsN (a b:Int):addK a b=a+b:=by
 cases a<;>cases b<;>rfl
def mulK (a b:Int):Int:=
 Int.rec (motive:=fun _=>Int) (fun m=>Int.rec (motive:=fun _=>Int) (fun n=> .ofNat (Nat.mul m n)) (fun n=>Int.mul (.ofNat m) (.negSucc n)) b) (fun m=>Int.mul (.negSucc m) b) a
theorem qtu (a b:Int):mulK a b=a*b:=by
 cases a<;>cases b<;>rfl
def ltK (a b:Int):Bool:=
 Int.rec (motive:=fun _=>Bool) (fun m=>Int.rec (motive:=fun _=>Bool) (fun n=>Nat.blt m n) (fun _=>false) b) (fun m=>Int.rec (motive:=fun _=>Bool) (fun _=>true) (fun n=>Nat.blt n m) b) a
theorem qve (a b:Int):ltK a b=decide (a<b):=by
 have key: ∀m n:Nat,Nat.blt m n=decide (m<n):=by
  intro m n;by_cases h:m<n
  ·rw[decide_eq_true h];exact Nat.ble_eq_true_of_le h
  rw[decide_eq_false h];exact qbH (by omega)
 cases a with
 |ofNat m=>
  cases b with
  |ofNat n=>exact(key m n).trans (decide_eq_decide.2 (by simp))
  |negSucc n=>
   refine(decide_eq_false ?_).symm;have:=Int.negSucc_eq n;simp only[Int.ofNat_eq_natCast];omega
 |negSucc m=>
  cases b with
  |ofNat n=>
   refine(decide_eq_true ?_).symm;have:=Int.negSucc_eq m;simp only[Int.ofNat_eq_natCast];omega
  |negSucc n=>
   refine(key n m).trans (decide_eq_decide.2 ?_);have:=Int.negSucc_eq n;have:=Int.negSucc_eq m;omega
def eqK (a b:Int):Bool:=
 Int.rec (motive:=fun _=>Bool) (fun m=>Int.rec (motive:=fun _=>Bool) (fun n=>Nat.beq m n) (fun _=>false) b) (fun m=>Int.rec (motive:=fun _=>Bool) (fun _=>false) (fun n=>Nat.beq m n) b) a
theorem qt8 (a b:Int):eqK a b=(a==b):=by
 have key: ∀m n:Nat,Nat.beq m n=decide (m=n):=by
  intro m n;by_cases h:m=n
  ·rw[decide_eq_true h];exact qeV h
  rw[decide_eq_false h];exact qd2 h
 have e:(a==b)=decide (a=b):=by rfl
 rw[e]
 cases a with
 |ofNat m=>
  cases b with
  |ofNat n=>exact(key m n).trans (decide_eq_decide.2 (by simp only[Int.ofNat_eq_natCast];omega))
  |negSucc n=>exact(decide_eq_false (by simp)).symm
 |negSucc m=>
  cases b with
  |ofNat n=>exact(decide_eq_false (by simp)).symm
  |negSucc n=>exact(key m n).trans (decide_eq_decide.2 (by simp))
def binI (op:BinOp) (a b:Int):Option AV:=
 match op with
 | .add=>some (.int .i64 (qrd (addK a b)))
 | .mul=>some (.int .i64 (qrd (mulK a b)))
 | .eql=>some (.bool (eqK a b))
 | .neq=>some (.bool (jD (eqK a b) false true))
 | .lss=>some (.bool (ltK a b))
 | .leq=>some (.bool (jD (ltK b a) false true))
 | .gtr=>some (.bool (ltK b a))
 | .geq=>some (.bool (jD (ltK a b) false true))
 |_=>none
theorem qtG {op:BinOp} {a b:Int} {v:AV} (h:binI op a b=some v) (P:Program) (t:TypeId) (ox oy:Operand):qab P op t ox oy (.int .i64 a) (.int .i64 b)=some v:=by
 have nb: ∀x:Bool,jD x false true=!x:=by intro x;cases x<;>rfl
 cases op<;>simp only[binI,qsu,qsN,qtu,qve,qt8,nb,reduceCtorEq]at h<;>rw[<-h]<;>simp only[qab,qd1,qgx,ZF,if_false,if_true,ZI,AV.bool.injEq]
 ·rfl
 ·rw[<-decide_not];exact decide_eq_decide.2 (by omega)
 rw[<-decide_not];exact decide_eq_decide.2 (by omega)
def binK (P:Program) (op:BinOp) (t:TypeId) (ox oy:Operand) (x y:AV):Option AV:=
 Option.rec (motive:=fun _=>Option AV) (qab P op t ox oy x y) some
  (qk6 x fun k a=>ql7 k (qk6 y fun q b=>ql7 q (binI op a b)))
theorem qiT {β:Type} {k:IntKind} {x:Option β} {r:β} (h:ql7 k x=some r):k= .i64/\x=some r:=by
 cases k<;>first|exact⟨rfl,h⟩|cases h
theorem qs3 (P:Program) (op:BinOp) (t:TypeId) (ox oy:Operand) (x y:AV):binK P op t ox oy x y=qab P op t ox oy x y:=by
 unfold binK
 cases h:qk6 x fun k a=>ql7 k (qk6 y fun q b=>ql7 q (binI op a b))with
 |none=>rfl
 |some v=>
  obtain⟨k,a,e1,h1⟩:=qhO h;obtain⟨e2,h2⟩:=qiT h1;obtain⟨q,b,e3,h3⟩:=qhO h2;obtain⟨e4,h4⟩:=qiT h3;subst e1 e2 e3 e4;exact(qtG h4 P t ox oy).symm
def optK (x:Option AV):Pg:=Option.rec (motive:=fun _=>Pg) .fail .done x
theorem qsT (x:Option AV):optK x= .opt x:=by cases x<;>rfl
def qq1 (P:Program) (o:Oper) (ρ:Operand->AV):Pg:=
 match o.op with
 | .move x=> .done (ρ x)
 | .assign x=> .done (ρ x)
 | .binOp op t x y _=>optK (binK P op t x y (ρ x) (ρ y))
 |_=>aop P o ρ
theorem qnJ (P:Program) (o:Oper) (ρ:Operand->AV):qq1 P o ρ=aop P o ρ:=by
 unfold qq1;split
 ·rename_i h;simp only[aop,h]
 ·rename_i h;simp only[aop,h]
 ·rename_i h;simp only[aop,h,qsT,qs3]
 rfl
def qbu (fr:Fr) (dst:Option Tmp) (v:AV):Fr:=Option.rec (motive:=fun _=>Fr) fr (fun d=>fr.set d v) dst
theorem qax (fr:Fr) (dst:Option Tmp) (v:AV):qbu fr dst v=qbz fr dst v:=by cases dst<;>rfl
def qdt (ops:Array Oper) (o:Oper) (fr:Fr):Option Bool:=Option.rec (motive:=fun _=>Option Bool) (some true) (fun _=>vF ops o fr) o.guard
theorem qeC (ops:Array Oper) (o:Oper) (fr:Fr):qdt ops o fr=vF ops o fr:=by
 unfold qdt
 cases h:o.guard with
 |none=>simp[vF,h]
 |some g=>rfl
def qlc (p:Pg):Heap->zQ->Res:=
 Pg.rec (motive:=fun _=>Heap->zQ->Res) (fun _ _=>none) (fun v A f=>some (v,A,f))
  (fun b _ ih A f=>ob (hget A b) fun x=>ih x A ((b,false)::f))
  (fun b x _ ih A f=>jD (Nat.blt b (hlen A)) (ih (hset A b x) ((b,true)::f)) none)
  (fun x _ ih A f=>ih (hlen A) (happ A x) f) p
theorem qso: ∀(p:Pg) (A:Heap) (f:zQ),qlc p A f=exec p A f:=by
 intro p
 induction p with
 |fail=>intro A f;rfl
 |done v=>intro A f;rfl
 |get b k ih=>
  intro A f;show ob (hget A b) _=_;rw[qhm];simp only[exec]
  cases A[b]? with
  |none=>rfl
  |some x=>exact ih x A _
 |set b x k ih=>
  intro A f;show jD (Nat.blt b (hlen A)) (qlc k (hset A b x) _) none=_;rw[vO,qhg,zP,ih];simp only[exec];by_cases h:b<A.length
  ·rw[if_pos h,if_pos (show Nat.blt b A.length=true from Nat.ble_eq_true_of_le h)]
  rw[if_neg h,if_neg (by rw[qbH (by omega)];simp)]
 |new x k ih=>
  intro A f;show qlc (k (hlen A)) (happ A x) f=_;rw[vO,qhD,ih];rfl
def xm (S:List Nat) (lo:Nat) (p:Pg):Heap->zQ->Res:=
 Pg.rec (motive:=fun _=>Heap->zQ->Res) (fun _ _=>none) (fun v A f=>some (v,A,f))
  (fun b _ ih A f=>jD (S.contains b||Nat.ble lo b) (ob (hget A b) fun x=>ih x A ((b,false)::f)) none)
  (fun b x _ ih A f=>jD (S.contains b||Nat.ble lo b) (jD (Nat.blt b (hlen A)) (ih (hset A b x) ((b,true)::f)) none) none)
  (fun x _ ih A f=>ih (hlen A) (happ A x) f) p
theorem qnT {S:List Nat} {lo b:Nat} (h:(S.contains b||Nat.ble lo b)=true):b∈S\/lo<=b:=by
 simp only[Bool.or_eq_true]at h;rcases h with h|h
 ·exact .inl (by simpa using h)
 exact .inr (Ys h)
theorem qfs (S:List Nat) (lo:Nat): ∀(p:Pg) (A M:Heap) (f:zQ) (v:AV) (A':Heap) (f':zQ),M.length=A.length->lo<=A.length->(∀b,(b∈S\/lo<=b)->M[b]? =A[b]?)->xm S lo p A f=some (v,A',f')->
 ∃M',exec p M f=some (v,M',f')/\M'.length=A'.length/\(∀b,(b∈S\/lo<=b)->M'[b]? =A'[b]?)/\(∀b,b<lo->b∉S->A'[b]? =A[b]?)/\A.length<=A'.length:=by
 intro p
 induction p with
 |fail=>intro A M f v A' f' _ _ _ h;cases h
 |done u=>
  intro A M f v A' f' hl hlo hM h;have h:some (u,A,f)=some (v,A',f'):=h;simp only[ZI,ZP]at h;obtain⟨rfl,rfl,rfl⟩:=h;exact⟨M,rfl,hl,hM,fun _ _ _=>rfl,Nat.le_refl _⟩
 |get b k ih=>
  intro A M f v A' f' hl hlo hM h;have h:jD (S.contains b||Nat.ble lo b) (ob (hget A b) fun x=>xm S lo (k x) A ((b,false)::f)) none=some (v,A',f'):=h;rw[zP]at h;split at h
  ·rename_i hs;obtain⟨x,hx,h⟩:=jc h;rw[qhm]at hx;have hMb:=hM b (qnT hs);obtain⟨M',h1,h2⟩:=ih x A M _ v A' f' hl hlo hM h;refine⟨M',?_,h2⟩;simp only[exec,hMb,hx];exact h1
  cases h
 |set b x k ih=>
  intro A M f v A' f' hl hlo hM h;have h:jD (S.contains b||Nat.ble lo b) (jD (Nat.blt b (hlen A)) (xm S lo k (hset A b x) ((b,true)::f)) none) none=some (v,A',f'):=h;rw[zP]at h;split at h
  ·rename_i hs;rw[zP]at h;split at h
   ·rename_i hlt;rw[vO]at hlt;rw[qhg]at h;have hb:b<A.length:=Ys hlt
    obtain⟨M',h1,h2,h3,h4,h5⟩:=ih (A.set b x) (M.set b x) _ v A' f' (by simp[hl]) (by simpa using hlo) (fun c hc=>by
     by_cases e:b=c
     ·subst e;rw[List.getElem?_set_self (by omega),List.getElem?_set_self hb]
     rw[Yw e,Yw e,hM c hc]) h
    refine⟨M',?_,h2,h3,fun c hc hcS=>?_,by simpa using h5⟩
    ·simp only[exec,hl,hb,if_true];exact h1
    rw[h4 c hc hcS,Yw];rintro rfl;rcases qnT hs with h|h
    ·exact hcS h
    omega
   cases h
  cases h
 |new x k ih=>
  intro A M f v A' f' hl hlo hM h;have h:xm S lo (k (hlen A)) (happ A x) f=some (v,A',f'):=h;rw[vO,qhD]at h
  obtain⟨M',h1,h2,h3,h4,h5⟩:=ih A.length (A++[x]) (M++[x]) f v A' f' (by simp[hl]) (by simp;omega) (fun c hc=>by
   rcases Nat.lt_or_ge c A.length with hlt|hge
   ·rw[Yf (by omega),Yf hlt,hM c hc]
   rw[Yo (by omega),Yo hge,hl]) h
  refine⟨M',?_,h2,h3,fun c hc hcS=>?_,?_⟩
  ·simp only[exec,hl];exact h1
  ·rw[h4 c hc hcS,Yf (by omega)]
  simp at h5;omega
def Le (a b:zY):Prop:= ∀c args A r,a c args A=some r->b c args A=some r
section
variable (P:Program) (call:zY)
def qdW (o:Op):Bool:=match o with
 | .call _=>true
 |_=>false
def qhJ (o:Oper) (fr:Fr) (A:Heap):Res:=
 jD (qdW o.op)
  (Option.rec (motive:=fun _=>Res) (qlc (qq1 P o (vw fr)) A []) (fun g=>ob (call g.1 g.2 A) fun r=>some (r.1,r.2,[])) (zZ o (vw fr)))
  (qlc (qq1 P o (vw fr)) A [])
def qgI (ops:Array Oper) (l:List Oper):Fr->Heap->Option (Fr×Heap):=
 List.rec (motive:=fun _=>Fr->Heap->Option (Fr×Heap)) (fun fr A=>some (fr,A))
  (fun o _ ih fr A=>ob (qdt ops o fr) fun w=>jD w (ob (qhJ P call o fr A) fun r=>ih (qbu fr o.dst r.1) r.2.1) (ih (qbu fr o.dst (.tuple [])) A)) l
def qkz (o:Oper) (fr:Fr) (A:Heap):Option (AV×Heap×Rec):=
 jD (qdW o.op&&(zZ o (vw fr)).isSome)
  (ob (qek P call o fr A) fun r=>some (r.1,jD (r.2.2.fp.isEmpty&&Nat.beq (hlen r.2.1) (hlen A)) A r.2.1,r.2.2))
  (jD ((vS o (vw fr) A).all fun b=>Nat.blt b (hlen A))
   (ob (xm (vS o (vw fr) A) (hlen A) (qq1 P o (vw fr)) A []) fun r=>some (r.1,r.2.1,⟨vS o (vw fr) A,r.2.2.any (·.2),hlen A,hlen r.2.1⟩)) none)
def qno (ops:Array Oper) (o:Oper) (fr:Fr) (A:Heap):Option ((Fr×Heap)×Rec):=
 ob (qdt ops o (maskF (zR ops o) fr)) fun w=>jD w
  (ob (qkz P call o (maskF (zR ops o) fr) A) fun r=>some ((qbu fr o.dst r.1,r.2.1),r.2.2))
  (some ((qbu fr o.dst (.tuple []),A),⟨[],false,hlen A,hlen A⟩))
def qsa (ops:Array Oper) (l:List Oper):Fr->Heap->Option ((Fr×Heap)×List Rec):=
 List.rec (motive:=fun _=>Fr->Heap->Option ((Fr×Heap)×List Rec)) (fun fr A=>some ((fr,A),[]))
  (fun o _ ih fr A=>ob (qno P call ops o fr A) fun q=>ob (ih q.1.1 q.1.2) fun r=>some (r.1,q.2::r.2)) l
def qje (ops:Array Oper) (fr:Fr) (A:Heap):Option (Fr×Heap):=
 ob (qsa P call ops ops.toList fr A) fun r=>jD (qee ops r.2) (some r.1) none
def qgj (ops:Array Oper) (draw:Bool) (s:St):Option St:=
 jD draw (qje P call ops s.1 s.2) (qgI P call ops ops.toList s.1 s.2)
variable (N:Nat) (rd:Option Nat)
def qsm (n:Nat) (f:St->Option (XA×St)):St->Option (XA×St):=
 Nat.rec (motive:=fun _=>St->Option (XA×St)) (fun _=>none)
  (fun _ ih s=>ob (f s) fun r=>XA.rec (motive:=fun _=>Option (XA×St)) (ih r.2) (fun id=>some (.exit id,r.2)) (some (.ret,r.2)) r.1) n
def qkH (a:AV):Option Bool:=match a with
 | .bool b=>some b
 |_=>none
def qdn (c:Code):St->Option (XA×St):=
 Code.rec (motive:=fun _=>St->Option (XA×St))
  (fun s=>some (.normal,s))
  (fun _ ops draw s=>ob (qgj P call ops draw s) fun r=>some (.normal,r))
  (fun _ _ iha ihb s=>ob (iha s) fun r=>XA.rec (motive:=fun _=>Option (XA×St)) (ihb r.2) (fun id=>some (.exit id,r.2)) (some (.ret,r.2)) r.1)
  (fun c _ _ iha ihb s=>ob (qkH (vw s.1 c)) fun b=>jD b (iha s) (ihb s))
  (fun id _ ih s=>ob (ih s) fun r=>XA.rec (motive:=fun _=>Option (XA×St)) (some (.normal,r.2)) (fun k=>jD (Nat.beq k id) (some (.normal,r.2)) (some (.exit k,r.2))) (some (.ret,r.2)) r.1)
  (fun _ ih s=>qsm N ih s)
  (fun g ps asg body _ _ s=>zH P call N rd (.rangeFunc g ps asg body) s)
  (fun id s=>some (.exit id,s))
  (fun _ ih s=>ih s)
  (fun _ s=>some (.normal,s))
  (fun _ _=>none)
  (fun s=>some (.ret,s))
  (fun _ _=>none) c
def qmv (b:Nat) (args:List AV) (A:Heap):Option (AV×Heap):=
 match A[b]? with
 |some (.loop _ _ fr ps asg bd)=>
  if args.length=ps.size then
   match qdn P call N (some b) asg (setAll fr ps.toList args,A)with
   |some (.normal,fr1,A1)=>match A1[b]? with
    |some (.loop .ready p1 f1 ps1 as1 bd1)=>qnc b (qdn P call N (some b) bd (fr1,A1.set b (.loop .busy p1 f1 ps1 as1 bd1)))
    |_=>none
   |_=>none
  else none
 |_=>none
def qnb (f:FuncId) (args:List AV) (A:Heap):Option (AV×Heap):=
 match P.funcs[f]? with
 |some fn=>
  if fn.name== "runtime.NumGoroutine" then none else
  match fn.body with
  |some c=>
   match qdn P call N none c (frOf fn.ntmps args,A)with
   |some (.exit _,_)=>none
   |some (_,fr,A')=>(jB P fr A' fn.results.toList).map fun vs=>(qfp vs,A')
   |none=>none
  |none=>none
 |none=>none
def qkm (c:Cl) (args:List AV) (A:Heap):Option (AV×Heap):=
 Cl.rec (motive:=fun _=>Option (AV×Heap)) (fun f=>qnb P call N f args A) (fun b=>qmv P call N b args A) (fun _ _=>none) c
end
def qhs (P:Program) (call:zY) (N:Nat) (post:zY):zY:=fun c args A=>
 Option.rec (motive:=fun _=>Option (AV×Heap)) (qkm P call N c args A) some (post c args A)
def qjE (mt:TypeId->String->Option FuncId) (c:Cl):Cl:=
 Cl.rec (motive:=fun _=>Cl) (fun f=> .fn f) (fun b=> .rd b) (fun t m=>Option.rec (motive:=fun _=>Cl) (.mt t m) (fun f=> .fn f) (mt t m)) c
def qrj (P:Program) (N:Nat) (mt:TypeId->String->Option FuncId) (pre post:zY) (pl:FuncId->Bool) (d:Nat):zY:=
 Nat.rec (motive:=fun _=>zY) pre (fun _ ih c args A=>Option.rec (motive:=fun _=>Option (AV×Heap)) (qmf (qhs P ih N post) pl (qjE mt c) args A) some (pre (qjE mt c) args A)) d
section
variable {P:Program} {call call':zY} {N:Nat} {rd:Option Nat}
theorem qk5 (hc:Le call call') {o:Oper} {fr:Fr} {A:Heap} {r:AV×Heap×zQ} (h:xV P call o fr A=some r):xV P call' o fr A=some r:=by
 unfold xV at h⊢;split at h
 ·obtain⟨x,hx,he⟩:=Yd.1 h;rw[hc _ _ _ _ hx];exact congrArg some he
 exact h
theorem qpv (hc:Le call call') {o:Oper} {fr:Fr} {A:Heap} {r:AV×Heap×zQ} (h:qhJ P call o fr A=some r):xV P call' o fr A=some r:=by
 unfold qhJ at h;rw[qe3,zP,qso,qnJ]at h;unfold xV;split at h
 ·cases hg:zZ o (jA fr)with
  |none=>rw[hg]at h;exact h
  |some g=>
   rw[hg]at h;obtain⟨x,hx,he⟩:=jc h;obtain⟨g,args⟩:=g;simp only[hc _ _ _ _ hx,ZM];exact he
 rename_i hn
 have:zZ o (jA fr)=none:=by
  unfold zZ;cases ho:o.op<;>simp[ho,qdW]at hn⊢
 rw[this];exact h
theorem qoZ (hc:Le call call') {ops:Array Oper}: ∀(l:List Oper) {fr:Fr} {A:Heap} {r:Fr×Heap},qgI P call ops l fr A=some r->qc8 P call' ops l fr A=some r:=by
 intro l
 induction l with
 |nil=>intro fr A r h;exact h
 |cons o l ih=>
  intro fr A r h;obtain⟨w,hw,h⟩:=jc (show ob (qdt ops o fr) (fun w=>jD w (ob (qhJ P call o fr A) fun r=>qgI P call ops l (qbu fr o.dst r.1) r.2.1) (qgI P call ops l (qbu fr o.dst (.tuple [])) A))=some r from h);rw[qeC]at hw;simp only[qc8,hw]
  cases w with
  |true=>
   obtain⟨x,hx,h⟩:=jc (show ob (qhJ P call o fr A) (fun r=>qgI P call ops l (qbu fr o.dst r.1) r.2.1)=some r from h);obtain⟨v,A',f⟩:=x;rw[qax]at h;simp only[qpv hc hx];exact ih h
  |false=>
   have h:qgI P call ops l (qbu fr o.dst (.tuple [])) A=some r:=h;rw[qax]at h;exact ih h
theorem qlO (hc:Le call call') {o:Oper} {fr:Fr} {A:Heap} {r:AV×Heap×Rec} (h:qek P call o fr A=some r):qek P call' o fr A=some r:=by
 unfold qek at h⊢;simp only at h⊢;split at h
 ·rename_i hall;rw[if_pos hall];split at h
  ·rename_i v B f hs;rw[qk5 hc hs];exact h
  cases h
 cases h
theorem qjo {A B:Heap} (h:B.length=A.length):merge [] A B=A:=by
 refine List.ext_getElem? fun b=>?_
 rw[qbK];rcases Nat.lt_or_ge b A.length with hb|hb
 ·rw[Ya (show b<B.length by omega),Ya hb];simp[hb,List.getD_eq_getElem?_getD]
 rw[Yg (by omega),Yg hb];rfl
theorem qpo (hc:Le call call') {o:Oper} {fr:Fr} {A:Heap} {r:AV×Heap×Rec} (h:qkz P call o fr A=some r):qek P call' o fr A=some r:=by
 unfold qkz at h;rw[qe3,qnJ]at h;rw[zP]at h;split at h
 ·obtain⟨x,hx,h⟩:=jc h;have hx':=qlO hc hx;rw[hx'];rw[<-h];obtain⟨v,B,q⟩:=x;simp only[ZI,ZP,true_and,and_true];rw[zP];split
  ·rename_i hb;simp only[Bool.and_eq_true,vO]at hb;obtain⟨h1,h2⟩:=hb;have hlen:=Nat.eq_of_beq_eq_true h2;unfold qek at hx;simp only at hx;split at hx
   ·split at hx
    ·split at hx
     ·simp only[ZI,ZP]at hx;obtain⟨_,h3,h4⟩:=hx;rw[<-h4]at h1;simp only[List.isEmpty_iff]at h1;rw[h1]at h3;rw[<-h3]at hlen⊢;rw[xJ]at hlen;exact qjo hlen
     cases hx
    cases hx
   cases hx
  rfl
 rename_i hn;rw[zP]at h;split at h
 ·rename_i hall;obtain⟨x,hx,h⟩:=jc h;obtain⟨v,A',f⟩:=x
  have hnc:zZ o (jA fr)=none:=by
   cases hg:zZ o (jA fr)with
   |none=>rfl
   |some g=>
    exfalso;apply hn;rw[hg];unfold zZ at hg;cases ho:o.op<;>simp[ho,qdW]at hg⊢
  simp only[vO]at hall hx h;generalize hS:vS o (jA fr) A=S at hall hx h
  have hall2: ∀b∈S,b<A.length:=fun b hb=>Ys (Yp.1 hall b hb)
  obtain⟨M',h1,h2,h3,h4,h5⟩:=qfs S A.length (aop P o (jA fr)) A (mask S A) [] v A' f (jX _ _) (Nat.le_refl _) (fun b hb=>by
   rw[qcI];rcases hb with hb|hb
   ·rw[Ya (hall2 b hb)];simp[hb]
   rw[Yg hb];rfl) hx
  have hm:merge S A M'=A':=by
   refine List.ext_getElem? fun b=>?_
   rw[qbK];rcases Nat.lt_or_ge b A'.length with hb|hb
   ·rw[Ya (show b<M'.length by omega)];simp only[ZM];by_cases hc:b<A.length/\b∉S
    ·have e:(decide (b<A.length)&&!S.contains b)=true:=by simp[hc.1,hc.2]
     rw[if_pos e,h4 b hc.1 hc.2,Ya hc.1];simp[List.getD_eq_getElem?_getD,List.getElem?_eq_getElem hc.1]
    have e: ¬(decide (b<A.length)&&!S.contains b)=true:=by
     simp only[Bool.and_eq_true,decide_eq_true_eq,Bool.not_eq_true',List.contains_eq_mem];intro h;exact hc ⟨h.1,by simpa using h.2⟩
    rw[if_neg e,<-h3 b (by
     rcases Nat.lt_or_ge b A.length with hlt|hge
     ·left
      exact Classical.byContradiction fun hs=>hc ⟨hlt,hs⟩
     exact .inr hge),Ya (show b<M'.length by omega)]
   rw[Yg (show M'.length<=b by omega),Yg hb];rfl
  have hall3:(S.all fun b=>decide (b<A.length))=true:=Yp.2 fun b hb=>decide_eq_true (hall2 b hb)
  unfold qek;simp only[hS,hall3,if_true];unfold xV;simp only[hnc,h1,Option.isSome_none,Bool.false_and,Bool.or_false]
  have h0:A.length<=M'.length:=by omega
  rw[if_pos h0,hm,<-h,h2]
 cases h
theorem qpc (hc:Le call call') {ops:Array Oper} {j:Nat} {o:Oper} (ho:ops[j]? =some o) {fr:Fr} {A:Heap} {r:(Fr×Heap)×Rec} (h:qno P call ops o fr A=some r):qd5 P call' ops j (fr,A)=some r:=by
 obtain⟨w,hw,h⟩:=jc h;rw[qeC]at hw;simp only[qd5,ho,hw]
 cases w with
 |true=>
  obtain⟨x,hx,h⟩:=jc (show ob (qkz P call o (maskF (zR ops o) fr) A) (fun r=>some ((qbu fr o.dst r.1,r.2.1),r.2.2))=some r from h);obtain⟨v,B,q⟩:=x;rw[qax]at h;simp only[qpo hc hx];exact h
 |false=>
  have h:some ((qbu fr o.dst (.tuple []),A),(⟨[],false,hlen A,hlen A⟩:Rec))=some r:=h;rw[qax,vO]at h;exact h
theorem qqu (hc:Le call call') {ops:Array Oper}: ∀(l pre:List Oper),ops.toList=pre++l-> ∀{fr:Fr} {A:Heap} {r:(Fr×Heap)×List Rec},qsa P call ops l fr A=some r->qfB P call' ops l.length pre.length (fr,A)=some r:=by
 intro l
 induction l with
 |nil=>intro pre _ fr A r h;exact h
 |cons o l ih=>
  intro pre hp fr A r h;obtain⟨q,hq,h⟩:=jc (show ob (qno P call ops o fr A) (fun q=>ob (qsa P call ops l q.1.1 q.1.2) fun r=>some (r.1,q.2::r.2))=some r from h);obtain⟨x,hx,h⟩:=jc h
  have ho:ops[pre.length]? =some o:=by
   rw[<-YT,hp];simp
  obtain⟨⟨fr1,A1⟩,rc⟩:=q;have h2:=ih (pre++[o]) (by simp[hp]) hx;simp only[Yq,Yr,List.length_nil,Nat.zero_add]at h2;simp only[Yr,qfB,qpc hc ho hq,h2,ZM];exact h
theorem qma (hc:Le call call') {ops:Array Oper} {draw:Bool} {s r:St} (h:qgj P call ops draw s=some r):qcu P call' ops draw s=some r:=by
 unfold qgj at h;unfold qcu
 cases draw with
 |true=>
  obtain⟨x,hx,h⟩:=jc (show qje P call ops s.1 s.2=some r from h);have h2:=qqu hc ops.toList [] rfl hx
  have hlen:ops.toList.length=ops.size:=by simp
  rw[hlen]at h2;simp only[if_true,qcP];rw[show qfB P call' ops ops.size 0 (s.1,s.2)=some x from h2];obtain⟨x1,x2⟩:=x;rw[zP]at h;exact h
 |false=>
  simp only[ZF,if_false];exact qoZ hc _ h
theorem qsc {f f':St->Option (XA×St)} (hf: ∀s r,f s=some r->f' s=some r): ∀(n:Nat) {s:St} {r:XA×St},qsm n f s=some r->qe9 n f' s=some r:=by
 intro n
 induction n with
 |zero=>intro s r h;cases h
 |succ n ih=>
  intro s r h;obtain⟨x,hx,h⟩:=jc (show ob (f s) (fun r=>XA.rec (motive:=fun _=>Option (XA×St)) (qsm n f r.2) (fun id=>some (.exit id,r.2)) (some (.ret,r.2)) r.1)=some r from h);obtain⟨x1,x2⟩:=x;simp only[qe9,hf _ _ hx]
  cases x1 with
  |normal=>exact ih h
  |exit id=>exact h
  |ret=>exact h
theorem qlH {a:AV} {b:Bool} (h:qkH a=some b):a= .bool b:=by
 unfold qkH at h;split at h
 ·injection h with h;rw[h]
 cases h
theorem qq9 (hc:Le call call'): ∀(c:Code) {s:St} {r:XA×St},zH P call N rd c s=some r->zH P call' N rd c s=some r:=by
 have regLe: ∀{ops:Array Oper} {draw:Bool} {s r:St},qcu P call ops draw s=some r->qcu P call' ops draw s=some r:=by
  intro ops draw s r h
  have hI: ∀{j:Nat} {s:Fr×Heap} {r:(Fr×Heap)×Rec},qd5 P call ops j s=some r->qd5 P call' ops j s=some r:=by
   intro j s r h;unfold qd5 at h⊢;split at h
   ·cases h
   rename_i o ho;split at h
   ·split at h
    ·rename_i v A' q hs;simp only[qlO hc hs];exact h
    cases h
   ·exact h
   cases h
  have hL: ∀(l:List Oper) {fr:Fr} {A:Heap} {r:Fr×Heap},qc8 P call ops l fr A=some r->qc8 P call' ops l fr A=some r:=by
   intro l
   induction l with
   |nil=>intro fr A r h;exact h
   |cons o l ih=>
    intro fr A r h;simp only[qc8]at h⊢;split at h
    ·split at h
     ·rename_i v A' f hs;simp only[qk5 hc hs];exact ih h
     cases h
    ·exact ih h
    cases h
  have hR: ∀(m j:Nat) {s:Fr×Heap} {r:(Fr×Heap)×List Rec},qfB P call ops m j s=some r->qfB P call' ops m j s=some r:=by
   intro m
   induction m with
   |zero=>intro j s r h;exact h
   |succ m ih=>
    intro j s r h;simp only[qfB]at h⊢;split at h
    ·rename_i s' q hs;simp only[hI hs];obtain⟨x,hx,he⟩:=Yd.1 h;rw[ih _ hx];exact congrArg some he
    cases h
  unfold qcu at h⊢;split at h
  ·rename_i hd;rw[if_pos hd];unfold qcP at h⊢;split at h
   ·rename_i x rs hs;rw[hR _ _ hs];exact h
   cases h
  rename_i hd;rw[if_neg hd];exact hL _ h
 intro c
 induction c with
 |region id ops draw=>
  intro s r h;simp only[zH]at h⊢;obtain⟨x,hx,he⟩:=Yd.1 h;rw[regLe hx];exact congrArg some he
 |seq a b iha ihb=>
  intro s r h;simp only[zH]at h⊢;split at h
  ·rename_i s' hs;rw[iha hs];exact ihb h
  rename_i r' hr
  cases hx:zH P call N rd a s with
  |none=>rw[hx]at h;cases h
  |some x=>
   rw[iha hx];rw[hx]at h;obtain⟨x1,x2⟩:=x
   cases x1 with
   |normal=>exact absurd hx (hr x2)
   |exit id=>exact h
   |ret=>exact h
 |cond c a b iha ihb=>
  intro s r h;simp only[zH]at h⊢;split at h
  ·exact iha h
  ·exact ihb h
  cases h
 |block id b ih=>
  intro s r h;simp only[zH]at h⊢
  cases hx:zH P call N rd b s with
  |none=>rw[hx]at h;cases h
  |some x=>
   rw[ih hx];rw[hx]at h;exact h
 |loop b ih=>
  intro s r h;simp only[zH]at h⊢
  have: ∀(n:Nat) {s:St} {r:XA×St},qe9 n (zH P call N rd b) s=some r->qe9 n (zH P call' N rd b) s=some r:=by
   intro n
   induction n with
   |zero=>intro s r h;cases h
   |succ n ihn=>
    intro s r h;simp only[qe9]at h⊢
    cases hx:zH P call N rd b s with
    |none=>rw[hx]at h;cases h
    |some x=>
     rw[ih hx];rw[hx]at h;obtain⟨x1,x2⟩:=x
     cases x1 with
     |normal=>exact ihn h
     |exit id=>exact h
     |ret=>exact h
  exact this N h
 |scope b ih=>intro s r h;exact ih h
 |rangeFunc g ps asg body=>
  intro s r h;simp only[zH]at h⊢;split at h
  ·rename_i hok hg;split at h
   ·cases h
   rename_i hent;rw[if_neg hent];split at h
   ·rename_i v A2 hcall;rw[hc _ _ _ _ hcall];exact h
   cases h
  cases h
 |_=>intro s r h;first|exact h|(simp[zH]at h⊢;done)|(simp only[zH]at h⊢;exact h)
theorem qgv (hc:Le call call'): ∀(c:Code) {s:St} {r:XA×St},qdn P call N rd c s=some r->zH P call' N rd c s=some r:=by
 intro c
 induction c with
 |skip=>intro s r h;exact h
 |region id ops draw=>
  intro s r h;obtain⟨x,hx,h⟩:=jc (show ob (qgj P call ops draw s) (fun r=>some (XA.normal,r))=some r from h);simp only[zH,qma hc hx,ZM];exact h
 |seq a b iha ihb=>
  intro s r h;obtain⟨x,hx,h⟩:=jc (show ob (qdn P call N rd a s) (fun r=>XA.rec (motive:=fun _=>Option (XA×St)) (qdn P call N rd b r.2) (fun id=>some (.exit id,r.2)) (some (.ret,r.2)) r.1)=some r from h);obtain⟨x1,x2⟩:=x;simp only[zH,iha hx]
  cases x1 with
  |normal=>exact ihb h
  |exit id=>exact h
  |ret=>exact h
 |cond c a b iha ihb=>
  intro s r h;obtain⟨x,hx,h⟩:=jc (show ob (qkH (vw s.1 c)) (fun t=>jD t (qdn P call N rd a s) (qdn P call N rd b s))=some r from h);rw[qe3]at hx;simp only[zH,qlH hx]
  cases x with
  |true=>exact iha h
  |false=>exact ihb h
 |block id b ih=>
  intro s r h;obtain⟨x,hx,h⟩:=jc (show ob (qdn P call N rd b s) (fun r=>XA.rec (motive:=fun _=>Option (XA×St)) (some (.normal,r.2)) (fun k=>jD (Nat.beq k id) (some (.normal,r.2)) (some (.exit k,r.2))) (some (.ret,r.2)) r.1)=some r from h);obtain⟨x1,x2⟩:=x;simp only[zH,ih hx]
  cases x1 with
  |normal=>exact h
  |exit k=>
   have h:jD (Nat.beq k id) (some (XA.normal,x2)) (some (.exit k,x2))=some r:=h;rw[zP]at h;simp only;by_cases e:k=id
   ·rw[if_pos e];rw[if_pos (qeV e)]at h;exact h
   rw[if_neg e];rw[if_neg (by rw[qd2 e];simp)]at h;exact h
  |ret=>exact h
 |loop b ih=>
  intro s r h;exact qsc (fun s r h=>ih h) N h
 |scope b ih=>intro s r h;exact ih h
 |rangeFunc g ps asg body=>intro s r h;exact qq9 hc (.rangeFunc g ps asg body) h
 |exit id=>intro s r h;exact h
 |label l=>intro s r h;exact h
 |ret=>intro s r h;exact h
 |_=>intro s r h;cases h
theorem qmK (hc:Le call call'):Le (qkm P call N) (qmt P call' N):=by
 intro c args A r h
 cases c with
 |fn f=>
  have h:qnb P call N f args A=some r:=h;show qlF P call' N f args A=some r;unfold qnb at h;unfold qlF;split at h
  ·rename_i fn hf;rw[hf];simp only;split at h
   ·cases h
   rename_i hn;rw[if_neg hn];split at h
   ·rename_i c hb;rw[hb];simp only
    cases hx:qdn P call N none c (frOf _ args,A)with
    |none=>rw[hx]at h;cases h
    |some x=>
     rw[qgv hc c hx];rw[hx]at h;exact h
   cases h
  cases h
 |mt t m=>cases h
 |rd b=>
  have h:qmv P call N b args A=some r:=h;show qk8 P call' N b args A=some r;unfold qmv at h;unfold qk8;split at h
  ·rename_i hb;rw[hb];simp only;split at h
   ·rename_i hl;rw[if_pos hl];split at h
    ·rename_i hx;rw[qgv hc _ hx];simp only;split at h
     ·rename_i hb2;rw[hb2];simp only;rename_i p1 f1 ps1 as1 bd1;unfold qnc at h;split at h
      ·rename_i x fr2 A2 hy;rw[qgv hc _ hy];exact h
      cases h
     cases h
    cases h
   cases h
  cases h
theorem qnp (hm:P.follows .mixedOrders=true) (hc:zf P call):zf P (qkm P call N):=
 fun c args A v A' h=>qo7 hm hc c args A v A' (qmK (fun _ _ _ _ h=>h) c args A _ h)
theorem qmX (hm:P.follows .mixedOrders=true) (hc:zf P call) {post:zY} (hp:zf P post):zf P (qhs P call N post):=by
 intro c args A v A' h;unfold qhs at h
 cases hx:post c args A with
 |some x=>
  rw[hx]at h;have h:some x=some (v,A'):=h;injection h with h;subst h;exact hp _ _ _ _ _ hx
 |none=>
  rw[hx]at h;exact qnp hm hc _ _ _ _ _ h
theorem qrU {mt:TypeId->String->Option FuncId} (hmt: ∀t m f,mt t m=some f->Enters P f/\MtOK P t m f) {c:Cl} {args:List AV} {A:Heap} {v:AV} {A':Heap} (h:qb P (qjE mt c) args A v A'):qb P c args A v A':=by
 cases c with
 |fn f=>exact h
 |rd b=>exact h
 |mt t m=>
  have h:qb P (Option.rec (motive:=fun _=>Cl) (.mt t m) (fun f=> .fn f) (mt t m)) args A v A':=h
  cases hf:mt t m with
  |none=>rw[hf]at h;exact h
  |some f=>
   rw[hf]at h;obtain⟨h1,h2⟩:=hmt t m f hf;exact⟨f,h2,fun F nu w vs i hargs=>qb.calls (f:=f) h h1 i hargs⟩
theorem qqS (hm:P.follows .mixedOrders=true) {mt:TypeId->String->Option FuncId} (hmt: ∀t m f,mt t m=some f->Enters P f/\MtOK P t m f) {pre post:zY} {pl:FuncId->Bool} (hp:zf P pre) (hq:zf P post): ∀d,zf P (qrj P N mt pre post pl d):=by
 intro d
 induction d with
 |zero=>exact hp
 |succ d ih=>
  intro c args A v A' h;refine qrU hmt ?_;have h:Option.rec (motive:=fun _=>Option (AV×Heap)) (qmf (qhs P (qrj P N mt pre post pl d) N post) pl (qjE mt c) args A) some (pre (qjE mt c) args A)=some (v,A'):=h
  cases hx:pre (qjE mt c) args A with
  |some x=>
   rw[hx]at h;have h:some x=some (v,A'):=h;injection h with h;subst h;exact hp _ _ _ _ _ hx
  |none=>
   rw[hx]at h;exact qrt (qmX hm ih hq) pl _ _ _ _ _ h
def memo (l:List (FuncId×List AV×AV)):zY:=fun c args A=>
 Cl.rec (motive:=fun _=>Option (AV×Heap)) (fun f=>List.rec (motive:=fun _=>Option (AV×Heap))
  (List.rec (motive:=fun _=>Option (AV×Heap)) none (fun e _ ih=>jD (Nat.beq f e.1&&qbx (qbv 30) args e.2.1) (some (e.2.2,[])) ih) l) (fun _ _ _=>none) A) (fun _=>none) (fun _ _=>none) c
theorem qtd: ∀{l:List (FuncId×List AV×AV)},(∀e∈l,qb P (.fn e.1) e.2.1 [] e.2.2 [])->zf P (memo l):=by
 intro l
 induction l with
 |nil=>
  intro _ c args A v A' h
  cases c with
  |rd b=>cases h
  |mt t m=>cases h
  |fn f=>
   cases A with
   |nil=>cases h
   |cons x A=>cases h
 |cons e l ih=>
  intro hl c args A v A' h
  cases c with
  |rd b=>cases h
  |mt t m=>cases h
  |fn f=>
   cases A with
   |cons x A=>cases h
   |nil=>
    have h:jD (Nat.beq f e.1&&qbx (qbv 30) args e.2.1) (some (e.2.2,[])) (memo l (.fn f) args [])=some (v,A'):=h;rw[zP]at h;split at h
    ·rename_i hb;simp only[Bool.and_eq_true]at hb;have e1:=Nat.eq_of_beq_eq_true hb.1;have e2:=qf0 (qhR 30) _ _ hb.2;simp only[ZI,ZP]at h;obtain⟨rfl,rfl⟩:=h;subst e1 e2;exact hl e (by simp)
    exact ih (fun e he=>hl e (by simp[he])) _ _ _ _ _ h
end
end Go.Av
end
noncomputable section
namespace Go.Av
variable [Glob]
open Go.RowKit
class Base where
 nu:Nat->Option Nat
 A:Heap
 fresh: ∀b,A.length<=b->nu b=none
 rd:Option Nat
 rr:Option Nat
 hrd:qnB rd rr nu
@[instance_reducible] def Base.zero:Base:=⟨fun _=>none,[],fun _ _=>rfl,none,none,trivial⟩
instance (priority:=low) instBaseZero:Base:=Base.zero
def Goes [Base] (P:Program) (c:Code) (s:St) (Q:XA->St->Prop):Prop:=
 ∀(F0:Nat->Prop) (w0:World) (n:Nat) (F:Nat->Prop) (nu:Nat->Option Nat) (a:Act) (w:World),
  Stp F0 Base.nu Base.A w0 F nu s.2 w->RF F nu w s.1 a.tmps->Dfr w0.heap.size F nu s.2 w a.defers->
  ∀K:Exit->Act->World->Prop,(∀x s' F' nu' a' w',Q x s'->Stp F0 Base.nu Base.A w0 F' nu' s'.2 w'->RF F' nu' w' s'.1 a'.tmps->Dfr w0.heap.size F' nu' s'.2 w' a'.defers->K (qiE x) a' w')->
  c.wpIn (fz Base.rr) n P K a w
section
variable [Base] {P:Program} {call:zY} {N:Nat} {c c1 c2:Code} {s:St} {Q:XA->St->Prop}
theorem Goes.eval (hm:P.follows .mixedOrders=true) (hc:zf P call) {x:XA} {s':St} (h:zH P call N Base.rd c s=some (x,s')) (hq:Q x s'):Goes P c s Q:=by
 intro F0 w0 n F nu a w st hf hd K hK;obtain⟨fr,A⟩:=s;obtain⟨fr',A'⟩:=s';exact qei (rd:=Base.rd) (rr:=Base.rr) (base:=w0.heap.size) hc hm c st.inv hf (Base.hrd.step st) hd st.size h (fun F' nu' w' a' hd' st' hf'=>hK x _ F' nu' a' w' hq (st.trans st') hf' hd')
theorem Goes.imp {Q':XA->St->Prop} (h:Goes P c s Q) (hq: ∀x s',Q x s'->Q' x s'):Goes P c s Q':=
 fun F0 w0 n F nu a w st hf hd K hK=>h F0 w0 n F nu a w st hf hd K (fun x s' F' nu' a' w' q=>hK x s' F' nu' a' w' (hq x s' q))
theorem Goes.skip (h:Q .normal s):Goes P .skip s Q:=fun _ _ _ F nu a w st hf hd _ hK=>wpIn_skip (hK .normal s F nu a w h st hf hd)
theorem Goes.label {l:Nat} (h:Q .normal s):Goes P (.label l) s Q:=fun _ _ _ F nu a w st hf hd _ hK=>wpIn_label (hK .normal s F nu a w h st hf hd)
theorem Goes.exit {id:Nat} (h:Q (.exit id) s):Goes P (.exit id) s Q:=fun _ _ _ F nu a w st hf hd _ hK=>wpIn_exit (hK (.exit id) s F nu a w h st hf hd)
theorem Goes.ret (h:Q .ret s):Goes P .ret s Q:=fun _ _ _ F nu a w st hf hd _ hK=>wpIn_ret (hK .ret s F nu a w h st hf hd)
def andThen (k:St->Prop) (Q:XA->St->Prop):XA->St->Prop
 | .normal,s=>k s
 |x,s=>Q x s
theorem Goes.seq (h:Goes P c1 s (andThen (fun s'=>Goes P c2 s' Q) Q)):Goes P (.seq c1 c2) s Q:=by
 intro F0 w0 n F nu a w st hf hd K hK;refine wpIn_seq (h F0 w0 n F nu a w st hf hd _ (fun x s' F' nu' a' w' q st' hf' hd'=>?_))
 cases x with
 |normal=>exact q F0 w0 n F' nu' a' w' st' hf' hd' K hK
 |exit id=>exact hK (.exit id) s' F' nu' a' w' q st' hf' hd'
 |ret=>exact hK .ret s' F' nu' a' w' q st' hf' hd'
theorem Goes.cond {co:Operand} {b:Bool} (hv:jA s.1 co= .bool b) (ht:b=true->Goes P c1 s Q) (hf:b=false->Goes P c2 s Q):Goes P (.cond co c1 c2) s Q:=by
 intro F0 w0 n F nu a w st hfr hd K hK;have hv2:=hfr.eval st.inv.glob co;rw[hv]at hv2
 have hb:a.eval co= .bool b:=by
  generalize a.eval co=z at hv2;cases hv2
  rfl
 cases b with
 |true=>exact wpIn_cond_true hb (ht rfl F0 w0 n F nu a w st hfr hd K hK)
 |false=>exact wpIn_cond_false hb (hf rfl F0 w0 n F nu a w st hfr hd K hK)
def qoI (id:Nat) (Q:XA->St->Prop):XA->St->Prop
 | .exit k,s=>if k=id then Q .normal s else Q (.exit k) s
 |x,s=>Q x s
theorem Goes.block {id:Nat} (h:Goes P c s (qoI id Q)):Goes P (.block id c) s Q:=by
 intro F0 w0 n F nu a w st hf hd K hK;refine wpIn_block (h F0 w0 n F nu a w st hf hd _ (fun x s' F' nu' a' w' q st' hf' hd'=>?_))
 cases x with
 |normal=>exact hK .normal s' F' nu' a' w' q st' hf' hd'
 |ret=>exact hK .ret s' F' nu' a' w' q st' hf' hd'
 |exit k=>
  simp only[qiE,Exit.inBlock];simp only[qoI]at q;split at q
  ·rename_i e;rw[if_pos e];exact hK .normal s' F' nu' a' w' q st' hf' hd'
  rename_i e;rw[if_neg e];exact hK (.exit k) s' F' nu' a' w' q st' hf' hd'
theorem Goes.scope (h:Goes P c s Q):Goes P (.scope c) s Q:=by
 intro F0 w0 n F nu a w st hf hd K hK;refine qcj (h F0 w0 n F nu a w st hf hd _ (fun x s' F' nu' a' w' q st' hf' hd'=>?_));have:=hK x s' F' nu' a' w' q st' hf' hd';cases x<;>exact this
theorem Goes.loop (I:Nat->St->Prop) (hstep: ∀m s,I m s->Goes P c s (andThen (fun s'=> ∃m',m'<m/\I m' s') Q)) {m:Nat} (h0:I m s):Goes P (.loop c) s Q:=by
 intro F0 w0 n F nu a w st hf hd K hK;have key: ∀(m:Nat) (s:St),I m s-> ∀(F:Nat->Prop) (nu:Nat->Option Nat) (a:Act) (w:World),Stp F0 Base.nu Base.A w0 F nu s.2 w->RF F nu w s.1 a.tmps->Dfr w0.heap.size F nu s.2 w a.defers->
  ∀(b:Frame) (k:List Item) (cs:List Frame),b.roundOf=(fz Base.rr).round->(fz Base.rr).fn b.fn->(fz Base.rr).room (cs.length+1+n)->
  ∃e a₂ w₂,K e a₂ w₂/\ArrivesIn (Machine.fenced P (fz Base.rr)) P (lone (b.atR a (.code c:: .inLoop c::k)) cs w) b k cs e a₂ w₂:=by
  intro m
  induction m using Nat.strongRecOn with
  |_ m ih=>
   intro s hI F nu a w st hf hd b k cs hro hb hr;refine qdB ?_ b k cs hro hb hr;refine hstep m s hI F0 w0 n F nu a w st hf hd _ (fun x s' F' nu' a' w' q st' hf' hd'=>?_)
   cases x with
   |normal=>
    obtain⟨m',hlt,hI'⟩:=q;exact ih m' hlt s' hI' F' nu' a' w' st' hf' hd'
   |exit id=>exact hK (.exit id) s' F' nu' a' w' q st' hf' hd'
   |ret=>exact hK .ret s' F' nu' a' w' q st' hf' hd'
 intro b k cs hro hb hr;obtain⟨e,a₂,w₂,hq2,harr⟩:=key m s h0 F nu a w st hf hd b k cs hro hb hr;exact⟨e,a₂,w₂,hq2,.of_steps (.one (fenced_calm hb hr rfl) stepR_loop) harr⟩
def Ops (P:Program) (call:zY) (ops:Array Oper) (l:List Oper) (fr:Fr) (A:Heap) (K:Fr->Heap->Prop):Prop:=
 ∃fr' A',qc8 P call ops l fr A=some (fr',A')/\K fr' A'
variable {ops:Array Oper} {l:List Oper} {fr:Fr} {A:Heap} {K:Fr->Heap->Prop}
theorem Ops.nil (h:K fr A):Ops P call ops [] fr A K:=⟨fr,A,rfl,h⟩
theorem Ops.step {o:Oper} (hw:vF ops o fr=some true) {v:AV} {A':Heap} {f:zQ} (hs:xV P call o fr A=some (v,A',f)) (h:Ops P call ops l (qbz fr o.dst v) A' K):Ops P call ops (o::l) fr A K:=by
 obtain⟨fr2,A2,h1,h2⟩:=h;exact⟨fr2,A2,by simp only[qc8,hw,hs,h1],h2⟩
theorem Ops.off {o:Oper} (hw:vF ops o fr=some false) (h:Ops P call ops l (qbz fr o.dst (.tuple [])) A K):Ops P call ops (o::l) fr A K:=by
 obtain⟨fr2,A2,h1,h2⟩:=h;exact⟨fr2,A2,by simp only[qc8,hw,h1],h2⟩
theorem Goes.region (hm:P.follows .mixedOrders=true) (hc:zf P call) {id:Nat} (h:Ops P call ops ops.toList s.1 s.2 fun fr A=>Q .normal (fr,A)):Goes P (.region id ops false) s Q:=by
 obtain⟨fr',A',h1,h2⟩:=h;refine Goes.eval (N:=0) (x:= .normal) (s':=(fr',A')) hm hc ?_ h2;simp[zH,qcu,h1]
theorem Goes.draw (hm:P.follows .mixedOrders=true) (hc:zf P call) {id:Nat} {s':St} (h:qcP P call ops s.1 s.2=some s') (hq:Q .normal s'):Goes P (.region id ops true) s Q:=by
 refine Goes.eval (N:=0) (x:= .normal) (s':=s') hm hc ?_ hq;simp[zH,qcu,h]
theorem Uv (n:Nat) (g:Nat->AV) (t:Nat):(Fr.fn n g).get t=if t<n then g t else .undef:=by
 simp only[Fr.get];by_cases h:t<n
 ·rw[if_pos h,show Nat.blt t n=true from Nat.ble_eq_true_of_le h];rfl
 rw[if_neg h,qbH (by omega)];rfl
theorem qgd (g:Nat->AV) (t:Nat) (a:AV) (u:Nat):qf7 g t a u=if u=t then a else g u:=by
 unfold qf7;by_cases h:u=t
 ·rw[if_pos h,qeV h];rfl
 rw[if_neg h,qd2 h];rfl
theorem qm6 {o:Oper} {v:AV} (hn:zZ o (jA fr)=none) (h:aop P o (jA fr)= .done v):xV P call o fr A=some (v,A,[]):=by
 unfold xV;rw[hn,h];rfl
def qnz (P:Program) (ops:Array Oper) (l:List Oper) (fr:Fr) (K:Fr->Prop):Prop:=
 match l with
 |[]=>K fr
 |o::l=>(vF ops o (maskF (zR ops o) fr)=some false/\qnz P ops l (qbz fr o.dst (.tuple [])) K)\/
  (vF ops o (maskF (zR ops o) fr)=some true/\zZ o (jA (maskF (zR ops o) fr))=none/\(∀A,vS o (jA (maskF (zR ops o) fr)) A=[])/\ ∃v,aop P o (jA (maskF (zR ops o) fr))= .done v/\qnz P ops l (qbz fr o.dst v) K)
theorem qnz.run: ∀(l pre:List Oper),ops.toList=pre++l-> ∀{fr:Fr} {K:Fr->Prop},qnz P ops l fr K->
 ∃fr' rs,qfB P call ops l.length pre.length (fr,A)=some ((fr',A),rs)/\(∀r∈rs,r.fp=[])/\K fr':=by
 intro l
 induction l with
 |nil=>intro pre _ fr K h;exact⟨fr,[],rfl,by simp,h⟩
 |cons o l ih=>
  intro pre hp fr K h
  have ho:ops[pre.length]? =some o:=by
   rw[<-YT,hp];simp
  have hp':ops.toList=(pre++[o])++l:=by simp[hp]
  rcases h with⟨hw,h⟩|⟨hw,hn,hf,v,hv,h⟩
  ·obtain⟨fr',rs,h1,h2,h3⟩:=ih (pre++[o]) hp' h;simp only[Yq,Yr,List.length_nil,Nat.zero_add]at h1;refine⟨fr',⟨[],false,A.length,A.length⟩::rs,?_,?_,h3⟩
   ·simp only[Yr,qfB,qd5,ho,hw,h1,ZM]
   intro r hr;rcases List.mem_cons.1 hr with rfl|hr
   ·rfl
   exact h2 r hr
  obtain⟨fr',rs,h1,h2,h3⟩:=ih (pre++[o]) hp' h;simp only[Yq,Yr,List.length_nil,Nat.zero_add]at h1
  have hs:qek P call o (maskF (zR ops o) fr) A=some (v,A,⟨[],false,A.length,A.length⟩):=by
   unfold qek;simp only[hf,hn,List.all_nil,if_true];rw[qm6 hn hv]
   have hl:A.length<=(mask [] A).length:=by rw[jX];exact Nat.le_refl _
   simp only[hl,if_true,List.any_nil,Option.isSome_none,Bool.false_and,Bool.or_false];rw[qjo (jX _ _),jX]
  refine⟨fr',⟨[],false,A.length,A.length⟩::rs,?_,?_,h3⟩
  ·simp only[Yr,qfB,qd5,ho,hw,hs,h1,ZM]
  intro r hr;rcases List.mem_cons.1 hr with rfl|hr
  ·rfl
  exact h2 r hr
theorem qoW {ms:List Nat} {rs:List Rec} (h: ∀r∈rs,r.fp=[]):qqT ms rs.zipIdx=true:=by
 refine Yp.2 fun q hq=>?_
 have:q.1∈rs:=by
  have:=List.mem_zipIdx_iff_getElem?.1 (show(q.1,q.2)∈rs.zipIdx from hq);exact Yn this
 rw[h q.1 this];rfl
theorem Goes.look (hm:P.follows .mixedOrders=true) {id:Nat} (hs:qhG ops=true) (h:qnz P ops ops.toList s.1 fun fr=>Q .normal (fr,s.2)):Goes P (.region id ops true) s Q:=by
 obtain⟨fr',rs,h1,h2,h3⟩:=qnz.run (call:=qge) (A:=s.2) ops.toList [] rfl h;refine Goes.draw (call:=qge) (s':=(fr',s.2)) hm qic ?_ h3
 have hlen:ops.toList.length=ops.size:=by simp
 rw[hlen]at h1;unfold qcP;rw[show qfB P qge ops ops.size 0 (s.1,s.2)=some ((fr',s.2),rs)from h1];simp only[qee,hs,qoW h2,Bool.and_self,if_true]
def qhZ:List AV->Nat->(Nat->AV)->Nat->AV
 |[],_,g=>g
 |a::as,k,g=>qhZ as (k+1) (qf7 g k a)
theorem qjv: ∀(as:List AV) (k:Nat) (g:Nat->AV) (j:Nat),(j<k\/k+as.length<=j->qhZ as k g j=g j)/\(k<=j-> ∀a,as[j-k]? =some a->qhZ as k g j=a):=by
 intro as
 induction as with
 |nil=>intro k g j;exact⟨fun _=>rfl,fun _ a h=>by simp at h⟩
 |cons a as ih=>
  intro k g j;obtain⟨h1,h2⟩:=ih (k+1) (qf7 g k a) j;simp only[qhZ];refine⟨fun h=>?_,fun h b hb=>?_⟩
  ·have hj:j<k\/k+(as.length+1)<=j:=by simpa using h
   rw[h1 (by omega)];simp only[qf7,qd2 (show j≠k by omega),cond_false]
  rcases Nat.lt_or_ge k j with hk|hk
  ·have e:j-k=(j-(k+1))+1:=by omega
   rw[e]at hb;exact h2 (by omega) b (by simpa using hb)
  have e:j=k:=by omega
  subst e;rw[Nat.sub_self]at hb;simp only[List.getElem?_cons_zero,ZI]at hb;subst hb;rw[h1 (.inl (by omega))];simp only[qf7,qeV rfl,cond_true]
def frFn (n:Nat) (args:List AV):Fr:= .fn n (qhZ args 0 fun _=> .undef)
theorem RF.frFn {F:Nat->Prop} {nu:Nat->Option Nat} {w:World} {args:List AV} {vs:Array Value} {n m:Nat} (hm:args.length+(n-args.length)=m) (h:RL F nu w args vs):RF F nu w (frFn m args) (vs++Array.replicate (n-vs.size) undef):=by
 have hs:=h.1;refine⟨by simp[Go.Av.frFn,Fr.n,hs,hm],fun t v hv=>?_,fun t ht=>?_⟩
 ·have hlt:t<m:=by
   have:=(YB.1 hv).1;simp[hs]at this;omega
  have hb:Nat.blt t m=true:=Nat.ble_eq_true_of_le hlt;show R F nu w (cond (Nat.blt t m) (qhZ args 0 (fun _=> .undef) t) .undef) v;rw[hb,cond_true];rcases Nat.lt_or_ge t args.length with h1|h1
  ·rw[YC (by omega)]at hv;rw[(qjv args 0 _ t).2 (Nat.zero_le _) args[t] (by simp[h1])];exact h.2 t _ v (Ya h1) hv
  rw[(qjv args 0 _ t).1 (by omega)];exact .undef v
 simp only[Go.Av.frFn,Fr.n]at ht;show cond (Nat.blt t m) (qhZ args 0 (fun _=> .undef) t) AV.undef=AV.undef;rw[qbH ht];rfl
end
section
variable {P:Program} {c:Code}
def returns (P:Program) (rs:List ResultVar) (v:AV):XA->St->Prop
 | .exit _,_=>False
 |_,s=> ∃xs,jB P s.1 s.2 rs=some xs/\frz s.2 (List.range s.2.length) 12 (qfp xs)=some v
theorem Stp.hand {F F2:Nat->Prop} {nu2:Nat->Option Nat} {w w':World} {Al:Heap} (st:Stp F (fun _=>none) [] w F2 nu2 Al w'):Stp F (fun _=>none) [] w (FS F2 nu2 Al (List.range Al.length)) (fun _=>none) [] w':=by
 have noOwn: ∀rb,¬qan (fun _=>none) [] w rb:=by
  rintro rb ⟨b,x,r,hb,_⟩;cases hb
 have hF3: ∀rb,rb<w.heap.size->FS F2 nu2 Al (List.range Al.length) rb->F rb:=by
  rintro rb hlt (h1|⟨b,x,_,h1,h2,h3⟩)
  ·rcases st.newF rb h1 with h2|h2|h2
   ·exact h2
   ·omega
   exact absurd h2 (noOwn rb)
  exact absurd (st.own rb hlt (.of h1 h2 h3)) (noOwn rb)
 refine⟨fun rb h=> .inl (st.f rb h),fun _ _ h=>h,st.shape,⟨by simp,by simp,fun _ _=>rfl,fun rb h=>?_,by simp,Glob.mono st.inv.glob (fun _ h=> .inl h) fun _ _=>rfl⟩,fun rb hlt _=>st.keep rb hlt (noOwn rb),?_,st.size,st.os,st.tape,st.output,fun _ _=>rfl,Nat.le_refl _,fun rb h=>?_⟩
 ·rcases h with h|⟨b,x,_,h,_⟩
  ·exact st.inv.ltF rb h
  exact st.inv.ltN b rb h
 ·rintro rb _ ⟨b,x,r,hb,_⟩;cases hb
 rcases Nat.lt_or_ge rb w.heap.size with hlt|hge
 ·exact .inl (hF3 rb hlt h)
 exact .inr (.inl hge)
theorem Goes.fn {f:FuncId} {fn:Func} {args:List AV} {v:AV} {m:Nat} {rs:List ResultVar} (hf:P.funcs[f]? =some fn) (hn:(fn.name== "runtime.NumGoroutine")=false) (hb:fn.body=some c) (hm:args.length+(fn.ntmps-args.length)=m) (hr:fn.results.toList=rs) (h:Goes P c (frFn m args,[]) (returns P rs v)):
 qb P (.fn f) args [] v []:=by
 intro F nu w vs i hargs
 have hnu:nu=fun _=>none:=funext fun b=>i.fresh b (Nat.zero_le _)
 subst hnu;subst hr;refine .inl ⟨⟨fn,hf,hn,by rw[hb];rfl⟩,?_⟩;refine(callsIn_wide (n:=0)).1 ?_;refine callsIn_of_wp_marks hf hb trivial ?_;refine h F w 0 F (fun _=>none) _ w (.refl i) (RF.frFn hm hargs) .nil _ (fun x s' F' nu' a' w' q st hfr hd=>?_);have post: ∀xs,jB P s'.1 s'.2 fn.results.toList=some xs->frz s'.2 (List.range s'.2.length) 12 (qfp xs)=some v->
  LeavesInM (fz none) 0 P fn a'.tmps (fun e w'=> ∃x F' nu',e= .returned x/\Stp F (fun _=>none) [] w F' nu' [] w'/\R F' nu' w' v x) a'.defers .returning w':=by
  intro xs hrs hv;refine qe4 hrs a'.defers st hfr hd (fun F2 nu2 w2 y st2 hR=>?_);exact⟨y,_,_,rfl,st2.hand,qfQ st2.inv 12 hv hR⟩
 cases x with
 |normal=>obtain⟨xs,h1,h2⟩:=q;exact post xs h1 h2
 |ret=>obtain⟨xs,h1,h2⟩:=q;exact post xs h1 h2
 |exit k=>exact q.elim
end
end Go.Av
end
noncomputable section
namespace Go.Av
variable [Glob]
section
variable {P:Program} {call:zY} {fr:Fr} {A:Heap} {d:Option Tmp} {ty:TypeId} {ps:String} {af:Array Edge} {g:Option (Nat×Bool)}
end
section
variable {P:Program} {call:zY} {ops:Array Oper} {l:List Oper} {fr:Fr} {A:Heap} {s:St} {Q:XA->St->Prop}
def qk7 (P:Program) (o:Oper) (ρ:Operand->AV):Option AV:=
 match zZ o ρ with
 |some _=>none
 |none=>match vS o ρ []with
  |[]=>match aop P o ρ with
   | .done v=>some v
   |_=>none
  |_=>none
theorem qmL {o:Oper} {ρ:Operand->AV} (h:zZ o ρ=none) (A:Heap):vS o ρ A=vS o ρ []:=by
 unfold vS;rw[h]
theorem qnw {o:Oper} {ρ:Operand->AV} {v:AV} (h:qk7 P o ρ=some v):zZ o ρ=none/\(∀A,vS o ρ A=[])/\aop P o ρ= .done v:=by
 unfold qk7 at h;split at h
 ·cases h
 rename_i hn;split at h
 ·rename_i hf;split at h
  ·rename_i hv;injection h with h;subst h;exact⟨hn,fun A=>(qmL hn A).trans hf,hv⟩
  cases h
 cases h
def qob (o:Oper) (fr:Fr) (k:Fr->Prop):Option Bool->Option AV->Prop
 |some true,some v=>k (qbz fr o.dst v)
 |some false,_=>k (qbz fr o.dst (.tuple []))
 |_,_=>False
def Looks (P:Program) (ops:Array Oper):List Oper->Fr->(Fr->Prop)->Prop
 |[],fr,K=>K fr
 |o::l,fr,K=>qob o fr (fun fr'=>Looks P ops l fr' K) (vF ops o (maskF (zR ops o) fr)) (qk7 P o (jA (maskF (zR ops o) fr)))
theorem Looks.look: ∀(l:List Oper) {fr:Fr} {K:Fr->Prop},Looks P ops l fr K->qnz P ops l fr K:=by
 intro l
 induction l with
 |nil=>intro fr K h;exact h
 |cons o l ih=>
  intro fr K h;have h:qob o fr (fun fr'=>Looks P ops l fr' K) (vF ops o (maskF (zR ops o) fr)) (qk7 P o (jA (maskF (zR ops o) fr))):=h
  cases hw:vF ops o (maskF (zR ops o) fr)with
  |none=>rw[hw]at h;exact h.elim
  |some w=>
   rw[hw]at h
   cases w with
   |false=>exact .inl ⟨hw,ih h⟩
   |true=>
    cases hv:qk7 P o (jA (maskF (zR ops o) fr))with
    |none=>rw[hv]at h;exact h.elim
    |some v=>
     rw[hv]at h;obtain⟨h1,h2,h3⟩:=qnw hv;exact .inr ⟨hw,h1,h2,v,h3,ih h⟩
theorem Goes.looks (hm:P.follows .mixedOrders=true) {id:Nat} (hs:qhG ops=true) (h:Looks P ops ops.toList s.1 fun fr=>Q .normal (fr,s.2)):Goes P (.region id ops true) s Q:=
 Goes.look hm hs (Looks.look _ h)
end
section
variable {P:Program} {d:Option Tmp} {ty:TypeId} {ps:String} {af:Array Edge} {g:Option (Nat×Bool)} {ρ:Operand->AV}
end
def qtQ (tbl:FuncId->List AV->Option AV):zY:=fun c args A=>match c with
 | .fn f=>match A with
   |[]=>(tbl f args).map fun v=>(v,[])
   |_::_=>none
 | .rd _=>none
 | .mt _ _=>none
theorem qqB {P:Program} {tbl:FuncId->List AV->Option AV} (h: ∀f args v,tbl f args=some v->qb P (.fn f) args [] v []):zf P (qtQ tbl):=by
 intro c args A v A' he
 cases c with
 |rd b=>cases he
 |mt t m=>cases he
 |fn f=>
  cases A with
  |cons x A=>cases he
  |nil=>
   obtain⟨x,hx,hr⟩:=Yd.1 he;simp only[ZP]at hr;obtain⟨rfl,rfl⟩:=hr;exact h f args _ hx
def Still (d:Nat) (a:AV):Prop:= ∀(A:Heap) (S:List Nat),frz A S d a=some a
theorem jR {A:Heap} {S:List Nat} {d:Nat}: ∀{cs:List AV},(∀c∈cs,Still d c)->cs.mapM (frz A S d)=some cs:=by
 intro cs
 induction cs with
 |nil=>intro _;rfl
 |cons c cs ih=>
  intro h;rw[List.mapM_cons,h c (by simp) A S,ih fun x hx=>h x (by simp[hx])];rfl
theorem Still.int (d:Nat) (k:IntKind) (n:Int):Still (d+1) (.int k n):=fun _ _=>rfl
theorem Still.bool (d:Nat) (b:Bool):Still (d+1) (.bool b):=fun _ _=>rfl
theorem Still.str (d:Nat) (b:List UInt8):Still (d+1) (.str b):=fun _ _=>rfl
theorem Still.nilslice (d:Nat):Still (d+1) .nilslice:=fun _ _=>rfl
theorem Still.fslice {d n:Nat} {cs:List AV} (h: ∀c∈cs,Still d c):Still (d+1) (.fslice n cs):=fun A S=>by
 simp only[frz,jR h,ZM]
theorem Still.agg {d:Nat} {cs:List AV} (h: ∀c∈cs,Still d c):Still (d+1) (.agg cs):=fun A S=>by
 simp only[frz,jR h,ZM]
theorem Still.tuple {d:Nat} {cs:List AV} (h: ∀c∈cs,Still d c):Still (d+1) (.tuple cs):=fun A S=>by
 simp only[frz,jR h,ZM]
end Go.Av
end
