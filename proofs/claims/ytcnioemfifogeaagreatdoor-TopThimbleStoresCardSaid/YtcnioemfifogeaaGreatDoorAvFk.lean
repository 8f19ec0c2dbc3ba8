/-
  The evaluator once more, told by recursors, so that the kernel has few steps to go; where it tells something, callP tells the same.
-/
import Derived.Test.YtcnioemfifogeaaGreatDoorAvFn
import Derived.IntWalk
set_option linter.unusedSectionVars false
noncomputable section
namespace Go.Av
variable [Glob]
def ob {α β:Type} (x:Option α) (k:α->Option β):Option β:=Option.rec (motive:=fun _=>Option β) none k x
theorem qhb {α β:Type} {x:Option α} {k:α->Option β} {r:β} (h:ob x k=some r): ∃a,x=some a/\k a=some r:=by
 cases x with
 |none=>cases h
 |some a=>exact⟨a,rfl,h⟩
def qiF {α:Type} (b:Bool) (x y:α):α:=Bool.rec (motive:=fun _=>α) y x b
theorem qfK {α:Type} (b:Bool) (x y:α):qiF b x y=if b=true then x else y:=by cases b<;>rfl
def hget (A:Heap):Nat->Option Blk:=
 List.rec (motive:=fun _=>Nat->Option Blk) (fun _=>none) (fun x _ ih b=>Nat.rec (motive:=fun _=>Option Blk) (some x) (fun n _=>ih n) b) A
theorem qz2: ∀(A:Heap) (b:Nat),hget A b=A[b]? :=by
 intro A
 induction A with
 |nil=>intro b;rfl
 |cons x A ih=>
  intro b
  cases b with
  |zero=>rfl
  |succ b=>exact(ih b).trans (by simp)
def hset (A:Heap):Nat->Blk->Heap:=
 List.rec (motive:=fun _=>Nat->Blk->Heap) (fun _ _=>[]) (fun y ys ih b x=>Nat.rec (motive:=fun _=>Heap) (x::ys) (fun n _=>y::ih n x) b) A
theorem qAa: ∀(A:Heap) (b:Nat) (x:Blk),hset A b x=A.set b x:=by
 intro A
 induction A with
 |nil=>intro b x;rfl
 |cons y A ih=>
  intro b x
  cases b with
  |zero=>rfl
  |succ b=>exact congrArg (y:: ·) (ih b x)
def happ (A:Heap) (x:Blk):Heap:=List.rec (motive:=fun _=>Heap) [x] (fun y _ ih=>y::ih) A
theorem qAb: ∀(A:Heap) (x:Blk),happ A x=A++[x]:=by
 intro A
 induction A with
 |nil=>intro x;rfl
 |cons y A ih=>intro x;exact congrArg (y:: ·) (ih x)
def hlen (A:Heap):Nat:=List.rec (motive:=fun _=>Nat) 0 (fun _ _ ih=>Nat.succ ih) A
theorem qlk: ∀(A:Heap),hlen A=A.length:=by
 intro A
 induction A with
 |nil=>rfl
 |cons y A ih=>exact congrArg Nat.succ ih
def qGs (v:Value):AV:=
 match v with
 | .int k n=> .int k n
 | .bool b=> .bool b
 |v=>qsf 3 v
theorem qGk (v:Value):qGs v=qsf 3 v:=by cases v<;>rfl
def qjP (fr:Fr) (x:Operand):AV:=
 Operand.rec (motive:=fun _=>AV) (fun t=>fr.get t) (fun v=>qGs v) (fun g=>Glob.gl g) (fun f=> .func (.func f) [] []) x
theorem qxx (fr:Fr):qjP fr=qiJ fr:=by
 funext x
 cases x with
 |const v=>exact qGk v
 |_=>rfl
def qDq {β:Type} (a:AV) (k:IntKind->Int->Option β):Option β:=
 AV.rec (motive_1:=fun _=>Option β) (motive_2:=fun _=>Unit) none (fun _=>none) k (fun _=>none) none (fun _ _=>none) (fun _ _ _=>none) none (fun _ _ _ _ _=>none) (fun _ _ _=>none) (fun _ _ _=>none) (fun _ _ _ _=>none) (fun _ _ _=>none) none (fun _=>none)
  (fun _ _ _ _=>none) (fun _ _ _ _ _=>none) (fun _=>none) none (fun _ _ _=>none) none (fun _ _=>none) (fun _ _=>none) none () (fun _ _ _ _=>()) a
theorem qAX {β:Type} {a:AV} {k:IntKind->Int->Option β} {r:β} (h:qDq a k=some r): ∃q n,a= .int q n/\k q n=some r:=by
 cases a<;>first|exact⟨_,_,rfl,h⟩|cases h
def qEc {β:Type} (k:IntKind) (x:Option β):Option β:=IntKind.rec (motive:=fun _=>Option β) none none none x none none none none k
def qHr (n:Int):Int:=
 Int.rec (motive:=fun _=>Int) (fun m=>qiF (Nat.blt m 9223372036854775808) (.ofNat m) (IntKind.wrap .i64 (.ofNat m))) (fun m=>qiF (Nat.blt m 9223372036854775808) (.negSucc m) (IntKind.wrap .i64 (.negSucc m))) n
theorem qHV (n:Int):qHr n=IntKind.wrap .i64 n:=by
 cases n with
 |ofNat m=>
  show qiF _ _ _=_
  rw[qfK]
  split
  ·rename_i h
   have h:m<9223372036854775808:=Ys h
   exact(Go.IntWalk.i64_in _ ⟨by simp only[Int.ofNat_eq_natCast];omega,by simp only[Int.ofNat_eq_natCast];omega⟩).symm
  rfl
 |negSucc m=>
  show qiF _ _ _=_
  rw[qfK]
  split
  ·rename_i h
   have h:m<9223372036854775808:=Ys h
   have:=Int.negSucc_eq m
   exact(Go.IntWalk.i64_in _ ⟨by omega,by omega⟩).symm
  rfl
def addK (a b:Int):Int:=
 Int.rec (motive:=fun _=>Int) (fun m=>Int.rec (motive:=fun _=>Int) (fun n=> .ofNat (Nat.add m n)) (fun n=>Int.add (.ofNat m) (.negSucc n)) b) (fun m=>Int.add (.negSucc m) b) a
theorem qIn (a b:Int):addK a b=a+b:=by
 cases a<;>cases b<;>rfl
def mulK (a b:Int):Int:=
 Int.rec (motive:=fun _=>Int) (fun m=>Int.rec (motive:=fun _=>Int) (fun n=> .ofNat (Nat.mul m n)) (fun n=>Int.mul (.ofNat m) (.negSucc n)) b) (fun m=>Int.mul (.negSucc m) b) a
theorem qIH (a b:Int):mulK a b=a*b:=by
 cases a<;>cases b<;>rfl
def ltK (a b:Int):Bool:=
 Int.rec (motive:=fun _=>Bool) (fun m=>Int.rec (motive:=fun _=>Bool) (fun n=>Nat.blt m n) (fun _=>false) b) (fun m=>Int.rec (motive:=fun _=>Bool) (fun _=>true) (fun n=>Nat.blt n m) b) a
theorem qJx (a b:Int):ltK a b=decide (a<b):=by
 have key: ∀m n:Nat,Nat.blt m n=decide (m<n):=by
  intro m n
  by_cases h:m<n
  ·rw[decide_eq_true h];exact Nat.ble_eq_true_of_le h
  rw[decide_eq_false h];exact qrM (by omega)
 cases a with
 |ofNat m=>
  cases b with
  |ofNat n=>exact(key m n).trans (decide_eq_decide.2 (by simp))
  |negSucc n=>
   refine(decide_eq_false ?_).symm
   have:=Int.negSucc_eq n
   simp only[Int.ofNat_eq_natCast]
   omega
 |negSucc m=>
  cases b with
  |ofNat n=>
   refine(decide_eq_true ?_).symm
   have:=Int.negSucc_eq m
   simp only[Int.ofNat_eq_natCast]
   omega
  |negSucc n=>
   refine(key n m).trans (decide_eq_decide.2 ?_)
   have:=Int.negSucc_eq n
   have:=Int.negSucc_eq m
   omega
def eqK (a b:Int):Bool:=
 Int.rec (motive:=fun _=>Bool) (fun m=>Int.rec (motive:=fun _=>Bool) (fun n=>Nat.beq m n) (fun _=>false) b) (fun m=>Int.rec (motive:=fun _=>Bool) (fun _=>false) (fun n=>Nat.beq m n) b) a
theorem qJu (a b:Int):eqK a b=(a==b):=by
 have key: ∀m n:Nat,Nat.beq m n=decide (m=n):=by
  intro m n
  by_cases h:m=n
  ·rw[decide_eq_true h];exact qw6 h
  rw[decide_eq_false h];exact qvT h
 have e:(a==b)=decide (a=b):=by rfl
 rw[e]
 cases a with
 |ofNat m=>
  cases b with
  |ofNat n=>exact(key m n).trans (decide_eq_decide.2 (by simp only[Int.ofNat_eq_natCast];omega))
  |negSucc n=>exact(decide_eq_false (by simp)).symm
 |negSucc m=>
  cases b with
  |ofNat n=>exact(decide_eq_false (by simp)).symm
  |negSucc n=>exact(key m n).trans (decide_eq_decide.2 (by simp))
def binI (op:BinOp) (a b:Int):Option AV:=
 match op with
 | .add=>some (.int .i64 (qHr (addK a b)))
 | .mul=>some (.int .i64 (qHr (mulK a b)))
 | .eql=>some (.bool (eqK a b))
 | .neq=>some (.bool (qiF (eqK a b) false true))
 | .lss=>some (.bool (ltK a b))
 | .leq=>some (.bool (qiF (ltK b a) false true))
 | .gtr=>some (.bool (ltK b a))
 | .geq=>some (.bool (qiF (ltK a b) false true))
 |_=>none
theorem qIy {op:BinOp} {a b:Int} {v:AV} (h:binI op a b=some v) (P:Program) (t:TypeId) (ox oy:Operand):qxH P op t ox oy (.int .i64 a) (.int .i64 b)=some v:=by
 have nb: ∀x:Bool,qiF x false true=!x:=by intro x;cases x<;>rfl
 cases op<;>simp only[binI,qHV,qIn,qIH,qJx,qJu,nb,reduceCtorEq]at h<;>rw[<-h]<;>simp only[qxH,qy8,qCW,ZF,if_false,if_true,ZI,AV.bool.injEq]
 ·rfl
 ·rw[<-decide_not];exact decide_eq_decide.2 (by omega)
 rw[<-decide_not];exact decide_eq_decide.2 (by omega)
def binK (P:Program) (op:BinOp) (t:TypeId) (ox oy:Operand) (x y:AV):Option AV:=
 Option.rec (motive:=fun _=>Option AV) (qxH P op t ox oy x y) some
  (qDq x fun k a=>qEc k (qDq y fun q b=>qEc q (binI op a b)))
theorem qA1 {β:Type} {k:IntKind} {x:Option β} {r:β} (h:qEc k x=some r):k= .i64/\x=some r:=by
 cases k<;>first|exact⟨rfl,h⟩|cases h
theorem qIa (P:Program) (op:BinOp) (t:TypeId) (ox oy:Operand) (x y:AV):binK P op t ox oy x y=qxH P op t ox oy x y:=by
 unfold binK
 cases h:qDq x fun k a=>qEc k (qDq y fun q b=>qEc q (binI op a b))with
 |none=>rfl
 |some v=>
  obtain⟨k,a,e1,h1⟩:=qAX h
  obtain⟨e2,h2⟩:=qA1 h1
  obtain⟨q,b,e3,h3⟩:=qAX h2
  obtain⟨e4,h4⟩:=qA1 h3
  subst e1 e2 e3 e4
  exact(qIy h4 P t ox oy).symm
def optK (x:Option AV):Pg:=Option.rec (motive:=fun _=>Pg) .fail .done x
theorem qIg (x:Option AV):optK x= .opt x:=by cases x<;>rfl
def qGA (P:Program) (o:Oper) (ρ:Operand->AV):Pg:=
 match o.op with
 | .move x=> .done (ρ x)
 | .assign x=> .done (ρ x)
 | .binOp op t x y _=>optK (binK P op t x y (ρ x) (ρ y))
 |_=>aop P o ρ
theorem qFq (P:Program) (o:Oper) (ρ:Operand->AV):qGA P o ρ=aop P o ρ:=by
 unfold qGA
 split
 ·rename_i h;simp only[aop,h]
 ·rename_i h;simp only[aop,h]
 ·rename_i h;simp only[aop,h,qIg,qIa]
 rfl
def qre (fr:Fr) (dst:Option Tmp) (v:AV):Fr:=Option.rec (motive:=fun _=>Fr) fr (fun d=>fr.set d v) dst
theorem qps (fr:Fr) (dst:Option Tmp) (v:AV):qre fr dst v=qrB fr dst v:=by cases dst<;>rfl
def qvf (ops:Array Oper) (o:Oper) (fr:Fr):Option Bool:=Option.rec (motive:=fun _=>Option Bool) (some true) (fun _=>qkB ops o fr) o.guard
theorem qwk (ops:Array Oper) (o:Oper) (fr:Fr):qvf ops o fr=qkB ops o fr:=by
 unfold qvf
 cases h:o.guard with
 |none=>simp[qkB,h]
 |some g=>rfl
def qDN (p:Pg):Heap->qf6->Res:=
 Pg.rec (motive:=fun _=>Heap->qf6->Res) (fun _ _=>none) (fun v A f=>some (v,A,f))
  (fun b _ ih A f=>ob (hget A b) fun x=>ih x A ((b,false)::f))
  (fun b x _ ih A f=>qiF (Nat.blt b (hlen A)) (ih (hset A b x) ((b,true)::f)) none)
  (fun x _ ih A f=>ih (hlen A) (happ A x) f) p
theorem qHi: ∀(p:Pg) (A:Heap) (f:qf6),qDN p A f=exec p A f:=by
 intro p
 induction p with
 |fail=>intro A f;rfl
 |done v=>intro A f;rfl
 |get b k ih=>
  intro A f
  show ob (hget A b) _=_
  rw[qz2]
  simp only[exec]
  cases A[b]? with
  |none=>rfl
  |some x=>exact ih x A _
 |set b x k ih=>
  intro A f
  show qiF (Nat.blt b (hlen A)) (qDN k (hset A b x) _) none=_
  rw[qlk,qAa,qfK,ih]
  simp only[exec]
  by_cases h:b<A.length
  ·rw[if_pos h,if_pos (show Nat.blt b A.length=true from Nat.ble_eq_true_of_le h)]
  rw[if_neg h,if_neg (by rw[qrM (by omega)];simp)]
 |new x k ih=>
  intro A f
  show qDN (k (hlen A)) (happ A x) f=_
  rw[qlk,qAb,ih]
  rfl
def qnm (S:List Nat) (lo:Nat) (p:Pg):Heap->qf6->Res:=
 Pg.rec (motive:=fun _=>Heap->qf6->Res) (fun _ _=>none) (fun v A f=>some (v,A,f))
  (fun b _ ih A f=>qiF (S.contains b||Nat.ble lo b) (ob (hget A b) fun x=>ih x A ((b,false)::f)) none)
  (fun b x _ ih A f=>qiF (S.contains b||Nat.ble lo b) (qiF (Nat.blt b (hlen A)) (ih (hset A b x) ((b,true)::f)) none) none)
  (fun x _ ih A f=>ih (hlen A) (happ A x) f) p
theorem qFj {S:List Nat} {lo b:Nat} (h:(S.contains b||Nat.ble lo b)=true):b∈S\/lo<=b:=by
 simp only[Bool.or_eq_true]at h
 rcases h with h|h
 ·exact .inl (by simpa using h)
 exact .inr (Ys h)
theorem qyr (S:List Nat) (lo:Nat): ∀(p:Pg) (A M:Heap) (f:qf6) (v:AV) (A':Heap) (f':qf6),M.length=A.length->lo<=A.length->(∀b,(b∈S\/lo<=b)->M[b]? =A[b]?)->qnm S lo p A f=some (v,A',f')->
 ∃M',exec p M f=some (v,M',f')/\M'.length=A'.length/\(∀b,(b∈S\/lo<=b)->M'[b]? =A'[b]?)/\(∀b,b<lo->b∉S->A'[b]? =A[b]?)/\A.length<=A'.length:=by
 intro p
 induction p with
 |fail=>intro A M f v A' f' _ _ _ h;cases h
 |done u=>
  intro A M f v A' f' hl hlo hM h
  have h:some (u,A,f)=some (v,A',f'):=h
  simp only[ZI,ZP]at h
  obtain⟨rfl,rfl,rfl⟩:=h
  exact⟨M,rfl,hl,hM,fun _ _ _=>rfl,Nat.le_refl _⟩
 |get b k ih=>
  intro A M f v A' f' hl hlo hM h
  have h:qiF (S.contains b||Nat.ble lo b) (ob (hget A b) fun x=>qnm S lo (k x) A ((b,false)::f)) none=some (v,A',f'):=h
  rw[qfK]at h
  split at h
  ·rename_i hs
   obtain⟨x,hx,h⟩:=qhb h
   rw[qz2]at hx
   have hMb:=hM b (qFj hs)
   obtain⟨M',h1,h2⟩:=ih x A M _ v A' f' hl hlo hM h
   refine⟨M',?_,h2⟩
   simp only[exec,hMb,hx]
   exact h1
  cases h
 |set b x k ih=>
  intro A M f v A' f' hl hlo hM h
  have h:qiF (S.contains b||Nat.ble lo b) (qiF (Nat.blt b (hlen A)) (qnm S lo k (hset A b x) ((b,true)::f)) none) none=some (v,A',f'):=h
  rw[qfK]at h
  split at h
  ·rename_i hs
   rw[qfK]at h
   split at h
   ·rename_i hlt
    rw[qlk]at hlt
    rw[qAa]at h
    have hb:b<A.length:=Ys hlt
    obtain⟨M',h1,h2,h3,h4,h5⟩:=ih (A.set b x) (M.set b x) _ v A' f' (by simp[hl]) (by simpa using hlo) (fun c hc=>by
     by_cases e:b=c
     ·subst e
      rw[List.getElem?_set_self (by omega),List.getElem?_set_self hb]
     rw[List.getElem?_set_ne e,List.getElem?_set_ne e,hM c hc]) h
    refine⟨M',?_,h2,h3,fun c hc hcS=>?_,by simpa using h5⟩
    ·simp only[exec,hl,hb,if_true]
     exact h1
    rw[h4 c hc hcS,List.getElem?_set_ne]
    rintro rfl
    rcases qFj hs with h|h
    ·exact hcS h
    omega
   cases h
  cases h
 |new x k ih=>
  intro A M f v A' f' hl hlo hM h
  have h:qnm S lo (k (hlen A)) (happ A x) f=some (v,A',f'):=h
  rw[qlk,qAb]at h
  obtain⟨M',h1,h2,h3,h4,h5⟩:=ih A.length (A++[x]) (M++[x]) f v A' f' (by simp[hl]) (by simp;omega) (fun c hc=>by
   rcases Nat.lt_or_ge c A.length with hlt|hge
   ·rw[Yf (by omega),Yf hlt,hM c hc]
   rw[Yo (by omega),Yo hge,hl]) h
  refine⟨M',?_,h2,h3,fun c hc hcS=>?_,?_⟩
  ·simp only[exec,hl]
   exact h1
  ·rw[h4 c hc hcS,Yf (by omega)]
  simp at h5;omega
def Le (a b:qgt):Prop:= ∀c args A r,a c args A=some r->b c args A=some r
section
variable (P:Program) (call:qgt)
def qvN (o:Op):Bool:=match o with
 | .call _=>true
 |_=>false
def qAk (o:Oper) (fr:Fr) (A:Heap):Res:=
 qiF (qvN o.op)
  (Option.rec (motive:=fun _=>Res) (qDN (qGA P o (qjP fr)) A []) (fun g=>ob (call g.1 g.2 A) fun r=>some (r.1,r.2,[])) (qgG o (qjP fr)))
  (qDN (qGA P o (qjP fr)) A [])
def qzg (ops:Array Oper) (l:List Oper):Fr->Heap->Option (Fr×Heap):=
 List.rec (motive:=fun _=>Fr->Heap->Option (Fr×Heap)) (fun fr A=>some (fr,A))
  (fun o _ ih fr A=>ob (qvf ops o fr) fun w=>qiF w (ob (qAk P call o fr A) fun r=>ih (qre fr o.dst r.1) r.2.1) (ih (qre fr o.dst (.tuple [])) A)) l
def qCl (o:Oper) (fr:Fr) (A:Heap):Option (AV×Heap×Rec):=
 qiF (qvN o.op&&(qgG o (qjP fr)).isSome)
  (ob (qwr P call o fr A) fun r=>some (r.1,qiF (r.2.2.fp.isEmpty&&Nat.beq (hlen r.2.1) (hlen A)) A r.2.1,r.2.2))
  (qiF ((qlI o (qjP fr) A).all fun b=>Nat.blt b (hlen A))
   (ob (qnm (qlI o (qjP fr) A) (hlen A) (qGA P o (qjP fr)) A []) fun r=>some (r.1,r.2.1,⟨qlI o (qjP fr) A,r.2.2.any (·.2),hlen A,hlen r.2.1⟩)) none)
def qEW (ops:Array Oper) (o:Oper) (fr:Fr) (A:Heap):Option ((Fr×Heap)×Rec):=
 ob (qvf ops o (maskF (qfQ ops o) fr)) fun w=>qiF w
  (ob (qCl P call o (maskF (qfQ ops o) fr) A) fun r=>some ((qre fr o.dst r.1,r.2.1),r.2.2))
  (some ((qre fr o.dst (.tuple []),A),⟨[],false,hlen A,hlen A⟩))
def qHL (ops:Array Oper) (l:List Oper):Fr->Heap->Option ((Fr×Heap)×List Rec):=
 List.rec (motive:=fun _=>Fr->Heap->Option ((Fr×Heap)×List Rec)) (fun fr A=>some ((fr,A),[]))
  (fun o _ ih fr A=>ob (qEW P call ops o fr A) fun q=>ob (ih q.1.1 q.1.2) fun r=>some (r.1,q.2::r.2)) l
def qBN (ops:Array Oper) (fr:Fr) (A:Heap):Option (Fr×Heap):=
 ob (qHL P call ops ops.toList fr A) fun r=>qiF (qwP ops r.2) (some r.1) none
def qyX (ops:Array Oper) (draw:Bool) (s:St):Option St:=
 qiF draw (qBN P call ops s.1 s.2) (qzg P call ops ops.toList s.1 s.2)
variable (N:Nat) (rd:Option Nat)
def qHm (n:Nat) (f:St->Option (XA×St)):St->Option (XA×St):=
 Nat.rec (motive:=fun _=>St->Option (XA×St)) (fun _=>none)
  (fun _ ih s=>ob (f s) fun r=>XA.rec (motive:=fun _=>Option (XA×St)) (ih r.2) (fun id=>some (.exit id,r.2)) (some (.ret,r.2)) r.1) n
def qCT (a:AV):Option Bool:=match a with
 | .bool b=>some b
 |_=>none
def quG (c:Code):St->Option (XA×St):=
 Code.rec (motive:=fun _=>St->Option (XA×St))
  (fun s=>some (.normal,s))
  (fun _ ops draw s=>ob (qyX P call ops draw s) fun r=>some (.normal,r))
  (fun _ _ iha ihb s=>ob (iha s) fun r=>XA.rec (motive:=fun _=>Option (XA×St)) (ihb r.2) (fun id=>some (.exit id,r.2)) (some (.ret,r.2)) r.1)
  (fun c _ _ iha ihb s=>ob (qCT (qjP s.1 c)) fun b=>qiF b (iha s) (ihb s))
  (fun id _ ih s=>ob (ih s) fun r=>XA.rec (motive:=fun _=>Option (XA×St)) (some (.normal,r.2)) (fun k=>qiF (Nat.beq k id) (some (.normal,r.2)) (some (.exit k,r.2))) (some (.ret,r.2)) r.1)
  (fun _ ih s=>qHm N ih s)
  (fun g ps asg body _ _ s=>qe9 P call N rd (.rangeFunc g ps asg body) s)
  (fun id s=>some (.exit id,s))
  (fun _ ih s=>ih s)
  (fun _ s=>some (.normal,s))
  (fun _ _=>none)
  (fun s=>some (.ret,s))
  (fun _ _=>none) c
def qEr (b:Nat) (args:List AV) (A:Heap):Option (AV×Heap):=
 match A[b]? with
 |some (.loop _ _ fr ps asg bd)=>
  if args.length=ps.size then
   match quG P call N (some b) asg (setAll fr ps.toList args,A)with
   |some (.normal,fr1,A1)=>match A1[b]? with
    |some (.loop .ready p1 f1 ps1 as1 bd1)=>qEn b (quG P call N (some b) bd (fr1,A1.set b (.loop .busy p1 f1 ps1 as1 bd1)))
    |_=>none
   |_=>none
  else none
 |_=>none
def qEV (f:FuncId) (args:List AV) (A:Heap):Option (AV×Heap):=
 match P.funcs[f]? with
 |some fn=>
  if fn.name== "runtime.NumGoroutine" then none else
  match fn.body with
  |some c=>
   match quG P call N none c (frOf fn.ntmps args,A)with
   |some (.exit _,_)=>none
   |some (_,fr,A')=>(qiG P fr A' fn.results.toList).map fun vs=>(qyE vs,A')
   |none=>none
  |none=>none
 |none=>none
def qCJ (c:Cl) (args:List AV) (A:Heap):Option (AV×Heap):=
 Cl.rec (motive:=fun _=>Option (AV×Heap)) (fun f=>qEV P call N f args A) (fun b=>qEr P call N b args A) (fun _ _=>none) c
end
def qz3 (P:Program) (call:qgt) (N:Nat) (post:qgt):qgt:=fun c args A=>
 Option.rec (motive:=fun _=>Option (AV×Heap)) (qCJ P call N c args A) some (post c args A)
def qBQ (mt:TypeId->String->Option FuncId) (c:Cl):Cl:=
 Cl.rec (motive:=fun _=>Cl) (fun f=> .fn f) (fun b=> .rd b) (fun t m=>Option.rec (motive:=fun _=>Cl) (.mt t m) (fun f=> .fn f) (mt t m)) c
def qHJ (P:Program) (N:Nat) (mt:TypeId->String->Option FuncId) (pre post:qgt) (pl:FuncId->Bool) (d:Nat):qgt:=
 Nat.rec (motive:=fun _=>qgt) pre (fun _ ih c args A=>Option.rec (motive:=fun _=>Option (AV×Heap)) (qDV (qz3 P ih N post) pl (qBQ mt c) args A) some (pre (qBQ mt c) args A)) d
section
variable {P:Program} {call call':qgt} {N:Nat} {rd:Option Nat}
theorem qDH (hc:Le call call') {o:Oper} {fr:Fr} {A:Heap} {r:AV×Heap×qf6} (h:qow P call o fr A=some r):qow P call' o fr A=some r:=by
 unfold qow at h⊢
 split at h
 ·obtain⟨x,hx,he⟩:=Yd.1 h
  rw[hc _ _ _ _ hx]
  exact congrArg some he
 exact h
theorem qF6 (hc:Le call call') {o:Oper} {fr:Fr} {A:Heap} {r:AV×Heap×qf6} (h:qAk P call o fr A=some r):qow P call' o fr A=some r:=by
 unfold qAk at h
 rw[qxx,qfK,qHi,qFq]at h
 unfold qow
 split at h
 ·cases hg:qgG o (qiJ fr)with
  |none=>rw[hg]at h;exact h
  |some g=>
   rw[hg]at h
   obtain⟨x,hx,he⟩:=qhb h
   obtain⟨g,args⟩:=g
   simp only[hc _ _ _ _ hx,ZM]
   exact he
 rename_i hn
 have:qgG o (qiJ fr)=none:=by
  unfold qgG
  cases ho:o.op<;>simp[ho,qvN]at hn⊢
 rw[this]
 exact h
theorem qGi (hc:Le call call') {ops:Array Oper}: ∀(l:List Oper) {fr:Fr} {A:Heap} {r:Fr×Heap},qzg P call ops l fr A=some r->quj P call' ops l fr A=some r:=by
 intro l
 induction l with
 |nil=>intro fr A r h;exact h
 |cons o l ih=>
  intro fr A r h
  obtain⟨w,hw,h⟩:=qhb (show ob (qvf ops o fr) (fun w=>qiF w (ob (qAk P call o fr A) fun r=>qzg P call ops l (qre fr o.dst r.1) r.2.1) (qzg P call ops l (qre fr o.dst (.tuple [])) A))=some r from h)
  rw[qwk]at hw
  simp only[quj,hw]
  cases w with
  |true=>
   obtain⟨x,hx,h⟩:=qhb (show ob (qAk P call o fr A) (fun r=>qzg P call ops l (qre fr o.dst r.1) r.2.1)=some r from h)
   obtain⟨v,A',f⟩:=x
   rw[qps]at h
   simp only[qF6 hc hx]
   exact ih h
  |false=>
   have h:qzg P call ops l (qre fr o.dst (.tuple [])) A=some r:=h
   rw[qps]at h
   exact ih h
theorem qDc (hc:Le call call') {o:Oper} {fr:Fr} {A:Heap} {r:AV×Heap×Rec} (h:qwr P call o fr A=some r):qwr P call' o fr A=some r:=by
 unfold qwr at h⊢
 simp only at h⊢
 split at h
 ·rename_i hall
  rw[if_pos hall]
  split at h
  ·rename_i v B f hs
   rw[qDH hc hs]
   exact h
  cases h
 cases h
theorem qBM {A B:Heap} (h:B.length=A.length):merge [] A B=A:=by
 refine List.ext_getElem? fun b=>?_
 rw[qrU]
 rcases Nat.lt_or_ge b A.length with hb|hb
 ·rw[Ya (show b<B.length by omega),Ya hb]
  simp[hb,List.getD_eq_getElem?_getD]
 rw[Yg (by omega),Yg hb]
 rfl
theorem qFV (hc:Le call call') {o:Oper} {fr:Fr} {A:Heap} {r:AV×Heap×Rec} (h:qCl P call o fr A=some r):qwr P call' o fr A=some r:=by
 unfold qCl at h
 rw[qxx,qFq]at h
 rw[qfK]at h
 split at h
 ·obtain⟨x,hx,h⟩:=qhb h
  have hx':=qDc hc hx
  rw[hx']
  rw[<-h]
  obtain⟨v,B,q⟩:=x
  simp only[ZI,ZP,true_and,and_true]
  rw[qfK]
  split
  ·rename_i hb
   simp only[Bool.and_eq_true,qlk]at hb
   obtain⟨h1,h2⟩:=hb
   have hlen:=Nat.eq_of_beq_eq_true h2
   unfold qwr at hx
   simp only at hx
   split at hx
   ·split at hx
    ·split at hx
     ·simp only[ZI,ZP]at hx
      obtain⟨_,h3,h4⟩:=hx
      rw[<-h4]at h1
      simp only[List.isEmpty_iff]at h1
      rw[h1]at h3
      rw[<-h3]at hlen⊢
      rw[qot]at hlen
      exact qBM hlen
     cases hx
    cases hx
   cases hx
  rfl
 rename_i hn
 rw[qfK]at h
 split at h
 ·rename_i hall
  obtain⟨x,hx,h⟩:=qhb h
  obtain⟨v,A',f⟩:=x
  have hnc:qgG o (qiJ fr)=none:=by
   cases hg:qgG o (qiJ fr)with
   |none=>rfl
   |some g=>
    exfalso
    apply hn
    rw[hg]
    unfold qgG at hg
    cases ho:o.op<;>simp[ho,qvN]at hg⊢
  simp only[qlk]at hall hx h
  generalize hS:qlI o (qiJ fr) A=S at hall hx h
  have hall2: ∀b∈S,b<A.length:=fun b hb=>Ys (Yp.1 hall b hb)
  obtain⟨M',h1,h2,h3,h4,h5⟩:=qyr S A.length (aop P o (qiJ fr)) A (mask S A) [] v A' f (qjq _ _) (Nat.le_refl _) (fun b hb=>by
   rw[qtE]
   rcases hb with hb|hb
   ·rw[Ya (hall2 b hb)]
    simp[hb]
   rw[Yg hb];rfl) hx
  have hm:merge S A M'=A':=by
   refine List.ext_getElem? fun b=>?_
   rw[qrU]
   rcases Nat.lt_or_ge b A'.length with hb|hb
   ·rw[Ya (show b<M'.length by omega)]
    simp only[ZM]
    by_cases hc:b<A.length/\b∉S
    ·have e:(decide (b<A.length)&&!S.contains b)=true:=by simp[hc.1,hc.2]
     rw[if_pos e,h4 b hc.1 hc.2,Ya hc.1]
     simp[List.getD_eq_getElem?_getD,List.getElem?_eq_getElem hc.1]
    have e: ¬(decide (b<A.length)&&!S.contains b)=true:=by
     simp only[Bool.and_eq_true,decide_eq_true_eq,Bool.not_eq_true',List.contains_eq_mem]
     intro h
     exact hc ⟨h.1,by simpa using h.2⟩
    rw[if_neg e,<-h3 b (by
     rcases Nat.lt_or_ge b A.length with hlt|hge
     ·left
      exact Classical.byContradiction fun hs=>hc ⟨hlt,hs⟩
     exact .inr hge),Ya (show b<M'.length by omega)]
   rw[Yg (show M'.length<=b by omega),Yg hb]
   rfl
  have hall3:(S.all fun b=>decide (b<A.length))=true:=Yp.2 fun b hb=>decide_eq_true (hall2 b hb)
  unfold qwr
  simp only[hS,hall3,if_true]
  unfold qow
  simp only[hnc,h1,Option.isSome_none,Bool.false_and,Bool.or_false]
  have h0:A.length<=M'.length:=by omega
  rw[if_pos h0,hm,<-h,h2]
 cases h
theorem qF1 (hc:Le call call') {ops:Array Oper} {j:Nat} {o:Oper} (ho:ops[j]? =some o) {fr:Fr} {A:Heap} {r:(Fr×Heap)×Rec} (h:qEW P call ops o fr A=some r):qvY P call' ops j (fr,A)=some r:=by
 obtain⟨w,hw,h⟩:=qhb h
 rw[qwk]at hw
 simp only[qvY,ho,hw]
 cases w with
 |true=>
  obtain⟨x,hx,h⟩:=qhb (show ob (qCl P call o (maskF (qfQ ops o) fr) A) (fun r=>some ((qre fr o.dst r.1,r.2.1),r.2.2))=some r from h)
  obtain⟨v,B,q⟩:=x
  rw[qps]at h
  simp only[qFV hc hx]
  exact h
 |false=>
  have h:some ((qre fr o.dst (.tuple []),A),(⟨[],false,hlen A,hlen A⟩:Rec))=some r:=h
  rw[qps,qlk]at h
  exact h
theorem qHM (hc:Le call call') {ops:Array Oper}: ∀(l pre:List Oper),ops.toList=pre++l-> ∀{fr:Fr} {A:Heap} {r:(Fr×Heap)×List Rec},qHL P call ops l fr A=some r->qyl P call' ops l.length pre.length (fr,A)=some r:=by
 intro l
 induction l with
 |nil=>intro pre _ fr A r h;exact h
 |cons o l ih=>
  intro pre hp fr A r h
  obtain⟨q,hq,h⟩:=qhb (show ob (qEW P call ops o fr A) (fun q=>ob (qHL P call ops l q.1.1 q.1.2) fun r=>some (r.1,q.2::r.2))=some r from h)
  obtain⟨x,hx,h⟩:=qhb h
  have ho:ops[pre.length]? =some o:=by
   rw[<-YT,hp]
   simp
  obtain⟨⟨fr1,A1⟩,rc⟩:=q
  have h2:=ih (pre++[o]) (by simp[hp]) hx
  simp only[Yq,Yr,List.length_nil,Nat.zero_add]at h2
  simp only[Yr,qyl,qF1 hc ho hq,h2,ZM]
  exact h
theorem qC8 (hc:Le call call') {ops:Array Oper} {draw:Bool} {s r:St} (h:qyX P call ops draw s=some r):qsK P call' ops draw s=some r:=by
 unfold qyX at h
 unfold qsK
 cases draw with
 |true=>
  obtain⟨x,hx,h⟩:=qhb (show qBN P call ops s.1 s.2=some r from h)
  have h2:=qHM hc ops.toList [] rfl hx
  have hlen:ops.toList.length=ops.size:=by simp
  rw[hlen]at h2
  simp only[if_true,qtJ]
  rw[show qyl P call' ops ops.size 0 (s.1,s.2)=some x from h2]
  obtain⟨x1,x2⟩:=x
  rw[qfK]at h
  exact h
 |false=>
  simp only[ZF,if_false]
  exact qGi hc _ h
theorem qHf {f f':St->Option (XA×St)} (hf: ∀s r,f s=some r->f' s=some r): ∀(n:Nat) {s:St} {r:XA×St},qHm n f s=some r->qx7 n f' s=some r:=by
 intro n
 induction n with
 |zero=>intro s r h;cases h
 |succ n ih=>
  intro s r h
  obtain⟨x,hx,h⟩:=qhb (show ob (f s) (fun r=>XA.rec (motive:=fun _=>Option (XA×St)) (qHm n f r.2) (fun id=>some (.exit id,r.2)) (some (.ret,r.2)) r.1)=some r from h)
  obtain⟨x1,x2⟩:=x
  simp only[qx7,hf _ _ hx]
  cases x1 with
  |normal=>exact ih h
  |exit id=>exact h
  |ret=>exact h
theorem qDA {a:AV} {b:Bool} (h:qCT a=some b):a= .bool b:=by
 unfold qCT at h
 split at h
 ·injection h with h;rw[h]
 cases h
theorem qGM (hc:Le call call'): ∀(c:Code) {s:St} {r:XA×St},qe9 P call N rd c s=some r->qe9 P call' N rd c s=some r:=by
 have regLe: ∀{ops:Array Oper} {draw:Bool} {s r:St},qsK P call ops draw s=some r->qsK P call' ops draw s=some r:=by
  intro ops draw s r h
  have hI: ∀{j:Nat} {s:Fr×Heap} {r:(Fr×Heap)×Rec},qvY P call ops j s=some r->qvY P call' ops j s=some r:=by
   intro j s r h
   unfold qvY at h⊢
   split at h
   ·cases h
   rename_i o ho
   split at h
   ·split at h
    ·rename_i v A' q hs
     simp only[qDc hc hs]
     exact h
    cases h
   ·exact h
   cases h
  have hL: ∀(l:List Oper) {fr:Fr} {A:Heap} {r:Fr×Heap},quj P call ops l fr A=some r->quj P call' ops l fr A=some r:=by
   intro l
   induction l with
   |nil=>intro fr A r h;exact h
   |cons o l ih=>
    intro fr A r h
    simp only[quj]at h⊢
    split at h
    ·split at h
     ·rename_i v A' f hs
      simp only[qDH hc hs]
      exact ih h
     cases h
    ·exact ih h
    cases h
  have hR: ∀(m j:Nat) {s:Fr×Heap} {r:(Fr×Heap)×List Rec},qyl P call ops m j s=some r->qyl P call' ops m j s=some r:=by
   intro m
   induction m with
   |zero=>intro j s r h;exact h
   |succ m ih=>
    intro j s r h
    simp only[qyl]at h⊢
    split at h
    ·rename_i s' q hs
     simp only[hI hs]
     obtain⟨x,hx,he⟩:=Yd.1 h
     rw[ih _ hx]
     exact congrArg some he
    cases h
  unfold qsK at h⊢
  split at h
  ·rename_i hd
   rw[if_pos hd]
   unfold qtJ at h⊢
   split at h
   ·rename_i x rs hs
    rw[hR _ _ hs]
    exact h
   cases h
  rename_i hd
  rw[if_neg hd]
  exact hL _ h
 intro c
 induction c with
 |region id ops draw=>
  intro s r h
  simp only[qe9]at h⊢
  obtain⟨x,hx,he⟩:=Yd.1 h
  rw[regLe hx]
  exact congrArg some he
 |seq a b iha ihb=>
  intro s r h
  simp only[qe9]at h⊢
  split at h
  ·rename_i s' hs
   rw[iha hs]
   exact ihb h
  rename_i r' hr
  cases hx:qe9 P call N rd a s with
  |none=>rw[hx]at h;cases h
  |some x=>
   rw[iha hx]
   rw[hx]at h
   obtain⟨x1,x2⟩:=x
   cases x1 with
   |normal=>exact absurd hx (hr x2)
   |exit id=>exact h
   |ret=>exact h
 |cond c a b iha ihb=>
  intro s r h
  simp only[qe9]at h⊢
  split at h
  ·exact iha h
  ·exact ihb h
  cases h
 |block id b ih=>
  intro s r h
  simp only[qe9]at h⊢
  cases hx:qe9 P call N rd b s with
  |none=>rw[hx]at h;cases h
  |some x=>
   rw[ih hx]
   rw[hx]at h
   exact h
 |loop b ih=>
  intro s r h
  simp only[qe9]at h⊢
  have: ∀(n:Nat) {s:St} {r:XA×St},qx7 n (qe9 P call N rd b) s=some r->qx7 n (qe9 P call' N rd b) s=some r:=by
   intro n
   induction n with
   |zero=>intro s r h;cases h
   |succ n ihn=>
    intro s r h
    simp only[qx7]at h⊢
    cases hx:qe9 P call N rd b s with
    |none=>rw[hx]at h;cases h
    |some x=>
     rw[ih hx]
     rw[hx]at h
     obtain⟨x1,x2⟩:=x
     cases x1 with
     |normal=>exact ihn h
     |exit id=>exact h
     |ret=>exact h
  exact this N h
 |scope b ih=>intro s r h;exact ih h
 |rangeFunc g ps asg body=>
  intro s r h
  simp only[qe9]at h⊢
  split at h
  ·rename_i hok hg
   split at h
   ·cases h
   rename_i hent
   rw[if_neg hent]
   split at h
   ·rename_i v A2 hcall
    rw[hc _ _ _ _ hcall]
    exact h
   cases h
  cases h
 |_=>intro s r h;first|exact h|(simp[qe9]at h⊢;done)|(simp only[qe9]at h⊢;exact h)
theorem qzp (hc:Le call call'): ∀(c:Code) {s:St} {r:XA×St},quG P call N rd c s=some r->qe9 P call' N rd c s=some r:=by
 intro c
 induction c with
 |skip=>intro s r h;exact h
 |region id ops draw=>
  intro s r h
  obtain⟨x,hx,h⟩:=qhb (show ob (qyX P call ops draw s) (fun r=>some (XA.normal,r))=some r from h)
  simp only[qe9,qC8 hc hx,ZM]
  exact h
 |seq a b iha ihb=>
  intro s r h
  obtain⟨x,hx,h⟩:=qhb (show ob (quG P call N rd a s) (fun r=>XA.rec (motive:=fun _=>Option (XA×St)) (quG P call N rd b r.2) (fun id=>some (.exit id,r.2)) (some (.ret,r.2)) r.1)=some r from h)
  obtain⟨x1,x2⟩:=x
  simp only[qe9,iha hx]
  cases x1 with
  |normal=>exact ihb h
  |exit id=>exact h
  |ret=>exact h
 |cond c a b iha ihb=>
  intro s r h
  obtain⟨x,hx,h⟩:=qhb (show ob (qCT (qjP s.1 c)) (fun t=>qiF t (quG P call N rd a s) (quG P call N rd b s))=some r from h)
  rw[qxx]at hx
  simp only[qe9,qDA hx]
  cases x with
  |true=>exact iha h
  |false=>exact ihb h
 |block id b ih=>
  intro s r h
  obtain⟨x,hx,h⟩:=qhb (show ob (quG P call N rd b s) (fun r=>XA.rec (motive:=fun _=>Option (XA×St)) (some (.normal,r.2)) (fun k=>qiF (Nat.beq k id) (some (.normal,r.2)) (some (.exit k,r.2))) (some (.ret,r.2)) r.1)=some r from h)
  obtain⟨x1,x2⟩:=x
  simp only[qe9,ih hx]
  cases x1 with
  |normal=>exact h
  |exit k=>
   have h:qiF (Nat.beq k id) (some (XA.normal,x2)) (some (.exit k,x2))=some r:=h
   rw[qfK]at h
   simp only
   by_cases e:k=id
   ·rw[if_pos e]
    rw[if_pos (qw6 e)]at h
    exact h
   rw[if_neg e]
   rw[if_neg (by rw[qvT e];simp)]at h
   exact h
  |ret=>exact h
 |loop b ih=>
  intro s r h
  exact qHf (fun s r h=>ih h) N h
 |scope b ih=>intro s r h;exact ih h
 |rangeFunc g ps asg body=>intro s r h;exact qGM hc (.rangeFunc g ps asg body) h
 |exit id=>intro s r h;exact h
 |label l=>intro s r h;exact h
 |ret=>intro s r h;exact h
 |_=>intro s r h;cases h
theorem qEJ (hc:Le call call'):Le (qCJ P call N) (qEQ P call' N):=by
 intro c args A r h
 cases c with
 |fn f=>
  have h:qEV P call N f args A=some r:=h
  show qDL P call' N f args A=some r
  unfold qEV at h
  unfold qDL
  split at h
  ·rename_i fn hf
   rw[hf]
   simp only
   split at h
   ·cases h
   rename_i hn
   rw[if_neg hn]
   split at h
   ·rename_i c hb
    rw[hb]
    simp only
    cases hx:quG P call N none c (frOf _ args,A)with
    |none=>rw[hx]at h;cases h
    |some x=>
     rw[qzp hc c hx]
     rw[hx]at h
     exact h
   cases h
  cases h
 |mt t m=>cases h
 |rd b=>
  have h:qEr P call N b args A=some r:=h
  show qDt P call' N b args A=some r
  unfold qEr at h
  unfold qDt
  split at h
  ·rename_i hb
   rw[hb]
   simp only
   split at h
   ·rename_i hl
    rw[if_pos hl]
    split at h
    ·rename_i hx
     rw[qzp hc _ hx]
     simp only
     split at h
     ·rename_i hb2
      rw[hb2]
      simp only
      rename_i p1 f1 ps1 as1 bd1
      unfold qEn at h
      split at h
      ·rename_i x fr2 A2 hy
       rw[qzp hc _ hy]
       exact h
      cases h
     cases h
    cases h
   cases h
  cases h
theorem qEL (hm:P.follows .mixedOrders=true) (hc:qeA P call):qeA P (qCJ P call N):=
 fun c args A v A' h=>qFS hm hc c args A v A' (qEJ (fun _ _ _ _ h=>h) c args A _ h)
theorem qE7 (hm:P.follows .mixedOrders=true) (hc:qeA P call) {post:qgt} (hp:qeA P post):qeA P (qz3 P call N post):=by
 intro c args A v A' h
 unfold qz3 at h
 cases hx:post c args A with
 |some x=>
  rw[hx]at h
  have h:some x=some (v,A'):=h
  injection h with h
  subst h
  exact hp _ _ _ _ _ hx
 |none=>
  rw[hx]at h
  exact qEL hm hc _ _ _ _ _ h
theorem qG1 {mt:TypeId->String->Option FuncId} (hmt: ∀t m f,mt t m=some f->Enters P f/\MtOK P t m f) {c:Cl} {args:List AV} {A:Heap} {v:AV} {A':Heap} (h:zu P (qBQ mt c) args A v A'):zu P c args A v A':=by
 cases c with
 |fn f=>exact h
 |rd b=>exact h
 |mt t m=>
  have h:zu P (Option.rec (motive:=fun _=>Cl) (.mt t m) (fun f=> .fn f) (mt t m)) args A v A':=h
  cases hf:mt t m with
  |none=>rw[hf]at h;exact h
  |some f=>
   rw[hf]at h
   obtain⟨h1,h2⟩:=hmt t m f hf
   exact⟨f,h2,fun F nu w vs i hargs=>zu.calls (f:=f) h h1 i hargs⟩
theorem qHZ (hm:P.follows .mixedOrders=true) {mt:TypeId->String->Option FuncId} (hmt: ∀t m f,mt t m=some f->Enters P f/\MtOK P t m f) {pre post:qgt} {pl:FuncId->Bool} (hp:qeA P pre) (hq:qeA P post): ∀d,qeA P (qHJ P N mt pre post pl d):=by
 intro d
 induction d with
 |zero=>exact hp
 |succ d ih=>
  intro c args A v A' h
  refine qG1 hmt ?_
  have h:Option.rec (motive:=fun _=>Option (AV×Heap)) (qDV (qz3 P (qHJ P N mt pre post pl d) N post) pl (qBQ mt c) args A) some (pre (qBQ mt c) args A)=some (v,A'):=h
  cases hx:pre (qBQ mt c) args A with
  |some x=>
   rw[hx]at h
   have h:some x=some (v,A'):=h
   injection h with h
   subst h
   exact hp _ _ _ _ _ hx
  |none=>
   rw[hx]at h
   exact qGW (qE7 hm ih hq) pl _ _ _ _ _ h
def memo (l:List (FuncId×List AV×AV)):qgt:=fun c args A=>
 Cl.rec (motive:=fun _=>Option (AV×Heap)) (fun f=>List.rec (motive:=fun _=>Option (AV×Heap))
  (List.rec (motive:=fun _=>Option (AV×Heap)) none (fun e _ ih=>qiF (Nat.beq f e.1&&qri (qrg 30) args e.2.1) (some (e.2.2,[])) ih) l) (fun _ _ _=>none) A) (fun _=>none) (fun _ _=>none) c
theorem qII: ∀{l:List (FuncId×List AV×AV)},(∀e∈l,zu P (.fn e.1) e.2.1 [] e.2.2 [])->qeA P (memo l):=by
 intro l
 induction l with
 |nil=>
  intro _ c args A v A' h
  cases c with
  |rd b=>cases h
  |mt t m=>cases h
  |fn f=>
   cases A with
   |nil=>cases h
   |cons x A=>cases h
 |cons e l ih=>
  intro hl c args A v A' h
  cases c with
  |rd b=>cases h
  |mt t m=>cases h
  |fn f=>
   cases A with
   |cons x A=>cases h
   |nil=>
    have h:qiF (Nat.beq f e.1&&qri (qrg 30) args e.2.1) (some (e.2.2,[])) (memo l (.fn f) args [])=some (v,A'):=h
    rw[qfK]at h
    split at h
    ·rename_i hb
     simp only[Bool.and_eq_true]at hb
     have e1:=Nat.eq_of_beq_eq_true hb.1
     have e2:=qy7 (qA6 30) _ _ hb.2
     simp only[ZI,ZP]at h
     obtain⟨rfl,rfl⟩:=h
     subst e1 e2
     exact hl e (by simp)
    exact ih (fun e he=>hl e (by simp[he])) _ _ _ _ _ h
end
end Go.Av
end
noncomputable section
namespace Go.Av
variable [Glob]
open Go.RowKit
class Base where
 nu:Nat->Option Nat
 A:Heap
 fresh: ∀b,A.length<=b->nu b=none
 rd:Option Nat
 rr:Option Nat
 hrd:qEy rd rr nu
@[instance_reducible] def Base.zero:Base:=⟨fun _=>none,[],fun _ _=>rfl,none,none,trivial⟩
instance (priority:=low) instBaseZero:Base:=Base.zero
def Goes [Base] (P:Program) (c:Code) (s:St) (Q:XA->St->Prop):Prop:=
 ∀(F0:Nat->Prop) (w0:World) (n:Nat) (F:Nat->Prop) (nu:Nat->Option Nat) (a:Act) (w:World),
  Stp F0 Base.nu Base.A w0 F nu s.2 w->RF F nu w s.1 a.tmps->Dfr w0.heap.size F nu s.2 w a.defers->
  ∀K:Exit->Act->World->Prop,(∀x s' F' nu' a' w',Q x s'->Stp F0 Base.nu Base.A w0 F' nu' s'.2 w'->RF F' nu' w' s'.1 a'.tmps->Dfr w0.heap.size F' nu' s'.2 w' a'.defers->K (qBh x) a' w')->
  c.wpIn (fz Base.rr) n P K a w
section
variable [Base] {P:Program} {call:qgt} {N:Nat} {c c1 c2:Code} {s:St} {Q:XA->St->Prop}
theorem Goes.eval (hm:P.follows .mixedOrders=true) (hc:qeA P call) {x:XA} {s':St} (h:qe9 P call N Base.rd c s=some (x,s')) (hq:Q x s'):Goes P c s Q:=by
 intro F0 w0 n F nu a w st hf hd K hK
 obtain⟨fr,A⟩:=s
 obtain⟨fr',A'⟩:=s'
 exact qwK (rd:=Base.rd) (rr:=Base.rr) (base:=w0.heap.size) hc hm c st.inv hf (Base.hrd.step st) hd st.size h (fun F' nu' w' a' hd' st' hf'=>hK x _ F' nu' a' w' hq (st.trans st') hf' hd')
theorem Goes.imp {Q':XA->St->Prop} (h:Goes P c s Q) (hq: ∀x s',Q x s'->Q' x s'):Goes P c s Q':=
 fun F0 w0 n F nu a w st hf hd K hK=>h F0 w0 n F nu a w st hf hd K (fun x s' F' nu' a' w' q=>hK x s' F' nu' a' w' (hq x s' q))
theorem Goes.skip (h:Q .normal s):Goes P .skip s Q:=fun _ _ _ F nu a w st hf hd _ hK=>wpIn_skip (hK .normal s F nu a w h st hf hd)
theorem Goes.label {l:Nat} (h:Q .normal s):Goes P (.label l) s Q:=fun _ _ _ F nu a w st hf hd _ hK=>wpIn_label (hK .normal s F nu a w h st hf hd)
theorem Goes.exit {id:Nat} (h:Q (.exit id) s):Goes P (.exit id) s Q:=fun _ _ _ F nu a w st hf hd _ hK=>wpIn_exit (hK (.exit id) s F nu a w h st hf hd)
theorem Goes.ret (h:Q .ret s):Goes P .ret s Q:=fun _ _ _ F nu a w st hf hd _ hK=>wpIn_ret (hK .ret s F nu a w h st hf hd)
def andThen (k:St->Prop) (Q:XA->St->Prop):XA->St->Prop
 | .normal,s=>k s
 |x,s=>Q x s
theorem Goes.seq (h:Goes P c1 s (andThen (fun s'=>Goes P c2 s' Q) Q)):Goes P (.seq c1 c2) s Q:=by
 intro F0 w0 n F nu a w st hf hd K hK
 refine wpIn_seq (h F0 w0 n F nu a w st hf hd _ (fun x s' F' nu' a' w' q st' hf' hd'=>?_))
 cases x with
 |normal=>exact q F0 w0 n F' nu' a' w' st' hf' hd' K hK
 |exit id=>exact hK (.exit id) s' F' nu' a' w' q st' hf' hd'
 |ret=>exact hK .ret s' F' nu' a' w' q st' hf' hd'
theorem Goes.cond {co:Operand} {b:Bool} (hv:qiJ s.1 co= .bool b) (ht:b=true->Goes P c1 s Q) (hf:b=false->Goes P c2 s Q):Goes P (.cond co c1 c2) s Q:=by
 intro F0 w0 n F nu a w st hfr hd K hK
 have hv2:=hfr.eval st.inv.glob co
 rw[hv]at hv2
 have hb:a.eval co= .bool b:=by
  generalize a.eval co=z at hv2
  cases hv2
  rfl
 cases b with
 |true=>exact wpIn_cond_true hb (ht rfl F0 w0 n F nu a w st hfr hd K hK)
 |false=>exact wpIn_cond_false hb (hf rfl F0 w0 n F nu a w st hfr hd K hK)
def qFe (id:Nat) (Q:XA->St->Prop):XA->St->Prop
 | .exit k,s=>if k=id then Q .normal s else Q (.exit k) s
 |x,s=>Q x s
theorem Goes.block {id:Nat} (h:Goes P c s (qFe id Q)):Goes P (.block id c) s Q:=by
 intro F0 w0 n F nu a w st hf hd K hK
 refine wpIn_block (h F0 w0 n F nu a w st hf hd _ (fun x s' F' nu' a' w' q st' hf' hd'=>?_))
 cases x with
 |normal=>exact hK .normal s' F' nu' a' w' q st' hf' hd'
 |ret=>exact hK .ret s' F' nu' a' w' q st' hf' hd'
 |exit k=>
  simp only[qBh,Exit.inBlock]
  simp only[qFe]at q
  split at q
  ·rename_i e
   rw[if_pos e]
   exact hK .normal s' F' nu' a' w' q st' hf' hd'
  rename_i e
  rw[if_neg e]
  exact hK (.exit k) s' F' nu' a' w' q st' hf' hd'
theorem Goes.scope (h:Goes P c s Q):Goes P (.scope c) s Q:=by
 intro F0 w0 n F nu a w st hf hd K hK
 refine qsD (h F0 w0 n F nu a w st hf hd _ (fun x s' F' nu' a' w' q st' hf' hd'=>?_))
 have:=hK x s' F' nu' a' w' q st' hf' hd'
 cases x<;>exact this
theorem Goes.loop (I:Nat->St->Prop) (hstep: ∀m s,I m s->Goes P c s (andThen (fun s'=> ∃m',m'<m/\I m' s') Q)) {m:Nat} (h0:I m s):Goes P (.loop c) s Q:=by
 intro F0 w0 n F nu a w st hf hd K hK
 have key: ∀(m:Nat) (s:St),I m s-> ∀(F:Nat->Prop) (nu:Nat->Option Nat) (a:Act) (w:World),Stp F0 Base.nu Base.A w0 F nu s.2 w->RF F nu w s.1 a.tmps->Dfr w0.heap.size F nu s.2 w a.defers->
  ∀(b:Frame) (k:List Item) (cs:List Frame),b.roundOf=(fz Base.rr).round->(fz Base.rr).fn b.fn->(fz Base.rr).room (cs.length+1+n)->
  ∃e a₂ w₂,K e a₂ w₂/\ArrivesIn (Machine.fenced P (fz Base.rr)) P (lone (b.atR a (.code c:: .inLoop c::k)) cs w) b k cs e a₂ w₂:=by
  intro m
  induction m using Nat.strongRecOn with
  |_ m ih=>
   intro s hI F nu a w st hf hd b k cs hro hb hr
   refine qvb ?_ b k cs hro hb hr
   refine hstep m s hI F0 w0 n F nu a w st hf hd _ (fun x s' F' nu' a' w' q st' hf' hd'=>?_)
   cases x with
   |normal=>
    obtain⟨m',hlt,hI'⟩:=q
    exact ih m' hlt s' hI' F' nu' a' w' st' hf' hd'
   |exit id=>exact hK (.exit id) s' F' nu' a' w' q st' hf' hd'
   |ret=>exact hK .ret s' F' nu' a' w' q st' hf' hd'
 intro b k cs hro hb hr
 obtain⟨e,a₂,w₂,hq2,harr⟩:=key m s h0 F nu a w st hf hd b k cs hro hb hr
 exact⟨e,a₂,w₂,hq2,.of_steps (.one (fenced_calm hb hr rfl) stepR_loop) harr⟩
def Ops (P:Program) (call:qgt) (ops:Array Oper) (l:List Oper) (fr:Fr) (A:Heap) (K:Fr->Heap->Prop):Prop:=
 ∃fr' A',quj P call ops l fr A=some (fr',A')/\K fr' A'
variable {ops:Array Oper} {l:List Oper} {fr:Fr} {A:Heap} {K:Fr->Heap->Prop}
theorem Ops.nil (h:K fr A):Ops P call ops [] fr A K:=⟨fr,A,rfl,h⟩
theorem Ops.step {o:Oper} (hw:qkB ops o fr=some true) {v:AV} {A':Heap} {f:qf6} (hs:qow P call o fr A=some (v,A',f)) (h:Ops P call ops l (qrB fr o.dst v) A' K):Ops P call ops (o::l) fr A K:=by
 obtain⟨fr2,A2,h1,h2⟩:=h
 exact⟨fr2,A2,by simp only[quj,hw,hs,h1],h2⟩
theorem Ops.off {o:Oper} (hw:qkB ops o fr=some false) (h:Ops P call ops l (qrB fr o.dst (.tuple [])) A K):Ops P call ops (o::l) fr A K:=by
 obtain⟨fr2,A2,h1,h2⟩:=h
 exact⟨fr2,A2,by simp only[quj,hw,h1],h2⟩
theorem Goes.region (hm:P.follows .mixedOrders=true) (hc:qeA P call) {id:Nat} (h:Ops P call ops ops.toList s.1 s.2 fun fr A=>Q .normal (fr,A)):Goes P (.region id ops false) s Q:=by
 obtain⟨fr',A',h1,h2⟩:=h
 refine Goes.eval (N:=0) (x:= .normal) (s':=(fr',A')) hm hc ?_ h2
 simp[qe9,qsK,h1]
theorem Goes.draw (hm:P.follows .mixedOrders=true) (hc:qeA P call) {id:Nat} {s':St} (h:qtJ P call ops s.1 s.2=some s') (hq:Q .normal s'):Goes P (.region id ops true) s Q:=by
 refine Goes.eval (N:=0) (x:= .normal) (s':=s') hm hc ?_ hq
 simp[qe9,qsK,h]
theorem Uj (n:Nat) (g:Nat->AV) (t:Nat):(Fr.fn n g).get t=if t<n then g t else .undef:=by
 simp only[Fr.get]
 by_cases h:t<n
 ·rw[if_pos h,show Nat.blt t n=true from Nat.ble_eq_true_of_le h];rfl
 rw[if_neg h,qrM (by omega)];rfl
theorem qyR (g:Nat->AV) (t:Nat) (a:AV) (u:Nat):qyK g t a u=if u=t then a else g u:=by
 unfold qyK
 by_cases h:u=t
 ·rw[if_pos h,qw6 h];rfl
 rw[if_neg h,qvT h];rfl
theorem qES {o:Oper} {v:AV} (hn:qgG o (qiJ fr)=none) (h:aop P o (qiJ fr)= .done v):qow P call o fr A=some (v,A,[]):=by
 unfold qow
 rw[hn,h]
 rfl
def qEE (P:Program) (ops:Array Oper) (l:List Oper) (fr:Fr) (K:Fr->Prop):Prop:=
 match l with
 |[]=>K fr
 |o::l=>(qkB ops o (maskF (qfQ ops o) fr)=some false/\qEE P ops l (qrB fr o.dst (.tuple [])) K)\/
  (qkB ops o (maskF (qfQ ops o) fr)=some true/\qgG o (qiJ (maskF (qfQ ops o) fr))=none/\(∀A,qlI o (qiJ (maskF (qfQ ops o) fr)) A=[])/\ ∃v,aop P o (qiJ (maskF (qfQ ops o) fr))= .done v/\qEE P ops l (qrB fr o.dst v) K)
theorem qEE.run: ∀(l pre:List Oper),ops.toList=pre++l-> ∀{fr:Fr} {K:Fr->Prop},qEE P ops l fr K->
 ∃fr' rs,qyl P call ops l.length pre.length (fr,A)=some ((fr',A),rs)/\(∀r∈rs,r.fp=[])/\K fr':=by
 intro l
 induction l with
 |nil=>intro pre _ fr K h;exact⟨fr,[],rfl,by simp,h⟩
 |cons o l ih=>
  intro pre hp fr K h
  have ho:ops[pre.length]? =some o:=by
   rw[<-YT,hp]
   simp
  have hp':ops.toList=(pre++[o])++l:=by simp[hp]
  rcases h with⟨hw,h⟩|⟨hw,hn,hf,v,hv,h⟩
  ·obtain⟨fr',rs,h1,h2,h3⟩:=ih (pre++[o]) hp' h
   simp only[Yq,Yr,List.length_nil,Nat.zero_add]at h1
   refine⟨fr',⟨[],false,A.length,A.length⟩::rs,?_,?_,h3⟩
   ·simp only[Yr,qyl,qvY,ho,hw,h1,ZM]
   intro r hr
   rcases List.mem_cons.1 hr with rfl|hr
   ·rfl
   exact h2 r hr
  obtain⟨fr',rs,h1,h2,h3⟩:=ih (pre++[o]) hp' h
  simp only[Yq,Yr,List.length_nil,Nat.zero_add]at h1
  have hs:qwr P call o (maskF (qfQ ops o) fr) A=some (v,A,⟨[],false,A.length,A.length⟩):=by
   unfold qwr
   simp only[hf,hn,List.all_nil,if_true]
   rw[qES hn hv]
   have hl:A.length<=(mask [] A).length:=by rw[qjq];exact Nat.le_refl _
   simp only[hl,if_true,List.any_nil,Option.isSome_none,Bool.false_and,Bool.or_false]
   rw[qBM (qjq _ _),qjq]
  refine⟨fr',⟨[],false,A.length,A.length⟩::rs,?_,?_,h3⟩
  ·simp only[Yr,qyl,qvY,ho,hw,hs,h1,ZM]
  intro r hr
  rcases List.mem_cons.1 hr with rfl|hr
  ·rfl
  exact h2 r hr
theorem qGh {ms:List Nat} {rs:List Rec} (h: ∀r∈rs,r.fp=[]):qHx ms rs.zipIdx=true:=by
 refine Yp.2 fun q hq=>?_
 have:q.1∈rs:=by
  have:=List.mem_zipIdx_iff_getElem?.1 (show(q.1,q.2)∈rs.zipIdx from hq)
  exact Yn this
 rw[h q.1 this]
 rfl
theorem Goes.look (hm:P.follows .mixedOrders=true) {id:Nat} (hs:qBm ops=true) (h:qEE P ops ops.toList s.1 fun fr=>Q .normal (fr,s.2)):Goes P (.region id ops true) s Q:=by
 obtain⟨fr',rs,h1,h2,h3⟩:=qEE.run (call:=qyN) (A:=s.2) ops.toList [] rfl h
 refine Goes.draw (call:=qyN) (s':=(fr',s.2)) hm qBa ?_ h3
 have hlen:ops.toList.length=ops.size:=by simp
 rw[hlen]at h1
 unfold qtJ
 rw[show qyl P qyN ops ops.size 0 (s.1,s.2)=some ((fr',s.2),rs)from h1]
 simp only[qwP,hs,qGh h2,Bool.and_self,if_true]
def qA0:List AV->Nat->(Nat->AV)->Nat->AV
 |[],_,g=>g
 |a::as,k,g=>qA0 as (k+1) (qyK g k a)
theorem qBG: ∀(as:List AV) (k:Nat) (g:Nat->AV) (j:Nat),(j<k\/k+as.length<=j->qA0 as k g j=g j)/\(k<=j-> ∀a,as[j-k]? =some a->qA0 as k g j=a):=by
 intro as
 induction as with
 |nil=>intro k g j;exact⟨fun _=>rfl,fun _ a h=>by simp at h⟩
 |cons a as ih=>
  intro k g j
  obtain⟨h1,h2⟩:=ih (k+1) (qyK g k a) j
  simp only[qA0]
  refine⟨fun h=>?_,fun h b hb=>?_⟩
  ·have hj:j<k\/k+(as.length+1)<=j:=by simpa using h
   rw[h1 (by omega)]
   simp only[qyK,qvT (show j≠k by omega),cond_false]
  rcases Nat.lt_or_ge k j with hk|hk
  ·have e:j-k=(j-(k+1))+1:=by omega
   rw[e]at hb
   exact h2 (by omega) b (by simpa using hb)
  have e:j=k:=by omega
  subst e
  rw[Nat.sub_self]at hb
  simp only[List.getElem?_cons_zero,ZI]at hb
  subst hb
  rw[h1 (.inl (by omega))]
  simp only[qyK,qw6 rfl,cond_true]
def frFn (n:Nat) (args:List AV):Fr:= .fn n (qA0 args 0 fun _=> .undef)
theorem RF.frFn {F:Nat->Prop} {nu:Nat->Option Nat} {w:World} {args:List AV} {vs:Array Value} {n m:Nat} (hm:args.length+(n-args.length)=m) (h:RL F nu w args vs):RF F nu w (frFn m args) (vs++Array.replicate (n-vs.size) undef):=by
 have hs:=h.1
 refine⟨by simp[Go.Av.frFn,Fr.n,hs,hm],fun t v hv=>?_,fun t ht=>?_⟩
 ·have hlt:t<m:=by
   have:=(YB.1 hv).1
   simp[hs]at this
   omega
  have hb:Nat.blt t m=true:=Nat.ble_eq_true_of_le hlt
  show R F nu w (cond (Nat.blt t m) (qA0 args 0 (fun _=> .undef) t) .undef) v
  rw[hb,cond_true]
  rcases Nat.lt_or_ge t args.length with h1|h1
  ·rw[YC (by omega)]at hv
   rw[(qBG args 0 _ t).2 (Nat.zero_le _) args[t] (by simp[h1])]
   exact h.2 t _ v (Ya h1) hv
  rw[(qBG args 0 _ t).1 (by omega)]
  exact .undef v
 simp only[Go.Av.frFn,Fr.n]at ht
 show cond (Nat.blt t m) (qA0 args 0 (fun _=> .undef) t) AV.undef=AV.undef
 rw[qrM ht]
 rfl
end
section
variable {P:Program} {c:Code}
def returns (P:Program) (rs:List ResultVar) (v:AV):XA->St->Prop
 | .exit _,_=>False
 |_,s=> ∃xs,qiG P s.1 s.2 rs=some xs/\frz s.2 (List.range s.2.length) 12 (qyE xs)=some v
theorem Stp.hand {F F2:Nat->Prop} {nu2:Nat->Option Nat} {w w':World} {Al:Heap} (st:Stp F (fun _=>none) [] w F2 nu2 Al w'):Stp F (fun _=>none) [] w (FS F2 nu2 Al (List.range Al.length)) (fun _=>none) [] w':=by
 have noOwn: ∀rb,¬qo1 (fun _=>none) [] w rb:=by
  rintro rb ⟨b,x,r,hb,_⟩
  cases hb
 have hF3: ∀rb,rb<w.heap.size->FS F2 nu2 Al (List.range Al.length) rb->F rb:=by
  rintro rb hlt (h1|⟨b,x,_,h1,h2,h3⟩)
  ·rcases st.newF rb h1 with h2|h2|h2
   ·exact h2
   ·omega
   exact absurd h2 (noOwn rb)
  exact absurd (st.own rb hlt (.of h1 h2 h3)) (noOwn rb)
 refine⟨fun rb h=> .inl (st.f rb h),fun _ _ h=>h,st.shape,⟨by simp,by simp,fun _ _=>rfl,fun rb h=>?_,by simp,Glob.mono st.inv.glob (fun _ h=> .inl h) fun _ _=>rfl⟩,fun rb hlt _=>st.keep rb hlt (noOwn rb),?_,st.size,st.os,st.tape,st.output,fun _ _=>rfl,Nat.le_refl _,fun rb h=>?_⟩
 ·rcases h with h|⟨b,x,_,h,_⟩
  ·exact st.inv.ltF rb h
  exact st.inv.ltN b rb h
 ·rintro rb _ ⟨b,x,r,hb,_⟩
  cases hb
 rcases Nat.lt_or_ge rb w.heap.size with hlt|hge
 ·exact .inl (hF3 rb hlt h)
 exact .inr (.inl hge)
theorem Goes.fn {f:FuncId} {fn:Func} {args:List AV} {v:AV} {m:Nat} {rs:List ResultVar} (hf:P.funcs[f]? =some fn) (hn:(fn.name== "runtime.NumGoroutine")=false) (hb:fn.body=some c) (hm:args.length+(fn.ntmps-args.length)=m) (hr:fn.results.toList=rs) (h:Goes P c (frFn m args,[]) (returns P rs v)):
 zu P (.fn f) args [] v []:=by
 intro F nu w vs i hargs
 have hnu:nu=fun _=>none:=funext fun b=>i.fresh b (Nat.zero_le _)
 subst hnu
 subst hr
 refine .inl ⟨⟨fn,hf,hn,by rw[hb];rfl⟩,?_⟩
 refine(callsIn_wide (n:=0)).1 ?_
 refine callsIn_of_wp_marks hf hb trivial ?_
 refine h F w 0 F (fun _=>none) _ w (.refl i) (RF.frFn hm hargs) .nil _ (fun x s' F' nu' a' w' q st hfr hd=>?_)
 have post: ∀xs,qiG P s'.1 s'.2 fn.results.toList=some xs->frz s'.2 (List.range s'.2.length) 12 (qyE xs)=some v->
  LeavesInM (fz none) 0 P fn a'.tmps (fun e w'=> ∃x F' nu',e= .returned x/\Stp F (fun _=>none) [] w F' nu' [] w'/\R F' nu' w' v x) a'.defers .returning w':=by
  intro xs hrs hv
  refine qxD hrs a'.defers st hfr hd (fun F2 nu2 w2 y st2 hR=>?_)
  exact⟨y,_,_,rfl,st2.hand,qza st2.inv 12 hv hR⟩
 cases x with
 |normal=>obtain⟨xs,h1,h2⟩:=q;exact post xs h1 h2
 |ret=>obtain⟨xs,h1,h2⟩:=q;exact post xs h1 h2
 |exit k=>exact q.elim
end
end Go.Av
end
noncomputable section
namespace Go.Av
variable [Glob]
section
variable {P:Program} {call:qgt} {fr:Fr} {A:Heap} {d:Option Tmp} {ty:TypeId} {ps:String} {af:Array Edge} {g:Option (Nat×Bool)}
end
section
variable {P:Program} {call:qgt} {ops:Array Oper} {l:List Oper} {fr:Fr} {A:Heap} {s:St} {Q:XA->St->Prop}
def qDW (P:Program) (o:Oper) (ρ:Operand->AV):Option AV:=
 match qgG o ρ with
 |some _=>none
 |none=>match qlI o ρ []with
  |[]=>match aop P o ρ with
   | .done v=>some v
   |_=>none
  |_=>none
theorem qEP {o:Oper} {ρ:Operand->AV} (h:qgG o ρ=none) (A:Heap):qlI o ρ A=qlI o ρ []:=by
 unfold qlI
 rw[h]
theorem qET {o:Oper} {ρ:Operand->AV} {v:AV} (h:qDW P o ρ=some v):qgG o ρ=none/\(∀A,qlI o ρ A=[])/\aop P o ρ= .done v:=by
 unfold qDW at h
 split at h
 ·cases h
 rename_i hn
 split at h
 ·rename_i hf
  split at h
  ·rename_i hv
   injection h with h
   subst h
   exact⟨hn,fun A=>(qEP hn A).trans hf,hv⟩
  cases h
 cases h
def qFa (o:Oper) (fr:Fr) (k:Fr->Prop):Option Bool->Option AV->Prop
 |some true,some v=>k (qrB fr o.dst v)
 |some false,_=>k (qrB fr o.dst (.tuple []))
 |_,_=>False
def Looks (P:Program) (ops:Array Oper):List Oper->Fr->(Fr->Prop)->Prop
 |[],fr,K=>K fr
 |o::l,fr,K=>qFa o fr (fun fr'=>Looks P ops l fr' K) (qkB ops o (maskF (qfQ ops o) fr)) (qDW P o (qiJ (maskF (qfQ ops o) fr)))
theorem Looks.look: ∀(l:List Oper) {fr:Fr} {K:Fr->Prop},Looks P ops l fr K->qEE P ops l fr K:=by
 intro l
 induction l with
 |nil=>intro fr K h;exact h
 |cons o l ih=>
  intro fr K h
  have h:qFa o fr (fun fr'=>Looks P ops l fr' K) (qkB ops o (maskF (qfQ ops o) fr)) (qDW P o (qiJ (maskF (qfQ ops o) fr))):=h
  cases hw:qkB ops o (maskF (qfQ ops o) fr)with
  |none=>rw[hw]at h;exact h.elim
  |some w=>
   rw[hw]at h
   cases w with
   |false=>exact .inl ⟨hw,ih h⟩
   |true=>
    cases hv:qDW P o (qiJ (maskF (qfQ ops o) fr))with
    |none=>rw[hv]at h;exact h.elim
    |some v=>
     rw[hv]at h
     obtain⟨h1,h2,h3⟩:=qET hv
     exact .inr ⟨hw,h1,h2,v,h3,ih h⟩
theorem Goes.looks (hm:P.follows .mixedOrders=true) {id:Nat} (hs:qBm ops=true) (h:Looks P ops ops.toList s.1 fun fr=>Q .normal (fr,s.2)):Goes P (.region id ops true) s Q:=
 Goes.look hm hs (Looks.look _ h)
end
section
variable {P:Program} {d:Option Tmp} {ty:TypeId} {ps:String} {af:Array Edge} {g:Option (Nat×Bool)} {ρ:Operand->AV}
end
def qGB (tbl:FuncId->List AV->Option AV):qgt:=fun c args A=>match c with
 | .fn f=>match A with
   |[]=>(tbl f args).map fun v=>(v,[])
   |_::_=>none
 | .rd _=>none
 | .mt _ _=>none
theorem qDM {P:Program} {tbl:FuncId->List AV->Option AV} (h: ∀f args v,tbl f args=some v->zu P (.fn f) args [] v []):qeA P (qGB tbl):=by
 intro c args A v A' he
 cases c with
 |rd b=>cases he
 |mt t m=>cases he
 |fn f=>
  cases A with
  |cons x A=>cases he
  |nil=>
   obtain⟨x,hx,hr⟩:=Yd.1 he
   simp only[ZP]at hr
   obtain⟨rfl,rfl⟩:=hr
   exact h f args _ hx
def Still (d:Nat) (a:AV):Prop:= ∀(A:Heap) (S:List Nat),frz A S d a=some a
theorem qjQ {A:Heap} {S:List Nat} {d:Nat}: ∀{cs:List AV},(∀c∈cs,Still d c)->cs.mapM (frz A S d)=some cs:=by
 intro cs
 induction cs with
 |nil=>intro _;rfl
 |cons c cs ih=>
  intro h
  rw[List.mapM_cons,h c (by simp) A S,ih fun x hx=>h x (by simp[hx])]
  rfl
theorem Still.int (d:Nat) (k:IntKind) (n:Int):Still (d+1) (.int k n):=fun _ _=>rfl
theorem Still.bool (d:Nat) (b:Bool):Still (d+1) (.bool b):=fun _ _=>rfl
theorem Still.str (d:Nat) (b:List UInt8):Still (d+1) (.str b):=fun _ _=>rfl
theorem Still.nilslice (d:Nat):Still (d+1) .nilslice:=fun _ _=>rfl
theorem Still.fslice {d n:Nat} {cs:List AV} (h: ∀c∈cs,Still d c):Still (d+1) (.fslice n cs):=fun A S=>by
 simp only[frz,qjQ h,ZM]
theorem Still.agg {d:Nat} {cs:List AV} (h: ∀c∈cs,Still d c):Still (d+1) (.agg cs):=fun A S=>by
 simp only[frz,qjQ h,ZM]
theorem Still.tuple {d:Nat} {cs:List AV} (h: ∀c∈cs,Still d c):Still (d+1) (.tuple cs):=fun A S=>by
 simp only[frz,qjQ h,ZM]
end Go.Av
end
