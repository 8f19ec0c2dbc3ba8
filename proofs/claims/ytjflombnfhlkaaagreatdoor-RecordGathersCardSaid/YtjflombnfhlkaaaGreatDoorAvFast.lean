/-
  The evaluator once more, told by recursors, so that the kernel has few steps to go; where it tells something, callP tells the same.
-/
import Derived.Test.YtjflombnfhlkaaaGreatDoorAvCon
import Derived.IntWalk
noncomputable section
namespace Go.Av
set_option linter.unusedSectionVars false
variable [Glob]
def ob {α β:Type} (x:Option α) (k:α→Option β):Option β:=Option.rec (motive:=fun _=>Option β) none k x
theorem zJ {α β:Type} {x:Option α} {k:α→Option β} {r:β} (h:ob x k=some r): ∃a,x=some a∧k a=some r:=by
 cases x with
 |none=>cases h
 |some a=>exact⟨a,rfl,h⟩
def jh {α:Type} (b:Bool) (x y:α):α:=Bool.rec (motive:=fun _=>α) y x b
theorem zi {α:Type} (b:Bool) (x y:α):jh b x y=if b=true then x else y:=by cases b<;>rfl
def hget (A:Heap):Nat→Option Blk:=
 List.rec (motive:=fun _=>Nat→Option Blk) (fun _=>none) (fun x _ ih b=>Nat.rec (motive:=fun _=>Option Blk) (some x) (fun n _=>ih n) b) A
theorem qgb: ∀(A:Heap) (b:Nat),hget A b=A[b]? :=by
 intro A
 induction A with
 |nil=>intro b;rfl
 |cons x A ih=>
  intro b
  cases b with
  |zero=>rfl
  |succ b=>exact(ih b).trans (by simp)
def hset (A:Heap):Nat→Blk→Heap:=
 List.rec (motive:=fun _=>Nat→Blk→Heap) (fun _ _=>[]) (fun y ys ih b x=>Nat.rec (motive:=fun _=>Heap) (x::ys) (fun n _=>y::ih n x) b) A
theorem qgk: ∀(A:Heap) (b:Nat) (x:Blk),hset A b x=A.set b x:=by
 intro A
 induction A with
 |nil=>intro b x;rfl
 |cons y A ih=>
  intro b x
  cases b with
  |zero=>rfl
  |succ b=>exact congrArg (y:: ·) (ih b x)
def happ (A:Heap) (x:Blk):Heap:=List.rec (motive:=fun _=>Heap) [x] (fun y _ ih=>y::ih) A
theorem qgd: ∀(A:Heap) (x:Blk),happ A x=A++[x]:=by
 intro A
 induction A with
 |nil=>intro x;rfl
 |cons y A ih=>intro x;exact congrArg (y:: ·) (ih x)
def hlen (A:Heap):Nat:=List.rec (motive:=fun _=>Nat) 0 (fun _ _ ih=>Nat.succ ih) A
theorem vK: ∀(A:Heap),hlen A=A.length:=by
 intro A
 induction A with
 |nil=>rfl
 |cons y A ih=>exact congrArg Nat.succ ih
def qmL (v:Value):AV:=
 match v with
 | .int k n=> .int k n
 | .bool b=> .bool b
 |v=>qaV 3 v
theorem qlu (v:Value):qmL v=qaV 3 v:=by cases v<;>rfl
def vo (fr:Fr) (x:Operand):AV:=
 Operand.rec (motive:=fun _=>AV) (fun t=>fr.get t) (fun v=>qmL v) (fun g=>Glob.gl g) (fun f=> .func (.func f) [] []) x
theorem qdW (fr:Fr):vo fr=jv fr:=by
 funext x
 cases x with
 |const v=>exact qlu v
 |_=>rfl
def qjC {β:Type} (a:AV) (k:IntKind→Int→Option β):Option β:=
 AV.rec (motive_1:=fun _=>Option β) (motive_2:=fun _=>Unit) none (fun _=>none) k (fun _=>none) none (fun _ _=>none) (fun _ _ _=>none) none (fun _ _ _ _ _=>none) (fun _ _ _=>none) (fun _ _ _=>none) (fun _ _ _ _=>none) (fun _ _ _=>none) none (fun _=>none)
  (fun _ _ _ _=>none) (fun _ _ _ _ _=>none) (fun _=>none) none (fun _ _ _=>none) none (fun _ _=>none) (fun _ _=>none) none () (fun _ _ _ _=>()) a
theorem qgx {β:Type} {a:AV} {k:IntKind→Int→Option β} {r:β} (h:qjC a k=some r): ∃q n,a= .int q n∧k q n=some r:=by
 cases a<;>first|exact⟨_,_,rfl,h⟩|cases h
def qiQ {β:Type} (k:IntKind) (x:Option β):Option β:=IntKind.rec (motive:=fun _=>Option β) none none none x none none none none k
def qnu (n:Int):Int:=
 Int.rec (motive:=fun _=>Int) (fun m=>jh (Nat.blt m 9223372036854775808) (.ofNat m) (IntKind.wrap .i64 (.ofNat m))) (fun m=>jh (Nat.blt m 9223372036854775808) (.negSucc m) (IntKind.wrap .i64 (.negSucc m))) n
theorem qm1 (n:Int):qnu n=IntKind.wrap .i64 n:=by
 cases n with
 |ofNat m=>
  show jh _ _ _=_
  rw[zi]
  split
  ·rename_i h
   have h:m<9223372036854775808:=Nat.le_of_ble_eq_true h
   exact(Go.IntWalk.i64_in _ ⟨by simp only[Int.ofNat_eq_natCast];omega,by simp only[Int.ofNat_eq_natCast];omega⟩).symm
  ·rfl
 |negSucc m=>
  show jh _ _ _=_
  rw[zi]
  split
  ·rename_i h
   have h:m<9223372036854775808:=Nat.le_of_ble_eq_true h
   have:=Int.negSucc_eq m
   exact(Go.IntWalk.i64_in _ ⟨by omega,by omega⟩).symm
  ·rfl
def addK (a b:Int):Int:=
 Int.rec (motive:=fun _=>Int) (fun m=>Int.rec (motive:=fun _=>Int) (fun n=> .ofNat (Nat.add m n)) (fun n=>Int.add (.ofNat m) (.negSucc n)) b) (fun m=>Int.add (.negSucc m) b) a
theorem qn4 (a b:Int):addK a b=a+b:=by
 cases a<;>cases b<;>rfl
def mulK (a b:Int):Int:=
 Int.rec (motive:=fun _=>Int) (fun m=>Int.rec (motive:=fun _=>Int) (fun n=> .ofNat (Nat.mul m n)) (fun n=>Int.mul (.ofNat m) (.negSucc n)) b) (fun m=>Int.mul (.negSucc m) b) a
theorem qoB (a b:Int):mulK a b=a*b:=by
 cases a<;>cases b<;>rfl
def ltK (a b:Int):Bool:=
 Int.rec (motive:=fun _=>Bool) (fun m=>Int.rec (motive:=fun _=>Bool) (fun n=>Nat.blt m n) (fun _=>false) b) (fun m=>Int.rec (motive:=fun _=>Bool) (fun _=>true) (fun n=>Nat.blt n m) b) a
theorem qpA (a b:Int):ltK a b=decide (a<b):=by
 have key: ∀m n:Nat,Nat.blt m n=decide (m<n):=by
  intro m n
  by_cases h:m<n
  ·rw[decide_eq_true h];exact Nat.ble_eq_true_of_le h
  ·rw[decide_eq_false h];exact qa3 (by omega)
 cases a with
 |ofNat m=>
  cases b with
  |ofNat n=>exact(key m n).trans (decide_eq_decide.2 (by simp))
  |negSucc n=>
   refine(decide_eq_false ?_).symm
   have:=Int.negSucc_eq n
   simp only[Int.ofNat_eq_natCast]
   omega
 |negSucc m=>
  cases b with
  |ofNat n=>
   refine(decide_eq_true ?_).symm
   have:=Int.negSucc_eq m
   simp only[Int.ofNat_eq_natCast]
   omega
  |negSucc n=>
   refine(key n m).trans (decide_eq_decide.2 ?_)
   have:=Int.negSucc_eq n
   have:=Int.negSucc_eq m
   omega
def eqK (a b:Int):Bool:=
 Int.rec (motive:=fun _=>Bool) (fun m=>Int.rec (motive:=fun _=>Bool) (fun n=>Nat.beq m n) (fun _=>false) b) (fun m=>Int.rec (motive:=fun _=>Bool) (fun _=>false) (fun n=>Nat.beq m n) b) a
theorem qpC (a b:Int):eqK a b=(a==b):=by
 have key: ∀m n:Nat,Nat.beq m n=decide (m=n):=by
  intro m n
  by_cases h:m=n
  ·rw[decide_eq_true h];exact qcP h
  ·rw[decide_eq_false h];exact qa8 h
 have e:(a==b)=decide (a=b):=by rfl
 rw[e]
 cases a with
 |ofNat m=>
  cases b with
  |ofNat n=>exact(key m n).trans (decide_eq_decide.2 (by simp only[Int.ofNat_eq_natCast];omega))
  |negSucc n=>exact(decide_eq_false (by simp)).symm
 |negSucc m=>
  cases b with
  |ofNat n=>exact(decide_eq_false (by simp)).symm
  |negSucc n=>exact(key m n).trans (decide_eq_decide.2 (by simp))
def binI (op:BinOp) (a b:Int):Option AV:=
 match op with
 | .add=>some (.int .i64 (qnu (addK a b)))
 | .mul=>some (.int .i64 (qnu (mulK a b)))
 | .eql=>some (.bool (eqK a b))
 | .neq=>some (.bool (jh (eqK a b) false true))
 | .lss=>some (.bool (ltK a b))
 | .leq=>some (.bool (jh (ltK b a) false true))
 | .gtr=>some (.bool (ltK b a))
 | .geq=>some (.bool (jh (ltK a b) false true))
 |_=>none
theorem qn1 {op:BinOp} {a b:Int} {v:AV} (h:binI op a b=some v) (P:Program) (t:TypeId) (ox oy:Operand):qbz P op t ox oy (.int .i64 a) (.int .i64 b)=some v:=by
 have nb: ∀x:Bool,jh x false true=!x:=by intro x;cases x<;>rfl
 cases op<;>simp only[binI,qm1,qn4,qoB,qpA,qpC,nb,reduceCtorEq]at h<;>rw[←h]<;>simp only[qbz,qdT,qiH,Bool.false_eq_true,if_false,if_true,Option.some.injEq,AV.bool.injEq]
 ·rfl
 ·rw[←decide_not];exact decide_eq_decide.2 (by omega)
 ·rw[←decide_not];exact decide_eq_decide.2 (by omega)
def binK (P:Program) (op:BinOp) (t:TypeId) (ox oy:Operand) (x y:AV):Option AV:=
 Option.rec (motive:=fun _=>Option AV) (qbz P op t ox oy x y) some
  (qjC x fun k a=>qiQ k (qjC y fun q b=>qiQ q (binI op a b)))
theorem qgS {β:Type} {k:IntKind} {x:Option β} {r:β} (h:qiQ k x=some r):k= .i64∧x=some r:=by
 cases k<;>first|exact⟨rfl,h⟩|cases h
theorem qoc (P:Program) (op:BinOp) (t:TypeId) (ox oy:Operand) (x y:AV):binK P op t ox oy x y=qbz P op t ox oy x y:=by
 unfold binK
 cases h:qjC x fun k a=>qiQ k (qjC y fun q b=>qiQ q (binI op a b))with
 |none=>rfl
 |some v=>
  obtain⟨k,a,e1,h1⟩:=qgx h
  obtain⟨e2,h2⟩:=qgS h1
  obtain⟨q,b,e3,h3⟩:=qgx h2
  obtain⟨e4,h4⟩:=qgS h3
  subst e1 e2 e3 e4
  exact(qn1 h4 P t ox oy).symm
def optK (x:Option AV):Pg:=Option.rec (motive:=fun _=>Pg) .fail .done x
theorem qow (x:Option AV):optK x= .opt x:=by cases x<;>rfl
def qnR (P:Program) (o:Oper) (ρ:Operand→AV):Pg:=
 match o.op with
 | .move x=> .done (ρ x)
 | .assign x=> .done (ρ x)
 | .binOp op t x y _=>optK (binK P op t x y (ρ x) (ρ y))
 |_=>aop P o ρ
theorem qkZ (P:Program) (o:Oper) (ρ:Operand→AV):qnR P o ρ=aop P o ρ:=by
 unfold qnR
 split
 ·rename_i h;simp only[aop,h]
 ·rename_i h;simp only[aop,h]
 ·rename_i h;simp only[aop,h,qow,qoc]
 ·rfl
def qaU (fr:Fr) (dst:Option Tmp) (v:AV):Fr:=Option.rec (motive:=fun _=>Fr) fr (fun d=>fr.set d v) dst
theorem xJ (fr:Fr) (dst:Option Tmp) (v:AV):qaU fr dst v=qaM fr dst v:=by cases dst<;>rfl
def qck (ops:Array Oper) (o:Oper) (fr:Fr):Option Bool:=Option.rec (motive:=fun _=>Option Bool) (some true) (fun _=>vC ops o fr) o.guard
theorem qdI (ops:Array Oper) (o:Oper) (fr:Fr):qck ops o fr=vC ops o fr:=by
 unfold qck
 cases h:o.guard with
 |none=>simp[vC,h]
 |some g=>rfl
def qjv (p:Pg):Heap→zR→Res:=
 Pg.rec (motive:=fun _=>Heap→zR→Res) (fun _ _=>none) (fun v A f=>some (v,A,f))
  (fun b _ ih A f=>ob (hget A b) fun x=>ih x A ((b,false)::f))
  (fun b x _ ih A f=>jh (Nat.blt b (hlen A)) (ih (hset A b x) ((b,true)::f)) none)
  (fun x _ ih A f=>ih (hlen A) (happ A x) f) p
theorem qmh: ∀(p:Pg) (A:Heap) (f:zR),qjv p A f=exec p A f:=by
 intro p
 induction p with
 |fail=>intro A f;rfl
 |done v=>intro A f;rfl
 |get b k ih=>
  intro A f
  show ob (hget A b) _=_
  rw[qgb]
  simp only[exec]
  cases A[b]? with
  |none=>rfl
  |some x=>exact ih x A _
 |set b x k ih=>
  intro A f
  show jh (Nat.blt b (hlen A)) (qjv k (hset A b x) _) none=_
  rw[vK,qgk,zi,ih]
  simp only[exec]
  by_cases h:b<A.length
  ·rw[if_pos h,if_pos (show Nat.blt b A.length=true from Nat.ble_eq_true_of_le h)]
  ·rw[if_neg h,if_neg (by rw[qa3 (by omega)];simp)]
 |new x k ih=>
  intro A f
  show qjv (k (hlen A)) (happ A x) f=_
  rw[vK,qgd,ih]
  rfl
def yN (S:List Nat) (lo:Nat) (p:Pg):Heap→zR→Res:=
 Pg.rec (motive:=fun _=>Heap→zR→Res) (fun _ _=>none) (fun v A f=>some (v,A,f))
  (fun b _ ih A f=>jh (S.contains b||Nat.ble lo b) (ob (hget A b) fun x=>ih x A ((b,false)::f)) none)
  (fun b x _ ih A f=>jh (S.contains b||Nat.ble lo b) (jh (Nat.blt b (hlen A)) (ih (hset A b x) ((b,true)::f)) none) none)
  (fun x _ ih A f=>ih (hlen A) (happ A x) f) p
theorem qkX {S:List Nat} {lo b:Nat} (h:(S.contains b||Nat.ble lo b)=true):b∈S∨lo≤b:=by
 simp only[Bool.or_eq_true]at h
 rcases h with h|h
 ·exact .inl (by simpa using h)
 ·exact .inr (Nat.le_of_ble_eq_true h)
theorem qet (S:List Nat) (lo:Nat): ∀(p:Pg) (A M:Heap) (f:zR) (v:AV) (A':Heap) (f':zR),M.length=A.length→lo≤A.length→(∀b,(b∈S∨lo≤b)→M[b]? =A[b]?)→yN S lo p A f=some (v,A',f')→
 ∃M',exec p M f=some (v,M',f')∧M'.length=A'.length∧(∀b,(b∈S∨lo≤b)→M'[b]? =A'[b]?)∧(∀b,b<lo→b∉S→A'[b]? =A[b]?)∧A.length≤A'.length:=by
 intro p
 induction p with
 |fail=>intro A M f v A' f' _ _ _ h;cases h
 |done u=>
  intro A M f v A' f' hl hlo hM h
  have h:some (u,A,f)=some (v,A',f'):=h
  simp only[Option.some.injEq,Prod.mk.injEq]at h
  obtain⟨rfl,rfl,rfl⟩:=h
  exact⟨M,rfl,hl,hM,fun _ _ _=>rfl,Nat.le_refl _⟩
 |get b k ih=>
  intro A M f v A' f' hl hlo hM h
  have h:jh (S.contains b||Nat.ble lo b) (ob (hget A b) fun x=>yN S lo (k x) A ((b,false)::f)) none=some (v,A',f'):=h
  rw[zi]at h
  split at h
  ·rename_i hs
   obtain⟨x,hx,h⟩:=zJ h
   rw[qgb]at hx
   have hMb:=hM b (qkX hs)
   obtain⟨M',h1,h2⟩:=ih x A M _ v A' f' hl hlo hM h
   refine⟨M',?_,h2⟩
   simp only[exec,hMb,hx]
   exact h1
  ·cases h
 |set b x k ih=>
  intro A M f v A' f' hl hlo hM h
  have h:jh (S.contains b||Nat.ble lo b) (jh (Nat.blt b (hlen A)) (yN S lo k (hset A b x) ((b,true)::f)) none) none=some (v,A',f'):=h
  rw[zi]at h
  split at h
  ·rename_i hs
   rw[zi]at h
   split at h
   ·rename_i hlt
    rw[vK]at hlt
    rw[qgk]at h
    have hb:b<A.length:=Nat.le_of_ble_eq_true hlt
    obtain⟨M',h1,h2,h3,h4,h5⟩:=ih (A.set b x) (M.set b x) _ v A' f' (by simp[hl]) (by simpa using hlo) (fun c hc=>by
     by_cases e:b=c
     ·subst e
      rw[List.getElem?_set_self (by omega),List.getElem?_set_self hb]
     ·rw[List.getElem?_set_ne e,List.getElem?_set_ne e,hM c hc]) h
    refine⟨M',?_,h2,h3,fun c hc hcS=>?_,by simpa using h5⟩
    ·simp only[exec,hl,hb,if_true]
     exact h1
    ·rw[h4 c hc hcS,List.getElem?_set_ne]
     rintro rfl
     rcases qkX hs with h|h
     ·exact hcS h
     ·omega
   ·cases h
  ·cases h
 |new x k ih=>
  intro A M f v A' f' hl hlo hM h
  have h:yN S lo (k (hlen A)) (happ A x) f=some (v,A',f'):=h
  rw[vK,qgd]at h
  obtain⟨M',h1,h2,h3,h4,h5⟩:=ih A.length (A++[x]) (M++[x]) f v A' f' (by simp[hl]) (by simp;omega) (fun c hc=>by
   rcases Nat.lt_or_ge c A.length with hlt|hge
   ·rw[List.getElem?_append_left (by omega),List.getElem?_append_left hlt,hM c hc]
   ·rw[List.getElem?_append_right (by omega),List.getElem?_append_right hge,hl]) h
  refine⟨M',?_,h2,h3,fun c hc hcS=>?_,?_⟩
  ·simp only[exec,hl]
   exact h1
  ·rw[h4 c hc hcS,List.getElem?_append_left (by omega)]
  ·simp at h5;omega
def Le (a b:zM):Prop:= ∀c args A r,a c args A=some r→b c args A=some r
section
variable (P:Program) (call:zM)
def qcE (o:Op):Bool:=match o with
 | .call _=>true
 |_=>false
def qgK (o:Oper) (fr:Fr) (A:Heap):Res:=
 jh (qcE o.op)
  (Option.rec (motive:=fun _=>Res) (qjv (qnR P o (vo fr)) A []) (fun g=>ob (call g.1 g.2 A) fun r=>some (r.1,r.2,[])) (zX o (vo fr)))
  (qjv (qnR P o (vo fr)) A [])
def qfA (ops:Array Oper) (l:List Oper):Fr→Heap→Option (Fr×Heap):=
 List.rec (motive:=fun _=>Fr→Heap→Option (Fr×Heap)) (fun fr A=>some (fr,A))
  (fun o _ ih fr A=>ob (qck ops o fr) fun w=>jh w (ob (qgK P call o fr A) fun r=>ih (qaU fr o.dst r.1) r.2.1) (ih (qaU fr o.dst (.tuple [])) A)) l
def qix (o:Oper) (fr:Fr) (A:Heap):Option (AV×Heap×Rec):=
 jh (qcE o.op&&(zX o (vo fr)).isSome)
  (ob (qdJ P call o fr A) fun r=>some (r.1,jh (r.2.2.fp.isEmpty&&Nat.beq (hlen r.2.1) (hlen A)) A r.2.1,r.2.2))
  (jh ((vO o (vo fr) A).all fun b=>Nat.blt b (hlen A))
   (ob (yN (vO o (vo fr) A) (hlen A) (qnR P o (vo fr)) A []) fun r=>some (r.1,r.2.1,⟨vO o (vo fr) A,r.2.2.any (·.2),hlen A,hlen r.2.1⟩)) none)
def qka (ops:Array Oper) (o:Oper) (fr:Fr) (A:Heap):Option ((Fr×Heap)×Rec):=
 ob (qck ops o (maskF (zN ops o) fr)) fun w=>jh w
  (ob (qix P call o (maskF (zN ops o) fr) A) fun r=>some ((qaU fr o.dst r.1,r.2.1),r.2.2))
  (some ((qaU fr o.dst (.tuple []),A),⟨[],false,hlen A,hlen A⟩))
def qnw (ops:Array Oper) (l:List Oper):Fr→Heap→Option ((Fr×Heap)×List Rec):=
 List.rec (motive:=fun _=>Fr→Heap→Option ((Fr×Heap)×List Rec)) (fun fr A=>some ((fr,A),[]))
  (fun o _ ih fr A=>ob (qka P call ops o fr A) fun q=>ob (ih q.1.1 q.1.2) fun r=>some (r.1,q.2::r.2)) l
def qh1 (ops:Array Oper) (fr:Fr) (A:Heap):Option (Fr×Heap):=
 ob (qnw P call ops ops.toList fr A) fun r=>jh (qdH ops r.2) (some r.1) none
def qeP (ops:Array Oper) (draw:Bool) (s:St):Option St:=
 jh draw (qh1 P call ops s.1 s.2) (qfA P call ops ops.toList s.1 s.2)
variable (N:Nat) (rd:Option Nat)
def qm8 (n:Nat) (f:St→Option (XA×St)):St→Option (XA×St):=
 Nat.rec (motive:=fun _=>St→Option (XA×St)) (fun _=>none)
  (fun _ ih s=>ob (f s) fun r=>XA.rec (motive:=fun _=>Option (XA×St)) (ih r.2) (fun id=>some (.exit id,r.2)) (some (.ret,r.2)) r.1) n
def qio (a:AV):Option Bool:=match a with
 | .bool b=>some b
 |_=>none
def qb4 (c:Code):St→Option (XA×St):=
 Code.rec (motive:=fun _=>St→Option (XA×St))
  (fun s=>some (.normal,s))
  (fun _ ops draw s=>ob (qeP P call ops draw s) fun r=>some (.normal,r))
  (fun _ _ iha ihb s=>ob (iha s) fun r=>XA.rec (motive:=fun _=>Option (XA×St)) (ihb r.2) (fun id=>some (.exit id,r.2)) (some (.ret,r.2)) r.1)
  (fun c _ _ iha ihb s=>ob (qio (vo s.1 c)) fun b=>jh b (iha s) (ihb s))
  (fun id _ ih s=>ob (ih s) fun r=>XA.rec (motive:=fun _=>Option (XA×St)) (some (.normal,r.2)) (fun k=>jh (Nat.beq k id) (some (.normal,r.2)) (some (.exit k,r.2))) (some (.ret,r.2)) r.1)
  (fun _ ih s=>qm8 N ih s)
  (fun g ps asg body _ _ s=>zD P call N rd (.rangeFunc g ps asg body) s)
  (fun id s=>some (.exit id,s))
  (fun _ ih s=>ih s)
  (fun _ s=>some (.normal,s))
  (fun _ _=>none)
  (fun s=>some (.ret,s))
  (fun _ _=>none) c
def qku (b:Nat) (args:List AV) (A:Heap):Option (AV×Heap):=
 match A[b]? with
 |some (.loop _ _ fr ps asg bd)=>
  if args.length=ps.size then
   match qb4 P call N (some b) asg (setAll fr ps.toList args,A)with
   |some (.normal,fr1,A1)=>match A1[b]? with
    |some (.loop .ready p1 f1 ps1 as1 bd1)=>qj3 b (qb4 P call N (some b) bd (fr1,A1.set b (.loop .busy p1 f1 ps1 as1 bd1)))
    |_=>none
   |_=>none
  else none
 |_=>none
def qkn (f:FuncId) (args:List AV) (A:Heap):Option (AV×Heap):=
 match P.funcs[f]? with
 |some fn=>
  if fn.name== "runtime.NumGoroutine" then none else
  match fn.body with
  |some c=>
   match qb4 P call N none c (frOf fn.ntmps args,A)with
   |some (.exit _,_)=>none
   |some (_,fr,A')=>(jB P fr A' fn.results.toList).map fun vs=>(qex vs,A')
   |none=>none
  |none=>none
 |none=>none
def qiB (c:Cl) (args:List AV) (A:Heap):Option (AV×Heap):=
 Cl.rec (motive:=fun _=>Option (AV×Heap)) (fun f=>qkn P call N f args A) (fun b=>qku P call N b args A) (fun _ _=>none) c
end
def qga (P:Program) (call:zM) (N:Nat) (post:zM):zM:=fun c args A=>
 Option.rec (motive:=fun _=>Option (AV×Heap)) (qiB P call N c args A) some (post c args A)
def qhU (mt:TypeId→String→Option FuncId) (c:Cl):Cl:=
 Cl.rec (motive:=fun _=>Cl) (fun f=> .fn f) (fun b=> .rd b) (fun t m=>Option.rec (motive:=fun _=>Cl) (.mt t m) (fun f=> .fn f) (mt t m)) c
def qmb (P:Program) (N:Nat) (mt:TypeId→String→Option FuncId) (pre post:zM) (pl:FuncId→Bool) (d:Nat):zM:=
 Nat.rec (motive:=fun _=>zM) pre (fun _ ih c args A=>Option.rec (motive:=fun _=>Option (AV×Heap)) (qhS (qga P ih N post) pl (qhU mt c) args A) some (pre (qhU mt c) args A)) d
section
variable {P:Program} {call call':zM} {N:Nat} {rd:Option Nat}
theorem qiS (hc:Le call call') {o:Oper} {fr:Fr} {A:Heap} {r:AV×Heap×zR} (h:yV P call o fr A=some r):yV P call' o fr A=some r:=by
 unfold yV at h⊢
 split at h
 ·obtain⟨x,hx,he⟩:=Option.map_eq_some_iff.1 h
  rw[hc _ _ _ _ hx]
  exact congrArg some he
 ·exact h
theorem qlE (hc:Le call call') {o:Oper} {fr:Fr} {A:Heap} {r:AV×Heap×zR} (h:qgK P call o fr A=some r):yV P call' o fr A=some r:=by
 unfold qgK at h
 rw[qdW,zi,qmh,qkZ]at h
 unfold yV
 split at h
 ·cases hg:zX o (jv fr)with
  |none=>rw[hg]at h;exact h
  |some g=>
   rw[hg]at h
   obtain⟨x,hx,he⟩:=zJ h
   obtain⟨g,args⟩:=g
   simp only[hc _ _ _ _ hx,Option.map_some]
   exact he
 ·rename_i hn
  have:zX o (jv fr)=none:=by
   unfold zX
   cases ho:o.op<;>simp[ho,qcE]at hn⊢
  rw[this]
  exact h
theorem qlP (hc:Le call call') {ops:Array Oper}: ∀(l:List Oper) {fr:Fr} {A:Heap} {r:Fr×Heap},qfA P call ops l fr A=some r→qb0 P call' ops l fr A=some r:=by
 intro l
 induction l with
 |nil=>intro fr A r h;exact h
 |cons o l ih=>
  intro fr A r h
  obtain⟨w,hw,h⟩:=zJ (show ob (qck ops o fr) (fun w=>jh w (ob (qgK P call o fr A) fun r=>qfA P call ops l (qaU fr o.dst r.1) r.2.1) (qfA P call ops l (qaU fr o.dst (.tuple [])) A))=some r from h)
  rw[qdI]at hw
  simp only[qb0,hw]
  cases w with
  |true=>
   obtain⟨x,hx,h⟩:=zJ (show ob (qgK P call o fr A) (fun r=>qfA P call ops l (qaU fr o.dst r.1) r.2.1)=some r from h)
   obtain⟨v,A',f⟩:=x
   rw[xJ]at h
   simp only[qlE hc hx]
   exact ih h
  |false=>
   have h:qfA P call ops l (qaU fr o.dst (.tuple [])) A=some r:=h
   rw[xJ]at h
   exact ih h
theorem qi9 (hc:Le call call') {o:Oper} {fr:Fr} {A:Heap} {r:AV×Heap×Rec} (h:qdJ P call o fr A=some r):qdJ P call' o fr A=some r:=by
 unfold qdJ at h⊢
 simp only at h⊢
 split at h
 ·rename_i hall
  rw[if_pos hall]
  split at h
  ·rename_i v B f hs
   rw[qiS hc hs]
   exact h
  ·cases h
 ·cases h
theorem qh6 {A B:Heap} (h:B.length=A.length):merge [] A B=A:=by
 refine List.ext_getElem? fun b=>?_
 rw[qaZ]
 rcases Nat.lt_or_ge b A.length with hb|hb
 ·rw[List.getElem?_eq_getElem (show b<B.length by omega),List.getElem?_eq_getElem hb]
  simp[hb,List.getD_eq_getElem?_getD]
 ·rw[List.getElem?_eq_none (by omega),List.getElem?_eq_none hb]
  rfl
theorem qlp (hc:Le call call') {o:Oper} {fr:Fr} {A:Heap} {r:AV×Heap×Rec} (h:qix P call o fr A=some r):qdJ P call' o fr A=some r:=by
 unfold qix at h
 rw[qdW,qkZ]at h
 rw[zi]at h
 split at h
 ·obtain⟨x,hx,h⟩:=zJ h
  have hx':=qi9 hc hx
  rw[hx']
  rw[←h]
  obtain⟨v,B,q⟩:=x
  simp only[Option.some.injEq,Prod.mk.injEq,true_and,and_true]
  rw[zi]
  split
  ·rename_i hb
   simp only[Bool.and_eq_true,vK]at hb
   obtain⟨h1,h2⟩:=hb
   have hlen:=Nat.eq_of_beq_eq_true h2
   unfold qdJ at hx
   simp only at hx
   split at hx
   ·split at hx
    ·split at hx
     ·simp only[Option.some.injEq,Prod.mk.injEq]at hx
      obtain⟨_,h3,h4⟩:=hx
      rw[←h4]at h1
      simp only[List.isEmpty_iff]at h1
      rw[h1]at h3
      rw[←h3]at hlen⊢
      rw[xg]at hlen
      exact qh6 hlen
     ·cases hx
    ·cases hx
   ·cases hx
  ·rfl
 ·rename_i hn
  rw[zi]at h
  split at h
  ·rename_i hall
   obtain⟨x,hx,h⟩:=zJ h
   obtain⟨v,A',f⟩:=x
   have hnc:zX o (jv fr)=none:=by
    cases hg:zX o (jv fr)with
    |none=>rfl
    |some g=>
     exfalso
     apply hn
     rw[hg]
     unfold zX at hg
     cases ho:o.op<;>simp[ho,qcE]at hg⊢
   simp only[vK]at hall hx h
   generalize hS:vO o (jv fr) A=S at hall hx h
   have hall2: ∀b∈S,b<A.length:=fun b hb=>Nat.le_of_ble_eq_true (List.all_eq_true.1 hall b hb)
   obtain⟨M',h1,h2,h3,h4,h5⟩:=qet S A.length (aop P o (jv fr)) A (mask S A) [] v A' f (jX _ _) (Nat.le_refl _) (fun b hb=>by
    rw[qbL]
    rcases hb with hb|hb
    ·rw[List.getElem?_eq_getElem (hall2 b hb)]
     simp[hb]
    ·rw[List.getElem?_eq_none hb];rfl) hx
   have hm:merge S A M'=A':=by
    refine List.ext_getElem? fun b=>?_
    rw[qaZ]
    rcases Nat.lt_or_ge b A'.length with hb|hb
    ·rw[List.getElem?_eq_getElem (show b<M'.length by omega)]
     simp only[Option.map_some]
     by_cases hc:b<A.length∧b∉S
     ·have e:(decide (b<A.length)&&!S.contains b)=true:=by simp[hc.1,hc.2]
      rw[if_pos e,h4 b hc.1 hc.2,List.getElem?_eq_getElem hc.1]
      simp[List.getD_eq_getElem?_getD,List.getElem?_eq_getElem hc.1]
     ·have e: ¬(decide (b<A.length)&&!S.contains b)=true:=by
       simp only[Bool.and_eq_true,decide_eq_true_eq,Bool.not_eq_true',List.contains_eq_mem]
       intro h
       exact hc ⟨h.1,by simpa using h.2⟩
      rw[if_neg e,←h3 b (by
       rcases Nat.lt_or_ge b A.length with hlt|hge
       ·left
        exact Classical.byContradiction fun hs=>hc ⟨hlt,hs⟩
       ·exact .inr hge),List.getElem?_eq_getElem (show b<M'.length by omega)]
    ·rw[List.getElem?_eq_none (show M'.length≤b by omega),List.getElem?_eq_none hb]
     rfl
   have hall3:(S.all fun b=>decide (b<A.length))=true:=List.all_eq_true.2 fun b hb=>decide_eq_true (hall2 b hb)
   unfold qdJ
   simp only[hS,hall3,if_true]
   unfold yV
   simp only[hnc,h1,Option.isSome_none,Bool.false_and,Bool.or_false]
   have h0:A.length≤M'.length:=by omega
   rw[if_pos h0,hm,←h,h2]
  ·cases h
theorem qlV (hc:Le call call') {ops:Array Oper} {j:Nat} {o:Oper} (ho:ops[j]? =some o) {fr:Fr} {A:Heap} {r:(Fr×Heap)×Rec} (h:qka P call ops o fr A=some r):qcY P call' ops j (fr,A)=some r:=by
 obtain⟨w,hw,h⟩:=zJ h
 rw[qdI]at hw
 simp only[qcY,ho,hw]
 cases w with
 |true=>
  obtain⟨x,hx,h⟩:=zJ (show ob (qix P call o (maskF (zN ops o) fr) A) (fun r=>some ((qaU fr o.dst r.1,r.2.1),r.2.2))=some r from h)
  obtain⟨v,B,q⟩:=x
  rw[xJ]at h
  simp only[qlp hc hx]
  exact h
 |false=>
  have h:some ((qaU fr o.dst (.tuple []),A),(⟨[],false,hlen A,hlen A⟩:Rec))=some r:=h
  rw[xJ,vK]at h
  exact h
theorem qmw (hc:Le call call') {ops:Array Oper}: ∀(l pre:List Oper),ops.toList=pre++l→ ∀{fr:Fr} {A:Heap} {r:(Fr×Heap)×List Rec},qnw P call ops l fr A=some r→qem P call' ops l.length pre.length (fr,A)=some r:=by
 intro l
 induction l with
 |nil=>intro pre _ fr A r h;exact h
 |cons o l ih=>
  intro pre hp fr A r h
  obtain⟨q,hq,h⟩:=zJ (show ob (qka P call ops o fr A) (fun q=>ob (qnw P call ops l q.1.1 q.1.2) fun r=>some (r.1,q.2::r.2))=some r from h)
  obtain⟨x,hx,h⟩:=zJ h
  have ho:ops[pre.length]? =some o:=by
   rw[←Array.getElem?_toList,hp]
   simp
  obtain⟨⟨fr1,A1⟩,rc⟩:=q
  have h2:=ih (pre++[o]) (by simp[hp]) hx
  simp only[List.length_append,List.length_cons,List.length_nil,Nat.zero_add]at h2
  simp only[List.length_cons,qem,qlV hc ho hq,h2,Option.map_some]
  exact h
theorem qjc (hc:Le call call') {ops:Array Oper} {draw:Bool} {s r:St} (h:qeP P call ops draw s=some r):qbv P call' ops draw s=some r:=by
 unfold qeP at h
 unfold qbv
 cases draw with
 |true=>
  obtain⟨x,hx,h⟩:=zJ (show qh1 P call ops s.1 s.2=some r from h)
  have h2:=qmw hc ops.toList [] rfl hx
  have hlen:ops.toList.length=ops.size:=by simp
  rw[hlen]at h2
  simp only[if_true,qbG]
  rw[show qem P call' ops ops.size 0 (s.1,s.2)=some x from h2]
  obtain⟨x1,x2⟩:=x
  rw[zi]at h
  exact h
 |false=>
  simp only[Bool.false_eq_true,if_false]
  exact qlP hc _ h
theorem qmV {f f':St→Option (XA×St)} (hf: ∀s r,f s=some r→f' s=some r): ∀(n:Nat) {s:St} {r:XA×St},qm8 n f s=some r→qea n f' s=some r:=by
 intro n
 induction n with
 |zero=>intro s r h;cases h
 |succ n ih=>
  intro s r h
  obtain⟨x,hx,h⟩:=zJ (show ob (f s) (fun r=>XA.rec (motive:=fun _=>Option (XA×St)) (qm8 n f r.2) (fun id=>some (.exit id,r.2)) (some (.ret,r.2)) r.1)=some r from h)
  obtain⟨x1,x2⟩:=x
  simp only[qea,hf _ _ hx]
  cases x1 with
  |normal=>exact ih h
  |exit id=>exact h
  |ret=>exact h
theorem qjk {a:AV} {b:Bool} (h:qio a=some b):a= .bool b:=by
 unfold qio at h
 split at h
 ·injection h with h;rw[h]
 ·cases h
theorem qm2 (hc:Le call call'): ∀(c:Code) {s:St} {r:XA×St},zD P call N rd c s=some r→zD P call' N rd c s=some r:=by
 have regLe: ∀{ops:Array Oper} {draw:Bool} {s r:St},qbv P call ops draw s=some r→qbv P call' ops draw s=some r:=by
  intro ops draw s r h
  have hI: ∀{j:Nat} {s:Fr×Heap} {r:(Fr×Heap)×Rec},qcY P call ops j s=some r→qcY P call' ops j s=some r:=by
   intro j s r h
   unfold qcY at h⊢
   split at h
   ·cases h
   ·rename_i o ho
    split at h
    ·split at h
     ·rename_i v A' q hs
      simp only[qi9 hc hs]
      exact h
     ·cases h
    ·exact h
    ·cases h
  have hL: ∀(l:List Oper) {fr:Fr} {A:Heap} {r:Fr×Heap},qb0 P call ops l fr A=some r→qb0 P call' ops l fr A=some r:=by
   intro l
   induction l with
   |nil=>intro fr A r h;exact h
   |cons o l ih=>
    intro fr A r h
    simp only[qb0]at h⊢
    split at h
    ·split at h
     ·rename_i v A' f hs
      simp only[qiS hc hs]
      exact ih h
     ·cases h
    ·exact ih h
    ·cases h
  have hR: ∀(m j:Nat) {s:Fr×Heap} {r:(Fr×Heap)×List Rec},qem P call ops m j s=some r→qem P call' ops m j s=some r:=by
   intro m
   induction m with
   |zero=>intro j s r h;exact h
   |succ m ih=>
    intro j s r h
    simp only[qem]at h⊢
    split at h
    ·rename_i s' q hs
     simp only[hI hs]
     obtain⟨x,hx,he⟩:=Option.map_eq_some_iff.1 h
     rw[ih _ hx]
     exact congrArg some he
    ·cases h
  unfold qbv at h⊢
  split at h
  ·rename_i hd
   rw[if_pos hd]
   unfold qbG at h⊢
   split at h
   ·rename_i x rs hs
    rw[hR _ _ hs]
    exact h
   ·cases h
  ·rename_i hd
   rw[if_neg hd]
   exact hL _ h
 intro c
 induction c with
 |region id ops draw=>
  intro s r h
  simp only[zD]at h⊢
  obtain⟨x,hx,he⟩:=Option.map_eq_some_iff.1 h
  rw[regLe hx]
  exact congrArg some he
 |seq a b iha ihb=>
  intro s r h
  simp only[zD]at h⊢
  split at h
  ·rename_i s' hs
   rw[iha hs]
   exact ihb h
  ·rename_i r' hr
   cases hx:zD P call N rd a s with
   |none=>rw[hx]at h;cases h
   |some x=>
    rw[iha hx]
    rw[hx]at h
    obtain⟨x1,x2⟩:=x
    cases x1 with
    |normal=>exact absurd hx (hr x2)
    |exit id=>exact h
    |ret=>exact h
 |cond c a b iha ihb=>
  intro s r h
  simp only[zD]at h⊢
  split at h
  ·exact iha h
  ·exact ihb h
  ·cases h
 |block id b ih=>
  intro s r h
  simp only[zD]at h⊢
  cases hx:zD P call N rd b s with
  |none=>rw[hx]at h;cases h
  |some x=>
   rw[ih hx]
   rw[hx]at h
   exact h
 |loop b ih=>
  intro s r h
  simp only[zD]at h⊢
  have: ∀(n:Nat) {s:St} {r:XA×St},qea n (zD P call N rd b) s=some r→qea n (zD P call' N rd b) s=some r:=by
   intro n
   induction n with
   |zero=>intro s r h;cases h
   |succ n ihn=>
    intro s r h
    simp only[qea]at h⊢
    cases hx:zD P call N rd b s with
    |none=>rw[hx]at h;cases h
    |some x=>
     rw[ih hx]
     rw[hx]at h
     obtain⟨x1,x2⟩:=x
     cases x1 with
     |normal=>exact ihn h
     |exit id=>exact h
     |ret=>exact h
  exact this N h
 |scope b ih=>intro s r h;exact ih h
 |rangeFunc g ps asg body=>
  intro s r h
  simp only[zD]at h⊢
  split at h
  ·rename_i hok hg
   split at h
   ·cases h
   ·rename_i hent
    rw[if_neg hent]
    split at h
    ·rename_i v A2 hcall
     rw[hc _ _ _ _ hcall]
     exact h
    ·cases h
  ·cases h
 |_=>intro s r h;first|exact h|(simp[zD]at h⊢;done)|(simp only[zD]at h⊢;exact h)
theorem qfd (hc:Le call call'): ∀(c:Code) {s:St} {r:XA×St},qb4 P call N rd c s=some r→zD P call' N rd c s=some r:=by
 intro c
 induction c with
 |skip=>intro s r h;exact h
 |region id ops draw=>
  intro s r h
  obtain⟨x,hx,h⟩:=zJ (show ob (qeP P call ops draw s) (fun r=>some (XA.normal,r))=some r from h)
  simp only[zD,qjc hc hx,Option.map_some]
  exact h
 |seq a b iha ihb=>
  intro s r h
  obtain⟨x,hx,h⟩:=zJ (show ob (qb4 P call N rd a s) (fun r=>XA.rec (motive:=fun _=>Option (XA×St)) (qb4 P call N rd b r.2) (fun id=>some (.exit id,r.2)) (some (.ret,r.2)) r.1)=some r from h)
  obtain⟨x1,x2⟩:=x
  simp only[zD,iha hx]
  cases x1 with
  |normal=>exact ihb h
  |exit id=>exact h
  |ret=>exact h
 |cond c a b iha ihb=>
  intro s r h
  obtain⟨x,hx,h⟩:=zJ (show ob (qio (vo s.1 c)) (fun t=>jh t (qb4 P call N rd a s) (qb4 P call N rd b s))=some r from h)
  rw[qdW]at hx
  simp only[zD,qjk hx]
  cases x with
  |true=>exact iha h
  |false=>exact ihb h
 |block id b ih=>
  intro s r h
  obtain⟨x,hx,h⟩:=zJ (show ob (qb4 P call N rd b s) (fun r=>XA.rec (motive:=fun _=>Option (XA×St)) (some (.normal,r.2)) (fun k=>jh (Nat.beq k id) (some (.normal,r.2)) (some (.exit k,r.2))) (some (.ret,r.2)) r.1)=some r from h)
  obtain⟨x1,x2⟩:=x
  simp only[zD,ih hx]
  cases x1 with
  |normal=>exact h
  |exit k=>
   have h:jh (Nat.beq k id) (some (XA.normal,x2)) (some (.exit k,x2))=some r:=h
   rw[zi]at h
   simp only
   by_cases e:k=id
   ·rw[if_pos e]
    rw[if_pos (qcP e)]at h
    exact h
   ·rw[if_neg e]
    rw[if_neg (by rw[qa8 e];simp)]at h
    exact h
  |ret=>exact h
 |loop b ih=>
  intro s r h
  exact qmV (fun s r h=>ih h) N h
 |scope b ih=>intro s r h;exact ih h
 |rangeFunc g ps asg body=>intro s r h;exact qm2 hc (.rangeFunc g ps asg body) h
 |exit id=>intro s r h;exact h
 |label l=>intro s r h;exact h
 |ret=>intro s r h;exact h
 |_=>intro s r h;cases h
theorem qjZ (hc:Le call call'):Le (qiB P call N) (qib P call' N):=by
 intro c args A r h
 cases c with
 |fn f=>
  have h:qkn P call N f args A=some r:=h
  show qjD P call' N f args A=some r
  unfold qkn at h
  unfold qjD
  split at h
  ·rename_i fn hf
   rw[hf]
   simp only
   split at h
   ·cases h
   ·rename_i hn
    rw[if_neg hn]
    split at h
    ·rename_i c hb
     rw[hb]
     simp only
     cases hx:qb4 P call N none c (frOf _ args,A)with
     |none=>rw[hx]at h;cases h
     |some x=>
      rw[qfd hc c hx]
      rw[hx]at h
      exact h
    ·cases h
  ·cases h
 |mt t m=>cases h
 |rd b=>
  have h:qku P call N b args A=some r:=h
  show qiO P call' N b args A=some r
  unfold qku at h
  unfold qiO
  split at h
  ·rename_i hb
   rw[hb]
   simp only
   split at h
   ·rename_i hl
    rw[if_pos hl]
    split at h
    ·rename_i hx
     rw[qfd hc _ hx]
     simp only
     split at h
     ·rename_i hb2
      rw[hb2]
      simp only
      rename_i p1 f1 ps1 as1 bd1
      unfold qj3 at h
      split at h
      ·rename_i x fr2 A2 hy
       rw[qfd hc _ hy]
       exact h
      ·cases h
     ·cases h
    ·cases h
   ·cases h
  ·cases h
theorem qkf (hm:P.follows .mixedOrders=true) (hc:zg P call):zg P (qiB P call N):=
 fun c args A v A' h=>qln hm hc c args A v A' (qjZ (fun _ _ _ _ h=>h) c args A _ h)
theorem qjV (hm:P.follows .mixedOrders=true) (hc:zg P call) {post:zM} (hp:zg P post):zg P (qga P call N post):=by
 intro c args A v A' h
 unfold qga at h
 cases hx:post c args A with
 |some x=>
  rw[hx]at h
  have h:some x=some (v,A'):=h
  injection h with h
  subst h
  exact hp _ _ _ _ _ hx
 |none=>
  rw[hx]at h
  exact qkf hm hc _ _ _ _ _ h
theorem qms {mt:TypeId→String→Option FuncId} (hmt: ∀t m f,mt t m=some f→Enters P f∧MtOK P t m f) {c:Cl} {args:List AV} {A:Heap} {v:AV} {A':Heap} (h:qf P (qhU mt c) args A v A'):qf P c args A v A':=by
 cases c with
 |fn f=>exact h
 |rd b=>exact h
 |mt t m=>
  have h:qf P (Option.rec (motive:=fun _=>Cl) (.mt t m) (fun f=> .fn f) (mt t m)) args A v A':=h
  cases hf:mt t m with
  |none=>rw[hf]at h;exact h
  |some f=>
   rw[hf]at h
   obtain⟨h1,h2⟩:=hmt t m f hf
   exact⟨f,h2,fun F nu w vs i hargs=>qf.calls (f:=f) h h1 i hargs⟩
theorem qnj (hm:P.follows .mixedOrders=true) {mt:TypeId→String→Option FuncId} (hmt: ∀t m f,mt t m=some f→Enters P f∧MtOK P t m f) {pre post:zM} {pl:FuncId→Bool} (hp:zg P pre) (hq:zg P post): ∀d,zg P (qmb P N mt pre post pl d):=by
 intro d
 induction d with
 |zero=>exact hp
 |succ d ih=>
  intro c args A v A' h
  refine qms hmt ?_
  have h:Option.rec (motive:=fun _=>Option (AV×Heap)) (qhS (qga P (qmb P N mt pre post pl d) N post) pl (qhU mt c) args A) some (pre (qhU mt c) args A)=some (v,A'):=h
  cases hx:pre (qhU mt c) args A with
  |some x=>
   rw[hx]at h
   have h:some x=some (v,A'):=h
   injection h with h
   subst h
   exact hp _ _ _ _ _ hx
  |none=>
   rw[hx]at h
   exact qmt (qjV hm ih hq) pl _ _ _ _ _ h
def memo (l:List (FuncId×List AV×AV)):zM:=fun c args A=>
 Cl.rec (motive:=fun _=>Option (AV×Heap)) (fun f=>List.rec (motive:=fun _=>Option (AV×Heap))
  (List.rec (motive:=fun _=>Option (AV×Heap)) none (fun e _ ih=>jh (Nat.beq f e.1&&qbe (qbf 30) args e.2.1) (some (e.2.2,[])) ih) l) (fun _ _ _=>none) A) (fun _=>none) (fun _ _=>none) c
theorem qoa: ∀{l:List (FuncId×List AV×AV)},(∀e∈l,qf P (.fn e.1) e.2.1 [] e.2.2 [])→zg P (memo l):=by
 intro l
 induction l with
 |nil=>
  intro _ c args A v A' h
  cases c with
  |rd b=>cases h
  |mt t m=>cases h
  |fn f=>
   cases A with
   |nil=>cases h
   |cons x A=>cases h
 |cons e l ih=>
  intro hl c args A v A' h
  cases c with
  |rd b=>cases h
  |mt t m=>cases h
  |fn f=>
   cases A with
   |cons x A=>cases h
   |nil=>
    have h:jh (Nat.beq f e.1&&qbe (qbf 30) args e.2.1) (some (e.2.2,[])) (memo l (.fn f) args [])=some (v,A'):=h
    rw[zi]at h
    split at h
    ·rename_i hb
     simp only[Bool.and_eq_true]at hb
     have e1:=Nat.eq_of_beq_eq_true hb.1
     have e2:=qeH (qhh 30) _ _ hb.2
     simp only[Option.some.injEq,Prod.mk.injEq]at h
     obtain⟨rfl,rfl⟩:=h
     subst e1 e2
     exact hl e (by simp)
    ·exact ih (fun e he=>hl e (by simp[he])) _ _ _ _ _ h
end
end Go.Av
