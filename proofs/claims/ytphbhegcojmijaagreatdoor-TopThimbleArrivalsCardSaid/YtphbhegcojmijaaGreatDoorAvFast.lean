/-
  The evaluator once more, told by recursors, so that the kernel has few steps to go; where it tells something, callP tells the same.
-/
import Derived.Test.YtphbhegcojmijaaGreatDoorAvCon
import Derived.IntWalk
noncomputable section
namespace Go.Av
set_option linter.unusedSectionVars false
variable [Glob]
def ob {α β:Type} (x:Option α) (k:α→Option β):Option β:=Option.rec (motive:=fun _=>Option β) none k x
theorem yI {α β:Type} {x:Option α} {k:α→Option β} {r:β} (h:ob x k=some r): ∃a,x=some a∧k a=some r:=by
 cases x with
 |none=>cases h
 |some a=>exact⟨a,rfl,h⟩
def qaa {α:Type} (b:Bool) (x y:α):α:=Bool.rec (motive:=fun _=>α) y x b
theorem vv {α:Type} (b:Bool) (x y:α):qaa b x y=if b=true then x else y:=by cases b<;>rfl
def hget (A:Heap):Nat→Option Blk:=
 List.rec (motive:=fun _=>Nat→Option Blk) (fun _=>none) (fun x _ ih b=>Nat.rec (motive:=fun _=>Option Blk) (some x) (fun n _=>ih n) b) A
theorem qn5: ∀(A:Heap) (b:Nat),hget A b=A[b]? :=by
 intro A
 induction A with
 |nil=>intro b;rfl
 |cons x A ih=>
  intro b
  cases b with
  |zero=>rfl
  |succ b=>exact(ih b).trans (by simp)
def hset (A:Heap):Nat→Blk→Heap:=
 List.rec (motive:=fun _=>Nat→Blk→Heap) (fun _ _=>[]) (fun y ys ih b x=>Nat.rec (motive:=fun _=>Heap) (x::ys) (fun n _=>y::ih n x) b) A
theorem qoa: ∀(A:Heap) (b:Nat) (x:Blk),hset A b x=A.set b x:=by
 intro A
 induction A with
 |nil=>intro b x;rfl
 |cons y A ih=>
  intro b x
  cases b with
  |zero=>rfl
  |succ b=>exact congrArg (y:: ·) (ih b x)
def happ (A:Heap) (x:Blk):Heap:=List.rec (motive:=fun _=>Heap) [x] (fun y _ ih=>y::ih) A
theorem qnX: ∀(A:Heap) (x:Blk),happ A x=A++[x]:=by
 intro A
 induction A with
 |nil=>intro x;rfl
 |cons y A ih=>intro x;exact congrArg (y:: ·) (ih x)
def hlen (A:Heap):Nat:=List.rec (motive:=fun _=>Nat) 0 (fun _ _ ih=>Nat.succ ih) A
theorem qbB: ∀(A:Heap),hlen A=A.length:=by
 intro A
 induction A with
 |nil=>rfl
 |cons y A ih=>exact congrArg Nat.succ ih
def quL (v:Value):AV:=
 match v with
 | .int k n=> .int k n
 | .bool b=> .bool b
 |v=>qfd 3 v
theorem qt4 (v:Value):quL v=qfd 3 v:=by cases v<;>rfl
def qbk (fr:Fr) (x:Operand):AV:=
 Operand.rec (motive:=fun _=>AV) (fun t=>fr.get t) (fun v=>quL v) (fun g=>Glob.gl g) (fun f=> .func (.func f) [] []) x
theorem qkf (fr:Fr):qbk fr=qas fr:=by
 funext x
 cases x with
 |const v=>exact qt4 v
 |_=>rfl
def qrJ {β:Type} (a:AV) (k:IntKind→Int→Option β):Option β:=
 AV.rec (motive_1:=fun _=>Option β) (motive_2:=fun _=>Unit) none (fun _=>none) k (fun _=>none) none (fun _ _=>none) (fun _ _ _=>none) none (fun _ _ _ _ _=>none) (fun _ _ _=>none) (fun _ _ _=>none) (fun _ _ _ _=>none) (fun _ _ _=>none) none (fun _=>none)
  (fun _ _ _ _=>none) (fun _ _ _ _ _=>none) (fun _=>none) none (fun _ _ _=>none) none (fun _ _=>none) (fun _ _=>none) none () (fun _ _ _ _=>()) a
theorem qoG {β:Type} {a:AV} {k:IntKind→Int→Option β} {r:β} (h:qrJ a k=some r): ∃q n,a= .int q n∧k q n=some r:=by
 cases a<;>first|exact⟨_,_,rfl,h⟩|cases h
def qrR {β:Type} (k:IntKind) (x:Option β):Option β:=IntKind.rec (motive:=fun _=>Option β) none none none x none none none none k
def quv (n:Int):Int:=
 Int.rec (motive:=fun _=>Int) (fun m=>qaa (Nat.blt m 9223372036854775808) (.ofNat m) (IntKind.wrap .i64 (.ofNat m))) (fun m=>qaa (Nat.blt m 9223372036854775808) (.negSucc m) (IntKind.wrap .i64 (.negSucc m))) n
theorem quV (n:Int):quv n=IntKind.wrap .i64 n:=by
 cases n with
 |ofNat m=>
  show qaa _ _ _=_
  rw[vv]
  split
  ·rename_i h
   have h:m<9223372036854775808:=Nat.le_of_ble_eq_true h
   exact(Go.IntWalk.i64_in _ ⟨by simp only[Int.ofNat_eq_natCast];omega,by simp only[Int.ofNat_eq_natCast];omega⟩).symm
  ·rfl
 |negSucc m=>
  show qaa _ _ _=_
  rw[vv]
  split
  ·rename_i h
   have h:m<9223372036854775808:=Nat.le_of_ble_eq_true h
   have:=Int.negSucc_eq m
   exact(Go.IntWalk.i64_in _ ⟨by omega,by omega⟩).symm
  ·rfl
def addK (a b:Int):Int:=
 Int.rec (motive:=fun _=>Int) (fun m=>Int.rec (motive:=fun _=>Int) (fun n=> .ofNat (Nat.add m n)) (fun n=>Int.add (.ofNat m) (.negSucc n)) b) (fun m=>Int.add (.negSucc m) b) a
theorem qwK (a b:Int):addK a b=a+b:=by
 cases a<;>cases b<;>rfl
def mulK (a b:Int):Int:=
 Int.rec (motive:=fun _=>Int) (fun m=>Int.rec (motive:=fun _=>Int) (fun n=> .ofNat (Nat.mul m n)) (fun n=>Int.mul (.ofNat m) (.negSucc n)) b) (fun m=>Int.mul (.negSucc m) b) a
theorem qwz (a b:Int):mulK a b=a*b:=by
 cases a<;>cases b<;>rfl
def ltK (a b:Int):Bool:=
 Int.rec (motive:=fun _=>Bool) (fun m=>Int.rec (motive:=fun _=>Bool) (fun n=>Nat.blt m n) (fun _=>false) b) (fun m=>Int.rec (motive:=fun _=>Bool) (fun _=>true) (fun n=>Nat.blt n m) b) a
theorem qxe (a b:Int):ltK a b=decide (a<b):=by
 have key: ∀m n:Nat,Nat.blt m n=decide (m<n):=by
  intro m n
  by_cases h:m<n
  ·rw[decide_eq_true h];exact Nat.ble_eq_true_of_le h
  ·rw[decide_eq_false h];exact qfu (by omega)
 cases a with
 |ofNat m=>
  cases b with
  |ofNat n=>exact(key m n).trans (decide_eq_decide.2 (by simp))
  |negSucc n=>
   refine(decide_eq_false ?_).symm
   have:=Int.negSucc_eq n
   simp only[Int.ofNat_eq_natCast]
   omega
 |negSucc m=>
  cases b with
  |ofNat n=>
   refine(decide_eq_true ?_).symm
   have:=Int.negSucc_eq m
   simp only[Int.ofNat_eq_natCast]
   omega
  |negSucc n=>
   refine(key n m).trans (decide_eq_decide.2 ?_)
   have:=Int.negSucc_eq n
   have:=Int.negSucc_eq m
   omega
def eqK (a b:Int):Bool:=
 Int.rec (motive:=fun _=>Bool) (fun m=>Int.rec (motive:=fun _=>Bool) (fun n=>Nat.beq m n) (fun _=>false) b) (fun m=>Int.rec (motive:=fun _=>Bool) (fun _=>false) (fun n=>Nat.beq m n) b) a
theorem qxr (a b:Int):eqK a b=(a==b):=by
 have key: ∀m n:Nat,Nat.beq m n=decide (m=n):=by
  intro m n
  by_cases h:m=n
  ·rw[decide_eq_true h];exact qic h
  ·rw[decide_eq_false h];exact qfE h
 have e:(a==b)=decide (a=b):=by rfl
 rw[e]
 cases a with
 |ofNat m=>
  cases b with
  |ofNat n=>exact(key m n).trans (decide_eq_decide.2 (by simp only[Int.ofNat_eq_natCast];omega))
  |negSucc n=>exact(decide_eq_false (by simp)).symm
 |negSucc m=>
  cases b with
  |ofNat n=>exact(decide_eq_false (by simp)).symm
  |negSucc n=>exact(key m n).trans (decide_eq_decide.2 (by simp))
def binI (op:BinOp) (a b:Int):Option AV:=
 match op with
 | .add=>some (.int .i64 (quv (addK a b)))
 | .mul=>some (.int .i64 (quv (mulK a b)))
 | .eql=>some (.bool (eqK a b))
 | .neq=>some (.bool (qaa (eqK a b) false true))
 | .lss=>some (.bool (ltK a b))
 | .leq=>some (.bool (qaa (ltK b a) false true))
 | .gtr=>some (.bool (ltK b a))
 | .geq=>some (.bool (qaa (ltK a b) false true))
 |_=>none
theorem qwn {op:BinOp} {a b:Int} {v:AV} (h:binI op a b=some v) (P:Program) (t:TypeId) (ox oy:Operand):qiI P op t ox oy (.int .i64 a) (.int .i64 b)=some v:=by
 have nb: ∀x:Bool,qaa x false true=!x:=by intro x;cases x<;>rfl
 cases op<;>simp only[binI,quV,qwK,qwz,qxe,qxr,nb,reduceCtorEq]at h<;>rw[←h]<;>simp only[qiI,qj7,qpe,Bool.false_eq_true,if_false,if_true,Option.some.injEq,AV.bool.injEq]
 ·rfl
 ·rw[←decide_not];exact decide_eq_decide.2 (by omega)
 ·rw[←decide_not];exact decide_eq_decide.2 (by omega)
def binK (P:Program) (op:BinOp) (t:TypeId) (ox oy:Operand) (x y:AV):Option AV:=
 Option.rec (motive:=fun _=>Option AV) (qiI P op t ox oy x y) some
  (qrJ x fun k a=>qrR k (qrJ y fun q b=>qrR q (binI op a b)))
theorem qpp {β:Type} {k:IntKind} {x:Option β} {r:β} (h:qrR k x=some r):k= .i64∧x=some r:=by
 cases k<;>first|exact⟨rfl,h⟩|cases h
theorem qwF (P:Program) (op:BinOp) (t:TypeId) (ox oy:Operand) (x y:AV):binK P op t ox oy x y=qiI P op t ox oy x y:=by
 unfold binK
 cases h:qrJ x fun k a=>qrR k (qrJ y fun q b=>qrR q (binI op a b))with
 |none=>rfl
 |some v=>
  obtain⟨k,a,e1,h1⟩:=qoG h
  obtain⟨e2,h2⟩:=qpp h1
  obtain⟨q,b,e3,h3⟩:=qoG h2
  obtain⟨e4,h4⟩:=qpp h3
  subst e1 e2 e3 e4
  exact(qwn h4 P t ox oy).symm
def optK (x:Option AV):Pg:=Option.rec (motive:=fun _=>Pg) .fail .done x
theorem qwN (x:Option AV):optK x= .opt x:=by cases x<;>rfl
def qwa (P:Program) (o:Oper) (ρ:Operand→AV):Pg:=
 match o.op with
 | .move x=> .done (ρ x)
 | .assign x=> .done (ρ x)
 | .binOp op t x y _=>optK (binK P op t x y (ρ x) (ρ y))
 |_=>aop P o ρ
theorem qs0 (P:Program) (o:Oper) (ρ:Operand→AV):qwa P o ρ=aop P o ρ:=by
 unfold qwa
 split
 ·rename_i h;simp only[aop,h]
 ·rename_i h;simp only[aop,h]
 ·rename_i h;simp only[aop,h,qwN,qwF]
 ·rfl
def qfj (fr:Fr) (dst:Option Tmp) (v:AV):Fr:=Option.rec (motive:=fun _=>Fr) fr (fun d=>fr.set d v) dst
theorem qdN (fr:Fr) (dst:Option Tmp) (v:AV):qfj fr dst v=qeO fr dst v:=by cases dst<;>rfl
def qh5 (ops:Array Oper) (o:Oper) (fr:Fr):Option Bool:=Option.rec (motive:=fun _=>Option Bool) (some true) (fun _=>qbp ops o fr) o.guard
theorem qjF (ops:Array Oper) (o:Oper) (fr:Fr):qh5 ops o fr=qbp ops o fr:=by
 unfold qh5
 cases h:o.guard with
 |none=>simp[qbp,h]
 |some g=>rfl
def qrQ (p:Pg):Heap→yX→Res:=
 Pg.rec (motive:=fun _=>Heap→yX→Res) (fun _ _=>none) (fun v A f=>some (v,A,f))
  (fun b _ ih A f=>ob (hget A b) fun x=>ih x A ((b,false)::f))
  (fun b x _ ih A f=>qaa (Nat.blt b (hlen A)) (ih (hset A b x) ((b,true)::f)) none)
  (fun x _ ih A f=>ih (hlen A) (happ A x) f) p
theorem quN: ∀(p:Pg) (A:Heap) (f:yX),qrQ p A f=exec p A f:=by
 intro p
 induction p with
 |fail=>intro A f;rfl
 |done v=>intro A f;rfl
 |get b k ih=>
  intro A f
  show ob (hget A b) _=_
  rw[qn5]
  simp only[exec]
  cases A[b]? with
  |none=>rfl
  |some x=>exact ih x A _
 |set b x k ih=>
  intro A f
  show qaa (Nat.blt b (hlen A)) (qrQ k (hset A b x) _) none=_
  rw[qbB,qoa,vv,ih]
  simp only[exec]
  by_cases h:b<A.length
  ·rw[if_pos h,if_pos (show Nat.blt b A.length=true from Nat.ble_eq_true_of_le h)]
  ·rw[if_neg h,if_neg (by rw[qfu (by omega)];simp)]
 |new x k ih=>
  intro A f
  show qrQ (k (hlen A)) (happ A x) f=_
  rw[qbB,qnX,ih]
  rfl
def qcA (S:List Nat) (lo:Nat) (p:Pg):Heap→yX→Res:=
 Pg.rec (motive:=fun _=>Heap→yX→Res) (fun _ _=>none) (fun v A f=>some (v,A,f))
  (fun b _ ih A f=>qaa (S.contains b||Nat.ble lo b) (ob (hget A b) fun x=>ih x A ((b,false)::f)) none)
  (fun b x _ ih A f=>qaa (S.contains b||Nat.ble lo b) (qaa (Nat.blt b (hlen A)) (ih (hset A b x) ((b,true)::f)) none) none)
  (fun x _ ih A f=>ih (hlen A) (happ A x) f) p
theorem qs4 {S:List Nat} {lo b:Nat} (h:(S.contains b||Nat.ble lo b)=true):b∈S∨lo≤b:=by
 simp only[Bool.or_eq_true]at h
 rcases h with h|h
 ·exact .inl (by simpa using h)
 ·exact .inr (Nat.le_of_ble_eq_true h)
theorem qlz (S:List Nat) (lo:Nat): ∀(p:Pg) (A M:Heap) (f:yX) (v:AV) (A':Heap) (f':yX),M.length=A.length→lo≤A.length→(∀b,(b∈S∨lo≤b)→M[b]? =A[b]?)→qcA S lo p A f=some (v,A',f')→
 ∃M',exec p M f=some (v,M',f')∧M'.length=A'.length∧(∀b,(b∈S∨lo≤b)→M'[b]? =A'[b]?)∧(∀b,b<lo→b∉S→A'[b]? =A[b]?)∧A.length≤A'.length:=by
 intro p
 induction p with
 |fail=>intro A M f v A' f' _ _ _ h;cases h
 |done u=>
  intro A M f v A' f' hl hlo hM h
  have h:some (u,A,f)=some (v,A',f'):=h
  simp only[Option.some.injEq,Prod.mk.injEq]at h
  obtain⟨rfl,rfl,rfl⟩:=h
  exact⟨M,rfl,hl,hM,fun _ _ _=>rfl,Nat.le_refl _⟩
 |get b k ih=>
  intro A M f v A' f' hl hlo hM h
  have h:qaa (S.contains b||Nat.ble lo b) (ob (hget A b) fun x=>qcA S lo (k x) A ((b,false)::f)) none=some (v,A',f'):=h
  rw[vv]at h
  split at h
  ·rename_i hs
   obtain⟨x,hx,h⟩:=yI h
   rw[qn5]at hx
   have hMb:=hM b (qs4 hs)
   obtain⟨M',h1,h2⟩:=ih x A M _ v A' f' hl hlo hM h
   refine⟨M',?_,h2⟩
   simp only[exec,hMb,hx]
   exact h1
  ·cases h
 |set b x k ih=>
  intro A M f v A' f' hl hlo hM h
  have h:qaa (S.contains b||Nat.ble lo b) (qaa (Nat.blt b (hlen A)) (qcA S lo k (hset A b x) ((b,true)::f)) none) none=some (v,A',f'):=h
  rw[vv]at h
  split at h
  ·rename_i hs
   rw[vv]at h
   split at h
   ·rename_i hlt
    rw[qbB]at hlt
    rw[qoa]at h
    have hb:b<A.length:=Nat.le_of_ble_eq_true hlt
    obtain⟨M',h1,h2,h3,h4,h5⟩:=ih (A.set b x) (M.set b x) _ v A' f' (by simp[hl]) (by simpa using hlo) (fun c hc=>by
     by_cases e:b=c
     ·subst e
      rw[List.getElem?_set_self (by omega),List.getElem?_set_self hb]
     ·rw[List.getElem?_set_ne e,List.getElem?_set_ne e,hM c hc]) h
    refine⟨M',?_,h2,h3,fun c hc hcS=>?_,by simpa using h5⟩
    ·simp only[exec,hl,hb,if_true]
     exact h1
    ·rw[h4 c hc hcS,List.getElem?_set_ne]
     rintro rfl
     rcases qs4 hs with h|h
     ·exact hcS h
     ·omega
   ·cases h
  ·cases h
 |new x k ih=>
  intro A M f v A' f' hl hlo hM h
  have h:qcA S lo (k (hlen A)) (happ A x) f=some (v,A',f'):=h
  rw[qbB,qnX]at h
  obtain⟨M',h1,h2,h3,h4,h5⟩:=ih A.length (A++[x]) (M++[x]) f v A' f' (by simp[hl]) (by simp;omega) (fun c hc=>by
   rcases Nat.lt_or_ge c A.length with hlt|hge
   ·rw[List.getElem?_append_left (by omega),List.getElem?_append_left hlt,hM c hc]
   ·rw[List.getElem?_append_right (by omega),List.getElem?_append_right hge,hl]) h
  refine⟨M',?_,h2,h3,fun c hc hcS=>?_,?_⟩
  ·simp only[exec,hl]
   exact h1
  ·rw[h4 c hc hcS,List.getElem?_append_left (by omega)]
  ·simp at h5;omega
def Le (a b:yQ):Prop:= ∀c args A r,a c args A=some r→b c args A=some r
section
variable (P:Program) (call:yQ)
def qiz (o:Op):Bool:=match o with
 | .call _=>true
 |_=>false
def qpi (o:Oper) (fr:Fr) (A:Heap):Res:=
 qaa (qiz o.op)
  (Option.rec (motive:=fun _=>Res) (qrQ (qwa P o (qbk fr)) A []) (fun g=>ob (call g.1 g.2 A) fun r=>some (r.1,r.2,[])) (xh o (qbk fr)))
  (qrQ (qwa P o (qbk fr)) A [])
def qmx (ops:Array Oper) (l:List Oper):Fr→Heap→Option (Fr×Heap):=
 List.rec (motive:=fun _=>Fr→Heap→Option (Fr×Heap)) (fun fr A=>some (fr,A))
  (fun o _ ih fr A=>ob (qh5 ops o fr) fun w=>qaa w (ob (qpi P call o fr A) fun r=>ih (qfj fr o.dst r.1) r.2.1) (ih (qfj fr o.dst (.tuple [])) A)) l
def qqG (o:Oper) (fr:Fr) (A:Heap):Option (AV×Heap×Rec):=
 qaa (qiz o.op&&(xh o (qbk fr)).isSome)
  (ob (qjY P call o fr A) fun r=>some (r.1,qaa (r.2.2.fp.isEmpty&&Nat.beq (hlen r.2.1) (hlen A)) A r.2.1,r.2.2))
  (qaa ((qbE o (qbk fr) A).all fun b=>Nat.blt b (hlen A))
   (ob (qcA (qbE o (qbk fr) A) (hlen A) (qwa P o (qbk fr)) A []) fun r=>some (r.1,r.2.1,⟨qbE o (qbk fr) A,r.2.2.any (·.2),hlen A,hlen r.2.1⟩)) none)
def qsC (ops:Array Oper) (o:Oper) (fr:Fr) (A:Heap):Option ((Fr×Heap)×Rec):=
 ob (qh5 ops o (maskF (yV ops o) fr)) fun w=>qaa w
  (ob (qqG P call o (maskF (yV ops o) fr) A) fun r=>some ((qfj fr o.dst r.1,r.2.1),r.2.2))
  (some ((qfj fr o.dst (.tuple []),A),⟨[],false,hlen A,hlen A⟩))
def qvE (ops:Array Oper) (l:List Oper):Fr→Heap→Option ((Fr×Heap)×List Rec):=
 List.rec (motive:=fun _=>Fr→Heap→Option ((Fr×Heap)×List Rec)) (fun fr A=>some ((fr,A),[]))
  (fun o _ ih fr A=>ob (qsC P call ops o fr A) fun q=>ob (ih q.1.1 q.1.2) fun r=>some (r.1,q.2::r.2)) l
def qqg (ops:Array Oper) (fr:Fr) (A:Heap):Option (Fr×Heap):=
 ob (qvE P call ops ops.toList fr A) fun r=>qaa (qjB ops r.2) (some r.1) none
def qlS (ops:Array Oper) (draw:Bool) (s:St):Option St:=
 qaa draw (qqg P call ops s.1 s.2) (qmx P call ops ops.toList s.1 s.2)
variable (N:Nat) (rd:Option Nat)
def qux (n:Nat) (f:St→Option (XA×St)):St→Option (XA×St):=
 Nat.rec (motive:=fun _=>St→Option (XA×St)) (fun _=>none)
  (fun _ ih s=>ob (f s) fun r=>XA.rec (motive:=fun _=>Option (XA×St)) (ih r.2) (fun id=>some (.exit id,r.2)) (some (.ret,r.2)) r.1) n
def qqY (a:AV):Option Bool:=match a with
 | .bool b=>some b
 |_=>none
def qhy (c:Code):St→Option (XA×St):=
 Code.rec (motive:=fun _=>St→Option (XA×St))
  (fun s=>some (.normal,s))
  (fun _ ops draw s=>ob (qlS P call ops draw s) fun r=>some (.normal,r))
  (fun _ _ iha ihb s=>ob (iha s) fun r=>XA.rec (motive:=fun _=>Option (XA×St)) (ihb r.2) (fun id=>some (.exit id,r.2)) (some (.ret,r.2)) r.1)
  (fun c _ _ iha ihb s=>ob (qqY (qbk s.1 c)) fun b=>qaa b (iha s) (ihb s))
  (fun id _ ih s=>ob (ih s) fun r=>XA.rec (motive:=fun _=>Option (XA×St)) (some (.normal,r.2)) (fun k=>qaa (Nat.beq k id) (some (.normal,r.2)) (some (.exit k,r.2))) (some (.ret,r.2)) r.1)
  (fun _ ih s=>qux N ih s)
  (fun g ps asg body _ _ s=>vX P call N rd (.rangeFunc g ps asg body) s)
  (fun id s=>some (.exit id,s))
  (fun _ ih s=>ih s)
  (fun _ s=>some (.normal,s))
  (fun _ _=>none)
  (fun s=>some (.ret,s))
  (fun _ _=>none) c
def qsA (b:Nat) (args:List AV) (A:Heap):Option (AV×Heap):=
 match A[b]? with
 |some (.loop _ _ fr ps asg bd)=>
  if args.length=ps.size then
   match qhy P call N (some b) asg (setAll fr ps.toList args,A)with
   |some (.normal,fr1,A1)=>match A1[b]? with
    |some (.loop .ready p1 f1 ps1 as1 bd1)=>qsL b (qhy P call N (some b) bd (fr1,A1.set b (.loop .busy p1 f1 ps1 as1 bd1)))
    |_=>none
   |_=>none
  else none
 |_=>none
def qso (f:FuncId) (args:List AV) (A:Heap):Option (AV×Heap):=
 match P.funcs[f]? with
 |some fn=>
  if fn.name== "runtime.NumGoroutine" then none else
  match fn.body with
  |some c=>
   match qhy P call N none c (frOf fn.ntmps args,A)with
   |some (.exit _,_)=>none
   |some (_,fr,A')=>(qax P fr A' fn.results.toList).map fun vs=>(qk2 vs,A')
   |none=>none
  |none=>none
 |none=>none
def qqU (c:Cl) (args:List AV) (A:Heap):Option (AV×Heap):=
 Cl.rec (motive:=fun _=>Option (AV×Heap)) (fun f=>qso P call N f args A) (fun b=>qsA P call N b args A) (fun _ _=>none) c
end
def qn7 (P:Program) (call:yQ) (N:Nat) (post:yQ):yQ:=fun c args A=>
 Option.rec (motive:=fun _=>Option (AV×Heap)) (qqU P call N c args A) some (post c args A)
def qp4 (mt:TypeId→String→Option FuncId) (c:Cl):Cl:=
 Cl.rec (motive:=fun _=>Cl) (fun f=> .fn f) (fun b=> .rd b) (fun t m=>Option.rec (motive:=fun _=>Cl) (.mt t m) (fun f=> .fn f) (mt t m)) c
def quw (P:Program) (N:Nat) (mt:TypeId→String→Option FuncId) (pre post:yQ) (pl:FuncId→Bool) (d:Nat):yQ:=
 Nat.rec (motive:=fun _=>yQ) pre (fun _ ih c args A=>Option.rec (motive:=fun _=>Option (AV×Heap)) (qqc (qn7 P ih N post) pl (qp4 mt c) args A) some (pre (qp4 mt c) args A)) d
section
variable {P:Program} {call call':yQ} {N:Nat} {rd:Option Nat}
theorem qrp (hc:Le call call') {o:Oper} {fr:Fr} {A:Heap} {r:AV×Heap×yX} (h:qcU P call o fr A=some r):qcU P call' o fr A=some r:=by
 unfold qcU at h⊢
 split at h
 ·obtain⟨x,hx,he⟩:=Option.map_eq_some_iff.1 h
  rw[hc _ _ _ _ hx]
  exact congrArg some he
 ·exact h
theorem quf (hc:Le call call') {o:Oper} {fr:Fr} {A:Heap} {r:AV×Heap×yX} (h:qpi P call o fr A=some r):qcU P call' o fr A=some r:=by
 unfold qpi at h
 rw[qkf,vv,quN,qs0]at h
 unfold qcU
 split at h
 ·cases hg:xh o (qas fr)with
  |none=>rw[hg]at h;exact h
  |some g=>
   rw[hg]at h
   obtain⟨x,hx,he⟩:=yI h
   obtain⟨g,args⟩:=g
   simp only[hc _ _ _ _ hx,Option.map_some]
   exact he
 ·rename_i hn
  have:xh o (qas fr)=none:=by
   unfold xh
   cases ho:o.op<;>simp[ho,qiz]at hn⊢
  rw[this]
  exact h
theorem qtE (hc:Le call call') {ops:Array Oper}: ∀(l:List Oper) {fr:Fr} {A:Heap} {r:Fr×Heap},qmx P call ops l fr A=some r→qhq P call' ops l fr A=some r:=by
 intro l
 induction l with
 |nil=>intro fr A r h;exact h
 |cons o l ih=>
  intro fr A r h
  obtain⟨w,hw,h⟩:=yI (show ob (qh5 ops o fr) (fun w=>qaa w (ob (qpi P call o fr A) fun r=>qmx P call ops l (qfj fr o.dst r.1) r.2.1) (qmx P call ops l (qfj fr o.dst (.tuple [])) A))=some r from h)
  rw[qjF]at hw
  simp only[qhq,hw]
  cases w with
  |true=>
   obtain⟨x,hx,h⟩:=yI (show ob (qpi P call o fr A) (fun r=>qmx P call ops l (qfj fr o.dst r.1) r.2.1)=some r from h)
   obtain⟨v,A',f⟩:=x
   rw[qdN]at h
   simp only[quf hc hx]
   exact ih h
  |false=>
   have h:qmx P call ops l (qfj fr o.dst (.tuple [])) A=some r:=h
   rw[qdN]at h
   exact ih h
theorem qq0 (hc:Le call call') {o:Oper} {fr:Fr} {A:Heap} {r:AV×Heap×Rec} (h:qjY P call o fr A=some r):qjY P call' o fr A=some r:=by
 unfold qjY at h⊢
 simp only at h⊢
 split at h
 ·rename_i hall
  rw[if_pos hall]
  split at h
  ·rename_i v B f hs
   rw[qrp hc hs]
   exact h
  ·cases h
 ·cases h
theorem qp0 {A B:Heap} (h:B.length=A.length):merge [] A B=A:=by
 refine List.ext_getElem? fun b=>?_
 rw[qfl]
 rcases Nat.lt_or_ge b A.length with hb|hb
 ·rw[List.getElem?_eq_getElem (show b<B.length by omega),List.getElem?_eq_getElem hb]
  simp[hb,List.getD_eq_getElem?_getD]
 ·rw[List.getElem?_eq_none (by omega),List.getElem?_eq_none hb]
  rfl
theorem qtP (hc:Le call call') {o:Oper} {fr:Fr} {A:Heap} {r:AV×Heap×Rec} (h:qqG P call o fr A=some r):qjY P call' o fr A=some r:=by
 unfold qqG at h
 rw[qkf,qs0]at h
 rw[vv]at h
 split at h
 ·obtain⟨x,hx,h⟩:=yI h
  have hx':=qq0 hc hx
  rw[hx']
  rw[←h]
  obtain⟨v,B,q⟩:=x
  simp only[Option.some.injEq,Prod.mk.injEq,true_and,and_true]
  rw[vv]
  split
  ·rename_i hb
   simp only[Bool.and_eq_true,qbB]at hb
   obtain⟨h1,h2⟩:=hb
   have hlen:=Nat.eq_of_beq_eq_true h2
   unfold qjY at hx
   simp only at hx
   split at hx
   ·split at hx
    ·split at hx
     ·simp only[Option.some.injEq,Prod.mk.injEq]at hx
      obtain⟨_,h3,h4⟩:=hx
      rw[←h4]at h1
      simp only[List.isEmpty_iff]at h1
      rw[h1]at h3
      rw[←h3]at hlen⊢
      rw[qcV]at hlen
      exact qp0 hlen
     ·cases hx
    ·cases hx
   ·cases hx
  ·rfl
 ·rename_i hn
  rw[vv]at h
  split at h
  ·rename_i hall
   obtain⟨x,hx,h⟩:=yI h
   obtain⟨v,A',f⟩:=x
   have hnc:xh o (qas fr)=none:=by
    cases hg:xh o (qas fr)with
    |none=>rfl
    |some g=>
     exfalso
     apply hn
     rw[hg]
     unfold xh at hg
     cases ho:o.op<;>simp[ho,qiz]at hg⊢
   simp only[qbB]at hall hx h
   generalize hS:qbE o (qas fr) A=S at hall hx h
   have hall2: ∀b∈S,b<A.length:=fun b hb=>Nat.le_of_ble_eq_true (List.all_eq_true.1 hall b hb)
   obtain⟨M',h1,h2,h3,h4,h5⟩:=qlz S A.length (aop P o (qas fr)) A (mask S A) [] v A' f (qa6 _ _) (Nat.le_refl _) (fun b hb=>by
    rw[qgP]
    rcases hb with hb|hb
    ·rw[List.getElem?_eq_getElem (hall2 b hb)]
     simp[hb]
    ·rw[List.getElem?_eq_none hb];rfl) hx
   have hm:merge S A M'=A':=by
    refine List.ext_getElem? fun b=>?_
    rw[qfl]
    rcases Nat.lt_or_ge b A'.length with hb|hb
    ·rw[List.getElem?_eq_getElem (show b<M'.length by omega)]
     simp only[Option.map_some]
     by_cases hc:b<A.length∧b∉S
     ·have e:(decide (b<A.length)&&!S.contains b)=true:=by simp[hc.1,hc.2]
      rw[if_pos e,h4 b hc.1 hc.2,List.getElem?_eq_getElem hc.1]
      simp[List.getD_eq_getElem?_getD,List.getElem?_eq_getElem hc.1]
     ·have e: ¬(decide (b<A.length)&&!S.contains b)=true:=by
       simp only[Bool.and_eq_true,decide_eq_true_eq,Bool.not_eq_true',List.contains_eq_mem]
       intro h
       exact hc ⟨h.1,by simpa using h.2⟩
      rw[if_neg e,←h3 b (by
       rcases Nat.lt_or_ge b A.length with hlt|hge
       ·left
        exact Classical.byContradiction fun hs=>hc ⟨hlt,hs⟩
       ·exact .inr hge),List.getElem?_eq_getElem (show b<M'.length by omega)]
    ·rw[List.getElem?_eq_none (show M'.length≤b by omega),List.getElem?_eq_none hb]
     rfl
   have hall3:(S.all fun b=>decide (b<A.length))=true:=List.all_eq_true.2 fun b hb=>decide_eq_true (hall2 b hb)
   unfold qjY
   simp only[hS,hall3,if_true]
   unfold qcU
   simp only[hnc,h1,Option.isSome_none,Bool.false_and,Bool.or_false]
   have h0:A.length≤M'.length:=by omega
   rw[if_pos h0,hm,←h,h2]
  ·cases h
theorem qtZ (hc:Le call call') {ops:Array Oper} {j:Nat} {o:Oper} (ho:ops[j]? =some o) {fr:Fr} {A:Heap} {r:(Fr×Heap)×Rec} (h:qsC P call ops o fr A=some r):qiZ P call' ops j (fr,A)=some r:=by
 obtain⟨w,hw,h⟩:=yI h
 rw[qjF]at hw
 simp only[qiZ,ho,hw]
 cases w with
 |true=>
  obtain⟨x,hx,h⟩:=yI (show ob (qqG P call o (maskF (yV ops o) fr) A) (fun r=>some ((qfj fr o.dst r.1,r.2.1),r.2.2))=some r from h)
  obtain⟨v,B,q⟩:=x
  rw[qdN]at h
  simp only[qtP hc hx]
  exact h
 |false=>
  have h:some ((qfj fr o.dst (.tuple []),A),(⟨[],false,hlen A,hlen A⟩:Rec))=some r:=h
  rw[qdN,qbB]at h
  exact h
theorem qu5 (hc:Le call call') {ops:Array Oper}: ∀(l pre:List Oper),ops.toList=pre++l→ ∀{fr:Fr} {A:Heap} {r:(Fr×Heap)×List Rec},qvE P call ops l fr A=some r→qlv P call' ops l.length pre.length (fr,A)=some r:=by
 intro l
 induction l with
 |nil=>intro pre _ fr A r h;exact h
 |cons o l ih=>
  intro pre hp fr A r h
  obtain⟨q,hq,h⟩:=yI (show ob (qsC P call ops o fr A) (fun q=>ob (qvE P call ops l q.1.1 q.1.2) fun r=>some (r.1,q.2::r.2))=some r from h)
  obtain⟨x,hx,h⟩:=yI h
  have ho:ops[pre.length]? =some o:=by
   rw[←Array.getElem?_toList,hp]
   simp
  obtain⟨⟨fr1,A1⟩,rc⟩:=q
  have h2:=ih (pre++[o]) (by simp[hp]) hx
  simp only[List.length_append,List.length_cons,List.length_nil,Nat.zero_add]at h2
  simp only[List.length_cons,qlv,qtZ hc ho hq,h2,Option.map_some]
  exact h
theorem qq1 (hc:Le call call') {ops:Array Oper} {draw:Bool} {s r:St} (h:qlS P call ops draw s=some r):qgy P call' ops draw s=some r:=by
 unfold qlS at h
 unfold qgy
 cases draw with
 |true=>
  obtain⟨x,hx,h⟩:=yI (show qqg P call ops s.1 s.2=some r from h)
  have h2:=qu5 hc ops.toList [] rfl hx
  have hlen:ops.toList.length=ops.size:=by simp
  rw[hlen]at h2
  simp only[if_true,qgQ]
  rw[show qlv P call' ops ops.size 0 (s.1,s.2)=some x from h2]
  obtain⟨x1,x2⟩:=x
  rw[vv]at h
  exact h
 |false=>
  simp only[Bool.false_eq_true,if_false]
  exact qtE hc _ h
theorem quH {f f':St→Option (XA×St)} (hf: ∀s r,f s=some r→f' s=some r): ∀(n:Nat) {s:St} {r:XA×St},qux n f s=some r→qkE n f' s=some r:=by
 intro n
 induction n with
 |zero=>intro s r h;cases h
 |succ n ih=>
  intro s r h
  obtain⟨x,hx,h⟩:=yI (show ob (f s) (fun r=>XA.rec (motive:=fun _=>Option (XA×St)) (qux n f r.2) (fun id=>some (.exit id,r.2)) (some (.ret,r.2)) r.1)=some r from h)
  obtain⟨x1,x2⟩:=x
  simp only[qkE,hf _ _ hx]
  cases x1 with
  |normal=>exact ih h
  |exit id=>exact h
  |ret=>exact h
theorem qru {a:AV} {b:Bool} (h:qqY a=some b):a= .bool b:=by
 unfold qqY at h
 split at h
 ·injection h with h;rw[h]
 ·cases h
theorem quu (hc:Le call call'): ∀(c:Code) {s:St} {r:XA×St},vX P call N rd c s=some r→vX P call' N rd c s=some r:=by
 have regLe: ∀{ops:Array Oper} {draw:Bool} {s r:St},qgy P call ops draw s=some r→qgy P call' ops draw s=some r:=by
  intro ops draw s r h
  have hI: ∀{j:Nat} {s:Fr×Heap} {r:(Fr×Heap)×Rec},qiZ P call ops j s=some r→qiZ P call' ops j s=some r:=by
   intro j s r h
   unfold qiZ at h⊢
   split at h
   ·cases h
   ·rename_i o ho
    split at h
    ·split at h
     ·rename_i v A' q hs
      simp only[qq0 hc hs]
      exact h
     ·cases h
    ·exact h
    ·cases h
  have hL: ∀(l:List Oper) {fr:Fr} {A:Heap} {r:Fr×Heap},qhq P call ops l fr A=some r→qhq P call' ops l fr A=some r:=by
   intro l
   induction l with
   |nil=>intro fr A r h;exact h
   |cons o l ih=>
    intro fr A r h
    simp only[qhq]at h⊢
    split at h
    ·split at h
     ·rename_i v A' f hs
      simp only[qrp hc hs]
      exact ih h
     ·cases h
    ·exact ih h
    ·cases h
  have hR: ∀(m j:Nat) {s:Fr×Heap} {r:(Fr×Heap)×List Rec},qlv P call ops m j s=some r→qlv P call' ops m j s=some r:=by
   intro m
   induction m with
   |zero=>intro j s r h;exact h
   |succ m ih=>
    intro j s r h
    simp only[qlv]at h⊢
    split at h
    ·rename_i s' q hs
     simp only[hI hs]
     obtain⟨x,hx,he⟩:=Option.map_eq_some_iff.1 h
     rw[ih _ hx]
     exact congrArg some he
    ·cases h
  unfold qgy at h⊢
  split at h
  ·rename_i hd
   rw[if_pos hd]
   unfold qgQ at h⊢
   split at h
   ·rename_i x rs hs
    rw[hR _ _ hs]
    exact h
   ·cases h
  ·rename_i hd
   rw[if_neg hd]
   exact hL _ h
 intro c
 induction c with
 |region id ops draw=>
  intro s r h
  simp only[vX]at h⊢
  obtain⟨x,hx,he⟩:=Option.map_eq_some_iff.1 h
  rw[regLe hx]
  exact congrArg some he
 |seq a b iha ihb=>
  intro s r h
  simp only[vX]at h⊢
  split at h
  ·rename_i s' hs
   rw[iha hs]
   exact ihb h
  ·rename_i r' hr
   cases hx:vX P call N rd a s with
   |none=>rw[hx]at h;cases h
   |some x=>
    rw[iha hx]
    rw[hx]at h
    obtain⟨x1,x2⟩:=x
    cases x1 with
    |normal=>exact absurd hx (hr x2)
    |exit id=>exact h
    |ret=>exact h
 |cond c a b iha ihb=>
  intro s r h
  simp only[vX]at h⊢
  split at h
  ·exact iha h
  ·exact ihb h
  ·cases h
 |block id b ih=>
  intro s r h
  simp only[vX]at h⊢
  cases hx:vX P call N rd b s with
  |none=>rw[hx]at h;cases h
  |some x=>
   rw[ih hx]
   rw[hx]at h
   exact h
 |loop b ih=>
  intro s r h
  simp only[vX]at h⊢
  have: ∀(n:Nat) {s:St} {r:XA×St},qkE n (vX P call N rd b) s=some r→qkE n (vX P call' N rd b) s=some r:=by
   intro n
   induction n with
   |zero=>intro s r h;cases h
   |succ n ihn=>
    intro s r h
    simp only[qkE]at h⊢
    cases hx:vX P call N rd b s with
    |none=>rw[hx]at h;cases h
    |some x=>
     rw[ih hx]
     rw[hx]at h
     obtain⟨x1,x2⟩:=x
     cases x1 with
     |normal=>exact ihn h
     |exit id=>exact h
     |ret=>exact h
  exact this N h
 |scope b ih=>intro s r h;exact ih h
 |rangeFunc g ps asg body=>
  intro s r h
  simp only[vX]at h⊢
  split at h
  ·rename_i hok hg
   split at h
   ·cases h
   ·rename_i hent
    rw[if_neg hent]
    split at h
    ·rename_i v A2 hcall
     rw[hc _ _ _ _ hcall]
     exact h
    ·cases h
  ·cases h
 |_=>intro s r h;first|exact h|(simp[vX]at h⊢;done)|(simp only[vX]at h⊢;exact h)
theorem qne (hc:Le call call'): ∀(c:Code) {s:St} {r:XA×St},qhy P call N rd c s=some r→vX P call' N rd c s=some r:=by
 intro c
 induction c with
 |skip=>intro s r h;exact h
 |region id ops draw=>
  intro s r h
  obtain⟨x,hx,h⟩:=yI (show ob (qlS P call ops draw s) (fun r=>some (XA.normal,r))=some r from h)
  simp only[vX,qq1 hc hx,Option.map_some]
  exact h
 |seq a b iha ihb=>
  intro s r h
  obtain⟨x,hx,h⟩:=yI (show ob (qhy P call N rd a s) (fun r=>XA.rec (motive:=fun _=>Option (XA×St)) (qhy P call N rd b r.2) (fun id=>some (.exit id,r.2)) (some (.ret,r.2)) r.1)=some r from h)
  obtain⟨x1,x2⟩:=x
  simp only[vX,iha hx]
  cases x1 with
  |normal=>exact ihb h
  |exit id=>exact h
  |ret=>exact h
 |cond c a b iha ihb=>
  intro s r h
  obtain⟨x,hx,h⟩:=yI (show ob (qqY (qbk s.1 c)) (fun t=>qaa t (qhy P call N rd a s) (qhy P call N rd b s))=some r from h)
  rw[qkf]at hx
  simp only[vX,qru hx]
  cases x with
  |true=>exact iha h
  |false=>exact ihb h
 |block id b ih=>
  intro s r h
  obtain⟨x,hx,h⟩:=yI (show ob (qhy P call N rd b s) (fun r=>XA.rec (motive:=fun _=>Option (XA×St)) (some (.normal,r.2)) (fun k=>qaa (Nat.beq k id) (some (.normal,r.2)) (some (.exit k,r.2))) (some (.ret,r.2)) r.1)=some r from h)
  obtain⟨x1,x2⟩:=x
  simp only[vX,ih hx]
  cases x1 with
  |normal=>exact h
  |exit k=>
   have h:qaa (Nat.beq k id) (some (XA.normal,x2)) (some (.exit k,x2))=some r:=h
   rw[vv]at h
   simp only
   by_cases e:k=id
   ·rw[if_pos e]
    rw[if_pos (qic e)]at h
    exact h
   ·rw[if_neg e]
    rw[if_neg (by rw[qfE e];simp)]at h
    exact h
  |ret=>exact h
 |loop b ih=>
  intro s r h
  exact quH (fun s r h=>ih h) N h
 |scope b ih=>intro s r h;exact ih h
 |rangeFunc g ps asg body=>intro s r h;exact quu hc (.rangeFunc g ps asg body) h
 |exit id=>intro s r h;exact h
 |label l=>intro s r h;exact h
 |ret=>intro s r h;exact h
 |_=>intro s r h;cases h
theorem qsF (hc:Le call call'):Le (qqU P call N) (qqt P call' N):=by
 intro c args A r h
 cases c with
 |fn f=>
  have h:qso P call N f args A=some r:=h
  show qr1 P call' N f args A=some r
  unfold qso at h
  unfold qr1
  split at h
  ·rename_i fn hf
   rw[hf]
   simp only
   split at h
   ·cases h
   ·rename_i hn
    rw[if_neg hn]
    split at h
    ·rename_i c hb
     rw[hb]
     simp only
     cases hx:qhy P call N none c (frOf _ args,A)with
     |none=>rw[hx]at h;cases h
     |some x=>
      rw[qne hc c hx]
      rw[hx]at h
      exact h
    ·cases h
  ·cases h
 |mt t m=>cases h
 |rd b=>
  have h:qsA P call N b args A=some r:=h
  show qrf P call' N b args A=some r
  unfold qsA at h
  unfold qrf
  split at h
  ·rename_i hb
   rw[hb]
   simp only
   split at h
   ·rename_i hl
    rw[if_pos hl]
    split at h
    ·rename_i hx
     rw[qne hc _ hx]
     simp only
     split at h
     ·rename_i hb2
      rw[hb2]
      simp only
      rename_i p1 f1 ps1 as1 bd1
      unfold qsL at h
      split at h
      ·rename_i x fr2 A2 hy
       rw[qne hc _ hy]
       exact h
      ·cases h
     ·cases h
    ·cases h
   ·cases h
  ·cases h
theorem qsO (hm:P.follows .mixedOrders=true) (hc:vz P call):vz P (qqU P call N):=
 fun c args A v A' h=>qua hm hc c args A v A' (qsF (fun _ _ _ _ h=>h) c args A _ h)
theorem qr7 (hm:P.follows .mixedOrders=true) (hc:vz P call) {post:yQ} (hp:vz P post):vz P (qn7 P call N post):=by
 intro c args A v A' h
 unfold qn7 at h
 cases hx:post c args A with
 |some x=>
  rw[hx]at h
  have h:some x=some (v,A'):=h
  injection h with h
  subst h
  exact hp _ _ _ _ _ hx
 |none=>
  rw[hx]at h
  exact qsO hm hc _ _ _ _ _ h
theorem qv1 {mt:TypeId→String→Option FuncId} (hmt: ∀t m f,mt t m=some f→Enters P f∧MtOK P t m f) {c:Cl} {args:List AV} {A:Heap} {v:AV} {A':Heap} (h:qj P (qp4 mt c) args A v A'):qj P c args A v A':=by
 cases c with
 |fn f=>exact h
 |rd b=>exact h
 |mt t m=>
  have h:qj P (Option.rec (motive:=fun _=>Cl) (.mt t m) (fun f=> .fn f) (mt t m)) args A v A':=h
  cases hf:mt t m with
  |none=>rw[hf]at h;exact h
  |some f=>
   rw[hf]at h
   obtain⟨h1,h2⟩:=hmt t m f hf
   exact⟨f,h2,fun F nu w vs i hargs=>qj.calls (f:=f) h h1 i hargs⟩
theorem quZ (hm:P.follows .mixedOrders=true) {mt:TypeId→String→Option FuncId} (hmt: ∀t m f,mt t m=some f→Enters P f∧MtOK P t m f) {pre post:yQ} {pl:FuncId→Bool} (hp:vz P pre) (hq:vz P post): ∀d,vz P (quw P N mt pre post pl d):=by
 intro d
 induction d with
 |zero=>exact hp
 |succ d ih=>
  intro c args A v A' h
  refine qv1 hmt ?_
  have h:Option.rec (motive:=fun _=>Option (AV×Heap)) (qqc (qn7 P (quw P N mt pre post pl d) N post) pl (qp4 mt c) args A) some (pre (qp4 mt c) args A)=some (v,A'):=h
  cases hx:pre (qp4 mt c) args A with
  |some x=>
   rw[hx]at h
   have h:some x=some (v,A'):=h
   injection h with h
   subst h
   exact hp _ _ _ _ _ hx
  |none=>
   rw[hx]at h
   exact qvp (qr7 hm ih hq) pl _ _ _ _ _ h
def memo (l:List (FuncId×List AV×AV)):yQ:=fun c args A=>
 Cl.rec (motive:=fun _=>Option (AV×Heap)) (fun f=>List.rec (motive:=fun _=>Option (AV×Heap))
  (List.rec (motive:=fun _=>Option (AV×Heap)) none (fun e _ ih=>qaa (Nat.beq f e.1&&qgb (qfW 30) args e.2.1) (some (e.2.2,[])) ih) l) (fun _ _ _=>none) A) (fun _=>none) (fun _ _=>none) c
theorem qwC: ∀{l:List (FuncId×List AV×AV)},(∀e∈l,qj P (.fn e.1) e.2.1 [] e.2.2 [])→vz P (memo l):=by
 intro l
 induction l with
 |nil=>
  intro _ c args A v A' h
  cases c with
  |rd b=>cases h
  |mt t m=>cases h
  |fn f=>
   cases A with
   |nil=>cases h
   |cons x A=>cases h
 |cons e l ih=>
  intro hl c args A v A' h
  cases c with
  |rd b=>cases h
  |mt t m=>cases h
  |fn f=>
   cases A with
   |cons x A=>cases h
   |nil=>
    have h:qaa (Nat.beq f e.1&&qgb (qfW 30) args e.2.1) (some (e.2.2,[])) (memo l (.fn f) args [])=some (v,A'):=h
    rw[vv]at h
    split at h
    ·rename_i hb
     simp only[Bool.and_eq_true]at hb
     have e1:=Nat.eq_of_beq_eq_true hb.1
     have e2:=ql7 (qpg 30) _ _ hb.2
     simp only[Option.some.injEq,Prod.mk.injEq]at h
     obtain⟨rfl,rfl⟩:=h
     subst e1 e2
     exact hl e (by simp)
    ·exact ih (fun e he=>hl e (by simp[he])) _ _ _ _ _ h
end
end Go.Av
