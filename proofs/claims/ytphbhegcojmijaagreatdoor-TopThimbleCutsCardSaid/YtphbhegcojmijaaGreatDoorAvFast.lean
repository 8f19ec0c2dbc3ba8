/-
  The evaluator once more, told by recursors, so that the kernel has few steps to go; where it tells something, callP tells the same.
-/
import Derived.Test.YtphbhegcojmijaaGreatDoorAvCon
import Derived.IntWalk
noncomputable section
namespace Go.Av
set_option linter.unusedSectionVars false
variable [Glob]
def ob {α β:Type} (x:Option α) (k:α→Option β):Option β:=Option.rec (motive:=fun _=>Option β) none k x
theorem zo {α β:Type} {x:Option α} {k:α→Option β} {r:β} (h:ob x k=some r): ∃a,x=some a∧k a=some r:=by
 cases x with
 |none=>cases h
 |some a=>exact⟨a,rfl,h⟩
def zL {α:Type} (b:Bool) (x y:α):α:=Bool.rec (motive:=fun _=>α) y x b
theorem qN {α:Type} (b:Bool) (x y:α):zL b x y=if b=true then x else y:=by cases b<;>rfl
def hget (A:Heap):Nat→Option Blk:=
 List.rec (motive:=fun _=>Nat→Option Blk) (fun _=>none) (fun x _ ih b=>Nat.rec (motive:=fun _=>Option Blk) (some x) (fun n _=>ih n) b) A
theorem qfP: ∀(A:Heap) (b:Nat),hget A b=A[b]? :=by
 intro A
 induction A with
 |nil=>intro b;rfl
 |cons x A ih=>
  intro b
  cases b with
  |zero=>rfl
  |succ b=>exact(ih b).trans (by simp)
def hset (A:Heap):Nat→Blk→Heap:=
 List.rec (motive:=fun _=>Nat→Blk→Heap) (fun _ _=>[]) (fun y ys ih b x=>Nat.rec (motive:=fun _=>Heap) (x::ys) (fun n _=>y::ih n x) b) A
theorem qfM: ∀(A:Heap) (b:Nat) (x:Blk),hset A b x=A.set b x:=by
 intro A
 induction A with
 |nil=>intro b x;rfl
 |cons y A ih=>
  intro b x
  cases b with
  |zero=>rfl
  |succ b=>exact congrArg (y:: ·) (ih b x)
def happ (A:Heap) (x:Blk):Heap:=List.rec (motive:=fun _=>Heap) [x] (fun y _ ih=>y::ih) A
theorem qfX: ∀(A:Heap) (x:Blk),happ A x=A++[x]:=by
 intro A
 induction A with
 |nil=>intro x;rfl
 |cons y A ih=>intro x;exact congrArg (y:: ·) (ih x)
def hlen (A:Heap):Nat:=List.rec (motive:=fun _=>Nat) 0 (fun _ _ ih=>Nat.succ ih) A
theorem ve: ∀(A:Heap),hlen A=A.length:=by
 intro A
 induction A with
 |nil=>rfl
 |cons y A ih=>exact congrArg Nat.succ ih
def qmu (v:Value):AV:=
 match v with
 | .int k n=> .int k n
 | .bool b=> .bool b
 |v=>qav 3 v
theorem qlp (v:Value):qmu v=qav 3 v:=by cases v<;>rfl
def jS (fr:Fr) (x:Operand):AV:=
 Operand.rec (motive:=fun _=>AV) (fun t=>fr.get t) (fun v=>qmu v) (fun g=>Glob.gl g) (fun f=> .func (.func f) [] []) x
theorem qdH (fr:Fr):jS fr=zZ fr:=by
 funext x
 cases x with
 |const v=>exact qlp v
 |_=>rfl
def qjk {β:Type} (a:AV) (k:IntKind→Int→Option β):Option β:=
 AV.rec (motive_1:=fun _=>Option β) (motive_2:=fun _=>Unit) none (fun _=>none) k (fun _=>none) none (fun _ _=>none) (fun _ _ _=>none) none (fun _ _ _ _ _=>none) (fun _ _ _=>none) (fun _ _ _=>none) (fun _ _ _ _=>none) (fun _ _ _=>none) none (fun _=>none)
  (fun _ _ _ _=>none) (fun _ _ _ _ _=>none) (fun _=>none) none (fun _ _ _=>none) none (fun _ _=>none) (fun _ _=>none) none () (fun _ _ _ _=>()) a
theorem qg3 {β:Type} {a:AV} {k:IntKind→Int→Option β} {r:β} (h:qjk a k=some r): ∃q n,a= .int q n∧k q n=some r:=by
 cases a<;>first|exact⟨_,_,rfl,h⟩|cases h
def qjG {β:Type} (k:IntKind) (x:Option β):Option β:=IntKind.rec (motive:=fun _=>Option β) none none none x none none none none k
def qml (n:Int):Int:=
 Int.rec (motive:=fun _=>Int) (fun m=>zL (Nat.blt m 9223372036854775808) (.ofNat m) (IntKind.wrap .i64 (.ofNat m))) (fun m=>zL (Nat.blt m 9223372036854775808) (.negSucc m) (IntKind.wrap .i64 (.negSucc m))) n
theorem qmT (n:Int):qml n=IntKind.wrap .i64 n:=by
 cases n with
 |ofNat m=>
  show zL _ _ _=_
  rw[qN]
  split
  ·rename_i h
   have h:m<9223372036854775808:=Nat.le_of_ble_eq_true h
   exact(Go.IntWalk.i64_in _ ⟨by simp only[Int.ofNat_eq_natCast];omega,by simp only[Int.ofNat_eq_natCast];omega⟩).symm
  ·rfl
 |negSucc m=>
  show zL _ _ _=_
  rw[qN]
  split
  ·rename_i h
   have h:m<9223372036854775808:=Nat.le_of_ble_eq_true h
   have:=Int.negSucc_eq m
   exact(Go.IntWalk.i64_in _ ⟨by omega,by omega⟩).symm
  ·rfl
def addK (a b:Int):Int:=
 Int.rec (motive:=fun _=>Int) (fun m=>Int.rec (motive:=fun _=>Int) (fun n=> .ofNat (Nat.add m n)) (fun n=>Int.add (.ofNat m) (.negSucc n)) b) (fun m=>Int.add (.negSucc m) b) a
theorem qnX (a b:Int):addK a b=a+b:=by
 cases a<;>cases b<;>rfl
def mulK (a b:Int):Int:=
 Int.rec (motive:=fun _=>Int) (fun m=>Int.rec (motive:=fun _=>Int) (fun n=> .ofNat (Nat.mul m n)) (fun n=>Int.mul (.ofNat m) (.negSucc n)) b) (fun m=>Int.mul (.negSucc m) b) a
theorem qnO (a b:Int):mulK a b=a*b:=by
 cases a<;>cases b<;>rfl
def ltK (a b:Int):Bool:=
 Int.rec (motive:=fun _=>Bool) (fun m=>Int.rec (motive:=fun _=>Bool) (fun n=>Nat.blt m n) (fun _=>false) b) (fun m=>Int.rec (motive:=fun _=>Bool) (fun _=>true) (fun n=>Nat.blt n m) b) a
theorem qpf (a b:Int):ltK a b=decide (a<b):=by
 have key: ∀m n:Nat,Nat.blt m n=decide (m<n):=by
  intro m n
  by_cases h:m<n
  ·rw[decide_eq_true h];exact Nat.ble_eq_true_of_le h
  ·rw[decide_eq_false h];exact qaK (by omega)
 cases a with
 |ofNat m=>
  cases b with
  |ofNat n=>exact(key m n).trans (decide_eq_decide.2 (by simp))
  |negSucc n=>
   refine(decide_eq_false ?_).symm
   have:=Int.negSucc_eq n
   simp only[Int.ofNat_eq_natCast]
   omega
 |negSucc m=>
  cases b with
  |ofNat n=>
   refine(decide_eq_true ?_).symm
   have:=Int.negSucc_eq m
   simp only[Int.ofNat_eq_natCast]
   omega
  |negSucc n=>
   refine(key n m).trans (decide_eq_decide.2 ?_)
   have:=Int.negSucc_eq n
   have:=Int.negSucc_eq m
   omega
def eqK (a b:Int):Bool:=
 Int.rec (motive:=fun _=>Bool) (fun m=>Int.rec (motive:=fun _=>Bool) (fun n=>Nat.beq m n) (fun _=>false) b) (fun m=>Int.rec (motive:=fun _=>Bool) (fun _=>false) (fun n=>Nat.beq m n) b) a
theorem qpj (a b:Int):eqK a b=(a==b):=by
 have key: ∀m n:Nat,Nat.beq m n=decide (m=n):=by
  intro m n
  by_cases h:m=n
  ·rw[decide_eq_true h];exact qbJ h
  ·rw[decide_eq_false h];exact qas h
 have e:(a==b)=decide (a=b):=by rfl
 rw[e]
 cases a with
 |ofNat m=>
  cases b with
  |ofNat n=>exact(key m n).trans (decide_eq_decide.2 (by simp only[Int.ofNat_eq_natCast];omega))
  |negSucc n=>exact(decide_eq_false (by simp)).symm
 |negSucc m=>
  cases b with
  |ofNat n=>exact(decide_eq_false (by simp)).symm
  |negSucc n=>exact(key m n).trans (decide_eq_decide.2 (by simp))
def binI (op:BinOp) (a b:Int):Option AV:=
 match op with
 | .add=>some (.int .i64 (qml (addK a b)))
 | .mul=>some (.int .i64 (qml (mulK a b)))
 | .eql=>some (.bool (eqK a b))
 | .neq=>some (.bool (zL (eqK a b) false true))
 | .lss=>some (.bool (ltK a b))
 | .leq=>some (.bool (zL (ltK b a) false true))
 | .gtr=>some (.bool (ltK b a))
 | .geq=>some (.bool (zL (ltK a b) false true))
 |_=>none
theorem qnU {op:BinOp} {a b:Int} {v:AV} (h:binI op a b=some v) (P:Program) (t:TypeId) (ox oy:Operand):xe P op t ox oy (.int .i64 a) (.int .i64 b)=some v:=by
 have nb: ∀x:Bool,zL x false true=!x:=by intro x;cases x<;>rfl
 cases op<;>simp only[binI,qmT,qnX,qnO,qpf,qpj,nb,reduceCtorEq]at h<;>rw[←h]<;>simp only[xe,qdI,qgO,Bool.false_eq_true,if_false,if_true,Option.some.injEq,AV.bool.injEq]
 ·rfl
 ·rw[←decide_not];exact decide_eq_decide.2 (by omega)
 ·rw[←decide_not];exact decide_eq_decide.2 (by omega)
def binK (P:Program) (op:BinOp) (t:TypeId) (ox oy:Operand) (x y:AV):Option AV:=
 Option.rec (motive:=fun _=>Option AV) (xe P op t ox oy x y) some
  (qjk x fun k a=>qjG k (qjk y fun q b=>qjG q (binI op a b)))
theorem qgc {β:Type} {k:IntKind} {x:Option β} {r:β} (h:qjG k x=some r):k= .i64∧x=some r:=by
 cases k<;>first|exact⟨rfl,h⟩|cases h
theorem qoc (P:Program) (op:BinOp) (t:TypeId) (ox oy:Operand) (x y:AV):binK P op t ox oy x y=xe P op t ox oy x y:=by
 unfold binK
 cases h:qjk x fun k a=>qjG k (qjk y fun q b=>qjG q (binI op a b))with
 |none=>rfl
 |some v=>
  obtain⟨k,a,e1,h1⟩:=qg3 h
  obtain⟨e2,h2⟩:=qgc h1
  obtain⟨q,b,e3,h3⟩:=qg3 h2
  obtain⟨e4,h4⟩:=qgc h3
  subst e1 e2 e3 e4
  exact(qnU h4 P t ox oy).symm
def optK (x:Option AV):Pg:=Option.rec (motive:=fun _=>Pg) .fail .done x
theorem qn0 (x:Option AV):optK x= .opt x:=by cases x<;>rfl
def qmv (P:Program) (o:Oper) (ρ:Operand→AV):Pg:=
 match o.op with
 | .move x=> .done (ρ x)
 | .assign x=> .done (ρ x)
 | .binOp op t x y _=>optK (binK P op t x y (ρ x) (ρ y))
 |_=>aop P o ρ
theorem qkC (P:Program) (o:Oper) (ρ:Operand→AV):qmv P o ρ=aop P o ρ:=by
 unfold qmv
 split
 ·rename_i h;simp only[aop,h]
 ·rename_i h;simp only[aop,h]
 ·rename_i h;simp only[aop,h,qn0,qoc]
 ·rfl
def qaz (fr:Fr) (dst:Option Tmp) (v:AV):Fr:=Option.rec (motive:=fun _=>Fr) fr (fun d=>fr.set d v) dst
theorem xz (fr:Fr) (dst:Option Tmp) (v:AV):qaz fr dst v=qar fr dst v:=by cases dst<;>rfl
def qb5 (ops:Array Oper) (o:Oper) (fr:Fr):Option Bool:=Option.rec (motive:=fun _=>Option Bool) (some true) (fun _=>jW ops o fr) o.guard
theorem qc9 (ops:Array Oper) (o:Oper) (fr:Fr):qb5 ops o fr=jW ops o fr:=by
 unfold qb5
 cases h:o.guard with
 |none=>simp[jW,h]
 |some g=>rfl
def qiW (p:Pg):Heap→zB→Res:=
 Pg.rec (motive:=fun _=>Heap→zB→Res) (fun _ _=>none) (fun v A f=>some (v,A,f))
  (fun b _ ih A f=>ob (hget A b) fun x=>ih x A ((b,false)::f))
  (fun b x _ ih A f=>zL (Nat.blt b (hlen A)) (ih (hset A b x) ((b,true)::f)) none)
  (fun x _ ih A f=>ih (hlen A) (happ A x) f) p
theorem qma: ∀(p:Pg) (A:Heap) (f:zB),qiW p A f=exec p A f:=by
 intro p
 induction p with
 |fail=>intro A f;rfl
 |done v=>intro A f;rfl
 |get b k ih=>
  intro A f
  show ob (hget A b) _=_
  rw[qfP]
  simp only[exec]
  cases A[b]? with
  |none=>rfl
  |some x=>exact ih x A _
 |set b x k ih=>
  intro A f
  show zL (Nat.blt b (hlen A)) (qiW k (hset A b x) _) none=_
  rw[ve,qfM,qN,ih]
  simp only[exec]
  by_cases h:b<A.length
  ·rw[if_pos h,if_pos (show Nat.blt b A.length=true from Nat.ble_eq_true_of_le h)]
  ·rw[if_neg h,if_neg (by rw[qaK (by omega)];simp)]
 |new x k ih=>
  intro A f
  show qiW (k (hlen A)) (happ A x) f=_
  rw[ve,qfX,ih]
  rfl
def yz (S:List Nat) (lo:Nat) (p:Pg):Heap→zB→Res:=
 Pg.rec (motive:=fun _=>Heap→zB→Res) (fun _ _=>none) (fun v A f=>some (v,A,f))
  (fun b _ ih A f=>zL (S.contains b||Nat.ble lo b) (ob (hget A b) fun x=>ih x A ((b,false)::f)) none)
  (fun b x _ ih A f=>zL (S.contains b||Nat.ble lo b) (zL (Nat.blt b (hlen A)) (ih (hset A b x) ((b,true)::f)) none) none)
  (fun x _ ih A f=>ih (hlen A) (happ A x) f) p
theorem qkK {S:List Nat} {lo b:Nat} (h:(S.contains b||Nat.ble lo b)=true):b∈S∨lo≤b:=by
 simp only[Bool.or_eq_true]at h
 rcases h with h|h
 ·exact .inl (by simpa using h)
 ·exact .inr (Nat.le_of_ble_eq_true h)
theorem qeg (S:List Nat) (lo:Nat): ∀(p:Pg) (A M:Heap) (f:zB) (v:AV) (A':Heap) (f':zB),M.length=A.length→lo≤A.length→(∀b,(b∈S∨lo≤b)→M[b]? =A[b]?)→yz S lo p A f=some (v,A',f')→
 ∃M',exec p M f=some (v,M',f')∧M'.length=A'.length∧(∀b,(b∈S∨lo≤b)→M'[b]? =A'[b]?)∧(∀b,b<lo→b∉S→A'[b]? =A[b]?)∧A.length≤A'.length:=by
 intro p
 induction p with
 |fail=>intro A M f v A' f' _ _ _ h;cases h
 |done u=>
  intro A M f v A' f' hl hlo hM h
  have h:some (u,A,f)=some (v,A',f'):=h
  simp only[Option.some.injEq,Prod.mk.injEq]at h
  obtain⟨rfl,rfl,rfl⟩:=h
  exact⟨M,rfl,hl,hM,fun _ _ _=>rfl,Nat.le_refl _⟩
 |get b k ih=>
  intro A M f v A' f' hl hlo hM h
  have h:zL (S.contains b||Nat.ble lo b) (ob (hget A b) fun x=>yz S lo (k x) A ((b,false)::f)) none=some (v,A',f'):=h
  rw[qN]at h
  split at h
  ·rename_i hs
   obtain⟨x,hx,h⟩:=zo h
   rw[qfP]at hx
   have hMb:=hM b (qkK hs)
   obtain⟨M',h1,h2⟩:=ih x A M _ v A' f' hl hlo hM h
   refine⟨M',?_,h2⟩
   simp only[exec,hMb,hx]
   exact h1
  ·cases h
 |set b x k ih=>
  intro A M f v A' f' hl hlo hM h
  have h:zL (S.contains b||Nat.ble lo b) (zL (Nat.blt b (hlen A)) (yz S lo k (hset A b x) ((b,true)::f)) none) none=some (v,A',f'):=h
  rw[qN]at h
  split at h
  ·rename_i hs
   rw[qN]at h
   split at h
   ·rename_i hlt
    rw[ve]at hlt
    rw[qfM]at h
    have hb:b<A.length:=Nat.le_of_ble_eq_true hlt
    obtain⟨M',h1,h2,h3,h4,h5⟩:=ih (A.set b x) (M.set b x) _ v A' f' (by simp[hl]) (by simpa using hlo) (fun c hc=>by
     by_cases e:b=c
     ·subst e
      rw[List.getElem?_set_self (by omega),List.getElem?_set_self hb]
     ·rw[List.getElem?_set_ne e,List.getElem?_set_ne e,hM c hc]) h
    refine⟨M',?_,h2,h3,fun c hc hcS=>?_,by simpa using h5⟩
    ·simp only[exec,hl,hb,if_true]
     exact h1
    ·rw[h4 c hc hcS,List.getElem?_set_ne]
     rintro rfl
     rcases qkK hs with h|h
     ·exact hcS h
     ·omega
   ·cases h
  ·cases h
 |new x k ih=>
  intro A M f v A' f' hl hlo hM h
  have h:yz S lo (k (hlen A)) (happ A x) f=some (v,A',f'):=h
  rw[ve,qfX]at h
  obtain⟨M',h1,h2,h3,h4,h5⟩:=ih A.length (A++[x]) (M++[x]) f v A' f' (by simp[hl]) (by simp;omega) (fun c hc=>by
   rcases Nat.lt_or_ge c A.length with hlt|hge
   ·rw[List.getElem?_append_left (by omega),List.getElem?_append_left hlt,hM c hc]
   ·rw[List.getElem?_append_right (by omega),List.getElem?_append_right hge,hl]) h
  refine⟨M',?_,h2,h3,fun c hc hcS=>?_,?_⟩
  ·simp only[exec,hl]
   exact h1
  ·rw[h4 c hc hcS,List.getElem?_append_left (by omega)]
  ·simp at h5;omega
def Le (a b:zu):Prop:= ∀c args A r,a c args A=some r→b c args A=some r
section
variable (P:Program) (call:zu)
def qct (o:Op):Bool:=match o with
 | .call _=>true
 |_=>false
def qgW (o:Oper) (fr:Fr) (A:Heap):Res:=
 zL (qct o.op)
  (Option.rec (motive:=fun _=>Res) (qiW (qmv P o (jS fr)) A []) (fun g=>ob (call g.1 g.2 A) fun r=>some (r.1,r.2,[])) (zG o (jS fr)))
  (qiW (qmv P o (jS fr)) A [])
def qe1 (ops:Array Oper) (l:List Oper):Fr→Heap→Option (Fr×Heap):=
 List.rec (motive:=fun _=>Fr→Heap→Option (Fr×Heap)) (fun fr A=>some (fr,A))
  (fun o _ ih fr A=>ob (qb5 ops o fr) fun w=>zL w (ob (qgW P call o fr A) fun r=>ih (qaz fr o.dst r.1) r.2.1) (ih (qaz fr o.dst (.tuple [])) A)) l
def qh8 (o:Oper) (fr:Fr) (A:Heap):Option (AV×Heap×Rec):=
 zL (qct o.op&&(zG o (jS fr)).isSome)
  (ob (qdf P call o fr A) fun r=>some (r.1,zL (r.2.2.fp.isEmpty&&Nat.beq (hlen r.2.1) (hlen A)) A r.2.1,r.2.2))
  (zL ((vB o (jS fr) A).all fun b=>Nat.blt b (hlen A))
   (ob (yz (vB o (jS fr) A) (hlen A) (qmv P o (jS fr)) A []) fun r=>some (r.1,r.2.1,⟨vB o (jS fr) A,r.2.2.any (·.2),hlen A,hlen r.2.1⟩)) none)
def qkj (ops:Array Oper) (o:Oper) (fr:Fr) (A:Heap):Option ((Fr×Heap)×Rec):=
 ob (qb5 ops o (maskF (zw ops o) fr)) fun w=>zL w
  (ob (qh8 P call o (maskF (zw ops o) fr) A) fun r=>some ((qaz fr o.dst r.1,r.2.1),r.2.2))
  (some ((qaz fr o.dst (.tuple []),A),⟨[],false,hlen A,hlen A⟩))
def qmB (ops:Array Oper) (l:List Oper):Fr→Heap→Option ((Fr×Heap)×List Rec):=
 List.rec (motive:=fun _=>Fr→Heap→Option ((Fr×Heap)×List Rec)) (fun fr A=>some ((fr,A),[]))
  (fun o _ ih fr A=>ob (qkj P call ops o fr A) fun q=>ob (ih q.1.1 q.1.2) fun r=>some (r.1,q.2::r.2)) l
def qhu (ops:Array Oper) (fr:Fr) (A:Heap):Option (Fr×Heap):=
 ob (qmB P call ops ops.toList fr A) fun r=>zL (qdi ops r.2) (some r.1) none
def qeN (ops:Array Oper) (draw:Bool) (s:St):Option St:=
 zL draw (qhu P call ops s.1 s.2) (qe1 P call ops ops.toList s.1 s.2)
variable (N:Nat) (rd:Option Nat)
def qnf (n:Nat) (f:St→Option (XA×St)):St→Option (XA×St):=
 Nat.rec (motive:=fun _=>St→Option (XA×St)) (fun _=>none)
  (fun _ ih s=>ob (f s) fun r=>XA.rec (motive:=fun _=>Option (XA×St)) (ih r.2) (fun id=>some (.exit id,r.2)) (some (.ret,r.2)) r.1) n
def qh2 (a:AV):Option Bool:=match a with
 | .bool b=>some b
 |_=>none
def qbS (c:Code):St→Option (XA×St):=
 Code.rec (motive:=fun _=>St→Option (XA×St))
  (fun s=>some (.normal,s))
  (fun _ ops draw s=>ob (qeN P call ops draw s) fun r=>some (.normal,r))
  (fun _ _ iha ihb s=>ob (iha s) fun r=>XA.rec (motive:=fun _=>Option (XA×St)) (ihb r.2) (fun id=>some (.exit id,r.2)) (some (.ret,r.2)) r.1)
  (fun c _ _ iha ihb s=>ob (qh2 (jS s.1 c)) fun b=>zL b (iha s) (ihb s))
  (fun id _ ih s=>ob (ih s) fun r=>XA.rec (motive:=fun _=>Option (XA×St)) (some (.normal,r.2)) (fun k=>zL (Nat.beq k id) (some (.normal,r.2)) (some (.exit k,r.2))) (some (.ret,r.2)) r.1)
  (fun _ ih s=>qnf N ih s)
  (fun g ps asg body _ _ s=>zk P call N rd (.rangeFunc g ps asg body) s)
  (fun id s=>some (.exit id,s))
  (fun _ ih s=>ih s)
  (fun _ s=>some (.normal,s))
  (fun _ _=>none)
  (fun s=>some (.ret,s))
  (fun _ _=>none) c
def qj6 (b:Nat) (args:List AV) (A:Heap):Option (AV×Heap):=
 match A[b]? with
 |some (.loop _ _ fr ps asg bd)=>
  if args.length=ps.size then
   match qbS P call N (some b) asg (setAll fr ps.toList args,A)with
   |some (.normal,fr1,A1)=>match A1[b]? with
    |some (.loop .ready p1 f1 ps1 as1 bd1)=>qj0 b (qbS P call N (some b) bd (fr1,A1.set b (.loop .busy p1 f1 ps1 as1 bd1)))
    |_=>none
   |_=>none
  else none
 |_=>none
def qjU (f:FuncId) (args:List AV) (A:Heap):Option (AV×Heap):=
 match P.funcs[f]? with
 |some fn=>
  if fn.name== "runtime.NumGoroutine" then none else
  match fn.body with
  |some c=>
   match qbS P call N none c (frOf fn.ntmps args,A)with
   |some (.exit _,_)=>none
   |some (_,fr,A')=>(jb P fr A' fn.results.toList).map fun vs=>(qef vs,A')
   |none=>none
  |none=>none
 |none=>none
def qh4 (c:Cl) (args:List AV) (A:Heap):Option (AV×Heap):=
 Cl.rec (motive:=fun _=>Option (AV×Heap)) (fun f=>qjU P call N f args A) (fun b=>qj6 P call N b args A) (fun _ _=>none) c
end
def qfR (P:Program) (call:zu) (N:Nat) (post:zu):zu:=fun c args A=>
 Option.rec (motive:=fun _=>Option (AV×Heap)) (qh4 P call N c args A) some (post c args A)
def qhG (mt:TypeId→String→Option FuncId) (c:Cl):Cl:=
 Cl.rec (motive:=fun _=>Cl) (fun f=> .fn f) (fun b=> .rd b) (fun t m=>Option.rec (motive:=fun _=>Cl) (.mt t m) (fun f=> .fn f) (mt t m)) c
def qnJ (P:Program) (N:Nat) (mt:TypeId→String→Option FuncId) (pre post:zu) (pl:FuncId→Bool) (d:Nat):zu:=
 Nat.rec (motive:=fun _=>zu) pre (fun _ ih c args A=>Option.rec (motive:=fun _=>Option (AV×Heap)) (qhP (qfR P ih N post) pl (qhG mt c) args A) some (pre (qhG mt c) args A)) d
section
variable {P:Program} {call call':zu} {N:Nat} {rd:Option Nat}
theorem qjJ (hc:Le call call') {o:Oper} {fr:Fr} {A:Heap} {r:AV×Heap×zB} (h:yC P call o fr A=some r):yC P call' o fr A=some r:=by
 unfold yC at h⊢
 split at h
 ·obtain⟨x,hx,he⟩:=Option.map_eq_some_iff.1 h
  rw[hc _ _ _ _ hx]
  exact congrArg some he
 ·exact h
theorem ql7 (hc:Le call call') {o:Oper} {fr:Fr} {A:Heap} {r:AV×Heap×zB} (h:qgW P call o fr A=some r):yC P call' o fr A=some r:=by
 unfold qgW at h
 rw[qdH,qN,qma,qkC]at h
 unfold yC
 split at h
 ·cases hg:zG o (zZ fr)with
  |none=>rw[hg]at h;exact h
  |some g=>
   rw[hg]at h
   obtain⟨x,hx,he⟩:=zo h
   obtain⟨g,args⟩:=g
   simp only[hc _ _ _ _ hx,Option.map_some]
   exact he
 ·rename_i hn
  have:zG o (zZ fr)=none:=by
   unfold zG
   cases ho:o.op<;>simp[ho,qct]at hn⊢
  rw[this]
  exact h
theorem qlS (hc:Le call call') {ops:Array Oper}: ∀(l:List Oper) {fr:Fr} {A:Heap} {r:Fr×Heap},qe1 P call ops l fr A=some r→qbG P call' ops l fr A=some r:=by
 intro l
 induction l with
 |nil=>intro fr A r h;exact h
 |cons o l ih=>
  intro fr A r h
  obtain⟨w,hw,h⟩:=zo (show ob (qb5 ops o fr) (fun w=>zL w (ob (qgW P call o fr A) fun r=>qe1 P call ops l (qaz fr o.dst r.1) r.2.1) (qe1 P call ops l (qaz fr o.dst (.tuple [])) A))=some r from h)
  rw[qc9]at hw
  simp only[qbG,hw]
  cases w with
  |true=>
   obtain⟨x,hx,h⟩:=zo (show ob (qgW P call o fr A) (fun r=>qe1 P call ops l (qaz fr o.dst r.1) r.2.1)=some r from h)
   obtain⟨v,A',f⟩:=x
   rw[xz]at h
   simp only[ql7 hc hx]
   exact ih h
  |false=>
   have h:qe1 P call ops l (qaz fr o.dst (.tuple [])) A=some r:=h
   rw[xz]at h
   exact ih h
theorem qji (hc:Le call call') {o:Oper} {fr:Fr} {A:Heap} {r:AV×Heap×Rec} (h:qdf P call o fr A=some r):qdf P call' o fr A=some r:=by
 unfold qdf at h⊢
 simp only at h⊢
 split at h
 ·rename_i hall
  rw[if_pos hall]
  split at h
  ·rename_i v B f hs
   rw[qjJ hc hs]
   exact h
  ·cases h
 ·cases h
theorem qho {A B:Heap} (h:B.length=A.length):merge [] A B=A:=by
 refine List.ext_getElem? fun b=>?_
 rw[qaN]
 rcases Nat.lt_or_ge b A.length with hb|hb
 ·rw[List.getElem?_eq_getElem (show b<B.length by omega),List.getElem?_eq_getElem hb]
  simp[hb,List.getD_eq_getElem?_getD]
 ·rw[List.getElem?_eq_none (by omega),List.getElem?_eq_none hb]
  rfl
theorem qlu (hc:Le call call') {o:Oper} {fr:Fr} {A:Heap} {r:AV×Heap×Rec} (h:qh8 P call o fr A=some r):qdf P call' o fr A=some r:=by
 unfold qh8 at h
 rw[qdH,qkC]at h
 rw[qN]at h
 split at h
 ·obtain⟨x,hx,h⟩:=zo h
  have hx':=qji hc hx
  rw[hx']
  rw[←h]
  obtain⟨v,B,q⟩:=x
  simp only[Option.some.injEq,Prod.mk.injEq,true_and,and_true]
  rw[qN]
  split
  ·rename_i hb
   simp only[Bool.and_eq_true,ve]at hb
   obtain⟨h1,h2⟩:=hb
   have hlen:=Nat.eq_of_beq_eq_true h2
   unfold qdf at hx
   simp only at hx
   split at hx
   ·split at hx
    ·split at hx
     ·simp only[Option.some.injEq,Prod.mk.injEq]at hx
      obtain⟨_,h3,h4⟩:=hx
      rw[←h4]at h1
      simp only[List.isEmpty_iff]at h1
      rw[h1]at h3
      rw[←h3]at hlen⊢
      rw[yD]at hlen
      exact qho hlen
     ·cases hx
    ·cases hx
   ·cases hx
  ·rfl
 ·rename_i hn
  rw[qN]at h
  split at h
  ·rename_i hall
   obtain⟨x,hx,h⟩:=zo h
   obtain⟨v,A',f⟩:=x
   have hnc:zG o (zZ fr)=none:=by
    cases hg:zG o (zZ fr)with
    |none=>rfl
    |some g=>
     exfalso
     apply hn
     rw[hg]
     unfold zG at hg
     cases ho:o.op<;>simp[ho,qct]at hg⊢
   simp only[ve]at hall hx h
   generalize hS:vB o (zZ fr) A=S at hall hx h
   have hall2: ∀b∈S,b<A.length:=fun b hb=>Nat.le_of_ble_eq_true (List.all_eq_true.1 hall b hb)
   obtain⟨M',h1,h2,h3,h4,h5⟩:=qeg S A.length (aop P o (zZ fr)) A (mask S A) [] v A' f (jE _ _) (Nat.le_refl _) (fun b hb=>by
    rw[qbw]
    rcases hb with hb|hb
    ·rw[List.getElem?_eq_getElem (hall2 b hb)]
     simp[hb]
    ·rw[List.getElem?_eq_none hb];rfl) hx
   have hm:merge S A M'=A':=by
    refine List.ext_getElem? fun b=>?_
    rw[qaN]
    rcases Nat.lt_or_ge b A'.length with hb|hb
    ·rw[List.getElem?_eq_getElem (show b<M'.length by omega)]
     simp only[Option.map_some]
     by_cases hc:b<A.length∧b∉S
     ·have e:(decide (b<A.length)&&!S.contains b)=true:=by simp[hc.1,hc.2]
      rw[if_pos e,h4 b hc.1 hc.2,List.getElem?_eq_getElem hc.1]
      simp[List.getD_eq_getElem?_getD,List.getElem?_eq_getElem hc.1]
     ·have e: ¬(decide (b<A.length)&&!S.contains b)=true:=by
       simp only[Bool.and_eq_true,decide_eq_true_eq,Bool.not_eq_true',List.contains_eq_mem]
       intro h
       exact hc ⟨h.1,by simpa using h.2⟩
      rw[if_neg e,←h3 b (by
       rcases Nat.lt_or_ge b A.length with hlt|hge
       ·left
        exact Classical.byContradiction fun hs=>hc ⟨hlt,hs⟩
       ·exact .inr hge),List.getElem?_eq_getElem (show b<M'.length by omega)]
    ·rw[List.getElem?_eq_none (show M'.length≤b by omega),List.getElem?_eq_none hb]
     rfl
   have hall3:(S.all fun b=>decide (b<A.length))=true:=List.all_eq_true.2 fun b hb=>decide_eq_true (hall2 b hb)
   unfold qdf
   simp only[hS,hall3,if_true]
   unfold yC
   simp only[hnc,h1,Option.isSome_none,Bool.false_and,Bool.or_false]
   have h0:A.length≤M'.length:=by omega
   rw[if_pos h0,hm,←h,h2]
  ·cases h
theorem ql2 (hc:Le call call') {ops:Array Oper} {j:Nat} {o:Oper} (ho:ops[j]? =some o) {fr:Fr} {A:Heap} {r:(Fr×Heap)×Rec} (h:qkj P call ops o fr A=some r):qcQ P call' ops j (fr,A)=some r:=by
 obtain⟨w,hw,h⟩:=zo h
 rw[qc9]at hw
 simp only[qcQ,ho,hw]
 cases w with
 |true=>
  obtain⟨x,hx,h⟩:=zo (show ob (qh8 P call o (maskF (zw ops o) fr) A) (fun r=>some ((qaz fr o.dst r.1,r.2.1),r.2.2))=some r from h)
  obtain⟨v,B,q⟩:=x
  rw[xz]at h
  simp only[qlu hc hx]
  exact h
 |false=>
  have h:some ((qaz fr o.dst (.tuple []),A),(⟨[],false,hlen A,hlen A⟩:Rec))=some r:=h
  rw[xz,ve]at h
  exact h
theorem qm2 (hc:Le call call') {ops:Array Oper}: ∀(l pre:List Oper),ops.toList=pre++l→ ∀{fr:Fr} {A:Heap} {r:(Fr×Heap)×List Rec},qmB P call ops l fr A=some r→qel P call' ops l.length pre.length (fr,A)=some r:=by
 intro l
 induction l with
 |nil=>intro pre _ fr A r h;exact h
 |cons o l ih=>
  intro pre hp fr A r h
  obtain⟨q,hq,h⟩:=zo (show ob (qkj P call ops o fr A) (fun q=>ob (qmB P call ops l q.1.1 q.1.2) fun r=>some (r.1,q.2::r.2))=some r from h)
  obtain⟨x,hx,h⟩:=zo h
  have ho:ops[pre.length]? =some o:=by
   rw[←Array.getElem?_toList,hp]
   simp
  obtain⟨⟨fr1,A1⟩,rc⟩:=q
  have h2:=ih (pre++[o]) (by simp[hp]) hx
  simp only[List.length_append,List.length_cons,List.length_nil,Nat.zero_add]at h2
  simp only[List.length_cons,qel,ql2 hc ho hq,h2,Option.map_some]
  exact h
theorem qiP (hc:Le call call') {ops:Array Oper} {draw:Bool} {s r:St} (h:qeN P call ops draw s=some r):qbd P call' ops draw s=some r:=by
 unfold qeN at h
 unfold qbd
 cases draw with
 |true=>
  obtain⟨x,hx,h⟩:=zo (show qhu P call ops s.1 s.2=some r from h)
  have h2:=qm2 hc ops.toList [] rfl hx
  have hlen:ops.toList.length=ops.size:=by simp
  rw[hlen]at h2
  simp only[if_true,qbt]
  rw[show qel P call' ops ops.size 0 (s.1,s.2)=some x from h2]
  obtain⟨x1,x2⟩:=x
  rw[qN]at h
  exact h
 |false=>
  simp only[Bool.false_eq_true,if_false]
  exact qlS hc _ h
theorem qnB {f f':St→Option (XA×St)} (hf: ∀s r,f s=some r→f' s=some r): ∀(n:Nat) {s:St} {r:XA×St},qnf n f s=some r→qdZ n f' s=some r:=by
 intro n
 induction n with
 |zero=>intro s r h;cases h
 |succ n ih=>
  intro s r h
  obtain⟨x,hx,h⟩:=zo (show ob (f s) (fun r=>XA.rec (motive:=fun _=>Option (XA×St)) (qnf n f r.2) (fun id=>some (.exit id,r.2)) (some (.ret,r.2)) r.1)=some r from h)
  obtain⟨x1,x2⟩:=x
  simp only[qdZ,hf _ _ hx]
  cases x1 with
  |normal=>exact ih h
  |exit id=>exact h
  |ret=>exact h
theorem qjN {a:AV} {b:Bool} (h:qh2 a=some b):a= .bool b:=by
 unfold qh2 at h
 split at h
 ·injection h with h;rw[h]
 ·cases h
theorem qmh (hc:Le call call'): ∀(c:Code) {s:St} {r:XA×St},zk P call N rd c s=some r→zk P call' N rd c s=some r:=by
 have regLe: ∀{ops:Array Oper} {draw:Bool} {s r:St},qbd P call ops draw s=some r→qbd P call' ops draw s=some r:=by
  intro ops draw s r h
  have hI: ∀{j:Nat} {s:Fr×Heap} {r:(Fr×Heap)×Rec},qcQ P call ops j s=some r→qcQ P call' ops j s=some r:=by
   intro j s r h
   unfold qcQ at h⊢
   split at h
   ·cases h
   ·rename_i o ho
    split at h
    ·split at h
     ·rename_i v A' q hs
      simp only[qji hc hs]
      exact h
     ·cases h
    ·exact h
    ·cases h
  have hL: ∀(l:List Oper) {fr:Fr} {A:Heap} {r:Fr×Heap},qbG P call ops l fr A=some r→qbG P call' ops l fr A=some r:=by
   intro l
   induction l with
   |nil=>intro fr A r h;exact h
   |cons o l ih=>
    intro fr A r h
    simp only[qbG]at h⊢
    split at h
    ·split at h
     ·rename_i v A' f hs
      simp only[qjJ hc hs]
      exact ih h
     ·cases h
    ·exact ih h
    ·cases h
  have hR: ∀(m j:Nat) {s:Fr×Heap} {r:(Fr×Heap)×List Rec},qel P call ops m j s=some r→qel P call' ops m j s=some r:=by
   intro m
   induction m with
   |zero=>intro j s r h;exact h
   |succ m ih=>
    intro j s r h
    simp only[qel]at h⊢
    split at h
    ·rename_i s' q hs
     simp only[hI hs]
     obtain⟨x,hx,he⟩:=Option.map_eq_some_iff.1 h
     rw[ih _ hx]
     exact congrArg some he
    ·cases h
  unfold qbd at h⊢
  split at h
  ·rename_i hd
   rw[if_pos hd]
   unfold qbt at h⊢
   split at h
   ·rename_i x rs hs
    rw[hR _ _ hs]
    exact h
   ·cases h
  ·rename_i hd
   rw[if_neg hd]
   exact hL _ h
 intro c
 induction c with
 |region id ops draw=>
  intro s r h
  simp only[zk]at h⊢
  obtain⟨x,hx,he⟩:=Option.map_eq_some_iff.1 h
  rw[regLe hx]
  exact congrArg some he
 |seq a b iha ihb=>
  intro s r h
  simp only[zk]at h⊢
  split at h
  ·rename_i s' hs
   rw[iha hs]
   exact ihb h
  ·rename_i r' hr
   cases hx:zk P call N rd a s with
   |none=>rw[hx]at h;cases h
   |some x=>
    rw[iha hx]
    rw[hx]at h
    obtain⟨x1,x2⟩:=x
    cases x1 with
    |normal=>exact absurd hx (hr x2)
    |exit id=>exact h
    |ret=>exact h
 |cond c a b iha ihb=>
  intro s r h
  simp only[zk]at h⊢
  split at h
  ·exact iha h
  ·exact ihb h
  ·cases h
 |block id b ih=>
  intro s r h
  simp only[zk]at h⊢
  cases hx:zk P call N rd b s with
  |none=>rw[hx]at h;cases h
  |some x=>
   rw[ih hx]
   rw[hx]at h
   exact h
 |loop b ih=>
  intro s r h
  simp only[zk]at h⊢
  have: ∀(n:Nat) {s:St} {r:XA×St},qdZ n (zk P call N rd b) s=some r→qdZ n (zk P call' N rd b) s=some r:=by
   intro n
   induction n with
   |zero=>intro s r h;cases h
   |succ n ihn=>
    intro s r h
    simp only[qdZ]at h⊢
    cases hx:zk P call N rd b s with
    |none=>rw[hx]at h;cases h
    |some x=>
     rw[ih hx]
     rw[hx]at h
     obtain⟨x1,x2⟩:=x
     cases x1 with
     |normal=>exact ihn h
     |exit id=>exact h
     |ret=>exact h
  exact this N h
 |scope b ih=>intro s r h;exact ih h
 |rangeFunc g ps asg body=>
  intro s r h
  simp only[zk]at h⊢
  split at h
  ·rename_i hok hg
   split at h
   ·cases h
   ·rename_i hent
    rw[if_neg hent]
    split at h
    ·rename_i v A2 hcall
     rw[hc _ _ _ _ hcall]
     exact h
    ·cases h
  ·cases h
 |_=>intro s r h;first|exact h|(simp[zk]at h⊢;done)|(simp only[zk]at h⊢;exact h)
theorem qe3 (hc:Le call call'): ∀(c:Code) {s:St} {r:XA×St},qbS P call N rd c s=some r→zk P call' N rd c s=some r:=by
 intro c
 induction c with
 |skip=>intro s r h;exact h
 |region id ops draw=>
  intro s r h
  obtain⟨x,hx,h⟩:=zo (show ob (qeN P call ops draw s) (fun r=>some (XA.normal,r))=some r from h)
  simp only[zk,qiP hc hx,Option.map_some]
  exact h
 |seq a b iha ihb=>
  intro s r h
  obtain⟨x,hx,h⟩:=zo (show ob (qbS P call N rd a s) (fun r=>XA.rec (motive:=fun _=>Option (XA×St)) (qbS P call N rd b r.2) (fun id=>some (.exit id,r.2)) (some (.ret,r.2)) r.1)=some r from h)
  obtain⟨x1,x2⟩:=x
  simp only[zk,iha hx]
  cases x1 with
  |normal=>exact ihb h
  |exit id=>exact h
  |ret=>exact h
 |cond c a b iha ihb=>
  intro s r h
  obtain⟨x,hx,h⟩:=zo (show ob (qh2 (jS s.1 c)) (fun t=>zL t (qbS P call N rd a s) (qbS P call N rd b s))=some r from h)
  rw[qdH]at hx
  simp only[zk,qjN hx]
  cases x with
  |true=>exact iha h
  |false=>exact ihb h
 |block id b ih=>
  intro s r h
  obtain⟨x,hx,h⟩:=zo (show ob (qbS P call N rd b s) (fun r=>XA.rec (motive:=fun _=>Option (XA×St)) (some (.normal,r.2)) (fun k=>zL (Nat.beq k id) (some (.normal,r.2)) (some (.exit k,r.2))) (some (.ret,r.2)) r.1)=some r from h)
  obtain⟨x1,x2⟩:=x
  simp only[zk,ih hx]
  cases x1 with
  |normal=>exact h
  |exit k=>
   have h:zL (Nat.beq k id) (some (XA.normal,x2)) (some (.exit k,x2))=some r:=h
   rw[qN]at h
   simp only
   by_cases e:k=id
   ·rw[if_pos e]
    rw[if_pos (qbJ e)]at h
    exact h
   ·rw[if_neg e]
    rw[if_neg (by rw[qas e];simp)]at h
    exact h
  |ret=>exact h
 |loop b ih=>
  intro s r h
  exact qnB (fun s r h=>ih h) N h
 |scope b ih=>intro s r h;exact ih h
 |rangeFunc g ps asg body=>intro s r h;exact qmh hc (.rangeFunc g ps asg body) h
 |exit id=>intro s r h;exact h
 |label l=>intro s r h;exact h
 |ret=>intro s r h;exact h
 |_=>intro s r h;cases h
theorem qj7 (hc:Le call call'):Le (qh4 P call N) (qik P call' N):=by
 intro c args A r h
 cases c with
 |fn f=>
  have h:qjU P call N f args A=some r:=h
  show qjm P call' N f args A=some r
  unfold qjU at h
  unfold qjm
  split at h
  ·rename_i fn hf
   rw[hf]
   simp only
   split at h
   ·cases h
   ·rename_i hn
    rw[if_neg hn]
    split at h
    ·rename_i c hb
     rw[hb]
     simp only
     cases hx:qbS P call N none c (frOf _ args,A)with
     |none=>rw[hx]at h;cases h
     |some x=>
      rw[qe3 hc c hx]
      rw[hx]at h
      exact h
    ·cases h
  ·cases h
 |mt t m=>cases h
 |rd b=>
  have h:qj6 P call N b args A=some r:=h
  show qiC P call' N b args A=some r
  unfold qj6 at h
  unfold qiC
  split at h
  ·rename_i hb
   rw[hb]
   simp only
   split at h
   ·rename_i hl
    rw[if_pos hl]
    split at h
    ·rename_i hx
     rw[qe3 hc _ hx]
     simp only
     split at h
     ·rename_i hb2
      rw[hb2]
      simp only
      rename_i p1 f1 ps1 as1 bd1
      unfold qj0 at h
      split at h
      ·rename_i x fr2 A2 hy
       rw[qe3 hc _ hy]
       exact h
      ·cases h
     ·cases h
    ·cases h
   ·cases h
  ·cases h
theorem qjV (hm:P.follows .mixedOrders=true) (hc:kr P call):kr P (qh4 P call N):=
 fun c args A v A' h=>ql4 hm hc c args A v A' (qj7 (fun _ _ _ _ h=>h) c args A _ h)
theorem qki (hm:P.follows .mixedOrders=true) (hc:kr P call) {post:zu} (hp:kr P post):kr P (qfR P call N post):=by
 intro c args A v A' h
 unfold qfR at h
 cases hx:post c args A with
 |some x=>
  rw[hx]at h
  have h:some x=some (v,A'):=h
  injection h with h
  subst h
  exact hp _ _ _ _ _ hx
 |none=>
  rw[hx]at h
  exact qjV hm hc _ _ _ _ _ h
theorem qnz {mt:TypeId→String→Option FuncId} (hmt: ∀t m f,mt t m=some f→Enters P f∧MtOK P t m f) {c:Cl} {args:List AV} {A:Heap} {v:AV} {A':Heap} (h:qf P (qhG mt c) args A v A'):qf P c args A v A':=by
 cases c with
 |fn f=>exact h
 |rd b=>exact h
 |mt t m=>
  have h:qf P (Option.rec (motive:=fun _=>Cl) (.mt t m) (fun f=> .fn f) (mt t m)) args A v A':=h
  cases hf:mt t m with
  |none=>rw[hf]at h;exact h
  |some f=>
   rw[hf]at h
   obtain⟨h1,h2⟩:=hmt t m f hf
   exact⟨f,h2,fun F nu w vs i hargs=>qf.calls (f:=f) h h1 i hargs⟩
theorem qm5 (hm:P.follows .mixedOrders=true) {mt:TypeId→String→Option FuncId} (hmt: ∀t m f,mt t m=some f→Enters P f∧MtOK P t m f) {pre post:zu} {pl:FuncId→Bool} (hp:kr P pre) (hq:kr P post): ∀d,kr P (qnJ P N mt pre post pl d):=by
 intro d
 induction d with
 |zero=>exact hp
 |succ d ih=>
  intro c args A v A' h
  refine qnz hmt ?_
  have h:Option.rec (motive:=fun _=>Option (AV×Heap)) (qhP (qfR P (qnJ P N mt pre post pl d) N post) pl (qhG mt c) args A) some (pre (qhG mt c) args A)=some (v,A'):=h
  cases hx:pre (qhG mt c) args A with
  |some x=>
   rw[hx]at h
   have h:some x=some (v,A'):=h
   injection h with h
   subst h
   exact hp _ _ _ _ _ hx
  |none=>
   rw[hx]at h
   exact qmL (qki hm ih hq) pl _ _ _ _ _ h
def memo (l:List (FuncId×List AV×AV)):zu:=fun c args A=>
 Cl.rec (motive:=fun _=>Option (AV×Heap)) (fun f=>List.rec (motive:=fun _=>Option (AV×Heap))
  (List.rec (motive:=fun _=>Option (AV×Heap)) none (fun e _ ih=>zL (Nat.beq f e.1&&qaR (qaU 30) args e.2.1) (some (e.2.2,[])) ih) l) (fun _ _ _=>none) A) (fun _=>none) (fun _ _=>none) c
theorem qn3: ∀{l:List (FuncId×List AV×AV)},(∀e∈l,qf P (.fn e.1) e.2.1 [] e.2.2 [])→kr P (memo l):=by
 intro l
 induction l with
 |nil=>
  intro _ c args A v A' h
  cases c with
  |rd b=>cases h
  |mt t m=>cases h
  |fn f=>
   cases A with
   |nil=>cases h
   |cons x A=>cases h
 |cons e l ih=>
  intro hl c args A v A' h
  cases c with
  |rd b=>cases h
  |mt t m=>cases h
  |fn f=>
   cases A with
   |cons x A=>cases h
   |nil=>
    have h:zL (Nat.beq f e.1&&qaR (qaU 30) args e.2.1) (some (e.2.2,[])) (memo l (.fn f) args [])=some (v,A'):=h
    rw[qN]at h
    split at h
    ·rename_i hb
     simp only[Bool.and_eq_true]at hb
     have e1:=Nat.eq_of_beq_eq_true hb.1
     have e2:=qeD (qgw 30) _ _ hb.2
     simp only[Option.some.injEq,Prod.mk.injEq]at h
     obtain⟨rfl,rfl⟩:=h
     subst e1 e2
     exact hl e (by simp)
    ·exact ih (fun e he=>hl e (by simp[he])) _ _ _ _ _ h
end
end Go.Av
