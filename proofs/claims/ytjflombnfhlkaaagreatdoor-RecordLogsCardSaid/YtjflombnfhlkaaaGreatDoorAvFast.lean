/-
  The evaluator once more, told by recursors, so that the kernel has few steps to go; where it tells something, callP tells the same.
-/
import Derived.Test.YtjflombnfhlkaaaGreatDoorAvCon
import Derived.IntWalk
noncomputable section
namespace Go.Av
set_option linter.unusedSectionVars false
variable [Glob]
def ob {α β:Type} (x:Option α) (k:α→Option β):Option β:=Option.rec (motive:=fun _=>Option β) none k x
theorem qQ {α β:Type} {x:Option α} {k:α→Option β} {r:β} (h:ob x k=some r): ∃a,x=some a∧k a=some r:=by
 cases x with
 |none=>cases h
 |some a=>exact⟨a,rfl,h⟩
def kw {α:Type} (b:Bool) (x y:α):α:=Bool.rec (motive:=fun _=>α) y x b
theorem qx {α:Type} (b:Bool) (x y:α):kw b x y=if b=true then x else y:=by cases b<;>rfl
def hget (A:Heap):Nat→Option Blk:=
 List.rec (motive:=fun _=>Nat→Option Blk) (fun _=>none) (fun x _ ih b=>Nat.rec (motive:=fun _=>Option Blk) (some x) (fun n _=>ih n) b) A
theorem qdC: ∀(A:Heap) (b:Nat),hget A b=A[b]? :=by
 intro A
 induction A with
 |nil=>intro b;rfl
 |cons x A ih=>
  intro b
  cases b with
  |zero=>rfl
  |succ b=>exact(ih b).trans (by simp)
def hset (A:Heap):Nat→Blk→Heap:=
 List.rec (motive:=fun _=>Nat→Blk→Heap) (fun _ _=>[]) (fun y ys ih b x=>Nat.rec (motive:=fun _=>Heap) (x::ys) (fun n _=>y::ih n x) b) A
theorem qdF: ∀(A:Heap) (b:Nat) (x:Blk),hset A b x=A.set b x:=by
 intro A
 induction A with
 |nil=>intro b x;rfl
 |cons y A ih=>
  intro b x
  cases b with
  |zero=>rfl
  |succ b=>exact congrArg (y:: ·) (ih b x)
def happ (A:Heap) (x:Blk):Heap:=List.rec (motive:=fun _=>Heap) [x] (fun y _ ih=>y::ih) A
theorem qdw: ∀(A:Heap) (x:Blk),happ A x=A++[x]:=by
 intro A
 induction A with
 |nil=>intro x;rfl
 |cons y A ih=>intro x;exact congrArg (y:: ·) (ih x)
def hlen (A:Heap):Nat:=List.rec (motive:=fun _=>Nat) 0 (fun _ _ ih=>Nat.succ ih) A
theorem zV: ∀(A:Heap),hlen A=A.length:=by
 intro A
 induction A with
 |nil=>rfl
 |cons y A ih=>exact congrArg Nat.succ ih
def qjG (v:Value):AV:=
 match v with
 | .int k n=> .int k n
 | .bool b=> .bool b
 |v=>yL 3 v
theorem qir (v:Value):qjG v=yL 3 v:=by cases v<;>rfl
def zM (fr:Fr) (x:Operand):AV:=
 Operand.rec (motive:=fun _=>AV) (fun t=>fr.get t) (fun v=>qjG v) (fun g=>Glob.gl g) (fun f=> .func (.func f) [] []) x
theorem qbF (fr:Fr):zM fr=zo fr:=by
 funext x
 cases x with
 |const v=>exact qir v
 |_=>rfl
def qfP {β:Type} (a:AV) (k:IntKind→Int→Option β):Option β:=
 AV.rec (motive_1:=fun _=>Option β) (motive_2:=fun _=>Unit) none (fun _=>none) k (fun _=>none) none (fun _ _=>none) (fun _ _ _=>none) none (fun _ _ _ _ _=>none) (fun _ _ _=>none) (fun _ _ _=>none) (fun _ _ _ _=>none) (fun _ _ _=>none) none (fun _=>none)
  (fun _ _ _ _=>none) (fun _ _ _ _ _=>none) (fun _=>none) none (fun _ _ _=>none) none (fun _ _=>none) (fun _ _=>none) none () (fun _ _ _ _=>()) a
theorem qdO {β:Type} {a:AV} {k:IntKind→Int→Option β} {r:β} (h:qfP a k=some r): ∃q n,a= .int q n∧k q n=some r:=by
 cases a<;>first|exact⟨_,_,rfl,h⟩|cases h
def qgg {β:Type} (k:IntKind) (x:Option β):Option β:=IntKind.rec (motive:=fun _=>Option β) none none none x none none none none k
def qi8 (n:Int):Int:=
 Int.rec (motive:=fun _=>Int) (fun m=>kw (Nat.blt m 9223372036854775808) (.ofNat m) (IntKind.wrap .i64 (.ofNat m))) (fun m=>kw (Nat.blt m 9223372036854775808) (.negSucc m) (IntKind.wrap .i64 (.negSucc m))) n
theorem qjR (n:Int):qi8 n=IntKind.wrap .i64 n:=by
 cases n with
 |ofNat m=>
  show kw _ _ _=_
  rw[qx]
  split
  ·rename_i h
   have h:m<9223372036854775808:=Nat.le_of_ble_eq_true h
   exact(Go.IntWalk.i64_in _ ⟨by simp only[Int.ofNat_eq_natCast];omega,by simp only[Int.ofNat_eq_natCast];omega⟩).symm
  ·rfl
 |negSucc m=>
  show kw _ _ _=_
  rw[qx]
  split
  ·rename_i h
   have h:m<9223372036854775808:=Nat.le_of_ble_eq_true h
   have:=Int.negSucc_eq m
   exact(Go.IntWalk.i64_in _ ⟨by omega,by omega⟩).symm
  ·rfl
def addK (a b:Int):Int:=
 Int.rec (motive:=fun _=>Int) (fun m=>Int.rec (motive:=fun _=>Int) (fun n=> .ofNat (Nat.add m n)) (fun n=>Int.add (.ofNat m) (.negSucc n)) b) (fun m=>Int.add (.negSucc m) b) a
theorem qko (a b:Int):addK a b=a+b:=by
 cases a<;>cases b<;>rfl
def mulK (a b:Int):Int:=
 Int.rec (motive:=fun _=>Int) (fun m=>Int.rec (motive:=fun _=>Int) (fun n=> .ofNat (Nat.mul m n)) (fun n=>Int.mul (.ofNat m) (.negSucc n)) b) (fun m=>Int.mul (.negSucc m) b) a
theorem qkg (a b:Int):mulK a b=a*b:=by
 cases a<;>cases b<;>rfl
def ltK (a b:Int):Bool:=
 Int.rec (motive:=fun _=>Bool) (fun m=>Int.rec (motive:=fun _=>Bool) (fun n=>Nat.blt m n) (fun _=>false) b) (fun m=>Int.rec (motive:=fun _=>Bool) (fun _=>true) (fun n=>Nat.blt n m) b) a
theorem qkR (a b:Int):ltK a b=decide (a<b):=by
 have key: ∀m n:Nat,Nat.blt m n=decide (m<n):=by
  intro m n
  by_cases h:m<n
  ·rw[decide_eq_true h];exact Nat.ble_eq_true_of_le h
  ·rw[decide_eq_false h];exact yP (by omega)
 cases a with
 |ofNat m=>
  cases b with
  |ofNat n=>exact(key m n).trans (decide_eq_decide.2 (by simp))
  |negSucc n=>
   refine(decide_eq_false ?_).symm
   have:=Int.negSucc_eq n
   simp only[Int.ofNat_eq_natCast]
   omega
 |negSucc m=>
  cases b with
  |ofNat n=>
   refine(decide_eq_true ?_).symm
   have:=Int.negSucc_eq m
   simp only[Int.ofNat_eq_natCast]
   omega
  |negSucc n=>
   refine(key n m).trans (decide_eq_decide.2 ?_)
   have:=Int.negSucc_eq n
   have:=Int.negSucc_eq m
   omega
def eqK (a b:Int):Bool:=
 Int.rec (motive:=fun _=>Bool) (fun m=>Int.rec (motive:=fun _=>Bool) (fun n=>Nat.beq m n) (fun _=>false) b) (fun m=>Int.rec (motive:=fun _=>Bool) (fun _=>false) (fun n=>Nat.beq m n) b) a
theorem qk8 (a b:Int):eqK a b=(a==b):=by
 have key: ∀m n:Nat,Nat.beq m n=decide (m=n):=by
  intro m n
  by_cases h:m=n
  ·rw[decide_eq_true h];exact qab h
  ·rw[decide_eq_false h];exact yw h
 have e:(a==b)=decide (a=b):=by rfl
 rw[e]
 cases a with
 |ofNat m=>
  cases b with
  |ofNat n=>exact(key m n).trans (decide_eq_decide.2 (by simp only[Int.ofNat_eq_natCast];omega))
  |negSucc n=>exact(decide_eq_false (by simp)).symm
 |negSucc m=>
  cases b with
  |ofNat n=>exact(decide_eq_false (by simp)).symm
  |negSucc n=>exact(key m n).trans (decide_eq_decide.2 (by simp))
def binI (op:BinOp) (a b:Int):Option AV:=
 match op with
 | .add=>some (.int .i64 (qi8 (addK a b)))
 | .mul=>some (.int .i64 (qi8 (mulK a b)))
 | .eql=>some (.bool (eqK a b))
 | .neq=>some (.bool (kw (eqK a b) false true))
 | .lss=>some (.bool (ltK a b))
 | .leq=>some (.bool (kw (ltK b a) false true))
 | .gtr=>some (.bool (ltK b a))
 | .geq=>some (.bool (kw (ltK a b) false true))
 |_=>none
theorem qkb {op:BinOp} {a b:Int} {v:AV} (h:binI op a b=some v) (P:Program) (t:TypeId) (ox oy:Operand):yG P op t ox oy (.int .i64 a) (.int .i64 b)=some v:=by
 have nb: ∀x:Bool,kw x false true=!x:=by intro x;cases x<;>rfl
 cases op<;>simp only[binI,qjR,qko,qkg,qkR,qk8,nb,reduceCtorEq]at h<;>rw[←h]<;>simp only[yG,qcq,qfn,Bool.false_eq_true,if_false,if_true,Option.some.injEq,AV.bool.injEq]
 ·rfl
 ·rw[←decide_not];exact decide_eq_decide.2 (by omega)
 ·rw[←decide_not];exact decide_eq_decide.2 (by omega)
def binK (P:Program) (op:BinOp) (t:TypeId) (ox oy:Operand) (x y:AV):Option AV:=
 Option.rec (motive:=fun _=>Option AV) (yG P op t ox oy x y) some
  (qfP x fun k a=>qgg k (qfP y fun q b=>qgg q (binI op a b)))
theorem qdG {β:Type} {k:IntKind} {x:Option β} {r:β} (h:qgg k x=some r):k= .i64∧x=some r:=by
 cases k<;>first|exact⟨rfl,h⟩|cases h
theorem qkB (P:Program) (op:BinOp) (t:TypeId) (ox oy:Operand) (x y:AV):binK P op t ox oy x y=yG P op t ox oy x y:=by
 unfold binK
 cases h:qfP x fun k a=>qgg k (qfP y fun q b=>qgg q (binI op a b))with
 |none=>rfl
 |some v=>
  obtain⟨k,a,e1,h1⟩:=qdO h
  obtain⟨e2,h2⟩:=qdG h1
  obtain⟨q,b,e3,h3⟩:=qdO h2
  obtain⟨e4,h4⟩:=qdG h3
  subst e1 e2 e3 e4
  exact(qkb h4 P t ox oy).symm
def optK (x:Option AV):Pg:=Option.rec (motive:=fun _=>Pg) .fail .done x
theorem qkl (x:Option AV):optK x= .opt x:=by cases x<;>rfl
def qjT (P:Program) (o:Oper) (ρ:Operand→AV):Pg:=
 match o.op with
 | .move x=> .done (ρ x)
 | .assign x=> .done (ρ x)
 | .binOp op t x y _=>optK (binK P op t x y (ρ x) (ρ y))
 |_=>aop P o ρ
theorem qhK (P:Program) (o:Oper) (ρ:Operand→AV):qjT P o ρ=aop P o ρ:=by
 unfold qjT
 split
 ·rename_i h;simp only[aop,h]
 ·rename_i h;simp only[aop,h]
 ·rename_i h;simp only[aop,h,qkl,qkB]
 ·rfl
def yK (fr:Fr) (dst:Option Tmp) (v:AV):Fr:=Option.rec (motive:=fun _=>Fr) fr (fun d=>fr.set d v) dst
theorem vL (fr:Fr) (dst:Option Tmp) (v:AV):yK fr dst v=yE fr dst v:=by cases dst<;>rfl
def qaN (ops:Array Oper) (o:Oper) (fr:Fr):Option Bool:=Option.rec (motive:=fun _=>Option Bool) (some true) (fun _=>zQ ops o fr) o.guard
theorem qbw (ops:Array Oper) (o:Oper) (fr:Fr):qaN ops o fr=zQ ops o fr:=by
 unfold qaN
 cases h:o.guard with
 |none=>simp[zQ,h]
 |some g=>rfl
def qgx (p:Pg):Heap→kg→Res:=
 Pg.rec (motive:=fun _=>Heap→kg→Res) (fun _ _=>none) (fun v A f=>some (v,A,f))
  (fun b _ ih A f=>ob (hget A b) fun x=>ih x A ((b,false)::f))
  (fun b x _ ih A f=>kw (Nat.blt b (hlen A)) (ih (hset A b x) ((b,true)::f)) none)
  (fun x _ ih A f=>ih (hlen A) (happ A x) f) p
theorem qj7: ∀(p:Pg) (A:Heap) (f:kg),qgx p A f=exec p A f:=by
 intro p
 induction p with
 |fail=>intro A f;rfl
 |done v=>intro A f;rfl
 |get b k ih=>
  intro A f
  show ob (hget A b) _=_
  rw[qdC]
  simp only[exec]
  cases A[b]? with
  |none=>rfl
  |some x=>exact ih x A _
 |set b x k ih=>
  intro A f
  show kw (Nat.blt b (hlen A)) (qgx k (hset A b x) _) none=_
  rw[zV,qdF,qx,ih]
  simp only[exec]
  by_cases h:b<A.length
  ·rw[if_pos h,if_pos (show Nat.blt b A.length=true from Nat.ble_eq_true_of_le h)]
  ·rw[if_neg h,if_neg (by rw[yP (by omega)];simp)]
 |new x k ih=>
  intro A f
  show qgx (k (hlen A)) (happ A x) f=_
  rw[zV,qdw,ih]
  rfl
def j5 (S:List Nat) (lo:Nat) (p:Pg):Heap→kg→Res:=
 Pg.rec (motive:=fun _=>Heap→kg→Res) (fun _ _=>none) (fun v A f=>some (v,A,f))
  (fun b _ ih A f=>kw (S.contains b||Nat.ble lo b) (ob (hget A b) fun x=>ih x A ((b,false)::f)) none)
  (fun b x _ ih A f=>kw (S.contains b||Nat.ble lo b) (kw (Nat.blt b (hlen A)) (ih (hset A b x) ((b,true)::f)) none) none)
  (fun x _ ih A f=>ih (hlen A) (happ A x) f) p
theorem qhP {S:List Nat} {lo b:Nat} (h:(S.contains b||Nat.ble lo b)=true):b∈S∨lo≤b:=by
 simp only[Bool.or_eq_true]at h
 rcases h with h|h
 ·exact .inl (by simpa using h)
 ·exact .inr (Nat.le_of_ble_eq_true h)
theorem qb7 (S:List Nat) (lo:Nat): ∀(p:Pg) (A M:Heap) (f:kg) (v:AV) (A':Heap) (f':kg),M.length=A.length→lo≤A.length→(∀b,(b∈S∨lo≤b)→M[b]? =A[b]?)→j5 S lo p A f=some (v,A',f')→
 ∃M',exec p M f=some (v,M',f')∧M'.length=A'.length∧(∀b,(b∈S∨lo≤b)→M'[b]? =A'[b]?)∧(∀b,b<lo→b∉S→A'[b]? =A[b]?)∧A.length≤A'.length:=by
 intro p
 induction p with
 |fail=>intro A M f v A' f' _ _ _ h;cases h
 |done u=>
  intro A M f v A' f' hl hlo hM h
  have h:some (u,A,f)=some (v,A',f'):=h
  simp only[Option.some.injEq,Prod.mk.injEq]at h
  obtain⟨rfl,rfl,rfl⟩:=h
  exact⟨M,rfl,hl,hM,fun _ _ _=>rfl,Nat.le_refl _⟩
 |get b k ih=>
  intro A M f v A' f' hl hlo hM h
  have h:kw (S.contains b||Nat.ble lo b) (ob (hget A b) fun x=>j5 S lo (k x) A ((b,false)::f)) none=some (v,A',f'):=h
  rw[qx]at h
  split at h
  ·rename_i hs
   obtain⟨x,hx,h⟩:=qQ h
   rw[qdC]at hx
   have hMb:=hM b (qhP hs)
   obtain⟨M',h1,h2⟩:=ih x A M _ v A' f' hl hlo hM h
   refine⟨M',?_,h2⟩
   simp only[exec,hMb,hx]
   exact h1
  ·cases h
 |set b x k ih=>
  intro A M f v A' f' hl hlo hM h
  have h:kw (S.contains b||Nat.ble lo b) (kw (Nat.blt b (hlen A)) (j5 S lo k (hset A b x) ((b,true)::f)) none) none=some (v,A',f'):=h
  rw[qx]at h
  split at h
  ·rename_i hs
   rw[qx]at h
   split at h
   ·rename_i hlt
    rw[zV]at hlt
    rw[qdF]at h
    have hb:b<A.length:=Nat.le_of_ble_eq_true hlt
    obtain⟨M',h1,h2,h3,h4,h5⟩:=ih (A.set b x) (M.set b x) _ v A' f' (by simp[hl]) (by simpa using hlo) (fun c hc=>by
     by_cases e:b=c
     ·subst e
      rw[List.getElem?_set_self (by omega),List.getElem?_set_self hb]
     ·rw[List.getElem?_set_ne e,List.getElem?_set_ne e,hM c hc]) h
    refine⟨M',?_,h2,h3,fun c hc hcS=>?_,by simpa using h5⟩
    ·simp only[exec,hl,hb,if_true]
     exact h1
    ·rw[h4 c hc hcS,List.getElem?_set_ne]
     rintro rfl
     rcases qhP hs with h|h
     ·exact hcS h
     ·omega
   ·cases h
  ·cases h
 |new x k ih=>
  intro A M f v A' f' hl hlo hM h
  have h:j5 S lo (k (hlen A)) (happ A x) f=some (v,A',f'):=h
  rw[zV,qdw]at h
  obtain⟨M',h1,h2,h3,h4,h5⟩:=ih A.length (A++[x]) (M++[x]) f v A' f' (by simp[hl]) (by simp;omega) (fun c hc=>by
   rcases Nat.lt_or_ge c A.length with hlt|hge
   ·rw[List.getElem?_append_left (by omega),List.getElem?_append_left hlt,hM c hc]
   ·rw[List.getElem?_append_right (by omega),List.getElem?_append_right hge,hl]) h
  refine⟨M',?_,h2,h3,fun c hc hcS=>?_,?_⟩
  ·simp only[exec,hl]
   exact h1
  ·rw[h4 c hc hcS,List.getElem?_append_left (by omega)]
  ·simp at h5;omega
def Le (a b:qR):Prop:= ∀c args A r,a c args A=some r→b c args A=some r
section
variable (P:Program) (call:qR)
def qa8 (o:Op):Bool:=match o with
 | .call _=>true
 |_=>false
def qet (o:Oper) (fr:Fr) (A:Heap):Res:=
 kw (qa8 o.op)
  (Option.rec (motive:=fun _=>Res) (qgx (qjT P o (zM fr)) A []) (fun g=>ob (call g.1 g.2 A) fun r=>some (r.1,r.2,[])) (kz o (zM fr)))
  (qgx (qjT P o (zM fr)) A [])
def qcA (ops:Array Oper) (l:List Oper):Fr→Heap→Option (Fr×Heap):=
 List.rec (motive:=fun _=>Fr→Heap→Option (Fr×Heap)) (fun fr A=>some (fr,A))
  (fun o _ ih fr A=>ob (qaN ops o fr) fun w=>kw w (ob (qet P call o fr A) fun r=>ih (yK fr o.dst r.1) r.2.1) (ih (yK fr o.dst (.tuple [])) A)) l
def qfC (o:Oper) (fr:Fr) (A:Heap):Option (AV×Heap×Rec):=
 kw (qa8 o.op&&(kz o (zM fr)).isSome)
  (ob (qbv P call o fr A) fun r=>some (r.1,kw (r.2.2.fp.isEmpty&&Nat.beq (hlen r.2.1) (hlen A)) A r.2.1,r.2.2))
  (kw ((zY o (zM fr) A).all fun b=>Nat.blt b (hlen A))
   (ob (j5 (zY o (zM fr) A) (hlen A) (qjT P o (zM fr)) A []) fun r=>some (r.1,r.2.1,⟨zY o (zM fr) A,r.2.2.any (·.2),hlen A,hlen r.2.1⟩)) none)
def qg6 (ops:Array Oper) (o:Oper) (fr:Fr) (A:Heap):Option ((Fr×Heap)×Rec):=
 ob (qaN ops o (maskF (qU ops o) fr)) fun w=>kw w
  (ob (qfC P call o (maskF (qU ops o) fr) A) fun r=>some ((yK fr o.dst r.1,r.2.1),r.2.2))
  (some ((yK fr o.dst (.tuple []),A),⟨[],false,hlen A,hlen A⟩))
def qi4 (ops:Array Oper) (l:List Oper):Fr→Heap→Option ((Fr×Heap)×List Rec):=
 List.rec (motive:=fun _=>Fr→Heap→Option ((Fr×Heap)×List Rec)) (fun fr A=>some ((fr,A),[]))
  (fun o _ ih fr A=>ob (qg6 P call ops o fr A) fun q=>ob (ih q.1.1 q.1.2) fun r=>some (r.1,q.2::r.2)) l
def qfi (ops:Array Oper) (fr:Fr) (A:Heap):Option (Fr×Heap):=
 ob (qi4 P call ops ops.toList fr A) fun r=>kw (qbk ops r.2) (some r.1) none
def qcj (ops:Array Oper) (draw:Bool) (s:St):Option St:=
 kw draw (qfi P call ops s.1 s.2) (qcA P call ops ops.toList s.1 s.2)
variable (N:Nat) (rd:Option Nat)
def qjr (n:Nat) (f:St→Option (XA×St)):St→Option (XA×St):=
 Nat.rec (motive:=fun _=>St→Option (XA×St)) (fun _=>none)
  (fun _ ih s=>ob (f s) fun r=>XA.rec (motive:=fun _=>Option (XA×St)) (ih r.2) (fun id=>some (.exit id,r.2)) (some (.ret,r.2)) r.1) n
def qfp (a:AV):Option Bool:=match a with
 | .bool b=>some b
 |_=>none
def qan (c:Code):St→Option (XA×St):=
 Code.rec (motive:=fun _=>St→Option (XA×St))
  (fun s=>some (.normal,s))
  (fun _ ops draw s=>ob (qcj P call ops draw s) fun r=>some (.normal,r))
  (fun _ _ iha ihb s=>ob (iha s) fun r=>XA.rec (motive:=fun _=>Option (XA×St)) (ihb r.2) (fun id=>some (.exit id,r.2)) (some (.ret,r.2)) r.1)
  (fun c _ _ iha ihb s=>ob (qfp (zM s.1 c)) fun b=>kw b (iha s) (ihb s))
  (fun id _ ih s=>ob (ih s) fun r=>XA.rec (motive:=fun _=>Option (XA×St)) (some (.normal,r.2)) (fun k=>kw (Nat.beq k id) (some (.normal,r.2)) (some (.exit k,r.2))) (some (.ret,r.2)) r.1)
  (fun _ ih s=>qjr N ih s)
  (fun g ps asg body _ _ s=>qM P call N rd (.rangeFunc g ps asg body) s)
  (fun id s=>some (.exit id,s))
  (fun _ ih s=>ih s)
  (fun _ s=>some (.normal,s))
  (fun _ _=>none)
  (fun s=>some (.ret,s))
  (fun _ _=>none) c
def qg3 (b:Nat) (args:List AV) (A:Heap):Option (AV×Heap):=
 match A[b]? with
 |some (.loop _ _ fr ps asg bd)=>
  if args.length=ps.size then
   match qan P call N (some b) asg (setAll fr ps.toList args,A)with
   |some (.normal,fr1,A1)=>match A1[b]? with
    |some (.loop .ready p1 f1 ps1 as1 bd1)=>qgP b (qan P call N (some b) bd (fr1,A1.set b (.loop .busy p1 f1 ps1 as1 bd1)))
    |_=>none
   |_=>none
  else none
 |_=>none
def qgN (f:FuncId) (args:List AV) (A:Heap):Option (AV×Heap):=
 match P.funcs[f]? with
 |some fn=>
  if fn.name== "runtime.NumGoroutine" then none else
  match fn.body with
  |some c=>
   match qan P call N none c (frOf fn.ntmps args,A)with
   |some (.exit _,_)=>none
   |some (_,fr,A')=>(zz P fr A' fn.results.toList).map fun vs=>(qcV vs,A')
   |none=>none
  |none=>none
 |none=>none
def qft (c:Cl) (args:List AV) (A:Heap):Option (AV×Heap):=
 Cl.rec (motive:=fun _=>Option (AV×Heap)) (fun f=>qgN P call N f args A) (fun b=>qg3 P call N b args A) (fun _ _=>none) c
end
def qdy (P:Program) (call:qR) (N:Nat) (post:qR):qR:=fun c args A=>
 Option.rec (motive:=fun _=>Option (AV×Heap)) (qft P call N c args A) some (post c args A)
def qeV (mt:TypeId→String→Option FuncId) (c:Cl):Cl:=
 Cl.rec (motive:=fun _=>Cl) (fun f=> .fn f) (fun b=> .rd b) (fun t m=>Option.rec (motive:=fun _=>Cl) (.mt t m) (fun f=> .fn f) (mt t m)) c
def qiG (P:Program) (N:Nat) (mt:TypeId→String→Option FuncId) (pre post:qR) (pl:FuncId→Bool) (d:Nat):qR:=
 Nat.rec (motive:=fun _=>qR) pre (fun _ ih c args A=>Option.rec (motive:=fun _=>Option (AV×Heap)) (qeM (qdy P ih N post) pl (qeV mt c) args A) some (pre (qeV mt c) args A)) d
section
variable {P:Program} {call call':qR} {N:Nat} {rd:Option Nat}
theorem qf9 (hc:Le call call') {o:Oper} {fr:Fr} {A:Heap} {r:AV×Heap×kg} (h:jS P call o fr A=some r):jS P call' o fr A=some r:=by
 unfold jS at h⊢
 split at h
 ·obtain⟨x,hx,he⟩:=Option.map_eq_some_iff.1 h
  rw[hc _ _ _ _ hx]
  exact congrArg some he
 ·exact h
theorem qip (hc:Le call call') {o:Oper} {fr:Fr} {A:Heap} {r:AV×Heap×kg} (h:qet P call o fr A=some r):jS P call' o fr A=some r:=by
 unfold qet at h
 rw[qbF,qx,qj7,qhK]at h
 unfold jS
 split at h
 ·cases hg:kz o (zo fr)with
  |none=>rw[hg]at h;exact h
  |some g=>
   rw[hg]at h
   obtain⟨x,hx,he⟩:=qQ h
   obtain⟨g,args⟩:=g
   simp only[hc _ _ _ _ hx,Option.map_some]
   exact he
 ·rename_i hn
  have:kz o (zo fr)=none:=by
   unfold kz
   cases ho:o.op<;>simp[ho,qa8]at hn⊢
  rw[this]
  exact h
theorem qiw (hc:Le call call') {ops:Array Oper}: ∀(l:List Oper) {fr:Fr} {A:Heap} {r:Fr×Heap},qcA P call ops l fr A=some r→qac P call' ops l fr A=some r:=by
 intro l
 induction l with
 |nil=>intro fr A r h;exact h
 |cons o l ih=>
  intro fr A r h
  obtain⟨w,hw,h⟩:=qQ (show ob (qaN ops o fr) (fun w=>kw w (ob (qet P call o fr A) fun r=>qcA P call ops l (yK fr o.dst r.1) r.2.1) (qcA P call ops l (yK fr o.dst (.tuple [])) A))=some r from h)
  rw[qbw]at hw
  simp only[qac,hw]
  cases w with
  |true=>
   obtain⟨x,hx,h⟩:=qQ (show ob (qet P call o fr A) (fun r=>qcA P call ops l (yK fr o.dst r.1) r.2.1)=some r from h)
   obtain⟨v,A',f⟩:=x
   rw[vL]at h
   simp only[qip hc hx]
   exact ih h
  |false=>
   have h:qcA P call ops l (yK fr o.dst (.tuple [])) A=some r:=h
   rw[vL]at h
   exact ih h
theorem qgG (hc:Le call call') {o:Oper} {fr:Fr} {A:Heap} {r:AV×Heap×Rec} (h:qbv P call o fr A=some r):qbv P call' o fr A=some r:=by
 unfold qbv at h⊢
 simp only at h⊢
 split at h
 ·rename_i hall
  rw[if_pos hall]
  split at h
  ·rename_i v B f hs
   rw[qf9 hc hs]
   exact h
  ·cases h
 ·cases h
theorem qeQ {A B:Heap} (h:B.length=A.length):merge [] A B=A:=by
 refine List.ext_getElem? fun b=>?_
 rw[yS]
 rcases Nat.lt_or_ge b A.length with hb|hb
 ·rw[List.getElem?_eq_getElem (show b<B.length by omega),List.getElem?_eq_getElem hb]
  simp[hb,List.getD_eq_getElem?_getD]
 ·rw[List.getElem?_eq_none (by omega),List.getElem?_eq_none hb]
  rfl
theorem qio (hc:Le call call') {o:Oper} {fr:Fr} {A:Heap} {r:AV×Heap×Rec} (h:qfC P call o fr A=some r):qbv P call' o fr A=some r:=by
 unfold qfC at h
 rw[qbF,qhK]at h
 rw[qx]at h
 split at h
 ·obtain⟨x,hx,h⟩:=qQ h
  have hx':=qgG hc hx
  rw[hx']
  rw[←h]
  obtain⟨v,B,q⟩:=x
  simp only[Option.some.injEq,Prod.mk.injEq,true_and,and_true]
  rw[qx]
  split
  ·rename_i hb
   simp only[Bool.and_eq_true,zV]at hb
   obtain⟨h1,h2⟩:=hb
   have hlen:=Nat.eq_of_beq_eq_true h2
   unfold qbv at hx
   simp only at hx
   split at hx
   ·split at hx
    ·split at hx
     ·simp only[Option.some.injEq,Prod.mk.injEq]at hx
      obtain⟨_,h3,h4⟩:=hx
      rw[←h4]at h1
      simp only[List.isEmpty_iff]at h1
      rw[h1]at h3
      rw[←h3]at hlen⊢
      rw[jV]at hlen
      exact qeQ hlen
     ·cases hx
    ·cases hx
   ·cases hx
  ·rfl
 ·rename_i hn
  rw[qx]at h
  split at h
  ·rename_i hall
   obtain⟨x,hx,h⟩:=qQ h
   obtain⟨v,A',f⟩:=x
   have hnc:kz o (zo fr)=none:=by
    cases hg:kz o (zo fr)with
    |none=>rfl
    |some g=>
     exfalso
     apply hn
     rw[hg]
     unfold kz at hg
     cases ho:o.op<;>simp[ho,qa8]at hg⊢
   simp only[zV]at hall hx h
   generalize hS:zY o (zo fr) A=S at hall hx h
   have hall2: ∀b∈S,b<A.length:=fun b hb=>Nat.le_of_ble_eq_true (List.all_eq_true.1 hall b hb)
   obtain⟨M',h1,h2,h3,h4,h5⟩:=qb7 S A.length (aop P o (zo fr)) A (mask S A) [] v A' f (zC _ _) (Nat.le_refl _) (fun b hb=>by
    rw[xJ]
    rcases hb with hb|hb
    ·rw[List.getElem?_eq_getElem (hall2 b hb)]
     simp[hb]
    ·rw[List.getElem?_eq_none hb];rfl) hx
   have hm:merge S A M'=A':=by
    refine List.ext_getElem? fun b=>?_
    rw[yS]
    rcases Nat.lt_or_ge b A'.length with hb|hb
    ·rw[List.getElem?_eq_getElem (show b<M'.length by omega)]
     simp only[Option.map_some]
     by_cases hc:b<A.length∧b∉S
     ·have e:(decide (b<A.length)&&!S.contains b)=true:=by simp[hc.1,hc.2]
      rw[if_pos e,h4 b hc.1 hc.2,List.getElem?_eq_getElem hc.1]
      simp[List.getD_eq_getElem?_getD,List.getElem?_eq_getElem hc.1]
     ·have e: ¬(decide (b<A.length)&&!S.contains b)=true:=by
       simp only[Bool.and_eq_true,decide_eq_true_eq,Bool.not_eq_true',List.contains_eq_mem]
       intro h
       exact hc ⟨h.1,by simpa using h.2⟩
      rw[if_neg e,←h3 b (by
       rcases Nat.lt_or_ge b A.length with hlt|hge
       ·left
        exact Classical.byContradiction fun hs=>hc ⟨hlt,hs⟩
       ·exact .inr hge),List.getElem?_eq_getElem (show b<M'.length by omega)]
    ·rw[List.getElem?_eq_none (show M'.length≤b by omega),List.getElem?_eq_none hb]
     rfl
   have hall3:(S.all fun b=>decide (b<A.length))=true:=List.all_eq_true.2 fun b hb=>decide_eq_true (hall2 b hb)
   unfold qbv
   simp only[hS,hall3,if_true]
   unfold jS
   simp only[hnc,h1,Option.isSome_none,Bool.false_and,Bool.or_false]
   have h0:A.length≤M'.length:=by omega
   rw[if_pos h0,hm,←h,h2]
  ·cases h
theorem qia (hc:Le call call') {ops:Array Oper} {j:Nat} {o:Oper} (ho:ops[j]? =some o) {fr:Fr} {A:Heap} {r:(Fr×Heap)×Rec} (h:qg6 P call ops o fr A=some r):qa9 P call' ops j (fr,A)=some r:=by
 obtain⟨w,hw,h⟩:=qQ h
 rw[qbw]at hw
 simp only[qa9,ho,hw]
 cases w with
 |true=>
  obtain⟨x,hx,h⟩:=qQ (show ob (qfC P call o (maskF (qU ops o) fr) A) (fun r=>some ((yK fr o.dst r.1,r.2.1),r.2.2))=some r from h)
  obtain⟨v,B,q⟩:=x
  rw[vL]at h
  simp only[qio hc hx]
  exact h
 |false=>
  have h:some ((yK fr o.dst (.tuple []),A),(⟨[],false,hlen A,hlen A⟩:Rec))=some r:=h
  rw[vL,zV]at h
  exact h
theorem qi2 (hc:Le call call') {ops:Array Oper}: ∀(l pre:List Oper),ops.toList=pre++l→ ∀{fr:Fr} {A:Heap} {r:(Fr×Heap)×List Rec},qi4 P call ops l fr A=some r→qb1 P call' ops l.length pre.length (fr,A)=some r:=by
 intro l
 induction l with
 |nil=>intro pre _ fr A r h;exact h
 |cons o l ih=>
  intro pre hp fr A r h
  obtain⟨q,hq,h⟩:=qQ (show ob (qg6 P call ops o fr A) (fun q=>ob (qi4 P call ops l q.1.1 q.1.2) fun r=>some (r.1,q.2::r.2))=some r from h)
  obtain⟨x,hx,h⟩:=qQ h
  have ho:ops[pre.length]? =some o:=by
   rw[←Array.getElem?_toList,hp]
   simp
  obtain⟨⟨fr1,A1⟩,rc⟩:=q
  have h2:=ih (pre++[o]) (by simp[hp]) hx
  simp only[List.length_append,List.length_cons,List.length_nil,Nat.zero_add]at h2
  simp only[List.length_cons,qb1,qia hc ho hq,h2,Option.map_some]
  exact h
theorem qgA (hc:Le call call') {ops:Array Oper} {draw:Bool} {s r:St} (h:qcj P call ops draw s=some r):xB P call' ops draw s=some r:=by
 unfold qcj at h
 unfold xB
 cases draw with
 |true=>
  obtain⟨x,hx,h⟩:=qQ (show qfi P call ops s.1 s.2=some r from h)
  have h2:=qi2 hc ops.toList [] rfl hx
  have hlen:ops.toList.length=ops.size:=by simp
  rw[hlen]at h2
  simp only[if_true,xI]
  rw[show qb1 P call' ops ops.size 0 (s.1,s.2)=some x from h2]
  obtain⟨x1,x2⟩:=x
  rw[qx]at h
  exact h
 |false=>
  simp only[Bool.false_eq_true,if_false]
  exact qiw hc _ h
theorem qjS {f f':St→Option (XA×St)} (hf: ∀s r,f s=some r→f' s=some r): ∀(n:Nat) {s:St} {r:XA×St},qjr n f s=some r→qbK n f' s=some r:=by
 intro n
 induction n with
 |zero=>intro s r h;cases h
 |succ n ih=>
  intro s r h
  obtain⟨x,hx,h⟩:=qQ (show ob (f s) (fun r=>XA.rec (motive:=fun _=>Option (XA×St)) (qjr n f r.2) (fun id=>some (.exit id,r.2)) (some (.ret,r.2)) r.1)=some r from h)
  obtain⟨x1,x2⟩:=x
  simp only[qbK,hf _ _ hx]
  cases x1 with
  |normal=>exact ih h
  |exit id=>exact h
  |ret=>exact h
theorem qgj {a:AV} {b:Bool} (h:qfp a=some b):a= .bool b:=by
 unfold qfp at h
 split at h
 ·injection h with h;rw[h]
 ·cases h
theorem qjO (hc:Le call call'): ∀(c:Code) {s:St} {r:XA×St},qM P call N rd c s=some r→qM P call' N rd c s=some r:=by
 have regLe: ∀{ops:Array Oper} {draw:Bool} {s r:St},xB P call ops draw s=some r→xB P call' ops draw s=some r:=by
  intro ops draw s r h
  have hI: ∀{j:Nat} {s:Fr×Heap} {r:(Fr×Heap)×Rec},qa9 P call ops j s=some r→qa9 P call' ops j s=some r:=by
   intro j s r h
   unfold qa9 at h⊢
   split at h
   ·cases h
   ·rename_i o ho
    split at h
    ·split at h
     ·rename_i v A' q hs
      simp only[qgG hc hs]
      exact h
     ·cases h
    ·exact h
    ·cases h
  have hL: ∀(l:List Oper) {fr:Fr} {A:Heap} {r:Fr×Heap},qac P call ops l fr A=some r→qac P call' ops l fr A=some r:=by
   intro l
   induction l with
   |nil=>intro fr A r h;exact h
   |cons o l ih=>
    intro fr A r h
    simp only[qac]at h⊢
    split at h
    ·split at h
     ·rename_i v A' f hs
      simp only[qf9 hc hs]
      exact ih h
     ·cases h
    ·exact ih h
    ·cases h
  have hR: ∀(m j:Nat) {s:Fr×Heap} {r:(Fr×Heap)×List Rec},qb1 P call ops m j s=some r→qb1 P call' ops m j s=some r:=by
   intro m
   induction m with
   |zero=>intro j s r h;exact h
   |succ m ih=>
    intro j s r h
    simp only[qb1]at h⊢
    split at h
    ·rename_i s' q hs
     simp only[hI hs]
     obtain⟨x,hx,he⟩:=Option.map_eq_some_iff.1 h
     rw[ih _ hx]
     exact congrArg some he
    ·cases h
  unfold xB at h⊢
  split at h
  ·rename_i hd
   rw[if_pos hd]
   unfold xI at h⊢
   split at h
   ·rename_i x rs hs
    rw[hR _ _ hs]
    exact h
   ·cases h
  ·rename_i hd
   rw[if_neg hd]
   exact hL _ h
 intro c
 induction c with
 |region id ops draw=>
  intro s r h
  simp only[qM]at h⊢
  obtain⟨x,hx,he⟩:=Option.map_eq_some_iff.1 h
  rw[regLe hx]
  exact congrArg some he
 |seq a b iha ihb=>
  intro s r h
  simp only[qM]at h⊢
  split at h
  ·rename_i s' hs
   rw[iha hs]
   exact ihb h
  ·rename_i r' hr
   cases hx:qM P call N rd a s with
   |none=>rw[hx]at h;cases h
   |some x=>
    rw[iha hx]
    rw[hx]at h
    obtain⟨x1,x2⟩:=x
    cases x1 with
    |normal=>exact absurd hx (hr x2)
    |exit id=>exact h
    |ret=>exact h
 |cond c a b iha ihb=>
  intro s r h
  simp only[qM]at h⊢
  split at h
  ·exact iha h
  ·exact ihb h
  ·cases h
 |block id b ih=>
  intro s r h
  simp only[qM]at h⊢
  cases hx:qM P call N rd b s with
  |none=>rw[hx]at h;cases h
  |some x=>
   rw[ih hx]
   rw[hx]at h
   exact h
 |loop b ih=>
  intro s r h
  simp only[qM]at h⊢
  have: ∀(n:Nat) {s:St} {r:XA×St},qbK n (qM P call N rd b) s=some r→qbK n (qM P call' N rd b) s=some r:=by
   intro n
   induction n with
   |zero=>intro s r h;cases h
   |succ n ihn=>
    intro s r h
    simp only[qbK]at h⊢
    cases hx:qM P call N rd b s with
    |none=>rw[hx]at h;cases h
    |some x=>
     rw[ih hx]
     rw[hx]at h
     obtain⟨x1,x2⟩:=x
     cases x1 with
     |normal=>exact ihn h
     |exit id=>exact h
     |ret=>exact h
  exact this N h
 |scope b ih=>intro s r h;exact ih h
 |rangeFunc g ps asg body=>
  intro s r h
  simp only[qM]at h⊢
  split at h
  ·rename_i hok hg
   split at h
   ·cases h
   ·rename_i hent
    rw[if_neg hent]
    split at h
    ·rename_i v A2 hcall
     rw[hc _ _ _ _ hcall]
     exact h
    ·cases h
  ·cases h
 |_=>intro s r h;first|exact h|(simp[qM]at h⊢;done)|(simp only[qM]at h⊢;exact h)
theorem qcG (hc:Le call call'): ∀(c:Code) {s:St} {r:XA×St},qan P call N rd c s=some r→qM P call' N rd c s=some r:=by
 intro c
 induction c with
 |skip=>intro s r h;exact h
 |region id ops draw=>
  intro s r h
  obtain⟨x,hx,h⟩:=qQ (show ob (qcj P call ops draw s) (fun r=>some (XA.normal,r))=some r from h)
  simp only[qM,qgA hc hx,Option.map_some]
  exact h
 |seq a b iha ihb=>
  intro s r h
  obtain⟨x,hx,h⟩:=qQ (show ob (qan P call N rd a s) (fun r=>XA.rec (motive:=fun _=>Option (XA×St)) (qan P call N rd b r.2) (fun id=>some (.exit id,r.2)) (some (.ret,r.2)) r.1)=some r from h)
  obtain⟨x1,x2⟩:=x
  simp only[qM,iha hx]
  cases x1 with
  |normal=>exact ihb h
  |exit id=>exact h
  |ret=>exact h
 |cond c a b iha ihb=>
  intro s r h
  obtain⟨x,hx,h⟩:=qQ (show ob (qfp (zM s.1 c)) (fun t=>kw t (qan P call N rd a s) (qan P call N rd b s))=some r from h)
  rw[qbF]at hx
  simp only[qM,qgj hx]
  cases x with
  |true=>exact iha h
  |false=>exact ihb h
 |block id b ih=>
  intro s r h
  obtain⟨x,hx,h⟩:=qQ (show ob (qan P call N rd b s) (fun r=>XA.rec (motive:=fun _=>Option (XA×St)) (some (.normal,r.2)) (fun k=>kw (Nat.beq k id) (some (.normal,r.2)) (some (.exit k,r.2))) (some (.ret,r.2)) r.1)=some r from h)
  obtain⟨x1,x2⟩:=x
  simp only[qM,ih hx]
  cases x1 with
  |normal=>exact h
  |exit k=>
   have h:kw (Nat.beq k id) (some (XA.normal,x2)) (some (.exit k,x2))=some r:=h
   rw[qx]at h
   simp only
   by_cases e:k=id
   ·rw[if_pos e]
    rw[if_pos (qab e)]at h
    exact h
   ·rw[if_neg e]
    rw[if_neg (by rw[yw e];simp)]at h
    exact h
  |ret=>exact h
 |loop b ih=>
  intro s r h
  exact qjS (fun s r h=>ih h) N h
 |scope b ih=>intro s r h;exact ih h
 |rangeFunc g ps asg body=>intro s r h;exact qjO hc (.rangeFunc g ps asg body) h
 |exit id=>intro s r h;exact h
 |label l=>intro s r h;exact h
 |ret=>intro s r h;exact h
 |_=>intro s r h;cases h
theorem qg2 (hc:Le call call'):Le (qft P call N) (qfF P call' N):=by
 intro c args A r h
 cases c with
 |fn f=>
  have h:qgN P call N f args A=some r:=h
  show qgb P call' N f args A=some r
  unfold qgN at h
  unfold qgb
  split at h
  ·rename_i fn hf
   rw[hf]
   simp only
   split at h
   ·cases h
   ·rename_i hn
    rw[if_neg hn]
    split at h
    ·rename_i c hb
     rw[hb]
     simp only
     cases hx:qan P call N none c (frOf _ args,A)with
     |none=>rw[hx]at h;cases h
     |some x=>
      rw[qcG hc c hx]
      rw[hx]at h
      exact h
    ·cases h
  ·cases h
 |mt t m=>cases h
 |rd b=>
  have h:qg3 P call N b args A=some r:=h
  show qfY P call' N b args A=some r
  unfold qg3 at h
  unfold qfY
  split at h
  ·rename_i hb
   rw[hb]
   simp only
   split at h
   ·rename_i hl
    rw[if_pos hl]
    split at h
    ·rename_i hx
     rw[qcG hc _ hx]
     simp only
     split at h
     ·rename_i hb2
      rw[hb2]
      simp only
      rename_i p1 f1 ps1 as1 bd1
      unfold qgP at h
      split at h
      ·rename_i x fr2 A2 hy
       rw[qcG hc _ hy]
       exact h
      ·cases h
     ·cases h
    ·cases h
   ·cases h
  ·cases h
theorem qhl (hm:P.follows .mixedOrders=true) (hc:qD P call):qD P (qft P call N):=
 fun c args A v A' h=>qh7 hm hc c args A v A' (qg2 (fun _ _ _ _ h=>h) c args A _ h)
theorem qhd (hm:P.follows .mixedOrders=true) (hc:qD P call) {post:qR} (hp:qD P post):qD P (qdy P call N post):=by
 intro c args A v A' h
 unfold qdy at h
 cases hx:post c args A with
 |some x=>
  rw[hx]at h
  have h:some x=some (v,A'):=h
  injection h with h
  subst h
  exact hp _ _ _ _ _ hx
 |none=>
  rw[hx]at h
  exact qhl hm hc _ _ _ _ _ h
theorem qjl {mt:TypeId→String→Option FuncId} (hmt: ∀t m f,mt t m=some f→Enters P f∧MtOK P t m f) {c:Cl} {args:List AV} {A:Heap} {v:AV} {A':Heap} (h:qf P (qeV mt c) args A v A'):qf P c args A v A':=by
 cases c with
 |fn f=>exact h
 |rd b=>exact h
 |mt t m=>
  have h:qf P (Option.rec (motive:=fun _=>Cl) (.mt t m) (fun f=> .fn f) (mt t m)) args A v A':=h
  cases hf:mt t m with
  |none=>rw[hf]at h;exact h
  |some f=>
   rw[hf]at h
   obtain⟨h1,h2⟩:=hmt t m f hf
   exact⟨f,h2,fun F nu w vs i hargs=>qf.calls (f:=f) h h1 i hargs⟩
theorem qjo (hm:P.follows .mixedOrders=true) {mt:TypeId→String→Option FuncId} (hmt: ∀t m f,mt t m=some f→Enters P f∧MtOK P t m f) {pre post:qR} {pl:FuncId→Bool} (hp:qD P pre) (hq:qD P post): ∀d,qD P (qiG P N mt pre post pl d):=by
 intro d
 induction d with
 |zero=>exact hp
 |succ d ih=>
  intro c args A v A' h
  refine qjl hmt ?_
  have h:Option.rec (motive:=fun _=>Option (AV×Heap)) (qeM (qdy P (qiG P N mt pre post pl d) N post) pl (qeV mt c) args A) some (pre (qeV mt c) args A)=some (v,A'):=h
  cases hx:pre (qeV mt c) args A with
  |some x=>
   rw[hx]at h
   have h:some x=some (v,A'):=h
   injection h with h
   subst h
   exact hp _ _ _ _ _ hx
  |none=>
   rw[hx]at h
   exact qiD (qhd hm ih hq) pl _ _ _ _ _ h
def memo (l:List (FuncId×List AV×AV)):qR:=fun c args A=>
 Cl.rec (motive:=fun _=>Option (AV×Heap)) (fun f=>List.rec (motive:=fun _=>Option (AV×Heap))
  (List.rec (motive:=fun _=>Option (AV×Heap)) none (fun e _ ih=>kw (Nat.beq f e.1&&xg (xk 30) args e.2.1) (some (e.2.2,[])) ih) l) (fun _ _ _=>none) A) (fun _=>none) (fun _ _=>none) c
theorem qki: ∀{l:List (FuncId×List AV×AV)},(∀e∈l,qf P (.fn e.1) e.2.1 [] e.2.2 [])→qD P (memo l):=by
 intro l
 induction l with
 |nil=>
  intro _ c args A v A' h
  cases c with
  |rd b=>cases h
  |mt t m=>cases h
  |fn f=>
   cases A with
   |nil=>cases h
   |cons x A=>cases h
 |cons e l ih=>
  intro hl c args A v A' h
  cases c with
  |rd b=>cases h
  |mt t m=>cases h
  |fn f=>
   cases A with
   |cons x A=>cases h
   |nil=>
    have h:kw (Nat.beq f e.1&&xg (xk 30) args e.2.1) (some (e.2.2,[])) (memo l (.fn f) args [])=some (v,A'):=h
    rw[qx]at h
    split at h
    ·rename_i hb
     simp only[Bool.and_eq_true]at hb
     have e1:=Nat.eq_of_beq_eq_true hb.1
     have e2:=qcn (qer 30) _ _ hb.2
     simp only[Option.some.injEq,Prod.mk.injEq]at h
     obtain⟨rfl,rfl⟩:=h
     subst e1 e2
     exact hl e (by simp)
    ·exact ih (fun e he=>hl e (by simp[he])) _ _ _ _ _ h
end
end Go.Av
