/-
  The evaluator once more, told by recursors, so that the kernel has few steps to go; where it tells something, callP tells the same.
-/
import Derived.Test.YtbpkolibdibmeaaGreatAvFn
import Derived.IntWalk
set_option linter.unusedSectionVars false
noncomputable section
namespace Go.Av
section
variable [Glob]
def ob {α β:Type} (x:Option α) (k:α->Option β):Option β:=Option.rec (motive:=fun _=>Option β) none k x
theorem jo {α β:Type} {x:Option α} {k:α->Option β} {r:β} (h:ob x k=some r): ∃a,x=some a/\k a=some r:=by
 cases x with
 |none=>cases h
 |some a=>exact⟨a,rfl,h⟩
def vJ {α:Type} (b:Bool) (x y:α):α:=Bool.rec (motive:=fun _=>α) y x b
theorem jB {α:Type} (b:Bool) (x y:α):vJ b x y=if b=true then x else y:=by cases b<;>rfl
def hget (A:Heap):Nat->Option Blk:=
 List.rec (motive:=fun _=>Nat->Option Blk) (fun _=>none) (fun x _ ih b=>Nat.rec (motive:=fun _=>Option Blk) (some x) (fun n _=>ih n) b) A
theorem qii: ∀(A:Heap) (b:Nat),hget A b=A[b]? :=by
 intro A
 induction A with
 |nil=>intro b;rfl
 |cons x A ih=>
  intro b
  cases b with
  |zero=>rfl
  |succ b=>exact(ih b).trans (by simp)
def hset (A:Heap):Nat->Blk->Heap:=
 List.rec (motive:=fun _=>Nat->Blk->Heap) (fun _ _=>[]) (fun y ys ih b x=>Nat.rec (motive:=fun _=>Heap) (x::ys) (fun n _=>y::ih n x) b) A
theorem qil: ∀(A:Heap) (b:Nat) (x:Blk),hset A b x=A.set b x:=by
 intro A
 induction A with
 |nil=>intro b x;rfl
 |cons y A ih=>
  intro b x
  cases b with
  |zero=>rfl
  |succ b=>exact congrArg (y:: ·) (ih b x)
def happ (A:Heap) (x:Blk):Heap:=List.rec (motive:=fun _=>Heap) [x] (fun y _ ih=>y::ih) A
theorem qix: ∀(A:Heap) (x:Blk),happ A x=A++[x]:=by
 intro A
 induction A with
 |nil=>intro x;rfl
 |cons y A ih=>intro x;exact congrArg (y:: ·) (ih x)
def hlen (A:Heap):Nat:=List.rec (motive:=fun _=>Nat) 0 (fun _ _ ih=>Nat.succ ih) A
theorem yo: ∀(A:Heap),hlen A=A.length:=by
 intro A
 induction A with
 |nil=>rfl
 |cons y A ih=>exact congrArg Nat.succ ih
def qsr (v:Value):AV:=
 match v with
 | .int k n=> .int k n
 | .bool b=> .bool b
 |v=>qcy 3 v
theorem qqc (v:Value):qsr v=qcy 3 v:=by cases v<;>rfl
def vQ (fr:Fr) (x:Operand):AV:=
 Operand.rec (motive:=fun _=>AV) (fun t=>fr.get t) (fun v=>qsr v) (fun g=>Glob.gl g) (fun f=> .func (.func f) [] []) x
theorem qfN (fr:Fr):vQ fr=yh fr:=by
 funext x
 cases x with
 |const v=>exact qqc v
 |_=>rfl
def qlV {β:Type} (a:AV) (k:IntKind->Int->Option β):Option β:=
 AV.rec (motive_1:=fun _=>Option β) (motive_2:=fun _=>Unit) none (fun _=>none) k (fun _=>none) none (fun _ _=>none) (fun _ _ _=>none) none (fun _ _ _ _ _=>none) (fun _ _ _=>none) (fun _ _ _=>none) (fun _ _ _ _=>none) (fun _ _ _=>none) none (fun _=>none)
  (fun _ _ _ _=>none) (fun _ _ _ _ _=>none) (fun _=>none) none (fun _ _ _=>none) none (fun _ _=>none) (fun _ _=>none) none () (fun _ _ _ _=>()) a
theorem qiX {β:Type} {a:AV} {k:IntKind->Int->Option β} {r:β} (h:qlV a k=some r): ∃q n,a= .int q n/\k q n=some r:=by
 cases a<;>first|exact⟨_,_,rfl,h⟩|cases h
def qmf {β:Type} (k:IntKind) (x:Option β):Option β:=IntKind.rec (motive:=fun _=>Option β) none none none x none none none none k
def qqJ (n:Int):Int:=
 Int.rec (motive:=fun _=>Int) (fun m=>vJ (Nat.blt m 9223372036854775808) (.ofNat m) (IntKind.wrap .i64 (.ofNat m))) (fun m=>vJ (Nat.blt m 9223372036854775808) (.negSucc m) (IntKind.wrap .i64 (.negSucc m))) n
theorem qrz (n:Int):qqJ n=IntKind.wrap .i64 n:=by
 cases n with
 |ofNat m=>
  show vJ _ _ _=_;rw[jB];split
  ·rename_i h;have h:m<9223372036854775808:=Ys h;exact(Go.IntWalk.i64_in _ ⟨by simp only[Int.ofNat_eq_natCast];omega,by simp only[Int.ofNat_eq_natCast];omega⟩).symm
  rfl
 |negSucc m=>
  show vJ _ _ _=_;rw[jB];split
  ·rename_i h;have h:m<9223372036854775808:=Ys h;have:=Int.negSucc_eq m;exact(Go.IntWalk.i64_in _ ⟨by omega,by omega⟩).symm
  rfl
def addK (a b:Int):Int:=
 Int.rec (motive:=fun _=>Int) (fun m=>Int.rec (motive:=fun _=>Int) (fun n=> .ofNat (Nat.add m n)) (fun n=>Int.add (.ofNat m) (.negSucc n)) b) (fun m=>Int.add (.negSucc m) b) a
theorem qt0 (a b:Int):addK a b=a+b:=by
 cases a<;>cases b<;>rfl
def mulK (a b:Int):Int:=
 Int.rec (motive:=fun _=>Int) (fun m=>Int.rec (motive:=fun _=>Int) (fun n=> .ofNat (Nat.mul m n)) (fun n=>Int.mul (.ofNat m) (.negSucc n)) b) (fun m=>Int.mul (.negSucc m) b) a
theorem qt1 (a b:Int):mulK a b=a*b:=by
 cases a<;>cases b<;>rfl
def ltK (a b:Int):Bool:=
 Int.rec (motive:=fun _=>Bool) (fun m=>Int.rec (motive:=fun _=>Bool) (fun n=>Nat.blt m n) (fun _=>false) b) (fun m=>Int.rec (motive:=fun _=>Bool) (fun _=>true) (fun n=>Nat.blt n m) b) a
theorem qvc (a b:Int):ltK a b=decide (a<b):=by
 have key: ∀m n:Nat,Nat.blt m n=decide (m<n):=by
  intro m n;by_cases h:m<n
  ·rw[decide_eq_true h];exact Nat.ble_eq_true_of_le h
  rw[decide_eq_false h];exact qcZ (by omega)
 cases a with
 |ofNat m=>
  cases b with
  |ofNat n=>exact(key m n).trans (decide_eq_decide.2 (by simp))
  |negSucc n=>
   refine(decide_eq_false ?_).symm;have:=Int.negSucc_eq n;simp only[Int.ofNat_eq_natCast];omega
 |negSucc m=>
  cases b with
  |ofNat n=>
   refine(decide_eq_true ?_).symm;have:=Int.negSucc_eq m;simp only[Int.ofNat_eq_natCast];omega
  |negSucc n=>
   refine(key n m).trans (decide_eq_decide.2 ?_);have:=Int.negSucc_eq n;have:=Int.negSucc_eq m;omega
def eqK (a b:Int):Bool:=
 Int.rec (motive:=fun _=>Bool) (fun m=>Int.rec (motive:=fun _=>Bool) (fun n=>Nat.beq m n) (fun _=>false) b) (fun m=>Int.rec (motive:=fun _=>Bool) (fun _=>false) (fun n=>Nat.beq m n) b) a
theorem qvm (a b:Int):eqK a b=(a==b):=by
 have key: ∀m n:Nat,Nat.beq m n=decide (m=n):=by
  intro m n;by_cases h:m=n
  ·rw[decide_eq_true h];exact qgH h
  rw[decide_eq_false h];exact qfw h
 have e:(a==b)=decide (a=b):=by rfl
 rw[e]
 cases a with
 |ofNat m=>
  cases b with
  |ofNat n=>exact(key m n).trans (decide_eq_decide.2 (by simp only[Int.ofNat_eq_natCast];omega))
  |negSucc n=>exact(decide_eq_false (by simp)).symm
 |negSucc m=>
  cases b with
  |ofNat n=>exact(decide_eq_false (by simp)).symm
  |negSucc n=>exact(key m n).trans (decide_eq_decide.2 (by simp))
def binI (op:BinOp) (a b:Int):Option AV:=
 match op with
 | .add=>some (.int .i64 (qqJ (addK a b)))
 | .mul=>some (.int .i64 (qqJ (mulK a b)))
 | .eql=>some (.bool (eqK a b))
 | .neq=>some (.bool (vJ (eqK a b) false true))
 | .lss=>some (.bool (ltK a b))
 | .leq=>some (.bool (vJ (ltK b a) false true))
 | .gtr=>some (.bool (ltK b a))
 | .geq=>some (.bool (vJ (ltK a b) false true))
 |_=>none
theorem qtp {op:BinOp} {a b:Int} {v:AV} (h:binI op a b=some v) (P:Program) (t:TypeId) (ox oy:Operand):qaQ P op t ox oy (.int .i64 a) (.int .i64 b)=some v:=by
 have nb: ∀x:Bool,vJ x false true=!x:=by intro x;cases x<;>rfl
 cases op<;>simp only[binI,qrz,qt0,qt1,qvc,qvm,nb,reduceCtorEq]at h<;>rw[<-h]<;>simp only[qaQ,qej,qhB,ZF,if_false,if_true,ZI,AV.bool.injEq]
 ·rfl
 ·rw[<-decide_not];exact decide_eq_decide.2 (by omega)
 rw[<-decide_not];exact decide_eq_decide.2 (by omega)
def binK (P:Program) (op:BinOp) (t:TypeId) (ox oy:Operand) (x y:AV):Option AV:=
 Option.rec (motive:=fun _=>Option AV) (qaQ P op t ox oy x y) some
  (qlV x fun k a=>qmf k (qlV y fun q b=>qmf q (binI op a b)))
theorem qi5 {β:Type} {k:IntKind} {x:Option β} {r:β} (h:qmf k x=some r):k= .i64/\x=some r:=by
 cases k<;>first|exact⟨rfl,h⟩|cases h
theorem quq (P:Program) (op:BinOp) (t:TypeId) (ox oy:Operand) (x y:AV):binK P op t ox oy x y=qaQ P op t ox oy x y:=by
 unfold binK
 cases h:qlV x fun k a=>qmf k (qlV y fun q b=>qmf q (binI op a b))with
 |none=>rfl
 |some v=>
  obtain⟨k,a,e1,h1⟩:=qiX h;obtain⟨e2,h2⟩:=qi5 h1;obtain⟨q,b,e3,h3⟩:=qiX h2;obtain⟨e4,h4⟩:=qi5 h3;subst e1 e2 e3 e4;exact(qtp h4 P t ox oy).symm
def optK (x:Option AV):Pg:=Option.rec (motive:=fun _=>Pg) .fail .done x
theorem qul (x:Option AV):optK x= .opt x:=by cases x<;>rfl
def qr1 (P:Program) (o:Oper) (ρ:Operand->AV):Pg:=
 match o.op with
 | .move x=> .done (ρ x)
 | .assign x=> .done (ρ x)
 | .binOp op t x y _=>optK (binK P op t x y (ρ x) (ρ y))
 |_=>aop P o ρ
theorem qo8 (P:Program) (o:Oper) (ρ:Operand->AV):qr1 P o ρ=aop P o ρ:=by
 unfold qr1;split
 ·rename_i h;simp only[aop,h]
 ·rename_i h;simp only[aop,h]
 ·rename_i h;simp only[aop,h,qul,quq]
 rfl
def qb4 (fr:Fr) (dst:Option Tmp) (v:AV):Fr:=Option.rec (motive:=fun _=>Fr) fr (fun d=>fr.set d v) dst
theorem qa4 (fr:Fr) (dst:Option Tmp) (v:AV):qb4 fr dst v=qdP fr dst v:=by cases dst<;>rfl
def qdY (ops:Array Oper) (o:Oper) (fr:Fr):Option Bool:=Option.rec (motive:=fun _=>Option Bool) (some true) (fun _=>qaW ops o fr) o.guard
theorem qe2 (ops:Array Oper) (o:Oper) (fr:Fr):qdY ops o fr=qaW ops o fr:=by
 unfold qdY
 cases h:o.guard with
 |none=>simp[qaW,h]
 |some g=>rfl
def qmD (p:Pg):Heap->zZ->Res:=
 Pg.rec (motive:=fun _=>Heap->zZ->Res) (fun _ _=>none) (fun v A f=>some (v,A,f))
  (fun b _ ih A f=>ob (hget A b) fun x=>ih x A ((b,false)::f))
  (fun b x _ ih A f=>vJ (Nat.blt b (hlen A)) (ih (hset A b x) ((b,true)::f)) none)
  (fun x _ ih A f=>ih (hlen A) (happ A x) f) p
theorem qsH: ∀(p:Pg) (A:Heap) (f:zZ),qmD p A f=exec p A f:=by
 intro p
 induction p with
 |fail=>intro A f;rfl
 |done v=>intro A f;rfl
 |get b k ih=>
  intro A f;show ob (hget A b) _=_;rw[qii];simp only[exec]
  cases A[b]? with
  |none=>rfl
  |some x=>exact ih x A _
 |set b x k ih=>
  intro A f;show vJ (Nat.blt b (hlen A)) (qmD k (hset A b x) _) none=_;rw[yo,qil,jB,ih];simp only[exec];by_cases h:b<A.length
  ·rw[if_pos h,if_pos (show Nat.blt b A.length=true from Nat.ble_eq_true_of_le h)]
  rw[if_neg h,if_neg (by rw[qcZ (by omega)];simp)]
 |new x k ih=>
  intro A f;show qmD (k (hlen A)) (happ A x) f=_;rw[yo,qix,ih];rfl
def qat (S:List Nat) (lo:Nat) (p:Pg):Heap->zZ->Res:=
 Pg.rec (motive:=fun _=>Heap->zZ->Res) (fun _ _=>none) (fun v A f=>some (v,A,f))
  (fun b _ ih A f=>vJ (S.contains b||Nat.ble lo b) (ob (hget A b) fun x=>ih x A ((b,false)::f)) none)
  (fun b x _ ih A f=>vJ (S.contains b||Nat.ble lo b) (vJ (Nat.blt b (hlen A)) (ih (hset A b x) ((b,true)::f)) none) none)
  (fun x _ ih A f=>ih (hlen A) (happ A x) f) p
theorem qoQ {S:List Nat} {lo b:Nat} (h:(S.contains b||Nat.ble lo b)=true):b∈S\/lo<=b:=by
 simp only[Bool.or_eq_true]at h;rcases h with h|h
 ·exact .inl (by simpa using h)
 exact .inr (Ys h)
theorem qgk (S:List Nat) (lo:Nat): ∀(p:Pg) (A M:Heap) (f:zZ) (v:AV) (A':Heap) (f':zZ),M.length=A.length->lo<=A.length->(∀b,(b∈S\/lo<=b)->M[b]? =A[b]?)->qat S lo p A f=some (v,A',f')->
 ∃M',exec p M f=some (v,M',f')/\M'.length=A'.length/\(∀b,(b∈S\/lo<=b)->M'[b]? =A'[b]?)/\(∀b,b<lo->b∉S->A'[b]? =A[b]?)/\A.length<=A'.length:=by
 intro p
 induction p with
 |fail=>intro A M f v A' f' _ _ _ h;cases h
 |done u=>
  intro A M f v A' f' hl hlo hM h;have h:some (u,A,f)=some (v,A',f'):=h;simp only[ZI,ZP]at h;obtain⟨rfl,rfl,rfl⟩:=h;exact⟨M,rfl,hl,hM,fun _ _ _=>rfl,Nat.le_refl _⟩
 |get b k ih=>
  intro A M f v A' f' hl hlo hM h;have h:vJ (S.contains b||Nat.ble lo b) (ob (hget A b) fun x=>qat S lo (k x) A ((b,false)::f)) none=some (v,A',f'):=h;rw[jB]at h;split at h
  ·rename_i hs;obtain⟨x,hx,h⟩:=jo h;rw[qii]at hx;have hMb:=hM b (qoQ hs);obtain⟨M',h1,h2⟩:=ih x A M _ v A' f' hl hlo hM h;refine⟨M',?_,h2⟩;simp only[exec,hMb,hx];exact h1
  cases h
 |set b x k ih=>
  intro A M f v A' f' hl hlo hM h;have h:vJ (S.contains b||Nat.ble lo b) (vJ (Nat.blt b (hlen A)) (qat S lo k (hset A b x) ((b,true)::f)) none) none=some (v,A',f'):=h;rw[jB]at h;split at h
  ·rename_i hs;rw[jB]at h;split at h
   ·rename_i hlt;rw[yo]at hlt;rw[qil]at h;have hb:b<A.length:=Ys hlt
    obtain⟨M',h1,h2,h3,h4,h5⟩:=ih (A.set b x) (M.set b x) _ v A' f' (by simp[hl]) (by simpa using hlo) (fun c hc=>by
     by_cases e:b=c
     ·subst e;rw[List.getElem?_set_self (by omega),List.getElem?_set_self hb]
     rw[Yw e,Yw e,hM c hc]) h
    refine⟨M',?_,h2,h3,fun c hc hcS=>?_,by simpa using h5⟩
    ·simp only[exec,hl,hb,if_true];exact h1
    rw[h4 c hc hcS,Yw];rintro rfl;rcases qoQ hs with h|h
    ·exact hcS h
    omega
   cases h
  cases h
 |new x k ih=>
  intro A M f v A' f' hl hlo hM h;have h:qat S lo (k (hlen A)) (happ A x) f=some (v,A',f'):=h;rw[yo,qix]at h
  obtain⟨M',h1,h2,h3,h4,h5⟩:=ih A.length (A++[x]) (M++[x]) f v A' f' (by simp[hl]) (by simp;omega) (fun c hc=>by
   rcases Nat.lt_or_ge c A.length with hlt|hge
   ·rw[Yf (by omega),Yf hlt,hM c hc]
   rw[Yo (by omega),Yo hge,hl]) h
  refine⟨M',?_,h2,h3,fun c hc hcS=>?_,?_⟩
  ·simp only[exec,hl];exact h1
  ·rw[h4 c hc hcS,Yf (by omega)]
  simp at h5;omega
def Le (a b:jh):Prop:= ∀c args A r,a c args A=some r->b c args A=some r
section
variable (P:Program) (call:jh)
def qeG (o:Op):Bool:=match o with
 | .call _=>true
 |_=>false
def qiJ (o:Oper) (fr:Fr) (A:Heap):Res:=
 vJ (qeG o.op)
  (Option.rec (motive:=fun _=>Res) (qmD (qr1 P o (vQ fr)) A []) (fun g=>ob (call g.1 g.2 A) fun r=>some (r.1,r.2,[])) (jW o (vQ fr)))
  (qmD (qr1 P o (vQ fr)) A [])
def qhx (ops:Array Oper) (l:List Oper):Fr->Heap->Option (Fr×Heap):=
 List.rec (motive:=fun _=>Fr->Heap->Option (Fr×Heap)) (fun fr A=>some (fr,A))
  (fun o _ ih fr A=>ob (qdY ops o fr) fun w=>vJ w (ob (qiJ P call o fr A) fun r=>ih (qb4 fr o.dst r.1) r.2.1) (ih (qb4 fr o.dst (.tuple [])) A)) l
def qlj (o:Oper) (fr:Fr) (A:Heap):Option (AV×Heap×Rec):=
 vJ (qeG o.op&&(jW o (vQ fr)).isSome)
  (ob (qgW P call o fr A) fun r=>some (r.1,vJ (r.2.2.fp.isEmpty&&Nat.beq (hlen r.2.1) (hlen A)) A r.2.1,r.2.2))
  (vJ ((qaB o (vQ fr) A).all fun b=>Nat.blt b (hlen A))
   (ob (qat (qaB o (vQ fr) A) (hlen A) (qr1 P o (vQ fr)) A []) fun r=>some (r.1,r.2.1,⟨qaB o (vQ fr) A,r.2.2.any (·.2),hlen A,hlen r.2.1⟩)) none)
def qn4 (ops:Array Oper) (o:Oper) (fr:Fr) (A:Heap):Option ((Fr×Heap)×Rec):=
 ob (qdY ops o (maskF (yf ops o) fr)) fun w=>vJ w
  (ob (qlj P call o (maskF (yf ops o) fr) A) fun r=>some ((qb4 fr o.dst r.1,r.2.1),r.2.2))
  (some ((qb4 fr o.dst (.tuple []),A),⟨[],false,hlen A,hlen A⟩))
def qqK (ops:Array Oper) (l:List Oper):Fr->Heap->Option ((Fr×Heap)×List Rec):=
 List.rec (motive:=fun _=>Fr->Heap->Option ((Fr×Heap)×List Rec)) (fun fr A=>some ((fr,A),[]))
  (fun o _ ih fr A=>ob (qn4 P call ops o fr A) fun q=>ob (ih q.1.1 q.1.2) fun r=>some (r.1,q.2::r.2)) l
def qkE (ops:Array Oper) (fr:Fr) (A:Heap):Option (Fr×Heap):=
 ob (qqK P call ops ops.toList fr A) fun r=>vJ (qgf ops r.2) (some r.1) none
def qgu (ops:Array Oper) (draw:Bool) (s:St):Option St:=
 vJ draw (qkE P call ops s.1 s.2) (qhx P call ops ops.toList s.1 s.2)
variable (N:Nat) (rd:Option Nat)
def qsJ (n:Nat) (f:St->Option (XA×St)):St->Option (XA×St):=
 Nat.rec (motive:=fun _=>St->Option (XA×St)) (fun _=>none)
  (fun _ ih s=>ob (f s) fun r=>XA.rec (motive:=fun _=>Option (XA×St)) (ih r.2) (fun id=>some (.exit id,r.2)) (some (.ret,r.2)) r.1) n
def qlI (a:AV):Option Bool:=match a with
 | .bool b=>some b
 |_=>none
def qdO (c:Code):St->Option (XA×St):=
 Code.rec (motive:=fun _=>St->Option (XA×St))
  (fun s=>some (.normal,s))
  (fun _ ops draw s=>ob (qgu P call ops draw s) fun r=>some (.normal,r))
  (fun _ _ iha ihb s=>ob (iha s) fun r=>XA.rec (motive:=fun _=>Option (XA×St)) (ihb r.2) (fun id=>some (.exit id,r.2)) (some (.ret,r.2)) r.1)
  (fun c _ _ iha ihb s=>ob (qlI (vQ s.1 c)) fun b=>vJ b (iha s) (ihb s))
  (fun id _ ih s=>ob (ih s) fun r=>XA.rec (motive:=fun _=>Option (XA×St)) (some (.normal,r.2)) (fun k=>vJ (Nat.beq k id) (some (.normal,r.2)) (some (.exit k,r.2))) (some (.ret,r.2)) r.1)
  (fun _ ih s=>qsJ N ih s)
  (fun g ps asg body _ _ s=>zR P call N rd (.rangeFunc g ps asg body) s)
  (fun id s=>some (.exit id,s))
  (fun _ ih s=>ih s)
  (fun _ s=>some (.normal,s))
  (fun _ _=>none)
  (fun s=>some (.ret,s))
  (fun _ _=>none) c
def qnC (b:Nat) (args:List AV) (A:Heap):Option (AV×Heap):=
 match A[b]? with
 |some (.loop _ _ fr ps asg bd)=>
  if args.length=ps.size then
   match qdO P call N (some b) asg (setAll fr ps.toList args,A)with
   |some (.normal,fr1,A1)=>match A1[b]? with
    |some (.loop .ready p1 f1 ps1 as1 bd1)=>qnD b (qdO P call N (some b) bd (fr1,A1.set b (.loop .busy p1 f1 ps1 as1 bd1)))
    |_=>none
   |_=>none
  else none
 |_=>none
def qnS (f:FuncId) (args:List AV) (A:Heap):Option (AV×Heap):=
 match P.funcs[f]? with
 |some fn=>
  if fn.name== "runtime.NumGoroutine" then none else
  match fn.body with
  |some c=>
   match qdO P call N none c (frOf fn.ntmps args,A)with
   |some (.exit _,_)=>none
   |some (_,fr,A')=>(jU P fr A' fn.results.toList).map fun vs=>(qgz vs,A')
   |none=>none
  |none=>none
 |none=>none
def qlb (c:Cl) (args:List AV) (A:Heap):Option (AV×Heap):=
 Cl.rec (motive:=fun _=>Option (AV×Heap)) (fun f=>qnS P call N f args A) (fun b=>qnC P call N b args A) (fun _ _=>none) c
end
def qiw (P:Program) (call:jh) (N:Nat) (post:jh):jh:=fun c args A=>
 Option.rec (motive:=fun _=>Option (AV×Heap)) (qlb P call N c args A) some (post c args A)
def qkz (mt:TypeId->String->Option FuncId) (c:Cl):Cl:=
 Cl.rec (motive:=fun _=>Cl) (fun f=> .fn f) (fun b=> .rd b) (fun t m=>Option.rec (motive:=fun _=>Cl) (.mt t m) (fun f=> .fn f) (mt t m)) c
def qru (P:Program) (N:Nat) (mt:TypeId->String->Option FuncId) (pre post:jh) (pl:FuncId->Bool) (d:Nat):jh:=
 Nat.rec (motive:=fun _=>jh) pre (fun _ ih c args A=>Option.rec (motive:=fun _=>Option (AV×Heap)) (qlR (qiw P ih N post) pl (qkz mt c) args A) some (pre (qkz mt c) args A)) d
section
variable {P:Program} {call call':jh} {N:Nat} {rd:Option Nat}
theorem qmK (hc:Le call call') {o:Oper} {fr:Fr} {A:Heap} {r:AV×Heap×zZ} (h:qbr P call o fr A=some r):qbr P call' o fr A=some r:=by
 unfold qbr at h⊢;split at h
 ·obtain⟨x,hx,he⟩:=Yd.1 h;rw[hc _ _ _ _ hx];exact congrArg some he
 exact h
theorem qqx (hc:Le call call') {o:Oper} {fr:Fr} {A:Heap} {r:AV×Heap×zZ} (h:qiJ P call o fr A=some r):qbr P call' o fr A=some r:=by
 unfold qiJ at h;rw[qfN,jB,qsH,qo8]at h;unfold qbr;split at h
 ·cases hg:jW o (yh fr)with
  |none=>rw[hg]at h;exact h
  |some g=>
   rw[hg]at h;obtain⟨x,hx,he⟩:=jo h;obtain⟨g,args⟩:=g;simp only[hc _ _ _ _ hx,ZM];exact he
 rename_i hn
 have:jW o (yh fr)=none:=by
  unfold jW;cases ho:o.op<;>simp[ho,qeG]at hn⊢
 rw[this];exact h
theorem qqg (hc:Le call call') {ops:Array Oper}: ∀(l:List Oper) {fr:Fr} {A:Heap} {r:Fr×Heap},qhx P call ops l fr A=some r->qe0 P call' ops l fr A=some r:=by
 intro l
 induction l with
 |nil=>intro fr A r h;exact h
 |cons o l ih=>
  intro fr A r h;obtain⟨w,hw,h⟩:=jo (show ob (qdY ops o fr) (fun w=>vJ w (ob (qiJ P call o fr A) fun r=>qhx P call ops l (qb4 fr o.dst r.1) r.2.1) (qhx P call ops l (qb4 fr o.dst (.tuple [])) A))=some r from h);rw[qe2]at hw;simp only[qe0,hw]
  cases w with
  |true=>
   obtain⟨x,hx,h⟩:=jo (show ob (qiJ P call o fr A) (fun r=>qhx P call ops l (qb4 fr o.dst r.1) r.2.1)=some r from h);obtain⟨v,A',f⟩:=x;rw[qa4]at h;simp only[qqx hc hx];exact ih h
  |false=>
   have h:qhx P call ops l (qb4 fr o.dst (.tuple [])) A=some r:=h;rw[qa4]at h;exact ih h
theorem qmI (hc:Le call call') {o:Oper} {fr:Fr} {A:Heap} {r:AV×Heap×Rec} (h:qgW P call o fr A=some r):qgW P call' o fr A=some r:=by
 unfold qgW at h⊢;simp only at h⊢;split at h
 ·rename_i hall;rw[if_pos hall];split at h
  ·rename_i v B f hs;rw[qmK hc hs];exact h
  cases h
 cases h
theorem qqa {A B:Heap} (h:B.length=A.length):merge [] A B=A:=by
 refine List.ext_getElem? fun b=>?_
 rw[qce];rcases Nat.lt_or_ge b A.length with hb|hb
 ·rw[Ya (show b<B.length by omega),Ya hb];simp[hb,List.getD_eq_getElem?_getD]
 rw[Yg (by omega),Yg hb];rfl
theorem qqn (hc:Le call call') {o:Oper} {fr:Fr} {A:Heap} {r:AV×Heap×Rec} (h:qlj P call o fr A=some r):qgW P call' o fr A=some r:=by
 unfold qlj at h;rw[qfN,qo8]at h;rw[jB]at h;split at h
 ·obtain⟨x,hx,h⟩:=jo h;have hx':=qmI hc hx;rw[hx'];rw[<-h];obtain⟨v,B,q⟩:=x;simp only[ZI,ZP,true_and,and_true];rw[jB];split
  ·rename_i hb;simp only[Bool.and_eq_true,yo]at hb;obtain⟨h1,h2⟩:=hb;have hlen:=Nat.eq_of_beq_eq_true h2;unfold qgW at hx;simp only at hx;split at hx
   ·split at hx
    ·split at hx
     ·simp only[ZI,ZP]at hx;obtain⟨_,h3,h4⟩:=hx;rw[<-h4]at h1;simp only[List.isEmpty_iff]at h1;rw[h1]at h3;rw[<-h3]at hlen⊢;rw[qaE]at hlen;exact qqa hlen
     cases hx
    cases hx
   cases hx
  rfl
 rename_i hn;rw[jB]at h;split at h
 ·rename_i hall;obtain⟨x,hx,h⟩:=jo h;obtain⟨v,A',f⟩:=x
  have hnc:jW o (yh fr)=none:=by
   cases hg:jW o (yh fr)with
   |none=>rfl
   |some g=>
    exfalso;apply hn;rw[hg];unfold jW at hg;cases ho:o.op<;>simp[ho,qeG]at hg⊢
  simp only[yo]at hall hx h;generalize hS:qaB o (yh fr) A=S at hall hx h
  have hall2: ∀b∈S,b<A.length:=fun b hb=>Ys (Yp.1 hall b hb)
  obtain⟨M',h1,h2,h3,h4,h5⟩:=qgk S A.length (aop P o (yh fr)) A (mask S A) [] v A' f (xJ _ _) (Nat.le_refl _) (fun b hb=>by
   rw[qdi];rcases hb with hb|hb
   ·rw[Ya (hall2 b hb)];simp[hb]
   rw[Yg hb];rfl) hx
  have hm:merge S A M'=A':=by
   refine List.ext_getElem? fun b=>?_
   rw[qce];rcases Nat.lt_or_ge b A'.length with hb|hb
   ·rw[Ya (show b<M'.length by omega)];simp only[ZM];by_cases hc:b<A.length/\b∉S
    ·have e:(decide (b<A.length)&&!S.contains b)=true:=by simp[hc.1,hc.2]
     rw[if_pos e,h4 b hc.1 hc.2,Ya hc.1];simp[List.getD_eq_getElem?_getD,List.getElem?_eq_getElem hc.1]
    have e: ¬(decide (b<A.length)&&!S.contains b)=true:=by
     simp only[Bool.and_eq_true,decide_eq_true_eq,Bool.not_eq_true',List.contains_eq_mem];intro h;exact hc ⟨h.1,by simpa using h.2⟩
    rw[if_neg e,<-h3 b (by
     rcases Nat.lt_or_ge b A.length with hlt|hge
     ·left
      exact Classical.byContradiction fun hs=>hc ⟨hlt,hs⟩
     exact .inr hge),Ya (show b<M'.length by omega)]
   rw[Yg (show M'.length<=b by omega),Yg hb];rfl
  have hall3:(S.all fun b=>decide (b<A.length))=true:=Yp.2 fun b hb=>decide_eq_true (hall2 b hb)
  unfold qgW;simp only[hS,hall3,if_true];unfold qbr;simp only[hnc,h1,Option.isSome_none,Bool.false_and,Bool.or_false]
  have h0:A.length<=M'.length:=by omega
  rw[if_pos h0,hm,<-h,h2]
 cases h
theorem qpX (hc:Le call call') {ops:Array Oper} {j:Nat} {o:Oper} (ho:ops[j]? =some o) {fr:Fr} {A:Heap} {r:(Fr×Heap)×Rec} (h:qn4 P call ops o fr A=some r):qf4 P call' ops j (fr,A)=some r:=by
 obtain⟨w,hw,h⟩:=jo h;rw[qe2]at hw;simp only[qf4,ho,hw]
 cases w with
 |true=>
  obtain⟨x,hx,h⟩:=jo (show ob (qlj P call o (maskF (yf ops o) fr) A) (fun r=>some ((qb4 fr o.dst r.1,r.2.1),r.2.2))=some r from h);obtain⟨v,B,q⟩:=x;rw[qa4]at h;simp only[qqn hc hx];exact h
 |false=>
  have h:some ((qb4 fr o.dst (.tuple []),A),(⟨[],false,hlen A,hlen A⟩:Rec))=some r:=h;rw[qa4,yo]at h;exact h
theorem qq5 (hc:Le call call') {ops:Array Oper}: ∀(l pre:List Oper),ops.toList=pre++l-> ∀{fr:Fr} {A:Heap} {r:(Fr×Heap)×List Rec},qqK P call ops l fr A=some r->qiY P call' ops l.length pre.length (fr,A)=some r:=by
 intro l
 induction l with
 |nil=>intro pre _ fr A r h;exact h
 |cons o l ih=>
  intro pre hp fr A r h;obtain⟨q,hq,h⟩:=jo (show ob (qn4 P call ops o fr A) (fun q=>ob (qqK P call ops l q.1.1 q.1.2) fun r=>some (r.1,q.2::r.2))=some r from h);obtain⟨x,hx,h⟩:=jo h
  have ho:ops[pre.length]? =some o:=by
   rw[<-YT,hp];simp
  obtain⟨⟨fr1,A1⟩,rc⟩:=q;have h2:=ih (pre++[o]) (by simp[hp]) hx;simp only[Yq,Yr,List.length_nil,Nat.zero_add]at h2;simp only[Yr,qiY,qpX hc ho hq,h2,ZM];exact h
theorem qmA (hc:Le call call') {ops:Array Oper} {draw:Bool} {s r:St} (h:qgu P call ops draw s=some r):qeq P call' ops draw s=some r:=by
 unfold qgu at h;unfold qeq
 cases draw with
 |true=>
  obtain⟨x,hx,h⟩:=jo (show qkE P call ops s.1 s.2=some r from h);have h2:=qq5 hc ops.toList [] rfl hx
  have hlen:ops.toList.length=ops.size:=by simp
  rw[hlen]at h2;simp only[if_true,qe6];rw[show qiY P call' ops ops.size 0 (s.1,s.2)=some x from h2];obtain⟨x1,x2⟩:=x;rw[jB]at h;exact h
 |false=>
  simp only[ZF,if_false];exact qqg hc _ h
theorem qq9 {f f':St->Option (XA×St)} (hf: ∀s r,f s=some r->f' s=some r): ∀(n:Nat) {s:St} {r:XA×St},qsJ n f s=some r->qfW n f' s=some r:=by
 intro n
 induction n with
 |zero=>intro s r h;cases h
 |succ n ih=>
  intro s r h;obtain⟨x,hx,h⟩:=jo (show ob (f s) (fun r=>XA.rec (motive:=fun _=>Option (XA×St)) (qsJ n f r.2) (fun id=>some (.exit id,r.2)) (some (.ret,r.2)) r.1)=some r from h);obtain⟨x1,x2⟩:=x;simp only[qfW,hf _ _ hx]
  cases x1 with
  |normal=>exact ih h
  |exit id=>exact h
  |ret=>exact h
theorem qm8 {a:AV} {b:Bool} (h:qlI a=some b):a= .bool b:=by
 unfold qlI at h;split at h
 ·injection h with h;rw[h]
 cases h
theorem qqX (hc:Le call call'): ∀(c:Code) {s:St} {r:XA×St},zR P call N rd c s=some r->zR P call' N rd c s=some r:=by
 have regLe: ∀{ops:Array Oper} {draw:Bool} {s r:St},qeq P call ops draw s=some r->qeq P call' ops draw s=some r:=by
  intro ops draw s r h
  have hI: ∀{j:Nat} {s:Fr×Heap} {r:(Fr×Heap)×Rec},qf4 P call ops j s=some r->qf4 P call' ops j s=some r:=by
   intro j s r h;unfold qf4 at h⊢;split at h
   ·cases h
   rename_i o ho;split at h
   ·split at h
    ·rename_i v A' q hs;simp only[qmI hc hs];exact h
    cases h
   ·exact h
   cases h
  have hL: ∀(l:List Oper) {fr:Fr} {A:Heap} {r:Fr×Heap},qe0 P call ops l fr A=some r->qe0 P call' ops l fr A=some r:=by
   intro l
   induction l with
   |nil=>intro fr A r h;exact h
   |cons o l ih=>
    intro fr A r h;simp only[qe0]at h⊢;split at h
    ·split at h
     ·rename_i v A' f hs;simp only[qmK hc hs];exact ih h
     cases h
    ·exact ih h
    cases h
  have hR: ∀(m j:Nat) {s:Fr×Heap} {r:(Fr×Heap)×List Rec},qiY P call ops m j s=some r->qiY P call' ops m j s=some r:=by
   intro m
   induction m with
   |zero=>intro j s r h;exact h
   |succ m ih=>
    intro j s r h;simp only[qiY]at h⊢;split at h
    ·rename_i s' q hs;simp only[hI hs];obtain⟨x,hx,he⟩:=Yd.1 h;rw[ih _ hx];exact congrArg some he
    cases h
  unfold qeq at h⊢;split at h
  ·rename_i hd;rw[if_pos hd];unfold qe6 at h⊢;split at h
   ·rename_i x rs hs;rw[hR _ _ hs];exact h
   cases h
  rename_i hd;rw[if_neg hd];exact hL _ h
 intro c
 induction c with
 |region id ops draw=>
  intro s r h;simp only[zR]at h⊢;obtain⟨x,hx,he⟩:=Yd.1 h;rw[regLe hx];exact congrArg some he
 |seq a b iha ihb=>
  intro s r h;simp only[zR]at h⊢;split at h
  ·rename_i s' hs;rw[iha hs];exact ihb h
  rename_i r' hr
  cases hx:zR P call N rd a s with
  |none=>rw[hx]at h;cases h
  |some x=>
   rw[iha hx];rw[hx]at h;obtain⟨x1,x2⟩:=x
   cases x1 with
   |normal=>exact absurd hx (hr x2)
   |exit id=>exact h
   |ret=>exact h
 |cond c a b iha ihb=>
  intro s r h;simp only[zR]at h⊢;split at h
  ·exact iha h
  ·exact ihb h
  cases h
 |block id b ih=>
  intro s r h;simp only[zR]at h⊢
  cases hx:zR P call N rd b s with
  |none=>rw[hx]at h;cases h
  |some x=>
   rw[ih hx];rw[hx]at h;exact h
 |loop b ih=>
  intro s r h;simp only[zR]at h⊢
  have: ∀(n:Nat) {s:St} {r:XA×St},qfW n (zR P call N rd b) s=some r->qfW n (zR P call' N rd b) s=some r:=by
   intro n
   induction n with
   |zero=>intro s r h;cases h
   |succ n ihn=>
    intro s r h;simp only[qfW]at h⊢
    cases hx:zR P call N rd b s with
    |none=>rw[hx]at h;cases h
    |some x=>
     rw[ih hx];rw[hx]at h;obtain⟨x1,x2⟩:=x
     cases x1 with
     |normal=>exact ihn h
     |exit id=>exact h
     |ret=>exact h
  exact this N h
 |scope b ih=>intro s r h;exact ih h
 |rangeFunc g ps asg body=>
  intro s r h;simp only[zR]at h⊢;split at h
  ·rename_i hok hg;split at h
   ·cases h
   rename_i hent;rw[if_neg hent];split at h
   ·rename_i v A2 hcall;rw[hc _ _ _ _ hcall];exact h
   cases h
  cases h
 |_=>intro s r h;first|exact h|(simp[zR]at h⊢;done)|(simp only[zR]at h⊢;exact h)
theorem qhi (hc:Le call call'): ∀(c:Code) {s:St} {r:XA×St},qdO P call N rd c s=some r->zR P call' N rd c s=some r:=by
 intro c
 induction c with
 |skip=>intro s r h;exact h
 |region id ops draw=>
  intro s r h;obtain⟨x,hx,h⟩:=jo (show ob (qgu P call ops draw s) (fun r=>some (XA.normal,r))=some r from h);simp only[zR,qmA hc hx,ZM];exact h
 |seq a b iha ihb=>
  intro s r h;obtain⟨x,hx,h⟩:=jo (show ob (qdO P call N rd a s) (fun r=>XA.rec (motive:=fun _=>Option (XA×St)) (qdO P call N rd b r.2) (fun id=>some (.exit id,r.2)) (some (.ret,r.2)) r.1)=some r from h);obtain⟨x1,x2⟩:=x;simp only[zR,iha hx]
  cases x1 with
  |normal=>exact ihb h
  |exit id=>exact h
  |ret=>exact h
 |cond c a b iha ihb=>
  intro s r h;obtain⟨x,hx,h⟩:=jo (show ob (qlI (vQ s.1 c)) (fun t=>vJ t (qdO P call N rd a s) (qdO P call N rd b s))=some r from h);rw[qfN]at hx;simp only[zR,qm8 hx]
  cases x with
  |true=>exact iha h
  |false=>exact ihb h
 |block id b ih=>
  intro s r h;obtain⟨x,hx,h⟩:=jo (show ob (qdO P call N rd b s) (fun r=>XA.rec (motive:=fun _=>Option (XA×St)) (some (.normal,r.2)) (fun k=>vJ (Nat.beq k id) (some (.normal,r.2)) (some (.exit k,r.2))) (some (.ret,r.2)) r.1)=some r from h);obtain⟨x1,x2⟩:=x;simp only[zR,ih hx]
  cases x1 with
  |normal=>exact h
  |exit k=>
   have h:vJ (Nat.beq k id) (some (XA.normal,x2)) (some (.exit k,x2))=some r:=h;rw[jB]at h;simp only;by_cases e:k=id
   ·rw[if_pos e];rw[if_pos (qgH e)]at h;exact h
   rw[if_neg e];rw[if_neg (by rw[qfw e];simp)]at h;exact h
  |ret=>exact h
 |loop b ih=>
  intro s r h;exact qq9 (fun s r h=>ih h) N h
 |scope b ih=>intro s r h;exact ih h
 |rangeFunc g ps asg body=>intro s r h;exact qqX hc (.rangeFunc g ps asg body) h
 |exit id=>intro s r h;exact h
 |label l=>intro s r h;exact h
 |ret=>intro s r h;exact h
 |_=>intro s r h;cases h
theorem qnp (hc:Le call call'):Le (qlb P call N) (qnZ P call' N):=by
 intro c args A r h
 cases c with
 |fn f=>
  have h:qnS P call N f args A=some r:=h;show qmy P call' N f args A=some r;unfold qnS at h;unfold qmy;split at h
  ·rename_i fn hf;rw[hf];simp only;split at h
   ·cases h
   rename_i hn;rw[if_neg hn];split at h
   ·rename_i c hb;rw[hb];simp only
    cases hx:qdO P call N none c (frOf _ args,A)with
    |none=>rw[hx]at h;cases h
    |some x=>
     rw[qhi hc c hx];rw[hx]at h;exact h
   cases h
  cases h
 |mt t m=>cases h
 |rd b=>
  have h:qnC P call N b args A=some r:=h;show qlP P call' N b args A=some r;unfold qnC at h;unfold qlP;split at h
  ·rename_i hb;rw[hb];simp only;split at h
   ·rename_i hl;rw[if_pos hl];split at h
    ·rename_i hx;rw[qhi hc _ hx];simp only;split at h
     ·rename_i hb2;rw[hb2];simp only;rename_i p1 f1 ps1 as1 bd1;unfold qnD at h;split at h
      ·rename_i x fr2 A2 hy;rw[qhi hc _ hy];exact h
      cases h
     cases h
    cases h
   cases h
  cases h
theorem qnP (hm:P.follows .mixedOrders=true) (hc:zI P call):zI P (qlb P call N):=
 fun c args A v A' h=>qpW hm hc c args A v A' (qnp (fun _ _ _ _ h=>h) c args A _ h)
theorem qnM (hm:P.follows .mixedOrders=true) (hc:zI P call) {post:jh} (hp:zI P post):zI P (qiw P call N post):=by
 intro c args A v A' h;unfold qiw at h
 cases hx:post c args A with
 |some x=>
  rw[hx]at h;have h:some x=some (v,A'):=h;injection h with h;subst h;exact hp _ _ _ _ _ hx
 |none=>
  rw[hx]at h;exact qnP hm hc _ _ _ _ _ h
theorem qrh {mt:TypeId->String->Option FuncId} (hmt: ∀t m f,mt t m=some f->Enters P f/\MtOK P t m f) {c:Cl} {args:List AV} {A:Heap} {v:AV} {A':Heap} (h:qc P (qkz mt c) args A v A'):qc P c args A v A':=by
 cases c with
 |fn f=>exact h
 |rd b=>exact h
 |mt t m=>
  have h:qc P (Option.rec (motive:=fun _=>Cl) (.mt t m) (fun f=> .fn f) (mt t m)) args A v A':=h
  cases hf:mt t m with
  |none=>rw[hf]at h;exact h
  |some f=>
   rw[hf]at h;obtain⟨h1,h2⟩:=hmt t m f hf;exact⟨f,h2,fun F nu w vs i hargs=>qc.calls (f:=f) h h1 i hargs⟩
theorem qrs (hm:P.follows .mixedOrders=true) {mt:TypeId->String->Option FuncId} (hmt: ∀t m f,mt t m=some f->Enters P f/\MtOK P t m f) {pre post:jh} {pl:FuncId->Bool} (hp:zI P pre) (hq:zI P post): ∀d,zI P (qru P N mt pre post pl d):=by
 intro d
 induction d with
 |zero=>exact hp
 |succ d ih=>
  intro c args A v A' h;refine qrh hmt ?_;have h:Option.rec (motive:=fun _=>Option (AV×Heap)) (qlR (qiw P (qru P N mt pre post pl d) N post) pl (qkz mt c) args A) some (pre (qkz mt c) args A)=some (v,A'):=h
  cases hx:pre (qkz mt c) args A with
  |some x=>
   rw[hx]at h;have h:some x=some (v,A'):=h;injection h with h;subst h;exact hp _ _ _ _ _ hx
  |none=>
   rw[hx]at h;exact qrl (qnM hm ih hq) pl _ _ _ _ _ h
def memo (l:List (FuncId×List AV×AV)):jh:=fun c args A=>
 Cl.rec (motive:=fun _=>Option (AV×Heap)) (fun f=>List.rec (motive:=fun _=>Option (AV×Heap))
  (List.rec (motive:=fun _=>Option (AV×Heap)) none (fun e _ ih=>vJ (Nat.beq f e.1&&qb2 (qb5 30) args e.2.1) (some (e.2.2,[])) ih) l) (fun _ _ _=>none) A) (fun _=>none) (fun _ _=>none) c
theorem qtY: ∀{l:List (FuncId×List AV×AV)},(∀e∈l,qc P (.fn e.1) e.2.1 [] e.2.2 [])->zI P (memo l):=by
 intro l
 induction l with
 |nil=>
  intro _ c args A v A' h
  cases c with
  |rd b=>cases h
  |mt t m=>cases h
  |fn f=>
   cases A with
   |nil=>cases h
   |cons x A=>cases h
 |cons e l ih=>
  intro hl c args A v A' h
  cases c with
  |rd b=>cases h
  |mt t m=>cases h
  |fn f=>
   cases A with
   |cons x A=>cases h
   |nil=>
    have h:vJ (Nat.beq f e.1&&qb2 (qb5 30) args e.2.1) (some (e.2.2,[])) (memo l (.fn f) args [])=some (v,A'):=h;rw[jB]at h;split at h
    ·rename_i hb;simp only[Bool.and_eq_true]at hb;have e1:=Nat.eq_of_beq_eq_true hb.1;have e2:=qgS (qiU 30) _ _ hb.2;simp only[ZI,ZP]at h;obtain⟨rfl,rfl⟩:=h;subst e1 e2;exact hl e (by simp)
    exact ih (fun e he=>hl e (by simp[he])) _ _ _ _ _ h
end
end
section
variable [Glob]
open Go.RowKit
class Base where
 nu:Nat->Option Nat
 A:Heap
 fresh: ∀b,A.length<=b->nu b=none
 rd:Option Nat
 rr:Option Nat
 hrd:qot rd rr nu
@[instance_reducible] def Base.zero:Base:=⟨fun _=>none,[],fun _ _=>rfl,none,none,trivial⟩
instance (priority:=low) instBaseZero:Base:=Base.zero
def Goes [Base] (P:Program) (c:Code) (s:St) (Q:XA->St->Prop):Prop:=
 ∀(F0:Nat->Prop) (w0:World) (n:Nat) (F:Nat->Prop) (nu:Nat->Option Nat) (a:Act) (w:World),
  Stp F0 Base.nu Base.A w0 F nu s.2 w->RF F nu w s.1 a.tmps->Dfr w0.heap.size F nu s.2 w a.defers->
  ∀K:Exit->Act->World->Prop,(∀x s' F' nu' a' w',Q x s'->Stp F0 Base.nu Base.A w0 F' nu' s'.2 w'->RF F' nu' w' s'.1 a'.tmps->Dfr w0.heap.size F' nu' s'.2 w' a'.defers->K (qjF x) a' w')->
  c.wpIn (fz Base.rr) n P K a w
section
variable [Base] {P:Program} {call:jh} {N:Nat} {c c1 c2:Code} {s:St} {Q:XA->St->Prop}
theorem Goes.eval (hm:P.follows .mixedOrders=true) (hc:zI P call) {x:XA} {s':St} (h:zR P call N Base.rd c s=some (x,s')) (hq:Q x s'):Goes P c s Q:=by
 intro F0 w0 n F nu a w st hf hd K hK;obtain⟨fr,A⟩:=s;obtain⟨fr',A'⟩:=s';exact qe5 (rd:=Base.rd) (rr:=Base.rr) (base:=w0.heap.size) hc hm c st.inv hf (Base.hrd.step st) hd st.size h (fun F' nu' w' a' hd' st' hf'=>hK x _ F' nu' a' w' hq (st.trans st') hf' hd')
theorem Goes.imp {Q':XA->St->Prop} (h:Goes P c s Q) (hq: ∀x s',Q x s'->Q' x s'):Goes P c s Q':=
 fun F0 w0 n F nu a w st hf hd K hK=>h F0 w0 n F nu a w st hf hd K (fun x s' F' nu' a' w' q=>hK x s' F' nu' a' w' (hq x s' q))
theorem Goes.skip (h:Q .normal s):Goes P .skip s Q:=fun _ _ _ F nu a w st hf hd _ hK=>wpIn_skip (hK .normal s F nu a w h st hf hd)
theorem Goes.label {l:Nat} (h:Q .normal s):Goes P (.label l) s Q:=fun _ _ _ F nu a w st hf hd _ hK=>wpIn_label (hK .normal s F nu a w h st hf hd)
theorem Goes.exit {id:Nat} (h:Q (.exit id) s):Goes P (.exit id) s Q:=fun _ _ _ F nu a w st hf hd _ hK=>wpIn_exit (hK (.exit id) s F nu a w h st hf hd)
theorem Goes.ret (h:Q .ret s):Goes P .ret s Q:=fun _ _ _ F nu a w st hf hd _ hK=>wpIn_ret (hK .ret s F nu a w h st hf hd)
def andThen (k:St->Prop) (Q:XA->St->Prop):XA->St->Prop
 | .normal,s=>k s
 |x,s=>Q x s
theorem Goes.seq (h:Goes P c1 s (andThen (fun s'=>Goes P c2 s' Q) Q)):Goes P (.seq c1 c2) s Q:=by
 intro F0 w0 n F nu a w st hf hd K hK;refine wpIn_seq (h F0 w0 n F nu a w st hf hd _ (fun x s' F' nu' a' w' q st' hf' hd'=>?_))
 cases x with
 |normal=>exact q F0 w0 n F' nu' a' w' st' hf' hd' K hK
 |exit id=>exact hK (.exit id) s' F' nu' a' w' q st' hf' hd'
 |ret=>exact hK .ret s' F' nu' a' w' q st' hf' hd'
theorem Goes.cond {co:Operand} {b:Bool} (hv:yh s.1 co= .bool b) (ht:b=true->Goes P c1 s Q) (hf:b=false->Goes P c2 s Q):Goes P (.cond co c1 c2) s Q:=by
 intro F0 w0 n F nu a w st hfr hd K hK;have hv2:=hfr.eval st.inv.glob co;rw[hv]at hv2
 have hb:a.eval co= .bool b:=by
  generalize a.eval co=z at hv2;cases hv2
  rfl
 cases b with
 |true=>exact wpIn_cond_true hb (ht rfl F0 w0 n F nu a w st hfr hd K hK)
 |false=>exact wpIn_cond_false hb (hf rfl F0 w0 n F nu a w st hfr hd K hK)
def qpr (id:Nat) (Q:XA->St->Prop):XA->St->Prop
 | .exit k,s=>if k=id then Q .normal s else Q (.exit k) s
 |x,s=>Q x s
theorem Goes.block {id:Nat} (h:Goes P c s (qpr id Q)):Goes P (.block id c) s Q:=by
 intro F0 w0 n F nu a w st hf hd K hK;refine wpIn_block (h F0 w0 n F nu a w st hf hd _ (fun x s' F' nu' a' w' q st' hf' hd'=>?_))
 cases x with
 |normal=>exact hK .normal s' F' nu' a' w' q st' hf' hd'
 |ret=>exact hK .ret s' F' nu' a' w' q st' hf' hd'
 |exit k=>
  simp only[qjF,Exit.inBlock];simp only[qpr]at q;split at q
  ·rename_i e;rw[if_pos e];exact hK .normal s' F' nu' a' w' q st' hf' hd'
  rename_i e;rw[if_neg e];exact hK (.exit k) s' F' nu' a' w' q st' hf' hd'
theorem Goes.scope (h:Goes P c s Q):Goes P (.scope c) s Q:=by
 intro F0 w0 n F nu a w st hf hd K hK;refine qcO (h F0 w0 n F nu a w st hf hd _ (fun x s' F' nu' a' w' q st' hf' hd'=>?_));have:=hK x s' F' nu' a' w' q st' hf' hd';cases x<;>exact this
theorem Goes.loop (I:Nat->St->Prop) (hstep: ∀m s,I m s->Goes P c s (andThen (fun s'=> ∃m',m'<m/\I m' s') Q)) {m:Nat} (h0:I m s):Goes P (.loop c) s Q:=by
 intro F0 w0 n F nu a w st hf hd K hK;have key: ∀(m:Nat) (s:St),I m s-> ∀(F:Nat->Prop) (nu:Nat->Option Nat) (a:Act) (w:World),Stp F0 Base.nu Base.A w0 F nu s.2 w->RF F nu w s.1 a.tmps->Dfr w0.heap.size F nu s.2 w a.defers->
  ∀(b:Frame) (k:List Item) (cs:List Frame),b.roundOf=(fz Base.rr).round->(fz Base.rr).fn b.fn->(fz Base.rr).room (cs.length+1+n)->
  ∃e a₂ w₂,K e a₂ w₂/\ArrivesIn (Machine.fenced P (fz Base.rr)) P (lone (b.atR a (.code c:: .inLoop c::k)) cs w) b k cs e a₂ w₂:=by
  intro m
  induction m using Nat.strongRecOn with
  |_ m ih=>
   intro s hI F nu a w st hf hd b k cs hro hb hr;refine qd8 ?_ b k cs hro hb hr;refine hstep m s hI F0 w0 n F nu a w st hf hd _ (fun x s' F' nu' a' w' q st' hf' hd'=>?_)
   cases x with
   |normal=>
    obtain⟨m',hlt,hI'⟩:=q;exact ih m' hlt s' hI' F' nu' a' w' st' hf' hd'
   |exit id=>exact hK (.exit id) s' F' nu' a' w' q st' hf' hd'
   |ret=>exact hK .ret s' F' nu' a' w' q st' hf' hd'
 intro b k cs hro hb hr;obtain⟨e,a₂,w₂,hq2,harr⟩:=key m s h0 F nu a w st hf hd b k cs hro hb hr;exact⟨e,a₂,w₂,hq2,.of_steps (.one (fenced_calm hb hr rfl) stepR_loop) harr⟩
variable {ops:Array Oper} {l:List Oper} {fr:Fr} {A:Heap} {K:Fr->Heap->Prop}
theorem Uw (n:Nat) (g:Nat->AV) (t:Nat):(Fr.fn n g).get t=if t<n then g t else .undef:=by
 simp only[Fr.get];by_cases h:t<n
 ·rw[if_pos h,show Nat.blt t n=true from Nat.ble_eq_true_of_le h];rfl
 rw[if_neg h,qcZ (by omega)];rfl
theorem qgP (g:Nat->AV) (t:Nat) (a:AV) (u:Nat):qhd g t a u=if u=t then a else g u:=by
 unfold qhd;by_cases h:u=t
 ·rw[if_pos h,qgH h];rfl
 rw[if_neg h,qfw h];rfl
def qjp:List AV->Nat->(Nat->AV)->Nat->AV
 |[],_,g=>g
 |a::as,k,g=>qjp as (k+1) (qhd g k a)
theorem qj4: ∀(as:List AV) (k:Nat) (g:Nat->AV) (j:Nat),(j<k\/k+as.length<=j->qjp as k g j=g j)/\(k<=j-> ∀a,as[j-k]? =some a->qjp as k g j=a):=by
 intro as
 induction as with
 |nil=>intro k g j;exact⟨fun _=>rfl,fun _ a h=>by simp at h⟩
 |cons a as ih=>
  intro k g j;obtain⟨h1,h2⟩:=ih (k+1) (qhd g k a) j;simp only[qjp];refine⟨fun h=>?_,fun h b hb=>?_⟩
  ·have hj:j<k\/k+(as.length+1)<=j:=by simpa using h
   rw[h1 (by omega)];simp only[qhd,qfw (show j≠k by omega),cond_false]
  rcases Nat.lt_or_ge k j with hk|hk
  ·have e:j-k=(j-(k+1))+1:=by omega
   rw[e]at hb;exact h2 (by omega) b (by simpa using hb)
  have e:j=k:=by omega
  subst e;rw[Nat.sub_self]at hb;simp only[List.getElem?_cons_zero,ZI]at hb;subst hb;rw[h1 (.inl (by omega))];simp only[qhd,qgH rfl,cond_true]
def frFn (n:Nat) (args:List AV):Fr:= .fn n (qjp args 0 fun _=> .undef)
theorem RF.frFn {F:Nat->Prop} {nu:Nat->Option Nat} {w:World} {args:List AV} {vs:Array Value} {n m:Nat} (hm:args.length+(n-args.length)=m) (h:RL F nu w args vs):RF F nu w (frFn m args) (vs++Array.replicate (n-vs.size) undef):=by
 have hs:=h.1;refine⟨by simp[Go.Av.frFn,Fr.n,hs,hm],fun t v hv=>?_,fun t ht=>?_⟩
 ·have hlt:t<m:=by
   have:=(YB.1 hv).1;simp[hs]at this;omega
  have hb:Nat.blt t m=true:=Nat.ble_eq_true_of_le hlt;show R F nu w (cond (Nat.blt t m) (qjp args 0 (fun _=> .undef) t) .undef) v;rw[hb,cond_true];rcases Nat.lt_or_ge t args.length with h1|h1
  ·rw[YC (by omega)]at hv;rw[(qj4 args 0 _ t).2 (Nat.zero_le _) args[t] (by simp[h1])];exact h.2 t _ v (Ya h1) hv
  rw[(qj4 args 0 _ t).1 (by omega)];exact .undef v
 simp only[Go.Av.frFn,Fr.n]at ht;show cond (Nat.blt t m) (qjp args 0 (fun _=> .undef) t) AV.undef=AV.undef;rw[qcZ ht];rfl
end
section
variable {P:Program} {c:Code}
def returns (P:Program) (rs:List ResultVar) (v:AV):XA->St->Prop
 | .exit _,_=>False
 |_,s=> ∃xs,jU P s.1 s.2 rs=some xs/\frz s.2 (List.range s.2.length) 12 (qgz xs)=some v
theorem Stp.hand {F F2:Nat->Prop} {nu2:Nat->Option Nat} {w w':World} {Al:Heap} (st:Stp F (fun _=>none) [] w F2 nu2 Al w'):Stp F (fun _=>none) [] w (FS F2 nu2 Al (List.range Al.length)) (fun _=>none) [] w':=by
 have noOwn: ∀rb,¬qaZ (fun _=>none) [] w rb:=by
  rintro rb ⟨b,x,r,hb,_⟩;cases hb
 have hF3: ∀rb,rb<w.heap.size->FS F2 nu2 Al (List.range Al.length) rb->F rb:=by
  rintro rb hlt (h1|⟨b,x,_,h1,h2,h3⟩)
  ·rcases st.newF rb h1 with h2|h2|h2
   ·exact h2
   ·omega
   exact absurd h2 (noOwn rb)
  exact absurd (st.own rb hlt (.of h1 h2 h3)) (noOwn rb)
 refine⟨fun rb h=> .inl (st.f rb h),fun _ _ h=>h,st.shape,⟨by simp,by simp,fun _ _=>rfl,fun rb h=>?_,by simp,Glob.mono st.inv.glob (fun _ h=> .inl h) fun _ _=>rfl⟩,fun rb hlt _=>st.keep rb hlt (noOwn rb),?_,st.size,st.os,st.tape,st.output,fun _ _=>rfl,Nat.le_refl _,fun rb h=>?_⟩
 ·rcases h with h|⟨b,x,_,h,_⟩
  ·exact st.inv.ltF rb h
  exact st.inv.ltN b rb h
 ·rintro rb _ ⟨b,x,r,hb,_⟩;cases hb
 rcases Nat.lt_or_ge rb w.heap.size with hlt|hge
 ·exact .inl (hF3 rb hlt h)
 exact .inr (.inl hge)
end
end
section
variable [Glob]
section
variable {P:Program} {call:jh} {fr:Fr} {A:Heap} {d:Option Tmp} {ty:TypeId} {ps:String} {af:Array Edge} {g:Option (Nat×Bool)}
end
section
variable {P:Program} {call:jh} {ops:Array Oper} {l:List Oper} {fr:Fr} {A:Heap} {s:St} {Q:XA->St->Prop}
end
section
variable {P:Program} {d:Option Tmp} {ty:TypeId} {ps:String} {af:Array Edge} {g:Option (Nat×Bool)} {ρ:Operand->AV}
end
def Still (d:Nat) (a:AV):Prop:= ∀(A:Heap) (S:List Nat),frz A S d a=some a
theorem vw {A:Heap} {S:List Nat} {d:Nat}: ∀{cs:List AV},(∀c∈cs,Still d c)->cs.mapM (frz A S d)=some cs:=by
 intro cs
 induction cs with
 |nil=>intro _;rfl
 |cons c cs ih=>
  intro h;rw[List.mapM_cons,h c (by simp) A S,ih fun x hx=>h x (by simp[hx])];rfl
theorem Still.int (d:Nat) (k:IntKind) (n:Int):Still (d+1) (.int k n):=fun _ _=>rfl
theorem Still.bool (d:Nat) (b:Bool):Still (d+1) (.bool b):=fun _ _=>rfl
theorem Still.str (d:Nat) (b:List UInt8):Still (d+1) (.str b):=fun _ _=>rfl
theorem Still.nilslice (d:Nat):Still (d+1) .nilslice:=fun _ _=>rfl
theorem Still.fslice {d n:Nat} {cs:List AV} (h: ∀c∈cs,Still d c):Still (d+1) (.fslice n cs):=fun A S=>by
 simp only[frz,vw h,ZM]
theorem Still.agg {d:Nat} {cs:List AV} (h: ∀c∈cs,Still d c):Still (d+1) (.agg cs):=fun A S=>by
 simp only[frz,vw h,ZM]
theorem Still.tuple {d:Nat} {cs:List AV} (h: ∀c∈cs,Still d c):Still (d+1) (.tuple cs):=fun A S=>by
 simp only[frz,vw h,ZM]
end
end Go.Av
end
