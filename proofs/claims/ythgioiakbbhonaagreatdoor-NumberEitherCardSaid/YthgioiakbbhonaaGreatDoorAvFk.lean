/-
  The evaluator once more, told by recursors, so that the kernel has few steps to go; where it tells something, callP tells the same.
-/
import Derived.Test.YthgioiakbbhonaaGreatDoorAvFn
import Derived.IntWalk
set_option linter.unusedSectionVars false
noncomputable section
namespace Go.Av
section
variable [Glob]
def ob {α β:Type} (x:Option α) (k:α->Option β):Option β:=Option.rec (motive:=λ_=>Option β) none k x
theorem zQ {α β:Type} {x:Option α} {k:α->Option β} {r:β} (h:ob x k=some r): ∃a,x=some a/\k a=some r:=by
 cases x with
 |none=>cases h
 |some a=>exact⟨a,rfl,h⟩
def jf {α:Type} (b:Bool) (x y:α):α:=Bool.rec (motive:=λ_=>α) y x b
theorem zn {α:Type} (b:Bool) (x y:α):jf b x y=if b=true then x else y:=by cases b<;>rfl
def hget (A:Heap):Nat->Option Blk:=
 List.rec (motive:=λ_=>Nat->Option Blk) (λ_=>none) (λx _ ih b=>Nat.rec (motive:=λ_=>Option Blk) (some x) (λn _=>ih n) b) A
theorem qhX: ∀(A:Heap) (b:Nat),hget A b=A[b]? :=by
 intro A
 induction A with
 |nil=>intro b;rfl
 |cons x A ih=>
  intro b
  cases b with
  |zero=>rfl
  |succ b=>exact(ih b).trans (by simp)
def hset (A:Heap):Nat->Blk->Heap:=
 List.rec (motive:=λ_=>Nat->Blk->Heap) (λ_ _=>[]) (λy ys ih b x=>Nat.rec (motive:=λ_=>Heap) (x::ys) (λn _=>y::ih n x) b) A
theorem qhV: ∀(A:Heap) (b:Nat) (x:Blk),hset A b x=A.set b x:=by
 intro A
 induction A with
 |nil=>intro b x;rfl
 |cons y A ih=>
  intro b x
  cases b with
  |zero=>rfl
  |succ b=>exact ap (y:: ·) (ih b x)
def happ (A:Heap) (x:Blk):Heap:=List.rec (motive:=λ_=>Heap) [x] (λy _ ih=>y::ih) A
theorem qhL: ∀(A:Heap) (x:Blk),happ A x=A++[x]:=by
 intro A
 induction A with
 |nil=>intro x;rfl
 |cons y A ih=>intro x;exact ap (y:: ·) (ih x)
def hlen (A:Heap):Nat:=List.rec (motive:=λ_=>Nat) 0 (λ_ _ ih=>Nat.succ ih) A
theorem yI: ∀(A:Heap),hlen A=A.length:=by
 intro A
 induction A with
 |nil=>rfl
 |cons y A ih=>exact ap Nat.succ ih
def qpy (v:Value):AV:=
 match v with
 | .int k n=> .int k n
 | .bool b=> .bool b
 |v=>qb4 3 v
theorem qnI (v:Value):qpy v=qb4 3 v:=by cases v<;>rfl
def vK (fr:Fr) (x:Operand):AV:=
 Operand.rec (motive:=λ_=>AV) (λt=>fr.get t) (λv=>qpy v) (λg=>Glob.gl g) (λf=> .func (.func f) [] []) x
theorem qft (fr:Fr):vK fr=yJ fr:=by
 funext x
 cases x with
 |const v=>exact qnI v
 |_=>rfl
def qkT {β:Type} (a:AV) (k:IntKind->Int->Option β):Option β:=
 AV.rec (motive_1:=λ_=>Option β) (motive_2:=λ_=>Unit) none (λ_=>none) k (λ_=>none) none (λ_ _=>none) (λ_ _ _=>none) none (λ_ _ _ _ _=>none) (λ_ _ _=>none) (λ_ _ _=>none) (λ_ _ _ _=>none) (λ_ _ _=>none) none (λ_=>none)
  (λ_ _ _ _=>none) (λ_ _ _ _ _=>none) (λ_=>none) none (λ_ _ _=>none) none (λ_ _=>none) (λ_ _=>none) none () (λ_ _ _ _=>()) a
theorem qiv {β:Type} {a:AV} {k:IntKind->Int->Option β} {r:β} (h:qkT a k=some r): ∃q n,a= .int q n/\k q n=some r:=by
 cases a<;>first|exact⟨_,_,rfl,h⟩|cases h
def qk8 {β:Type} (k:IntKind) (x:Option β):Option β:=IntKind.rec (motive:=λ_=>Option β) none none none x none none none none k
def qp0 (n:Int):Int:=
 Int.rec (motive:=λ_=>Int) (λm=>jf (Nat.blt m 9223372036854775808) (.ofNat m) (IntKind.wrap .i64 (.ofNat m))) (λm=>jf (Nat.blt m 9223372036854775808) (.negSucc m) (IntKind.wrap .i64 (.negSucc m))) n
theorem qpA (n:Int):qp0 n=IntKind.wrap .i64 n:=by
 cases n with
 |ofNat m=>
  show jf _ _ _=_;rw[zn];split
  ·rename_i h;have h:m<9223372036854775808:=Ys h;exact(Go.IntWalk.i64_in _ ⟨by simp only[cH];omega,by simp only[cH];omega⟩).symm
  rfl
 |negSucc m=>
  show jf _ _ _=_;rw[zn];split
  ·rename_i h;have h:m<9223372036854775808:=Ys h;have:=dy m;exact(Go.IntWalk.i64_in _ ⟨by omega,by omega⟩).symm
  rfl
def addK (a b:Int):Int:=
 Int.rec (motive:=λ_=>Int) (λm=>Int.rec (motive:=λ_=>Int) (λn=> .ofNat (Nat.add m n)) (λn=>Int.add (.ofNat m) (.negSucc n)) b) (λm=>Int.add (.negSucc m) b) a
theorem qrd (a b:Int):addK a b=a+b:=by
 cases a<;>cases b<;>rfl
def mulK (a b:Int):Int:=
 Int.rec (motive:=λ_=>Int) (λm=>Int.rec (motive:=λ_=>Int) (λn=> .ofNat (Nat.mul m n)) (λn=>Int.mul (.ofNat m) (.negSucc n)) b) (λm=>Int.mul (.negSucc m) b) a
theorem qrt (a b:Int):mulK a b=a*b:=by
 cases a<;>cases b<;>rfl
def ltK (a b:Int):Bool:=
 Int.rec (motive:=λ_=>Bool) (λm=>Int.rec (motive:=λ_=>Bool) (λn=>Nat.blt m n) (λ_=>false) b) (λm=>Int.rec (motive:=λ_=>Bool) (λ_=>true) (λn=>Nat.blt n m) b) a
theorem qrZ (a b:Int):ltK a b=decide (a<b):=by
 have key: ∀m n:Nat,Nat.blt m n=decide (m<n):=by
  intro m n;by_cases h:m<n
  ·rw[ai h];exact bH h
  rw[ah h];exact qci (by omega)
 cases a with
 |ofNat m=>
  cases b with
  |ofNat n=>exact(key m n).trans (decide_eq_decide.2 (by simp))
  |negSucc n=>
   refine(ah ?_).symm;have:=dy n;simp only[cH];omega
 |negSucc m=>
  cases b with
  |ofNat n=>
   refine(ai ?_).symm;have:=dy m;simp only[cH];omega
  |negSucc n=>
   refine(key n m).trans (decide_eq_decide.2 ?_);have:=dy n;have:=dy m;omega
def eqK (a b:Int):Bool:=
 Int.rec (motive:=λ_=>Bool) (λm=>Int.rec (motive:=λ_=>Bool) (λn=>Nat.beq m n) (λ_=>false) b) (λm=>Int.rec (motive:=λ_=>Bool) (λ_=>false) (λn=>Nat.beq m n) b) a
theorem qsA (a b:Int):eqK a b=(a==b):=by
 have key: ∀m n:Nat,Nat.beq m n=decide (m=n):=by
  intro m n;by_cases h:m=n
  ·rw[ai h];exact qfu h
  rw[ah h];exact qdz h
 have e:(a==b)=decide (a=b):=by rfl
 rw[e]
 cases a with
 |ofNat m=>
  cases b with
  |ofNat n=>exact(key m n).trans (decide_eq_decide.2 (by simp only[cH];omega))
  |negSucc n=>exact(ah (by simp)).symm
 |negSucc m=>
  cases b with
  |ofNat n=>exact(ah (by simp)).symm
  |negSucc n=>exact(key m n).trans (decide_eq_decide.2 (by simp))
def binI (op:BinOp) (a b:Int):Option AV:=
 match op with
 | .add=>some (.int .i64 (qp0 (addK a b)))
 | .mul=>some (.int .i64 (qp0 (mulK a b)))
 | .eql=>some (.bool (eqK a b))
 | .neq=>some (.bool (jf (eqK a b) false true))
 | .lss=>some (.bool (ltK a b))
 | .leq=>some (.bool (jf (ltK b a) false true))
 | .gtr=>some (.bool (ltK b a))
 | .geq=>some (.bool (jf (ltK a b) false true))
 |_=>none
theorem qrx {op:BinOp} {a b:Int} {v:AV} (h:binI op a b=some v) (P:Program) (t:TypeId) (ox oy:Operand):zt P op t ox oy (.int .i64 a) (.int .i64 b)=some v:=by
 have nb: ∀x:Bool,jf x false true=!x:=by intro x;cases x<;>rfl
 cases op<;>simp only[binI,qpA,qrd,qrt,qrZ,qsA,nb,reduceCtorEq]at h<;>rw[<-h]<;>simp only[zt,qcI,qha,ZF,aU,aJ,ZI,AV.bool.injEq]
 ·rfl
 ·rw[<-decide_not];exact decide_eq_decide.2 (by omega)
 rw[<-decide_not];exact decide_eq_decide.2 (by omega)
def binK (P:Program) (op:BinOp) (t:TypeId) (ox oy:Operand) (x y:AV):Option AV:=
 Option.rec (motive:=λ_=>Option AV) (zt P op t ox oy x y) some
  (qkT x λk a=>qk8 k (qkT y λq b=>qk8 q (binI op a b)))
theorem qhZ {β:Type} {k:IntKind} {x:Option β} {r:β} (h:qk8 k x=some r):k= .i64/\x=some r:=by
 cases k<;>first|exact⟨rfl,h⟩|cases h
theorem qqQ (P:Program) (op:BinOp) (t:TypeId) (ox oy:Operand) (x y:AV):binK P op t ox oy x y=zt P op t ox oy x y:=by
 unfold binK
 cases h:qkT x λk a=>qk8 k (qkT y λq b=>qk8 q (binI op a b))with
 |none=>rfl
 |some v=>
  obtain⟨k,a,e1,h1⟩:=qiv h;obtain⟨e2,h2⟩:=qhZ h1;obtain⟨q,b,e3,h3⟩:=qiv h2;obtain⟨e4,h4⟩:=qhZ h3;subst e1 e2 e3 e4;exact(qrx h4 P t ox oy).symm
def optK (x:Option AV):Pg:=Option.rec (motive:=λ_=>Pg) .fail .done x
theorem qrf (x:Option AV):optK x= .opt x:=by cases x<;>rfl
def qoq (P:Program) (o:Oper) (ρ:Operand->AV):Pg:=
 match o.op with
 | .move x=> .done (ρ x)
 | .assign x=> .done (ρ x)
 | .binOp op t x y _=>optK (binK P op t x y (ρ x) (ρ y))
 |_=>aop P o ρ
theorem qns (P:Program) (o:Oper) (ρ:Operand->AV):qoq P o ρ=aop P o ρ:=by
 unfold qoq;split
 ·rename_i h;simp only[aop,h]
 ·rename_i h;simp only[aop,h]
 ·rename_i h;simp only[aop,h,qrf,qqQ]
 rfl
def qb3 (fr:Fr) (dst:Option Tmp) (v:AV):Fr:=Option.rec (motive:=λ_=>Fr) fr (λd=>fr.set d v) dst
theorem qaW (fr:Fr) (dst:Option Tmp) (v:AV):qb3 fr dst v=qdF fr dst v:=by cases dst<;>rfl
def qdV (ops:Array Oper) (o:Oper) (fr:Fr):Option Bool:=Option.rec (motive:=λ_=>Option Bool) (some true) (λ_=>qaK ops o fr) o.guard
theorem qe5 (ops:Array Oper) (o:Oper) (fr:Fr):qdV ops o fr=qaK ops o fr:=by
 unfold qdV
 cases h:o.guard with
 |none=>simp[qaK,h]
 |some g=>rfl
def qls (p:Pg):Heap->zG->Res:=
 Pg.rec (motive:=λ_=>Heap->zG->Res) (λ_ _=>none) (λv A f=>some (v,A,f))
  (λb _ ih A f=>ob (hget A b) λx=>ih x A ((b,false)::f))
  (λb x _ ih A f=>jf (Nat.blt b (hlen A)) (ih (hset A b x) ((b,true)::f)) none)
  (λx _ ih A f=>ih (hlen A) (happ A x) f) p
theorem qqA: ∀(p:Pg) (A:Heap) (f:zG),qls p A f=exec p A f:=by
 intro p
 induction p with
 |fail=>intro A f;rfl
 |done v=>intro A f;rfl
 |get b k ih=>
  intro A f;show ob (hget A b) _=_;rw[qhX];simp only[exec]
  cases A[b]? with
  |none=>rfl
  |some x=>exact ih x A _
 |set b x k ih=>
  intro A f;show jf (Nat.blt b (hlen A)) (qls k (hset A b x) _) none=_;rw[yI,qhV,zn,ih];simp only[exec];by_cases h:b<A.length
  ·rw[ae h,ae (show Nat.blt b A.length=true from bH h)]
  rw[aa h,aa (by rw[qci (by omega)];simp)]
 |new x k ih=>
  intro A f;show qls (k (hlen A)) (happ A x) f=_;rw[yI,qhL,ih];rfl
def qac (S:List Nat) (lo:Nat) (p:Pg):Heap->zG->Res:=
 Pg.rec (motive:=λ_=>Heap->zG->Res) (λ_ _=>none) (λv A f=>some (v,A,f))
  (λb _ ih A f=>jf (S.contains b||Nat.ble lo b) (ob (hget A b) λx=>ih x A ((b,false)::f)) none)
  (λb x _ ih A f=>jf (S.contains b||Nat.ble lo b) (jf (Nat.blt b (hlen A)) (ih (hset A b x) ((b,true)::f)) none) none)
  (λx _ ih A f=>ih (hlen A) (happ A x) f) p
theorem qm9 {S:List Nat} {lo b:Nat} (h:(S.contains b||Nat.ble lo b)=true):b∈S\/lo<=b:=by
 simp only[dl]at h;rcases h with h|h
 ·exact .inl (by simpa using h)
 exact .inr (Ys h)
theorem qf9 (S:List Nat) (lo:Nat): ∀(p:Pg) (A M:Heap) (f:zG) (v:AV) (A':Heap) (f':zG),M.length=A.length->lo<=A.length->(∀b,(b∈S\/lo<=b)->M[b]? =A[b]?)->qac S lo p A f=some (v,A',f')->
 ∃M',exec p M f=some (v,M',f')/\M'.length=A'.length/\(∀b,(b∈S\/lo<=b)->M'[b]? =A'[b]?)/\(∀b,b<lo->b∉S->A'[b]? =A[b]?)/\A.length<=A'.length:=by
 intro p
 induction p with
 |fail=>intro A M f v A' f' _ _ _ h;cases h
 |done u=>
  intro A M f v A' f' hl hlo hM h;have h:some (u,A,f)=some (v,A',f'):=h;simp only[ZI,ZP]at h;obtain⟨rfl,rfl,rfl⟩:=h;exact⟨M,rfl,hl,hM,λ_ _ _=>rfl,ag _⟩
 |get b k ih=>
  intro A M f v A' f' hl hlo hM h;have h:jf (S.contains b||Nat.ble lo b) (ob (hget A b) λx=>qac S lo (k x) A ((b,false)::f)) none=some (v,A',f'):=h;rw[zn]at h;split at h
  ·rename_i hs;obtain⟨x,hx,h⟩:=zQ h;rw[qhX]at hx;have hMb:=hM b (qm9 hs);obtain⟨M',h1,h2⟩:=ih x A M _ v A' f' hl hlo hM h;refine⟨M',?_,h2⟩;simp only[exec,hMb,hx];exact h1
  cases h
 |set b x k ih=>
  intro A M f v A' f' hl hlo hM h;have h:jf (S.contains b||Nat.ble lo b) (jf (Nat.blt b (hlen A)) (qac S lo k (hset A b x) ((b,true)::f)) none) none=some (v,A',f'):=h;rw[zn]at h;split at h
  ·rename_i hs;rw[zn]at h;split at h
   ·rename_i hlt;rw[yI]at hlt;rw[qhV]at h;have hb:b<A.length:=Ys hlt
    obtain⟨M',h1,h2,h3,h4,h5⟩:=ih (A.set b x) (M.set b x) _ v A' f' (by simp[hl]) (by simpa using hlo) (λc hc=>by
     by_cases e:b=c
     ·subst e;rw[List.getElem?_set_self (by omega),List.getElem?_set_self hb]
     rw[Yw e,Yw e,hM c hc]) h
    refine⟨M',?_,h2,h3,λc hc hcS=>?_,by simpa using h5⟩
    ·simp only[exec,hl,hb,aJ];exact h1
    rw[h4 c hc hcS,Yw];rintro rfl;rcases qm9 hs with h|h
    ·exact hcS h
    omega
   cases h
  cases h
 |new x k ih=>
  intro A M f v A' f' hl hlo hM h;have h:qac S lo (k (hlen A)) (happ A x) f=some (v,A',f'):=h;rw[yI,qhL]at h
  obtain⟨M',h1,h2,h3,h4,h5⟩:=ih A.length (A++[x]) (M++[x]) f v A' f' (by simp[hl]) (by simp;omega) (λc hc=>by
   rcases ak c A.length with hlt|hge
   ·rw[Yf (by omega),Yf hlt,hM c hc]
   rw[Yo (by omega),Yo hge,hl]) h
  refine⟨M',?_,h2,h3,λc hc hcS=>?_,?_⟩
  ·simp only[exec,hl];exact h1
  ·rw[h4 c hc hcS,Yf (by omega)]
  simp at h5;omega
def Le (a b:zP):Prop:= ∀c args A r,a c args A=some r->b c args A=some r
section
variable (P:Program) (call:zP)
def qes (o:Op):Bool:=match o with
 | .call _=>true
 |_=>false
def qiX (o:Oper) (fr:Fr) (A:Heap):Res:=
 jf (qes o.op)
  (Option.rec (motive:=λ_=>Res) (qls (qoq P o (vK fr)) A []) (λg=>ob (call g.1 g.2 A) λr=>some (r.1,r.2,[])) (jM o (vK fr)))
  (qls (qoq P o (vK fr)) A [])
def qgZ (ops:Array Oper) (l:List Oper):Fr->Heap->Option (Fr×Heap):=
 List.rec (motive:=λ_=>Fr->Heap->Option (Fr×Heap)) (λfr A=>some (fr,A))
  (λo _ ih fr A=>ob (qdV ops o fr) λw=>jf w (ob (qiX P call o fr A) λr=>ih (qb3 fr o.dst r.1) r.2.1) (ih (qb3 fr o.dst (.tuple [])) A)) l
def qkc (o:Oper) (fr:Fr) (A:Heap):Option (AV×Heap×Rec):=
 jf (qes o.op&&(jM o (vK fr)).isSome)
  (ob (qgi P call o fr A) λr=>some (r.1,jf (r.2.2.fp.isEmpty&&Nat.beq (hlen r.2.1) (hlen A)) A r.2.1,r.2.2))
  (jf ((qat o (vK fr) A).all λb=>Nat.blt b (hlen A))
   (ob (qac (qat o (vK fr) A) (hlen A) (qoq P o (vK fr)) A []) λr=>some (r.1,r.2.1,⟨qat o (vK fr) A,r.2.2.any (·.2),hlen A,hlen r.2.1⟩)) none)
def qlZ (ops:Array Oper) (o:Oper) (fr:Fr) (A:Heap):Option ((Fr×Heap)×Rec):=
 ob (qdV ops o (maskF (yh ops o) fr)) λw=>jf w
  (ob (qkc P call o (maskF (yh ops o) fr) A) λr=>some ((qb3 fr o.dst r.1,r.2.1),r.2.2))
  (some ((qb3 fr o.dst (.tuple []),A),⟨[],false,hlen A,hlen A⟩))
def qpg (ops:Array Oper) (l:List Oper):Fr->Heap->Option ((Fr×Heap)×List Rec):=
 List.rec (motive:=λ_=>Fr->Heap->Option ((Fr×Heap)×List Rec)) (λfr A=>some ((fr,A),[]))
  (λo _ ih fr A=>ob (qlZ P call ops o fr A) λq=>ob (ih q.1.1 q.1.2) λr=>some (r.1,q.2::r.2)) l
def qjN (ops:Array Oper) (fr:Fr) (A:Heap):Option (Fr×Heap):=
 ob (qpg P call ops ops.toList fr A) λr=>jf (qgb ops r.2) (some r.1) none
def qgf (ops:Array Oper) (draw:Bool) (s:St):Option St:=
 jf draw (qjN P call ops s.1 s.2) (qgZ P call ops ops.toList s.1 s.2)
variable (N:Nat) (rd:Option Nat)
def qof (n:Nat) (f:St->Option (XA×St)):St->Option (XA×St):=
 Nat.rec (motive:=λ_=>St->Option (XA×St)) (λ_=>none)
  (λ_ ih s=>ob (f s) λr=>XA.rec (motive:=λ_=>Option (XA×St)) (ih r.2) (λid=>some (.exit id,r.2)) (some (.ret,r.2)) r.1) n
def qj0 (a:AV):Option Bool:=match a with
 | .bool b=>some b
 |_=>none
def qdE (c:Code):St->Option (XA×St):=
 Code.rec (motive:=λ_=>St->Option (XA×St))
  (λs=>some (.normal,s))
  (λ_ ops draw s=>ob (qgf P call ops draw s) λr=>some (.normal,r))
  (λ_ _ iha ihb s=>ob (iha s) λr=>XA.rec (motive:=λ_=>Option (XA×St)) (ihb r.2) (λid=>some (.exit id,r.2)) (some (.ret,r.2)) r.1)
  (λc _ _ iha ihb s=>ob (qj0 (vK s.1 c)) λb=>jf b (iha s) (ihb s))
  (λid _ ih s=>ob (ih s) λr=>XA.rec (motive:=λ_=>Option (XA×St)) (some (.normal,r.2)) (λk=>jf (Nat.beq k id) (some (.normal,r.2)) (some (.exit k,r.2))) (some (.ret,r.2)) r.1)
  (λ_ ih s=>qof N ih s)
  (λg ps asg body _ _ s=>zC P call N rd (.rangeFunc g ps asg body) s)
  (λid s=>some (.exit id,s))
  (λ_ ih s=>ih s)
  (λ_ s=>some (.normal,s))
  (λ_ _=>none)
  (λs=>some (.ret,s))
  (λ_ _=>none) c
def ql6 (b:Nat) (args:List AV) (A:Heap):Option (AV×Heap):=
 match A[b]? with
 |some (.loop _ _ fr ps asg bd)=>
  if args.length=ps.size then
   match qdE P call N (some b) asg (setAll fr ps.toList args,A)with
   |some (.normal,fr1,A1)=>match A1[b]? with
    |some (.loop .ready p1 f1 ps1 as1 bd1)=>qn3 b (qdE P call N (some b) bd (fr1,A1.set b (.loop .busy p1 f1 ps1 as1 bd1)))
    |_=>none
   |_=>none
  else none
 |_=>none
def qmv (f:FuncId) (args:List AV) (A:Heap):Option (AV×Heap):=
 match P.funcs[f]? with
 |some fn=>
  if fn.name== "runtime.NumGoroutine" then none else
  match fn.body with
  |some c=>
   match qdE P call N none c (frOf fn.ntmps args,A)with
   |some (.exit _,_)=>none
   |some (_,fr,A')=>(jJ P fr A' fn.results.toList).map λvs=>(qgP vs,A')
   |none=>none
  |none=>none
 |none=>none
def qkL (c:Cl) (args:List AV) (A:Heap):Option (AV×Heap):=
 Cl.rec (motive:=λ_=>Option (AV×Heap)) (λf=>qmv P call N f args A) (λb=>ql6 P call N b args A) (λ_ _=>none) c
end
def qhD (P:Program) (call:zP) (N:Nat) (post:zP):zP:=λc args A=>
 Option.rec (motive:=λ_=>Option (AV×Heap)) (qkL P call N c args A) some (post c args A)
def qjC (mt:TypeId->String->Option FuncId) (c:Cl):Cl:=
 Cl.rec (motive:=λ_=>Cl) (λf=> .fn f) (λb=> .rd b) (λt m=>Option.rec (motive:=λ_=>Cl) (.mt t m) (λf=> .fn f) (mt t m)) c
def qpl (P:Program) (N:Nat) (mt:TypeId->String->Option FuncId) (pre post:zP) (pl:FuncId->Bool) (d:Nat):zP:=
 Nat.rec (motive:=λ_=>zP) pre (λ_ ih c args A=>Option.rec (motive:=λ_=>Option (AV×Heap)) (qlw (qhD P ih N post) pl (qjC mt c) args A) some (pre (qjC mt c) args A)) d
section
variable {P:Program} {call call':zP} {N:Nat} {rd:Option Nat}
theorem qkQ (hc:Le call call') {o:Oper} {fr:Fr} {A:Heap} {r:AV×Heap×zG} (h:qbi P call o fr A=some r):qbi P call' o fr A=some r:=by
 unfold qbi at h⊢;split at h
 ·obtain⟨x,hx,he⟩:=Yd.1 h;rw[hc _ _ _ _ hx];exact ap some he
 exact h
theorem qnQ (hc:Le call call') {o:Oper} {fr:Fr} {A:Heap} {r:AV×Heap×zG} (h:qiX P call o fr A=some r):qbi P call' o fr A=some r:=by
 unfold qiX at h;rw[qft,zn,qqA,qns]at h;unfold qbi;split at h
 ·cases hg:jM o (yJ fr)with
  |none=>rw[hg]at h;exact h
  |some g=>
   rw[hg]at h;obtain⟨x,hx,he⟩:=zQ h;obtain⟨g,args⟩:=g;simp only[hc _ _ _ _ hx,ZM];exact he
 rename_i hn
 have:jM o (yJ fr)=none:=by
  unfold jM;cases ho:o.op<;>simp[ho,qes]at hn⊢
 rw[this];exact h
theorem qnW (hc:Le call call') {ops:Array Oper}: ∀(l:List Oper) {fr:Fr} {A:Heap} {r:Fr×Heap},qgZ P call ops l fr A=some r->qfb P call' ops l fr A=some r:=by
 intro l
 induction l with
 |nil=>intro fr A r h;exact h
 |cons o l ih=>
  intro fr A r h;obtain⟨w,hw,h⟩:=zQ (show ob (qdV ops o fr) (λw=>jf w (ob (qiX P call o fr A) λr=>qgZ P call ops l (qb3 fr o.dst r.1) r.2.1) (qgZ P call ops l (qb3 fr o.dst (.tuple [])) A))=some r from h);rw[qe5]at hw;simp only[qfb,hw]
  cases w with
  |true=>
   obtain⟨x,hx,h⟩:=zQ (show ob (qiX P call o fr A) (λr=>qgZ P call ops l (qb3 fr o.dst r.1) r.2.1)=some r from h);obtain⟨v,A',f⟩:=x;rw[qaW]at h;simp only[qnQ hc hx];exact ih h
  |false=>
   have h:qgZ P call ops l (qb3 fr o.dst (.tuple [])) A=some r:=h;rw[qaW]at h;exact ih h
theorem qlI (hc:Le call call') {o:Oper} {fr:Fr} {A:Heap} {r:AV×Heap×Rec} (h:qgi P call o fr A=some r):qgi P call' o fr A=some r:=by
 unfold qgi at h⊢;simp only at h⊢;split at h
 ·rename_i hall;rw[ae hall];split at h
  ·rename_i v B f hs;rw[qkQ hc hs];exact h
  cases h
 cases h
theorem qgS {A B:Heap} (h:B.length=A.length):merge [] A B=A:=by
 refine List.ext_getElem? λb=>?_
 rw[qcg];rcases ak b A.length with hb|hb
 ·rw[Ya (show b<B.length by omega),Ya hb];simp[hb,List.getD_eq_getElem?_getD]
 rw[Yg (by omega),Yg hb];rfl
theorem qn2 (hc:Le call call') {o:Oper} {fr:Fr} {A:Heap} {r:AV×Heap×Rec} (h:qkc P call o fr A=some r):qgi P call' o fr A=some r:=by
 unfold qkc at h;rw[qft,qns]at h;rw[zn]at h;split at h
 ·obtain⟨x,hx,h⟩:=zQ h;have hx':=qlI hc hx;rw[hx'];rw[<-h];obtain⟨v,B,q⟩:=x;simp only[ZI,ZP,true_and,eS];rw[zn];split
  ·rename_i hb;simp only[aI,yI]at hb;obtain⟨h1,h2⟩:=hb;have hlen:=da h2;unfold qgi at hx;simp only at hx;split at hx
   ·split at hx
    ·split at hx
     ·simp only[ZI,ZP]at hx;obtain⟨_,h3,h4⟩:=hx;rw[<-h4]at h1;simp only[dG]at h1;rw[h1]at h3;rw[<-h3]at hlen⊢;rw[qap]at hlen;exact qgS hlen
     cases hx
    cases hx
   cases hx
  rfl
 rename_i hn;rw[zn]at h;split at h
 ·rename_i hall;obtain⟨x,hx,h⟩:=zQ h;obtain⟨v,A',f⟩:=x
  have hnc:jM o (yJ fr)=none:=by
   cases hg:jM o (yJ fr)with
   |none=>rfl
   |some g=>
    exfalso;apply hn;rw[hg];unfold jM at hg;cases ho:o.op<;>simp[ho,qes]at hg⊢
  simp only[yI]at hall hx h;generalize hS:qat o (yJ fr) A=S at hall hx h
  have hall2: ∀b∈S,b<A.length:=λb hb=>Ys (Yp.1 hall b hb)
  obtain⟨M',h1,h2,h3,h4,h5⟩:=qf9 S A.length (aop P o (yJ fr)) A (mask S A) [] v A' f (xE _ _) (ag _) (λb hb=>by
   rw[qc9];rcases hb with hb|hb
   ·rw[Ya (hall2 b hb)];simp[hb]
   rw[Yg hb];rfl) hx
  have hm:merge S A M'=A':=by
   refine List.ext_getElem? λb=>?_
   rw[qcg];rcases ak b A'.length with hb|hb
   ·rw[Ya (show b<M'.length by omega)];simp only[ZM];by_cases hc:b<A.length/\b∉S
    ·have e:(decide (b<A.length)&&!S.contains b)=true:=by simp[hc.1,hc.2]
     rw[ae e,h4 b hc.1 hc.2,Ya hc.1];simp[List.getD_eq_getElem?_getD,List.getElem?_eq_getElem hc.1]
    have e: ¬(decide (b<A.length)&&!S.contains b)=true:=by
     simp only[aI,aH,cV,List.contains_eq_mem];intro h;exact hc ⟨h.1,by simpa using h.2⟩
    rw[aa e,<-h3 b (by
     rcases ak b A.length with hlt|hge
     ·left
      exact Classical.byContradiction λhs=>hc ⟨hlt,hs⟩
     exact .inr hge),Ya (show b<M'.length by omega)]
   rw[Yg (show M'.length<=b by omega),Yg hb];rfl
  have hall3:(S.all λb=>decide (b<A.length))=true:=Yp.2 λb hb=>ai (hall2 b hb)
  unfold qgi;simp only[hS,hall3,aJ];unfold qbi;simp only[hnc,h1,aW,eX,Bool.or_false]
  have h0:A.length<=M'.length:=by omega
  rw[ae h0,hm,<-h,h2]
 cases h
theorem qnF (hc:Le call call') {ops:Array Oper} {j:Nat} {o:Oper} (ho:ops[j]? =some o) {fr:Fr} {A:Heap} {r:(Fr×Heap)×Rec} (h:qlZ P call ops o fr A=some r):qfO P call' ops j (fr,A)=some r:=by
 obtain⟨w,hw,h⟩:=zQ h;rw[qe5]at hw;simp only[qfO,ho,hw]
 cases w with
 |true=>
  obtain⟨x,hx,h⟩:=zQ (show ob (qkc P call o (maskF (yh ops o) fr) A) (λr=>some ((qb3 fr o.dst r.1,r.2.1),r.2.2))=some r from h);obtain⟨v,B,q⟩:=x;rw[qaW]at h;simp only[qn2 hc hx];exact h
 |false=>
  have h:some ((qb3 fr o.dst (.tuple []),A),(⟨[],false,hlen A,hlen A⟩:Rec))=some r:=h;rw[qaW,yI]at h;exact h
theorem qpq (hc:Le call call') {ops:Array Oper}: ∀(l pre:List Oper),ops.toList=pre++l-> ∀{fr:Fr} {A:Heap} {r:(Fr×Heap)×List Rec},qpg P call ops l fr A=some r->qij P call' ops l.length pre.length (fr,A)=some r:=by
 intro l
 induction l with
 |nil=>intro pre _ fr A r h;exact h
 |cons o l ih=>
  intro pre hp fr A r h;obtain⟨q,hq,h⟩:=zQ (show ob (qlZ P call ops o fr A) (λq=>ob (qpg P call ops l q.1.1 q.1.2) λr=>some (r.1,q.2::r.2))=some r from h);obtain⟨x,hx,h⟩:=zQ h
  have ho:ops[pre.length]? =some o:=by
   rw[<-YT,hp];simp
  obtain⟨⟨fr1,A1⟩,rc⟩:=q;have h2:=ih (pre++[o]) (by simp[hp]) hx;simp only[Yq,Yr,be,az]at h2;simp only[Yr,qij,qnF hc ho hq,h2,ZM];exact h
theorem qlr (hc:Le call call') {ops:Array Oper} {draw:Bool} {s r:St} (h:qgf P call ops draw s=some r):qeo P call' ops draw s=some r:=by
 unfold qgf at h;unfold qeo
 cases draw with
 |true=>
  obtain⟨x,hx,h⟩:=zQ (show qjN P call ops s.1 s.2=some r from h);have h2:=qpq hc ops.toList [] rfl hx
  have hlen:ops.toList.length=ops.size:=by simp
  rw[hlen]at h2;simp only[aJ,qeR];rw[show qij P call' ops ops.size 0 (s.1,s.2)=some x from h2];obtain⟨x1,x2⟩:=x;rw[zn]at h;exact h
 |false=>
  simp only[ZF,aU];exact qnW hc _ h
theorem qpz {f f':St->Option (XA×St)} (hf: ∀s r,f s=some r->f' s=some r): ∀(n:Nat) {s:St} {r:XA×St},qof n f s=some r->qfK n f' s=some r:=by
 intro n
 induction n with
 |zero=>intro s r h;cases h
 |succ n ih=>
  intro s r h;obtain⟨x,hx,h⟩:=zQ (show ob (f s) (λr=>XA.rec (motive:=λ_=>Option (XA×St)) (qof n f r.2) (λid=>some (.exit id,r.2)) (some (.ret,r.2)) r.1)=some r from h);obtain⟨x1,x2⟩:=x;simp only[qfK,hf _ _ hx]
  cases x1 with
  |normal=>exact ih h
  |exit id=>exact h
  |ret=>exact h
theorem qll {a:AV} {b:Bool} (h:qj0 a=some b):a= .bool b:=by
 unfold qj0 at h;split at h
 ·injection h with h;rw[h]
 cases h
theorem qoT (hc:Le call call'): ∀(c:Code) {s:St} {r:XA×St},zC P call N rd c s=some r->zC P call' N rd c s=some r:=by
 have regLe: ∀{ops:Array Oper} {draw:Bool} {s r:St},qeo P call ops draw s=some r->qeo P call' ops draw s=some r:=by
  intro ops draw s r h
  have hI: ∀{j:Nat} {s:Fr×Heap} {r:(Fr×Heap)×Rec},qfO P call ops j s=some r->qfO P call' ops j s=some r:=by
   intro j s r h;unfold qfO at h⊢;split at h
   ·cases h
   rename_i o ho;split at h
   ·split at h
    ·rename_i v A' q hs;simp only[qlI hc hs];exact h
    cases h
   ·exact h
   cases h
  have hL: ∀(l:List Oper) {fr:Fr} {A:Heap} {r:Fr×Heap},qfb P call ops l fr A=some r->qfb P call' ops l fr A=some r:=by
   intro l
   induction l with
   |nil=>intro fr A r h;exact h
   |cons o l ih=>
    intro fr A r h;simp only[qfb]at h⊢;split at h
    ·split at h
     ·rename_i v A' f hs;simp only[qkQ hc hs];exact ih h
     cases h
    ·exact ih h
    cases h
  have hR: ∀(m j:Nat) {s:Fr×Heap} {r:(Fr×Heap)×List Rec},qij P call ops m j s=some r->qij P call' ops m j s=some r:=by
   intro m
   induction m with
   |zero=>intro j s r h;exact h
   |succ m ih=>
    intro j s r h;simp only[qij]at h⊢;split at h
    ·rename_i s' q hs;simp only[hI hs];obtain⟨x,hx,he⟩:=Yd.1 h;rw[ih _ hx];exact ap some he
    cases h
  unfold qeo at h⊢;split at h
  ·rename_i hd;rw[ae hd];unfold qeR at h⊢;split at h
   ·rename_i x rs hs;rw[hR _ _ hs];exact h
   cases h
  rename_i hd;rw[aa hd];exact hL _ h
 intro c
 induction c with
 |region id ops draw=>
  intro s r h;simp only[zC]at h⊢;obtain⟨x,hx,he⟩:=Yd.1 h;rw[regLe hx];exact ap some he
 |seq a b iha ihb=>
  intro s r h;simp only[zC]at h⊢;split at h
  ·rename_i s' hs;rw[iha hs];exact ihb h
  rename_i r' hr
  cases hx:zC P call N rd a s with
  |none=>rw[hx]at h;cases h
  |some x=>
   rw[iha hx];rw[hx]at h;obtain⟨x1,x2⟩:=x
   cases x1 with
   |normal=>exact absurd hx (hr x2)
   |exit id=>exact h
   |ret=>exact h
 |cond c a b iha ihb=>
  intro s r h;simp only[zC]at h⊢;split at h
  ·exact iha h
  ·exact ihb h
  cases h
 |block id b ih=>
  intro s r h;simp only[zC]at h⊢
  cases hx:zC P call N rd b s with
  |none=>rw[hx]at h;cases h
  |some x=>
   rw[ih hx];rw[hx]at h;exact h
 |loop b ih=>
  intro s r h;simp only[zC]at h⊢
  have: ∀(n:Nat) {s:St} {r:XA×St},qfK n (zC P call N rd b) s=some r->qfK n (zC P call' N rd b) s=some r:=by
   intro n
   induction n with
   |zero=>intro s r h;cases h
   |succ n ihn=>
    intro s r h;simp only[qfK]at h⊢
    cases hx:zC P call N rd b s with
    |none=>rw[hx]at h;cases h
    |some x=>
     rw[ih hx];rw[hx]at h;obtain⟨x1,x2⟩:=x
     cases x1 with
     |normal=>exact ihn h
     |exit id=>exact h
     |ret=>exact h
  exact this N h
 |scope b ih=>intro s r h;exact ih h
 |rangeFunc g ps asg body=>
  intro s r h;simp only[zC]at h⊢;split at h
  ·rename_i hok hg;split at h
   ·cases h
   rename_i hent;rw[aa hent];split at h
   ·rename_i v A2 hcall;rw[hc _ _ _ _ hcall];exact h
   cases h
  cases h
 |_=>intro s r h;first|exact h|(simp[zC]at h⊢;done)|(simp only[zC]at h⊢;exact h)
theorem qhf (hc:Le call call'): ∀(c:Code) {s:St} {r:XA×St},qdE P call N rd c s=some r->zC P call' N rd c s=some r:=by
 intro c
 induction c with
 |skip=>intro s r h;exact h
 |region id ops draw=>
  intro s r h;obtain⟨x,hx,h⟩:=zQ (show ob (qgf P call ops draw s) (λr=>some (XA.normal,r))=some r from h);simp only[zC,qlr hc hx,ZM];exact h
 |seq a b iha ihb=>
  intro s r h;obtain⟨x,hx,h⟩:=zQ (show ob (qdE P call N rd a s) (λr=>XA.rec (motive:=λ_=>Option (XA×St)) (qdE P call N rd b r.2) (λid=>some (.exit id,r.2)) (some (.ret,r.2)) r.1)=some r from h);obtain⟨x1,x2⟩:=x;simp only[zC,iha hx]
  cases x1 with
  |normal=>exact ihb h
  |exit id=>exact h
  |ret=>exact h
 |cond c a b iha ihb=>
  intro s r h;obtain⟨x,hx,h⟩:=zQ (show ob (qj0 (vK s.1 c)) (λt=>jf t (qdE P call N rd a s) (qdE P call N rd b s))=some r from h);rw[qft]at hx;simp only[zC,qll hx]
  cases x with
  |true=>exact iha h
  |false=>exact ihb h
 |block id b ih=>
  intro s r h;obtain⟨x,hx,h⟩:=zQ (show ob (qdE P call N rd b s) (λr=>XA.rec (motive:=λ_=>Option (XA×St)) (some (.normal,r.2)) (λk=>jf (Nat.beq k id) (some (.normal,r.2)) (some (.exit k,r.2))) (some (.ret,r.2)) r.1)=some r from h);obtain⟨x1,x2⟩:=x;simp only[zC,ih hx]
  cases x1 with
  |normal=>exact h
  |exit k=>
   have h:jf (Nat.beq k id) (some (XA.normal,x2)) (some (.exit k,x2))=some r:=h;rw[zn]at h;simp only;by_cases e:k=id
   ·rw[ae e];rw[ae (qfu e)]at h;exact h
   rw[aa e];rw[aa (by rw[qdz e];simp)]at h;exact h
  |ret=>exact h
 |loop b ih=>
  intro s r h;exact qpz (λs r h=>ih h) N h
 |scope b ih=>intro s r h;exact ih h
 |rangeFunc g ps asg body=>intro s r h;exact qoT hc (.rangeFunc g ps asg body) h
 |exit id=>intro s r h;exact h
 |label l=>intro s r h;exact h
 |ret=>intro s r h;exact h
 |_=>intro s r h;cases h
theorem qmu (hc:Le call call'):Le (qkL P call N) (qmd P call' N):=by
 intro c args A r h
 cases c with
 |fn f=>
  have h:qmv P call N f args A=some r:=h;show qlv P call' N f args A=some r;unfold qmv at h;unfold qlv;split at h
  ·rename_i fn hf;rw[hf];simp only;split at h
   ·cases h
   rename_i hn;rw[aa hn];split at h
   ·rename_i c hb;rw[hb];simp only
    cases hx:qdE P call N none c (frOf _ args,A)with
    |none=>rw[hx]at h;cases h
    |some x=>
     rw[qhf hc c hx];rw[hx]at h;exact h
   cases h
  cases h
 |mt t m=>cases h
 |rd b=>
  have h:ql6 P call N b args A=some r:=h;show qk0 P call' N b args A=some r;unfold ql6 at h;unfold qk0;split at h
  ·rename_i hb;rw[hb];simp only;split at h
   ·rename_i hl;rw[ae hl];split at h
    ·rename_i hx;rw[qhf hc _ hx];simp only;split at h
     ·rename_i hb2;rw[hb2];simp only;rename_i p1 f1 ps1 as1 bd1;unfold qn3 at h;split at h
      ·rename_i x fr2 A2 hy;rw[qhf hc _ hy];exact h
      cases h
     cases h
    cases h
   cases h
  cases h
theorem qmq (hm:P.follows .mixedOrders=true) (hc:zg P call):zg P (qkL P call N):=
 λc args A v A' h=>qnP hm hc c args A v A' (qmu (λ_ _ _ _ h=>h) c args A _ h)
theorem qlU (hm:P.follows .mixedOrders=true) (hc:zg P call) {post:zP} (hp:zg P post):zg P (qhD P call N post):=by
 intro c args A v A' h;unfold qhD at h
 cases hx:post c args A with
 |some x=>
  rw[hx]at h;have h:some x=some (v,A'):=h;injection h with h;subst h;exact hp _ _ _ _ _ hx
 |none=>
  rw[hx]at h;exact qmq hm hc _ _ _ _ _ h
theorem qoF {mt:TypeId->String->Option FuncId} (hmt: ∀t m f,mt t m=some f->Enters P f/\qqv P t m f) {c:Cl} {args:List AV} {A:Heap} {v:AV} {A':Heap} (h:qf P (qjC mt c) args A v A'):qf P c args A v A':=by
 cases c with
 |fn f=>exact h
 |rd b=>exact h
 |mt t m=>
  have h:qf P (Option.rec (motive:=λ_=>Cl) (.mt t m) (λf=> .fn f) (mt t m)) args A v A':=h
  cases hf:mt t m with
  |none=>rw[hf]at h;exact h
  |some f=>
   rw[hf]at h;obtain⟨h1,h2⟩:=hmt t m f hf;exact⟨f,h2,λF nu w vs i hargs=>qf.calls (f:=f) h h1 i hargs⟩
theorem qoU (hm:P.follows .mixedOrders=true) {mt:TypeId->String->Option FuncId} (hmt: ∀t m f,mt t m=some f->Enters P f/\qqv P t m f) {pre post:zP} {pl:FuncId->Bool} (hp:zg P pre) (hq:zg P post): ∀d,zg P (qpl P N mt pre post pl d):=by
 intro d
 induction d with
 |zero=>exact hp
 |succ d ih=>
  intro c args A v A' h;refine qoF hmt ?_;have h:Option.rec (motive:=λ_=>Option (AV×Heap)) (qlw (qhD P (qpl P N mt pre post pl d) N post) pl (qjC mt c) args A) some (pre (qjC mt c) args A)=some (v,A'):=h
  cases hx:pre (qjC mt c) args A with
  |some x=>
   rw[hx]at h;have h:some x=some (v,A'):=h;injection h with h;subst h;exact hp _ _ _ _ _ hx
  |none=>
   rw[hx]at h;exact qpK (qlU hm ih hq) pl _ _ _ _ _ h
def memo (l:List (FuncId×List AV×AV)):zP:=λc args A=>
 Cl.rec (motive:=λ_=>Option (AV×Heap)) (λf=>List.rec (motive:=λ_=>Option (AV×Heap))
  (List.rec (motive:=λ_=>Option (AV×Heap)) none (λe _ ih=>jf (Nat.beq f e.1&&qb5 (qb6 30) args e.2.1) (some (e.2.2,[])) ih) l) (λ_ _ _=>none) A) (λ_=>none) (λ_ _=>none) c
theorem qqN: ∀{l:List (FuncId×List AV×AV)},(∀e∈l,qf P (.fn e.1) e.2.1 [] e.2.2 [])->zg P (memo l):=by
 intro l
 induction l with
 |nil=>
  intro _ c args A v A' h
  cases c with
  |rd b=>cases h
  |mt t m=>cases h
  |fn f=>
   cases A with
   |nil=>cases h
   |cons x A=>cases h
 |cons e l ih=>
  intro hl c args A v A' h
  cases c with
  |rd b=>cases h
  |mt t m=>cases h
  |fn f=>
   cases A with
   |cons x A=>cases h
   |nil=>
    have h:jf (Nat.beq f e.1&&qb5 (qb6 30) args e.2.1) (some (e.2.2,[])) (memo l (.fn f) args [])=some (v,A'):=h;rw[zn]at h;split at h
    ·rename_i hb;simp only[aI]at hb;have e1:=da hb.1;have e2:=qgw (qiV 30) _ _ hb.2;simp only[ZI,ZP]at h;obtain⟨rfl,rfl⟩:=h;subst e1 e2;exact hl e (by simp)
    exact ih (λe he=>hl e (by simp[he])) _ _ _ _ _ h
end
end
section
variable [Glob]
open Go.RowKit
class Base where
 nu:Nat->Option Nat
 A:Heap
 fresh: ∀b,A.length<=b->nu b=none
 rd:Option Nat
 rr:Option Nat
 hrd:qmt rd rr nu
@[instance_reducible] def Base.zero:Base:=⟨λ_=>none,[],λ_ _=>rfl,none,none,trivial⟩
instance (priority:=low) instBaseZero:Base:=Base.zero
def Goes [Base] (P:Program) (c:Code) (s:St) (Q:XA->St->Prop):Prop:=
 ∀(F0:Nat->Prop) (w0:World) (n:Nat) (F:Nat->Prop) (nu:Nat->Option Nat) (a:Act) (w:World),
  Stp F0 Base.nu Base.A w0 F nu s.2 w->RF F nu w s.1 a.tmps->Dfr w0.heap.size F nu s.2 w a.defers->
  ∀K:Exit->Act->World->Prop,(∀x s' F' nu' a' w',Q x s'->Stp F0 Base.nu Base.A w0 F' nu' s'.2 w'->RF F' nu' w' s'.1 a'.tmps->Dfr w0.heap.size F' nu' s'.2 w' a'.defers->K (qi3 x) a' w')->
  c.wpIn (fz Base.rr) n P K a w
section
variable [Base] {P:Program} {call:zP} {N:Nat} {c c1 c2:Code} {s:St} {Q:XA->St->Prop}
theorem Goes.imp {Q':XA->St->Prop} (h:Goes P c s Q) (hq: ∀x s',Q x s'->Q' x s'):Goes P c s Q':=
 λF0 w0 n F nu a w st hf hd K hK=>h F0 w0 n F nu a w st hf hd K (λx s' F' nu' a' w' q=>hK x s' F' nu' a' w' (hq x s' q))
theorem Goes.skip (h:Q .normal s):Goes P .skip s Q:=λ_ _ _ F nu a w st hf hd _ hK=>wpIn_skip (hK .normal s F nu a w h st hf hd)
theorem Goes.label {l:Nat} (h:Q .normal s):Goes P (.label l) s Q:=λ_ _ _ F nu a w st hf hd _ hK=>wpIn_label (hK .normal s F nu a w h st hf hd)
theorem Goes.exit {id:Nat} (h:Q (.exit id) s):Goes P (.exit id) s Q:=λ_ _ _ F nu a w st hf hd _ hK=>wpIn_exit (hK (.exit id) s F nu a w h st hf hd)
theorem Goes.ret (h:Q .ret s):Goes P .ret s Q:=λ_ _ _ F nu a w st hf hd _ hK=>wpIn_ret (hK .ret s F nu a w h st hf hd)
def andThen (k:St->Prop) (Q:XA->St->Prop):XA->St->Prop
 | .normal,s=>k s
 |x,s=>Q x s
theorem Goes.seq (h:Goes P c1 s (andThen (λs'=>Goes P c2 s' Q) Q)):Goes P (.seq c1 c2) s Q:=by
 intro F0 w0 n F nu a w st hf hd K hK;refine wpIn_seq (h F0 w0 n F nu a w st hf hd _ (λx s' F' nu' a' w' q st' hf' hd'=>?_))
 cases x with
 |normal=>exact q F0 w0 n F' nu' a' w' st' hf' hd' K hK
 |exit id=>exact hK (.exit id) s' F' nu' a' w' q st' hf' hd'
 |ret=>exact hK .ret s' F' nu' a' w' q st' hf' hd'
theorem Goes.cond {co:Operand} {b:Bool} (hv:yJ s.1 co= .bool b) (ht:b=true->Goes P c1 s Q) (hf:b=false->Goes P c2 s Q):Goes P (.cond co c1 c2) s Q:=by
 intro F0 w0 n F nu a w st hfr hd K hK;have hv2:=hfr.eval st.inv.glob co;rw[hv]at hv2
 have hb:a.eval co= .bool b:=by
  generalize a.eval co=z at hv2;cases hv2
  rfl
 cases b with
 |true=>exact wpIn_cond_true hb (ht rfl F0 w0 n F nu a w st hfr hd K hK)
 |false=>exact wpIn_cond_false hb (hf rfl F0 w0 n F nu a w st hfr hd K hK)
def qmZ (id:Nat) (Q:XA->St->Prop):XA->St->Prop
 | .exit k,s=>if k=id then Q .normal s else Q (.exit k) s
 |x,s=>Q x s
theorem Goes.block {id:Nat} (h:Goes P c s (qmZ id Q)):Goes P (.block id c) s Q:=by
 intro F0 w0 n F nu a w st hf hd K hK;refine wpIn_block (h F0 w0 n F nu a w st hf hd _ (λx s' F' nu' a' w' q st' hf' hd'=>?_))
 cases x with
 |normal=>exact hK .normal s' F' nu' a' w' q st' hf' hd'
 |ret=>exact hK .ret s' F' nu' a' w' q st' hf' hd'
 |exit k=>
  simp only[qi3,Exit.inBlock];simp only[qmZ]at q;split at q
  ·rename_i e;rw[ae e];exact hK .normal s' F' nu' a' w' q st' hf' hd'
  rename_i e;rw[aa e];exact hK (.exit k) s' F' nu' a' w' q st' hf' hd'
theorem Goes.scope (h:Goes P c s Q):Goes P (.scope c) s Q:=by
 intro F0 w0 n F nu a w st hf hd K hK;refine qcF (h F0 w0 n F nu a w st hf hd _ (λx s' F' nu' a' w' q st' hf' hd'=>?_));have:=hK x s' F' nu' a' w' q st' hf' hd';cases x<;>exact this
theorem Goes.loop (I:Nat->St->Prop) (hstep: ∀m s,I m s->Goes P c s (andThen (λs'=> ∃m',m'<m/\I m' s') Q)) {m:Nat} (h0:I m s):Goes P (.loop c) s Q:=by
 intro F0 w0 n F nu a w st hf hd K hK;have key: ∀(m:Nat) (s:St),I m s-> ∀(F:Nat->Prop) (nu:Nat->Option Nat) (a:Act) (w:World),Stp F0 Base.nu Base.A w0 F nu s.2 w->RF F nu w s.1 a.tmps->Dfr w0.heap.size F nu s.2 w a.defers->
  ∀(b:Frame) (k:List Item) (cs:List Frame),b.roundOf=(fz Base.rr).round->(fz Base.rr).fn b.fn->(fz Base.rr).room (cs.length+1+n)->
  ∃e a₂ w₂,K e a₂ w₂/\ArrivesIn (Machine.fenced P (fz Base.rr)) P (lone (b.atR a (.code c:: .inLoop c::k)) cs w) b k cs e a₂ w₂:=by
  intro m
  induction m using Nat.strongRecOn with
  |_ m ih=>
   intro s hI F nu a w st hf hd b k cs hro hb hr;refine qd2 ?_ b k cs hro hb hr;refine hstep m s hI F0 w0 n F nu a w st hf hd _ (λx s' F' nu' a' w' q st' hf' hd'=>?_)
   cases x with
   |normal=>
    obtain⟨m',hlt,hI'⟩:=q;exact ih m' hlt s' hI' F' nu' a' w' st' hf' hd'
   |exit id=>exact hK (.exit id) s' F' nu' a' w' q st' hf' hd'
   |ret=>exact hK .ret s' F' nu' a' w' q st' hf' hd'
 intro b k cs hro hb hr;obtain⟨e,a₂,w₂,hq2,harr⟩:=key m s h0 F nu a w st hf hd b k cs hro hb hr;exact⟨e,a₂,w₂,hq2,.of_steps (.one (fenced_calm hb hr rfl) stepR_loop) harr⟩
variable {ops:Array Oper} {l:List Oper} {fr:Fr} {A:Heap} {K:Fr->Heap->Prop}
theorem Up (n:Nat) (g:Nat->AV) (t:Nat):(Fr.fn n g).get t=if t<n then g t else .undef:=by
 simp only[Fr.get];by_cases h:t<n
 ·rw[ae h,show Nat.blt t n=true from bH h];rfl
 rw[aa h,qci (by omega)];rfl
theorem qgm (g:Nat->AV) (t:Nat) (a:AV) (u:Nat):qgG g t a u=if u=t then a else g u:=by
 unfold qgG;by_cases h:u=t
 ·rw[ae h,qfu h];rfl
 rw[aa h,qdz h];rfl
def qiH:List AV->Nat->(Nat->AV)->Nat->AV
 |[],_,g=>g
 |a::as,k,g=>qiH as (k+1) (qgG g k a)
theorem qjO: ∀(as:List AV) (k:Nat) (g:Nat->AV) (j:Nat),(j<k\/k+as.length<=j->qiH as k g j=g j)/\(k<=j-> ∀a,as[j-k]? =some a->qiH as k g j=a):=by
 intro as
 induction as with
 |nil=>intro k g j;exact⟨λ_=>rfl,λ_ a h=>by simp at h⟩
 |cons a as ih=>
  intro k g j;obtain⟨h1,h2⟩:=ih (k+1) (qgG g k a) j;simp only[qiH];refine⟨λh=>?_,λh b hb=>?_⟩
  ·have hj:j<k\/k+(as.length+1)<=j:=by simpa using h
   rw[h1 (by omega)];simp only[qgG,qdz (show j≠k by omega),cond_false]
  rcases ak k j with hk|hk
  ·have e:j-k=(j-(k+1))+1:=by omega
   rw[e]at hb;exact h2 (by omega) b (by simpa using hb)
  have e:j=k:=by omega
  subst e;rw[bR]at hb;simp only[Yj,ZI]at hb;subst hb;rw[h1 (.inl (by omega))];simp only[qgG,qfu rfl,cond_true]
def frFn (n:Nat) (args:List AV):Fr:= .fn n (qiH args 0 λ_=> .undef)
theorem RF.frFn {F:Nat->Prop} {nu:Nat->Option Nat} {w:World} {args:List AV} {vs:Array Value} {n m:Nat} (hm:args.length+(n-args.length)=m) (h:RL F nu w args vs):RF F nu w (frFn m args) (vs++Array.replicate (n-vs.size) undef):=by
 have hs:=h.1;refine⟨by simp[Go.Av.frFn,Fr.n,hs,hm],λt v hv=>?_,λt ht=>?_⟩
 ·have hlt:t<m:=by
   have:=(YB.1 hv).1;simp[hs]at this;omega
  have hb:Nat.blt t m=true:=bH hlt;show R F nu w (cond (Nat.blt t m) (qiH args 0 (λ_=> .undef) t) .undef) v;rw[hb,cond_true];rcases ak t args.length with h1|h1
  ·rw[YC (by omega)]at hv;rw[(qjO args 0 _ t).2 (aF _) args[t] (by simp[h1])];exact h.2 t _ v (Ya h1) hv
  rw[(qjO args 0 _ t).1 (by omega)];exact .undef v
 simp only[Go.Av.frFn,Fr.n]at ht;show cond (Nat.blt t m) (qiH args 0 (λ_=> .undef) t) AV.undef=AV.undef;rw[qci ht];rfl
end
section
variable {P:Program} {c:Code}
def returns (P:Program) (rs:List ResultVar) (v:AV):XA->St->Prop
 | .exit _,_=>False
 |_,s=> ∃xs,jJ P s.1 s.2 rs=some xs/\frz s.2 (List.range s.2.length) 12 (qgP xs)=some v
theorem Stp.hand {F F2:Nat->Prop} {nu2:Nat->Option Nat} {w w':World} {Al:Heap} (st:Stp F (λ_=>none) [] w F2 nu2 Al w'):Stp F (λ_=>none) [] w (FS F2 nu2 Al (List.range Al.length)) (λ_=>none) [] w':=by
 have noOwn: ∀rb,¬qaO (λ_=>none) [] w rb:=by
  rintro rb ⟨b,x,r,hb,_⟩;cases hb
 have hF3: ∀rb,rb<w.heap.size->FS F2 nu2 Al (List.range Al.length) rb->F rb:=by
  rintro rb hlt (h1|⟨b,x,_,h1,h2,h3⟩)
  ·rcases st.newF rb h1 with h2|h2|h2
   ·exact h2
   ·omega
   exact absurd h2 (noOwn rb)
  exact absurd (st.own rb hlt (.of h1 h2 h3)) (noOwn rb)
 refine⟨λrb h=> .inl (st.f rb h),λ_ _ h=>h,st.shape,⟨by simp,by simp,λ_ _=>rfl,λrb h=>?_,by simp,Glob.mono st.inv.glob (λ_ h=> .inl h) λ_ _=>rfl⟩,λrb hlt _=>st.keep rb hlt (noOwn rb),?_,st.size,st.os,st.tape,st.output,λ_ _=>rfl,ag _,λrb h=>?_⟩
 ·rcases h with h|⟨b,x,_,h,_⟩
  ·exact st.inv.ltF rb h
  exact st.inv.ltN b rb h
 ·rintro rb _ ⟨b,x,r,hb,_⟩;cases hb
 rcases ak rb w.heap.size with hlt|hge
 ·exact .inl (hF3 rb hlt h)
 exact .inr (.inl hge)
end
end
section
variable [Glob]
section
variable {P:Program} {call:zP} {fr:Fr} {A:Heap} {d:Option Tmp} {ty:TypeId} {ps:String} {af:Array Edge} {g:Option (Nat×Bool)}
end
section
variable {P:Program} {call:zP} {ops:Array Oper} {l:List Oper} {fr:Fr} {A:Heap} {s:St} {Q:XA->St->Prop}
end
section
variable {P:Program} {d:Option Tmp} {ty:TypeId} {ps:String} {af:Array Edge} {g:Option (Nat×Bool)} {ρ:Operand->AV}
end
def qrJ (tbl:FuncId->List AV->Option AV):zP:=λc args A=>match c with
 | .fn f=>match A with
   |[]=>(tbl f args).map λv=>(v,[])
   |_::_=>none
 | .rd _=>none
 | .mt _ _=>none
theorem qpP {P:Program} {tbl:FuncId->List AV->Option AV} (h: ∀f args v,tbl f args=some v->qf P (.fn f) args [] v []):zg P (qrJ tbl):=by
 intro c args A v A' he
 cases c with
 |rd b=>cases he
 |mt t m=>cases he
 |fn f=>
  cases A with
  |cons x A=>cases he
  |nil=>
   obtain⟨x,hx,hr⟩:=Yd.1 he;simp only[ZP]at hr;obtain⟨rfl,rfl⟩:=hr;exact h f args _ hx
def Still (d:Nat) (a:AV):Prop:= ∀(A:Heap) (S:List Nat),frz A S d a=some a
theorem zX {A:Heap} {S:List Nat} {d:Nat}: ∀{cs:List AV},(∀c∈cs,Still d c)->cs.mapM (frz A S d)=some cs:=by
 intro cs
 induction cs with
 |nil=>intro _;rfl
 |cons c cs ih=>
  intro h;rw[bV,h c (by simp) A S,ih λx hx=>h x (by simp[hx])];rfl
theorem Still.int (d:Nat) (k:IntKind) (n:Int):Still (d+1) (.int k n):=λ_ _=>rfl
theorem Still.bool (d:Nat) (b:Bool):Still (d+1) (.bool b):=λ_ _=>rfl
theorem Still.str (d:Nat) (b:List UInt8):Still (d+1) (.str b):=λ_ _=>rfl
theorem Still.nilslice (d:Nat):Still (d+1) .nilslice:=λ_ _=>rfl
theorem Still.fslice {d n:Nat} {cs:List AV} (h: ∀c∈cs,Still d c):Still (d+1) (.fslice n cs):=λA S=>by
 simp only[frz,zX h,ZM]
theorem Still.agg {d:Nat} {cs:List AV} (h: ∀c∈cs,Still d c):Still (d+1) (.agg cs):=λA S=>by
 simp only[frz,zX h,ZM]
theorem Still.tuple {d:Nat} {cs:List AV} (h: ∀c∈cs,Still d c):Still (d+1) (.tuple cs):=λA S=>by
 simp only[frz,zX h,ZM]
end
end Go.Av
end
