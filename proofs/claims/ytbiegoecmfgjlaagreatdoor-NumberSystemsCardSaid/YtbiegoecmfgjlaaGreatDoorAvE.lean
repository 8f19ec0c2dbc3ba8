/-
  The evaluator once more, told by recursors, so that the kernel has few steps to go; where it tells something, callP tells the same.
-/
import Derived.Test.YtbiegoecmfgjlaaGreatDoorAvB
import Derived.IntWalk
set_option linter.all false
noncomputable section
namespace Go.Av
section
variable [Glob]
def ob {α β:Type}(x:Option α) (k:α->Option β):Option β:=Option.rec (motive:=λ_=>Option β) none k x
def zC {α β:Type}{x:Option α}{k:α->Option β}{r:β}(h:ob x k=some r):∃a,x=some a/\k a=some r:=by
 cases x with
 |none=>cases h
 |some a=>exact⟨a,rfl,h⟩
def z8 {α:Type}(b:Bool) (x y:α):α:=Bool.rec (motive:=λ_=>α) y x b
def zh {α:Type}(b:Bool) (x y:α):z8 b x y=if b=true then x else y:=by cases b<;>rfl
def hget (A:Heap):Nat->Option Blk:=
 List.rec (motive:=λ_=>Nat->Option Blk) (λ_=>none) (λx _ ih b=>Nat.rec (motive:=λ_=>Option Blk) (some x) (λn _=>ih n) b) A
def qiD:∀(A:Heap) (b:Nat),hget A b=A[b]? :=by
 intro A
 induction A with
 |nil=>intro b;rfl
 |cons x A ih=>
  intro b
  cases b with
  |zero=>rfl
  |succ b=>exact(ih b).trans (by simp)
def hset (A:Heap):Nat->Blk->Heap:=
 List.rec (motive:=λ_=>Nat->Blk->Heap) (λ_ _=>[]) (λy ys ih b x=>Nat.rec (motive:=λ_=>Heap) (x::ys) (λn _=>y::ih n x) b) A
def qiy:∀(A:Heap) (b:Nat) (x:Blk),hset A b x=A.set b x:=by
 intro A
 induction A with
 |nil=>intro b x;rfl
 |cons y A ih=>
  intro b x
  cases b with
  |zero=>rfl
  |succ b=>exact az (y:: ·) (ih b x)
def happ (A:Heap) (x:Blk):Heap:=List.rec (motive:=λ_=>Heap) [x] (λy _ ih=>y::ih) A
def qiz:∀(A:Heap) (x:Blk),happ A x=A++[x]:=by
 intro A
 induction A with
 |nil=>intro x;rfl
 |cons y A ih=>intro x;exact az (y:: ·) (ih x)
def hlen (A:Heap):Nat:=List.rec (motive:=λ_=>Nat) 0 (λ_ _ ih=>Nat.succ ih) A
def yw:∀(A:Heap),hlen A=A.length:=by
 intro A
 induction A with
 |nil=>rfl
 |cons y A ih=>exact az Nat.succ ih
def qrn (v:Value):AV:=
 match v with
 | .int k n=> .int k n
 | .bool b=> .bool b
 |v=>qcz 3 v
def qpd (v:Value):qrn v=qcz 3 v:=by cases v<;>rfl
def vD (fr:Fr) (x:Operand):AV:=
 Operand.rec (motive:=λ_=>AV) (λt=>fr.get t) (λv=>qrn v) (λg=>Glob.gl g) (λf=> .func (.func f) [] []) x
def qf9 (fr:Fr):vD fr=yj fr:=by
 funext x
 cases x with
 |const v=>exact qpd v
 |_=>rfl
def qmV {β:Type}(a:AV) (k:IntKind->Int->Option β):Option β:=
 AV.rec (motive_1:=λ_=>Option β) (motive_2:=λ_=>Unit) none (λ_=>none) k (λ_=>none) none (λ_ _=>none) (λ_ _ _=>none) none (λ_ _ _ _ _=>none) (λ_ _ _=>none) (λ_ _ _=>none) (λ_ _ _ _=>none) (λ_ _ _=>none) none (λ_=>none)
  (λ_ _ _ _=>none) (λ_ _ _ _ _=>none) (λ_=>none) none (λ_ _ _=>none) none (λ_ _=>none) (λ_ _=>none) none () (λ_ _ _ _=>()) a
def qjd {β:Type}{a:AV}{k:IntKind->Int->Option β}{r:β}(h:qmV a k=some r):∃q n,a= .int q n/\k q n=some r:=by
 cases a<;>first|exact⟨_,_,rfl,h⟩|cases h
def qma {β:Type}(k:IntKind) (x:Option β):Option β:=IntKind.rec (motive:=λ_=>Option β) none none none x none none none none k
def qrH (n:Int):Int:=
 Int.rec (motive:=λ_=>Int) (λm=>z8 (Nat.blt m 9223372036854775808) (.ofNat m) (IntKind.wrap .i64 (.ofNat m))) (λm=>z8 (Nat.blt m 9223372036854775808) (.negSucc m) (IntKind.wrap .i64 (.negSucc m))) n
def qqT (n:Int):qrH n=IntKind.wrap .i64 n:=by
 cases n with
 |ofNat m=>
  show z8 _ _ _=_;rw[zh];split
  ·rename_i h;have h:m<9223372036854775808:=Ys h;exact(Go.IntWalk.i64_in _ ⟨by simp only[da];omega,by simp only[da];omega⟩).symm
  rfl
 |negSucc m=>
  show z8 _ _ _=_;rw[zh];split
  ·rename_i h;have h:m<9223372036854775808:=Ys h;have:=dZ m;exact(Go.IntWalk.i64_in _ ⟨by omega,by omega⟩).symm
  rfl
def addK (a b:Int):Int:=
 Int.rec (motive:=λ_=>Int) (λm=>Int.rec (motive:=λ_=>Int) (λn=> .ofNat (Nat.add m n)) (λn=>Int.add (.ofNat m) (.negSucc n)) b) (λm=>Int.add (.negSucc m) b) a
def qsB (a b:Int):addK a b=a+b:=by
 cases a<;>cases b<;>rfl
def mulK (a b:Int):Int:=
 Int.rec (motive:=λ_=>Int) (λm=>Int.rec (motive:=λ_=>Int) (λn=> .ofNat (Nat.mul m n)) (λn=>Int.mul (.ofNat m) (.negSucc n)) b) (λm=>Int.mul (.negSucc m) b) a
def qso (a b:Int):mulK a b=a*b:=by
 cases a<;>cases b<;>rfl
def ltK (a b:Int):Bool:=
 Int.rec (motive:=λ_=>Bool) (λm=>Int.rec (motive:=λ_=>Bool) (λn=>Nat.blt m n) (λ_=>false) b) (λm=>Int.rec (motive:=λ_=>Bool) (λ_=>true) (λn=>Nat.blt n m) b) a
def qtM (a b:Int):ltK a b=decide (a<b):=by
 have key:∀m n:Nat,Nat.blt m n=decide (m<n):=by
  intro m n;by_cases h:m<n
  ·rw[ap h];exact bD h
  rw[ak h];exact qcE (by omega)
 cases a with
 |ofNat m=>
  cases b with
  |ofNat n=>exact(key m n).trans (decide_eq_decide.2 (by simp))
  |negSucc n=>
   refine(ak ?_).symm;have:=dZ n;simp only[da];omega
 |negSucc m=>
  cases b with
  |ofNat n=>
   refine(ap ?_).symm;have:=dZ m;simp only[da];omega
  |negSucc n=>
   refine(key n m).trans (decide_eq_decide.2 ?_);have:=dZ n;have:=dZ m;omega
def eqK (a b:Int):Bool:=
 Int.rec (motive:=λ_=>Bool) (λm=>Int.rec (motive:=λ_=>Bool) (λn=>Nat.beq m n) (λ_=>false) b) (λm=>Int.rec (motive:=λ_=>Bool) (λ_=>false) (λn=>Nat.beq m n) b) a
def qus (a b:Int):eqK a b=(a==b):=by
 have key:∀m n:Nat,Nat.beq m n=decide (m=n):=by
  intro m n;by_cases h:m=n
  ·rw[ap h];exact qge h
  rw[ak h];exact qeb h
 have e:(a==b)=decide (a=b):=by rfl
 rw[e]
 cases a with
 |ofNat m=>
  cases b with
  |ofNat n=>exact(key m n).trans (decide_eq_decide.2 (by simp only[da];omega))
  |negSucc n=>exact(ak (by simp)).symm
 |negSucc m=>
  cases b with
  |ofNat n=>exact(ak (by simp)).symm
  |negSucc n=>exact(key m n).trans (decide_eq_decide.2 (by simp))
def binI (op:BinOp) (a b:Int):Option AV:=
 match op with
 | .add=>some (.int .i64 (qrH (addK a b)))
 | .mul=>some (.int .i64 (qrH (mulK a b)))
 | .eql=>some (.bool (eqK a b))
 | .neq=>some (.bool (z8 (eqK a b) false true))
 | .lss=>some (.bool (ltK a b))
 | .leq=>some (.bool (z8 (ltK b a) false true))
 | .gtr=>some (.bool (ltK b a))
 | .geq=>some (.bool (z8 (ltK a b) false true))
 |_=>none
def qsP {op:BinOp}{a b:Int}{v:AV}(h:binI op a b=some v) (P:Program) (t:TypeId) (ox oy:Operand):qbI P op t ox oy (.int .i64 a) (.int .i64 b)=some v:=by
 have nb:∀x:Bool,z8 x false true=!x:=by intro x;cases x<;>rfl
 cases op<;>simp only[binI,qqT,qsB,qso,qtM,qus,nb,reduceCtorEq]at h<;>rw[<-h]<;>simp only[qbI,qdg,qhI,ZF,bh,aT,ZI,AV.bool.injEq]
 ·rfl
 ·rw[<-decide_not];exact decide_eq_decide.2 (by omega)
 rw[<-decide_not];exact decide_eq_decide.2 (by omega)
def binK (P:Program) (op:BinOp) (t:TypeId) (ox oy:Operand) (x y:AV):Option AV:=
 Option.rec (motive:=λ_=>Option AV) (qbI P op t ox oy x y) some
  (qmV x λk a=>qma k (qmV y λq b=>qma q (binI op a b)))
def qjR {β:Type}{k:IntKind}{x:Option β}{r:β}(h:qma k x=some r):k= .i64/\x=some r:=by
 cases k<;>first|exact⟨rfl,h⟩|cases h
def qsu (P:Program) (op:BinOp) (t:TypeId) (ox oy:Operand) (x y:AV):binK P op t ox oy x y=qbI P op t ox oy x y:=by
 unfold binK
 cases h:qmV x λk a=>qma k (qmV y λq b=>qma q (binI op a b))with
 |none=>rfl
 |some v=>
  obtain⟨k,a,e1,h1⟩:=qjd h;obtain⟨e2,h2⟩:=qjR h1;obtain⟨q,b,e3,h3⟩:=qjd h2;obtain⟨e4,h4⟩:=qjR h3;subst e1 e2 e3 e4;exact(qsP h4 P t ox oy).symm
def optK (x:Option AV):Pg:=Option.rec (motive:=λ_=>Pg) .fail .done x
def qsx (x:Option AV):optK x= .opt x:=by cases x<;>rfl
def qp4 (P:Program) (o:Oper) (ρ:Operand->AV):Pg:=
 match o.op with
 | .move x=> .done (ρ x)
 | .assign x=> .done (ρ x)
 | .binOp op t x y _=>optK (binK P op t x y (ρ x) (ρ y))
 |_=>aop P o ρ
def qoG (P:Program) (o:Oper) (ρ:Operand->AV):qp4 P o ρ=aop P o ρ:=by
 unfold qp4;split
 ·rename_i h;simp only[aop,h]
 ·rename_i h;simp only[aop,h]
 ·rename_i h;simp only[aop,h,qsx,qsu]
 rfl
def qcy (fr:Fr) (dst:Option Tmp) (v:AV):Fr:=Option.rec (motive:=λ_=>Fr) fr (λd=>fr.set d v) dst
def qbn (fr:Fr) (dst:Option Tmp) (v:AV):qcy fr dst v=qel fr dst v:=by cases dst<;>rfl
def qeB (ops:Array Oper) (o:Oper) (fr:Fr):Option Bool:=Option.rec (motive:=λ_=>Option Bool) (some true) (λ_=>qa2 ops o fr) o.guard
def qfV (ops:Array Oper) (o:Oper) (fr:Fr):qeB ops o fr=qa2 ops o fr:=by
 unfold qeB
 cases h:o.guard with
 |none=>simp[qa2,h]
 |some g=>rfl
def qlI (p:Pg):Heap->zx->Res:=
 Pg.rec (motive:=λ_=>Heap->zx->Res) (λ_ _=>none) (λv A f=>some (v,A,f))
  (λb _ ih A f=>ob (hget A b) λx=>ih x A ((b,false)::f))
  (λb x _ ih A f=>z8 (Nat.blt b (hlen A)) (ih (hset A b x) ((b,true)::f)) none)
  (λx _ ih A f=>ih (hlen A) (happ A x) f) p
def qpY:∀(p:Pg) (A:Heap) (f:zx),qlI p A f=exec p A f:=by
 intro p
 induction p with
 |fail=>intro A f;rfl
 |done v=>intro A f;rfl
 |get b k ih=>
  intro A f;show ob (hget A b) _=_;rw[qiD];simp only[exec]
  cases A[b]? with
  |none=>rfl
  |some x=>exact ih x A _
 |set b x k ih=>
  intro A f;show z8 (Nat.blt b (hlen A)) (qlI k (hset A b x) _) none=_;rw[yw,qiy,zh,ih];simp only[exec];by_cases h:b<A.length
  ·rw[ae h,ae (show Nat.blt b A.length=true from bD h)]
  rw[aa h,aa (by rw[qcE (by omega)];simp)]
 |new x k ih=>
  intro A f;show qlI (k (hlen A)) (happ A x) f=_;rw[yw,qiz,ih];rfl
def qam (S:List Nat) (lo:Nat) (p:Pg):Heap->zx->Res:=
 Pg.rec (motive:=λ_=>Heap->zx->Res) (λ_ _=>none) (λv A f=>some (v,A,f))
  (λb _ ih A f=>z8 (S.contains b||Nat.ble lo b) (ob (hget A b) λx=>ih x A ((b,false)::f)) none)
  (λb x _ ih A f=>z8 (S.contains b||Nat.ble lo b) (z8 (Nat.blt b (hlen A)) (ih (hset A b x) ((b,true)::f)) none) none)
  (λx _ ih A f=>ih (hlen A) (happ A x) f) p
def qok {S:List Nat}{lo b:Nat}(h:(S.contains b||Nat.ble lo b)=true):b∈S\/lo<=b:=by
 simp only[dP]at h;rcases h with h|h
 ·exact .inl (by simpa using h)
 exact .inr (Ys h)
def qgH (S:List Nat) (lo:Nat):∀(p:Pg) (A M:Heap) (f:zx) (v:AV) (A':Heap) (f':zx),M.length=A.length->lo<=A.length->(∀b,(b∈S\/lo<=b)->M[b]? =A[b]?)->qam S lo p A f=some (v,A',f')->
 ∃M',exec p M f=some (v,M',f')/\M'.length=A'.length/\(∀b,(b∈S\/lo<=b)->M'[b]? =A'[b]?)/\(∀b,b<lo->b∉S->A'[b]? =A[b]?)/\A.length<=A'.length:=by
 intro p
 induction p with
 |fail=>intro A M f v A' f' _ _ _ h;cases h
 |done u=>
  intro A M f v A' f' hl hlo hM h;have h:some (u,A,f)=some (v,A',f'):=h;simp only[ZI,ZP]at h;obtain⟨rfl,rfl,rfl⟩:=h;exact⟨M,rfl,hl,hM,λ_ _ _=>rfl,ai _⟩
 |get b k ih=>
  intro A M f v A' f' hl hlo hM h;have h:z8 (S.contains b||Nat.ble lo b) (ob (hget A b) λx=>qam S lo (k x) A ((b,false)::f)) none=some (v,A',f'):=h;rw[zh]at h;split at h
  ·rename_i hs;obtain⟨x,hx,h⟩:=zC h;rw[qiD]at hx;have hMb:=hM b (qok hs);obtain⟨M',h1,h2⟩:=ih x A M _ v A' f' hl hlo hM h;refine⟨M',?_,h2⟩;simp only[exec,hMb,hx];exact h1
  cases h
 |set b x k ih=>
  intro A M f v A' f' hl hlo hM h;have h:z8 (S.contains b||Nat.ble lo b) (z8 (Nat.blt b (hlen A)) (qam S lo k (hset A b x) ((b,true)::f)) none) none=some (v,A',f'):=h;rw[zh]at h;split at h
  ·rename_i hs;rw[zh]at h;split at h
   ·rename_i hlt;rw[yw]at hlt;rw[qiy]at h;have hb:b<A.length:=Ys hlt
    obtain⟨M',h1,h2,h3,h4,h5⟩:=ih (A.set b x) (M.set b x) _ v A' f' (by simp[hl]) (by simpa using hlo) (λc hc=>by
     by_cases e:b=c
     ·subst e;rw[List.getElem?_set_self (by omega),List.getElem?_set_self hb]
     rw[Yw e,Yw e,hM c hc]) h
    refine⟨M',?_,h2,h3,λc hc hcS=>?_,by simpa using h5⟩
    ·simp only[exec,hl,hb,aT];exact h1
    rw[h4 c hc hcS,Yw];rintro rfl;rcases qok hs with h|h
    ·exact hcS h
    omega
   cases h
  cases h
 |new x k ih=>
  intro A M f v A' f' hl hlo hM h;have h:qam S lo (k (hlen A)) (happ A x) f=some (v,A',f'):=h;rw[yw,qiz]at h
  obtain⟨M',h1,h2,h3,h4,h5⟩:=ih A.length (A++[x]) (M++[x]) f v A' f' (by simp[hl]) (by simp;omega) (λc hc=>by
   rcases aw c A.length with hlt|hge
   ·rw[Yf (by omega),Yf hlt,hM c hc]
   rw[Yo (by omega),Yo hge,hl]) h
  refine⟨M',?_,h2,h3,λc hc hcS=>?_,?_⟩
  ·simp only[exec,hl];exact h1
  ·rw[h4 c hc hcS,Yf (by omega)]
  simp at h5;omega
def Le (a b:zB):Prop:= ∀c args A r,a c args A=some r->b c args A=some r
section
variable (P:Program) (call:zB)
def qfa (o:Op):Bool:=match o with
 | .call _=>true
 |_=>false
def qiR (o:Oper) (fr:Fr) (A:Heap):Res:=
 z8 (qfa o.op)
  (Option.rec (motive:=λ_=>Res) (qlI (qp4 P o (vD fr)) A []) (λg=>ob (call g.1 g.2 A) λr=>some (r.1,r.2,[])) (jL o (vD fr)))
  (qlI (qp4 P o (vD fr)) A [])
def qhE (ops:Array Oper) (l:List Oper):Fr->Heap->Option (Fr×Heap):=
 List.rec (motive:=λ_=>Fr->Heap->Option (Fr×Heap)) (λfr A=>some (fr,A))
  (λo _ ih fr A=>ob (qeB ops o fr) λw=>z8 w (ob (qiR P call o fr A) λr=>ih (qcy fr o.dst r.1) r.2.1) (ih (qcy fr o.dst (.tuple [])) A)) l
def qk0 (o:Oper) (fr:Fr) (A:Heap):Option (AV×Heap×Rec):=
 z8 (qfa o.op&&(jL o (vD fr)).isSome)
  (ob (qhu P call o fr A) λr=>some (r.1,z8 (r.2.2.fp.isEmpty&&Nat.beq (hlen r.2.1) (hlen A)) A r.2.1,r.2.2))
  (z8 ((qaG o (vD fr) A).all λb=>Nat.blt b (hlen A))
   (ob (qam (qaG o (vD fr) A) (hlen A) (qp4 P o (vD fr)) A []) λr=>some (r.1,r.2.1,⟨qaG o (vD fr) A,r.2.2.any (·.2),hlen A,hlen r.2.1⟩)) none)
def qno (ops:Array Oper) (o:Oper) (fr:Fr) (A:Heap):Option ((Fr×Heap)×Rec):=
 ob (qeB ops o (maskF (vX ops o) fr)) λw=>z8 w
  (ob (qk0 P call o (maskF (vX ops o) fr) A) λr=>some ((qcy fr o.dst r.1,r.2.1),r.2.2))
  (some ((qcy fr o.dst (.tuple []),A),⟨[],false,hlen A,hlen A⟩))
def qpX (ops:Array Oper) (l:List Oper):Fr->Heap->Option ((Fr×Heap)×List Rec):=
 List.rec (motive:=λ_=>Fr->Heap->Option ((Fr×Heap)×List Rec)) (λfr A=>some ((fr,A),[]))
  (λo _ ih fr A=>ob (qno P call ops o fr A) λq=>ob (ih q.1.1 q.1.2) λr=>some (r.1,q.2::r.2)) l
def qkg (ops:Array Oper) (fr:Fr) (A:Heap):Option (Fr×Heap):=
 ob (qpX P call ops ops.toList fr A) λr=>z8 (qgK ops r.2) (some r.1) none
def qg1 (ops:Array Oper) (draw:Bool) (s:St):Option St:=
 z8 draw (qkg P call ops s.1 s.2) (qhE P call ops ops.toList s.1 s.2)
variable (N:Nat) (rd:Option Nat)
def qrx (n:Nat) (f:St->Option (XA×St)):St->Option (XA×St):=
 Nat.rec (motive:=λ_=>St->Option (XA×St)) (λ_=>none)
  (λ_ ih s=>ob (f s) λr=>XA.rec (motive:=λ_=>Option (XA×St)) (ih r.2) (λid=>some (.exit id,r.2)) (some (.ret,r.2)) r.1) n
def qkY (a:AV):Option Bool:=match a with
 | .bool b=>some b
 |_=>none
def qei (c:Code):St->Option (XA×St):=
 Code.rec (motive:=λ_=>St->Option (XA×St))
  (λs=>some (.normal,s))
  (λ_ ops draw s=>ob (qg1 P call ops draw s) λr=>some (.normal,r))
  (λ_ _ iha ihb s=>ob (iha s) λr=>XA.rec (motive:=λ_=>Option (XA×St)) (ihb r.2) (λid=>some (.exit id,r.2)) (some (.ret,r.2)) r.1)
  (λc _ _ iha ihb s=>ob (qkY (vD s.1 c)) λb=>z8 b (iha s) (ihb s))
  (λid _ ih s=>ob (ih s) λr=>XA.rec (motive:=λ_=>Option (XA×St)) (some (.normal,r.2)) (λk=>z8 (Nat.beq k id) (some (.normal,r.2)) (some (.exit k,r.2))) (some (.ret,r.2)) r.1)
  (λ_ ih s=>qrx N ih s)
  (λg ps asg body _ _ s=>zo P call N rd (.rangeFunc g ps asg body) s)
  (λid s=>some (.exit id,s))
  (λ_ ih s=>ih s)
  (λ_ s=>some (.normal,s))
  (λ_ _=>none)
  (λs=>some (.ret,s))
  (λ_ _=>none) c
def qnJ (b:Nat) (args:List AV) (A:Heap):Option (AV×Heap):=
 match A[b]? with
 |some (.loop _ _ fr ps asg bd)=>
  if args.length=ps.size then
   match qei P call N (some b) asg (setAll fr ps.toList args,A)with
   |some (.normal,fr1,A1)=>match A1[b]? with
    |some (.loop .ready p1 f1 ps1 as1 bd1)=>qpu b (qei P call N (some b) bd (fr1,A1.set b (.loop .busy p1 f1 ps1 as1 bd1)))
    |_=>none
   |_=>none
  else none
 |_=>none
def qm8 (f:FuncId) (args:List AV) (A:Heap):Option (AV×Heap):=
 match P.funcs[f]? with
 |some fn=>
  if fn.name== "runtime.NumGoroutine" then none else
  match fn.body with
  |some c=>
   match qei P call N none c (frOf fn.ntmps args,A)with
   |some (.exit _,_)=>none
   |some (_,fr,A')=>(zU P fr A' fn.results.toList).map λvs=>(qg9 vs,A')
   |none=>none
  |none=>none
 |none=>none
def qlu (c:Cl) (args:List AV) (A:Heap):Option (AV×Heap):=
 Cl.rec (motive:=λ_=>Option (AV×Heap)) (λf=>qm8 P call N f args A) (λb=>qnJ P call N b args A) (λ_ _=>none) c
end
def qip (P:Program) (call:zB) (N:Nat) (post:zB):zB:=λc args A=>
 Option.rec (motive:=λ_=>Option (AV×Heap)) (qlu P call N c args A) some (post c args A)
def qkq (mt:TypeId->String->Option FuncId) (c:Cl):Cl:=
 Cl.rec (motive:=λ_=>Cl) (λf=> .fn f) (λb=> .rd b) (λt m=>Option.rec (motive:=λ_=>Cl) (.mt t m) (λf=> .fn f) (mt t m)) c
def qp5 (P:Program) (N:Nat) (mt:TypeId->String->Option FuncId) (pre post:zB) (pl:FuncId->Bool) (d:Nat):zB:=
 Nat.rec (motive:=λ_=>zB) pre (λ_ ih c args A=>Option.rec (motive:=λ_=>Option (AV×Heap)) (qlK (qip P ih N post) pl (qkq mt c) args A) some (pre (qkq mt c) args A)) d
section
variable {P:Program}{call call':zB}{N:Nat}{rd:Option Nat}
def qlM (hc:Le call call') {o:Oper}{fr:Fr}{A:Heap}{r:AV×Heap×zx}(h:qbF P call o fr A=some r):qbF P call' o fr A=some r:=by
 unfold qbF at h⊢;split at h
 ·obtain⟨x,hx,he⟩:=Yd.1 h;rw[hc _ _ _ _ hx];exact az some he
 exact h
def qpk (hc:Le call call') {o:Oper}{fr:Fr}{A:Heap}{r:AV×Heap×zx}(h:qiR P call o fr A=some r):qbF P call' o fr A=some r:=by
 unfold qiR at h;rw[qf9,zh,qpY,qoG]at h;unfold qbF;split at h
 ·cases hg:jL o (yj fr)with
  |none=>rw[hg]at h;exact h
  |some g=>
   rw[hg]at h;obtain⟨x,hx,he⟩:=zC h;obtain⟨g,args⟩:=g;simp only[hc _ _ _ _ hx,ZM];exact he
 rename_i hn
 have:jL o (yj fr)=none:=by
  unfold jL;cases ho:o.op<;>simp[ho,qfa]at hn⊢
 rw[this];exact h
def qpi (hc:Le call call') {ops:Array Oper}:∀(l:List Oper) {fr:Fr}{A:Heap}{r:Fr×Heap},qhE P call ops l fr A=some r->qfT P call' ops l fr A=some r:=by
 intro l
 induction l with
 |nil=>intro fr A r h;exact h
 |cons o l ih=>
  intro fr A r h;obtain⟨w,hw,h⟩:=zC (show ob (qeB ops o fr) (λw=>z8 w (ob (qiR P call o fr A) λr=>qhE P call ops l (qcy fr o.dst r.1) r.2.1) (qhE P call ops l (qcy fr o.dst (.tuple [])) A))=some r from h);rw[qfV]at hw;simp only[qfT,hw]
  cases w with
  |true=>
   obtain⟨x,hx,h⟩:=zC (show ob (qiR P call o fr A) (λr=>qhE P call ops l (qcy fr o.dst r.1) r.2.1)=some r from h);obtain⟨v,A',f⟩:=x;rw[qbn]at h;simp only[qpk hc hx];exact ih h
  |false=>
   have h:qhE P call ops l (qcy fr o.dst (.tuple [])) A=some r:=h;rw[qbn]at h;exact ih h
def qmK (hc:Le call call') {o:Oper}{fr:Fr}{A:Heap}{r:AV×Heap×Rec}(h:qhu P call o fr A=some r):qhu P call' o fr A=some r:=by
 unfold qhu at h⊢;simp only at h⊢;split at h
 ·rename_i hall;rw[ae hall];split at h
  ·rename_i v B f hs;rw[qlM hc hs];exact h
  cases h
 cases h
def qhA {A B:Heap}(h:B.length=A.length):merge [] A B=A:=by
 refine List.ext_getElem? λb=>?_
 rw[qcH];rcases aw b A.length with hb|hb
 ·rw[Ya (show b<B.length by omega),Ya hb];simp[hb,List.getD_eq_getElem?_getD]
 rw[Yg (by omega),Yg hb];rfl
def qo5 (hc:Le call call') {o:Oper}{fr:Fr}{A:Heap}{r:AV×Heap×Rec}(h:qk0 P call o fr A=some r):qhu P call' o fr A=some r:=by
 unfold qk0 at h;rw[qf9,qoG]at h;rw[zh]at h;split at h
 ·obtain⟨x,hx,h⟩:=zC h;have hx':=qmK hc hx;rw[hx'];rw[<-h];obtain⟨v,B,q⟩:=x;simp only[ZI,ZP,true_and,gk];rw[zh];split
  ·rename_i hb;simp only[aR,yw]at hb;obtain⟨h1,h2⟩:=hb;have hlen:=dG h2;unfold qhu at hx;simp only at hx;split at hx
   ·split at hx
    ·split at hx
     ·simp only[ZI,ZP]at hx;obtain⟨_,h3,h4⟩:=hx;rw[<-h4]at h1;simp only[eo]at h1;rw[h1]at h3;rw[<-h3]at hlen⊢;rw[qaA]at hlen;exact qhA hlen
     cases hx
    cases hx
   cases hx
  rfl
 rename_i hn;rw[zh]at h;split at h
 ·rename_i hall;obtain⟨x,hx,h⟩:=zC h;obtain⟨v,A',f⟩:=x
  have hnc:jL o (yj fr)=none:=by
   cases hg:jL o (yj fr)with
   |none=>rfl
   |some g=>
    exfalso;apply hn;rw[hg];unfold jL at hg;cases ho:o.op<;>simp[ho,qfa]at hg⊢
  simp only[yw]at hall hx h;generalize hS:qaG o (yj fr) A=S at hall hx h
  have hall2:∀b∈S,b<A.length:=λb hb=>Ys (Yp.1 hall b hb)
  obtain⟨M',h1,h2,h3,h4,h5⟩:=qgH S A.length (aop P o (yj fr)) A (mask S A) [] v A' f (xQ _ _) (ai _) (λb hb=>by
   rw[qdU];rcases hb with hb|hb
   ·rw[Ya (hall2 b hb)];simp[hb]
   rw[Yg hb];rfl) hx
  have hm:merge S A M'=A':=by
   refine List.ext_getElem? λb=>?_
   rw[qcH];rcases aw b A'.length with hb|hb
   ·rw[Ya (show b<M'.length by omega)];simp only[ZM];by_cases hc:b<A.length/\b∉S
    ·have e:(decide (b<A.length)&&!S.contains b)=true:=by simp[hc.1,hc.2]
     rw[ae e,h4 b hc.1 hc.2,Ya hc.1];simp[List.getD_eq_getElem?_getD,List.getElem?_eq_getElem hc.1]
    have e:¬(decide (b<A.length)&&!S.contains b)=true:=by
     simp only[aR,aO,dA,List.contains_eq_mem];intro h;exact hc ⟨h.1,by simpa using h.2⟩
    rw[aa e,<-h3 b (by
     rcases aw b A.length with hlt|hge
     ·left
      exact Classical.byContradiction λhs=>hc ⟨hlt,hs⟩
     exact .inr hge),Ya (show b<M'.length by omega)]
   rw[Yg (show M'.length<=b by omega),Yg hb];rfl
  have hall3:(S.all λb=>decide (b<A.length))=true:=Yp.2 λb hb=>ap (hall2 b hb)
  unfold qhu;simp only[hS,hall3,aT];unfold qbF;simp only[hnc,h1,be,gu,Bool.or_false]
  have h0:A.length<=M'.length:=by omega
  rw[ae h0,hm,<-h,h2]
 cases h
def qpo (hc:Le call call') {ops:Array Oper}{j:Nat}{o:Oper}(ho:ops[j]? =some o) {fr:Fr}{A:Heap}{r:(Fr×Heap)×Rec}(h:qno P call ops o fr A=some r):qgB P call' ops j (fr,A)=some r:=by
 obtain⟨w,hw,h⟩:=zC h;rw[qfV]at hw;simp only[qgB,ho,hw]
 cases w with
 |true=>
  obtain⟨x,hx,h⟩:=zC (show ob (qk0 P call o (maskF (vX ops o) fr) A) (λr=>some ((qcy fr o.dst r.1,r.2.1),r.2.2))=some r from h);obtain⟨v,B,q⟩:=x;rw[qbn]at h;simp only[qo5 hc hx];exact h
 |false=>
  have h:some ((qcy fr o.dst (.tuple []),A),(⟨[],false,hlen A,hlen A⟩:Rec))=some r:=h;rw[qbn,yw]at h;exact h
def qrR (hc:Le call call') {ops:Array Oper}:∀(l pre:List Oper),ops.toList=pre++l->∀{fr:Fr}{A:Heap}{r:(Fr×Heap)×List Rec},qpX P call ops l fr A=some r->qiJ P call' ops l.length pre.length (fr,A)=some r:=by
 intro l
 induction l with
 |nil=>intro pre _ fr A r h;exact h
 |cons o l ih=>
  intro pre hp fr A r h;obtain⟨q,hq,h⟩:=zC (show ob (qno P call ops o fr A) (λq=>ob (qpX P call ops l q.1.1 q.1.2) λr=>some (r.1,q.2::r.2))=some r from h);obtain⟨x,hx,h⟩:=zC h
  have ho:ops[pre.length]? =some o:=by
   rw[<-YT,hp];simp
  obtain⟨⟨fr1,A1⟩,rc⟩:=q;have h2:=ih (pre++[o]) (by simp[hp]) hx;simp only[Yq,Yr,aN,aG]at h2;simp only[Yr,qiJ,qpo hc ho hq,h2,ZM];exact h
def qmi (hc:Le call call') {ops:Array Oper}{draw:Bool}{s r:St}(h:qg1 P call ops draw s=some r):qeW P call' ops draw s=some r:=by
 unfold qg1 at h;unfold qeW
 cases draw with
 |true=>
  obtain⟨x,hx,h⟩:=zC (show qkg P call ops s.1 s.2=some r from h);have h2:=qrR hc ops.toList [] rfl hx
  have hlen:ops.toList.length=ops.size:=by simp
  rw[hlen]at h2;simp only[aT,qfz];rw[show qiJ P call' ops ops.size 0 (s.1,s.2)=some x from h2];obtain⟨x1,x2⟩:=x;rw[zh]at h;exact h
 |false=>
  simp only[ZF,bh];exact qpi hc _ h
def qrS {f f':St->Option (XA×St)}(hf:∀s r,f s=some r->f' s=some r):∀(n:Nat) {s:St}{r:XA×St},qrx n f s=some r->qgx n f' s=some r:=by
 intro n
 induction n with
 |zero=>intro s r h;cases h
 |succ n ih=>
  intro s r h;obtain⟨x,hx,h⟩:=zC (show ob (f s) (λr=>XA.rec (motive:=λ_=>Option (XA×St)) (qrx n f r.2) (λid=>some (.exit id,r.2)) (some (.ret,r.2)) r.1)=some r from h);obtain⟨x1,x2⟩:=x;simp only[qgx,hf _ _ hx]
  cases x1 with
  |normal=>exact ih h
  |exit id=>exact h
  |ret=>exact h
def qlT {a:AV}{b:Bool}(h:qkY a=some b):a= .bool b:=by
 unfold qkY at h;split at h
 ·injection h with h;rw[h]
 cases h
def qq6 (hc:Le call call'):∀(c:Code) {s:St}{r:XA×St},zo P call N rd c s=some r->zo P call' N rd c s=some r:=by
 have regLe:∀{ops:Array Oper}{draw:Bool}{s r:St},qeW P call ops draw s=some r->qeW P call' ops draw s=some r:=by
  intro ops draw s r h
  have hI:∀{j:Nat}{s:Fr×Heap}{r:(Fr×Heap)×Rec},qgB P call ops j s=some r->qgB P call' ops j s=some r:=by
   intro j s r h;unfold qgB at h⊢;split at h
   ·cases h
   rename_i o ho;split at h
   ·split at h
    ·rename_i v A' q hs;simp only[qmK hc hs];exact h
    cases h
   ·exact h
   cases h
  have hL:∀(l:List Oper) {fr:Fr}{A:Heap}{r:Fr×Heap},qfT P call ops l fr A=some r->qfT P call' ops l fr A=some r:=by
   intro l
   induction l with
   |nil=>intro fr A r h;exact h
   |cons o l ih=>
    intro fr A r h;simp only[qfT]at h⊢;split at h
    ·split at h
     ·rename_i v A' f hs;simp only[qlM hc hs];exact ih h
     cases h
    ·exact ih h
    cases h
  have hR:∀(m j:Nat) {s:Fr×Heap}{r:(Fr×Heap)×List Rec},qiJ P call ops m j s=some r->qiJ P call' ops m j s=some r:=by
   intro m
   induction m with
   |zero=>intro j s r h;exact h
   |succ m ih=>
    intro j s r h;simp only[qiJ]at h⊢;split at h
    ·rename_i s' q hs;simp only[hI hs];obtain⟨x,hx,he⟩:=Yd.1 h;rw[ih _ hx];exact az some he
    cases h
  unfold qeW at h⊢;split at h
  ·rename_i hd;rw[ae hd];unfold qfz at h⊢;split at h
   ·rename_i x rs hs;rw[hR _ _ hs];exact h
   cases h
  rename_i hd;rw[aa hd];exact hL _ h
 intro c
 induction c with
 |region id ops draw=>
  intro s r h;simp only[zo]at h⊢;obtain⟨x,hx,he⟩:=Yd.1 h;rw[regLe hx];exact az some he
 |seq a b iha ihb=>
  intro s r h;simp only[zo]at h⊢;split at h
  ·rename_i s' hs;rw[iha hs];exact ihb h
  rename_i r' hr
  cases hx:zo P call N rd a s with
  |none=>rw[hx]at h;cases h
  |some x=>
   rw[iha hx];rw[hx]at h;obtain⟨x1,x2⟩:=x
   cases x1 with
   |normal=>exact absurd hx (hr x2)
   |exit id=>exact h
   |ret=>exact h
 |cond c a b iha ihb=>
  intro s r h;simp only[zo]at h⊢;split at h
  ·exact iha h
  ·exact ihb h
  cases h
 |block id b ih=>
  intro s r h;simp only[zo]at h⊢
  cases hx:zo P call N rd b s with
  |none=>rw[hx]at h;cases h
  |some x=>
   rw[ih hx];rw[hx]at h;exact h
 |loop b ih=>
  intro s r h;simp only[zo]at h⊢
  have:∀(n:Nat) {s:St}{r:XA×St},qgx n (zo P call N rd b) s=some r->qgx n (zo P call' N rd b) s=some r:=by
   intro n
   induction n with
   |zero=>intro s r h;cases h
   |succ n ihn=>
    intro s r h;simp only[qgx]at h⊢
    cases hx:zo P call N rd b s with
    |none=>rw[hx]at h;cases h
    |some x=>
     rw[ih hx];rw[hx]at h;obtain⟨x1,x2⟩:=x
     cases x1 with
     |normal=>exact ihn h
     |exit id=>exact h
     |ret=>exact h
  exact this N h
 |scope b ih=>intro s r h;exact ih h
 |rangeFunc g ps asg body=>
  intro s r h;simp only[zo]at h⊢;split at h
  ·rename_i hok hg;split at h
   ·cases h
   rename_i hent;rw[aa hent];split at h
   ·rename_i v A2 hcall;rw[hc _ _ _ _ hcall];exact h
   cases h
  cases h
 |_=>intro s r h;first|exact h|(simp[zo]at h⊢;done)|(simp only[zo]at h⊢;exact h)
def qhR (hc:Le call call'):∀(c:Code) {s:St}{r:XA×St},qei P call N rd c s=some r->zo P call' N rd c s=some r:=by
 intro c
 induction c with
 |skip=>intro s r h;exact h
 |region id ops draw=>
  intro s r h;obtain⟨x,hx,h⟩:=zC (show ob (qg1 P call ops draw s) (λr=>some (XA.normal,r))=some r from h);simp only[zo,qmi hc hx,ZM];exact h
 |seq a b iha ihb=>
  intro s r h;obtain⟨x,hx,h⟩:=zC (show ob (qei P call N rd a s) (λr=>XA.rec (motive:=λ_=>Option (XA×St)) (qei P call N rd b r.2) (λid=>some (.exit id,r.2)) (some (.ret,r.2)) r.1)=some r from h);obtain⟨x1,x2⟩:=x;simp only[zo,iha hx]
  cases x1 with
  |normal=>exact ihb h
  |exit id=>exact h
  |ret=>exact h
 |cond c a b iha ihb=>
  intro s r h;obtain⟨x,hx,h⟩:=zC (show ob (qkY (vD s.1 c)) (λt=>z8 t (qei P call N rd a s) (qei P call N rd b s))=some r from h);rw[qf9]at hx;simp only[zo,qlT hx]
  cases x with
  |true=>exact iha h
  |false=>exact ihb h
 |block id b ih=>
  intro s r h;obtain⟨x,hx,h⟩:=zC (show ob (qei P call N rd b s) (λr=>XA.rec (motive:=λ_=>Option (XA×St)) (some (.normal,r.2)) (λk=>z8 (Nat.beq k id) (some (.normal,r.2)) (some (.exit k,r.2))) (some (.ret,r.2)) r.1)=some r from h);obtain⟨x1,x2⟩:=x;simp only[zo,ih hx]
  cases x1 with
  |normal=>exact h
  |exit k=>
   have h:z8 (Nat.beq k id) (some (XA.normal,x2)) (some (.exit k,x2))=some r:=h;rw[zh]at h;simp only;by_cases e:k=id
   ·rw[ae e];rw[ae (qge e)]at h;exact h
   rw[aa e];rw[aa (by rw[qeb e];simp)]at h;exact h
  |ret=>exact h
 |loop b ih=>
  intro s r h;exact qrS (λs r h=>ih h) N h
 |scope b ih=>intro s r h;exact ih h
 |rangeFunc g ps asg body=>intro s r h;exact qq6 hc (.rangeFunc g ps asg body) h
 |exit id=>intro s r h;exact h
 |label l=>intro s r h;exact h
 |ret=>intro s r h;exact h
 |_=>intro s r h;cases h
def qnK (hc:Le call call'):Le (qlu P call N) (qnk P call' N):=by
 intro c args A r h
 cases c with
 |fn f=>
  have h:qm8 P call N f args A=some r:=h;show ql2 P call' N f args A=some r;unfold qm8 at h;unfold ql2;split at h
  ·rename_i fn hf;rw[hf];simp only;split at h
   ·cases h
   rename_i hn;rw[aa hn];split at h
   ·rename_i c hb;rw[hb];simp only
    cases hx:qei P call N none c (frOf _ args,A)with
    |none=>rw[hx]at h;cases h
    |some x=>
     rw[qhR hc c hx];rw[hx]at h;exact h
   cases h
  cases h
 |mt t m=>cases h
 |rd b=>
  have h:qnJ P call N b args A=some r:=h;show qmh P call' N b args A=some r;unfold qnJ at h;unfold qmh;split at h
  ·rename_i hb;rw[hb];simp only;split at h
   ·rename_i hl;rw[ae hl];split at h
    ·rename_i hx;rw[qhR hc _ hx];simp only;split at h
     ·rename_i hb2;rw[hb2];simp only;rename_i p1 f1 ps1 as1 bd1;unfold qpu at h;split at h
      ·rename_i x fr2 A2 hy;rw[qhR hc _ hy];exact h
      cases h
     cases h
    cases h
   cases h
  cases h
def qnw (hm:P.follows .mixedOrders=true) (hc:ky P call):ky P (qlu P call N):=
 λc args A v A' h=>qo8 hm hc c args A v A' (qnK (λ_ _ _ _ h=>h) c args A _ h)
def qne (hm:P.follows .mixedOrders=true) (hc:ky P call) {post:zB}(hp:ky P post):ky P (qip P call N post):=by
 intro c args A v A' h;unfold qip at h
 cases hx:post c args A with
 |some x=>
  rw[hx]at h;have h:some x=some (v,A'):=h;injection h with h;subst h;exact hp _ _ _ _ _ hx
 |none=>
  rw[hx]at h;exact qnw hm hc _ _ _ _ _ h
def qpL {mt:TypeId->String->Option FuncId}(hmt:∀t m f,mt t m=some f->Enters P f/\qpc P t m f) {c:Cl}{args:List AV}{A:Heap}{v:AV}{A':Heap}(h:qc P (qkq mt c) args A v A'):qc P c args A v A':=by
 cases c with
 |fn f=>exact h
 |rd b=>exact h
 |mt t m=>
  have h:qc P (Option.rec (motive:=λ_=>Cl) (.mt t m) (λf=> .fn f) (mt t m)) args A v A':=h
  cases hf:mt t m with
  |none=>rw[hf]at h;exact h
  |some f=>
   rw[hf]at h;obtain⟨h1,h2⟩:=hmt t m f hf;exact⟨f,h2,λF nu w vs i hargs=>qc.calls (f:=f) h h1 i hargs⟩
def qrL (hm:P.follows .mixedOrders=true) {mt:TypeId->String->Option FuncId}(hmt:∀t m f,mt t m=some f->Enters P f/\qpc P t m f) {pre post:zB}{pl:FuncId->Bool}(hp:ky P pre) (hq:ky P post):∀d,ky P (qp5 P N mt pre post pl d):=by
 intro d
 induction d with
 |zero=>exact hp
 |succ d ih=>
  intro c args A v A' h;refine qpL hmt ?_;have h:Option.rec (motive:=λ_=>Option (AV×Heap)) (qlK (qip P (qp5 P N mt pre post pl d) N post) pl (qkq mt c) args A) some (pre (qkq mt c) args A)=some (v,A'):=h
  cases hx:pre (qkq mt c) args A with
  |some x=>
   rw[hx]at h;have h:some x=some (v,A'):=h;injection h with h;subst h;exact hp _ _ _ _ _ hx
  |none=>
   rw[hx]at h;exact qr3 (qne hm ih hq) pl _ _ _ _ _ h
def memo (l:List (FuncId×List AV×AV)):zB:=λc args A=>
 Cl.rec (motive:=λ_=>Option (AV×Heap)) (λf=>List.rec (motive:=λ_=>Option (AV×Heap))
  (List.rec (motive:=λ_=>Option (AV×Heap)) none (λe _ ih=>z8 (Nat.beq f e.1&&qcA (qcw 30) args e.2.1) (some (e.2.2,[])) ih) l) (λ_ _ _=>none) A) (λ_=>none) (λ_ _=>none) c
def qsH:∀{l:List (FuncId×List AV×AV)},(∀e∈l,qc P (.fn e.1) e.2.1 [] e.2.2 [])->ky P (memo l):=by
 intro l
 induction l with
 |nil=>
  intro _ c args A v A' h
  cases c with
  |rd b=>cases h
  |mt t m=>cases h
  |fn f=>
   cases A with
   |nil=>cases h
   |cons x A=>cases h
 |cons e l ih=>
  intro hl c args A v A' h
  cases c with
  |rd b=>cases h
  |mt t m=>cases h
  |fn f=>
   cases A with
   |cons x A=>cases h
   |nil=>
    have h:z8 (Nat.beq f e.1&&qcA (qcw 30) args e.2.1) (some (e.2.2,[])) (memo l (.fn f) args [])=some (v,A'):=h;rw[zh]at h;split at h
    ·rename_i hb;simp only[aR]at hb;have e1:=dG hb.1;have e2:=qg8 (qjr 30) _ _ hb.2;simp only[ZI,ZP]at h;obtain⟨rfl,rfl⟩:=h;subst e1 e2;exact hl e (by simp)
    exact ih (λe he=>hl e (by simp[he])) _ _ _ _ _ h
end
end
section
variable [Glob]
open Go.RowKit
class Base where
 nu:Nat->Option Nat
 A:Heap
 fresh:∀b,A.length<=b->nu b=none
 rd:Option Nat
 rr:Option Nat
 hrd:qnz rd rr nu
@[instance_reducible] def Base.zero:Base:=⟨λ_=>none,[],λ_ _=>rfl,none,none,trivial⟩
instance (priority:=low) instBaseZero:Base:=Base.zero
def Goes [Base] (P:Program) (c:Code) (s:St) (Q:XA->St->Prop):Prop:=
 ∀(F0:Nat->Prop) (w0:World) (n:Nat) (F:Nat->Prop) (nu:Nat->Option Nat) (a:Act) (w:World),
  Stp F0 Base.nu Base.A w0 F nu s.2 w->RF F nu w s.1 a.tmps->Dfr w0.heap.size F nu s.2 w a.defers->
  ∀K:Exit->Act->World->Prop,(∀x s' F' nu' a' w',Q x s'->Stp F0 Base.nu Base.A w0 F' nu' s'.2 w'->RF F' nu' w' s'.1 a'.tmps->Dfr w0.heap.size F' nu' s'.2 w' a'.defers->K (qi0 x) a' w')->
  c.wpIn (fz Base.rr) n P K a w
section
variable [Base]{P:Program}{call:zB}{N:Nat}{c c1 c2:Code}{s:St}{Q:XA->St->Prop}
def Goes.imp {Q':XA->St->Prop}(h:Goes P c s Q) (hq:∀x s',Q x s'->Q' x s'):Goes P c s Q':=
 λF0 w0 n F nu a w st hf hd K hK=>h F0 w0 n F nu a w st hf hd K (λx s' F' nu' a' w' q=>hK x s' F' nu' a' w' (hq x s' q))
def Goes.skip (h:Q .normal s):Goes P .skip s Q:=λ_ _ _ F nu a w st hf hd _ hK=>wpIn_skip (hK .normal s F nu a w h st hf hd)
def Goes.label {l:Nat}(h:Q .normal s):Goes P (.label l) s Q:=λ_ _ _ F nu a w st hf hd _ hK=>wpIn_label (hK .normal s F nu a w h st hf hd)
def Goes.exit {id:Nat}(h:Q (.exit id) s):Goes P (.exit id) s Q:=λ_ _ _ F nu a w st hf hd _ hK=>wpIn_exit (hK (.exit id) s F nu a w h st hf hd)
def Goes.ret (h:Q .ret s):Goes P .ret s Q:=λ_ _ _ F nu a w st hf hd _ hK=>wpIn_ret (hK .ret s F nu a w h st hf hd)
def andThen (k:St->Prop) (Q:XA->St->Prop):XA->St->Prop
 | .normal,s=>k s
 |x,s=>Q x s
def Goes.seq (h:Goes P c1 s (andThen (λs'=>Goes P c2 s' Q) Q)):Goes P (.seq c1 c2) s Q:=by
 intro F0 w0 n F nu a w st hf hd K hK;refine wpIn_seq (h F0 w0 n F nu a w st hf hd _ (λx s' F' nu' a' w' q st' hf' hd'=>?_))
 cases x with
 |normal=>exact q F0 w0 n F' nu' a' w' st' hf' hd' K hK
 |exit id=>exact hK (.exit id) s' F' nu' a' w' q st' hf' hd'
 |ret=>exact hK .ret s' F' nu' a' w' q st' hf' hd'
def Goes.cond {co:Operand}{b:Bool}(hv:yj s.1 co= .bool b) (ht:b=true->Goes P c1 s Q) (hf:b=false->Goes P c2 s Q):Goes P (.cond co c1 c2) s Q:=by
 intro F0 w0 n F nu a w st hfr hd K hK;have hv2:=hfr.eval st.inv.glob co;rw[hv]at hv2
 have hb:a.eval co= .bool b:=by
  generalize a.eval co=z at hv2;cases hv2
  rfl
 cases b with
 |true=>exact wpIn_cond_true hb (ht rfl F0 w0 n F nu a w st hfr hd K hK)
 |false=>exact wpIn_cond_false hb (hf rfl F0 w0 n F nu a w st hfr hd K hK)
def qor (id:Nat) (Q:XA->St->Prop):XA->St->Prop
 | .exit k,s=>if k=id then Q .normal s else Q (.exit k) s
 |x,s=>Q x s
def Goes.block {id:Nat}(h:Goes P c s (qor id Q)):Goes P (.block id c) s Q:=by
 intro F0 w0 n F nu a w st hf hd K hK;refine wpIn_block (h F0 w0 n F nu a w st hf hd _ (λx s' F' nu' a' w' q st' hf' hd'=>?_))
 cases x with
 |normal=>exact hK .normal s' F' nu' a' w' q st' hf' hd'
 |ret=>exact hK .ret s' F' nu' a' w' q st' hf' hd'
 |exit k=>
  simp only[qi0,Exit.inBlock];simp only[qor]at q;split at q
  ·rename_i e;rw[ae e];exact hK .normal s' F' nu' a' w' q st' hf' hd'
  rename_i e;rw[aa e];exact hK (.exit k) s' F' nu' a' w' q st' hf' hd'
def Goes.scope (h:Goes P c s Q):Goes P (.scope c) s Q:=by
 intro F0 w0 n F nu a w st hf hd K hK;refine qde (h F0 w0 n F nu a w st hf hd _ (λx s' F' nu' a' w' q st' hf' hd'=>?_));have:=hK x s' F' nu' a' w' q st' hf' hd';cases x<;>exact this
def Goes.loop (I:Nat->St->Prop) (hstep:∀m s,I m s->Goes P c s (andThen (λs'=>∃m',m'<m/\I m' s') Q)) {m:Nat}(h0:I m s):Goes P (.loop c) s Q:=by
 intro F0 w0 n F nu a w st hf hd K hK;have key:∀(m:Nat) (s:St),I m s->∀(F:Nat->Prop) (nu:Nat->Option Nat) (a:Act) (w:World),Stp F0 Base.nu Base.A w0 F nu s.2 w->RF F nu w s.1 a.tmps->Dfr w0.heap.size F nu s.2 w a.defers->
  ∀(b:Frame) (k:List Item) (cs:List Frame),b.roundOf=(fz Base.rr).round->(fz Base.rr).fn b.fn->(fz Base.rr).room (cs.length+1+n)->
  ∃e a₂ w₂,K e a₂ w₂/\ArrivesIn (Machine.fenced P (fz Base.rr)) P (lone (b.atR a (.code c:: .inLoop c::k)) cs w) b k cs e a₂ w₂:=by
  intro m
  induction m using Nat.strongRecOn with
  |_ m ih=>
   intro s hI F nu a w st hf hd b k cs hro hb hr;refine qeH ?_ b k cs hro hb hr;refine hstep m s hI F0 w0 n F nu a w st hf hd _ (λx s' F' nu' a' w' q st' hf' hd'=>?_)
   cases x with
   |normal=>
    obtain⟨m',hlt,hI'⟩:=q;exact ih m' hlt s' hI' F' nu' a' w' st' hf' hd'
   |exit id=>exact hK (.exit id) s' F' nu' a' w' q st' hf' hd'
   |ret=>exact hK .ret s' F' nu' a' w' q st' hf' hd'
 intro b k cs hro hb hr;obtain⟨e,a₂,w₂,hq2,harr⟩:=key m s h0 F nu a w st hf hd b k cs hro hb hr;exact⟨e,a₂,w₂,hq2,.of_steps (.one (fenced_calm hb hr rfl) stepR_loop) harr⟩
variable {ops:Array Oper}{l:List Oper}{fr:Fr}{A:Heap}{K:Fr->Heap->Prop}
def Up (n:Nat) (g:Nat->AV) (t:Nat):(Fr.fn n g).get t=if t<n then g t else .undef:=by
 simp only[Fr.get];by_cases h:t<n
 ·rw[ae h,show Nat.blt t n=true from bD h];rfl
 rw[aa h,qcE (by omega)];rfl
def qgW (g:Nat->AV) (t:Nat) (a:AV) (u:Nat):qg7 g t a u=if u=t then a else g u:=by
 unfold qg7;by_cases h:u=t
 ·rw[ae h,qge h];rfl
 rw[aa h,qeb h];rfl
def qiP:List AV->Nat->(Nat->AV)->Nat->AV
 |[],_,g=>g
 |a::AZ,k,g=>qiP AZ (k+1) (qg7 g k a)
def qko:∀(AZ:List AV) (k:Nat) (g:Nat->AV) (j:Nat),(j<k\/k+AZ.length<=j->qiP AZ k g j=g j)/\(k<=j->∀a,AZ[j-k]? =some a->qiP AZ k g j=a):=by
 intro AZ
 induction AZ with
 |nil=>intro k g j;exact⟨λ_=>rfl,λ_ a h=>by simp at h⟩
 |cons a AZ ih=>
  intro k g j;obtain⟨h1,h2⟩:=ih (k+1) (qg7 g k a) j;simp only[qiP];refine⟨λh=>?_,λh b hb=>?_⟩
  ·have hj:j<k\/k+(AZ.length+1)<=j:=by simpa using h
   rw[h1 (by omega)];simp only[qg7,qeb (show j≠k by omega),cond_false]
  rcases aw k j with hk|hk
  ·have e:j-k=(j-(k+1))+1:=by omega
   rw[e]at hb;exact h2 (by omega) b (by simpa using hb)
  have e:j=k:=by omega
  subst e;rw[cd]at hb;simp only[Yj,ZI]at hb;subst hb;rw[h1 (.inl (by omega))];simp only[qg7,qge rfl,cond_true]
def frFn (n:Nat) (args:List AV):Fr:= .fn n (qiP args 0 λ_=> .undef)
def RF.frFn {F:Nat->Prop}{nu:Nat->Option Nat}{w:World}{args:List AV}{vs:Array Value}{n m:Nat}(hm:args.length+(n-args.length)=m) (h:RL F nu w args vs):RF F nu w (frFn m args) (vs++Array.replicate (n-vs.size) undef):=by
 have hs:=h.1;refine⟨by simp[Go.Av.frFn,Fr.n,hs,hm],λt v hv=>?_,λt ht=>?_⟩
 ·have hlt:t<m:=by
   have:=(YB.1 hv).1;simp[hs]at this;omega
  have hb:Nat.blt t m=true:=bD hlt;show R F nu w (cond (Nat.blt t m) (qiP args 0 (λ_=> .undef) t) .undef) v;rw[hb,cond_true];rcases aw t args.length with h1|h1
  ·rw[YC (by omega)]at hv;rw[(qko args 0 _ t).2 (aD _) args[t] (by simp[h1])];exact h.2 t _ v (Ya h1) hv
  rw[(qko args 0 _ t).1 (by omega)];exact .undef v
 simp only[Go.Av.frFn,Fr.n]at ht;show cond (Nat.blt t m) (qiP args 0 (λ_=> .undef) t) AV.undef=AV.undef;rw[qcE ht];rfl
end
section
variable {P:Program}{c:Code}
def returns (P:Program) (rs:List ResultVar) (v:AV):XA->St->Prop
 | .exit _,_=>False
 |_,s=>∃xs,zU P s.1 s.2 rs=some xs/\frz s.2 (List.range s.2.length) 12 (qg9 xs)=some v
def Stp.hand {F F2:Nat->Prop}{nu2:Nat->Option Nat}{w w':World}{Al:Heap}(st:Stp F (λ_=>none) [] w F2 nu2 Al w'):Stp F (λ_=>none) [] w (FS F2 nu2 Al (List.range Al.length)) (λ_=>none) [] w':=by
 have noOwn:∀rb,¬qa5 (λ_=>none) [] w rb:=by
  rintro rb ⟨b,x,r,hb,_⟩;cases hb
 have hF3:∀rb,rb<w.heap.size->FS F2 nu2 Al (List.range Al.length) rb->F rb:=by
  rintro rb hlt (h1|⟨b,x,_,h1,h2,h3⟩)
  ·rcases st.newF rb h1 with h2|h2|h2
   ·exact h2
   ·omega
   exact absurd h2 (noOwn rb)
  exact absurd (st.own rb hlt (.of h1 h2 h3)) (noOwn rb)
 refine⟨λrb h=> .inl (st.f rb h),λ_ _ h=>h,st.shape,⟨by simp,by simp,λ_ _=>rfl,λrb h=>?_,by simp,Glob.mono st.inv.glob (λ_ h=> .inl h) λ_ _=>rfl⟩,λrb hlt _=>st.keep rb hlt (noOwn rb),?_,st.size,st.os,st.tape,st.output,λ_ _=>rfl,ai _,λrb h=>?_⟩
 ·rcases h with h|⟨b,x,_,h,_⟩
  ·exact st.inv.ltF rb h
  exact st.inv.ltN b rb h
 ·rintro rb _ ⟨b,x,r,hb,_⟩;cases hb
 rcases aw rb w.heap.size with hlt|hge
 ·exact .inl (hF3 rb hlt h)
 exact .inr (.inl hge)
end
end
section
variable [Glob]
section
variable {P:Program}{call:zB}{fr:Fr}{A:Heap}{d:Option Tmp}{ty:TypeId}{ps:String}{af:Array Edge}{g:Option (Nat×Bool)}
end
section
variable {P:Program}{call:zB}{ops:Array Oper}{l:List Oper}{fr:Fr}{A:Heap}{s:St}{Q:XA->St->Prop}
end
section
variable {P:Program}{d:Option Tmp}{ty:TypeId}{ps:String}{af:Array Edge}{g:Option (Nat×Bool)}{ρ:Operand->AV}
end
def qtp (tbl:FuncId->List AV->Option AV):zB:=λc args A=>match c with
 | .fn f=>match A with
   |[]=>(tbl f args).map λv=>(v,[])
   |_::_=>none
 | .rd _=>none
 | .mt _ _=>none
def qrV {P:Program}{tbl:FuncId->List AV->Option AV}(h:∀f args v,tbl f args=some v->qc P (.fn f) args [] v []):ky P (qtp tbl):=by
 intro c args A v A' he
 cases c with
 |rd b=>cases he
 |mt t m=>cases he
 |fn f=>
  cases A with
  |cons x A=>cases he
  |nil=>
   obtain⟨x,hx,hr⟩:=Yd.1 he;simp only[ZP]at hr;obtain⟨rfl,rfl⟩:=hr;exact h f args _ hx
def Still (d:Nat) (a:AV):Prop:= ∀(A:Heap) (S:List Nat),frz A S d a=some a
def zW {A:Heap}{S:List Nat}{d:Nat}:∀{cs:List AV},(∀c∈cs,Still d c)->cs.mapM (frz A S d)=some cs:=by
 intro cs
 induction cs with
 |nil=>intro _;rfl
 |cons c cs ih=>
  intro h;rw[cA,h c (by simp) A S,ih λx hx=>h x (by simp[hx])];rfl
def Still.int (d:Nat) (k:IntKind) (n:Int):Still (d+1) (.int k n):=λ_ _=>rfl
def Still.bool (d:Nat) (b:Bool):Still (d+1) (.bool b):=λ_ _=>rfl
def Still.str (d:Nat) (b:List UInt8):Still (d+1) (.str b):=λ_ _=>rfl
def Still.nilslice (d:Nat):Still (d+1) .nilslice:=λ_ _=>rfl
def Still.fslice {d n:Nat}{cs:List AV}(h:∀c∈cs,Still d c):Still (d+1) (.fslice n cs):=λA S=>by
 simp only[frz,zW h,ZM]
def Still.agg {d:Nat}{cs:List AV}(h:∀c∈cs,Still d c):Still (d+1) (.agg cs):=λA S=>by
 simp only[frz,zW h,ZM]
def Still.tuple {d:Nat}{cs:List AV}(h:∀c∈cs,Still d c):Still (d+1) (.tuple cs):=λA S=>by
 simp only[frz,zW h,ZM]
end
abbrev ag:=@Goes.skip
abbrev ah:=@Goes.ret
abbrev aj:=@Goes.block
abbrev aA:=@Goes.exit
end Go.Av
end
