/-
  The evaluator once more, told by recursors, so that the kernel has few steps to go; where it tells something, callP tells the same.
-/
import Derived.Test.YtjflombnfhlkaaaGreatDoorAvCon
import Derived.IntWalk
noncomputable section
namespace Go.Av
set_option linter.unusedSectionVars false
variable [Glob]
def ob {α β : Type} (x : Option α) (k : α → Option β) : Option β := Option.rec (motive := fun _ => Option β) none k x
theorem kH {α β : Type} {x : Option α} {k : α → Option β} {r : β} (h : ob x k = some r) : ∃ a, x = some a ∧ k a = some r := by
  cases x with
  | none => cases h
  | some a => exact ⟨a, rfl, h⟩
def zk {α : Type} (b : Bool) (x y : α) : α := Bool.rec (motive := fun _ => α) y x b
theorem ky {α : Type} (b : Bool) (x y : α) : zk b x y = if b = true then x else y := by cases b <;> rfl
def hget (A : Heap) : Nat → Option Blk :=
  List.rec (motive := fun _ => Nat → Option Blk) (fun _ => none) (fun x _ ih b => Nat.rec (motive := fun _ => Option Blk) (some x) (fun n _ => ih n) b) A
theorem qcU : ∀ (A : Heap) (b : Nat), hget A b = A[b]? := by
  intro A
  induction A with
  | nil => intro b; rfl
  | cons x A ih =>
    intro b
    cases b with
    | zero => rfl
    | succ b => exact (ih b).trans (by simp)
def hset (A : Heap) : Nat → Blk → Heap :=
  List.rec (motive := fun _ => Nat → Blk → Heap) (fun _ _ => []) (fun y ys ih b x => Nat.rec (motive := fun _ => Heap) (x :: ys) (fun n _ => y :: ih n x) b) A
theorem qcO : ∀ (A : Heap) (b : Nat) (x : Blk), hset A b x = A.set b x := by
  intro A
  induction A with
  | nil => intro b x; rfl
  | cons y A ih =>
    intro b x
    cases b with
    | zero => rfl
    | succ b => exact congrArg (y :: ·) (ih b x)
def happ (A : Heap) (x : Blk) : Heap := List.rec (motive := fun _ => Heap) [x] (fun y _ ih => y :: ih) A
theorem qcQ : ∀ (A : Heap) (x : Blk), happ A x = A ++ [x] := by
  intro A
  induction A with
  | nil => intro x; rfl
  | cons y A ih => intro x; exact congrArg (y :: ·) (ih x)
def hlen (A : Heap) : Nat := List.rec (motive := fun _ => Nat) 0 (fun _ _ ih => Nat.succ ih) A
theorem ji : ∀ (A : Heap), hlen A = A.length := by
  intro A
  induction A with
  | nil => rfl
  | cons y A ih => exact congrArg Nat.succ ih
def qif (v : Value) : AV :=
  match v with
  | .int k n => .int k n
  | .bool b => .bool b
  | v => yG 3 v
theorem qg4 (v : Value) : qif v = yG 3 v := by cases v <;> rfl
def zX (fr : Fr) (x : Operand) : AV :=
  Operand.rec (motive := fun _ => AV) (fun t => fr.get t) (fun v => qif v) (fun g => Glob.gl g) (fun f => .func (.func f) [] []) x
theorem qba (fr : Fr) : zX fr = zn fr := by
  funext x
  cases x with
  | const v => exact qg4 v
  | _ => rfl
def qfe {β : Type} (a : AV) (k : IntKind → Int → Option β) : Option β :=
  AV.rec (motive_1 := fun _ => Option β) (motive_2 := fun _ => Unit) none (fun _ => none) k (fun _ => none) none (fun _ _ => none) (fun _ _ _ => none) none (fun _ _ _ _ _ => none) (fun _ _ _ => none) (fun _ _ _ => none) (fun _ _ _ _ => none) (fun _ _ _ => none) none (fun _ => none)
    (fun _ _ _ _ => none) (fun _ _ _ _ _ => none) (fun _ => none) none (fun _ _ _ => none) none (fun _ _ => none) (fun _ _ => none) none () (fun _ _ _ _ => ()) a
theorem qdA {β : Type} {a : AV} {k : IntKind → Int → Option β} {r : β} (h : qfe a k = some r) : ∃ q n, a = .int q n ∧ k q n = some r := by
  cases a <;> first | exact ⟨_, _, rfl, h⟩ | cases h
def qfa {β : Type} (k : IntKind) (x : Option β) : Option β := IntKind.rec (motive := fun _ => Option β) none none none x none none none none k
def qh0 (n : Int) : Int :=
  Int.rec (motive := fun _ => Int) (fun m => zk (Nat.blt m 9223372036854775808) (.ofNat m) (IntKind.wrap .i64 (.ofNat m))) (fun m => zk (Nat.blt m 9223372036854775808) (.negSucc m) (IntKind.wrap .i64 (.negSucc m))) n
theorem qhY (n : Int) : qh0 n = IntKind.wrap .i64 n := by
  cases n with
  | ofNat m =>
    show zk _ _ _ = _
    rw [ky]
    split
    · rename_i h
      have h : m < 9223372036854775808 := Nat.le_of_ble_eq_true h
      exact (Go.IntWalk.i64_in _ ⟨by simp only [Int.ofNat_eq_natCast]; omega, by simp only [Int.ofNat_eq_natCast]; omega⟩).symm
    · rfl
  | negSucc m =>
    show zk _ _ _ = _
    rw [ky]
    split
    · rename_i h
      have h : m < 9223372036854775808 := Nat.le_of_ble_eq_true h
      have := Int.negSucc_eq m
      exact (Go.IntWalk.i64_in _ ⟨by omega, by omega⟩).symm
    · rfl
def addK (a b : Int) : Int :=
  Int.rec (motive := fun _ => Int) (fun m => Int.rec (motive := fun _ => Int) (fun n => .ofNat (Nat.add m n)) (fun n => Int.add (.ofNat m) (.negSucc n)) b) (fun m => Int.add (.negSucc m) b) a
theorem qiM (a b : Int) : addK a b = a + b := by
  cases a <;> cases b <;> rfl
def mulK (a b : Int) : Int :=
  Int.rec (motive := fun _ => Int) (fun m => Int.rec (motive := fun _ => Int) (fun n => .ofNat (Nat.mul m n)) (fun n => Int.mul (.ofNat m) (.negSucc n)) b) (fun m => Int.mul (.negSucc m) b) a
theorem qi3 (a b : Int) : mulK a b = a * b := by
  cases a <;> cases b <;> rfl
def ltK (a b : Int) : Bool :=
  Int.rec (motive := fun _ => Bool) (fun m => Int.rec (motive := fun _ => Bool) (fun n => Nat.blt m n) (fun _ => false) b) (fun m => Int.rec (motive := fun _ => Bool) (fun _ => true) (fun n => Nat.blt n m) b) a
theorem qjO (a b : Int) : ltK a b = decide (a < b) := by
  have key : ∀ m n : Nat, Nat.blt m n = decide (m < n) := by
    intro m n
    by_cases h : m < n
    · rw [decide_eq_true h]; exact Nat.ble_eq_true_of_le h
    · rw [decide_eq_false h]; exact yQ (by omega)
  cases a with
  | ofNat m =>
    cases b with
    | ofNat n => exact (key m n).trans (decide_eq_decide.2 (by simp))
    | negSucc n =>
      refine (decide_eq_false ?_).symm
      have := Int.negSucc_eq n
      simp only [Int.ofNat_eq_natCast]
      omega
  | negSucc m =>
    cases b with
    | ofNat n =>
      refine (decide_eq_true ?_).symm
      have := Int.negSucc_eq m
      simp only [Int.ofNat_eq_natCast]
      omega
    | negSucc n =>
      refine (key n m).trans (decide_eq_decide.2 ?_)
      have := Int.negSucc_eq n
      have := Int.negSucc_eq m
      omega
def eqK (a b : Int) : Bool :=
  Int.rec (motive := fun _ => Bool) (fun m => Int.rec (motive := fun _ => Bool) (fun n => Nat.beq m n) (fun _ => false) b) (fun m => Int.rec (motive := fun _ => Bool) (fun _ => false) (fun n => Nat.beq m n) b) a
theorem qjS (a b : Int) : eqK a b = (a == b) := by
  have key : ∀ m n : Nat, Nat.beq m n = decide (m = n) := by
    intro m n
    by_cases h : m = n
    · rw [decide_eq_true h]; exact qar h
    · rw [decide_eq_false h]; exact xW h
  have e : (a == b) = decide (a = b) := by rfl
  rw [e]
  cases a with
  | ofNat m =>
    cases b with
    | ofNat n => exact (key m n).trans (decide_eq_decide.2 (by simp only [Int.ofNat_eq_natCast]; omega))
    | negSucc n => exact (decide_eq_false (by simp)).symm
  | negSucc m =>
    cases b with
    | ofNat n => exact (decide_eq_false (by simp)).symm
    | negSucc n => exact (key m n).trans (decide_eq_decide.2 (by simp))
def binI (op : BinOp) (a b : Int) : Option AV :=
  match op with
  | .add => some (.int .i64 (qh0 (addK a b)))
  | .mul => some (.int .i64 (qh0 (mulK a b)))
  | .eql => some (.bool (eqK a b))
  | .neq => some (.bool (zk (eqK a b) false true))
  | .lss => some (.bool (ltK a b))
  | .leq => some (.bool (zk (ltK b a) false true))
  | .gtr => some (.bool (ltK b a))
  | .geq => some (.bool (zk (ltK a b) false true))
  | _ => none
theorem qjc {op : BinOp} {a b : Int} {v : AV} (h : binI op a b = some v) (P : Program) (t : TypeId) (ox oy : Operand) : qe6 P op t ox oy (.int .i64 a) (.int .i64 b) = some v := by
  have nb : ∀ x : Bool, zk x false true = !x := by intro x; cases x <;> rfl
  cases op <;> simp only [binI, qhY, qiM, qi3, qjO, qjS, nb, reduceCtorEq] at h <;> rw [← h] <;> simp only [qe6, qb1, qeZ, Bool.false_eq_true, if_false, if_true, Option.some.injEq, AV.bool.injEq]
  · rfl
  · rw [← decide_not]; exact decide_eq_decide.2 (by omega)
  · rw [← decide_not]; exact decide_eq_decide.2 (by omega)
def binK (P : Program) (op : BinOp) (t : TypeId) (ox oy : Operand) (x y : AV) : Option AV :=
  Option.rec (motive := fun _ => Option AV) (qe6 P op t ox oy x y) some
    (qfe x fun k a => qfa k (qfe y fun q b => qfa q (binI op a b)))
theorem qdC {β : Type} {k : IntKind} {x : Option β} {r : β} (h : qfa k x = some r) : k = .i64 ∧ x = some r := by
  cases k <;> first | exact ⟨rfl, h⟩ | cases h
theorem qiZ (P : Program) (op : BinOp) (t : TypeId) (ox oy : Operand) (x y : AV) : binK P op t ox oy x y = qe6 P op t ox oy x y := by
  unfold binK
  cases h : qfe x fun k a => qfa k (qfe y fun q b => qfa q (binI op a b)) with
  | none => rfl
  | some v =>
    obtain ⟨k, a, e1, h1⟩ := qdA h
    obtain ⟨e2, h2⟩ := qdC h1
    obtain ⟨q, b, e3, h3⟩ := qdA h2
    obtain ⟨e4, h4⟩ := qdC h3
    subst e1 e2 e3 e4
    exact (qjc h4 P t ox oy).symm
def optK (x : Option AV) : Pg := Option.rec (motive := fun _ => Pg) .fail .done x
theorem qiS (x : Option AV) : optK x = .opt x := by cases x <;> rfl
def qix (P : Program) (o : Oper) (ρ : Operand → AV) : Pg :=
  match o.op with
  | .move x => .done (ρ x)
  | .assign x => .done (ρ x)
  | .binOp op t x y _ => optK (binK P op t x y (ρ x) (ρ y))
  | _ => aop P o ρ
theorem qgy (P : Program) (o : Oper) (ρ : Operand → AV) : qix P o ρ = aop P o ρ := by
  unfold qix
  split
  · rename_i h; simp only [aop, h]
  · rename_i h; simp only [aop, h]
  · rename_i h; simp only [aop, h, qiS, qiZ]
  · rfl
def yF (fr : Fr) (dst : Option Tmp) (v : AV) : Fr := Option.rec (motive := fun _ => Fr) fr (fun d => fr.set d v) dst
theorem vL (fr : Fr) (dst : Option Tmp) (v : AV) : yF fr dst v = ym fr dst v := by cases dst <;> rfl
def qab (ops : Array Oper) (o : Oper) (fr : Fr) : Option Bool := Option.rec (motive := fun _ => Option Bool) (some true) (fun _ => ja ops o fr) o.guard
theorem qaW (ops : Array Oper) (o : Oper) (fr : Fr) : qab ops o fr = ja ops o fr := by
  unfold qab
  cases h : o.guard with
  | none => simp [ja, h]
  | some g => rfl
def qfm (p : Pg) : Heap → kM → Res :=
  Pg.rec (motive := fun _ => Heap → kM → Res) (fun _ _ => none) (fun v A f => some (v, A, f))
    (fun b _ ih A f => ob (hget A b) fun x => ih x A ((b, false) :: f))
    (fun b x _ ih A f => zk (Nat.blt b (hlen A)) (ih (hset A b x) ((b, true) :: f)) none)
    (fun x _ ih A f => ih (hlen A) (happ A x) f) p
theorem qhR : ∀ (p : Pg) (A : Heap) (f : kM), qfm p A f = exec p A f := by
  intro p
  induction p with
  | fail => intro A f; rfl
  | done v => intro A f; rfl
  | get b k ih =>
    intro A f
    show ob (hget A b) _ = _
    rw [qcU]
    simp only [exec]
    cases A[b]? with
    | none => rfl
    | some x => exact ih x A _
  | set b x k ih =>
    intro A f
    show zk (Nat.blt b (hlen A)) (qfm k (hset A b x) _) none = _
    rw [ji, qcO, ky, ih]
    simp only [exec]
    by_cases h : b < A.length
    · rw [if_pos h, if_pos (show Nat.blt b A.length = true from Nat.ble_eq_true_of_le h)]
    · rw [if_neg h, if_neg (by rw [yQ (by omega)]; simp)]
  | new x k ih =>
    intro A f
    show qfm (k (hlen A)) (happ A x) f = _
    rw [ji, qcQ, ih]
    rfl
def jR (S : List Nat) (lo : Nat) (p : Pg) : Heap → kM → Res :=
  Pg.rec (motive := fun _ => Heap → kM → Res) (fun _ _ => none) (fun v A f => some (v, A, f))
    (fun b _ ih A f => zk (S.contains b || Nat.ble lo b) (ob (hget A b) fun x => ih x A ((b, false) :: f)) none)
    (fun b x _ ih A f => zk (S.contains b || Nat.ble lo b) (zk (Nat.blt b (hlen A)) (ih (hset A b x) ((b, true) :: f)) none) none)
    (fun x _ ih A f => ih (hlen A) (happ A x) f) p
theorem qgG {S : List Nat} {lo b : Nat} (h : (S.contains b || Nat.ble lo b) = true) : b ∈ S ∨ lo ≤ b := by
  simp only [Bool.or_eq_true] at h
  rcases h with h | h
  · exact .inl (by simpa using h)
  · exact .inr (Nat.le_of_ble_eq_true h)
theorem qbE (S : List Nat) (lo : Nat) : ∀ (p : Pg) (A M : Heap) (f : kM) (v : AV) (A' : Heap) (f' : kM), M.length = A.length → lo ≤ A.length → (∀ b, (b ∈ S ∨ lo ≤ b) → M[b]? = A[b]?) → jR S lo p A f = some (v, A', f') →
    ∃ M', exec p M f = some (v, M', f') ∧ M'.length = A'.length ∧ (∀ b, (b ∈ S ∨ lo ≤ b) → M'[b]? = A'[b]?) ∧ (∀ b, b < lo → b ∉ S → A'[b]? = A[b]?) ∧ A.length ≤ A'.length := by
  intro p
  induction p with
  | fail => intro A M f v A' f' _ _ _ h; cases h
  | done u =>
    intro A M f v A' f' hl hlo hM h
    have h : some (u, A, f) = some (v, A', f') := h
    simp only [Option.some.injEq, Prod.mk.injEq] at h
    obtain ⟨rfl, rfl, rfl⟩ := h
    exact ⟨M, rfl, hl, hM, fun _ _ _ => rfl, Nat.le_refl _⟩
  | get b k ih =>
    intro A M f v A' f' hl hlo hM h
    have h : zk (S.contains b || Nat.ble lo b) (ob (hget A b) fun x => jR S lo (k x) A ((b, false) :: f)) none = some (v, A', f') := h
    rw [ky] at h
    split at h
    · rename_i hs
      obtain ⟨x, hx, h⟩ := kH h
      rw [qcU] at hx
      have hMb := hM b (qgG hs)
      obtain ⟨M', h1, h2⟩ := ih x A M _ v A' f' hl hlo hM h
      refine ⟨M', ?_, h2⟩
      simp only [exec, hMb, hx]
      exact h1
    · cases h
  | set b x k ih =>
    intro A M f v A' f' hl hlo hM h
    have h : zk (S.contains b || Nat.ble lo b) (zk (Nat.blt b (hlen A)) (jR S lo k (hset A b x) ((b, true) :: f)) none) none = some (v, A', f') := h
    rw [ky] at h
    split at h
    · rename_i hs
      rw [ky] at h
      split at h
      · rename_i hlt
        rw [ji] at hlt
        rw [qcO] at h
        have hb : b < A.length := Nat.le_of_ble_eq_true hlt
        obtain ⟨M', h1, h2, h3, h4, h5⟩ := ih (A.set b x) (M.set b x) _ v A' f' (by simp [hl]) (by simpa using hlo) (fun c hc => by
          by_cases e : b = c
          · subst e
            rw [List.getElem?_set_self (by omega), List.getElem?_set_self hb]
          · rw [List.getElem?_set_ne e, List.getElem?_set_ne e, hM c hc]) h
        refine ⟨M', ?_, h2, h3, fun c hc hcS => ?_, by simpa using h5⟩
        · simp only [exec, hl, hb, if_true]
          exact h1
        · rw [h4 c hc hcS, List.getElem?_set_ne]
          rintro rfl
          rcases qgG hs with h | h
          · exact hcS h
          · omega
      · cases h
    · cases h
  | new x k ih =>
    intro A M f v A' f' hl hlo hM h
    have h : jR S lo (k (hlen A)) (happ A x) f = some (v, A', f') := h
    rw [ji, qcQ] at h
    obtain ⟨M', h1, h2, h3, h4, h5⟩ := ih A.length (A ++ [x]) (M ++ [x]) f v A' f' (by simp [hl]) (by simp; omega) (fun c hc => by
      rcases Nat.lt_or_ge c A.length with hlt | hge
      · rw [List.getElem?_append_left (by omega), List.getElem?_append_left hlt, hM c hc]
      · rw [List.getElem?_append_right (by omega), List.getElem?_append_right hge, hl]) h
    refine ⟨M', ?_, h2, h3, fun c hc hcS => ?_, ?_⟩
    · simp only [exec, hl]
      exact h1
    · rw [h4 c hc hcS, List.getElem?_append_left (by omega)]
    · simp at h5; omega
def Le (a b : kK) : Prop := ∀ c args A r, a c args A = some r → b c args A = some r
section
variable (P : Program) (call : kK)
def qaA (o : Op) : Bool := match o with
  | .call _ => true
  | _ => false
def qdY (o : Oper) (fr : Fr) (A : Heap) : Res :=
  zk (qaA o.op)
    (Option.rec (motive := fun _ => Res) (qfm (qix P o (zX fr)) A []) (fun g => ob (call g.1 g.2 A) fun r => some (r.1, r.2, [])) (kS o (zX fr)))
    (qfm (qix P o (zX fr)) A [])
def qcj (ops : Array Oper) (l : List Oper) : Fr → Heap → Option (Fr × Heap) :=
  List.rec (motive := fun _ => Fr → Heap → Option (Fr × Heap)) (fun fr A => some (fr, A))
    (fun o _ ih fr A => ob (qab ops o fr) fun w => zk w (ob (qdY P call o fr A) fun r => ih (yF fr o.dst r.1) r.2.1) (ih (yF fr o.dst (.tuple [])) A)) l
def qeW (o : Oper) (fr : Fr) (A : Heap) : Option (AV × Heap × Rec) :=
  zk (qaA o.op && (kS o (zX fr)).isSome)
    (ob (qaY P call o fr A) fun r => some (r.1, zk (r.2.2.fp.isEmpty && Nat.beq (hlen r.2.1) (hlen A)) A r.2.1, r.2.2))
    (zk ((jr o (zX fr) A).all fun b => Nat.blt b (hlen A))
      (ob (jR (jr o (zX fr) A) (hlen A) (qix P o (zX fr)) A []) fun r => some (r.1, r.2.1, ⟨jr o (zX fr) A, r.2.2.any (·.2), hlen A, hlen r.2.1⟩)) none)
def qfU (ops : Array Oper) (o : Oper) (fr : Fr) (A : Heap) : Option ((Fr × Heap) × Rec) :=
  ob (qab ops o (maskF (kL ops o) fr)) fun w => zk w
    (ob (qeW P call o (maskF (kL ops o) fr) A) fun r => some ((yF fr o.dst r.1, r.2.1), r.2.2))
    (some ((yF fr o.dst (.tuple []), A), ⟨[], false, hlen A, hlen A⟩))
def qhD (ops : Array Oper) (l : List Oper) : Fr → Heap → Option ((Fr × Heap) × List Rec) :=
  List.rec (motive := fun _ => Fr → Heap → Option ((Fr × Heap) × List Rec)) (fun fr A => some ((fr, A), []))
    (fun o _ ih fr A => ob (qfU P call ops o fr A) fun q => ob (ih q.1.1 q.1.2) fun r => some (r.1, q.2 :: r.2)) l
def qex (ops : Array Oper) (fr : Fr) (A : Heap) : Option (Fr × Heap) :=
  ob (qhD P call ops ops.toList fr A) fun r => zk (qaN ops r.2) (some r.1) none
def qbZ (ops : Array Oper) (draw : Bool) (s : St) : Option St :=
  zk draw (qex P call ops s.1 s.2) (qcj P call ops ops.toList s.1 s.2)
variable (N : Nat) (rd : Option Nat)
def qhG (n : Nat) (f : St → Option (XA × St)) : St → Option (XA × St) :=
  Nat.rec (motive := fun _ => St → Option (XA × St)) (fun _ => none)
    (fun _ ih s => ob (f s) fun r => XA.rec (motive := fun _ => Option (XA × St)) (ih r.2) (fun id => some (.exit id, r.2)) (some (.ret, r.2)) r.1) n
def qeQ (a : AV) : Option Bool := match a with
  | .bool b => some b
  | _ => none
def x9 (c : Code) : St → Option (XA × St) :=
  Code.rec (motive := fun _ => St → Option (XA × St))
    (fun s => some (.normal, s))
    (fun _ ops draw s => ob (qbZ P call ops draw s) fun r => some (.normal, r))
    (fun _ _ iha ihb s => ob (iha s) fun r => XA.rec (motive := fun _ => Option (XA × St)) (ihb r.2) (fun id => some (.exit id, r.2)) (some (.ret, r.2)) r.1)
    (fun c _ _ iha ihb s => ob (qeQ (zX s.1 c)) fun b => zk b (iha s) (ihb s))
    (fun id _ ih s => ob (ih s) fun r => XA.rec (motive := fun _ => Option (XA × St)) (some (.normal, r.2)) (fun k => zk (Nat.beq k id) (some (.normal, r.2)) (some (.exit k, r.2))) (some (.ret, r.2)) r.1)
    (fun _ ih s => qhG N ih s)
    (fun g ps asg body _ _ s => kE P call N rd (.rangeFunc g ps asg body) s)
    (fun id s => some (.exit id, s))
    (fun _ ih s => ih s)
    (fun _ s => some (.normal, s))
    (fun _ _ => none)
    (fun s => some (.ret, s))
    (fun _ _ => none) c
def qf3 (b : Nat) (args : List AV) (A : Heap) : Option (AV × Heap) :=
  match A[b]? with
  | some (.loop _ _ fr ps asg bd) =>
    if args.length = ps.size then
      match x9 P call N (some b) asg (setAll fr ps.toList args, A) with
      | some (.normal, fr1, A1) => match A1[b]? with
        | some (.loop .ready p1 f1 ps1 as1 bd1) => qgM b (x9 P call N (some b) bd (fr1, A1.set b (.loop .busy p1 f1 ps1 as1 bd1)))
        | _ => none
      | _ => none
    else none
  | _ => none
def qgi (f : FuncId) (args : List AV) (A : Heap) : Option (AV × Heap) :=
  match P.funcs[f]? with
  | some fn =>
    if fn.name == "runtime.NumGoroutine" then none else
    match fn.body with
    | some c =>
      match x9 P call N none c (frOf fn.ntmps args, A) with
      | some (.exit _, _) => none
      | some (_, fr, A') => (zD P fr A' fn.results.toList).map fun vs => (qcy vs, A')
      | none => none
    | none => none
  | none => none
def qeB (c : Cl) (args : List AV) (A : Heap) : Option (AV × Heap) :=
  Cl.rec (motive := fun _ => Option (AV × Heap)) (fun f => qgi P call N f args A) (fun b => qf3 P call N b args A) (fun _ _ => none) c
end
def qcR (P : Program) (call : kK) (N : Nat) (post : kK) : kK := fun c args A =>
  Option.rec (motive := fun _ => Option (AV × Heap)) (qeB P call N c args A) some (post c args A)
def qed (mt : TypeId → String → Option FuncId) (c : Cl) : Cl :=
  Cl.rec (motive := fun _ => Cl) (fun f => .fn f) (fun b => .rd b) (fun t m => Option.rec (motive := fun _ => Cl) (.mt t m) (fun f => .fn f) (mt t m)) c
def qhw (P : Program) (N : Nat) (mt : TypeId → String → Option FuncId) (pre post : kK) (pl : FuncId → Bool) (d : Nat) : kK :=
  Nat.rec (motive := fun _ => kK) pre (fun _ ih c args A => Option.rec (motive := fun _ => Option (AV × Heap)) (qel (qcR P ih N post) pl (qed mt c) args A) some (pre (qed mt c) args A)) d
section
variable {P : Program} {call call' : kK} {N : Nat} {rd : Option Nat}
theorem qfH (hc : Le call call') {o : Oper} {fr : Fr} {A : Heap} {r : AV × Heap × kM} (h : jX P call o fr A = some r) : jX P call' o fr A = some r := by
  unfold jX at h ⊢
  split at h
  · obtain ⟨x, hx, he⟩ := Option.map_eq_some_iff.1 h
    rw [hc _ _ _ _ hx]
    exact congrArg some he
  · exact h
theorem qg8 (hc : Le call call') {o : Oper} {fr : Fr} {A : Heap} {r : AV × Heap × kM} (h : qdY P call o fr A = some r) : jX P call' o fr A = some r := by
  unfold qdY at h
  rw [qba, ky, qhR, qgy] at h
  unfold jX
  split at h
  · cases hg : kS o (zn fr) with
    | none => rw [hg] at h; exact h
    | some g =>
      rw [hg] at h
      obtain ⟨x, hx, he⟩ := kH h
      obtain ⟨g, args⟩ := g
      simp only [hc _ _ _ _ hx, Option.map_some]
      exact he
  · rename_i hn
    have : kS o (zn fr) = none := by
      unfold kS
      cases ho : o.op <;> simp [ho, qaA] at hn ⊢
    rw [this]
    exact h
theorem qhc (hc : Le call call') {ops : Array Oper} : ∀ (l : List Oper) {fr : Fr} {A : Heap} {r : Fr × Heap}, qcj P call ops l fr A = some r → xX P call' ops l fr A = some r := by
  intro l
  induction l with
  | nil => intro fr A r h; exact h
  | cons o l ih =>
    intro fr A r h
    obtain ⟨w, hw, h⟩ := kH (show ob (qab ops o fr) (fun w => zk w (ob (qdY P call o fr A) fun r => qcj P call ops l (yF fr o.dst r.1) r.2.1) (qcj P call ops l (yF fr o.dst (.tuple [])) A)) = some r from h)
    rw [qaW] at hw
    simp only [xX, hw]
    cases w with
    | true =>
      obtain ⟨x, hx, h⟩ := kH (show ob (qdY P call o fr A) (fun r => qcj P call ops l (yF fr o.dst r.1) r.2.1) = some r from h)
      obtain ⟨v, A', f⟩ := x
      rw [vL] at h
      simp only [qg8 hc hx]
      exact ih h
    | false =>
      have h : qcj P call ops l (yF fr o.dst (.tuple [])) A = some r := h
      rw [vL] at h
      exact ih h
theorem qfs (hc : Le call call') {o : Oper} {fr : Fr} {A : Heap} {r : AV × Heap × Rec} (h : qaY P call o fr A = some r) : qaY P call' o fr A = some r := by
  unfold qaY at h ⊢
  simp only at h ⊢
  split at h
  · rename_i hall
    rw [if_pos hall]
    split at h
    · rename_i v B f hs
      rw [qfH hc hs]
      exact h
    · cases h
  · cases h
theorem qei {A B : Heap} (h : B.length = A.length) : merge [] A B = A := by
  refine List.ext_getElem? fun b => ?_
  rw [yS]
  rcases Nat.lt_or_ge b A.length with hb | hb
  · rw [List.getElem?_eq_getElem (show b < B.length by omega), List.getElem?_eq_getElem hb]
    simp [hb, List.getD_eq_getElem?_getD]
  · rw [List.getElem?_eq_none (by omega), List.getElem?_eq_none hb]
    rfl
theorem qhb (hc : Le call call') {o : Oper} {fr : Fr} {A : Heap} {r : AV × Heap × Rec} (h : qeW P call o fr A = some r) : qaY P call' o fr A = some r := by
  unfold qeW at h
  rw [qba, qgy] at h
  rw [ky] at h
  split at h
  · obtain ⟨x, hx, h⟩ := kH h
    have hx' := qfs hc hx
    rw [hx']
    rw [← h]
    obtain ⟨v, B, q⟩ := x
    simp only [Option.some.injEq, Prod.mk.injEq, true_and, and_true]
    rw [ky]
    split
    · rename_i hb
      simp only [Bool.and_eq_true, ji] at hb
      obtain ⟨h1, h2⟩ := hb
      have hlen := Nat.eq_of_beq_eq_true h2
      unfold qaY at hx
      simp only at hx
      split at hx
      · split at hx
        · split at hx
          · simp only [Option.some.injEq, Prod.mk.injEq] at hx
            obtain ⟨_, h3, h4⟩ := hx
            rw [← h4] at h1
            simp only [List.isEmpty_iff] at h1
            rw [h1] at h3
            rw [← h3] at hlen ⊢
            rw [vo] at hlen
            exact qei hlen
          · cases hx
        · cases hx
      · cases hx
    · rfl
  · rename_i hn
    rw [ky] at h
    split at h
    · rename_i hall
      obtain ⟨x, hx, h⟩ := kH h
      obtain ⟨v, A', f⟩ := x
      have hnc : kS o (zn fr) = none := by
        cases hg : kS o (zn fr) with
        | none => rfl
        | some g =>
          exfalso
          apply hn
          rw [hg]
          unfold kS at hg
          cases ho : o.op <;> simp [ho, qaA] at hg ⊢
      simp only [ji] at hall hx h
      generalize hS : jr o (zn fr) A = S at hall hx h
      have hall2 : ∀ b ∈ S, b < A.length := fun b hb => Nat.le_of_ble_eq_true (List.all_eq_true.1 hall b hb)
      obtain ⟨M', h1, h2, h3, h4, h5⟩ := qbE S A.length (aop P o (zn fr)) A (mask S A) [] v A' f (zO _ _) (Nat.le_refl _) (fun b hb => by
        rw [xG]
        rcases hb with hb | hb
        · rw [List.getElem?_eq_getElem (hall2 b hb)]
          simp [hb]
        · rw [List.getElem?_eq_none hb]; rfl) hx
      have hm : merge S A M' = A' := by
        refine List.ext_getElem? fun b => ?_
        rw [yS]
        rcases Nat.lt_or_ge b A'.length with hb | hb
        · rw [List.getElem?_eq_getElem (show b < M'.length by omega)]
          simp only [Option.map_some]
          by_cases hc : b < A.length ∧ b ∉ S
          · have e : (decide (b < A.length) && !S.contains b) = true := by simp [hc.1, hc.2]
            rw [if_pos e, h4 b hc.1 hc.2, List.getElem?_eq_getElem hc.1]
            simp [List.getD_eq_getElem?_getD, List.getElem?_eq_getElem hc.1]
          · have e : ¬ (decide (b < A.length) && !S.contains b) = true := by
              simp only [Bool.and_eq_true, decide_eq_true_eq, Bool.not_eq_true', List.contains_eq_mem]
              intro h
              exact hc ⟨h.1, by simpa using h.2⟩
            rw [if_neg e, ← h3 b (by
              rcases Nat.lt_or_ge b A.length with hlt | hge
              · left
                exact Classical.byContradiction fun hs => hc ⟨hlt, hs⟩
              · exact .inr hge), List.getElem?_eq_getElem (show b < M'.length by omega)]
        · rw [List.getElem?_eq_none (show M'.length ≤ b by omega), List.getElem?_eq_none hb]
          rfl
      have hall3 : (S.all fun b => decide (b < A.length)) = true := List.all_eq_true.2 fun b hb => decide_eq_true (hall2 b hb)
      unfold qaY
      simp only [hS, hall3, if_true]
      unfold jX
      simp only [hnc, h1, Option.isSome_none, Bool.false_and, Bool.or_false]
      have h0 : A.length ≤ M'.length := by omega
      rw [if_pos h0, hm, ← h, h2]
    · cases h
theorem qgQ (hc : Le call call') {ops : Array Oper} {j : Nat} {o : Oper} (ho : ops[j]? = some o) {fr : Fr} {A : Heap} {r : (Fr × Heap) × Rec} (h : qfU P call ops o fr A = some r) : qaE P call' ops j (fr, A) = some r := by
  obtain ⟨w, hw, h⟩ := kH h
  rw [qaW] at hw
  simp only [qaE, ho, hw]
  cases w with
  | true =>
    obtain ⟨x, hx, h⟩ := kH (show ob (qeW P call o (maskF (kL ops o) fr) A) (fun r => some ((yF fr o.dst r.1, r.2.1), r.2.2)) = some r from h)
    obtain ⟨v, B, q⟩ := x
    rw [vL] at h
    simp only [qhb hc hx]
    exact h
  | false =>
    have h : some ((yF fr o.dst (.tuple []), A), (⟨[], false, hlen A, hlen A⟩ : Rec)) = some r := h
    rw [vL, ji] at h
    exact h
theorem qhB (hc : Le call call') {ops : Array Oper} : ∀ (l pre : List Oper), ops.toList = pre ++ l → ∀ {fr : Fr} {A : Heap} {r : (Fr × Heap) × List Rec}, qhD P call ops l fr A = some r → qbv P call' ops l.length pre.length (fr, A) = some r := by
  intro l
  induction l with
  | nil => intro pre _ fr A r h; exact h
  | cons o l ih =>
    intro pre hp fr A r h
    obtain ⟨q, hq, h⟩ := kH (show ob (qfU P call ops o fr A) (fun q => ob (qhD P call ops l q.1.1 q.1.2) fun r => some (r.1, q.2 :: r.2)) = some r from h)
    obtain ⟨x, hx, h⟩ := kH h
    have ho : ops[pre.length]? = some o := by
      rw [← Array.getElem?_toList, hp]
      simp
    obtain ⟨⟨fr1, A1⟩, rc⟩ := q
    have h2 := ih (pre ++ [o]) (by simp [hp]) hx
    simp only [List.length_append, List.length_cons, List.length_nil, Nat.zero_add] at h2
    simp only [List.length_cons, qbv, qgQ hc ho hq, h2, Option.map_some]
    exact h
theorem qe7 (hc : Le call call') {ops : Array Oper} {draw : Bool} {s r : St} (h : qbZ P call ops draw s = some r) : xg P call' ops draw s = some r := by
  unfold qbZ at h
  unfold xg
  cases draw with
  | true =>
    obtain ⟨x, hx, h⟩ := kH (show qex P call ops s.1 s.2 = some r from h)
    have h2 := qhB hc ops.toList [] rfl hx
    have hlen : ops.toList.length = ops.size := by simp
    rw [hlen] at h2
    simp only [if_true, xy]
    rw [show qbv P call' ops ops.size 0 (s.1, s.2) = some x from h2]
    obtain ⟨x1, x2⟩ := x
    rw [ky] at h
    exact h
  | false =>
    simp only [Bool.false_eq_true, if_false]
    exact qhc hc _ h
theorem qh7 {f f' : St → Option (XA × St)} (hf : ∀ s r, f s = some r → f' s = some r) : ∀ (n : Nat) {s : St} {r : XA × St}, qhG n f s = some r → qbp n f' s = some r := by
  intro n
  induction n with
  | zero => intro s r h; cases h
  | succ n ih =>
    intro s r h
    obtain ⟨x, hx, h⟩ := kH (show ob (f s) (fun r => XA.rec (motive := fun _ => Option (XA × St)) (qhG n f r.2) (fun id => some (.exit id, r.2)) (some (.ret, r.2)) r.1) = some r from h)
    obtain ⟨x1, x2⟩ := x
    simp only [qbp, hf _ _ hx]
    cases x1 with
    | normal => exact ih h
    | exit id => exact h
    | ret => exact h
theorem qfw {a : AV} {b : Bool} (h : qeQ a = some b) : a = .bool b := by
  unfold qeQ at h
  split at h
  · injection h with h; rw [h]
  · cases h
theorem qhr (hc : Le call call') : ∀ (c : Code) {s : St} {r : XA × St}, kE P call N rd c s = some r → kE P call' N rd c s = some r := by
  have regLe : ∀ {ops : Array Oper} {draw : Bool} {s r : St}, xg P call ops draw s = some r → xg P call' ops draw s = some r := by
    intro ops draw s r h
    have hI : ∀ {j : Nat} {s : Fr × Heap} {r : (Fr × Heap) × Rec}, qaE P call ops j s = some r → qaE P call' ops j s = some r := by
      intro j s r h
      unfold qaE at h ⊢
      split at h
      · cases h
      · rename_i o ho
        split at h
        · split at h
          · rename_i v A' q hs
            simp only [qfs hc hs]
            exact h
          · cases h
        · exact h
        · cases h
    have hL : ∀ (l : List Oper) {fr : Fr} {A : Heap} {r : Fr × Heap}, xX P call ops l fr A = some r → xX P call' ops l fr A = some r := by
      intro l
      induction l with
      | nil => intro fr A r h; exact h
      | cons o l ih =>
        intro fr A r h
        simp only [xX] at h ⊢
        split at h
        · split at h
          · rename_i v A' f hs
            simp only [qfH hc hs]
            exact ih h
          · cases h
        · exact ih h
        · cases h
    have hR : ∀ (m j : Nat) {s : Fr × Heap} {r : (Fr × Heap) × List Rec}, qbv P call ops m j s = some r → qbv P call' ops m j s = some r := by
      intro m
      induction m with
      | zero => intro j s r h; exact h
      | succ m ih =>
        intro j s r h
        simp only [qbv] at h ⊢
        split at h
        · rename_i s' q hs
          simp only [hI hs]
          obtain ⟨x, hx, he⟩ := Option.map_eq_some_iff.1 h
          rw [ih _ hx]
          exact congrArg some he
        · cases h
    unfold xg at h ⊢
    split at h
    · rename_i hd
      rw [if_pos hd]
      unfold xy at h ⊢
      split at h
      · rename_i x rs hs
        rw [hR _ _ hs]
        exact h
      · cases h
    · rename_i hd
      rw [if_neg hd]
      exact hL _ h
  intro c
  induction c with
  | region id ops draw =>
    intro s r h
    simp only [kE] at h ⊢
    obtain ⟨x, hx, he⟩ := Option.map_eq_some_iff.1 h
    rw [regLe hx]
    exact congrArg some he
  | seq a b iha ihb =>
    intro s r h
    simp only [kE] at h ⊢
    split at h
    · rename_i s' hs
      rw [iha hs]
      exact ihb h
    · rename_i r' hr
      cases hx : kE P call N rd a s with
      | none => rw [hx] at h; cases h
      | some x =>
        rw [iha hx]
        rw [hx] at h
        obtain ⟨x1, x2⟩ := x
        cases x1 with
        | normal => exact absurd hx (hr x2)
        | exit id => exact h
        | ret => exact h
  | cond c a b iha ihb =>
    intro s r h
    simp only [kE] at h ⊢
    split at h
    · exact iha h
    · exact ihb h
    · cases h
  | block id b ih =>
    intro s r h
    simp only [kE] at h ⊢
    cases hx : kE P call N rd b s with
    | none => rw [hx] at h; cases h
    | some x =>
      rw [ih hx]
      rw [hx] at h
      exact h
  | loop b ih =>
    intro s r h
    simp only [kE] at h ⊢
    have : ∀ (n : Nat) {s : St} {r : XA × St}, qbp n (kE P call N rd b) s = some r → qbp n (kE P call' N rd b) s = some r := by
      intro n
      induction n with
      | zero => intro s r h; cases h
      | succ n ihn =>
        intro s r h
        simp only [qbp] at h ⊢
        cases hx : kE P call N rd b s with
        | none => rw [hx] at h; cases h
        | some x =>
          rw [ih hx]
          rw [hx] at h
          obtain ⟨x1, x2⟩ := x
          cases x1 with
          | normal => exact ihn h
          | exit id => exact h
          | ret => exact h
    exact this N h
  | scope b ih => intro s r h; exact ih h
  | rangeFunc g ps asg body =>
    intro s r h
    simp only [kE] at h ⊢
    split at h
    · rename_i hok hg
      split at h
      · cases h
      · rename_i hent
        rw [if_neg hent]
        split at h
        · rename_i v A2 hcall
          rw [hc _ _ _ _ hcall]
          exact h
        · cases h
    · cases h
  | _ => intro s r h; first | exact h | (simp [kE] at h ⊢; done) | (simp only [kE] at h ⊢; exact h)
theorem qcx (hc : Le call call') : ∀ (c : Code) {s : St} {r : XA × St}, x9 P call N rd c s = some r → kE P call' N rd c s = some r := by
  intro c
  induction c with
  | skip => intro s r h; exact h
  | region id ops draw =>
    intro s r h
    obtain ⟨x, hx, h⟩ := kH (show ob (qbZ P call ops draw s) (fun r => some (XA.normal, r)) = some r from h)
    simp only [kE, qe7 hc hx, Option.map_some]
    exact h
  | seq a b iha ihb =>
    intro s r h
    obtain ⟨x, hx, h⟩ := kH (show ob (x9 P call N rd a s) (fun r => XA.rec (motive := fun _ => Option (XA × St)) (x9 P call N rd b r.2) (fun id => some (.exit id, r.2)) (some (.ret, r.2)) r.1) = some r from h)
    obtain ⟨x1, x2⟩ := x
    simp only [kE, iha hx]
    cases x1 with
    | normal => exact ihb h
    | exit id => exact h
    | ret => exact h
  | cond c a b iha ihb =>
    intro s r h
    obtain ⟨x, hx, h⟩ := kH (show ob (qeQ (zX s.1 c)) (fun t => zk t (x9 P call N rd a s) (x9 P call N rd b s)) = some r from h)
    rw [qba] at hx
    simp only [kE, qfw hx]
    cases x with
    | true => exact iha h
    | false => exact ihb h
  | block id b ih =>
    intro s r h
    obtain ⟨x, hx, h⟩ := kH (show ob (x9 P call N rd b s) (fun r => XA.rec (motive := fun _ => Option (XA × St)) (some (.normal, r.2)) (fun k => zk (Nat.beq k id) (some (.normal, r.2)) (some (.exit k, r.2))) (some (.ret, r.2)) r.1) = some r from h)
    obtain ⟨x1, x2⟩ := x
    simp only [kE, ih hx]
    cases x1 with
    | normal => exact h
    | exit k =>
      have h : zk (Nat.beq k id) (some (XA.normal, x2)) (some (.exit k, x2)) = some r := h
      rw [ky] at h
      simp only
      by_cases e : k = id
      · rw [if_pos e]
        rw [if_pos (qar e)] at h
        exact h
      · rw [if_neg e]
        rw [if_neg (by rw [xW e]; simp)] at h
        exact h
    | ret => exact h
  | loop b ih =>
    intro s r h
    exact qh7 (fun s r h => ih h) N h
  | scope b ih => intro s r h; exact ih h
  | rangeFunc g ps asg body => intro s r h; exact qhr hc (.rangeFunc g ps asg body) h
  | exit id => intro s r h; exact h
  | label l => intro s r h; exact h
  | ret => intro s r h; exact h
  | _ => intro s r h; cases h
theorem qgg (hc : Le call call') : Le (qeB P call N) (qeX P call' N) := by
  intro c args A r h
  cases c with
  | fn f =>
    have h : qgi P call N f args A = some r := h
    show qfl P call' N f args A = some r
    unfold qgi at h
    unfold qfl
    split at h
    · rename_i fn hf
      rw [hf]
      simp only
      split at h
      · cases h
      · rename_i hn
        rw [if_neg hn]
        split at h
        · rename_i c hb
          rw [hb]
          simp only
          cases hx : x9 P call N none c (frOf _ args, A) with
          | none => rw [hx] at h; cases h
          | some x =>
            rw [qcx hc c hx]
            rw [hx] at h
            exact h
        · cases h
    · cases h
  | mt t m => cases h
  | rd b =>
    have h : qf3 P call N b args A = some r := h
    show qfo P call' N b args A = some r
    unfold qf3 at h
    unfold qfo
    split at h
    · rename_i hb
      rw [hb]
      simp only
      split at h
      · rename_i hl
        rw [if_pos hl]
        split at h
        · rename_i hx
          rw [qcx hc _ hx]
          simp only
          split at h
          · rename_i hb2
            rw [hb2]
            simp only
            rename_i p1 f1 ps1 as1 bd1
            unfold qgM at h
            split at h
            · rename_i x fr2 A2 hy
              rw [qcx hc _ hy]
              exact h
            · cases h
          · cases h
        · cases h
      · cases h
    · cases h
theorem qgb (hm : P.follows .mixedOrders = true) (hc : qW P call) : qW P (qeB P call N) :=
  fun c args A v A' h => qgR hm hc c args A v A' (qgg (fun _ _ _ _ h => h) c args A _ h)
theorem qf0 (hm : P.follows .mixedOrders = true) (hc : qW P call) {post : kK} (hp : qW P post) : qW P (qcR P call N post) := by
  intro c args A v A' h
  unfold qcR at h
  cases hx : post c args A with
  | some x =>
    rw [hx] at h
    have h : some x = some (v, A') := h
    injection h with h
    subst h
    exact hp _ _ _ _ _ hx
  | none =>
    rw [hx] at h
    exact qgb hm hc _ _ _ _ _ h
theorem qiv {mt : TypeId → String → Option FuncId} (hmt : ∀ t m f, mt t m = some f → Enters P f ∧ MtOK P t m f) {c : Cl} {args : List AV} {A : Heap} {v : AV} {A' : Heap} (h : qy P (qed mt c) args A v A') : qy P c args A v A' := by
  cases c with
  | fn f => exact h
  | rd b => exact h
  | mt t m =>
    have h : qy P (Option.rec (motive := fun _ => Cl) (.mt t m) (fun f => .fn f) (mt t m)) args A v A' := h
    cases hf : mt t m with
    | none => rw [hf] at h; exact h
    | some f =>
      rw [hf] at h
      obtain ⟨h1, h2⟩ := hmt t m f hf
      exact ⟨f, h2, fun F nu w vs i hargs => qy.calls (f := f) h h1 i hargs⟩
theorem qhL (hm : P.follows .mixedOrders = true) {mt : TypeId → String → Option FuncId} (hmt : ∀ t m f, mt t m = some f → Enters P f ∧ MtOK P t m f) {pre post : kK} {pl : FuncId → Bool} (hp : qW P pre) (hq : qW P post) : ∀ d, qW P (qhw P N mt pre post pl d) := by
  intro d
  induction d with
  | zero => exact hp
  | succ d ih =>
    intro c args A v A' h
    refine qiv hmt ?_
    have h : Option.rec (motive := fun _ => Option (AV × Heap)) (qel (qcR P (qhw P N mt pre post pl d) N post) pl (qed mt c) args A) some (pre (qed mt c) args A) = some (v, A') := h
    cases hx : pre (qed mt c) args A with
    | some x =>
      rw [hx] at h
      have h : some x = some (v, A') := h
      injection h with h
      subst h
      exact hp _ _ _ _ _ hx
    | none =>
      rw [hx] at h
      exact qhF (qf0 hm ih hq) pl _ _ _ _ _ h
def memo (l : List (FuncId × List AV × AV)) : kK := fun c args A =>
  Cl.rec (motive := fun _ => Option (AV × Heap)) (fun f => List.rec (motive := fun _ => Option (AV × Heap))
    (List.rec (motive := fun _ => Option (AV × Heap)) none (fun e _ ih => zk (Nat.beq f e.1 && yZ (yY 30) args e.2.1) (some (e.2.2, [])) ih) l) (fun _ _ _ => none) A) (fun _ => none) (fun _ _ => none) c
theorem qje : ∀ {l : List (FuncId × List AV × AV)}, (∀ e ∈ l, qy P (.fn e.1) e.2.1 [] e.2.2 []) → qW P (memo l) := by
  intro l
  induction l with
  | nil =>
    intro _ c args A v A' h
    cases c with
    | rd b => cases h
    | mt t m => cases h
    | fn f =>
      cases A with
      | nil => cases h
      | cons x A => cases h
  | cons e l ih =>
    intro hl c args A v A' h
    cases c with
    | rd b => cases h
    | mt t m => cases h
    | fn f =>
      cases A with
      | cons x A => cases h
      | nil =>
        have h : zk (Nat.beq f e.1 && yZ (yY 30) args e.2.1) (some (e.2.2, [])) (memo l (.fn f) args []) = some (v, A') := h
        rw [ky] at h
        split at h
        · rename_i hb
          simp only [Bool.and_eq_true] at hb
          have e1 := Nat.eq_of_beq_eq_true hb.1
          have e2 := qb5 (qde 30) _ _ hb.2
          simp only [Option.some.injEq, Prod.mk.injEq] at h
          obtain ⟨rfl, rfl⟩ := h
          subst e1 e2
          exact hl e (by simp)
        · exact ih (fun e he => hl e (by simp [he])) _ _ _ _ _ h
end
end Go.Av
