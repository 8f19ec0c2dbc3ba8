/-
  What the operations do, told one by one, for walks by simp.
-/
import Derived.Test.YtkjgcmachachaaaGreatDoorAvOk
import Derived.IntWalk
noncomputable section
namespace Go.Av
set_option linter.unusedSectionVars false
variable [Glob]

theorem condGo_t (a b : Prop) : condGo (.bool true) a b ↔ a := by
  unfold condGo
  simp
theorem condGo_f (a b : Prop) : condGo (.bool false) a b ↔ b := by
  unfold condGo
  simp
def pickGo (c a b : AV) : Pg := match c with
  | .bool t => .done (if t then a else b)
  | _ => .fail
theorem pick_t (a b : AV) : pickGo (.bool true) a b = .done a := rfl
theorem pick_f (a b : AV) : pickGo (.bool false) a b = .done b := rfl
def wantGo (w : Bool) (v : AV) : Option Bool := match v with
  | .bool b => some (b == w)
  | .tuple _ => some false
  | _ => none
theorem want_tt : wantGo true (.bool true) = some true := rfl
theorem want_tf : wantGo true (.bool false) = some false := rfl
theorem want_ft : wantGo false (.bool true) = some false := rfl
theorem want_ff : wantGo false (.bool false) = some true := rfl
theorem want_tup (w : Bool) (vs : List AV) : wantGo w (.tuple vs) = some false := rfl
def extGo (v : AV) (i : Nat) : Pg := match v with
  | .tuple vs => .opt vs[i]?
  | _ => .fail
theorem ext_tup (vs : List AV) (i : Nat) : extGo (.tuple vs) i = .opt vs[i]? := rfl

section
variable {P : Program} {call : CallF} {fr : Fr} {A : Heap} {d : Option Tmp} {ty : TypeId} {ps : String} {af : Array Edge} {g : Option (Nat × Bool)}

theorem st_move (x : Operand) : stepA P call ⟨d, .move x, ty, ps, af, g⟩ fr A = some (evalA fr x, A, []) := rfl
theorem st_assign (x : Operand) : stepA P call ⟨d, .assign x, ty, ps, af, g⟩ fr A = some (evalA fr x, A, []) := rfl
theorem st_pick (c a b : Operand) : stepA P call ⟨d, .pick c a b, ty, ps, af, g⟩ fr A = exec (pickGo (evalA fr c) (evalA fr a) (evalA fr b)) A [] := rfl
theorem st_alloc (e : TypeId) : stepA P call ⟨d, .alloc e, ty, ps, af, g⟩ fr A = exec (aAlloc P e) A [] := rfl
theorem st_box (e : TypeId) (x : Operand) : stepA P call ⟨d, .box e x, ty, ps, af, g⟩ fr A = exec (aBox (evalA fr x)) A [] := rfl
theorem st_build (t : TypeId) (parts : Array (Nat × Operand)) : stepA P call ⟨d, .build t parts, ty, ps, af, g⟩ fr A = exec (.opt (aBuild P t (parts.toList.map fun p => (p.1, evalA fr p.2)))) A [] := rfl
theorem st_buildSlice (t : TypeId) (n : Nat) (parts : Array (Nat × Operand)) : stepA P call ⟨d, .buildSlice t n parts, ty, ps, af, g⟩ fr A = exec (aBuildSlice P t n (parts.toList.map fun p => (p.1, evalA fr p.2))) A [] := rfl
theorem st_insert (t : TypeId) (m k v : Operand) : stepA P call ⟨d, .insert t m k v, ty, ps, af, g⟩ fr A = exec (aMapUpdate P t (evalA fr m) (evalA fr k) (evalA fr v)) A [] := rfl
theorem st_mapUpdate (t : TypeId) (m k v : Operand) : stepA P call ⟨d, .mapUpdate t m k v, ty, ps, af, g⟩ fr A = exec (aMapUpdate P t (evalA fr m) (evalA fr k) (evalA fr v)) A [] := rfl
theorem st_load (t : TypeId) (p : Operand) : stepA P call ⟨d, .load t p, ty, ps, af, g⟩ fr A = exec (aLoad P t (evalA fr p)) A [] := rfl
theorem st_store (t : TypeId) (p x : Operand) : stepA P call ⟨d, .store t p x, ty, ps, af, g⟩ fr A = exec (aStore P t (evalA fr p) (evalA fr x)) A [] := rfl
theorem st_nilCheck (x : Operand) : stepA P call ⟨d, .nilCheck x, ty, ps, af, g⟩ fr A = exec (.opt (aNilCheck (evalA fr x))) A [] := rfl
theorem st_bin (op : BinOp) (t u : TypeId) (x y : Operand) : stepA P call ⟨d, .binOp op t x y u, ty, ps, af, g⟩ fr A = exec (.opt (aBin P op t x y (evalA fr x) (evalA fr y))) A [] := rfl
theorem st_un (op : UnOp) (t : TypeId) (x : Operand) : stepA P call ⟨d, .unOp op t x, ty, ps, af, g⟩ fr A = exec (.opt (aUn op (evalA fr x))) A [] := rfl
theorem st_convert (s t : TypeId) (x : Operand) : stepA P call ⟨d, .convert s t x, ty, ps, af, g⟩ fr A = exec (aConvert P s t (evalA fr x)) A [] := rfl
theorem st_makeFunc (fn : Fn) (a b : Array Operand) : stepA P call ⟨d, .makeFunc fn a b, ty, ps, af, g⟩ fr A = some (.func fn (a.toList.map (evalA fr)) (b.toList.map (evalA fr)), A, []) := rfl
theorem st_makeMap (t : TypeId) (r : Option Operand) : stepA P call ⟨d, .makeMap t r, ty, ps, af, g⟩ fr A = exec (aMakeMap P t (r.map (evalA fr))) A [] := rfl
theorem st_makeSlice (t : TypeId) (l c : Operand) : stepA P call ⟨d, .makeSlice t l c, ty, ps, af, g⟩ fr A = exec (aMakeSlice P t (evalA fr l) (evalA fr c)) A [] := rfl
theorem st_slice (t : TypeId) (x : Operand) (l h m : Option Operand) : stepA P call ⟨d, .slice t x l h m, ty, ps, af, g⟩ fr A = exec (.opt (aSlice P t (evalA fr x) (l.map (evalA fr)) (h.map (evalA fr)) (m.map (evalA fr)))) A [] := rfl
theorem st_fieldAddr (s : TypeId) (x : Operand) (f : Nat) : stepA P call ⟨d, .fieldAddr s x f, ty, ps, af, g⟩ fr A = exec (.opt (aFieldAddr P s (evalA fr x) f)) A [] := rfl
theorem st_field (s : TypeId) (x : Operand) (f : Nat) : stepA P call ⟨d, .field s x f, ty, ps, af, g⟩ fr A = exec (.opt (aField P s (evalA fr x) f)) A [] := rfl
theorem st_indexAddr (t : TypeId) (x i : Operand) : stepA P call ⟨d, .indexAddr t x i, ty, ps, af, g⟩ fr A = exec (.opt (aIndexAddr P t (evalA fr x) (evalA fr i))) A [] := rfl
theorem st_index (t : TypeId) (x i : Operand) : stepA P call ⟨d, .index t x i, ty, ps, af, g⟩ fr A = exec (.opt (aIndex P t (evalA fr x) (evalA fr i))) A [] := rfl
theorem st_lookup (t : TypeId) (x k : Operand) (ok : Bool) : stepA P call ⟨d, .lookup t x k ok, ty, ps, af, g⟩ fr A = exec (aLookup P t (evalA fr x) (evalA fr k) ok) A [] := rfl
theorem st_range (t : TypeId) (x : Operand) : stepA P call ⟨d, .range t x, ty, ps, af, g⟩ fr A = exec (aRange P t (evalA fr x)) A [] := rfl
theorem st_next (x : Operand) (s : Bool) : stepA P call ⟨d, .next x s, ty, ps, af, g⟩ fr A = exec (aNext (evalA fr x) s) A [] := rfl
theorem st_extract (t : Operand) (i : Nat) : stepA P call ⟨d, .extract t i, ty, ps, af, g⟩ fr A = exec (extGo (evalA fr t) i) A [] := rfl
theorem st_makeInterface (t : TypeId) (x : Operand) : stepA P call ⟨d, .makeInterface t x, ty, ps, af, g⟩ fr A = exec (match P.underlying t with | some (.interface _) => .fail | some _ => .done (.iface t (evalA fr x)) | none => .fail) A [] := rfl
theorem st_builtin (b : Builtin) (as : Array Operand) (ts : Array TypeId) : stepA P call ⟨d, .call ⟨.builtin b, as, ts⟩, ty, ps, af, g⟩ fr A = exec (aBuiltin P b ts.toList (as.toList.map (evalA fr))) A [] := rfl
theorem st_call (f : FuncId) (as : Array Operand) (ts : Array TypeId) : stepA P call ⟨d, .call ⟨.value (.func f), as, ts⟩, ty, ps, af, g⟩ fr A = (call (.fn f) (as.toList.map (evalA fr)) A).map fun r => (r.1, r.2, []) := by
  unfold stepA
  simp [calleeA, evalA]

theorem ev_tmp (t : Nat) : evalA fr (.tmp t) = fr.get t := rfl
theorem ev_int (k : IntKind) (n : Int) : evalA fr (.const (.int k n)) = .int k n := rfl
theorem ev_bool (b : Bool) : evalA fr (.const (.bool b)) = .bool b := rfl
theorem ev_str (s : ByteArray) : evalA fr (.const (.string s)) = .str s.data.toList := rfl
theorem ev_nilslice : evalA fr (.const (.slice none 0 0)) = .nilslice := rfl
theorem ev_nilptr : evalA fr (.const (.pointer none)) = .nilptr := rfl
theorem ev_nilmap : evalA fr (.const (.map none)) = .nilmap := rfl
theorem ev_nilfunc : evalA fr (.const .nilFunc) = .nilfunc := rfl
theorem ev_niliface : evalA fr (.const .nilIface) = .niliface := rfl
theorem ev_func (f : FuncId) : evalA fr (.func f) = .func (.func f) [] [] := rfl

theorem want_all (ops : Array Oper) (op : Op) : wantedA ops ⟨d, op, ty, ps, af, none⟩ fr = some true := rfl
theorem want_if (ops : Array Oper) (op : Op) (j : Nat) (w : Bool) : wantedA ops ⟨d, op, ty, ps, af, some (j, w)⟩ fr = match (ops[j]?).bind (·.dst) with
    | some d => wantGo w (fr.get d)
    | none => none := rfl

theorem wtf : (true == false) = false := rfl
theorem wff : (false == false) = true := rfl
theorem wtt : (true == true) = true := rfl
theorem wft : (false == true) = false := rfl
theorem put_some (t : Nat) (v : AV) : putA fr (some t) v = fr.set t v := rfl
theorem put_none (v : AV) : putA fr none v = fr := rfl

theorem bin_int (op : BinOp) (t : TypeId) (ox oy : Operand) (k k' : IntKind) (a b : Int) : aBin P op t ox oy (.int k a) (.int k' b) = if isShift op then shiftBin op k a b else if k = k' then intBin op k a b else none := rfl
theorem bin_i64 (op : BinOp) (t : TypeId) (ox oy : Operand) (a b : Int) (h : isShift op = false) : aBin P op t ox oy (.int .i64 a) (.int .i64 b) = intBin op .i64 a b := by
  rw [bin_int, h]; rfl
theorem bin_str (op : BinOp) (t : TypeId) (ox oy : Operand) (a b : List UInt8) : aBin P op t ox oy (.str a) (.str b) = strBin op a b := rfl
theorem b_add (t : TypeId) (ox oy : Operand) (a b : Int) : aBin P .add t ox oy (.int .i64 a) (.int .i64 b) = some (.int .i64 (IntKind.wrap .i64 (a + b))) := rfl
theorem b_sub (t : TypeId) (ox oy : Operand) (a b : Int) : aBin P .sub t ox oy (.int .i64 a) (.int .i64 b) = some (.int .i64 (IntKind.wrap .i64 (a - b))) := rfl
theorem b_mul (t : TypeId) (ox oy : Operand) (a b : Int) : aBin P .mul t ox oy (.int .i64 a) (.int .i64 b) = some (.int .i64 (IntKind.wrap .i64 (a * b))) := rfl
theorem b_eql (t : TypeId) (ox oy : Operand) (a b : Int) : aBin P .eql t ox oy (.int .i64 a) (.int .i64 b) = some (.bool (decide (a = b))) := rfl
theorem b_neq (t : TypeId) (ox oy : Operand) (a b : Int) : aBin P .neq t ox oy (.int .i64 a) (.int .i64 b) = some (.bool (!decide (a = b))) := rfl
theorem b_lss (t : TypeId) (ox oy : Operand) (a b : Int) : aBin P .lss t ox oy (.int .i64 a) (.int .i64 b) = some (.bool (decide (a < b))) := rfl
theorem b_leq (t : TypeId) (ox oy : Operand) (a b : Int) : aBin P .leq t ox oy (.int .i64 a) (.int .i64 b) = some (.bool (decide (a ≤ b))) := rfl
theorem b_gtr (t : TypeId) (ox oy : Operand) (a b : Int) : aBin P .gtr t ox oy (.int .i64 a) (.int .i64 b) = some (.bool (decide (a > b))) := rfl
theorem b_geq (t : TypeId) (ox oy : Operand) (a b : Int) : aBin P .geq t ox oy (.int .i64 a) (.int .i64 b) = some (.bool (decide (a ≥ b))) := rfl
theorem in_add (k : IntKind) (a b : Int) : intBin .add k a b = some (.int k (k.wrap (a + b))) := rfl
theorem in_sub (k : IntKind) (a b : Int) : intBin .sub k a b = some (.int k (k.wrap (a - b))) := rfl
theorem in_mul (k : IntKind) (a b : Int) : intBin .mul k a b = some (.int k (k.wrap (a * b))) := rfl
theorem in_eql (k : IntKind) (a b : Int) : intBin .eql k a b = some (.bool (decide (a = b))) := rfl
theorem in_neq (k : IntKind) (a b : Int) : intBin .neq k a b = some (.bool (decide (a ≠ b))) := by
  simp only [intBin, Option.some.injEq, AV.bool.injEq]
  by_cases h : a = b <;> simp [h]
theorem in_lss (k : IntKind) (a b : Int) : intBin .lss k a b = some (.bool (decide (a < b))) := rfl
theorem in_leq (k : IntKind) (a b : Int) : intBin .leq k a b = some (.bool (decide (a ≤ b))) := rfl
theorem in_gtr (k : IntKind) (a b : Int) : intBin .gtr k a b = some (.bool (decide (a > b))) := rfl
theorem in_geq (k : IntKind) (a b : Int) : intBin .geq k a b = some (.bool (decide (a ≥ b))) := rfl
theorem ns_add : isShift .add = false := rfl
theorem ns_sub : isShift .sub = false := rfl
theorem ns_mul : isShift .mul = false := rfl
theorem ns_eql : isShift .eql = false := rfl
theorem ns_neq : isShift .neq = false := rfl
theorem ns_lss : isShift .lss = false := rfl
theorem ns_leq : isShift .leq = false := rfl
theorem ns_gtr : isShift .gtr = false := rfl
theorem ns_geq : isShift .geq = false := rfl
theorem un_not (b : Bool) : aUn .not (.bool b) = some (.bool (!b)) := rfl

theorem bi_len (ts : List TypeId) (x : AV) : aBuiltin P .len ts [x] = match ts with
    | [t] => match P.underlying t with
      | some d => aLen d x
      | none => .fail
    | _ => .fail := rfl
theorem bi_append (ts : List TypeId) (s x : AV) : aBuiltin P .append ts [s, x] = aAppend P ts s x := rfl
theorem bi_copy (ts : List TypeId) (s x : AV) : aBuiltin P .copy ts [s, x] = aCopy P ts s x := rfl

theorem fz_oslice (S : List Nat) (b n esz : Nat) (cs : List AV) (hs : S.contains b = true) (h : A[b]? = some (.cells cs)) : frz A S 12 (.oslice b n esz) = ((cs.take (n * esz)).mapM (frz A S 11)).map fun cs => .fslice n cs := by
  conv => lhs; unfold frz
  simp only [hs, if_true, h]
theorem fz_slice (S : List Nat) (b off n cap esz : Nat) (cs : List AV) (hs : S.contains b = true) (h : A[b]? = some (.cells cs)) : frz A S 12 (.slice b off n cap esz) = (((cs.drop off).take (n * esz)).mapM (frz A S 11)).map fun cs => .fslice n cs := by
  conv => lhs; unfold frz
  simp only [hs, if_true, h]
theorem fz_oslice1 (S : List Nat) (b n esz : Nat) (cs : List AV) (hs : S.contains b = true) (h : A[b]? = some (.cells cs)) : frz A S 11 (.oslice b n esz) = ((cs.take (n * esz)).mapM (frz A S 10)).map fun cs => .fslice n cs := by
  conv => lhs; unfold frz
  simp only [hs, if_true, h]
theorem fz_slice1 (S : List Nat) (b off n cap esz : Nat) (cs : List AV) (hs : S.contains b = true) (h : A[b]? = some (.cells cs)) : frz A S 11 (.slice b off n cap esz) = (((cs.drop off).take (n * esz)).mapM (frz A S 10)).map fun cs => .fslice n cs := by
  conv => lhs; unfold frz
  simp only [hs, if_true, h]
theorem fz_two (S : List Nat) (a b a' b' : AV) (ha : frz A S 11 a = some a') (hb : frz A S 11 b = some b') : frz A S 12 (.tuple [a, b]) = some (.tuple [a', b']) := by
  conv => lhs; unfold frz
  simp only [List.mapM_cons, List.mapM_nil, ha, hb]
  rfl
theorem fz_int1 (S : List Nat) (k : IntKind) (n : Int) : frz A S 11 (.int k n) = some (.int k n) := rfl
theorem fz_nil1 (S : List Nat) : frz A S 11 .nilslice = some .nilslice := rfl
theorem fz_int (S : List Nat) (k : IntKind) (n : Int) : frz A S 12 (.int k n) = some (.int k n) := rfl
theorem fz_bool (S : List Nat) (b : Bool) : frz A S 12 (.bool b) = some (.bool b) := rfl
theorem fz_str (S : List Nat) (b : List UInt8) : frz A S 12 (.str b) = some (.str b) := rfl
theorem ex_done (v : AV) : exec (.done v) A [] = some (v, A, []) := rfl
theorem ex_opt (v : AV) : exec (.opt (some v)) A [] = some (v, A, []) := rfl
theorem op_some (v : AV) : Pg.opt (some v) = .done v := rfl
end

section
variable {P : Program} {call : CallF} {ops : Array Oper} {l : List Oper} {fr : Fr} {A : Heap} {s : St} {Q : XA → St → Prop}

/-- A region, and what is kept of what it does. -/
theorem Goes.regionTo (K : Fr → Heap → Prop) (hm : P.follows .mixedOrders = true) (hc : CallsOK P call) {id : Nat} (h : Ops P call ops ops.toList s.1 s.2 K) (hk : ∀ fr A, K fr A → Q .normal (fr, A)) : Goes P (.region id ops false) s Q := by
  obtain ⟨fr', A', h1, h2⟩ := h
  exact Goes.region hm hc ⟨fr', A', h1, hk _ _ h2⟩

/-- One operation that only looks at its operands, and at no block. -/
def lookA (P : Program) (o : Oper) (ρ : Operand → AV) : Option AV :=
  match calleeA o ρ with
  | some _ => none
  | none => match opFoot o ρ [] with
    | [] => match aop P o ρ with
      | .done v => some v
      | _ => none
    | _ => none

theorem opFoot_any {o : Oper} {ρ : Operand → AV} (h : calleeA o ρ = none) (A : Heap) : opFoot o ρ A = opFoot o ρ [] := by
  unfold opFoot
  rw [h]

theorem lookA_some {o : Oper} {ρ : Operand → AV} {v : AV} (h : lookA P o ρ = some v) : calleeA o ρ = none ∧ (∀ A, opFoot o ρ A = []) ∧ aop P o ρ = .done v := by
  unfold lookA at h
  split at h
  · cases h
  · rename_i hn
    split at h
    · rename_i hf
      split at h
      · rename_i hv
        injection h with h
        subst h
        exact ⟨hn, fun A => (opFoot_any hn A).trans hf, hv⟩
      · cases h
    · cases h

def looksGo (o : Oper) (fr : Fr) (k : Fr → Prop) : Option Bool → Option AV → Prop
  | some true, some v => k (putA fr o.dst v)
  | some false, _ => k (putA fr o.dst (.tuple []))
  | _, _ => False

def Looks (P : Program) (ops : Array Oper) : List Oper → Fr → (Fr → Prop) → Prop
  | [], fr, K => K fr
  | o :: l, fr, K => looksGo o fr (fun fr' => Looks P ops l fr' K) (wantedA ops o (maskF (readsT ops o) fr)) (lookA P o (evalA (maskF (readsT ops o) fr)))

theorem Looks_nil {K : Fr → Prop} : Looks P ops [] fr K ↔ K fr := Iff.rfl
theorem Looks_cons {o : Oper} {K : Fr → Prop} : Looks P ops (o :: l) fr K ↔ looksGo o fr (fun fr' => Looks P ops l fr' K) (wantedA ops o (maskF (readsT ops o) fr)) (lookA P o (evalA (maskF (readsT ops o) fr))) := Iff.rfl

theorem Looks.look : ∀ (l : List Oper) {fr : Fr} {K : Fr → Prop}, Looks P ops l fr K → Look P ops l fr K := by
  intro l
  induction l with
  | nil => intro fr K h; exact h
  | cons o l ih =>
    intro fr K h
    have h : looksGo o fr (fun fr' => Looks P ops l fr' K) (wantedA ops o (maskF (readsT ops o) fr)) (lookA P o (evalA (maskF (readsT ops o) fr))) := h
    cases hw : wantedA ops o (maskF (readsT ops o) fr) with
    | none => rw [hw] at h; exact h.elim
    | some w =>
      rw [hw] at h
      cases w with
      | false => exact .inl ⟨hw, ih h⟩
      | true =>
        cases hv : lookA P o (evalA (maskF (readsT ops o) fr)) with
        | none => rw [hv] at h; exact h.elim
        | some v =>
          rw [hv] at h
          obtain ⟨h1, h2, h3⟩ := lookA_some hv
          exact .inr ⟨hw, h1, h2, v, h3, ih h⟩

theorem Goes.looks (hm : P.follows .mixedOrders = true) {id : Nat} (hs : statOK ops = true) (h : Looks P ops ops.toList s.1 fun fr => Q .normal (fr, s.2)) : Goes P (.region id ops true) s Q :=
  Goes.look hm hs (Looks.look _ h)

def maskG (n : Nat) (ts : List Tmp) (g : Nat → AV) (t : Nat) : AV := if t ∈ ts then (if t < n then g t else .undef) else .undef

theorem maskF_fn (ts : List Tmp) (n : Nat) (g : Nat → AV) (t : Nat) : (maskF ts (.fn n g)).get t = if t < n then maskG n ts g t else .undef := by
  have key : ∀ (us : List Tmp) (h : Nat → AV) (t : Nat), (us.foldl (fun (f : Fr) t => f.set t ((Fr.fn n g).get t)) (.fn n h)).get t = if t < n then (if t ∈ us then (if t < n then g t else .undef) else h t) else .undef := by
    intro us
    induction us with
    | nil => intro h t; simp [Fr.get_fn]
    | cons u us ih =>
      intro h t
      simp only [List.foldl_cons, Fr.set_fn]
      rw [ih]
      by_cases ht : t < n
      · simp only [ht, if_true, List.mem_cons, putG_at, Fr.get_fn]
        by_cases h1 : t ∈ us
        · simp [h1]
        · by_cases h2 : t = u
          · subst h2; simp [h1, ht]
          · simp [h1, h2]
      · simp [ht]
  have := key ts (fun _ => .undef) t
  unfold maskG
  exact this
end

section
variable {P : Program} {d : Option Tmp} {ty : TypeId} {ps : String} {af : Array Edge} {g : Option (Nat × Bool)} {ρ : Operand → AV}

def lookP (r : List Nat) (p : Pg) : Option AV := match r with
  | [] => match p with
    | .done v => some v
    | _ => none
  | _ => none
theorem lk_done (v : AV) : lookP [] (.done v) = some v := rfl

theorem lk_move (x : Operand) : lookA P ⟨d, .move x, ty, ps, af, g⟩ ρ = some (ρ x) := rfl
theorem lk_assign (x : Operand) : lookA P ⟨d, .assign x, ty, ps, af, g⟩ ρ = some (ρ x) := rfl
theorem lk_pick (c a b : Operand) : lookA P ⟨d, .pick c a b, ty, ps, af, g⟩ ρ = lookP [] (pickGo (ρ c) (ρ a) (ρ b)) := rfl
theorem lk_bin (op : BinOp) (t u : TypeId) (x y : Operand) : lookA P ⟨d, .binOp op t x y u, ty, ps, af, g⟩ ρ = lookP [] (.opt (aBin P op t x y (ρ x) (ρ y))) := rfl
theorem lk_un (op : UnOp) (t : TypeId) (x : Operand) : lookA P ⟨d, .unOp op t x, ty, ps, af, g⟩ ρ = lookP [] (.opt (aUn op (ρ x))) := rfl
theorem lk_field (s : TypeId) (x : Operand) (f : Nat) : lookA P ⟨d, .field s x f, ty, ps, af, g⟩ ρ = lookP [] (.opt (aField P s (ρ x) f)) := rfl
theorem lk_fieldAddr (s : TypeId) (x : Operand) (f : Nat) : lookA P ⟨d, .fieldAddr s x f, ty, ps, af, g⟩ ρ = lookP [] (.opt (aFieldAddr P s (ρ x) f)) := rfl
theorem lk_indexAddr (t : TypeId) (x i : Operand) : lookA P ⟨d, .indexAddr t x i, ty, ps, af, g⟩ ρ = lookP [] (.opt (aIndexAddr P t (ρ x) (ρ i))) := rfl
theorem lk_index (t : TypeId) (x i : Operand) : lookA P ⟨d, .index t x i, ty, ps, af, g⟩ ρ = lookP [] (.opt (aIndex P t (ρ x) (ρ i))) := rfl
theorem lk_load (t : TypeId) (p : Operand) : lookA P ⟨d, .load t p, ty, ps, af, g⟩ ρ = lookP (refsOf (ρ p)) (aLoad P t (ρ p)) := by
  unfold lookA lookP
  simp only [calleeA, opFoot, aop]
theorem lk_extract (t : Operand) (i : Nat) : lookA P ⟨d, .extract t i, ty, ps, af, g⟩ ρ = lookP [] (extGo (ρ t) i) := rfl
theorem lk_builtin (b : Builtin) (as : Array Operand) (ts : Array TypeId) : lookA P ⟨d, .call ⟨.builtin b, as, ts⟩, ty, ps, af, g⟩ ρ = lookP ((as.toList.map ρ).flatMap refsOf) (aBuiltin P b ts.toList (as.toList.map ρ)) := by
  unfold lookA lookP
  simp only [calleeA, opFoot, aop, aopRest]
theorem rf_fptr (cs : List AV) (off : Nat) : refsOf (.fptr cs off) = [] := rfl
theorem rf_fslice (n : Nat) (cs : List AV) : refsOf (.fslice n cs) = [] := rfl
end
/-- What is known of calls by value. -/
def byVal (tbl : FuncId → List AV → Option AV) : CallF := fun c args A => match c with
  | .fn f => match A with
    | [] => (tbl f args).map fun v => (v, [])
    | _ :: _ => none
  | .rd _ => none
  | .mt _ _ => none

theorem byVal_ok {P : Program} {tbl : FuncId → List AV → Option AV} (h : ∀ f args v, tbl f args = some v → CallOK P (.fn f) args [] v []) : CallsOK P (byVal tbl) := by
  intro c args A v A' he
  cases c with
  | rd b => cases he
  | mt t m => cases he
  | fn f =>
    cases A with
    | cons x A => cases he
    | nil =>
      obtain ⟨x, hx, hr⟩ := Option.map_eq_some_iff.1 he
      simp only [Prod.mk.injEq] at hr
      obtain ⟨rfl, rfl⟩ := hr
      exact h f args _ hx

def callT (tbl : FuncId → List AV → Option AV) : CallF := pureX (byVal tbl) fun _ => true

theorem callT_ok {P : Program} {tbl : FuncId → List AV → Option AV} (h : ∀ f args v, tbl f args = some v → CallOK P (.fn f) args [] v []) : CallsOK P (callT tbl) := pureX_ok (byVal_ok h) _

/-- A value that is told by value. -/
def Still (d : Nat) (a : AV) : Prop := ∀ (A : Heap) (S : List Nat), frz A S d a = some a

theorem mapM_still {A : Heap} {S : List Nat} {d : Nat} : ∀ {cs : List AV}, (∀ c ∈ cs, Still d c) → cs.mapM (frz A S d) = some cs := by
  intro cs
  induction cs with
  | nil => intro _; rfl
  | cons c cs ih =>
    intro h
    rw [List.mapM_cons, h c (by simp) A S, ih fun x hx => h x (by simp [hx])]
    rfl
theorem Still.int (d : Nat) (k : IntKind) (n : Int) : Still (d + 1) (.int k n) := fun _ _ => rfl
theorem Still.bool (d : Nat) (b : Bool) : Still (d + 1) (.bool b) := fun _ _ => rfl
theorem Still.str (d : Nat) (b : List UInt8) : Still (d + 1) (.str b) := fun _ _ => rfl
theorem Still.nilslice (d : Nat) : Still (d + 1) .nilslice := fun _ _ => rfl
theorem Still.fslice {d n : Nat} {cs : List AV} (h : ∀ c ∈ cs, Still d c) : Still (d + 1) (.fslice n cs) := fun A S => by
  simp only [frz, mapM_still h, Option.map_some]
theorem Still.agg {d : Nat} {cs : List AV} (h : ∀ c ∈ cs, Still d c) : Still (d + 1) (.agg cs) := fun A S => by
  simp only [frz, mapM_still h, Option.map_some]
theorem Still.tuple {d : Nat} {cs : List AV} (h : ∀ c ∈ cs, Still d c) : Still (d + 1) (.tuple cs) := fun A S => by
  simp only [frz, mapM_still h, Option.map_some]

theorem closeRefs_nil (A : Heap) : closeRefs A 20 [] = [] := rfl

/-- A call that is known, its arguments told by value. -/
theorem callT_eq {tbl : FuncId → List AV → Option AV} {f : FuncId} {as as' : List AV} {A : Heap} {v : AV} (hs : as.mapM (frz A (closeRefs A 20 (addAll [] (as.flatMap (deepRefs 4)))) 12) = some as') (ht : tbl f as' = some v) (hv : Still 12 v)
    (hk : flat 6 v = true ∨ as.flatMap (deepRefs 4) = []) : callT tbl (.fn f) as A = some (v, A) := by
  unfold callT pureX
  simp only [if_true, hs]
  have hb : byVal tbl (.fn f) as' [] = some (v, []) := by simp [byVal, ht]
  rw [hb]
  simp only [hv [] (List.range ([] : Heap).length)]
  rcases hk with hk | hk
  · rw [if_pos hk]
  · rw [hk]
    split <;> rfl

theorem callT_val {tbl : FuncId → List AV → Option AV} {f : FuncId} {as : List AV} {A : Heap} {v : AV} (hs : ∀ a ∈ as, Still 12 a) (hr : as.flatMap (deepRefs 4) = []) (ht : tbl f as = some v) (hv : Still 12 v) : callT tbl (.fn f) as A = some (v, A) :=
  callT_eq (mapM_still hs) ht hv (.inr hr)
end Go.Av
