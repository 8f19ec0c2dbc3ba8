import Derived.Test.YtkjgcmachachaaaGreatDoorAvRw
import Derived.Test.YtkjgcmachachaaaGreatDoorChecked
import Derived.KernelRfl
import Derived.IntWalk
noncomputable section
namespace Go.Av
open Go.Proofs
variable [Glob]
set_option maxRecDepth 100000
set_option linter.unusedSectionVars false
set_option linter.unusedSimpArgs false

theorem fol : Tryz.prog.follows .mixedOrders = true := by kernel_rfl

/-- Lists of integers. -/
def iL (ns : List Int) : List AV := ns.map (AV.int .i64)
def iS (ns : List Int) : AV := .fslice ns.length (iL ns)
theorem iL_length (ns : List Int) : (iL ns).length = ns.length := by simp [iL]
theorem iL_get {ns : List Int} {k : Nat} (h : k < ns.length) : (iL ns)[k]? = some (.int .i64 (ns.getD k 0)) := by
  simp [iL, List.getD_eq_getElem?_getD, List.getElem?_eq_getElem h]

theorem ty22 : Tryz.prog.underlying 22 = some (.slice 3) := by kernel_rfl
theorem ty3 : Tryz.prog.underlying 3 = some (.int .i64) := by kernel_rfl
theorem in3 : ∃ i, Tryz.prog.info? 3 = some i ∧ i.size = 1 := by
  cases h : Tryz.prog.info? 3 with
  | none => exact absurd (show (Tryz.prog.info? 3).isSome = true by kernel_rfl) (by rw [h]; simp)
  | some i =>
    refine ⟨i, rfl, ?_⟩
    have : (Tryz.prog.info? 3).map (·.size) = some 1 := by kernel_rfl
    rw [h] at this
    simpa using this

theorem len_iS (e : TypeId) (ns : List Int) : aLen (.slice e) (iS ns) = .done (.int .i64 ns.length) := rfl
theorem ix_iS {ns : List Int} {k : Nat} (h : k < ns.length) : aIndexAddr Tryz.prog 22 (iS ns) (.int .i64 (k : Int)) = some (.fptr (iL ns) k) := by
  obtain ⟨i, h1, h2⟩ := in3
  have e : (0 : Int) ≤ k ∧ (k : Int) < ns.length := by omega
  simp only [aIndexAddr, ty22, h1, h2, iS, e, and_self, if_true, Int.toNat_natCast, Nat.mul_one]
theorem ld_iL {ns : List Int} {k : Nat} (h : k < ns.length) : aLoad Tryz.prog 3 (.fptr (iL ns) k) = .done (.int .i64 (ns.getD k 0)) := by
  obtain ⟨i, h1, h2⟩ := in3
  have hl : k + 1 ≤ (iL ns).length := by rw [iL_length]; omega
  have e : ((iL ns).drop k).take 1 = [.int .i64 (ns.getD k 0)] := by
    have h3 := iL_get h
    have h4 : k < (iL ns).length := by rw [iL_length]; exact h
    rw [List.drop_eq_getElem_cons h4]
    rw [List.getElem?_eq_getElem h4] at h3
    injection h3 with h3
    simp [h3]
  simp only [aLoad, ty3, h1, isAggD, Bool.false_eq_true, if_false, readCells, hl, if_true, e]
theorem wrap_up {k : Nat} (h : k < 9223372036854775807) : IntKind.wrap .i64 ((k : Int) + 1) = ((k + 1 : Nat) : Int) := by
  rw [Go.IntWalk.i64_in _ (by omega)]
  omega


theorem list_eq {ks bs : List Int} (hl : ks.length = bs.length) (h : ∀ j, j < ks.length → ks.getD j 0 = bs.getD j 0) : ks = bs := by
  refine List.ext_getElem hl fun j h1 h2 => ?_
  have := h j h1
  simpa [List.getD_eq_getElem?_getD, List.getElem?_eq_getElem h1, List.getElem?_eq_getElem h2] using this

def okAt (ns : List Int) (i : Nat) : Prop := 0 ≤ ns.getD i 0 ∧ ns.getD i 0 < ns.length ∧ ∀ k, k < i → ns.getD k 0 ≠ ns.getD i 0
def isPerm (ns : List Int) : Prop := ∀ i, i < ns.length → okAt ns i
open Classical in
def permS (ns : List Int) : Int := if ns.length > 256 then 5 else if isPerm ns then 0 else 15
theorem perm_many {ns : List Int} (h : ns.length > 256) : permS ns = 5 := if_pos h
theorem perm_bad {ns : List Int} (h : ¬ ns.length > 256) {i : Nat} (hi : i < ns.length) (hb : ¬ okAt ns i) : permS ns = 15 := by
  unfold permS
  rw [if_neg h, if_neg fun hp => hb (hp i hi)]
theorem perm_ok {ns : List Int} (h : ¬ ns.length > 256) (hp : isPerm ns) : permS ns = 0 := by
  unfold permS
  rw [if_neg h, if_pos hp]

theorem ixT {t e : TypeId} (hu : Tryz.prog.underlying t = some (.slice e)) (hi : (Tryz.prog.info? e).map (·.size) = some 1) {ns : List Int} {k : Nat} (h : k < ns.length) : aIndexAddr Tryz.prog t (iS ns) (.int .i64 (k : Int)) = some (.fptr (iL ns) k) := by
  cases hx : Tryz.prog.info? e with
  | none => rw [hx] at hi; cases hi
  | some i =>
    rw [hx] at hi
    have h2 : i.size = 1 := by simpa using hi
    have e : (0 : Int) ≤ k ∧ (k : Int) < ns.length := by omega
    simp only [aIndexAddr, hu, hx, h2, iS, e, and_self, if_true, Int.toNat_natCast, Nat.mul_one]
theorem ldT {t : TypeId} (hu : Tryz.prog.underlying t = some (.int .i64)) (hi : (Tryz.prog.info? t).isSome = true) {ns : List Int} {k : Nat} (h : k < ns.length) : aLoad Tryz.prog t (.fptr (iL ns) k) = .done (.int .i64 (ns.getD k 0)) := by
  cases hx : Tryz.prog.info? t with
  | none => rw [hx] at hi; cases hi
  | some i =>
    have hl : k + 1 ≤ (iL ns).length := by rw [iL_length]; omega
    have e : ((iL ns).drop k).take 1 = [.int .i64 (ns.getD k 0)] := by
      have h3 := iL_get h
      have h4 : k < (iL ns).length := by rw [iL_length]; exact h
      rw [List.drop_eq_getElem_cons h4]
      rw [List.getElem?_eq_getElem h4] at h3
      injection h3 with h3
      simp [h3]
    simp only [aLoad, hu, hx, isAggD, Bool.false_eq_true, if_false, readCells, hl, if_true, e]
theorem ty117 : Tryz.prog.underlying 117 = some (.slice 27) := by kernel_rfl
theorem ty27 : Tryz.prog.underlying 27 = some (.int .i64) := by kernel_rfl
theorem sz27 : (Tryz.prog.info? 27).map (·.size) = some 1 := by kernel_rfl
theorem is27 : (Tryz.prog.info? 27).isSome = true := by kernel_rfl
theorem is3 : (Tryz.prog.info? 3).isSome = true := by kernel_rfl
theorem z3 : (Tryz.prog.info? 3).bind (·.zero) = some (.int .i64 0) := by kernel_rfl
theorem by3 : (Tryz.prog.info? 3).map (·.bytes) = some 8 := by kernel_rfl
theorem sz3 : (Tryz.prog.info? 3).map (·.size) = some 1 := by kernel_rfl
theorem ty69 : Tryz.prog.underlying 69 = some (.map 3 4) := by kernel_rfl
theorem z4 : (Tryz.prog.info? 4).bind (·.zero) = some (.bool false) := by kernel_rfl

/-! The map of those that were seen -/
def tt (ns : List Int) : List AV := ns.map fun _ => AV.bool true
theorem findA_out {x : Int} : ∀ {ns : List Int} (i : Nat), x ∉ ns → findA (.int .i64 x) (iL ns) i = some none := by
  intro ns
  induction ns with
  | nil => intro i _; rfl
  | cons y ns ih =>
    intro i h
    have h1 : ¬ x = y := fun e => h (by simp [e])
    have h2 := ih (i + 1) (fun hm => h (by simp [hm]))
    have e : keyEq (.int .i64 x) (.int .i64 y) = some false := by simp [keyEq, h1]
    simp only [iL, List.map_cons, findA, e] at h2 ⊢
    exact h2
theorem findA_in {x : Int} : ∀ {ns : List Int} (i : Nat), x ∈ ns → ∃ j, j < ns.length ∧ findA (.int .i64 x) (iL ns) i = some (some (i + j)) := by
  intro ns
  induction ns with
  | nil => intro i h; cases h
  | cons y ns ih =>
    intro i h
    by_cases h1 : x = y
    · refine ⟨0, by simp, ?_⟩
      have e : keyEq (.int .i64 x) (.int .i64 y) = some true := by simp [keyEq, h1]
      simp only [iL, List.map_cons, findA, e, Nat.add_zero]
    · have hm : x ∈ ns := by simpa [h1] using h
      obtain ⟨j, hj, h2⟩ := ih (i + 1) hm
      refine ⟨j + 1, by simpa using hj, ?_⟩
      have e : keyEq (.int .i64 x) (.int .i64 y) = some false := by simp [keyEq, h1]
      simp only [iL, List.map_cons, findA, e] at h2 ⊢
      rw [h2]
      congr 2
      omega
theorem lk69 (ns : List Int) (x : Int) : exec (aLookup Tryz.prog 69 (.map 0) (.int .i64 x) false) [.map (iL ns) (tt ns)] [] = some (.bool (decide (x ∈ ns)), [.map (iL ns) (tt ns)], [(0, false)]) := by
  simp only [aLookup, ty69, ty3, z4, plainKey, if_true, entriesOf, exec, List.getElem?_cons_zero]
  by_cases h : x ∈ ns
  · obtain ⟨j, hj, h2⟩ := findA_in 0 h
    have e : (tt ns)[0 + j]? = some (.bool true) := by simp [tt, List.getElem?_eq_getElem hj]
    simp only [h2, e, Bool.false_eq_true, if_false, exec, h, decide_true]
  · simp only [findA_out 0 h, Bool.false_eq_true, if_false, exec, h, decide_false, ofVal]
theorem mu69 {ns : List Int} {x : Int} (h : x ∉ ns) : exec (aMapUpdate Tryz.prog 69 (.map 0) (.int .i64 x) (.bool true)) [.map (iL ns) (tt ns)] [] = some (.undef, [.map (iL (ns ++ [x])) (tt (ns ++ [x]))], [(0, true), (0, false)]) := by
  simp only [aMapUpdate, ty69, ty3, plainKey, if_true, exec, List.getElem?_cons_zero, findA_out 0 h]
  simp [exec, iL, tt]
theorem mm69 : exec (aMakeMap Tryz.prog 69 none) [] [] = some (.map 0, [.map (iL []) (tt [])], []) := rfl
theorem take_up {ns : List Int} {i : Nat} (h : i < ns.length) : ns.take (i + 1) = ns.take i ++ [ns.getD i 0] := by
  rw [List.take_succ_eq_append_getElem h]
  simp [List.getD_eq_getElem?_getD, List.getElem?_eq_getElem h]
theorem mem_take {ns : List Int} {i : Nat} (hi : i ≤ ns.length) {x : Int} : x ∈ ns.take i ↔ ∃ k, k < i ∧ ns.getD k 0 = x := by
  constructor
  · intro h
    obtain ⟨k, hk, e⟩ := List.getElem_of_mem h
    have hk2 : k < i := by simp at hk; omega
    refine ⟨k, hk2, ?_⟩
    rw [← e, List.getElem_take]
    simp [List.getD_eq_getElem?_getD, List.getElem?_eq_getElem (show k < ns.length by omega)]
  · rintro ⟨k, hk, rfl⟩
    have h1 : k < ns.length := by omega
    rw [List.mem_iff_getElem?]
    refine ⟨k, ?_⟩
    rw [List.getElem?_take_of_lt hk, List.getElem?_eq_getElem h1]
    simp [List.getD_eq_getElem?_getD, List.getElem?_eq_getElem h1]

theorem still_iS (ns : List Int) : Still 12 (iS ns) := Still.fslice fun c hc => by
  obtain ⟨n, _, rfl⟩ := List.mem_map.1 hc
  exact Still.int _ _ _

/-! Lists that grow -/
inductive Out : AV → Heap → List Int → Prop
  | nil (H : Heap) : Out .nilslice H []
  | some (b : Nat) (H : Heap) (cs : List Int) (h : H[b]? = some (.cells (iL cs))) (hb : b < H.length) (h0 : cs ≠ []) : Out (.oslice b cs.length 1) H cs
def outV (cs : List Int) : AV := match cs with
  | [] => .nilslice
  | c :: cs => iS (c :: cs)
theorem outV_some {cs : List Int} (h : cs ≠ []) : outV cs = iS cs := by
  cases cs with
  | nil => exact absurd rfl h
  | cons c cs => rfl
theorem still_outV (cs : List Int) : Still 12 (outV cs) := by
  cases cs with
  | nil => exact Still.nilslice _
  | cons c cs => exact still_iS _
theorem bs22 (H : Heap) (x : Int) : exec (aBuildSlice Tryz.prog 22 1 [(0, .int .i64 x)]) H [] = some (.slice H.length 0 1 1 1, H ++ [.cells [.int .i64 x]], []) := by
  cases hx : Tryz.prog.info? 3 with
  | none => exact absurd is3 (by rw [hx]; simp)
  | some i =>
    have h1 : i.size = 1 := by have := sz3; rw [hx] at this; simpa using this
    have h2 : i.zero = some (.int .i64 0) := by have := z3; rw [hx] at this; simpa using this
    simp only [aBuildSlice, ty22, hx, zeroA, h1, h2, ofVal, cellsOf]
    rfl
theorem app22 {o : AV} {H : Heap} {cs : List Int} (h : Out o H cs) (hl : cs.length < 1000000) (x : Int) :
    ∃ o' H' f, exec (aAppend Tryz.prog [22, 22] o (.slice H.length 0 1 1 1)) (H ++ [.cells [.int .i64 x]]) [] = some (o', H', f) ∧ Out o' H' (cs ++ [x]) := by
  cases hx : Tryz.prog.info? 3 with
  | none => exact absurd is3 (by rw [hx]; simp)
  | some i =>
    have h1 : i.size = 1 := by have := sz3; rw [hx] at this; simpa using this
    have h2 : i.zero = some (.int .i64 0) := by have := z3; rw [hx] at this; simpa using this
    have h3 : i.bytes = 8 := by have := by3; rw [hx] at this; simpa using this
    have hcell : (H ++ [Blk.cells [AV.int .i64 x]])[H.length]? = some (.cells [.int .i64 x]) := by simp
    have hsrc : ∀ (k : Nat → List AV → Pg), exec (srcCells 1 (.slice H.length 0 1 1 1) k) (H ++ [.cells [.int .i64 x]]) [] = exec (k 1 [.int .i64 x]) (H ++ [.cells [.int .i64 x]]) [(H.length, false)] := by
      intro k
      simp only [srcCells, cellsAt, exec, hcell, cellsOfBlk]
      simp [isCell]
    have happ : exec (aAppend Tryz.prog [22, 22] o (.slice H.length 0 1 1 1)) (H ++ [.cells [.int .i64 x]]) [] = exec (appendTo 1 8 o 1 [.int .i64 x]) (H ++ [.cells [.int .i64 x]]) [(H.length, false)] := by
      simp only [aAppend, ty22, hx, h1, h2, h3, Value.cells]
      rw [if_pos (by decide)]
      exact hsrc _
    rw [happ]
    cases h with
    | nil H =>
      refine ⟨.oslice (H.length + 1) 1 1, (H ++ [.cells [.int .i64 x]]) ++ [.cells (iL [x])], [(H.length, false)], ?_, ?_⟩
      · simp [appendTo, exec, iL]
      · exact Out.some (H.length + 1) ((H ++ [.cells [.int .i64 x]]) ++ [.cells (iL [x])]) [x] (by simp) (by simp) (by simp)
    | some b H cs hb hlt h0 =>
      have hb' : (H ++ [Blk.cells [AV.int .i64 x]])[b]? = some (.cells (iL cs)) := by rw [List.getElem?_append_left hlt, hb]
      refine ⟨.oslice (H.length + 1) (cs.length + 1) 1, List.set (H ++ [Blk.cells [.int .i64 x]]) b .dead ++ [Blk.cells (iL (cs ++ [x]))], [(b, true), (b, false), (H.length, false)], ?_, ?_⟩
      · have e2 : cs.length * 1 ≤ (iL cs).length := by simp [iL_length]
        have e3 : (iL cs).take (cs.length * 1) = iL cs := by rw [Nat.mul_one, ← iL_length cs, List.take_length]
        have hc : cs.length * 1 ≤ (iL cs).length ∧ (cs.length + 1) * 8 ≤ 140737488355328 ∧ cs.length + 1 ≤ 140737488355328 := ⟨e2, by omega, by omega⟩
        have hne : ¬ (1 : Nat) = 0 := by decide
        have hb3 : b < (H ++ [Blk.cells [AV.int .i64 x]]).length := by simp; omega
        simp only [appendTo, hne, if_false, exec, hb', hc, true_and, and_self, if_true, hb3, e3]
        simp [iL]
      · have := Out.some (H.length + 1) (List.set (H ++ [Blk.cells [.int .i64 x]]) b .dead ++ [Blk.cells (iL (cs ++ [x]))]) (cs ++ [x]) (by simp) (by simp) (by simp)
        simpa using this
theorem mapM_iL (A : Heap) (S : List Nat) (d : Nat) (ns : List Int) : (iL ns).mapM (frz A S (d + 1)) = some (iL ns) := by
  refine mapM_still fun c hc => ?_
  obtain ⟨n, _, rfl⟩ := List.mem_map.1 hc
  exact Still.int _ _ _
theorem iL_take (ns : List Int) : (iL ns).take (ns.length * 1) = iL ns := by
  rw [Nat.mul_one, ← iL_length ns, List.take_length]
theorem fz_out {o : AV} {H : Heap} {cs : List Int} (h : Out o H cs) : frz H (List.range H.length) 12 o = some (outV cs) := by
  cases h with
  | nil H => rfl
  | some b H cs hb hlt h0 =>
    rw [outV_some h0, fz_oslice _ _ _ _ _ (by simp [hlt]) hb, iL_take, mapM_iL]
    rfl
theorem fz_out1 {o : AV} {H : Heap} {cs : List Int} (h : Out o H cs) : frz H (List.range H.length) 11 o = some (outV cs) := by
  cases h with
  | nil H => rfl
  | some b H cs hb hlt h0 =>
    rw [outV_some h0, fz_oslice1 _ _ _ _ _ (by simp [hlt]) hb, iL_take, mapM_iL]
    rfl

/-! Inverses -/
def invGo (ns : List Int) : Nat → List Int
  | 0 => List.replicate ns.length 0
  | i + 1 => (invGo ns i).set (ns.getD i 0).toNat (i : Int)
theorem invGo_length (ns : List Int) : ∀ i, (invGo ns i).length = ns.length
  | 0 => by simp [invGo]
  | i + 1 => by simp [invGo, invGo_length ns i]
def invS (ns : List Int) : List Int := invGo ns ns.length

theorem zeros_one (a : AV) (n : Nat) : zeros [a] n = List.replicate n a := by
  refine List.ext_getElem (by simp [zeros]) fun j h1 h2 => ?_
  simp [zeros, Nat.mod_one]
theorem iL_replicate (n : Nat) (x : Int) : iL (List.replicate n x) = List.replicate n (.int .i64 x) := by simp [iL]
theorem ms22 {n : Nat} (h : n ≤ 1000000) : exec (aMakeSlice Tryz.prog 22 (.int .i64 (n : Int)) (.int .i64 (n : Int))) [] [] = some (.slice 0 0 n n 1, [.cells (iL (List.replicate n 0))], []) := by
  cases hx : Tryz.prog.info? 3 with
  | none => exact absurd is3 (by rw [hx]; simp)
  | some i =>
    have h1 : i.size = 1 := by have := sz3; rw [hx] at this; simpa using this
    have h2 : i.zero = some (.int .i64 0) := by have := z3; rw [hx] at this; simpa using this
    have h3 : i.bytes = 8 := by have := by3; rw [hx] at this; simpa using this
    have hc : (0 : Int) ≤ n ∧ (n : Int) ≤ n ∧ (n : Int) ≤ 140737488355328 ∧ (n : Int) * (8 : Nat) ≤ 140737488355328 ∧ True := ⟨by omega, by omega, by omega, by omega, trivial⟩
    simp only [aMakeSlice, ty22, hx, zeroA, h1, h2, h3, ofVal, cellsOf, List.length_cons, List.length_nil, Nat.zero_add]
    rw [if_pos hc, iL_replicate]
    simp [exec, zeros_one]
theorem ixs22 {n : Nat} {x : Int} (h0 : 0 ≤ x) (h1 : x < n) : aIndexAddr Tryz.prog 22 (.slice 0 0 n n 1) (.int .i64 x) = some (.ptr 0 x.toNat) := by
  obtain ⟨i, h2, h3⟩ := in3
  have e : (0 : Int) ≤ x ∧ x < n := ⟨h0, h1⟩
  simp only [aIndexAddr, ty22, h2, h3, e, and_self, if_true, Nat.mul_one, Nat.zero_add]
theorem splice_one (cs : List AV) (j : Nat) (v : AV) (h : j < cs.length) : splice cs j [v] = cs.set j v := by
  unfold splice
  rw [List.set_eq_take_append_cons_drop, if_pos h]
  simp
theorem sto3 {acc : List Int} {j : Nat} (h : j < acc.length) (v : Int) : exec (aStore Tryz.prog 3 (.ptr 0 j) (.int .i64 v)) [.cells (iL acc)] [] = some (.undef, [.cells (iL (acc.set j v))], [(0, true), (0, false)]) := by
  obtain ⟨i, h2, h3⟩ := in3
  have hl : j < (iL acc).length := by rw [iL_length]; exact h
  have hc : ([AV.int .i64 v].length = 1 ∧ j + [AV.int .i64 v].length ≤ (iL acc).length ∧ [AV.int .i64 v].all isCell = true) := ⟨rfl, hl, rfl⟩
  simp only [aStore, h2, cellsOf, h3, exec, List.getElem?_cons_zero]
  rw [if_pos hc, splice_one _ _ _ hl]
  simp [exec, iL, List.map_set]
theorem fz_sl (acc : List Int) (n : Nat) (h : acc.length = n) : frz [.cells (iL acc)] (List.range [Blk.cells (iL acc)].length) 12 (.slice 0 0 n n 1) = some (iS acc) := by
  subst h
  rw [fz_slice _ _ _ _ _ _ _ (by simp) (show [Blk.cells (iL acc)][0]? = some (.cells (iL acc)) from rfl), List.drop_zero, iL_take, mapM_iL]
  rfl
theorem fz_sl1 (acc : List Int) (n : Nat) (h : acc.length = n) : frz [.cells (iL acc)] (List.range [Blk.cells (iL acc)].length) 11 (.slice 0 0 n n 1) = some (iS acc) := by
  subst h
  rw [fz_slice1 _ _ _ _ _ _ _ (by simp) (show [Blk.cells (iL acc)][0]? = some (.cells (iL acc)) from rfl), List.drop_zero, iL_take, mapM_iL]
  rfl

def compS (ps qs : List Int) : List Int := ps.map fun x => qs.getD x.toNat 0
theorem compS_up {ps qs : List Int} {k j : Nat} (h : k < ps.length) (hj : ps.getD k 0 = (j : Int)) : compS (ps.take (k + 1)) qs = compS (ps.take k) qs ++ [qs.getD j 0] := by
  rw [take_up h, hj]
  simp [compS]

/-! Reading arguments -/
def toI : AV → Option Int
  | .int .i64 n => some n
  | _ => none
def decI : AV → Option (List Int)
  | .nilslice => some []
  | .fslice n cs => (cs.mapM toI).bind fun ns => if ns.length = n then some ns else none
  | _ => none
theorem toI_iL : ∀ ns : List Int, (iL ns).mapM toI = some ns := by
  intro ns
  induction ns with
  | nil => rfl
  | cons n ns ih =>
    show (AV.int .i64 n :: iL ns).mapM toI = _
    rw [List.mapM_cons, ih]
    rfl
theorem of_toI : ∀ {cs : List AV} {ns : List Int}, cs.mapM toI = some ns → cs = iL ns := by
  intro cs
  induction cs with
  | nil => intro ns h; simp at h; subst h; rfl
  | cons c cs ih =>
    intro ns h
    rw [List.mapM_cons] at h
    cases hc : toI c with
    | none => rw [hc] at h; cases h
    | some n =>
      rw [hc] at h
      cases hm : cs.mapM toI with
      | none => rw [hm] at h; cases h
      | some ms =>
        rw [hm] at h
        simp only [Option.pure_def, Option.bind_eq_bind, Option.bind_some, Option.some.injEq] at h
        subst h
        rw [ih hm]
        have : c = .int .i64 n := by
          unfold toI at hc
          split at hc
          · injection hc with hc; rw [hc]
          · cases hc
        rw [this]
        rfl
theorem decI_iS (ns : List Int) : decI (iS ns) = some ns := by
  simp [decI, iS, toI_iL]
theorem decI_outV (ns : List Int) : decI (outV ns) = some ns := by
  cases ns with
  | nil => rfl
  | cons n ns => exact decI_iS _
theorem decI_R {F : Nat → Prop} {nu : Nat → Option Nat} {w : World} {a : AV} {ns : List Int} {x : Value} (h : decI a = some ns) (hR : R F nu w a x) : R F nu w (iS ns) x := by
  unfold decI at h
  split at h
  · injection h with h
    subst h
    cases hR
    exact .fslice0 _ _
  · rename_i n cs
    obtain ⟨ms, hm, h⟩ := Option.bind_eq_some_iff.1 h
    split at h
    · rename_i hl
      injection h with h
      subst h
      have e := of_toI hm
      subst e
      subst hl
      exact hR
    · cases h
  · cases h

theorem CallOK.args {P : Program} {f : FuncId} {al bl : List AV} {v : AV} (h : CallOK P (.fn f) bl [] v []) (hR : ∀ F nu w (vs : Array Value), RL F nu w al vs → RL F nu w bl vs) : CallOK P (.fn f) al [] v [] :=
  fun F nu w vs i hargs => h F nu w vs i (hR F nu w vs hargs)
theorem RL.cons {F : Nat → Prop} {nu : Nat → Option Nat} {w : World} {a a' : AV} {al bl : List AV} {vs : Array Value} (ha : ∀ x, R F nu w a x → R F nu w a' x) (has : ∀ vs, RL F nu w al vs → RL F nu w bl vs) (h : RL F nu w (a :: al) vs) : RL F nu w (a' :: bl) vs := by
  obtain ⟨v, ws, rfl, h1, h2⟩ := h.cons_inv
  have h3 := has _ h2
  refine ⟨by have := h3.1; simpa using this, fun i b y hb hy => ?_⟩
  cases i with
  | zero =>
    simp at hb hy
    subst hb hy
    exact ha _ h1
  | succ i => exact h3.2 i b y (by simpa using hb) (by simpa using hy)

end Go.Av
