/- shape.Check, of any form. -/
import Derived.Test.YtkoecjmmphmdeaaGreatDoorLibA
import Derived.Test.YtkoecjmmphmdeaaGreatDoorC4Shape
set_option linter.unusedVariables false
set_option linter.unusedSimpArgs false
set_option maxRecDepth 100000
set_option maxHeartbeats 2000000
namespace Go.Proofs.YtkoecjmmphmdeaaGreatDoor.code
open Go.Ab

def opV (o : Int) : Bool := decide (1 ≤ o) && decide (o ≤ 322)
theorem q_opV (o : Int) (H : Heap) : CallQ prog f_name_Valid [.int .i64 o] H fun u H' => u = .bool (opV o) ∧ H' = H := by
  refine in_name_Valid fun hw => ?_
  simp (disch := (first | omega | ((repeat (first | rw [Heap.next_push] | rw [Heap.next_set] | rw [Heap.next_up])); done) | ((repeat (first | rw [Heap.next_push] | rw [Heap.next_set] | rw [Heap.next_up])); omega))) only [pc_name_Valid, sxA, Nat.reduceBEq, List.map_cons, List.map_nil, ne_eq, not_false_eq_true, not_true_eq_false, Nat.reduceEqDiff, reduceCtorEq, cond_true, cond_false, Bool.not_true, Bool.not_false, Bool.not_not, mxD, if_true, if_false, Nat.reduceAdd, List.getElem?_cons_succ, List.getElem?_cons_zero, Option.some.injEq, exists_eq_left', eq_self, reduceIte, List.length_cons, List.length_nil, Nat.reduceLeDiff, List.all_cons, List.all_nil, List.drop_zero, List.drop_succ_cons, List.take_succ_cons, List.take_zero, List.cons_append, List.nil_append, List.append_nil, splice, List.take_nil, List.drop_nil, ret_name_Valid]
  repeat' (first
      | (refine gB_cases (fun h => ?_) (fun h => ?_) <;> (try simp only [Bool.not_eq_true', Bool.not_eq_false'] at h) <;> simp (disch := (first | omega | ((repeat (first | rw [Heap.next_push] | rw [Heap.next_set] | rw [Heap.next_up])); done) | ((repeat (first | rw [Heap.next_push] | rw [Heap.next_set] | rw [Heap.next_up])); omega))) only [sxA, Nat.reduceBEq, List.map_cons, List.map_nil, ne_eq, not_false_eq_true, not_true_eq_false, Nat.reduceEqDiff, reduceCtorEq, cond_true, cond_false, Bool.not_true, Bool.not_false, Bool.not_not, mxD, if_true, if_false, Nat.reduceAdd, List.getElem?_cons_succ, List.getElem?_cons_zero, Option.some.injEq, exists_eq_left', eq_self, reduceIte, List.length_cons, List.length_nil, Nat.reduceLeDiff, List.all_cons, List.all_nil, List.drop_zero, List.drop_succ_cons, List.take_succ_cons, List.take_zero, List.cons_append, List.nil_append, List.append_nil, splice, List.take_nil, List.drop_nil, ret_name_Valid, h])
      | fail)
  all_goals refine .mk (Nat.le_refl _) ⟨?_, rfl⟩
  all_goals (simp_all [opV] <;> omega)

def goesF (sh sl : Int) : Bool :=
  if sl = 6 then decide (28 ≤ sh) && decide (sh ≤ 33) else if sl = 5 then decide (20 ≤ sh) && decide (sh ≤ 27)
  else if sl = 1 ∨ sl = 3 ∨ sl = 4 ∨ sl = 7 then decide (1 ≤ sh) && decide (sh ≤ 6) else if sl = 2 then (decide (1 ≤ sh) && decide (sh ≤ 19)) || (sh == 34) else false
theorem q_shape_goes (sh sl : Int) (H : Heap) : CallQ prog f_shape_goes [.int .i64 sh, .int .i64 sl] H fun u H' => u = .bool (goesF sh sl) ∧ H' = H := by
  refine in_shape_goes fun hw => ?_
  simp (disch := (first | omega | ((repeat (first | rw [Heap.next_push] | rw [Heap.next_set] | rw [Heap.next_up])); done) | ((repeat (first | rw [Heap.next_push] | rw [Heap.next_set] | rw [Heap.next_up])); omega))) only [pc_shape_goes, pc_shape_goes_1, pc_shape_goes_2, pc_shape_goes_3, pc_shape_goes_4, pc_shape_goes_5, sxA, Nat.reduceBEq, List.map_cons, List.map_nil, ne_eq, not_false_eq_true, not_true_eq_false, Nat.reduceEqDiff, reduceCtorEq, cond_true, cond_false, Bool.not_true, Bool.not_false, Bool.not_not, mxD, if_true, if_false, Nat.reduceAdd, List.getElem?_cons_succ, List.getElem?_cons_zero, Option.some.injEq, exists_eq_left', eq_self, reduceIte, List.length_cons, List.length_nil, Nat.reduceLeDiff, List.all_cons, List.all_nil, List.drop_zero, List.drop_succ_cons, List.take_succ_cons, List.take_zero, List.cons_append, List.nil_append, List.append_nil, splice, List.take_nil, List.drop_nil, ret_shape_goes]
  repeat' (first
      | (refine gB_cases (fun h => ?_) (fun h => ?_) <;> (try simp only [Bool.not_eq_true', Bool.not_eq_false'] at h) <;> simp (disch := (first | omega | ((repeat (first | rw [Heap.next_push] | rw [Heap.next_set] | rw [Heap.next_up])); done) | ((repeat (first | rw [Heap.next_push] | rw [Heap.next_set] | rw [Heap.next_up])); omega))) only [sxA, Nat.reduceBEq, List.map_cons, List.map_nil, ne_eq, not_false_eq_true, not_true_eq_false, Nat.reduceEqDiff, reduceCtorEq, cond_true, cond_false, Bool.not_true, Bool.not_false, Bool.not_not, mxD, if_true, if_false, Nat.reduceAdd, List.getElem?_cons_succ, List.getElem?_cons_zero, Option.some.injEq, exists_eq_left', eq_self, reduceIte, List.length_cons, List.length_nil, Nat.reduceLeDiff, List.all_cons, List.all_nil, List.drop_zero, List.drop_succ_cons, List.take_succ_cons, List.take_zero, List.cons_append, List.nil_append, List.append_nil, splice, List.take_nil, List.drop_nil, ret_shape_goes, h])
      | (refine cB_cases (fun h => ?_) (fun h => ?_) <;> (try simp only [Bool.not_eq_true', Bool.not_eq_false'] at h) <;> simp (disch := (first | omega | ((repeat (first | rw [Heap.next_push] | rw [Heap.next_set] | rw [Heap.next_up])); done) | ((repeat (first | rw [Heap.next_push] | rw [Heap.next_set] | rw [Heap.next_up])); omega))) only [sxA, Nat.reduceBEq, List.map_cons, List.map_nil, ne_eq, not_false_eq_true, not_true_eq_false, Nat.reduceEqDiff, reduceCtorEq, cond_true, cond_false, Bool.not_true, Bool.not_false, Bool.not_not, mxD, if_true, if_false, Nat.reduceAdd, List.getElem?_cons_succ, List.getElem?_cons_zero, Option.some.injEq, exists_eq_left', eq_self, reduceIte, List.length_cons, List.length_nil, Nat.reduceLeDiff, List.all_cons, List.all_nil, List.drop_zero, List.drop_succ_cons, List.take_succ_cons, List.take_zero, List.cons_append, List.nil_append, List.append_nil, splice, List.take_nil, List.drop_nil, ret_shape_goes, h])
      | fail)
  all_goals refine .mk (Nat.le_refl _) ⟨?_, rfl⟩
  all_goals (simp only [beq_iff_eq, decide_eq_true_eq, decide_eq_false_iff_not, beq_eq_false_iff_ne, ne_eq] at *)
  all_goals (unfold goesF; simp_all <;> omega)

def takenF (c : Int) : Bool := (decide (64 ≤ c) && decide (c ≤ 79)) || (c == 15) || (c == 102) || (c == 196) || (c == 197) || (c == 242) || (c == 243)
theorem q_shape_taken (c : Int) (H : Heap) : CallQ prog f_shape_taken [.int .i64 c] H fun u H' => u = .bool (takenF c) ∧ H' = H := by
  refine in_shape_taken fun hw => ?_
  simp (disch := (first | omega | ((repeat (first | rw [Heap.next_push] | rw [Heap.next_set] | rw [Heap.next_up])); done) | ((repeat (first | rw [Heap.next_push] | rw [Heap.next_set] | rw [Heap.next_up])); omega))) only [pc_shape_taken, sxA, Nat.reduceBEq, List.map_cons, List.map_nil, ne_eq, not_false_eq_true, not_true_eq_false, Nat.reduceEqDiff, reduceCtorEq, cond_true, cond_false, Bool.not_true, Bool.not_false, Bool.not_not, mxD, if_true, if_false, Nat.reduceAdd, List.getElem?_cons_succ, List.getElem?_cons_zero, Option.some.injEq, exists_eq_left', eq_self, reduceIte, List.length_cons, List.length_nil, Nat.reduceLeDiff, List.all_cons, List.all_nil, List.drop_zero, List.drop_succ_cons, List.take_succ_cons, List.take_zero, List.cons_append, List.nil_append, List.append_nil, splice, List.take_nil, List.drop_nil, ret_shape_taken]
  repeat' (first
      | (refine gB_cases (fun h => ?_) (fun h => ?_) <;> (try simp only [Bool.not_eq_true', Bool.not_eq_false'] at h) <;> simp (disch := (first | omega | ((repeat (first | rw [Heap.next_push] | rw [Heap.next_set] | rw [Heap.next_up])); done) | ((repeat (first | rw [Heap.next_push] | rw [Heap.next_set] | rw [Heap.next_up])); omega))) only [sxA, Nat.reduceBEq, List.map_cons, List.map_nil, ne_eq, not_false_eq_true, not_true_eq_false, Nat.reduceEqDiff, reduceCtorEq, cond_true, cond_false, Bool.not_true, Bool.not_false, Bool.not_not, mxD, if_true, if_false, Nat.reduceAdd, List.getElem?_cons_succ, List.getElem?_cons_zero, Option.some.injEq, exists_eq_left', eq_self, reduceIte, List.length_cons, List.length_nil, Nat.reduceLeDiff, List.all_cons, List.all_nil, List.drop_zero, List.drop_succ_cons, List.take_succ_cons, List.take_zero, List.cons_append, List.nil_append, List.append_nil, splice, List.take_nil, List.drop_nil, ret_shape_taken, h])
      | (refine cB_cases (fun h => ?_) (fun h => ?_) <;> (try simp only [Bool.not_eq_true', Bool.not_eq_false'] at h) <;> simp (disch := (first | omega | ((repeat (first | rw [Heap.next_push] | rw [Heap.next_set] | rw [Heap.next_up])); done) | ((repeat (first | rw [Heap.next_push] | rw [Heap.next_set] | rw [Heap.next_up])); omega))) only [sxA, Nat.reduceBEq, List.map_cons, List.map_nil, ne_eq, not_false_eq_true, not_true_eq_false, Nat.reduceEqDiff, reduceCtorEq, cond_true, cond_false, Bool.not_true, Bool.not_false, Bool.not_not, mxD, if_true, if_false, Nat.reduceAdd, List.getElem?_cons_succ, List.getElem?_cons_zero, Option.some.injEq, exists_eq_left', eq_self, reduceIte, List.length_cons, List.length_nil, Nat.reduceLeDiff, List.all_cons, List.all_nil, List.drop_zero, List.drop_succ_cons, List.take_succ_cons, List.take_zero, List.cons_append, List.nil_append, List.append_nil, splice, List.take_nil, List.drop_nil, ret_shape_taken, h])
      | fail)
  all_goals refine .mk (Nat.le_refl _) ⟨?_, rfl⟩
  all_goals (simp only [takenF]; simp_all <;> omega)

def IsPre (H : Heap) (v : Value) (l : List Int) : Prop := ∃ a cap, v = .slice a l.length cap ∧ (0 < l.length → ∃ b e ro cs, a = some ⟨b, 0, none⟩ ∧ H.get b = some (.cells cs e ro) ∧ ∀ j, j < l.length → cs[j]? = some (.int .i64 (l.getD j 0)))
theorem q_Index_pre (va : Value) (xs : List Int) (x : Int) (H : Heap) (ha : IsPre H va xs) (hl : xs.length ≤ 1000) : CallQ prog f_slices_Index_int_int [va, .int .i64 x] H fun u H' => u = .int .i64 (idxI xs x) ∧ H' = H := by
  refine in_slices_Index_int_int fun hw => ?_
  obtain ⟨aa, acap, rfl, hsa⟩ := ha
  simp only [pc_slices_Index_int_int, sxA, Nat.reduceBEq, List.map_cons, List.map_nil, ne_eq, not_false_eq_true, not_true_eq_false, Nat.reduceEqDiff, reduceCtorEq, cond_true, cond_false, Bool.not_true, Bool.not_false, Bool.not_not, mxA, if_true, if_false, Nat.reduceAdd, List.getElem?_cons_succ, List.getElem?_cons_zero, Option.some.injEq, exists_eq_left', eq_self, reduceIte, List.length_cons, List.length_nil, Nat.reduceLeDiff, List.all_cons, List.all_nil, List.drop_zero, List.drop_succ_cons, List.take_succ_cons, List.take_zero, List.cons_append, List.nil_append, List.append_nil, splice, List.take_nil, List.drop_nil]
  refine loop_intro (fun m A' H' => ∃ i : Nat, i ≤ xs.length ∧ m = xs.length - i ∧ H' = H ∧ (∀ j, j < i → ¬ x = xs.getD j 0) ∧ A' 0 = .slice aa xs.length acap ∧ A' 1 = .int .i64 x ∧ A' 7 = .int .i64 (xs.length : Int) ∧ A' 8 = .int .i64 i) xs.length ?_ ?_
  · refine ⟨0, Nat.zero_le _, by omega, rfl, fun j h => by omega, ?_, ?_, ?_, ?_⟩
    all_goals simp only [uxA, Nat.reduceBEq, cond_true, cond_false]
    rfl
  · rintro m A' H' ⟨i, hi, rfl, hEq, hall, r0, r1, r7, r8⟩
    subst hEq
    simp only [sxA, Nat.reduceBEq, List.map_cons, List.map_nil, ne_eq, not_false_eq_true, not_true_eq_false, Nat.reduceEqDiff, reduceCtorEq, cond_true, cond_false, Bool.not_true, Bool.not_false, Bool.not_not, mxA, if_true, if_false, Nat.reduceAdd, List.getElem?_cons_succ, List.getElem?_cons_zero, Option.some.injEq, exists_eq_left', eq_self, reduceIte, List.length_cons, List.length_nil, Nat.reduceLeDiff, List.all_cons, List.all_nil, List.drop_zero, List.drop_succ_cons, List.take_succ_cons, List.take_zero, List.cons_append, List.nil_append, List.append_nil, splice, List.take_nil, List.drop_nil, r7, r8]
    refine cB_cases (fun h2 => ?_) (fun h2 => ?_)
    · have h2 : i < xs.length := by have := of_decide_eq_true h2; omega
      obtain ⟨b1, e1, ro1, cs, rfl, hb1, hcs⟩ := hsa (by omega)
      have c1 : (0 : Int) ≤ i ∧ (i : Int) < xs.length := by omega
      have c3 : (i : Int).toNat = i := by omega
      have ei : IntKind.i64.wrap ((i : Int) + 1) = ((i + 1 : Nat) : Int) := by rw [w64 (by unfold I64; omega)]; omega
      have g1 := hcs i h2
      simp only [sxA, Nat.reduceBEq, List.map_cons, List.map_nil, ne_eq, not_false_eq_true, not_true_eq_false, Nat.reduceEqDiff, reduceCtorEq, cond_true, cond_false, Bool.not_true, Bool.not_false, Bool.not_not, mxA, if_true, if_false, Nat.reduceAdd, List.getElem?_cons_succ, List.getElem?_cons_zero, Option.some.injEq, exists_eq_left', eq_self, reduceIte, List.length_cons, List.length_nil, Nat.reduceLeDiff, List.all_cons, List.all_nil, List.drop_zero, List.drop_succ_cons, List.take_succ_cons, List.take_zero, List.cons_append, List.nil_append, List.append_nil, splice, List.take_nil, List.drop_nil, r0, r1, r8, c1, c3, hb1, g1]
      refine cB_cases (fun h3 => ?_) (fun h3 => ?_)
      · have h3 : x = xs.getD i 0 := by simpa using h3
        simp only [sxA, Nat.reduceBEq, List.map_cons, List.map_nil, ne_eq, not_false_eq_true, not_true_eq_false, Nat.reduceEqDiff, reduceCtorEq, cond_true, cond_false, Bool.not_true, Bool.not_false, Bool.not_not, mxA, if_true, if_false, Nat.reduceAdd, List.getElem?_cons_succ, List.getElem?_cons_zero, Option.some.injEq, exists_eq_left', eq_self, reduceIte, List.length_cons, List.length_nil, Nat.reduceLeDiff, List.all_cons, List.all_nil, List.drop_zero, List.drop_succ_cons, List.take_succ_cons, List.take_zero, List.cons_append, List.nil_append, List.append_nil, splice, List.take_nil, List.drop_nil, r8, ret_slices_Index_int_int]
        exact .mk (Nat.le_refl _) ⟨by rw [idxI, idxGo_at x xs 0 i hall h2 h3, Nat.zero_add], rfl⟩
      · have h3 : ¬ x = xs.getD i 0 := by simpa using h3
        simp only [sxA, Nat.reduceBEq, List.map_cons, List.map_nil, ne_eq, not_false_eq_true, not_true_eq_false, Nat.reduceEqDiff, reduceCtorEq, cond_true, cond_false, Bool.not_true, Bool.not_false, Bool.not_not, mxA, if_true, if_false, Nat.reduceAdd, List.getElem?_cons_succ, List.getElem?_cons_zero, Option.some.injEq, exists_eq_left', eq_self, reduceIte, List.length_cons, List.length_nil, Nat.reduceLeDiff, List.all_cons, List.all_nil, List.drop_zero, List.drop_succ_cons, List.take_succ_cons, List.take_zero, List.cons_append, List.nil_append, List.append_nil, splice, List.take_nil, List.drop_nil, r8, ei]
        refine ⟨xs.length - (i + 1), by omega, i + 1, by omega, rfl, rfl, fun j hj => ?_, ?_, ?_, ?_, ?_⟩
        · rcases Nat.lt_or_ge j i with h | h
          · exact hall j h
          · rw [show j = i by omega]; exact h3
        all_goals simp only [uxA, Nat.reduceBEq, cond_true, cond_false, r0, r1, r7]
    · have h2 : i = xs.length := by have := of_decide_eq_false h2; omega
      subst h2
      simp only [sxA, Nat.reduceBEq, List.map_cons, List.map_nil, ne_eq, not_false_eq_true, not_true_eq_false, Nat.reduceEqDiff, reduceCtorEq, cond_true, cond_false, Bool.not_true, Bool.not_false, Bool.not_not, mxA, if_true, if_false, Nat.reduceAdd, List.getElem?_cons_succ, List.getElem?_cons_zero, Option.some.injEq, exists_eq_left', eq_self, reduceIte, List.length_cons, List.length_nil, Nat.reduceLeDiff, List.all_cons, List.all_nil, List.drop_zero, List.drop_succ_cons, List.take_succ_cons, List.take_zero, List.cons_append, List.nil_append, List.append_nil, splice, List.take_nil, List.drop_nil, ret_slices_Index_int_int]
      exact .mk (Nat.le_refl _) ⟨by rw [idxI, idxGo_no x xs 0 hall], rfl⟩

theorem q_Contains (va : Value) (xs : List Int) (x : Int) (H : Heap) (ha : IsPre H va xs) (hl : xs.length ≤ 1000) : CallQ prog f_slices_Contains_int_int [va, .int .i64 x] H fun u H' => u = .bool (decide (0 ≤ idxI xs x)) ∧ H' = H := by
  refine in_slices_Contains_int_int fun hw => ?_
  simp only [pc_slices_Contains_int_int, sxA, Nat.reduceBEq, List.map_cons, List.map_nil, ne_eq, not_false_eq_true, not_true_eq_false, Nat.reduceEqDiff, reduceCtorEq, cond_true, cond_false, Bool.not_true, Bool.not_false, Bool.not_not, mxA, if_true, if_false, Nat.reduceAdd, List.getElem?_cons_succ, List.getElem?_cons_zero, Option.some.injEq, exists_eq_left', eq_self, reduceIte, List.length_cons, List.length_nil, Nat.reduceLeDiff, List.all_cons, List.all_nil, List.drop_zero, List.drop_succ_cons, List.take_succ_cons, List.take_zero, List.cons_append, List.nil_append, List.append_nil, splice, List.take_nil, List.drop_nil]
  refine (q_Index_pre va xs x H ha hl).thenW ?_
  rintro _ _ _ _ ⟨rfl, rfl⟩
  simp only [sxA, Nat.reduceBEq, List.map_cons, List.map_nil, ne_eq, not_false_eq_true, not_true_eq_false, Nat.reduceEqDiff, reduceCtorEq, cond_true, cond_false, Bool.not_true, Bool.not_false, Bool.not_not, mxA, if_true, if_false, Nat.reduceAdd, List.getElem?_cons_succ, List.getElem?_cons_zero, Option.some.injEq, exists_eq_left', eq_self, reduceIte, List.length_cons, List.length_nil, Nat.reduceLeDiff, List.all_cons, List.all_nil, List.drop_zero, List.drop_succ_cons, List.take_succ_cons, List.take_zero, List.cons_append, List.nil_append, List.append_nil, splice, List.take_nil, List.drop_nil, ret_slices_Contains_int_int]
  exact .mk (Nat.le_refl _) ⟨rfl, rfl⟩
theorem asl_pre {b len cap i : Nat} (hc : CapOk len cap) (hi : i ≤ len) : asliceS 1 (.slice (some ⟨b, 0, none⟩) len cap) none (some (i : Int)) none = some (.slice (some ⟨b, 0, none⟩) i cap) := by
  unfold asliceS
  rcases hc with rfl | ⟨h1, h2⟩
  · simp only [Option.getD_none, Option.getD_some]
    rw [if_pos (Nat.le_add_right _ _), if_pos ⟨Int.le_refl _, by omega, by omega, trivial⟩]
    simp
  · simp only [Option.getD_none, Option.getD_some]
    rw [if_neg (by omega), if_pos (by omega)]
    simp

def onceAt (l : List Int) (k : Nat) : Bool := (l.getD k 0 == 6) || !(decide (0 ≤ idxI (l.take k) (l.getD k 0)))
def onceF (l : List Int) : Bool := (List.range l.length).all (onceAt l)
theorem range_all_true {n : Nat} {p : Nat → Bool} (h : ∀ j, j < n → p j = true) : (List.range n).all p = true := by
  rw [List.all_eq_true]; intro j hj; exact h j (List.mem_range.1 hj)
theorem range_all_false {n i : Nat} {p : Nat → Bool} (hi : i < n) (h : p i = false) : (List.range n).all p = false := by
  rw [List.all_eq_false]; exact ⟨i, List.mem_range.2 hi, by rw [h]; decide⟩
theorem q_shape_once (va : Value) (xs : List Int) (H : Heap) (ha : IsSl H va xs.length (ints xs)) (hl : xs.length ≤ 1000) (hc : ∀ a n c, va = .slice (some a) n c → CapOk n c) : CallQ prog f_shape_once [va] H fun u H' => u = .bool (onceF xs) ∧ H' = H := by
  refine in_shape_once fun hw => ?_
  obtain ⟨aa, acap, rfl, hsa⟩ := ha
  simp only [pc_shape_once, sxA, Nat.reduceBEq, List.map_cons, List.map_nil, ne_eq, not_false_eq_true, not_true_eq_false, Nat.reduceEqDiff, reduceCtorEq, cond_true, cond_false, Bool.not_true, Bool.not_false, Bool.not_not, mxA, if_true, if_false, Nat.reduceAdd, List.getElem?_cons_succ, List.getElem?_cons_zero, Option.some.injEq, exists_eq_left', eq_self, reduceIte, List.length_cons, List.length_nil, Nat.reduceLeDiff, List.all_cons, List.all_nil, List.drop_zero, List.drop_succ_cons, List.take_succ_cons, List.take_zero, List.cons_append, List.nil_append, List.append_nil, splice, List.take_nil, List.drop_nil]
  refine loop_intro (fun m A' H' => ∃ i : Nat, i ≤ xs.length ∧ m = xs.length - i ∧ H' = H ∧ (∀ j, j < i → onceAt xs j = true) ∧ A' 0 = .slice aa xs.length acap ∧ A' 5 = .slice aa xs.length acap ∧ A' 6 = .int .i64 (xs.length : Int) ∧ A' 7 = .int .i64 i) xs.length ?_ ?_
  · refine ⟨0, Nat.zero_le _, by omega, rfl, fun j h => by omega, ?_, ?_, ?_, ?_⟩
    all_goals simp only [uxA, Nat.reduceBEq, cond_true, cond_false]
    rfl
  · rintro m A' H' ⟨i, hi, rfl, hEq, hall, r0, r5, r6, r7⟩
    subst hEq
    simp only [sxA, Nat.reduceBEq, List.map_cons, List.map_nil, ne_eq, not_false_eq_true, not_true_eq_false, Nat.reduceEqDiff, reduceCtorEq, cond_true, cond_false, Bool.not_true, Bool.not_false, Bool.not_not, mxA, if_true, if_false, Nat.reduceAdd, List.getElem?_cons_succ, List.getElem?_cons_zero, Option.some.injEq, exists_eq_left', eq_self, reduceIte, List.length_cons, List.length_nil, Nat.reduceLeDiff, List.all_cons, List.all_nil, List.drop_zero, List.drop_succ_cons, List.take_succ_cons, List.take_zero, List.cons_append, List.nil_append, List.append_nil, splice, List.take_nil, List.drop_nil, r6, r7]
    refine cB_cases (fun h2 => ?_) (fun h2 => ?_)
    · have h2 : i < xs.length := by have := of_decide_eq_true h2; omega
      obtain ⟨b1, e1, ro1, rfl, hb1⟩ := hsa (by omega)
      have c1 : (0 : Int) ≤ i ∧ (i : Int) < xs.length := by omega
      have c3 : (i : Int).toNat = i := by omega
      have ei : IntKind.i64.wrap ((i : Int) + 1) = ((i + 1 : Nat) : Int) := by rw [w64 (by unfold I64; omega)]; omega
      have g1 := ints_get (l := xs) (i := i) (by omega)
      have next : onceAt xs i = true → ∀ j, j < i + 1 → onceAt xs j = true := fun h j hj => by
        rcases Nat.lt_or_ge j i with h' | h'
        · exact hall j h'
        · rw [show j = i by omega]; exact h
      have oa : onceAt xs i = ((xs.getD i 0 == 6) || !(decide (0 ≤ idxI (xs.take i) (xs.getD i 0)))) := rfl
      simp only [sxA, Nat.reduceBEq, List.map_cons, List.map_nil, ne_eq, not_false_eq_true, not_true_eq_false, Nat.reduceEqDiff, reduceCtorEq, cond_true, cond_false, Bool.not_true, Bool.not_false, Bool.not_not, mxA, if_true, if_false, Nat.reduceAdd, List.getElem?_cons_succ, List.getElem?_cons_zero, Option.some.injEq, exists_eq_left', eq_self, reduceIte, List.length_cons, List.length_nil, Nat.reduceLeDiff, List.all_cons, List.all_nil, List.drop_zero, List.drop_succ_cons, List.take_succ_cons, List.take_zero, List.cons_append, List.nil_append, List.append_nil, splice, List.take_nil, List.drop_nil, r0, r5, r7, c1, c3, hb1, g1]
      cases q6 : xs.getD i 0 == 6 with
      | true =>
        rw [q6, Bool.true_or] at oa
        simp only [sxA, Nat.reduceBEq, List.map_cons, List.map_nil, ne_eq, not_false_eq_true, not_true_eq_false, Nat.reduceEqDiff, reduceCtorEq, cond_true, cond_false, Bool.not_true, Bool.not_false, Bool.not_not, mxA, if_true, if_false, Nat.reduceAdd, List.getElem?_cons_succ, List.getElem?_cons_zero, Option.some.injEq, exists_eq_left', eq_self, reduceIte, List.length_cons, List.length_nil, Nat.reduceLeDiff, List.all_cons, List.all_nil, List.drop_zero, List.drop_succ_cons, List.take_succ_cons, List.take_zero, List.cons_append, List.nil_append, List.append_nil, splice, List.take_nil, List.drop_nil, r7, ei]
        refine ⟨xs.length - (i + 1), by omega, i + 1, by omega, rfl, rfl, next oa, ?_, ?_, ?_, ?_⟩
        all_goals simp only [uxA, Nat.reduceBEq, cond_true, cond_false, r0, r5, r6]
      | false =>
        rw [q6, Bool.false_or] at oa
        have il : (xs.take i).length = i := by rw [List.length_take]; omega
        have hsl : IsPre H' (.slice (some ⟨b1, 0, none⟩) i acap) (xs.take i) := ⟨some ⟨b1, 0, none⟩, acap, by rw [il], fun _ => ⟨b1, e1, ro1, _, rfl, hb1, fun j hj => by
          rw [il] at hj
          rw [ints_get (by omega)]
          simp [List.getD, List.getElem?_take, hj]⟩⟩
        have asl := asl_pre (b := b1) (hc _ _ _ rfl) (Nat.le_of_lt h2)
        simp only [sxA, Nat.reduceBEq, List.map_cons, List.map_nil, ne_eq, not_false_eq_true, not_true_eq_false, Nat.reduceEqDiff, reduceCtorEq, cond_true, cond_false, Bool.not_true, Bool.not_false, Bool.not_not, mxA, if_true, if_false, Nat.reduceAdd, List.getElem?_cons_succ, List.getElem?_cons_zero, Option.some.injEq, exists_eq_left', eq_self, reduceIte, List.length_cons, List.length_nil, Nat.reduceLeDiff, List.all_cons, List.all_nil, List.drop_zero, List.drop_succ_cons, List.take_succ_cons, List.take_zero, List.cons_append, List.nil_append, List.append_nil, splice, List.take_nil, List.drop_nil, r0, r7, asl]
        refine (q_Contains _ (xs.take i) (xs.getD i 0) H' hsl (by omega)).thenW ?_
        rintro _ _ _ _ ⟨rfl, rfl⟩
        simp only [sxA, Nat.reduceBEq, List.map_cons, List.map_nil, ne_eq, not_false_eq_true, not_true_eq_false, Nat.reduceEqDiff, reduceCtorEq, cond_true, cond_false, Bool.not_true, Bool.not_false, Bool.not_not, mxA, if_true, if_false, Nat.reduceAdd, List.getElem?_cons_succ, List.getElem?_cons_zero, Option.some.injEq, exists_eq_left', eq_self, reduceIte, List.length_cons, List.length_nil, Nat.reduceLeDiff, List.all_cons, List.all_nil, List.drop_zero, List.drop_succ_cons, List.take_succ_cons, List.take_zero, List.cons_append, List.nil_append, List.append_nil, splice, List.take_nil, List.drop_nil]
        cases q7 : decide (0 ≤ idxI (xs.take i) (xs.getD i 0)) with
        | true =>
          rw [q7] at oa
          simp only [sxA, Nat.reduceBEq, List.map_cons, List.map_nil, ne_eq, not_false_eq_true, not_true_eq_false, Nat.reduceEqDiff, reduceCtorEq, cond_true, cond_false, Bool.not_true, Bool.not_false, Bool.not_not, mxA, if_true, if_false, Nat.reduceAdd, List.getElem?_cons_succ, List.getElem?_cons_zero, Option.some.injEq, exists_eq_left', eq_self, reduceIte, List.length_cons, List.length_nil, Nat.reduceLeDiff, List.all_cons, List.all_nil, List.drop_zero, List.drop_succ_cons, List.take_succ_cons, List.take_zero, List.cons_append, List.nil_append, List.append_nil, splice, List.take_nil, List.drop_nil, ret_shape_once]
          exact .mk (Nat.le_refl _) ⟨by rw [onceF, range_all_false h2 oa], rfl⟩
        | false =>
          rw [q7] at oa
          simp only [sxA, Nat.reduceBEq, List.map_cons, List.map_nil, ne_eq, not_false_eq_true, not_true_eq_false, Nat.reduceEqDiff, reduceCtorEq, cond_true, cond_false, Bool.not_true, Bool.not_false, Bool.not_not, mxA, if_true, if_false, Nat.reduceAdd, List.getElem?_cons_succ, List.getElem?_cons_zero, Option.some.injEq, exists_eq_left', eq_self, reduceIte, List.length_cons, List.length_nil, Nat.reduceLeDiff, List.all_cons, List.all_nil, List.drop_zero, List.drop_succ_cons, List.take_succ_cons, List.take_zero, List.cons_append, List.nil_append, List.append_nil, splice, List.take_nil, List.drop_nil, r7, ei]
          refine ⟨xs.length - (i + 1), by omega, i + 1, by omega, rfl, rfl, next oa, ?_, ?_, ?_, ?_⟩
          all_goals simp only [uxA, Nat.reduceBEq, cond_true, cond_false, r0, r5, r6]
    · have h2 : i = xs.length := by have := of_decide_eq_false h2; omega
      subst h2
      simp only [sxA, Nat.reduceBEq, List.map_cons, List.map_nil, ne_eq, not_false_eq_true, not_true_eq_false, Nat.reduceEqDiff, reduceCtorEq, cond_true, cond_false, Bool.not_true, Bool.not_false, Bool.not_not, mxA, if_true, if_false, Nat.reduceAdd, List.getElem?_cons_succ, List.getElem?_cons_zero, Option.some.injEq, exists_eq_left', eq_self, reduceIte, List.length_cons, List.length_nil, Nat.reduceLeDiff, List.all_cons, List.all_nil, List.drop_zero, List.drop_succ_cons, List.take_succ_cons, List.take_zero, List.cons_append, List.nil_append, List.append_nil, splice, List.take_nil, List.drop_nil, ret_shape_once]
      exact .mk (Nat.le_refl _) ⟨by rw [onceF, range_all_true hall], rfl⟩

def mtchAt (f : Fm) (k : Nat) : Bool := goesF (f.shapes.getD k 0) (f.slots.getD k 0)
def mtchF (f : Fm) : Bool := (f.shapes.length == f.slots.length) && (List.range f.slots.length).all (mtchAt f)
theorem q_shape_matched (x : Lf) (H : Heap) (hx : x.At H) : CallQ prog f_shape_matched [.agg x.cells.toArray] H fun u H' => u = .bool (mtchF x.f) ∧ ∃ m, H' = H.up m := by
  refine in_shape_matched fun hw => ?_
  have ec : (Value.agg x.cells.toArray).cells.toList = x.cells := rfl
  have hx0 : Ext H (H.push (.cells x.cells T_api_Form false)) := (Ext.refl H).push _
  have hg0 : (H.push (.cells x.cells T_api_Form false)).get H.next = some (.cells x.cells T_api_Form false) := by rw [Heap.get_push, if_pos rfl]
  have hw0 := hw.push (.cells x.cells T_api_Form false)
  obtain ⟨l1, l2, h1, h2⟩ := hx.ext hw hx0
  obtain ⟨a1, c1, e1, s1⟩ := h1
  obtain ⟨a2, c2, e2, s2⟩ := h2
  have x1 : x.cells[1]? = some (.slice a1 x.f.shapes.length c1) := by rw [← e1]; rfl
  have x2 : x.cells[2]? = some (.slice a2 x.f.slots.length c2) := by rw [← e2]; rfl
  simp only [pc_shape_matched, ec, sxA, Nat.reduceBEq, List.map_cons, List.map_nil, ne_eq, not_false_eq_true, not_true_eq_false, Nat.reduceEqDiff, reduceCtorEq, cond_true, cond_false, Bool.not_true, Bool.not_false, Bool.not_not, mxA, if_true, if_false, Nat.reduceAdd, List.getElem?_cons_succ, List.getElem?_cons_zero, Option.some.injEq, exists_eq_left', eq_self, reduceIte, List.length_cons, List.length_nil, Nat.reduceLeDiff, List.all_cons, List.all_nil, List.drop_zero, List.drop_succ_cons, List.take_succ_cons, List.take_zero, List.cons_append, List.nil_append, List.append_nil, splice, List.take_nil, List.drop_nil, x1, x2]
  generalize hH0 : H.push (.cells x.cells T_api_Form false) = H0 at hx0 hg0 hw0 s1 s2
  have fin : ∀ b, b = mtchF x.f → Ret H (fun u H' => u = .bool (mtchF x.f) ∧ ∃ m, H' = H.up m) (.bool b) H0 := fun b hb => .ext hw hx0 ⟨by rw [hb], _, rfl⟩
  by_cases hne : x.f.shapes.length = x.f.slots.length
  · have e0 : ((x.f.shapes.length : Int) == (x.f.slots.length : Int)) = true := by simp [hne]
    simp only [e0, sxA, Nat.reduceBEq, List.map_cons, List.map_nil, ne_eq, not_false_eq_true, not_true_eq_false, Nat.reduceEqDiff, reduceCtorEq, cond_true, cond_false, Bool.not_true, Bool.not_false, Bool.not_not, mxA, if_true, if_false, Nat.reduceAdd, List.getElem?_cons_succ, List.getElem?_cons_zero, Option.some.injEq, exists_eq_left', eq_self, reduceIte, List.length_cons, List.length_nil, Nat.reduceLeDiff, List.all_cons, List.all_nil, List.drop_zero, List.drop_succ_cons, List.take_succ_cons, List.take_zero, List.cons_append, List.nil_append, List.append_nil, splice, List.take_nil, List.drop_nil, hg0, x1, x2]
    refine loop_intro (fun m A' H' => ∃ i : Nat, i ≤ x.f.slots.length ∧ m = x.f.slots.length - i ∧ H' = H0 ∧ (∀ j, j < i → mtchAt x.f j = true) ∧ A' 1 = .pointer (some ⟨H.next, 0, none⟩) ∧ A' 13 = .slice a2 x.f.slots.length c2 ∧ A' 14 = .int .i64 (x.f.slots.length : Int) ∧ A' 15 = .int .i64 i) x.f.slots.length ?_ ?_
    · refine ⟨0, Nat.zero_le _, by omega, rfl, fun j h => by omega, ?_, ?_, ?_, ?_⟩
      all_goals simp only [uxA, Nat.reduceBEq, cond_true, cond_false]
      rfl
    · rintro m A' H' ⟨i, hi, rfl, hEq, hall, r1, r13, r14, r15⟩
      subst hEq
      simp only [sxA, Nat.reduceBEq, List.map_cons, List.map_nil, ne_eq, not_false_eq_true, not_true_eq_false, Nat.reduceEqDiff, reduceCtorEq, cond_true, cond_false, Bool.not_true, Bool.not_false, Bool.not_not, mxA, if_true, if_false, Nat.reduceAdd, List.getElem?_cons_succ, List.getElem?_cons_zero, Option.some.injEq, exists_eq_left', eq_self, reduceIte, List.length_cons, List.length_nil, Nat.reduceLeDiff, List.all_cons, List.all_nil, List.drop_zero, List.drop_succ_cons, List.take_succ_cons, List.take_zero, List.cons_append, List.nil_append, List.append_nil, splice, List.take_nil, List.drop_nil, r14, r15]
      refine cB_cases (fun h2 => ?_) (fun h2 => ?_)
      · have h2 : i < x.f.slots.length := by have := of_decide_eq_true h2; omega
        obtain ⟨b1, t1, ro1, rfl, hb1⟩ := s1 (by omega)
        obtain ⟨b2, t2, ro2, rfl, hb2⟩ := s2 (by omega)
        have d1 : (0 : Int) ≤ i ∧ (i : Int) < x.f.slots.length := by omega
        have d2 : (0 : Int) ≤ i ∧ (i : Int) < x.f.shapes.length := by omega
        have c3 : (i : Int).toNat = i := by omega
        have ei : IntKind.i64.wrap ((i : Int) + 1) = ((i + 1 : Nat) : Int) := by rw [w64 (by unfold I64; omega)]; omega
        have g1 := ints_get (l := x.f.shapes) (i := i) (by omega)
        have g2 := ints_get (l := x.f.slots) (i := i) (by omega)
        simp only [sxA, Nat.reduceBEq, List.map_cons, List.map_nil, ne_eq, not_false_eq_true, not_true_eq_false, Nat.reduceEqDiff, reduceCtorEq, cond_true, cond_false, Bool.not_true, Bool.not_false, Bool.not_not, mxA, if_true, if_false, Nat.reduceAdd, List.getElem?_cons_succ, List.getElem?_cons_zero, Option.some.injEq, exists_eq_left', eq_self, reduceIte, List.length_cons, List.length_nil, Nat.reduceLeDiff, List.all_cons, List.all_nil, List.drop_zero, List.drop_succ_cons, List.take_succ_cons, List.take_zero, List.cons_append, List.nil_append, List.append_nil, splice, List.take_nil, List.drop_nil, r1, r13, r15, d1, d2, c3, hb1, hb2, g1, g2, hg0, x1, x2]
        refine (q_shape_goes _ _ _).thenW ?_
        rintro _ _ _ _ ⟨rfl, rfl⟩
        have oa : mtchAt x.f i = goesF (x.f.shapes.getD i 0) (x.f.slots.getD i 0) := rfl
        simp only [sxA, Nat.reduceBEq, List.map_cons, List.map_nil, ne_eq, not_false_eq_true, not_true_eq_false, Nat.reduceEqDiff, reduceCtorEq, cond_true, cond_false, Bool.not_true, Bool.not_false, Bool.not_not, mxA, if_true, if_false, Nat.reduceAdd, List.getElem?_cons_succ, List.getElem?_cons_zero, Option.some.injEq, exists_eq_left', eq_self, reduceIte, List.length_cons, List.length_nil, Nat.reduceLeDiff, List.all_cons, List.all_nil, List.drop_zero, List.drop_succ_cons, List.take_succ_cons, List.take_zero, List.cons_append, List.nil_append, List.append_nil, splice, List.take_nil, List.drop_nil]
        cases q : goesF (x.f.shapes.getD i 0) (x.f.slots.getD i 0) with
        | false =>
          rw [q] at oa
          simp only [sxA, Nat.reduceBEq, List.map_cons, List.map_nil, ne_eq, not_false_eq_true, not_true_eq_false, Nat.reduceEqDiff, reduceCtorEq, cond_true, cond_false, Bool.not_true, Bool.not_false, Bool.not_not, mxA, if_true, if_false, Nat.reduceAdd, List.getElem?_cons_succ, List.getElem?_cons_zero, Option.some.injEq, exists_eq_left', eq_self, reduceIte, List.length_cons, List.length_nil, Nat.reduceLeDiff, List.all_cons, List.all_nil, List.drop_zero, List.drop_succ_cons, List.take_succ_cons, List.take_zero, List.cons_append, List.nil_append, List.append_nil, splice, List.take_nil, List.drop_nil, ret_shape_matched]
          exact fin _ (by rw [mtchF, range_all_false h2 oa, Bool.and_false])
        | true =>
          rw [q] at oa
          simp only [sxA, Nat.reduceBEq, List.map_cons, List.map_nil, ne_eq, not_false_eq_true, not_true_eq_false, Nat.reduceEqDiff, reduceCtorEq, cond_true, cond_false, Bool.not_true, Bool.not_false, Bool.not_not, mxA, if_true, if_false, Nat.reduceAdd, List.getElem?_cons_succ, List.getElem?_cons_zero, Option.some.injEq, exists_eq_left', eq_self, reduceIte, List.length_cons, List.length_nil, Nat.reduceLeDiff, List.all_cons, List.all_nil, List.drop_zero, List.drop_succ_cons, List.take_succ_cons, List.take_zero, List.cons_append, List.nil_append, List.append_nil, splice, List.take_nil, List.drop_nil, r15, ei]
          refine ⟨x.f.slots.length - (i + 1), by omega, i + 1, by omega, rfl, rfl, fun j hj => ?_, ?_, ?_, ?_, ?_⟩
          · rcases Nat.lt_or_ge j i with h | h
            · exact hall j h
            · rw [show j = i by omega]; exact oa
          all_goals simp only [uxA, Nat.reduceBEq, cond_true, cond_false, r1, r13, r14]
      · have h2 : i = x.f.slots.length := by have := of_decide_eq_false h2; omega
        subst h2
        simp only [sxA, Nat.reduceBEq, List.map_cons, List.map_nil, ne_eq, not_false_eq_true, not_true_eq_false, Nat.reduceEqDiff, reduceCtorEq, cond_true, cond_false, Bool.not_true, Bool.not_false, Bool.not_not, mxA, if_true, if_false, Nat.reduceAdd, List.getElem?_cons_succ, List.getElem?_cons_zero, Option.some.injEq, exists_eq_left', eq_self, reduceIte, List.length_cons, List.length_nil, Nat.reduceLeDiff, List.all_cons, List.all_nil, List.drop_zero, List.drop_succ_cons, List.take_succ_cons, List.take_zero, List.cons_append, List.nil_append, List.append_nil, splice, List.take_nil, List.drop_nil, ret_shape_matched]
        exact fin _ (by rw [mtchF, range_all_true hall, hne]; simp)
  · have e0 : ((x.f.shapes.length : Int) == (x.f.slots.length : Int)) = false := by simp; omega
    simp only [e0, sxA, Nat.reduceBEq, List.map_cons, List.map_nil, ne_eq, not_false_eq_true, not_true_eq_false, Nat.reduceEqDiff, reduceCtorEq, cond_true, cond_false, Bool.not_true, Bool.not_false, Bool.not_not, mxA, if_true, if_false, Nat.reduceAdd, List.getElem?_cons_succ, List.getElem?_cons_zero, Option.some.injEq, exists_eq_left', eq_self, reduceIte, List.length_cons, List.length_nil, Nat.reduceLeDiff, List.all_cons, List.all_nil, List.drop_zero, List.drop_succ_cons, List.take_succ_cons, List.take_zero, List.cons_append, List.nil_append, List.append_nil, splice, List.take_nil, List.drop_nil, ret_shape_matched]
    exact fin _ (by rw [mtchF]; simp [hne])
end Go.Proofs.YtkoecjmmphmdeaaGreatDoor.code
