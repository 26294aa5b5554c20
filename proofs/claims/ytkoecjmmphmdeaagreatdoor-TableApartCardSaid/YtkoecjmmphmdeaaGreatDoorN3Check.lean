/- shape.Check. -/
import Derived.Test.YtkoecjmmphmdeaaGreatDoorN2Check
set_option linter.unusedVariables false
set_option linter.unusedSimpArgs false
set_option maxRecDepth 100000
set_option maxHeartbeats 4000000
namespace Go.Proofs.YtkoecjmmphmdeaaGreatDoor.code
open Go.Ab

theorem map_getB (l : List Bool) (i : Nat) (h : i < l.length) : (l.map Value.bool)[i]? = some (.bool (l.getD i false)) := by
  simp [List.getD, List.getElem?_eq_getElem h]
def shpF (f : Fm) : Int :=
  if opV f.op = false then 6
  else if (decide (4 < f.shapes.length) || decide (4 < f.slots.length)) = true then 3
  else if (decide (f.pre < 0) || decide (5 < f.pre) || decide (f.map < 0) || decide (3 < f.map)) = true then 5
  else if (decide (f.code < 0) || decide (255 < f.code) || decide (f.digit < -1) || decide (7 < f.digit)) = true then 5
  else if ((List.range 9).all fun i => (rulF f).getD i false) = true then 0 else 2
theorem q_shape_Check (x : Lf) (H : Heap) (hx : x.At H) (hf : x.Fr 0) : CallQ prog f_shape_Check [.agg x.cells.toArray] H fun u H' => u = .int .i64 (shpF x.f) ∧ ∃ m, H' = H.up m := by
  refine in_shape_Check fun hw => ?_
  have ec : (Value.agg x.cells.toArray).cells.toList = x.cells := rfl
  have hx0 : Ext H (H.push (.cells x.cells T_api_Form false)) := (Ext.refl H).push _
  have hg0 : (H.push (.cells x.cells T_api_Form false)).get H.next = some (.cells x.cells T_api_Form false) := by rw [Heap.get_push, if_pos rfl]
  have hw0 := hw.push (.cells x.cells T_api_Form false)
  obtain ⟨a1, c1, e1, _⟩ := id hx.2.2.1
  obtain ⟨a2, c2, e2, _⟩ := id hx.2.2.2
  have x0 : x.cells[0]? = some (.int .i64 x.f.op) := rfl
  have x1 : x.cells[1]? = some (.slice a1 x.f.shapes.length c1) := by rw [← e1]; rfl
  have x2 : x.cells[2]? = some (.slice a2 x.f.slots.length c2) := by rw [← e2]; rfl
  have x3 : x.cells[3]? = some (.int .i64 x.f.pre) := rfl
  have x4 : x.cells[4]? = some (.int .i64 x.f.map) := rfl
  have x5 : x.cells[5]? = some (.int .i64 x.f.code) := rfl
  have x6 : x.cells[6]? = some (.int .i64 x.f.digit) := rfl
  have qv := q_opV x.f.op
  have qr := fun H' (he : Ext H H') => q_shape_rules x H' (hx.ext hw he) hf
  have hl9 : (rulF x.f).length = 9 := rfl
  have l1 : decide ((4 : Int) < x.f.shapes.length) = decide (4 < x.f.shapes.length) := by rw [decide_eq_decide]; omega
  have l2 : decide ((4 : Int) < x.f.slots.length) = decide (4 < x.f.slots.length) := by rw [decide_eq_decide]; omega
  have hs : shpF x.f = if opV x.f.op = false then 6
    else if (decide (4 < x.f.shapes.length) || decide (4 < x.f.slots.length)) = true then 3
    else if (decide (x.f.pre < 0) || decide (5 < x.f.pre) || decide (x.f.map < 0) || decide (3 < x.f.map)) = true then 5
    else if (decide (x.f.code < 0) || decide (255 < x.f.code) || decide (x.f.digit < -1) || decide (7 < x.f.digit)) = true then 5
    else if ((List.range 9).all fun i => (rulF x.f).getD i false) = true then 0 else 2 := rfl
  rw [hs]
  clear hs hx hf e1 e2
  generalize rulF x.f = rl at *
  generalize opV x.f.op = ov at *
  generalize hH0 : H.push (.cells x.cells T_api_Form false) = H0 at hx0 hg0 hw0
  obtain ⟨r, hr⟩ : ∃ r, r = (if ov = false then (6 : Int)
    else if (decide (4 < x.f.shapes.length) || decide (4 < x.f.slots.length)) = true then 3
    else if (decide (x.f.pre < 0) || decide (5 < x.f.pre) || decide (x.f.map < 0) || decide (3 < x.f.map)) = true then 5
    else if (decide (x.f.code < 0) || decide (255 < x.f.code) || decide (x.f.digit < -1) || decide (7 < x.f.digit)) = true then 5
    else if ((List.range 9).all fun i => rl.getD i false) = true then 0 else 2) := ⟨_, rfl⟩
  rw [← hr]
  have P3 : ∀ A, A 1 = .pointer (some ⟨H.next, 0, none⟩) → r = (if ((List.range 9).all fun i => rl.getD i false) = true then 0 else 2) → pexec prog pc_shape_Check_3 ⟨Rt prog F_shape_Check H fun u H' => u = .int .i64 r ∧ ∃ m, H' = H.up m, noEx⟩ (Rt prog F_shape_Check H fun u H' => u = .int .i64 r ∧ ∃ m, H' = H.up m) A H0 := by
    intro A r1 hr'
    simp only [pc_shape_Check_3, sxA, Nat.reduceBEq, List.map_cons, List.map_nil, ne_eq, not_false_eq_true, not_true_eq_false, Nat.reduceEqDiff, reduceCtorEq, cond_true, cond_false, Bool.not_true, Bool.not_false, Bool.not_not, mxA, if_true, if_false, Nat.reduceAdd, List.getElem?_cons_succ, List.getElem?_cons_zero, Option.some.injEq, exists_eq_left', eq_self, reduceIte, List.length_cons, List.length_nil, Nat.reduceLeDiff, List.all_cons, List.all_nil, List.drop_zero, List.drop_succ_cons, List.take_succ_cons, List.take_zero, List.cons_append, List.nil_append, List.append_nil, splice, List.take_nil, List.drop_nil, r1, hg0, lcells_length, lcells_take]
    refine (qr _ hx0).thenW ?_
    rintro _ H1 hn1 hw1 ⟨b, rfl, hx1, hb1⟩
    simp only [sxA, Nat.reduceBEq, List.map_cons, List.map_nil, ne_eq, not_false_eq_true, not_true_eq_false, Nat.reduceEqDiff, reduceCtorEq, cond_true, cond_false, Bool.not_true, Bool.not_false, Bool.not_not, mxA, if_true, if_false, Nat.reduceAdd, List.getElem?_cons_succ, List.getElem?_cons_zero, Option.some.injEq, exists_eq_left', eq_self, reduceIte, List.length_cons, List.length_nil, Nat.reduceLeDiff, List.all_cons, List.all_nil, List.drop_zero, List.drop_succ_cons, List.take_succ_cons, List.take_zero, List.cons_append, List.nil_append, List.append_nil, splice, List.take_nil, List.drop_nil]
    refine loop_intro (fun m A' H' => ∃ i : Nat, i ≤ 9 ∧ m = 9 - i ∧ H' = H1 ∧ (∀ j, j < i → rl.getD j false = true) ∧ A' 60 = .slice (some ⟨b, 0, none⟩) 9 9 ∧ A' 61 = .int .i64 ((9 : Nat) : Int) ∧ A' 62 = .int .i64 i) 9 ?_ ?_
    · refine ⟨0, Nat.zero_le _, by omega, rfl, fun j h => by omega, ?_, ?_, ?_⟩
      all_goals simp only [uxA, Nat.reduceBEq, cond_true, cond_false]
      all_goals rfl
    · rintro m A' H' ⟨i, hi, rfl, hEq, hall, r60, r61, r62⟩
      subst hEq
      simp only [pc_shape_Check_2, pc_shape_Check_1, sxA, Nat.reduceBEq, List.map_cons, List.map_nil, ne_eq, not_false_eq_true, not_true_eq_false, Nat.reduceEqDiff, reduceCtorEq, cond_true, cond_false, Bool.not_true, Bool.not_false, Bool.not_not, mxA, if_true, if_false, Nat.reduceAdd, List.getElem?_cons_succ, List.getElem?_cons_zero, Option.some.injEq, exists_eq_left', eq_self, reduceIte, List.length_cons, List.length_nil, Nat.reduceLeDiff, List.all_cons, List.all_nil, List.drop_zero, List.drop_succ_cons, List.take_succ_cons, List.take_zero, List.cons_append, List.nil_append, List.append_nil, splice, List.take_nil, List.drop_nil, r61, r62]
      refine cB_cases (fun h2 => ?_) (fun h2 => ?_)
      · have h2 : i < 9 := by have := of_decide_eq_true h2; omega
        have c1 : (0 : Int) ≤ i ∧ (i : Int) < ((9 : Nat) : Int) := by omega
        have c3 : (i : Int).toNat = i := by omega
        have ei : IntKind.i64.wrap ((i : Int) + 1) = ((i + 1 : Nat) : Int) := by rw [w64 (by unfold I64; omega)]; omega
        have g1 := map_getB rl i (by omega)
        simp only [sxA, Nat.reduceBEq, List.map_cons, List.map_nil, ne_eq, not_false_eq_true, not_true_eq_false, Nat.reduceEqDiff, reduceCtorEq, cond_true, cond_false, Bool.not_true, Bool.not_false, Bool.not_not, mxA, if_true, if_false, Nat.reduceAdd, List.getElem?_cons_succ, List.getElem?_cons_zero, Option.some.injEq, exists_eq_left', eq_self, reduceIte, List.length_cons, List.length_nil, Nat.reduceLeDiff, List.all_cons, List.all_nil, List.drop_zero, List.drop_succ_cons, List.take_succ_cons, List.take_zero, List.cons_append, List.nil_append, List.append_nil, splice, List.take_nil, List.drop_nil, r60, r62, c1, c3, hb1, g1]
        cases q : rl.getD i false with
        | false =>
          simp only [sxA, Nat.reduceBEq, List.map_cons, List.map_nil, ne_eq, not_false_eq_true, not_true_eq_false, Nat.reduceEqDiff, reduceCtorEq, cond_true, cond_false, Bool.not_true, Bool.not_false, Bool.not_not, mxA, if_true, if_false, Nat.reduceAdd, List.getElem?_cons_succ, List.getElem?_cons_zero, Option.some.injEq, exists_eq_left', eq_self, reduceIte, List.length_cons, List.length_nil, Nat.reduceLeDiff, List.all_cons, List.all_nil, List.drop_zero, List.drop_succ_cons, List.take_succ_cons, List.take_zero, List.cons_append, List.nil_append, List.append_nil, splice, List.take_nil, List.drop_nil, ret_shape_Check]
          refine .ext hw (hx0.trans hx1) ⟨?_, _, rfl⟩
          rw [hr', range_all_false h2 q]
          rfl
        | true =>
          simp only [sxA, Nat.reduceBEq, List.map_cons, List.map_nil, ne_eq, not_false_eq_true, not_true_eq_false, Nat.reduceEqDiff, reduceCtorEq, cond_true, cond_false, Bool.not_true, Bool.not_false, Bool.not_not, mxA, if_true, if_false, Nat.reduceAdd, List.getElem?_cons_succ, List.getElem?_cons_zero, Option.some.injEq, exists_eq_left', eq_self, reduceIte, List.length_cons, List.length_nil, Nat.reduceLeDiff, List.all_cons, List.all_nil, List.drop_zero, List.drop_succ_cons, List.take_succ_cons, List.take_zero, List.cons_append, List.nil_append, List.append_nil, splice, List.take_nil, List.drop_nil, r62, ei]
          refine ⟨9 - (i + 1), by omega, i + 1, by omega, rfl, rfl, fun j hj => ?_, ?_, ?_, ?_⟩
          · rcases Nat.lt_or_ge j i with h | h
            · exact hall j h
            · rw [show j = i by omega]; exact q
          all_goals simp only [uxA, Nat.reduceBEq, cond_true, cond_false, r60, r61]
      · have h2 : i = 9 := by have := of_decide_eq_false h2; omega
        subst h2
        simp only [sxA, Nat.reduceBEq, List.map_cons, List.map_nil, ne_eq, not_false_eq_true, not_true_eq_false, Nat.reduceEqDiff, reduceCtorEq, cond_true, cond_false, Bool.not_true, Bool.not_false, Bool.not_not, mxA, if_true, if_false, Nat.reduceAdd, List.getElem?_cons_succ, List.getElem?_cons_zero, Option.some.injEq, exists_eq_left', eq_self, reduceIte, List.length_cons, List.length_nil, Nat.reduceLeDiff, List.all_cons, List.all_nil, List.drop_zero, List.drop_succ_cons, List.take_succ_cons, List.take_zero, List.cons_append, List.nil_append, List.append_nil, splice, List.take_nil, List.drop_nil, ret_shape_Check]
        refine .ext hw (hx0.trans hx1) ⟨?_, _, rfl⟩
        rw [hr', range_all_true hall]
        rfl
  simp only [pc_shape_Check, ec, sxA, Nat.reduceBEq, List.map_cons, List.map_nil, ne_eq, not_false_eq_true, not_true_eq_false, Nat.reduceEqDiff, reduceCtorEq, cond_true, cond_false, Bool.not_true, Bool.not_false, Bool.not_not, mxA, if_true, if_false, Nat.reduceAdd, List.getElem?_cons_succ, List.getElem?_cons_zero, Option.some.injEq, exists_eq_left', eq_self, reduceIte, List.length_cons, List.length_nil, Nat.reduceLeDiff, List.all_cons, List.all_nil, List.drop_zero, List.drop_succ_cons, List.take_succ_cons, List.take_zero, List.cons_append, List.nil_append, List.append_nil, splice, List.take_nil, List.drop_nil, hH0, hg0, x0]
  refine (qv _).thenW ?_
  rintro _ _ _ _ ⟨rfl, rfl⟩
  simp only [pc_shape_Check_6, pc_shape_Check_5, pc_shape_Check_4, sxA, Nat.reduceBEq, List.map_cons, List.map_nil, ne_eq, not_false_eq_true, not_true_eq_false, Nat.reduceEqDiff, reduceCtorEq, cond_true, cond_false, Bool.not_true, Bool.not_false, Bool.not_not, mxA, if_true, if_false, Nat.reduceAdd, List.getElem?_cons_succ, List.getElem?_cons_zero, Option.some.injEq, exists_eq_left', eq_self, reduceIte, List.length_cons, List.length_nil, Nat.reduceLeDiff, List.all_cons, List.all_nil, List.drop_zero, List.drop_succ_cons, List.take_succ_cons, List.take_zero, List.cons_append, List.nil_append, List.append_nil, splice, List.take_nil, List.drop_nil, ret_shape_Check, hg0, x1, x2, x3, x4, x5, x6, l1, l2]
  repeat' (first
      | (refine gB_cases (fun h => ?_) (fun h => ?_) <;> (try simp only [Bool.not_eq_true', Bool.not_eq_false'] at h) <;> simp only [sxA, Nat.reduceBEq, List.map_cons, List.map_nil, ne_eq, not_false_eq_true, not_true_eq_false, Nat.reduceEqDiff, reduceCtorEq, cond_true, cond_false, Bool.not_true, Bool.not_false, Bool.not_not, mxA, if_true, if_false, Nat.reduceAdd, List.getElem?_cons_succ, List.getElem?_cons_zero, Option.some.injEq, exists_eq_left', eq_self, reduceIte, List.length_cons, List.length_nil, Nat.reduceLeDiff, List.all_cons, List.all_nil, List.drop_zero, List.drop_succ_cons, List.take_succ_cons, List.take_zero, List.cons_append, List.nil_append, List.append_nil, splice, List.take_nil, List.drop_nil, ret_shape_Check, hg0, x1, x2, x3, x4, x5, x6, l1, l2, h])
      | (refine cB_cases (fun h => ?_) (fun h => ?_) <;> (try simp only [Bool.not_eq_true', Bool.not_eq_false'] at h) <;> simp only [sxA, Nat.reduceBEq, List.map_cons, List.map_nil, ne_eq, not_false_eq_true, not_true_eq_false, Nat.reduceEqDiff, reduceCtorEq, cond_true, cond_false, Bool.not_true, Bool.not_false, Bool.not_not, mxA, if_true, if_false, Nat.reduceAdd, List.getElem?_cons_succ, List.getElem?_cons_zero, Option.some.injEq, exists_eq_left', eq_self, reduceIte, List.length_cons, List.length_nil, Nat.reduceLeDiff, List.all_cons, List.all_nil, List.drop_zero, List.drop_succ_cons, List.take_succ_cons, List.take_zero, List.cons_append, List.nil_append, List.append_nil, splice, List.take_nil, List.drop_nil, ret_shape_Check, hg0, x1, x2, x3, x4, x5, x6, l1, l2, h])
      | fail)
  all_goals first
    | (refine P3 _ (by simp only [uxA, Nat.reduceBEq, cond_true, cond_false]) ?_; rw [hr]; clear hr P3 qr qv hg0 hw0 hx0 hH0 x0 x1 x2 x3 x4 x5 x6 l1 l2 hl9 ec; simp_all <;> (repeat rw [if_neg (by omega)]) <;> (try (rw [if_pos (by omega)])))
    | (refine .ext hw hx0 ⟨?_, _, rfl⟩; rw [hr]; clear hr P3 qr qv hg0 hw0 hx0 hH0 x0 x1 x2 x3 x4 x5 x6 l1 l2 hl9 ec; simp_all <;> (repeat rw [if_neg (by omega)]) <;> (try (rw [if_pos (by omega)])))
end Go.Proofs.YtkoecjmmphmdeaaGreatDoor.code
