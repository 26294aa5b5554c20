/- table.Meets, of any two forms. -/
import Derived.Test.YtkoecjmmphmdeaaGreatDoorN2Check
import Derived.Test.YtkoecjmmphmdeaaGreatDoorK5May
set_option linter.unusedVariables false
set_option linter.unusedSimpArgs false
set_option maxRecDepth 100000
set_option maxHeartbeats 4000000
namespace Go.Proofs.YtkoecjmmphmdeaaGreatDoor.code
open Go.Ab

def opcF (a b : Fm) : Bool := let c := bif decide (0 ≤ idxI a.slots 4) then b.code else a.code; (a.code == beginsF a c) && (b.code == beginsF b c)
theorem q_table_opcode (x y : Lf) (H : Heap) (hx : x.At H) (hy : y.At H) : CallQ prog f_table_opcode [.agg x.cells.toArray, .agg y.cells.toArray] H fun u H' => u = .bool (opcF x.f y.f) ∧ ∃ m, H' = H.up m := by
  refine in_table_opcode fun hw => ?_
  have ex : (Value.agg x.cells.toArray).cells.toList = x.cells := rfl
  have ey : (Value.agg y.cells.toArray).cells.toList = y.cells := rfl
  have x5 : x.cells[5]? = some (.int .i64 x.f.code) := rfl
  have y5 : y.cells[5]? = some (.int .i64 y.f.code) := rfl
  have qs := fun H' (he : Ext H H') => q_shape_Slot x 4 H' (hx.ext hw he)
  have qx := fun c H' (he : Ext H H') => q_table_begins x c H' (hx.ext hw he)
  have qy := fun c H' (he : Ext H H') => q_table_begins y c H' (hy.ext hw he)
  have hs : opcF x.f y.f = ((x.f.code == beginsF x.f (bif decide (0 ≤ idxI x.f.slots 4) then y.f.code else x.f.code)) && (y.f.code == beginsF y.f (bif decide (0 ≤ idxI x.f.slots 4) then y.f.code else x.f.code))) := rfl
  rw [hs]
  clear hs
  generalize hsl : decide (0 ≤ idxI x.f.slots 4) = c4 at *
  have hx0 : Ext H ((H.push (.cells x.cells T_api_Form false)).push (.cells y.cells T_api_Form false)) := ((Ext.refl H).push _).push _
  have ne1 : ¬ H.next = H.next + 1 := by omega
  have hg0 : ((H.push (.cells x.cells T_api_Form false)).push (.cells y.cells T_api_Form false)).get H.next = some (.cells x.cells T_api_Form false) := by rw [Heap.get_push, Heap.next_push, if_neg ne1, Heap.get_push, if_pos rfl]
  have hg1 : ((H.push (.cells x.cells T_api_Form false)).push (.cells y.cells T_api_Form false)).get (H.next + 1) = some (.cells y.cells T_api_Form false) := by rw [Heap.get_push, Heap.next_push, if_pos rfl]
  have hn0 : ((H.push (.cells x.cells T_api_Form false)).push (.cells y.cells T_api_Form false)).next = H.next + 2 := by simp only [Heap.next_push]
  have hw0 := (hw.push (.cells x.cells T_api_Form false)).push (.cells y.cells T_api_Form false)
  have hp0 : (H.push (.cells x.cells T_api_Form false)).next = H.next + 1 := by simp only [Heap.next_push]
  simp only [pc_table_opcode, ex, ey, sxA, Nat.reduceBEq, List.map_cons, List.map_nil, ne_eq, not_false_eq_true, not_true_eq_false, Nat.reduceEqDiff, reduceCtorEq, cond_true, cond_false, Bool.not_true, Bool.not_false, Bool.not_not, lcells_length, lcells_take, x5, y5]
  simp only [hp0]
  generalize (H.push (.cells x.cells T_api_Form false)).push (.cells y.cells T_api_Form false) = H0 at *
  simp only [sxA, Nat.reduceBEq, List.map_cons, List.map_nil, ne_eq, not_false_eq_true, not_true_eq_false, Nat.reduceEqDiff, reduceCtorEq, cond_true, cond_false, Bool.not_true, Bool.not_false, Bool.not_not, mxA, if_true, if_false, Nat.reduceAdd, List.getElem?_cons_succ, List.getElem?_cons_zero, Option.some.injEq, exists_eq_left', eq_self, reduceIte, List.length_cons, List.length_nil, Nat.reduceLeDiff, List.all_cons, List.all_nil, List.drop_zero, List.drop_succ_cons, List.take_succ_cons, List.take_zero, List.cons_append, List.nil_append, List.append_nil, splice, List.take_nil, List.drop_nil, hg0, hg1, lcells_length, lcells_take, x5, y5]
  refine (qs _ hx0).thenW ?_
  rintro _ _ hn1 hw1 ⟨rfl, m1, rfl⟩
  simp only [Heap.next_up] at hn1
  have hx1 := hx0.up hn1
  simp only [sxA, Nat.reduceBEq, List.map_cons, List.map_nil, ne_eq, not_false_eq_true, not_true_eq_false, Nat.reduceEqDiff, reduceCtorEq, cond_true, cond_false, Bool.not_true, Bool.not_false, Bool.not_not, mxA, if_true, if_false, Nat.reduceAdd, List.getElem?_cons_succ, List.getElem?_cons_zero, Option.some.injEq, exists_eq_left', eq_self, reduceIte, List.length_cons, List.length_nil, Nat.reduceLeDiff, List.all_cons, List.all_nil, List.drop_zero, List.drop_succ_cons, List.take_succ_cons, List.take_zero, List.cons_append, List.nil_append, List.append_nil, splice, List.take_nil, List.drop_nil, hsl]
  have b0 : (∀ n : Int, belowV m1 6 (.int .i64 n) = true) := fun n => rfl
  cases c4
  all_goals simp only [sxA, Nat.reduceBEq, List.map_cons, List.map_nil, ne_eq, not_false_eq_true, not_true_eq_false, Nat.reduceEqDiff, reduceCtorEq, cond_true, cond_false, Bool.not_true, Bool.not_false, Bool.not_not, mxA, if_true, if_false, Nat.reduceAdd, List.getElem?_cons_succ, List.getElem?_cons_zero, Option.some.injEq, exists_eq_left', eq_self, reduceIte, List.length_cons, List.length_nil, Nat.reduceLeDiff, List.all_cons, List.all_nil, List.drop_zero, List.drop_succ_cons, List.take_succ_cons, List.take_zero, List.cons_append, List.nil_append, List.append_nil, splice, List.take_nil, List.drop_nil, hg0, hg1, lcells_length, lcells_take, x5, y5, b0]
  all_goals refine (qx _ _ hx1).thenW ?_
  all_goals rintro _ _ hn2 hw2 ⟨rfl, m2, rfl⟩
  all_goals simp only [Heap.next_up] at hn2
  all_goals have hx2 := hx1.up (show _ ≤ m2 from hn2)
  all_goals (have b1 : (∀ n : Int, belowV m2 6 (.int .i64 n) = true) := fun n => rfl)
  all_goals simp only [sxA, Nat.reduceBEq, List.map_cons, List.map_nil, ne_eq, not_false_eq_true, not_true_eq_false, Nat.reduceEqDiff, reduceCtorEq, cond_true, cond_false, Bool.not_true, Bool.not_false, Bool.not_not, mxA, if_true, if_false, Nat.reduceAdd, List.getElem?_cons_succ, List.getElem?_cons_zero, Option.some.injEq, exists_eq_left', eq_self, reduceIte, List.length_cons, List.length_nil, Nat.reduceLeDiff, List.all_cons, List.all_nil, List.drop_zero, List.drop_succ_cons, List.take_succ_cons, List.take_zero, List.cons_append, List.nil_append, List.append_nil, splice, List.take_nil, List.drop_nil, hg0, hg1, lcells_length, lcells_take, x5, y5, b1]
  all_goals refine ⟨fun _ _ => rfl, ?_⟩
  all_goals refine gB_cases (fun h => ?_) (fun h => ?_) <;> simp only [sxA, Nat.reduceBEq, List.map_cons, List.map_nil, ne_eq, not_false_eq_true, not_true_eq_false, Nat.reduceEqDiff, reduceCtorEq, cond_true, cond_false, Bool.not_true, Bool.not_false, Bool.not_not, mxA, if_true, if_false, Nat.reduceAdd, List.getElem?_cons_succ, List.getElem?_cons_zero, Option.some.injEq, exists_eq_left', eq_self, reduceIte, List.length_cons, List.length_nil, Nat.reduceLeDiff, List.all_cons, List.all_nil, List.drop_zero, List.drop_succ_cons, List.take_succ_cons, List.take_zero, List.cons_append, List.nil_append, List.append_nil, splice, List.take_nil, List.drop_nil, hg0, hg1, lcells_length, lcells_take, x5, y5, b1, h, ret_table_opcode]
  all_goals first
    | (refine (qy _ _ hx2).thenW ?_
       rintro _ _ hn3 hw3 ⟨rfl, m3, rfl⟩
       simp only [Heap.next_up] at hn3
       have hx3 := hx2.up (show _ ≤ m3 from hn3)
       simp only [sxA, Nat.reduceBEq, List.map_cons, List.map_nil, ne_eq, not_false_eq_true, not_true_eq_false, Nat.reduceEqDiff, reduceCtorEq, cond_true, cond_false, Bool.not_true, Bool.not_false, Bool.not_not, mxA, if_true, if_false, Nat.reduceAdd, List.getElem?_cons_succ, List.getElem?_cons_zero, Option.some.injEq, exists_eq_left', eq_self, reduceIte, List.length_cons, List.length_nil, Nat.reduceLeDiff, List.all_cons, List.all_nil, List.drop_zero, List.drop_succ_cons, List.take_succ_cons, List.take_zero, List.cons_append, List.nil_append, List.append_nil, splice, List.take_nil, List.drop_nil, ret_table_opcode]
       refine ⟨fun _ _ => rfl, .ext hw hx3 ⟨by simp, _, rfl⟩⟩)
    | exact .ext hw hx2 ⟨by simp, _, rfl⟩

def lowF' (f : Fm) : Int := if 0 ≤ idxI f.slots 2 ∧ idxI f.slots 2 < f.shapes.length then f.shapes.getD (idxI f.slots 2).toNat 0 else 0
theorem q_table_low (x : Lf) (H : Heap) (hx : x.At H) : CallQ prog f_table_low [.agg x.cells.toArray] H fun u H' => u = .int .i64 (lowF' x.f) ∧ ∃ m, H' = H.up m := by
  refine in_table_low fun hw => ?_
  have ex : (Value.agg x.cells.toArray).cells.toList = x.cells := rfl
  have hx0 : Ext H (H.push (.cells x.cells T_api_Form false)) := (Ext.refl H).push _
  have hg0 : (H.push (.cells x.cells T_api_Form false)).get H.next = some (.cells x.cells T_api_Form false) := by rw [Heap.get_push, if_pos rfl]
  have hw0 := hw.push (.cells x.cells T_api_Form false)
  obtain ⟨l1, l2, h1, h2⟩ := hx.ext hw hx0
  obtain ⟨a1, c1, e1, s1⟩ := h1
  have x1 : x.cells[1]? = some (.slice a1 x.f.shapes.length c1) := by rw [← e1]; rfl
  have qs := q_shape_Slot x 2 _ (hx.ext hw hx0)
  have hs : lowF' x.f = if 0 ≤ idxI x.f.slots 2 ∧ idxI x.f.slots 2 < x.f.shapes.length then x.f.shapes.getD (idxI x.f.slots 2).toNat 0 else 0 := rfl
  rw [hs]
  clear hs
  simp only [pc_table_low, ex, sxA, Nat.reduceBEq, List.map_cons, List.map_nil, ne_eq, not_false_eq_true, not_true_eq_false, Nat.reduceEqDiff, reduceCtorEq, cond_true, cond_false, Bool.not_true, Bool.not_false, Bool.not_not, mxA, if_true, if_false, Nat.reduceAdd, List.getElem?_cons_succ, List.getElem?_cons_zero, Option.some.injEq, exists_eq_left', eq_self, reduceIte, List.length_cons, List.length_nil, Nat.reduceLeDiff, List.all_cons, List.all_nil, List.drop_zero, List.drop_succ_cons, List.take_succ_cons, List.take_zero, List.cons_append, List.nil_append, List.append_nil, splice, List.take_nil, List.drop_nil, lcells_length, lcells_take, x1]
  generalize H.push (.cells x.cells T_api_Form false) = H0 at *
  refine qs.thenW ?_
  rintro _ _ hn1 hw1 ⟨rfl, m1, rfl⟩
  simp only [Heap.next_up] at hn1
  have hx1 := hx0.up hn1
  generalize idxI x.f.slots 2 = i
  simp only [sxA, Nat.reduceBEq, List.map_cons, List.map_nil, ne_eq, not_false_eq_true, not_true_eq_false, Nat.reduceEqDiff, reduceCtorEq, cond_true, cond_false, Bool.not_true, Bool.not_false, Bool.not_not, mxA, if_true, if_false, Nat.reduceAdd, List.getElem?_cons_succ, List.getElem?_cons_zero, Option.some.injEq, exists_eq_left', eq_self, reduceIte, List.length_cons, List.length_nil, Nat.reduceLeDiff, List.all_cons, List.all_nil, List.drop_zero, List.drop_succ_cons, List.take_succ_cons, List.take_zero, List.cons_append, List.nil_append, List.append_nil, splice, List.take_nil, List.drop_nil, hg0, x1]
  refine gB_cases (fun h => ?_) (fun h => ?_) <;> simp only [sxA, Nat.reduceBEq, List.map_cons, List.map_nil, ne_eq, not_false_eq_true, not_true_eq_false, Nat.reduceEqDiff, reduceCtorEq, cond_true, cond_false, Bool.not_true, Bool.not_false, Bool.not_not, mxA, if_true, if_false, Nat.reduceAdd, List.getElem?_cons_succ, List.getElem?_cons_zero, Option.some.injEq, exists_eq_left', eq_self, reduceIte, List.length_cons, List.length_nil, Nat.reduceLeDiff, List.all_cons, List.all_nil, List.drop_zero, List.drop_succ_cons, List.take_succ_cons, List.take_zero, List.cons_append, List.nil_append, List.append_nil, splice, List.take_nil, List.drop_nil, hg0, x1, h, ret_table_low]
  · have h0 : 0 ≤ i := of_decide_eq_true h
    refine cB_cases (fun h' => ?_) (fun h' => ?_) <;> simp only [sxA, Nat.reduceBEq, List.map_cons, List.map_nil, ne_eq, not_false_eq_true, not_true_eq_false, Nat.reduceEqDiff, reduceCtorEq, cond_true, cond_false, Bool.not_true, Bool.not_false, Bool.not_not, mxA, if_true, if_false, Nat.reduceAdd, List.getElem?_cons_succ, List.getElem?_cons_zero, Option.some.injEq, exists_eq_left', eq_self, reduceIte, List.length_cons, List.length_nil, Nat.reduceLeDiff, List.all_cons, List.all_nil, List.drop_zero, List.drop_succ_cons, List.take_succ_cons, List.take_zero, List.cons_append, List.nil_append, List.append_nil, splice, List.take_nil, List.drop_nil, hg0, x1, ret_table_low]
    · have h1 : i < x.f.shapes.length := of_decide_eq_true h'
      obtain ⟨b1, e1', ro1, rfl, hb1⟩ := s1 (by omega)
      have g1 := ints_get (l := x.f.shapes) (i := i.toNat) (by omega)
      simp only [h0, h1, sxA, Nat.reduceBEq, List.map_cons, List.map_nil, ne_eq, not_false_eq_true, not_true_eq_false, Nat.reduceEqDiff, reduceCtorEq, cond_true, cond_false, Bool.not_true, Bool.not_false, Bool.not_not, mxA, if_true, if_false, Nat.reduceAdd, List.getElem?_cons_succ, List.getElem?_cons_zero, Option.some.injEq, exists_eq_left', eq_self, reduceIte, List.length_cons, List.length_nil, Nat.reduceLeDiff, List.all_cons, List.all_nil, List.drop_zero, List.drop_succ_cons, List.take_succ_cons, List.take_zero, List.cons_append, List.nil_append, List.append_nil, splice, List.take_nil, List.drop_nil, hb1, g1, ret_table_low]
      exact .ext hw hx1 ⟨rfl, _, rfl⟩
    · have h1 : ¬ i < x.f.shapes.length := of_decide_eq_false h'
      exact .ext hw hx1 ⟨by rw [if_neg (by omega)], _, rfl⟩
  · have h0 : ¬ 0 ≤ i := of_decide_eq_false h
    exact .ext hw hx1 ⟨by rw [if_neg (by omega)], _, rfl⟩
def regF (f : Fm) : Bool := decide (1 ≤ lowF' f) && decide (lowF' f ≤ 6)
def plcF (f : Fm) : Bool := (decide (15 ≤ lowF' f) && decide (lowF' f ≤ 19)) || (lowF' f == 34)
theorem q_table_register (x : Lf) (H : Heap) (hx : x.At H) : CallQ prog f_table_register [.agg x.cells.toArray] H fun u H' => u = .bool (regF x.f) ∧ ∃ m, H' = H.up m := by
  refine in_table_register fun hw => ?_
  have ex : (Value.agg x.cells.toArray).cells.toList = x.cells := rfl
  have hx0 : Ext H (H.push (.cells x.cells T_api_Form false)) := (Ext.refl H).push _
  have qs := q_table_low x _ (hx.ext hw hx0)
  have hs : regF x.f = (decide (1 ≤ lowF' x.f) && decide (lowF' x.f ≤ 6)) := rfl
  rw [hs]
  generalize lowF' x.f = i at *
  simp only [pc_table_register, ex, sxA, Nat.reduceBEq, List.map_cons, List.map_nil, ne_eq, not_false_eq_true, not_true_eq_false, Nat.reduceEqDiff, reduceCtorEq, cond_true, cond_false, Bool.not_true, Bool.not_false, Bool.not_not, mxA, if_true, if_false, Nat.reduceAdd, List.getElem?_cons_succ, List.getElem?_cons_zero, Option.some.injEq, exists_eq_left', eq_self, reduceIte, List.length_cons, List.length_nil, Nat.reduceLeDiff, List.all_cons, List.all_nil, List.drop_zero, List.drop_succ_cons, List.take_succ_cons, List.take_zero, List.cons_append, List.nil_append, List.append_nil, splice, List.take_nil, List.drop_nil, lcells_length, lcells_take]
  refine qs.thenW ?_
  rintro _ _ hn1 hw1 ⟨rfl, m1, rfl⟩
  simp only [Heap.next_up] at hn1
  have hx1 := hx0.up hn1
  simp only [sxA, Nat.reduceBEq, List.map_cons, List.map_nil, ne_eq, not_false_eq_true, not_true_eq_false, Nat.reduceEqDiff, reduceCtorEq, cond_true, cond_false, Bool.not_true, Bool.not_false, Bool.not_not, mxA, if_true, if_false, Nat.reduceAdd, List.getElem?_cons_succ, List.getElem?_cons_zero, Option.some.injEq, exists_eq_left', eq_self, reduceIte, List.length_cons, List.length_nil, Nat.reduceLeDiff, List.all_cons, List.all_nil, List.drop_zero, List.drop_succ_cons, List.take_succ_cons, List.take_zero, List.cons_append, List.nil_append, List.append_nil, splice, List.take_nil, List.drop_nil]
  refine gB_cases (fun h => ?_) (fun h => ?_) <;> simp only [sxA, Nat.reduceBEq, List.map_cons, List.map_nil, ne_eq, not_false_eq_true, not_true_eq_false, Nat.reduceEqDiff, reduceCtorEq, cond_true, cond_false, Bool.not_true, Bool.not_false, Bool.not_not, mxA, if_true, if_false, Nat.reduceAdd, List.getElem?_cons_succ, List.getElem?_cons_zero, Option.some.injEq, exists_eq_left', eq_self, reduceIte, List.length_cons, List.length_nil, Nat.reduceLeDiff, List.all_cons, List.all_nil, List.drop_zero, List.drop_succ_cons, List.take_succ_cons, List.take_zero, List.cons_append, List.nil_append, List.append_nil, splice, List.take_nil, List.drop_nil, h, ret_table_register]
  all_goals exact .ext hw hx1 ⟨by simp, _, rfl⟩
theorem q_table_place (x : Lf) (H : Heap) (hx : x.At H) : CallQ prog f_table_place [.agg x.cells.toArray] H fun u H' => u = .bool (plcF x.f) ∧ ∃ m, H' = H.up m := by
  refine in_table_place fun hw => ?_
  have ex : (Value.agg x.cells.toArray).cells.toList = x.cells := rfl
  have hx0 : Ext H (H.push (.cells x.cells T_api_Form false)) := (Ext.refl H).push _
  have qs := q_table_low x _ (hx.ext hw hx0)
  have hs : plcF x.f = ((decide (15 ≤ lowF' x.f) && decide (lowF' x.f ≤ 19)) || (lowF' x.f == 34)) := rfl
  rw [hs]
  generalize lowF' x.f = i at *
  simp only [pc_table_place, ex, sxA, Nat.reduceBEq, List.map_cons, List.map_nil, ne_eq, not_false_eq_true, not_true_eq_false, Nat.reduceEqDiff, reduceCtorEq, cond_true, cond_false, Bool.not_true, Bool.not_false, Bool.not_not, mxA, if_true, if_false, Nat.reduceAdd, List.getElem?_cons_succ, List.getElem?_cons_zero, Option.some.injEq, exists_eq_left', eq_self, reduceIte, List.length_cons, List.length_nil, Nat.reduceLeDiff, List.all_cons, List.all_nil, List.drop_zero, List.drop_succ_cons, List.take_succ_cons, List.take_zero, List.cons_append, List.nil_append, List.append_nil, splice, List.take_nil, List.drop_nil, lcells_length, lcells_take]
  refine qs.thenW ?_
  rintro _ _ hn1 hw1 ⟨rfl, m1, rfl⟩
  simp only [Heap.next_up] at hn1
  have hx1 := hx0.up hn1
  simp only [sxA, Nat.reduceBEq, List.map_cons, List.map_nil, ne_eq, not_false_eq_true, not_true_eq_false, Nat.reduceEqDiff, reduceCtorEq, cond_true, cond_false, Bool.not_true, Bool.not_false, Bool.not_not, mxA, if_true, if_false, Nat.reduceAdd, List.getElem?_cons_succ, List.getElem?_cons_zero, Option.some.injEq, exists_eq_left', eq_self, reduceIte, List.length_cons, List.length_nil, Nat.reduceLeDiff, List.all_cons, List.all_nil, List.drop_zero, List.drop_succ_cons, List.take_succ_cons, List.take_zero, List.cons_append, List.nil_append, List.append_nil, splice, List.take_nil, List.drop_nil]
  repeat' (first
    | (refine gB_cases (fun h => ?_) (fun h => ?_) <;> (try simp only [Bool.not_eq_true', Bool.not_eq_false'] at h) <;> simp only [sxA, Nat.reduceBEq, List.map_cons, List.map_nil, ne_eq, not_false_eq_true, not_true_eq_false, Nat.reduceEqDiff, reduceCtorEq, cond_true, cond_false, Bool.not_true, Bool.not_false, Bool.not_not, mxA, if_true, if_false, Nat.reduceAdd, List.getElem?_cons_succ, List.getElem?_cons_zero, Option.some.injEq, exists_eq_left', eq_self, reduceIte, List.length_cons, List.length_nil, Nat.reduceLeDiff, List.all_cons, List.all_nil, List.drop_zero, List.drop_succ_cons, List.take_succ_cons, List.take_zero, List.cons_append, List.nil_append, List.append_nil, splice, List.take_nil, List.drop_nil, h, ret_table_place])
    | fail)
  all_goals exact .ext hw hx1 ⟨by simp, _, rfl⟩

def meetF (a b : Fm) : Bool :=
  (a.vex == b.vex) && (a.pre == b.pre) && (a.map == b.map) && (a.l == b.l) &&
  !((!(a.w == b.w) && !(a.w == -1) && !(b.w == -1)) || !opcF a b) &&
  ((!decide (0 ≤ idxI a.slots 2) || !decide (0 ≤ idxI b.slots 2)) ||
    (!(decide (0 ≤ a.digit) && decide (0 ≤ b.digit) && !(a.digit == b.digit)) && !((regF a && plcF b) || (plcF a && regF b))))
theorem q_table_Meets (x y : Lf) (H : Heap) (hx : x.At H) (hy : y.At H) : CallQ prog f_table_Meets [.agg x.cells.toArray, .agg y.cells.toArray] H fun u H' => u = .bool (meetF x.f y.f) ∧ ∃ m, H' = H.up m := by
  refine in_table_Meets fun hw => ?_
  have ex : (Value.agg x.cells.toArray).cells.toList = x.cells := rfl
  have ey : (Value.agg y.cells.toArray).cells.toList = y.cells := rfl
  have x3 : x.cells[3]? = some (.int .i64 x.f.pre) := rfl
  have x4 : x.cells[4]? = some (.int .i64 x.f.map) := rfl
  have x6 : x.cells[6]? = some (.int .i64 x.f.digit) := rfl
  have x7 : x.cells[7]? = some (.int .i64 x.f.w) := rfl
  have x8 : x.cells[8]? = some (.bool x.f.vex) := rfl
  have x9 : x.cells[9]? = some (.int .i64 x.f.l) := rfl
  have y3 : y.cells[3]? = some (.int .i64 y.f.pre) := rfl
  have y4 : y.cells[4]? = some (.int .i64 y.f.map) := rfl
  have y6 : y.cells[6]? = some (.int .i64 y.f.digit) := rfl
  have y7 : y.cells[7]? = some (.int .i64 y.f.w) := rfl
  have y8 : y.cells[8]? = some (.bool y.f.vex) := rfl
  have y9 : y.cells[9]? = some (.int .i64 y.f.l) := rfl
  have qo := fun H' (he : Ext H H') => q_table_opcode x y H' (hx.ext hw he) (hy.ext hw he)
  have qm1 := fun H' (he : Ext H H') => q_shape_Modrm x H' (hx.ext hw he)
  have qm2 := fun H' (he : Ext H H') => q_shape_Modrm y H' (hy.ext hw he)
  have qr1 := fun H' (he : Ext H H') => q_table_register x H' (hx.ext hw he)
  have qr2 := fun H' (he : Ext H H') => q_table_register y H' (hy.ext hw he)
  have qp1 := fun H' (he : Ext H H') => q_table_place x H' (hx.ext hw he)
  have qp2 := fun H' (he : Ext H H') => q_table_place y H' (hy.ext hw he)
  have hs : meetF x.f y.f = ((x.f.vex == y.f.vex) && (x.f.pre == y.f.pre) && (x.f.map == y.f.map) && (x.f.l == y.f.l) &&
    !((!(x.f.w == y.f.w) && !(x.f.w == -1) && !(y.f.w == -1)) || !opcF x.f y.f) &&
    ((!decide (0 ≤ idxI x.f.slots 2) || !decide (0 ≤ idxI y.f.slots 2)) ||
      (!(decide (0 ≤ x.f.digit) && decide (0 ≤ y.f.digit) && !(x.f.digit == y.f.digit)) && !((regF x.f && plcF y.f) || (plcF x.f && regF y.f))))) := rfl
  rw [hs]
  clear hs
  have hx0 : Ext H ((H.push (.cells x.cells T_api_Form false)).push (.cells y.cells T_api_Form false)) := ((Ext.refl H).push _).push _
  have ne1 : ¬ H.next = H.next + 1 := by omega
  have hg0 : ((H.push (.cells x.cells T_api_Form false)).push (.cells y.cells T_api_Form false)).get H.next = some (.cells x.cells T_api_Form false) := by rw [Heap.get_push, Heap.next_push, if_neg ne1, Heap.get_push, if_pos rfl]
  have hg1 : ((H.push (.cells x.cells T_api_Form false)).push (.cells y.cells T_api_Form false)).get (H.next + 1) = some (.cells y.cells T_api_Form false) := by rw [Heap.get_push, Heap.next_push, if_pos rfl]
  have hp0 : (H.push (.cells x.cells T_api_Form false)).next = H.next + 1 := by simp only [Heap.next_push]
  simp only [pc_table_Meets, ex, ey, sxA, Nat.reduceBEq, List.map_cons, List.map_nil, ne_eq, not_false_eq_true, not_true_eq_false, Nat.reduceEqDiff, reduceCtorEq, cond_true, cond_false, Bool.not_true, Bool.not_false, Bool.not_not, lcells_length, lcells_take]
  simp only [hp0]
  generalize (H.push (.cells x.cells T_api_Form false)).push (.cells y.cells T_api_Form false) = H0 at *
  simp only [sxA, Nat.reduceBEq, List.map_cons, List.map_nil, ne_eq, not_false_eq_true, not_true_eq_false, Nat.reduceEqDiff, reduceCtorEq, cond_true, cond_false, Bool.not_true, Bool.not_false, Bool.not_not, mxA, if_true, if_false, Nat.reduceAdd, List.getElem?_cons_succ, List.getElem?_cons_zero, Option.some.injEq, exists_eq_left', eq_self, reduceIte, List.length_cons, List.length_nil, Nat.reduceLeDiff, List.all_cons, List.all_nil, List.drop_zero, List.drop_succ_cons, List.take_succ_cons, List.take_zero, List.cons_append, List.nil_append, List.append_nil, splice, List.take_nil, List.drop_nil, hg0, hg1, lcells_length, lcells_take, x3, x4, x6, x7, x8, x9, y3, y4, y6, y7, y8, y9]
  generalize opcF x.f y.f = oc at *
  generalize decide (0 ≤ idxI x.f.slots 2) = m1 at *
  generalize decide (0 ≤ idxI y.f.slots 2) = m2 at *
  generalize regF x.f = r1 at *
  generalize regF y.f = r2 at *
  generalize plcF x.f = p1 at *
  generalize plcF y.f = p2 at *
  repeat' (first
    | (refine gB_cases (fun h => ?_) (fun h => ?_) <;> (try simp only [Bool.not_eq_true', Bool.not_eq_false'] at h) <;> simp only [sxA, Nat.reduceBEq, List.map_cons, List.map_nil, ne_eq, not_false_eq_true, not_true_eq_false, Nat.reduceEqDiff, reduceCtorEq, cond_true, cond_false, Bool.not_true, Bool.not_false, Bool.not_not, mxA, if_true, if_false, Nat.reduceAdd, List.getElem?_cons_succ, List.getElem?_cons_zero, Option.some.injEq, exists_eq_left', eq_self, reduceIte, List.length_cons, List.length_nil, Nat.reduceLeDiff, List.all_cons, List.all_nil, List.drop_zero, List.drop_succ_cons, List.take_succ_cons, List.take_zero, List.cons_append, List.nil_append, List.append_nil, splice, List.take_nil, List.drop_nil, ret_table_Meets, hg0, hg1, lcells_length, lcells_take, x3, x4, x6, x7, x8, x9, y3, y4, y6, y7, y8, y9, h])
    | (refine cB_cases (fun h => ?_) (fun h => ?_) <;> (try simp only [Bool.not_eq_true', Bool.not_eq_false'] at h) <;> simp only [sxA, Nat.reduceBEq, List.map_cons, List.map_nil, ne_eq, not_false_eq_true, not_true_eq_false, Nat.reduceEqDiff, reduceCtorEq, cond_true, cond_false, Bool.not_true, Bool.not_false, Bool.not_not, mxA, if_true, if_false, Nat.reduceAdd, List.getElem?_cons_succ, List.getElem?_cons_zero, Option.some.injEq, exists_eq_left', eq_self, reduceIte, List.length_cons, List.length_nil, Nat.reduceLeDiff, List.all_cons, List.all_nil, List.drop_zero, List.drop_succ_cons, List.take_succ_cons, List.take_zero, List.cons_append, List.nil_append, List.append_nil, splice, List.take_nil, List.drop_nil, ret_table_Meets, hg0, hg1, lcells_length, lcells_take, x3, x4, x6, x7, x8, x9, y3, y4, y6, y7, y8, y9, h])
    | (refine (qo _ hx0).thenW ?_; rintro _ _ hn hw2 ⟨rfl, k, rfl⟩; have hx0 := hx0.up (show _ ≤ k from hn); simp only [sxA, Nat.reduceBEq, List.map_cons, List.map_nil, ne_eq, not_false_eq_true, not_true_eq_false, Nat.reduceEqDiff, reduceCtorEq, cond_true, cond_false, Bool.not_true, Bool.not_false, Bool.not_not, mxA, if_true, if_false, Nat.reduceAdd, List.getElem?_cons_succ, List.getElem?_cons_zero, Option.some.injEq, exists_eq_left', eq_self, reduceIte, List.length_cons, List.length_nil, Nat.reduceLeDiff, List.all_cons, List.all_nil, List.drop_zero, List.drop_succ_cons, List.take_succ_cons, List.take_zero, List.cons_append, List.nil_append, List.append_nil, splice, List.take_nil, List.drop_nil, ret_table_Meets, hg0, hg1, lcells_length, lcells_take, x3, x4, x6, x7, x8, x9, y3, y4, y6, y7, y8, y9])
    | (refine (qm1 _ hx0).thenW ?_; rintro _ _ hn hw2 ⟨rfl, k, rfl⟩; have hx0 := hx0.up (show _ ≤ k from hn); simp only [sxA, Nat.reduceBEq, List.map_cons, List.map_nil, ne_eq, not_false_eq_true, not_true_eq_false, Nat.reduceEqDiff, reduceCtorEq, cond_true, cond_false, Bool.not_true, Bool.not_false, Bool.not_not, mxA, if_true, if_false, Nat.reduceAdd, List.getElem?_cons_succ, List.getElem?_cons_zero, Option.some.injEq, exists_eq_left', eq_self, reduceIte, List.length_cons, List.length_nil, Nat.reduceLeDiff, List.all_cons, List.all_nil, List.drop_zero, List.drop_succ_cons, List.take_succ_cons, List.take_zero, List.cons_append, List.nil_append, List.append_nil, splice, List.take_nil, List.drop_nil, ret_table_Meets, hg0, hg1, lcells_length, lcells_take, x3, x4, x6, x7, x8, x9, y3, y4, y6, y7, y8, y9])
    | (refine (qm2 _ hx0).thenW ?_; rintro _ _ hn hw2 ⟨rfl, k, rfl⟩; have hx0 := hx0.up (show _ ≤ k from hn); simp only [sxA, Nat.reduceBEq, List.map_cons, List.map_nil, ne_eq, not_false_eq_true, not_true_eq_false, Nat.reduceEqDiff, reduceCtorEq, cond_true, cond_false, Bool.not_true, Bool.not_false, Bool.not_not, mxA, if_true, if_false, Nat.reduceAdd, List.getElem?_cons_succ, List.getElem?_cons_zero, Option.some.injEq, exists_eq_left', eq_self, reduceIte, List.length_cons, List.length_nil, Nat.reduceLeDiff, List.all_cons, List.all_nil, List.drop_zero, List.drop_succ_cons, List.take_succ_cons, List.take_zero, List.cons_append, List.nil_append, List.append_nil, splice, List.take_nil, List.drop_nil, ret_table_Meets, hg0, hg1, lcells_length, lcells_take, x3, x4, x6, x7, x8, x9, y3, y4, y6, y7, y8, y9])
    | (refine (qr1 _ hx0).thenW ?_; rintro _ _ hn hw2 ⟨rfl, k, rfl⟩; have hx0 := hx0.up (show _ ≤ k from hn); simp only [sxA, Nat.reduceBEq, List.map_cons, List.map_nil, ne_eq, not_false_eq_true, not_true_eq_false, Nat.reduceEqDiff, reduceCtorEq, cond_true, cond_false, Bool.not_true, Bool.not_false, Bool.not_not, mxA, if_true, if_false, Nat.reduceAdd, List.getElem?_cons_succ, List.getElem?_cons_zero, Option.some.injEq, exists_eq_left', eq_self, reduceIte, List.length_cons, List.length_nil, Nat.reduceLeDiff, List.all_cons, List.all_nil, List.drop_zero, List.drop_succ_cons, List.take_succ_cons, List.take_zero, List.cons_append, List.nil_append, List.append_nil, splice, List.take_nil, List.drop_nil, ret_table_Meets, hg0, hg1, lcells_length, lcells_take, x3, x4, x6, x7, x8, x9, y3, y4, y6, y7, y8, y9])
    | (refine (qr2 _ hx0).thenW ?_; rintro _ _ hn hw2 ⟨rfl, k, rfl⟩; have hx0 := hx0.up (show _ ≤ k from hn); simp only [sxA, Nat.reduceBEq, List.map_cons, List.map_nil, ne_eq, not_false_eq_true, not_true_eq_false, Nat.reduceEqDiff, reduceCtorEq, cond_true, cond_false, Bool.not_true, Bool.not_false, Bool.not_not, mxA, if_true, if_false, Nat.reduceAdd, List.getElem?_cons_succ, List.getElem?_cons_zero, Option.some.injEq, exists_eq_left', eq_self, reduceIte, List.length_cons, List.length_nil, Nat.reduceLeDiff, List.all_cons, List.all_nil, List.drop_zero, List.drop_succ_cons, List.take_succ_cons, List.take_zero, List.cons_append, List.nil_append, List.append_nil, splice, List.take_nil, List.drop_nil, ret_table_Meets, hg0, hg1, lcells_length, lcells_take, x3, x4, x6, x7, x8, x9, y3, y4, y6, y7, y8, y9])
    | (refine (qp1 _ hx0).thenW ?_; rintro _ _ hn hw2 ⟨rfl, k, rfl⟩; have hx0 := hx0.up (show _ ≤ k from hn); simp only [sxA, Nat.reduceBEq, List.map_cons, List.map_nil, ne_eq, not_false_eq_true, not_true_eq_false, Nat.reduceEqDiff, reduceCtorEq, cond_true, cond_false, Bool.not_true, Bool.not_false, Bool.not_not, mxA, if_true, if_false, Nat.reduceAdd, List.getElem?_cons_succ, List.getElem?_cons_zero, Option.some.injEq, exists_eq_left', eq_self, reduceIte, List.length_cons, List.length_nil, Nat.reduceLeDiff, List.all_cons, List.all_nil, List.drop_zero, List.drop_succ_cons, List.take_succ_cons, List.take_zero, List.cons_append, List.nil_append, List.append_nil, splice, List.take_nil, List.drop_nil, ret_table_Meets, hg0, hg1, lcells_length, lcells_take, x3, x4, x6, x7, x8, x9, y3, y4, y6, y7, y8, y9])
    | (refine (qp2 _ hx0).thenW ?_; rintro _ _ hn hw2 ⟨rfl, k, rfl⟩; have hx0 := hx0.up (show _ ≤ k from hn); simp only [sxA, Nat.reduceBEq, List.map_cons, List.map_nil, ne_eq, not_false_eq_true, not_true_eq_false, Nat.reduceEqDiff, reduceCtorEq, cond_true, cond_false, Bool.not_true, Bool.not_false, Bool.not_not, mxA, if_true, if_false, Nat.reduceAdd, List.getElem?_cons_succ, List.getElem?_cons_zero, Option.some.injEq, exists_eq_left', eq_self, reduceIte, List.length_cons, List.length_nil, Nat.reduceLeDiff, List.all_cons, List.all_nil, List.drop_zero, List.drop_succ_cons, List.take_succ_cons, List.take_zero, List.cons_append, List.nil_append, List.append_nil, splice, List.take_nil, List.drop_nil, ret_table_Meets, hg0, hg1, lcells_length, lcells_take, x3, x4, x6, x7, x8, x9, y3, y4, y6, y7, y8, y9])
    | fail)
  all_goals refine .ext hw hx0 ⟨?_, _, rfl⟩
  all_goals (clear qo qm1 qm2 qr1 qr2 qp1 qp2 hg0 hg1 x3 x4 x6 x7 x8 x9 y3 y4 y6 y7 y8 y9; simp_all)
end Go.Proofs.YtkoecjmmphmdeaaGreatDoor.code
