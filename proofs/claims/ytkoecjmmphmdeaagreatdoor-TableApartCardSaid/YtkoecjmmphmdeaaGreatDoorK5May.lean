/- Whether a form may stand for a key. -/
import Derived.Test.YtkoecjmmphmdeaaGreatDoorLibA
set_option linter.unusedVariables false
set_option linter.unusedSimpArgs false
set_option maxRecDepth 100000
namespace Go.Proofs.YtkoecjmmphmdeaaGreatDoor.code
open Go.Ab

def clr7 (c : Int) : Int := IntKind.i64.wrap (BitVec.ofInt IntKind.i64.bits c &&& ~~~BitVec.ofInt IntKind.i64.bits 7).toNat
def beginsF (f : Fm) (c : Int) : Int := bif decide (0 ≤ idxI f.slots 4) then clr7 c else c

theorem q_table_begins (x : Lf) (c : Int) (H : Heap) (hx : x.At H) : CallQ prog f_table_begins [.agg x.cells.toArray, .int .i64 c] H fun u H' => u = .int .i64 (beginsF x.f c) ∧ ∃ m, H' = H.up m := by
  refine in_table_begins fun hw => ?_
  have ha := lcells_all hx
  simp only [pc_table_begins, lcells_length, lcells_take, sxA, Nat.reduceBEq, List.map_cons, List.map_nil, ne_eq, not_false_eq_true, not_true_eq_false, Nat.reduceEqDiff, reduceCtorEq, cond_true, cond_false, Bool.not_true, Bool.not_false, Bool.not_not, mxA, if_true, if_false, Nat.reduceAdd, List.getElem?_cons_succ, List.getElem?_cons_zero, Option.some.injEq, exists_eq_left', eq_self, reduceIte, List.length_cons, List.length_nil, Nat.reduceLeDiff, List.all_cons, List.all_nil, List.drop_zero, List.drop_succ_cons, List.take_succ_cons, List.take_zero, List.cons_append, List.nil_append, List.append_nil, splice, List.take_nil, List.drop_nil]
  refine (q_shape_Slot x 4 _ (hx.ext hw ((Ext.refl H).push _))).thenW ?_
  rintro _ _ hn hw2 ⟨rfl, m, rfl⟩
  simp only [Heap.next_up, Heap.next_push] at hn
  have hx2 : Ext H ((H.push (.cells x.cells T_api_Form false)).up m) := ((Ext.refl H).push _).up (by simp only [Heap.next_push]; exact hn)
  simp only [sxA, Nat.reduceBEq, List.map_cons, List.map_nil, ne_eq, not_false_eq_true, not_true_eq_false, Nat.reduceEqDiff, reduceCtorEq, cond_true, cond_false, Bool.not_true, Bool.not_false, Bool.not_not, mxA, if_true, if_false, Nat.reduceAdd, List.getElem?_cons_succ, List.getElem?_cons_zero, Option.some.injEq, exists_eq_left', eq_self, reduceIte, List.length_cons, List.length_nil, Nat.reduceLeDiff, List.all_cons, List.all_nil, List.drop_zero, List.drop_succ_cons, List.take_succ_cons, List.take_zero, List.cons_append, List.nil_append, List.append_nil, splice, List.take_nil, List.drop_nil]
  cases h0 : decide (0 ≤ idxI x.f.slots 4) with
  | true =>
    simp only [sxA, Nat.reduceBEq, List.map_cons, List.map_nil, ne_eq, not_false_eq_true, not_true_eq_false, Nat.reduceEqDiff, reduceCtorEq, cond_true, cond_false, Bool.not_true, Bool.not_false, Bool.not_not, mxA, if_true, if_false, Nat.reduceAdd, List.getElem?_cons_succ, List.getElem?_cons_zero, Option.some.injEq, exists_eq_left', eq_self, reduceIte, List.length_cons, List.length_nil, Nat.reduceLeDiff, List.all_cons, List.all_nil, List.drop_zero, List.drop_succ_cons, List.take_succ_cons, List.take_zero, List.cons_append, List.nil_append, List.append_nil, splice, List.take_nil, List.drop_nil, ret_table_begins]
    exact .ext hw hx2 ⟨by rw [beginsF, h0]; rfl, _, rfl⟩
  | false =>
    simp only [sxA, Nat.reduceBEq, List.map_cons, List.map_nil, ne_eq, not_false_eq_true, not_true_eq_false, Nat.reduceEqDiff, reduceCtorEq, cond_true, cond_false, Bool.not_true, Bool.not_false, Bool.not_not, mxA, if_true, if_false, Nat.reduceAdd, List.getElem?_cons_succ, List.getElem?_cons_zero, Option.some.injEq, exists_eq_left', eq_self, reduceIte, List.length_cons, List.length_nil, Nat.reduceLeDiff, List.all_cons, List.all_nil, List.drop_zero, List.drop_succ_cons, List.take_succ_cons, List.take_zero, List.cons_append, List.nil_append, List.append_nil, splice, List.take_nil, List.drop_nil, ret_table_begins]
    exact .ext hw hx2 ⟨by rw [beginsF, h0]; rfl, _, rfl⟩

structure Ky where
  vex : Bool
  pre : Int
  w : Int
  l : Int
  map : Int
  code : Int
def Ky.cells (k : Ky) : List Value := [.bool k.vex, .int .i64 k.pre, .int .i64 k.w, .int .i64 k.l, .int .i64 k.map, .int .i64 k.code]
def mayF (f : Fm) (k : Ky) : Bool := (f.vex == k.vex) && (f.pre == k.pre) && (f.map == k.map) && (f.l == k.l) && ((f.w == -1) || (f.w == k.w)) && (f.code == beginsF f k.code)

theorem q_table_may (x : Lf) (k : Ky) (H : Heap) (hx : x.At H) : CallQ prog f_table_may [.agg x.cells.toArray, .agg k.cells.toArray] H fun u H' => u = .bool (mayF x.f k) ∧ ∃ m, H' = H.up m := by
  refine in_table_may fun hw => ?_
  obtain ⟨q1, h1⟩ : ∃ c, (x.f.vex == k.vex) = c := ⟨_, rfl⟩
  obtain ⟨q2, h2⟩ : ∃ c, (x.f.pre == k.pre) = c := ⟨_, rfl⟩
  obtain ⟨q3, h3⟩ : ∃ c, (x.f.map == k.map) = c := ⟨_, rfl⟩
  obtain ⟨q4, h4⟩ : ∃ c, (x.f.l == k.l) = c := ⟨_, rfl⟩
  obtain ⟨q5, h5⟩ : ∃ c, (x.f.w == -1) = c := ⟨_, rfl⟩
  obtain ⟨q6, h6⟩ : ∃ c, (x.f.w == k.w) = c := ⟨_, rfl⟩
  obtain ⟨q7, h7⟩ : ∃ c, (x.f.code == beginsF x.f k.code) = c := ⟨_, rfl⟩
  have hm : mayF x.f k = (q1 && q2 && q3 && q4 && (q5 || q6) && q7) := by simp only [mayF, h1, h2, h3, h4, h5, h6, h7]
  rw [hm]
  have hxx : ∀ b c, Ext H ((H.push b).push c) := fun b c => ((Ext.refl H).push b).push c
  have ha := lcells_all hx
  have hx2 := hx.ext hw (hxx (.cells x.cells T_api_Form false) (.cells k.cells T_api_Key false))
  obtain ⟨xf, xs, xt⟩ := x
  obtain ⟨a1, c1, e1, _⟩ := id hx.2.2.1
  obtain ⟨a2, c2, e2, _⟩ := id hx.2.2.2
  replace e1 : xs = .slice a1 xf.shapes.length c1 := e1
  replace e2 : xt = .slice a2 xf.slots.length c2 := e2
  subst e1
  subst e2
  simp only at h1 h2 h3 h4 h5 h6 h7
  have fin : ∀ (q : Bool) (K : Value → Heap → Prop), (∀ H', K (.int .i64 (beginsF xf k.code)) H') → True := fun _ _ _ => trivial
  simp only [Lf.cells, Ky.cells] at hx2
  simp only [Lf.cells, Ky.cells, pc_table_may, sxA, Nat.reduceBEq, List.map_cons, List.map_nil, ne_eq, not_false_eq_true, not_true_eq_false, Nat.reduceEqDiff, reduceCtorEq, cond_true, cond_false, Bool.not_true, Bool.not_false, Bool.not_not, mxA, if_true, if_false, Nat.reduceAdd, List.getElem?_cons_succ, List.getElem?_cons_zero, Option.some.injEq, exists_eq_left', eq_self, reduceIte, List.length_cons, List.length_nil, Nat.reduceLeDiff, List.all_cons, List.all_nil, List.drop_zero, List.drop_succ_cons, List.take_succ_cons, List.take_zero, List.cons_append, List.nil_append, List.append_nil, splice, List.take_nil, List.drop_nil, h1]
  cases q1 <;> simp only [sxA, Nat.reduceBEq, List.map_cons, List.map_nil, ne_eq, not_false_eq_true, not_true_eq_false, Nat.reduceEqDiff, reduceCtorEq, cond_true, cond_false, Bool.not_true, Bool.not_false, Bool.not_not, mxA, if_true, if_false, Nat.reduceAdd, List.getElem?_cons_succ, List.getElem?_cons_zero, Option.some.injEq, exists_eq_left', eq_self, reduceIte, List.length_cons, List.length_nil, Nat.reduceLeDiff, List.all_cons, List.all_nil, List.drop_zero, List.drop_succ_cons, List.take_succ_cons, List.take_zero, List.cons_append, List.nil_append, List.append_nil, splice, List.take_nil, List.drop_nil, h2, ret_table_may]
  · exact .ext hw (hxx _ _) ⟨rfl, _, rfl⟩
  cases q2 <;> simp only [sxA, Nat.reduceBEq, List.map_cons, List.map_nil, ne_eq, not_false_eq_true, not_true_eq_false, Nat.reduceEqDiff, reduceCtorEq, cond_true, cond_false, Bool.not_true, Bool.not_false, Bool.not_not, mxA, if_true, if_false, Nat.reduceAdd, List.getElem?_cons_succ, List.getElem?_cons_zero, Option.some.injEq, exists_eq_left', eq_self, reduceIte, List.length_cons, List.length_nil, Nat.reduceLeDiff, List.all_cons, List.all_nil, List.drop_zero, List.drop_succ_cons, List.take_succ_cons, List.take_zero, List.cons_append, List.nil_append, List.append_nil, splice, List.take_nil, List.drop_nil, h3, ret_table_may]
  · exact .ext hw (hxx _ _) ⟨rfl, _, rfl⟩
  cases q3 <;> simp only [sxA, Nat.reduceBEq, List.map_cons, List.map_nil, ne_eq, not_false_eq_true, not_true_eq_false, Nat.reduceEqDiff, reduceCtorEq, cond_true, cond_false, Bool.not_true, Bool.not_false, Bool.not_not, mxA, if_true, if_false, Nat.reduceAdd, List.getElem?_cons_succ, List.getElem?_cons_zero, Option.some.injEq, exists_eq_left', eq_self, reduceIte, List.length_cons, List.length_nil, Nat.reduceLeDiff, List.all_cons, List.all_nil, List.drop_zero, List.drop_succ_cons, List.take_succ_cons, List.take_zero, List.cons_append, List.nil_append, List.append_nil, splice, List.take_nil, List.drop_nil, h4, ret_table_may]
  · exact .ext hw (hxx _ _) ⟨rfl, _, rfl⟩
  cases q4 <;> simp only [sxA, Nat.reduceBEq, List.map_cons, List.map_nil, ne_eq, not_false_eq_true, not_true_eq_false, Nat.reduceEqDiff, reduceCtorEq, cond_true, cond_false, Bool.not_true, Bool.not_false, Bool.not_not, mxA, if_true, if_false, Nat.reduceAdd, List.getElem?_cons_succ, List.getElem?_cons_zero, Option.some.injEq, exists_eq_left', eq_self, reduceIte, List.length_cons, List.length_nil, Nat.reduceLeDiff, List.all_cons, List.all_nil, List.drop_zero, List.drop_succ_cons, List.take_succ_cons, List.take_zero, List.cons_append, List.nil_append, List.append_nil, splice, List.take_nil, List.drop_nil, h5, ret_table_may]
  · exact .ext hw (hxx _ _) ⟨rfl, _, rfl⟩
  cases q5 <;> simp only [sxA, Nat.reduceBEq, List.map_cons, List.map_nil, ne_eq, not_false_eq_true, not_true_eq_false, Nat.reduceEqDiff, reduceCtorEq, cond_true, cond_false, Bool.not_true, Bool.not_false, Bool.not_not, mxA, if_true, if_false, Nat.reduceAdd, List.getElem?_cons_succ, List.getElem?_cons_zero, Option.some.injEq, exists_eq_left', eq_self, reduceIte, List.length_cons, List.length_nil, Nat.reduceLeDiff, List.all_cons, List.all_nil, List.drop_zero, List.drop_succ_cons, List.take_succ_cons, List.take_zero, List.cons_append, List.nil_append, List.append_nil, splice, List.take_nil, List.drop_nil, h6, ret_table_may]
  · cases q6 <;> simp only [sxA, Nat.reduceBEq, List.map_cons, List.map_nil, ne_eq, not_false_eq_true, not_true_eq_false, Nat.reduceEqDiff, reduceCtorEq, cond_true, cond_false, Bool.not_true, Bool.not_false, Bool.not_not, mxA, if_true, if_false, Nat.reduceAdd, List.getElem?_cons_succ, List.getElem?_cons_zero, Option.some.injEq, exists_eq_left', eq_self, reduceIte, List.length_cons, List.length_nil, Nat.reduceLeDiff, List.all_cons, List.all_nil, List.drop_zero, List.drop_succ_cons, List.take_succ_cons, List.take_zero, List.cons_append, List.nil_append, List.append_nil, splice, List.take_nil, List.drop_nil, ret_table_may]
    · exact .ext hw (hxx _ _) ⟨rfl, _, rfl⟩
    · refine ⟨rfl, (q_table_begins ⟨xf, _, _⟩ k.code _ hx2).thenW ?_⟩
      rintro _ _ hn hw2 ⟨rfl, m, rfl⟩
      simp only [Heap.next_up, Heap.next_push] at hn
      simp only [sxA, Nat.reduceBEq, List.map_cons, List.map_nil, ne_eq, not_false_eq_true, not_true_eq_false, Nat.reduceEqDiff, reduceCtorEq, cond_true, cond_false, Bool.not_true, Bool.not_false, Bool.not_not, mxA, if_true, if_false, Nat.reduceAdd, List.getElem?_cons_succ, List.getElem?_cons_zero, Option.some.injEq, exists_eq_left', eq_self, reduceIte, List.length_cons, List.length_nil, Nat.reduceLeDiff, List.all_cons, List.all_nil, List.drop_zero, List.drop_succ_cons, List.take_succ_cons, List.take_zero, List.cons_append, List.nil_append, List.append_nil, splice, List.take_nil, List.drop_nil, h7, ret_table_may]
      exact ⟨fun _ _ => rfl, .ext hw ((hxx _ _).up (by simp only [Heap.next_push]; exact hn)) ⟨by simp, _, rfl⟩⟩
  · refine ⟨rfl, (q_table_begins ⟨xf, _, _⟩ k.code _ hx2).thenW ?_⟩
    rintro _ _ hn hw2 ⟨rfl, m, rfl⟩
    simp only [Heap.next_up, Heap.next_push] at hn
    simp only [sxA, Nat.reduceBEq, List.map_cons, List.map_nil, ne_eq, not_false_eq_true, not_true_eq_false, Nat.reduceEqDiff, reduceCtorEq, cond_true, cond_false, Bool.not_true, Bool.not_false, Bool.not_not, mxA, if_true, if_false, Nat.reduceAdd, List.getElem?_cons_succ, List.getElem?_cons_zero, Option.some.injEq, exists_eq_left', eq_self, reduceIte, List.length_cons, List.length_nil, Nat.reduceLeDiff, List.all_cons, List.all_nil, List.drop_zero, List.drop_succ_cons, List.take_succ_cons, List.take_zero, List.cons_append, List.nil_append, List.append_nil, splice, List.take_nil, List.drop_nil, h7, ret_table_may]
    exact ⟨fun _ _ => rfl, .ext hw ((hxx _ _).up (by simp only [Heap.next_push]; exact hn)) ⟨by simp, _, rfl⟩⟩
end Go.Proofs.YtkoecjmmphmdeaaGreatDoor.code
