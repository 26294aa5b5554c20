/- linotypekit.SameForm, of any two forms. -/
import Derived.Test.YtkoecjmmphmdeaaGreatDoorLibA
import Derived.Test.YtkoecjmmphmdeaaGreatDoorLibB
set_option linter.unusedVariables false
set_option linter.unusedSimpArgs false
set_option maxRecDepth 100000
namespace Go.Proofs.YtkoecjmmphmdeaaGreatDoor.code
open Go.Ab

def sameF (a b : Fm) : Bool := (a.op == b.op) && decide (a.shapes = b.shapes) && decide (a.slots = b.slots) && (a.pre == b.pre) && (a.map == b.map) && (a.code == b.code) && (a.digit == b.digit) && (a.w == b.w) && (a.vex == b.vex) && (a.l == b.l)
theorem sameF_eq (a b : Fm) : sameF a b = decide (a = b) := by
  rw [Bool.eq_iff_iff]
  obtain ⟨a1, a2, a3, a4, a5, a6, a7, a8, a9, a10⟩ := a
  obtain ⟨b1, b2, b3, b4, b5, b6, b7, b8, b9, b10⟩ := b
  simp [sameF, and_assoc]
  intro _
  constructor
  · rintro ⟨h2, h3, h4, h5, h6, h7, h8, h9, h10⟩; exact ⟨h4, h5, h6, h7, h8, h10, h9, h2, h3⟩
  · rintro ⟨h4, h5, h6, h7, h8, h10, h9, h2, h3⟩; exact ⟨h2, h3, h4, h5, h6, h7, h8, h9, h10⟩
theorem q_SameForm_any (x y : Lf) (H : Heap) (hx : x.At H) (hy : y.At H) : CallQ prog f_linotypekit_SameForm [.agg x.cells.toArray, .agg y.cells.toArray] H fun u H' => u = .bool (sameF x.f y.f) ∧ ∃ m, H' = H.up m := by
  refine in_linotypekit_SameForm fun hw => ?_
  have ex : (Value.agg x.cells.toArray).cells.toList = x.cells := rfl
  have ey : (Value.agg y.cells.toArray).cells.toList = y.cells := rfl
  have hxx : Ext H ((H.push (.cells x.cells T_api_Form false)).push (.cells y.cells T_api_Form false)) := ((Ext.refl H).push _).push _
  obtain ⟨l1, l2, h1, h2⟩ := hx.ext hw hxx
  obtain ⟨l3, l4, h3, h4⟩ := hy.ext hw hxx
  have x0 : x.cells[0]? = some (.int .i64 x.f.op) := rfl
  have x1 : x.cells[1]? = some x.sv := rfl
  have x2 : x.cells[2]? = some x.tv := rfl
  have x3 : x.cells[3]? = some (.int .i64 x.f.pre) := rfl
  have x4 : x.cells[4]? = some (.int .i64 x.f.map) := rfl
  have x5 : x.cells[5]? = some (.int .i64 x.f.code) := rfl
  have x6 : x.cells[6]? = some (.int .i64 x.f.digit) := rfl
  have x7 : x.cells[7]? = some (.int .i64 x.f.w) := rfl
  have x8 : x.cells[8]? = some (.bool x.f.vex) := rfl
  have x9 : x.cells[9]? = some (.int .i64 x.f.l) := rfl
  have y0 : y.cells[0]? = some (.int .i64 y.f.op) := rfl
  have y1 : y.cells[1]? = some y.sv := rfl
  have y2 : y.cells[2]? = some y.tv := rfl
  have y3 : y.cells[3]? = some (.int .i64 y.f.pre) := rfl
  have y4 : y.cells[4]? = some (.int .i64 y.f.map) := rfl
  have y5 : y.cells[5]? = some (.int .i64 y.f.code) := rfl
  have y6 : y.cells[6]? = some (.int .i64 y.f.digit) := rfl
  have y7 : y.cells[7]? = some (.int .i64 y.f.w) := rfl
  have y8 : y.cells[8]? = some (.bool y.f.vex) := rfl
  have y9 : y.cells[9]? = some (.int .i64 y.f.l) := rfl
  have fin : ∀ (b : Bool), b = sameF x.f y.f → Ret H (fun u H' => u = .bool (sameF x.f y.f) ∧ ∃ m, H' = H.up m) (.bool b) ((H.push (.cells x.cells T_api_Form false)).push (.cells y.cells T_api_Form false)) := fun b hb => .ext hw hxx ⟨by rw [hb], _, rfl⟩
  simp only [pc_linotypekit_SameForm, ex, ey, sxA, Nat.reduceBEq, List.map_cons, List.map_nil, ne_eq, not_false_eq_true, not_true_eq_false, Nat.reduceEqDiff, reduceCtorEq, cond_true, cond_false, Bool.not_true, Bool.not_false, Bool.not_not, mxA, if_true, if_false, Nat.reduceAdd, List.getElem?_cons_succ, List.getElem?_cons_zero, Option.some.injEq, exists_eq_left', eq_self, reduceIte, List.length_cons, List.length_nil, Nat.reduceLeDiff, List.all_cons, List.all_nil, List.drop_zero, List.drop_succ_cons, List.take_succ_cons, List.take_zero, List.cons_append, List.nil_append, List.append_nil, splice, List.take_nil, List.drop_nil, x0, y0]
  cases q0 : x.f.op == y.f.op <;> simp only [sxA, Nat.reduceBEq, List.map_cons, List.map_nil, ne_eq, not_false_eq_true, not_true_eq_false, Nat.reduceEqDiff, reduceCtorEq, cond_true, cond_false, Bool.not_true, Bool.not_false, Bool.not_not, mxA, if_true, if_false, Nat.reduceAdd, List.getElem?_cons_succ, List.getElem?_cons_zero, Option.some.injEq, exists_eq_left', eq_self, reduceIte, List.length_cons, List.length_nil, Nat.reduceLeDiff, List.all_cons, List.all_nil, List.drop_zero, List.drop_succ_cons, List.take_succ_cons, List.take_zero, List.cons_append, List.nil_append, List.append_nil, splice, List.take_nil, List.drop_nil, x1, y1, ret_linotypekit_SameForm]
  · exact fin _ (by simp [sameF, q0])
  refine (q_linotypekit_SameInts _ _ x.f.shapes y.f.shapes _ h1 h3 (by omega) (by omega)).mono ?_
  rintro _ _ ⟨rfl, rfl⟩
  cases q1 : decide (x.f.shapes = y.f.shapes) <;> simp only [sxA, Nat.reduceBEq, List.map_cons, List.map_nil, ne_eq, not_false_eq_true, not_true_eq_false, Nat.reduceEqDiff, reduceCtorEq, cond_true, cond_false, Bool.not_true, Bool.not_false, Bool.not_not, mxA, if_true, if_false, Nat.reduceAdd, List.getElem?_cons_succ, List.getElem?_cons_zero, Option.some.injEq, exists_eq_left', eq_self, reduceIte, List.length_cons, List.length_nil, Nat.reduceLeDiff, List.all_cons, List.all_nil, List.drop_zero, List.drop_succ_cons, List.take_succ_cons, List.take_zero, List.cons_append, List.nil_append, List.append_nil, splice, List.take_nil, List.drop_nil, x2, y2, ret_linotypekit_SameForm]
  · exact fin _ (by simp [sameF, q0, q1])
  refine (q_linotypekit_SameInts _ _ x.f.slots y.f.slots _ h2 h4 (by omega) (by omega)).mono ?_
  rintro _ _ ⟨rfl, rfl⟩
  cases q2 : decide (x.f.slots = y.f.slots) <;> simp only [sxA, Nat.reduceBEq, List.map_cons, List.map_nil, ne_eq, not_false_eq_true, not_true_eq_false, Nat.reduceEqDiff, reduceCtorEq, cond_true, cond_false, Bool.not_true, Bool.not_false, Bool.not_not, mxA, if_true, if_false, Nat.reduceAdd, List.getElem?_cons_succ, List.getElem?_cons_zero, Option.some.injEq, exists_eq_left', eq_self, reduceIte, List.length_cons, List.length_nil, Nat.reduceLeDiff, List.all_cons, List.all_nil, List.drop_zero, List.drop_succ_cons, List.take_succ_cons, List.take_zero, List.cons_append, List.nil_append, List.append_nil, splice, List.take_nil, List.drop_nil, x3, y3, ret_linotypekit_SameForm]
  · exact fin _ (by simp [sameF, q0, q1, q2])
  cases q3 : x.f.pre == y.f.pre <;> simp only [sxA, Nat.reduceBEq, List.map_cons, List.map_nil, ne_eq, not_false_eq_true, not_true_eq_false, Nat.reduceEqDiff, reduceCtorEq, cond_true, cond_false, Bool.not_true, Bool.not_false, Bool.not_not, mxA, if_true, if_false, Nat.reduceAdd, List.getElem?_cons_succ, List.getElem?_cons_zero, Option.some.injEq, exists_eq_left', eq_self, reduceIte, List.length_cons, List.length_nil, Nat.reduceLeDiff, List.all_cons, List.all_nil, List.drop_zero, List.drop_succ_cons, List.take_succ_cons, List.take_zero, List.cons_append, List.nil_append, List.append_nil, splice, List.take_nil, List.drop_nil, x4, y4, ret_linotypekit_SameForm]
  · exact fin _ (by simp [sameF, q0, q1, q2, q3])
  cases q4 : x.f.map == y.f.map <;> simp only [sxA, Nat.reduceBEq, List.map_cons, List.map_nil, ne_eq, not_false_eq_true, not_true_eq_false, Nat.reduceEqDiff, reduceCtorEq, cond_true, cond_false, Bool.not_true, Bool.not_false, Bool.not_not, mxA, if_true, if_false, Nat.reduceAdd, List.getElem?_cons_succ, List.getElem?_cons_zero, Option.some.injEq, exists_eq_left', eq_self, reduceIte, List.length_cons, List.length_nil, Nat.reduceLeDiff, List.all_cons, List.all_nil, List.drop_zero, List.drop_succ_cons, List.take_succ_cons, List.take_zero, List.cons_append, List.nil_append, List.append_nil, splice, List.take_nil, List.drop_nil, x5, y5, ret_linotypekit_SameForm]
  · exact fin _ (by simp [sameF, q0, q1, q2, q3, q4])
  cases q5 : x.f.code == y.f.code <;> simp only [sxA, Nat.reduceBEq, List.map_cons, List.map_nil, ne_eq, not_false_eq_true, not_true_eq_false, Nat.reduceEqDiff, reduceCtorEq, cond_true, cond_false, Bool.not_true, Bool.not_false, Bool.not_not, mxA, if_true, if_false, Nat.reduceAdd, List.getElem?_cons_succ, List.getElem?_cons_zero, Option.some.injEq, exists_eq_left', eq_self, reduceIte, List.length_cons, List.length_nil, Nat.reduceLeDiff, List.all_cons, List.all_nil, List.drop_zero, List.drop_succ_cons, List.take_succ_cons, List.take_zero, List.cons_append, List.nil_append, List.append_nil, splice, List.take_nil, List.drop_nil, x6, y6, ret_linotypekit_SameForm]
  · exact fin _ (by simp [sameF, q0, q1, q2, q3, q4, q5])
  cases q6 : x.f.digit == y.f.digit <;> simp only [sxA, Nat.reduceBEq, List.map_cons, List.map_nil, ne_eq, not_false_eq_true, not_true_eq_false, Nat.reduceEqDiff, reduceCtorEq, cond_true, cond_false, Bool.not_true, Bool.not_false, Bool.not_not, mxA, if_true, if_false, Nat.reduceAdd, List.getElem?_cons_succ, List.getElem?_cons_zero, Option.some.injEq, exists_eq_left', eq_self, reduceIte, List.length_cons, List.length_nil, Nat.reduceLeDiff, List.all_cons, List.all_nil, List.drop_zero, List.drop_succ_cons, List.take_succ_cons, List.take_zero, List.cons_append, List.nil_append, List.append_nil, splice, List.take_nil, List.drop_nil, x7, y7, ret_linotypekit_SameForm]
  · exact fin _ (by simp [sameF, q0, q1, q2, q3, q4, q5, q6])
  cases q7 : x.f.w == y.f.w <;> simp only [sxA, Nat.reduceBEq, List.map_cons, List.map_nil, ne_eq, not_false_eq_true, not_true_eq_false, Nat.reduceEqDiff, reduceCtorEq, cond_true, cond_false, Bool.not_true, Bool.not_false, Bool.not_not, mxA, if_true, if_false, Nat.reduceAdd, List.getElem?_cons_succ, List.getElem?_cons_zero, Option.some.injEq, exists_eq_left', eq_self, reduceIte, List.length_cons, List.length_nil, Nat.reduceLeDiff, List.all_cons, List.all_nil, List.drop_zero, List.drop_succ_cons, List.take_succ_cons, List.take_zero, List.cons_append, List.nil_append, List.append_nil, splice, List.take_nil, List.drop_nil, x8, y8, ret_linotypekit_SameForm]
  · exact fin _ (by simp [sameF, q0, q1, q2, q3, q4, q5, q6, q7])
  cases q8 : x.f.vex == y.f.vex <;> simp only [sxA, Nat.reduceBEq, List.map_cons, List.map_nil, ne_eq, not_false_eq_true, not_true_eq_false, Nat.reduceEqDiff, reduceCtorEq, cond_true, cond_false, Bool.not_true, Bool.not_false, Bool.not_not, mxA, if_true, if_false, Nat.reduceAdd, List.getElem?_cons_succ, List.getElem?_cons_zero, Option.some.injEq, exists_eq_left', eq_self, reduceIte, List.length_cons, List.length_nil, Nat.reduceLeDiff, List.all_cons, List.all_nil, List.drop_zero, List.drop_succ_cons, List.take_succ_cons, List.take_zero, List.cons_append, List.nil_append, List.append_nil, splice, List.take_nil, List.drop_nil, x9, y9, ret_linotypekit_SameForm]
  · exact fin _ (by simp [sameF, q0, q1, q2, q3, q4, q5, q6, q7, q8])
  exact fin _ (by simp [sameF, q0, q1, q2, q3, q4, q5, q6, q7, q8])
end Go.Proofs.YtkoecjmmphmdeaaGreatDoor.code
