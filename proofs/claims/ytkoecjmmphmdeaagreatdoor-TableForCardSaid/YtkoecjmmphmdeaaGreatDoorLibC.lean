/- linotyperef19: Rows, Of, Match. -/
import Derived.Test.YtkoecjmmphmdeaaGreatDoorLibB
set_option linter.unusedVariables false
set_option linter.unusedSimpArgs false
set_option maxRecDepth 100000
namespace Go.Proofs.YtkoecjmmphmdeaaGreatDoor.code
open Go.Ab

theorem q_linotyperef12_Slot (x : Lf) (k : Int) (H : Heap) (hx : x.At H) : CallQ prog f_linotyperef12_Slot [.agg x.cells.toArray, .int .i64 k] H fun u H' => u = .int .i64 (idxI x.f.slots k) ∧ ∃ m, H' = H.up m := by
  refine in_linotyperef12_Slot fun hw => ?_
  have ec : (Value.agg x.cells.toArray).cells.toList = x.cells := rfl
  simp only [pc_linotyperef12_Slot, ec, sxA, Nat.reduceBEq, List.map_cons, List.map_nil, ne_eq, not_false_eq_true, not_true_eq_false, Nat.reduceEqDiff, reduceCtorEq, cond_true, cond_false, Bool.not_true, Bool.not_false, Bool.not_not, mxA, if_true, if_false, Nat.reduceAdd, List.getElem?_cons_succ, List.getElem?_cons_zero, Option.some.injEq, exists_eq_left', eq_self, reduceIte, List.length_cons, List.length_nil, Nat.reduceLeDiff, List.all_cons, List.all_nil, List.drop_zero, List.drop_succ_cons, List.take_succ_cons, List.take_zero, List.cons_append, List.nil_append, List.append_nil, splice, List.take_nil, List.drop_nil]
  have hx0 : Ext H (H.push (.cells x.cells T_api_Form false)) := (Ext.refl H).push _
  have hg0 : (H.push (.cells x.cells T_api_Form false)).get H.next = some (.cells x.cells T_api_Form false) := by rw [Heap.get_push, if_pos rfl]
  have hw0 := hw.push (.cells x.cells T_api_Form false)
  generalize H.push (.cells x.cells T_api_Form false) = H1 at hx0 hg0 hw0
  obtain ⟨l1, l2, h1, h2⟩ := hx.ext hw hx0
  obtain ⟨a2, c2, e2, hs2⟩ := h2
  have g2 : x.cells[2]? = some (.slice a2 x.f.slots.length c2) := by rw [← e2]; rfl
  refine loop_intro (fun m A' H' => ∃ i : Nat, i ≤ x.f.slots.length ∧ m = x.f.slots.length - i ∧ H' = H1 ∧ (∀ j, j < i → ¬ k = x.f.slots.getD j 0) ∧ A' 1 = .int .i64 k ∧ A' 2 = .pointer (some ⟨H.next, 0, none⟩) ∧ A' 5 = .int .i64 i) x.f.slots.length ?_ ?_
  · refine ⟨0, Nat.zero_le _, by omega, rfl, fun j h => by omega, ?_, ?_, ?_⟩
    all_goals simp only [uxA, Nat.reduceBEq, cond_true, cond_false]
    rfl
  · rintro m A' H' ⟨i, hi, rfl, rfl, hall, r1, r2, r5⟩
    simp only [sxA, Nat.reduceBEq, List.map_cons, List.map_nil, ne_eq, not_false_eq_true, not_true_eq_false, Nat.reduceEqDiff, reduceCtorEq, cond_true, cond_false, Bool.not_true, Bool.not_false, Bool.not_not, mxA, if_true, if_false, Nat.reduceAdd, List.getElem?_cons_succ, List.getElem?_cons_zero, Option.some.injEq, exists_eq_left', eq_self, reduceIte, List.length_cons, List.length_nil, Nat.reduceLeDiff, List.all_cons, List.all_nil, List.drop_zero, List.drop_succ_cons, List.take_succ_cons, List.take_zero, List.cons_append, List.nil_append, List.append_nil, splice, List.take_nil, List.drop_nil, r1, r2, r5, hg0, g2]
    refine cB_cases (fun h2 => ?_) (fun h2 => ?_)
    · have h2 : i < x.f.slots.length := by have := of_decide_eq_true h2; omega
      obtain ⟨b1, e1, ro1, rfl, hb1⟩ := hs2 (by omega)
      have c1 : (0 : Int) ≤ i ∧ (i : Int) < x.f.slots.length := by omega
      have c3 : (i : Int).toNat = i := by omega
      have ei : IntKind.i64.wrap ((i : Int) + 1) = ((i + 1 : Nat) : Int) := by rw [w64 (by unfold I64; omega)]; omega
      have g1 := ints_get (l := x.f.slots) (i := i) (by omega)
      simp only [sxA, Nat.reduceBEq, List.map_cons, List.map_nil, ne_eq, not_false_eq_true, not_true_eq_false, Nat.reduceEqDiff, reduceCtorEq, cond_true, cond_false, Bool.not_true, Bool.not_false, Bool.not_not, mxA, if_true, if_false, Nat.reduceAdd, List.getElem?_cons_succ, List.getElem?_cons_zero, Option.some.injEq, exists_eq_left', eq_self, reduceIte, List.length_cons, List.length_nil, Nat.reduceLeDiff, List.all_cons, List.all_nil, List.drop_zero, List.drop_succ_cons, List.take_succ_cons, List.take_zero, List.cons_append, List.nil_append, List.append_nil, splice, List.take_nil, List.drop_nil, r1, r2, r5, hg0, g2, c1, c3, hb1, g1]
      refine cB_cases (fun h3 => ?_) (fun h3 => ?_)
      · have h3 : k = x.f.slots.getD i 0 := by have : x.f.slots.getD i 0 = k := by simpa using h3
                                               exact this.symm
        simp only [sxA, Nat.reduceBEq, List.map_cons, List.map_nil, ne_eq, not_false_eq_true, not_true_eq_false, Nat.reduceEqDiff, reduceCtorEq, cond_true, cond_false, Bool.not_true, Bool.not_false, Bool.not_not, mxA, if_true, if_false, Nat.reduceAdd, List.getElem?_cons_succ, List.getElem?_cons_zero, Option.some.injEq, exists_eq_left', eq_self, reduceIte, List.length_cons, List.length_nil, Nat.reduceLeDiff, List.all_cons, List.all_nil, List.drop_zero, List.drop_succ_cons, List.take_succ_cons, List.take_zero, List.cons_append, List.nil_append, List.append_nil, splice, List.take_nil, List.drop_nil, r5, ret_linotyperef12_Slot]
        exact .ext hw hx0 ⟨by rw [idxI, idxGo_at k _ 0 i hall h2 h3, Nat.zero_add], _, rfl⟩
      · have h3 : ¬ k = x.f.slots.getD i 0 := fun h => by
          have : ¬ x.f.slots.getD i 0 = k := by simpa using h3
          exact this h.symm
        simp only [sxA, Nat.reduceBEq, List.map_cons, List.map_nil, ne_eq, not_false_eq_true, not_true_eq_false, Nat.reduceEqDiff, reduceCtorEq, cond_true, cond_false, Bool.not_true, Bool.not_false, Bool.not_not, mxA, if_true, if_false, Nat.reduceAdd, List.getElem?_cons_succ, List.getElem?_cons_zero, Option.some.injEq, exists_eq_left', eq_self, reduceIte, List.length_cons, List.length_nil, Nat.reduceLeDiff, List.all_cons, List.all_nil, List.drop_zero, List.drop_succ_cons, List.take_succ_cons, List.take_zero, List.cons_append, List.nil_append, List.append_nil, splice, List.take_nil, List.drop_nil, r5, ei]
        refine ⟨x.f.slots.length - (i + 1), by omega, i + 1, by omega, rfl, rfl, fun j hj => ?_, ?_, ?_, ?_⟩
        · rcases Nat.lt_or_ge j i with h | h
          · exact hall j h
          · rw [show j = i by omega]; exact h3
        all_goals simp only [uxA, Nat.reduceBEq, cond_true, cond_false, r1, r2]
    · have h2 : i = x.f.slots.length := by have := of_decide_eq_false h2; omega
      subst h2
      simp only [sxA, Nat.reduceBEq, List.map_cons, List.map_nil, ne_eq, not_false_eq_true, not_true_eq_false, Nat.reduceEqDiff, reduceCtorEq, cond_true, cond_false, Bool.not_true, Bool.not_false, Bool.not_not, mxA, if_true, if_false, Nat.reduceAdd, List.getElem?_cons_succ, List.getElem?_cons_zero, Option.some.injEq, exists_eq_left', eq_self, reduceIte, List.length_cons, List.length_nil, Nat.reduceLeDiff, List.all_cons, List.all_nil, List.drop_zero, List.drop_succ_cons, List.take_succ_cons, List.take_zero, List.cons_append, List.nil_append, List.append_nil, splice, List.take_nil, List.drop_nil, ret_linotyperef12_Slot]
      exact .ext hw hx0 ⟨by rw [idxI, idxGo_no k _ 0 hall], _, rfl⟩

def cl8 (n : Int) : Int := IntKind.i64.wrap (n - (IntKind.i64.wrap (n.tmod 8 + 8)).tmod 8)
def codeF (f : Fm) (n : Int) : Bool := bif decide (0 ≤ idxI f.slots 4) then cl8 n == f.code else n == f.code
theorem q_linotyperef19_code (x : Lf) (n : Int) (H : Heap) (hx : x.At H) : CallQ prog f_linotyperef19_code [.agg x.cells.toArray, .int .i64 n] H fun u H' => u = .bool (codeF x.f n) ∧ ∃ m, H' = H.up m := by
  refine in_linotyperef19_code fun hw => ?_
  have ha := lcells_all hx
  have ec : (Value.agg x.cells.toArray).cells.toList = x.cells := rfl
  have g5 : x.cells[5]? = some (.int .i64 x.f.code) := rfl
  simp only [pc_linotyperef19_code, ec, lcells_length, lcells_take, ha, sxA, Nat.reduceBEq, List.map_cons, List.map_nil, ne_eq, not_false_eq_true, not_true_eq_false, Nat.reduceEqDiff, reduceCtorEq, cond_true, cond_false, Bool.not_true, Bool.not_false, Bool.not_not, mxA, if_true, if_false, Nat.reduceAdd, List.getElem?_cons_succ, List.getElem?_cons_zero, Option.some.injEq, exists_eq_left', eq_self, reduceIte, List.length_cons, List.length_nil, Nat.reduceLeDiff, List.all_cons, List.all_nil, List.drop_zero, List.drop_succ_cons, List.take_succ_cons, List.take_zero, List.cons_append, List.nil_append, List.append_nil, splice, List.take_nil, List.drop_nil]
  refine (q_linotyperef12_Slot x 4 _ (hx.ext hw ((Ext.refl H).push _))).thenW ?_
  rintro _ _ hn hw2 ⟨rfl, m, rfl⟩
  simp only [Heap.next_up, Heap.next_push] at hn
  have hx2 : Ext H ((H.push (.cells x.cells T_api_Form false)).up m) := ((Ext.refl H).push _).up (by simp only [Heap.next_push]; exact hn)
  simp only [sxA, Nat.reduceBEq, List.map_cons, List.map_nil, ne_eq, not_false_eq_true, not_true_eq_false, Nat.reduceEqDiff, reduceCtorEq, cond_true, cond_false, Bool.not_true, Bool.not_false, Bool.not_not, mxA, if_true, if_false, Nat.reduceAdd, List.getElem?_cons_succ, List.getElem?_cons_zero, Option.some.injEq, exists_eq_left', eq_self, reduceIte, List.length_cons, List.length_nil, Nat.reduceLeDiff, List.all_cons, List.all_nil, List.drop_zero, List.drop_succ_cons, List.take_succ_cons, List.take_zero, List.cons_append, List.nil_append, List.append_nil, splice, List.take_nil, List.drop_nil]
  cases h0 : decide (0 ≤ idxI x.f.slots 4) with
  | true =>
    have e8 : (8 : Int) ≠ 0 := by decide
    simp only [sxA, Nat.reduceBEq, List.map_cons, List.map_nil, ne_eq, not_false_eq_true, not_true_eq_false, Nat.reduceEqDiff, reduceCtorEq, cond_true, cond_false, Bool.not_true, Bool.not_false, Bool.not_not, mxA, if_true, if_false, Nat.reduceAdd, List.getElem?_cons_succ, List.getElem?_cons_zero, Option.some.injEq, exists_eq_left', eq_self, reduceIte, List.length_cons, List.length_nil, Nat.reduceLeDiff, List.all_cons, List.all_nil, List.drop_zero, List.drop_succ_cons, List.take_succ_cons, List.take_zero, List.cons_append, List.nil_append, List.append_nil, splice, List.take_nil, List.drop_nil, g5, ret_linotyperef19_code]
    refine ⟨by decide, by decide, .ext hw hx2 ⟨by rw [codeF, h0]; rfl, _, rfl⟩⟩
  | false =>
    simp only [sxA, Nat.reduceBEq, List.map_cons, List.map_nil, ne_eq, not_false_eq_true, not_true_eq_false, Nat.reduceEqDiff, reduceCtorEq, cond_true, cond_false, Bool.not_true, Bool.not_false, Bool.not_not, mxA, if_true, if_false, Nat.reduceAdd, List.getElem?_cons_succ, List.getElem?_cons_zero, Option.some.injEq, exists_eq_left', eq_self, reduceIte, List.length_cons, List.length_nil, Nat.reduceLeDiff, List.all_cons, List.all_nil, List.drop_zero, List.drop_succ_cons, List.take_succ_cons, List.take_zero, List.cons_append, List.nil_append, List.append_nil, splice, List.take_nil, List.drop_nil, g5, ret_linotyperef19_code]
    exact .ext hw hx2 ⟨by rw [codeF, h0]; rfl, _, rfl⟩

def standsF (f : Fm) (k : Ky) : Bool := (f.vex == k.vex) && (f.pre == k.pre) && (f.map == k.map) && (f.l == k.l) && ((f.w == -1) || (f.w == k.w)) && codeF f k.code
theorem q_linotyperef19_Stands (x : Lf) (k : Ky) (H : Heap) (hx : x.At H) : CallQ prog f_linotyperef19_Stands [.agg x.cells.toArray, .agg k.cells.toArray] H fun u H' => u = .bool (standsF x.f k) ∧ ∃ m, H' = H.up m := by
  refine in_linotyperef19_Stands fun hw => ?_
  obtain ⟨q1, h1⟩ : ∃ c, (x.f.vex == k.vex) = c := ⟨_, rfl⟩
  obtain ⟨q2, h2⟩ : ∃ c, (x.f.pre == k.pre) = c := ⟨_, rfl⟩
  obtain ⟨q3, h3⟩ : ∃ c, (x.f.map == k.map) = c := ⟨_, rfl⟩
  obtain ⟨q4, h4⟩ : ∃ c, (x.f.l == k.l) = c := ⟨_, rfl⟩
  obtain ⟨q5, h5⟩ : ∃ c, (x.f.w == -1) = c := ⟨_, rfl⟩
  obtain ⟨q6, h6⟩ : ∃ c, (x.f.w == k.w) = c := ⟨_, rfl⟩
  have hm : standsF x.f k = (q1 && q2 && q3 && q4 && (q5 || q6) && codeF x.f k.code) := by simp only [standsF, h1, h2, h3, h4, h5, h6]
  rw [hm]
  have hxx : ∀ b c, Ext H ((H.push b).push c) := fun b c => ((Ext.refl H).push b).push c
  have ha := lcells_all hx
  have hx2 := hx.ext hw (hxx (.cells x.cells T_api_Form false) (.cells k.cells T_api_Key false))
  have ec : (Value.agg x.cells.toArray).cells.toList = x.cells := rfl
  have ek : (Value.agg k.cells.toArray).cells.toList = k.cells := rfl
  have a8 : x.cells[8]? = some (.bool x.f.vex) := rfl
  have a3 : x.cells[3]? = some (.int .i64 x.f.pre) := rfl
  have a4 : x.cells[4]? = some (.int .i64 x.f.map) := rfl
  have a9 : x.cells[9]? = some (.int .i64 x.f.l) := rfl
  have a7 : x.cells[7]? = some (.int .i64 x.f.w) := rfl
  have k0 : k.cells[0]? = some (.bool k.vex) := rfl
  have k1 : k.cells[1]? = some (.int .i64 k.pre) := rfl
  have k2 : k.cells[2]? = some (.int .i64 k.w) := rfl
  have k3 : k.cells[3]? = some (.int .i64 k.l) := rfl
  have k4 : k.cells[4]? = some (.int .i64 k.map) := rfl
  have k5 : k.cells[5]? = some (.int .i64 k.code) := rfl
  simp only [pc_linotyperef19_Stands, ec, ek, sxA, Nat.reduceBEq, List.map_cons, List.map_nil, ne_eq, not_false_eq_true, not_true_eq_false, Nat.reduceEqDiff, reduceCtorEq, cond_true, cond_false, Bool.not_true, Bool.not_false, Bool.not_not, mxA, if_true, if_false, Nat.reduceAdd, List.getElem?_cons_succ, List.getElem?_cons_zero, Option.some.injEq, exists_eq_left', eq_self, reduceIte, List.length_cons, List.length_nil, Nat.reduceLeDiff, List.all_cons, List.all_nil, List.drop_zero, List.drop_succ_cons, List.take_succ_cons, List.take_zero, List.cons_append, List.nil_append, List.append_nil, splice, List.take_nil, List.drop_nil, a8, k0, h1]
  cases q1 <;> simp only [sxA, Nat.reduceBEq, List.map_cons, List.map_nil, ne_eq, not_false_eq_true, not_true_eq_false, Nat.reduceEqDiff, reduceCtorEq, cond_true, cond_false, Bool.not_true, Bool.not_false, Bool.not_not, mxA, if_true, if_false, Nat.reduceAdd, List.getElem?_cons_succ, List.getElem?_cons_zero, Option.some.injEq, exists_eq_left', eq_self, reduceIte, List.length_cons, List.length_nil, Nat.reduceLeDiff, List.all_cons, List.all_nil, List.drop_zero, List.drop_succ_cons, List.take_succ_cons, List.take_zero, List.cons_append, List.nil_append, List.append_nil, splice, List.take_nil, List.drop_nil, a3, k1, h2, ret_linotyperef19_Stands]
  · exact .ext hw (hxx _ _) ⟨rfl, _, rfl⟩
  cases q2 <;> simp only [sxA, Nat.reduceBEq, List.map_cons, List.map_nil, ne_eq, not_false_eq_true, not_true_eq_false, Nat.reduceEqDiff, reduceCtorEq, cond_true, cond_false, Bool.not_true, Bool.not_false, Bool.not_not, mxA, if_true, if_false, Nat.reduceAdd, List.getElem?_cons_succ, List.getElem?_cons_zero, Option.some.injEq, exists_eq_left', eq_self, reduceIte, List.length_cons, List.length_nil, Nat.reduceLeDiff, List.all_cons, List.all_nil, List.drop_zero, List.drop_succ_cons, List.take_succ_cons, List.take_zero, List.cons_append, List.nil_append, List.append_nil, splice, List.take_nil, List.drop_nil, a4, k4, h3, ret_linotyperef19_Stands]
  · exact .ext hw (hxx _ _) ⟨rfl, _, rfl⟩
  cases q3 <;> simp only [sxA, Nat.reduceBEq, List.map_cons, List.map_nil, ne_eq, not_false_eq_true, not_true_eq_false, Nat.reduceEqDiff, reduceCtorEq, cond_true, cond_false, Bool.not_true, Bool.not_false, Bool.not_not, mxA, if_true, if_false, Nat.reduceAdd, List.getElem?_cons_succ, List.getElem?_cons_zero, Option.some.injEq, exists_eq_left', eq_self, reduceIte, List.length_cons, List.length_nil, Nat.reduceLeDiff, List.all_cons, List.all_nil, List.drop_zero, List.drop_succ_cons, List.take_succ_cons, List.take_zero, List.cons_append, List.nil_append, List.append_nil, splice, List.take_nil, List.drop_nil, a9, k3, h4, ret_linotyperef19_Stands]
  · exact .ext hw (hxx _ _) ⟨rfl, _, rfl⟩
  cases q4 <;> simp only [sxA, Nat.reduceBEq, List.map_cons, List.map_nil, ne_eq, not_false_eq_true, not_true_eq_false, Nat.reduceEqDiff, reduceCtorEq, cond_true, cond_false, Bool.not_true, Bool.not_false, Bool.not_not, mxA, if_true, if_false, Nat.reduceAdd, List.getElem?_cons_succ, List.getElem?_cons_zero, Option.some.injEq, exists_eq_left', eq_self, reduceIte, List.length_cons, List.length_nil, Nat.reduceLeDiff, List.all_cons, List.all_nil, List.drop_zero, List.drop_succ_cons, List.take_succ_cons, List.take_zero, List.cons_append, List.nil_append, List.append_nil, splice, List.take_nil, List.drop_nil, a7, h5, ret_linotyperef19_Stands]
  · exact .ext hw (hxx _ _) ⟨rfl, _, rfl⟩
  cases q5 <;> simp only [sxA, Nat.reduceBEq, List.map_cons, List.map_nil, ne_eq, not_false_eq_true, not_true_eq_false, Nat.reduceEqDiff, reduceCtorEq, cond_true, cond_false, Bool.not_true, Bool.not_false, Bool.not_not, mxA, if_true, if_false, Nat.reduceAdd, List.getElem?_cons_succ, List.getElem?_cons_zero, Option.some.injEq, exists_eq_left', eq_self, reduceIte, List.length_cons, List.length_nil, Nat.reduceLeDiff, List.all_cons, List.all_nil, List.drop_zero, List.drop_succ_cons, List.take_succ_cons, List.take_zero, List.cons_append, List.nil_append, List.append_nil, splice, List.take_nil, List.drop_nil, a7, k2, k5, h6, ret_linotyperef19_Stands, lcells_length, lcells_take, ha]
  · cases q6 <;> simp only [sxA, Nat.reduceBEq, List.map_cons, List.map_nil, ne_eq, not_false_eq_true, not_true_eq_false, Nat.reduceEqDiff, reduceCtorEq, cond_true, cond_false, Bool.not_true, Bool.not_false, Bool.not_not, mxA, if_true, if_false, Nat.reduceAdd, List.getElem?_cons_succ, List.getElem?_cons_zero, Option.some.injEq, exists_eq_left', eq_self, reduceIte, List.length_cons, List.length_nil, Nat.reduceLeDiff, List.all_cons, List.all_nil, List.drop_zero, List.drop_succ_cons, List.take_succ_cons, List.take_zero, List.cons_append, List.nil_append, List.append_nil, splice, List.take_nil, List.drop_nil, k5, ret_linotyperef19_Stands, lcells_length, lcells_take, ha]
    · exact .ext hw (hxx _ _) ⟨rfl, _, rfl⟩
    · refine (q_linotyperef19_code x k.code _ hx2).thenW ?_
      rintro _ _ hn hw2 ⟨rfl, m, rfl⟩
      simp only [Heap.next_up, Heap.next_push] at hn
      simp only [sxA, Nat.reduceBEq, List.map_cons, List.map_nil, ne_eq, not_false_eq_true, not_true_eq_false, Nat.reduceEqDiff, reduceCtorEq, cond_true, cond_false, Bool.not_true, Bool.not_false, Bool.not_not, mxA, if_true, if_false, Nat.reduceAdd, List.getElem?_cons_succ, List.getElem?_cons_zero, Option.some.injEq, exists_eq_left', eq_self, reduceIte, List.length_cons, List.length_nil, Nat.reduceLeDiff, List.all_cons, List.all_nil, List.drop_zero, List.drop_succ_cons, List.take_succ_cons, List.take_zero, List.cons_append, List.nil_append, List.append_nil, splice, List.take_nil, List.drop_nil, ret_linotyperef19_Stands]
      exact .ext hw ((hxx _ _).up (by simp only [Heap.next_push]; exact hn)) ⟨by simp, _, rfl⟩
  · refine (q_linotyperef19_code x k.code _ hx2).thenW ?_
    rintro _ _ hn hw2 ⟨rfl, m, rfl⟩
    simp only [Heap.next_up, Heap.next_push] at hn
    simp only [sxA, Nat.reduceBEq, List.map_cons, List.map_nil, ne_eq, not_false_eq_true, not_true_eq_false, Nat.reduceEqDiff, reduceCtorEq, cond_true, cond_false, Bool.not_true, Bool.not_false, Bool.not_not, mxA, if_true, if_false, Nat.reduceAdd, List.getElem?_cons_succ, List.getElem?_cons_zero, Option.some.injEq, exists_eq_left', eq_self, reduceIte, List.length_cons, List.length_nil, Nat.reduceLeDiff, List.all_cons, List.all_nil, List.drop_zero, List.drop_succ_cons, List.take_succ_cons, List.take_zero, List.cons_append, List.nil_append, List.append_nil, splice, List.take_nil, List.drop_nil, ret_linotyperef19_Stands]
    exact .ext hw ((hxx _ _).up (by simp only [Heap.next_push]; exact hn)) ⟨by simp, _, rfl⟩
end Go.Proofs.YtkoecjmmphmdeaaGreatDoor.code
/- linotyperef19: Rows, Of, Match. -/
set_option linter.unusedVariables false
set_option linter.unusedSimpArgs false
set_option maxRecDepth 100000
namespace Go.Proofs.YtkoecjmmphmdeaaGreatDoor.code
open Go.Ab

theorem cellsL_append (xs ys : List Lf) : cellsL (xs ++ ys) = cellsL xs ++ cellsL ys := by simp [cellsL]
theorem cellsL_all {H : Heap} : ∀ (xs : List Lf), (∀ x ∈ xs, x.At H) → ((cellsL xs).all fun v => v.oneCell') = true
  | [], _ => rfl
  | x :: xs, h => by
    have h1 := lcells_all (h x (List.mem_cons_self ..))
    have h2 := cellsL_all xs fun y hy => h y (List.mem_cons_of_mem _ hy)
    simp only [cellsL, List.flatMap_cons, List.all_append, Bool.and_eq_true] at h2 ⊢
    exact ⟨h1, h2⟩
theorem Acc.appL {H0 H1 H : Heap} {v u : Value} {ys xs : List Lf} {K : Value → Heap → Prop} (h : Acc H0 H v ys) (hyn : ys ≠ []) (hx : Ext H0 H) (hw : H.Wf) (hu : Acc H1 H u xs) (hxn : xs ≠ []) (hl : ys.length ≤ 100000) (hl2 : xs.length ≤ 100000) (hne : ∀ a l c a' l' c', v = .slice (some a) l c → u = .slice (some a') l' c' → a.block ≠ a'.block)
    (hK : ∀ v' H', Ext H0 H' → H'.Wf → H.next ≤ H'.next → Acc H0 H' v' (ys ++ xs) → (∀ a l c, v' = .slice (some a) l c → H.next ≤ a.block) → KeepA H H' v → K v' H') : appK T_api_Form 10 112 v u H K := by
  rcases id h with ⟨rfl, rfl⟩ | ⟨b, rfl, hb0, hgb, _, hya⟩
  · exact absurd rfl hyn
  · rcases id hu with ⟨rfl, rfl⟩ | ⟨b1, rfl, hb1, hgb1, _, hxa⟩
    · exact absurd rfl hxn
    · have hlx : xs.length ≠ 0 := fun e => hxn (List.length_eq_zero_iff.1 e)
      have hsrc : asrc 10 (.slice (some ⟨b1, 0, none⟩) xs.length (UNK + 10)) H = some (xs.length, cellsL xs) := by
        rw [asrc_sl hgb1 hlx (by rw [cellsL_length]; omega), List.drop_zero, List.take_of_length_le (by rw [cellsL_length]; omega)]
      have hbl := hw.lt hgb
      have hbn : b ≠ b1 := hne _ _ _ _ _ _ rfl rfl
      have hn0 := hx.next
      refine appK_own rfl hsrc (cellsL_all xs hxa) hlx (c := cellsL ys) hgb (by rw [cellsL_length]; omega) (by omega) (by omega) (by unfold UNK; omega) ?_
      have hk : KeepA H ((H.kill b).push (.cells (cellsL ys ++ cellsL xs) T_api_Form false)) (.slice (some ⟨b, 0, none⟩) ys.length (UNK + 10)) := fun id bl hg hn => by
        rw [Heap.get_push, if_neg (by have := hw.lt hg; simp; omega), Heap.get_kill, if_neg (hn _ _ _ rfl)]; exact hg
      refine hK (.slice (some ⟨H.next, 0, none⟩) (ys.length + xs.length) (UNK + 10)) ((H.kill b).push (.cells (cellsL ys ++ cellsL xs) T_api_Form false)) ((hx.kill hb0).push _) ((hw.kill _).push _) (by simp)
        (.inr ⟨H.next, by simp, hn0, by rw [Heap.get_push, if_pos (by simp), cellsL_append], by simp [hyn], fun y hy => ?_⟩) (fun a l c e => by cases e; exact Nat.le_refl _) hk
      simp only [List.mem_append] at hy
      rcases hy with hy | hy
      · exact hk.at h (hya y hy)
      · exact hk.at h (hxa y hy)

section
variable {T : Heap → Prop} (hT : ∀ H H', H.Wf → T H → Ext H H' → T H')
include hT
theorem q_linotyperef19_Rows (H : Heap) (ht : T H) {L1 L2 L3 L4 L5 L6 : List Fm} (t1 : Tells T f_linotyperef13_Rows L1) (t2 : Tells T f_linotyperef14_Rows L2) (t3 : Tells T f_linotyperef15_Rows L3) (t4 : Tells T f_linotyperef16_Rows L4) (t5 : Tells T f_linotyperef17_Rows L5) (t6 : Tells T f_linotyperef18_Rows L6)
    (n1 : L1 ≠ []) (n2 : L2 ≠ []) (n3 : L3 ≠ []) (n4 : L4 ≠ []) (n5 : L5 ≠ []) (n6 : L6 ≠ []) : CallQ prog f_linotyperef19_Rows [] H fun u H' => Told H H' u (L1 ++ (L2 ++ (L3 ++ (L4 ++ (L5 ++ L6))))) := by
  refine in_linotyperef19_Rows fun hw => ?_
  simp only [pc_linotyperef19_Rows, sxA, Nat.reduceBEq, List.map_cons, List.map_nil, ne_eq, not_false_eq_true, not_true_eq_false, Nat.reduceEqDiff, reduceCtorEq, cond_true, cond_false, Bool.not_true, Bool.not_false, Bool.not_not, mxA, if_true, if_false, Nat.reduceAdd, List.getElem?_cons_succ, List.getElem?_cons_zero, Option.some.injEq, exists_eq_left', eq_self, reduceIte, List.length_cons, List.length_nil, Nat.reduceLeDiff, List.all_cons, List.all_nil, List.drop_zero, List.drop_succ_cons, List.take_succ_cons, List.take_zero, List.cons_append, List.nil_append, List.append_nil, splice, List.take_nil, List.drop_nil]
  -- one list more
  have step : ∀ (f : FuncId) (L : List Fm), Tells T f L → L ≠ [] → ∀ (H1 : Heap) (v : Value) (ys : List Lf), H1.Wf → Ext H H1 → Acc H H1 v ys → ys ≠ [] → ys.length ≤ 10000 → (∀ y ∈ ys, y.Fr H.next) →
      CallQ prog f [] H1 fun u H2 => ∀ K : Value → Heap → Prop, (∀ v' H3 zs, H3.Wf → Ext H H3 → zs.map (·.f) = ys.map (·.f) ++ L → zs.length ≤ ys.length + 1000 → zs ≠ [] → Acc H H3 v' zs → (∀ z ∈ zs, z.Fr H.next) → K v' H3) → appK T_api_Form 10 112 v u H2 K := fun f L hL hn H1 v ys hw1 hx1 hac hyn hyl hyf => by
    intro _
    obtain ⟨u, H2, hc, hn2, hw2, hx2, xs, e1, hu, hxl, hxf⟩ := hL H1 (hT _ _ hw ht hx1) hw1
    refine ⟨u, H2, hc, hn2, hw2, fun K hK => ?_⟩
    have hxn : xs ≠ [] := fun e => hn (by rw [← e1, e]; rfl)
    refine (hac.ext hw1 hx2).appL hyn (hx1.trans hx2) hw2 hu hxn (by omega) (by omega) (fun a l c a' l' c' hv hu' => ?_) fun v' H' y1 y2 y3 y4 y5 y6 => hK v' H' (ys ++ xs) y2 y1 (by simp [e1]) (by simp; omega) (by simp [hyn]) y4 fun z hz => ?_
    · rcases hac with ⟨e, _⟩ | ⟨b, e, _, hg, _⟩
      · rw [e] at hv; cases hv
      · rw [e] at hv; cases hv
        have := hw1.lt hg
        rcases hu with ⟨e, _⟩ | ⟨b', e, hb', _⟩
        · rw [e] at hu'; cases hu'
        · rw [e] at hu'; cases hu'
          simp only
          omega
    · simp only [List.mem_append] at hz
      rcases hz with hz | hz
      · exact hyf z hz
      · exact (hxf z hz).mono hx1.next
  refine (t1 H ht).thenW ?_
  rintro v1 H1 hnx1 hw1 ⟨hx1, ys1, e1, ha1, hl1, hf1⟩
  simp only [sxA, Nat.reduceBEq, List.map_cons, List.map_nil, ne_eq, not_false_eq_true, not_true_eq_false, Nat.reduceEqDiff, reduceCtorEq, cond_true, cond_false, Bool.not_true, Bool.not_false, Bool.not_not, mxA, if_true, if_false, Nat.reduceAdd, List.getElem?_cons_succ, List.getElem?_cons_zero, Option.some.injEq, exists_eq_left', eq_self, reduceIte, List.length_cons, List.length_nil, Nat.reduceLeDiff, List.all_cons, List.all_nil, List.drop_zero, List.drop_succ_cons, List.take_succ_cons, List.take_zero, List.cons_append, List.nil_append, List.append_nil, splice, List.take_nil, List.drop_nil]
  refine (step _ L2 t2 n2 H1 v1 ys1 hw1 hx1 ha1 (fun e => n1 (by rw [← e1, e]; rfl)) (by omega) hf1).mono fun u H' happ => ?_
  simp only [sxA, Nat.reduceBEq, List.map_cons, List.map_nil, ne_eq, not_false_eq_true, not_true_eq_false, Nat.reduceEqDiff, reduceCtorEq, cond_true, cond_false, Bool.not_true, Bool.not_false, Bool.not_not, mxA, if_true, if_false, Nat.reduceAdd, List.getElem?_cons_succ, List.getElem?_cons_zero, Option.some.injEq, exists_eq_left', eq_self, reduceIte, List.length_cons, List.length_nil, Nat.reduceLeDiff, List.all_cons, List.all_nil, List.drop_zero, List.drop_succ_cons, List.take_succ_cons, List.take_zero, List.cons_append, List.nil_append, List.append_nil, splice, List.take_nil, List.drop_nil]
  refine happ _ fun v2 H2 ys2 hw2 hx2 e2 hl2 hn2 ha2 hf2 => ?_
  simp only [sxA, Nat.reduceBEq, List.map_cons, List.map_nil, ne_eq, not_false_eq_true, not_true_eq_false, Nat.reduceEqDiff, reduceCtorEq, cond_true, cond_false, Bool.not_true, Bool.not_false, Bool.not_not, mxA, if_true, if_false, Nat.reduceAdd, List.getElem?_cons_succ, List.getElem?_cons_zero, Option.some.injEq, exists_eq_left', eq_self, reduceIte, List.length_cons, List.length_nil, Nat.reduceLeDiff, List.all_cons, List.all_nil, List.drop_zero, List.drop_succ_cons, List.take_succ_cons, List.take_zero, List.cons_append, List.nil_append, List.append_nil, splice, List.take_nil, List.drop_nil]
  refine (step _ L3 t3 n3 H2 v2 ys2 hw2 hx2 ha2 hn2 (by omega) hf2).mono fun u H' happ => ?_
  simp only [sxA, Nat.reduceBEq, List.map_cons, List.map_nil, ne_eq, not_false_eq_true, not_true_eq_false, Nat.reduceEqDiff, reduceCtorEq, cond_true, cond_false, Bool.not_true, Bool.not_false, Bool.not_not, mxA, if_true, if_false, Nat.reduceAdd, List.getElem?_cons_succ, List.getElem?_cons_zero, Option.some.injEq, exists_eq_left', eq_self, reduceIte, List.length_cons, List.length_nil, Nat.reduceLeDiff, List.all_cons, List.all_nil, List.drop_zero, List.drop_succ_cons, List.take_succ_cons, List.take_zero, List.cons_append, List.nil_append, List.append_nil, splice, List.take_nil, List.drop_nil]
  refine happ _ fun v3 H3 ys3 hw3 hx3 e3 hl3 hn3 ha3 hf3 => ?_
  simp only [sxA, Nat.reduceBEq, List.map_cons, List.map_nil, ne_eq, not_false_eq_true, not_true_eq_false, Nat.reduceEqDiff, reduceCtorEq, cond_true, cond_false, Bool.not_true, Bool.not_false, Bool.not_not, mxA, if_true, if_false, Nat.reduceAdd, List.getElem?_cons_succ, List.getElem?_cons_zero, Option.some.injEq, exists_eq_left', eq_self, reduceIte, List.length_cons, List.length_nil, Nat.reduceLeDiff, List.all_cons, List.all_nil, List.drop_zero, List.drop_succ_cons, List.take_succ_cons, List.take_zero, List.cons_append, List.nil_append, List.append_nil, splice, List.take_nil, List.drop_nil]
  refine (step _ L4 t4 n4 H3 v3 ys3 hw3 hx3 ha3 hn3 (by omega) hf3).mono fun u H' happ => ?_
  simp only [sxA, Nat.reduceBEq, List.map_cons, List.map_nil, ne_eq, not_false_eq_true, not_true_eq_false, Nat.reduceEqDiff, reduceCtorEq, cond_true, cond_false, Bool.not_true, Bool.not_false, Bool.not_not, mxA, if_true, if_false, Nat.reduceAdd, List.getElem?_cons_succ, List.getElem?_cons_zero, Option.some.injEq, exists_eq_left', eq_self, reduceIte, List.length_cons, List.length_nil, Nat.reduceLeDiff, List.all_cons, List.all_nil, List.drop_zero, List.drop_succ_cons, List.take_succ_cons, List.take_zero, List.cons_append, List.nil_append, List.append_nil, splice, List.take_nil, List.drop_nil]
  refine happ _ fun v4 H4 ys4 hw4 hx4 e4 hl4 hn4 ha4 hf4 => ?_
  simp only [sxA, Nat.reduceBEq, List.map_cons, List.map_nil, ne_eq, not_false_eq_true, not_true_eq_false, Nat.reduceEqDiff, reduceCtorEq, cond_true, cond_false, Bool.not_true, Bool.not_false, Bool.not_not, mxA, if_true, if_false, Nat.reduceAdd, List.getElem?_cons_succ, List.getElem?_cons_zero, Option.some.injEq, exists_eq_left', eq_self, reduceIte, List.length_cons, List.length_nil, Nat.reduceLeDiff, List.all_cons, List.all_nil, List.drop_zero, List.drop_succ_cons, List.take_succ_cons, List.take_zero, List.cons_append, List.nil_append, List.append_nil, splice, List.take_nil, List.drop_nil]
  refine (step _ L5 t5 n5 H4 v4 ys4 hw4 hx4 ha4 hn4 (by omega) hf4).mono fun u H' happ => ?_
  simp only [sxA, Nat.reduceBEq, List.map_cons, List.map_nil, ne_eq, not_false_eq_true, not_true_eq_false, Nat.reduceEqDiff, reduceCtorEq, cond_true, cond_false, Bool.not_true, Bool.not_false, Bool.not_not, mxA, if_true, if_false, Nat.reduceAdd, List.getElem?_cons_succ, List.getElem?_cons_zero, Option.some.injEq, exists_eq_left', eq_self, reduceIte, List.length_cons, List.length_nil, Nat.reduceLeDiff, List.all_cons, List.all_nil, List.drop_zero, List.drop_succ_cons, List.take_succ_cons, List.take_zero, List.cons_append, List.nil_append, List.append_nil, splice, List.take_nil, List.drop_nil]
  refine happ _ fun v5 H5 ys5 hw5 hx5 e5 hl5 hn5 ha5 hf5 => ?_
  simp only [sxA, Nat.reduceBEq, List.map_cons, List.map_nil, ne_eq, not_false_eq_true, not_true_eq_false, Nat.reduceEqDiff, reduceCtorEq, cond_true, cond_false, Bool.not_true, Bool.not_false, Bool.not_not, mxA, if_true, if_false, Nat.reduceAdd, List.getElem?_cons_succ, List.getElem?_cons_zero, Option.some.injEq, exists_eq_left', eq_self, reduceIte, List.length_cons, List.length_nil, Nat.reduceLeDiff, List.all_cons, List.all_nil, List.drop_zero, List.drop_succ_cons, List.take_succ_cons, List.take_zero, List.cons_append, List.nil_append, List.append_nil, splice, List.take_nil, List.drop_nil]
  refine (step _ L6 t6 n6 H5 v5 ys5 hw5 hx5 ha5 hn5 (by omega) hf5).mono fun u H' happ => ?_
  simp only [sxA, Nat.reduceBEq, List.map_cons, List.map_nil, ne_eq, not_false_eq_true, not_true_eq_false, Nat.reduceEqDiff, reduceCtorEq, cond_true, cond_false, Bool.not_true, Bool.not_false, Bool.not_not, mxA, if_true, if_false, Nat.reduceAdd, List.getElem?_cons_succ, List.getElem?_cons_zero, Option.some.injEq, exists_eq_left', eq_self, reduceIte, List.length_cons, List.length_nil, Nat.reduceLeDiff, List.all_cons, List.all_nil, List.drop_zero, List.drop_succ_cons, List.take_succ_cons, List.take_zero, List.cons_append, List.nil_append, List.append_nil, splice, List.take_nil, List.drop_nil]
  refine happ _ fun v6 H6 ys6 hw6 hx6 e6 hl6 hn6 ha6 hf6 => ?_
  simp only [sxA, Nat.reduceBEq, List.map_cons, List.map_nil, ne_eq, not_false_eq_true, not_true_eq_false, Nat.reduceEqDiff, reduceCtorEq, cond_true, cond_false, Bool.not_true, Bool.not_false, Bool.not_not, mxA, if_true, if_false, Nat.reduceAdd, List.getElem?_cons_succ, List.getElem?_cons_zero, Option.some.injEq, exists_eq_left', eq_self, reduceIte, List.length_cons, List.length_nil, Nat.reduceLeDiff, List.all_cons, List.all_nil, List.drop_zero, List.drop_succ_cons, List.take_succ_cons, List.take_zero, List.cons_append, List.nil_append, List.append_nil, splice, List.take_nil, List.drop_nil, ret_linotyperef19_Rows]
  exact .mk hx6.next ⟨hx6, ys6, by rw [e6, e5, e4, e3, e2, e1]; simp, ha6, by omega, hf6⟩
end
end Go.Proofs.YtkoecjmmphmdeaaGreatDoor.code
/- linotyperef19: Of, Match. -/
set_option linter.unusedVariables false
set_option linter.unusedSimpArgs false
set_option maxRecDepth 100000
namespace Go.Proofs.YtkoecjmmphmdeaaGreatDoor.code
open Go.Ab

section
variable {T : Heap → Prop} (hT : ∀ H H', H.Wf → T H → Ext H H' → T H') {L : List Fm} (hR : ∀ H, T H → CallQ prog f_linotyperef19_Rows [] H fun u H' => Told H H' u L)
include hR
theorem q_linotyperef19_Of (op : Int) (H : Heap) (ht : T H) : CallQ prog f_linotyperef19_Of [.int .i64 op] H fun u H' => Told H H' u (L.filter fun f => f.op == op) := by
  refine in_linotyperef19_Of fun hw => ?_
  simp only [pc_linotyperef19_Of, sxA, Nat.reduceBEq, List.map_cons, List.map_nil, ne_eq, not_false_eq_true, not_true_eq_false, Nat.reduceEqDiff, reduceCtorEq, cond_true, cond_false, Bool.not_true, Bool.not_false, Bool.not_not, mxA, if_true, if_false, Nat.reduceAdd, List.getElem?_cons_succ, List.getElem?_cons_zero, Option.some.injEq, exists_eq_left', eq_self, reduceIte, List.length_cons, List.length_nil, Nat.reduceLeDiff, List.all_cons, List.all_nil, List.drop_zero, List.drop_succ_cons, List.take_succ_cons, List.take_zero, List.cons_append, List.nil_append, List.append_nil, splice, List.take_nil, List.drop_nil]
  refine (hR H ht).thenW ?_
  rintro v0 H1 hn1 hw1 ⟨hx1, xs, exs, hax, hxl, hxf⟩
  have hfm := hax.fms
  obtain ⟨aa, cap, rfl, hsl⟩ := id hfm.1
  have hab : ∀ a, aa = some a → H.next ≤ a.block ∧ (xs ≠ [] → a.block < H1.next) := fun a ha => by
    subst ha
    rcases hax with ⟨e, _⟩ | ⟨b, e, h1, h2, _⟩
    · cases e
    · cases e; exact ⟨h1, fun _ => hw1.lt h2⟩
  simp only [sxA, Nat.reduceBEq, List.map_cons, List.map_nil, ne_eq, not_false_eq_true, not_true_eq_false, Nat.reduceEqDiff, reduceCtorEq, cond_true, cond_false, Bool.not_true, Bool.not_false, Bool.not_not, mxA, if_true, if_false, Nat.reduceAdd, List.getElem?_cons_succ, List.getElem?_cons_zero, Option.some.injEq, exists_eq_left', eq_self, reduceIte, List.length_cons, List.length_nil, Nat.reduceLeDiff, List.all_cons, List.all_nil, List.drop_zero, List.drop_succ_cons, List.take_succ_cons, List.take_zero, List.cons_append, List.nil_append, List.append_nil, splice, List.take_nil, List.drop_nil]
  refine loop_intro (fun m A' H' => ∃ (i : Nat) (zs : List Lf), i ≤ xs.length ∧ m = xs.length - i ∧ H'.Wf ∧ Ext H H' ∧ H1.next ≤ H'.next ∧ zs.map (·.f) = ((xs.take i).map (·.f)).filter (fun f => f.op == op) ∧ zs.length ≤ i ∧ Acc H H' (A' 3) zs ∧ FmsAt H' (.slice aa xs.length cap) xs ∧ (∀ z ∈ zs, z.Fr H.next) ∧
      (∀ a l c b, A' 3 = .slice (some a) l c → aa = some b → b.block ≠ a.block) ∧
      A' 0 = .int .i64 op ∧ A' 4 = .slice aa xs.length cap ∧ A' 5 = .int .i64 i) xs.length ?_ ?_
  · refine ⟨0, [], Nat.zero_le _, by omega, hw1, hx1, Nat.le_refl _, by simp, by simp, ?_, hfm, fun z hz => (by cases hz), ?_, ?_, ?_, ?_⟩
    all_goals simp only [uxA, Nat.reduceBEq, cond_true, cond_false]
    · exact .inl ⟨rfl, rfl⟩
    · exact fun a l c b h => by cases h
    all_goals rfl
  · rintro m A' H3 ⟨k, zs, hk, rfl, hw3, hx3, hn3, hzs, hzl, hac3, hfm3, hzf, hne3, r0, s30, s32⟩
    simp only [sxA, Nat.reduceBEq, List.map_cons, List.map_nil, ne_eq, not_false_eq_true, not_true_eq_false, Nat.reduceEqDiff, reduceCtorEq, cond_true, cond_false, Bool.not_true, Bool.not_false, Bool.not_not, mxA, if_true, if_false, Nat.reduceAdd, List.getElem?_cons_succ, List.getElem?_cons_zero, Option.some.injEq, exists_eq_left', eq_self, reduceIte, List.length_cons, List.length_nil, Nat.reduceLeDiff, List.all_cons, List.all_nil, List.drop_zero, List.drop_succ_cons, List.take_succ_cons, List.take_zero, List.cons_append, List.nil_append, List.append_nil, splice, List.take_nil, List.drop_nil, r0, s30, s32]
    refine cB_cases (fun h3 => ?_) (fun h3 => ?_)
    · have h3 : k < xs.length := by have := of_decide_eq_true h3; omega
      obtain ⟨⟨a4, cap4, e4, hsl3⟩, hxa3⟩ := id hfm3
      cases e4
      obtain ⟨b1, e1', ro1, rfl, hb1⟩ := hsl3 (by omega)
      have d1 : (0 : Int) ≤ k ∧ (k : Int) < xs.length := by omega
      have d3 : (k : Int).toNat = k := by omega
      have d4 : k * 10 + 10 ≤ xs.length * 10 := by omega
      have ek : IntKind.i64.wrap ((k : Int) + 1) = ((k + 1 : Nat) : Int) := by rw [w64 (by unfold I64; omega)]; omega
      have hpk := List.getElem?_eq_getElem h3
      have dd := cellsL_at xs k _ hpk
      have nn := cellsL_length xs
      have hym : xs[k] ∈ xs := List.getElem_mem h3
      have wk := hxa3 _ hym
      have wf : (xs[k]).Fr H.next := hxf _ hym
      have hxtk : xs.take (k + 1) = xs.take k ++ [xs[k]] := List.take_succ_eq_append_getElem h3
      have g0 := cellsL_cell xs k 0 _ hpk (by decide)
      rw [Nat.add_zero, lg0] at g0
      generalize xs[k] = x at hpk dd hym wk wf hxtk g0
      have ak := lcells_all wk
      simp only [sxA, Nat.reduceBEq, List.map_cons, List.map_nil, ne_eq, not_false_eq_true, not_true_eq_false, Nat.reduceEqDiff, reduceCtorEq, cond_true, cond_false, Bool.not_true, Bool.not_false, Bool.not_not, mxA, if_true, if_false, Nat.reduceAdd, List.getElem?_cons_succ, List.getElem?_cons_zero, Option.some.injEq, exists_eq_left', eq_self, reduceIte, List.length_cons, List.length_nil, Nat.reduceLeDiff, List.all_cons, List.all_nil, List.drop_zero, List.drop_succ_cons, List.take_succ_cons, List.take_zero, List.cons_append, List.nil_append, List.append_nil, splice, List.take_nil, List.drop_nil, r0, s30, s32, d1, d3, d4, hb1, nn, dd, g0, lcells_length, lcells_take, ak]
      have hfil : ((xs.take (k + 1)).map (·.f)).filter (fun f => f.op == op) = ((xs.take k).map (·.f)).filter (fun f => f.op == op) ++ bif x.f.op == op then [x.f] else [] := by
        rw [hxtk, List.map_append, List.filter_append]
        cases hpx : x.f.op == op <;> simp [hpx]
      cases hpx : x.f.op == op
      · rw [hpx] at hfil
        simp only [sxA, Nat.reduceBEq, List.map_cons, List.map_nil, ne_eq, not_false_eq_true, not_true_eq_false, Nat.reduceEqDiff, reduceCtorEq, cond_true, cond_false, Bool.not_true, Bool.not_false, Bool.not_not, mxA, if_true, if_false, Nat.reduceAdd, List.getElem?_cons_succ, List.getElem?_cons_zero, Option.some.injEq, exists_eq_left', eq_self, reduceIte, List.length_cons, List.length_nil, Nat.reduceLeDiff, List.all_cons, List.all_nil, List.drop_zero, List.drop_succ_cons, List.take_succ_cons, List.take_zero, List.cons_append, List.nil_append, List.append_nil, splice, List.take_nil, List.drop_nil, s32, ek]
        refine ⟨xs.length - (k + 1), by omega, k + 1, zs, by omega, rfl, hw3, hx3, hn3, by rw [hfil, hzs]; simp, by omega, ?_, hfm3, hzf, ?_, ?_, ?_, ?_⟩
        all_goals simp only [uxA, Nat.reduceBEq, cond_true, cond_false, r0, s30]
        · exact hac3
        · exact fun a l c b h1 h2 => hne3 a l c b h1 (by rw [h2])
      · rw [hpx] at hfil
        simp only [sxA, Nat.reduceBEq, List.map_cons, List.map_nil, ne_eq, not_false_eq_true, not_true_eq_false, Nat.reduceEqDiff, reduceCtorEq, cond_true, cond_false, Bool.not_true, Bool.not_false, Bool.not_not, mxA, if_true, if_false, Nat.reduceAdd, List.getElem?_cons_succ, List.getElem?_cons_zero, Option.some.injEq, exists_eq_left', eq_self, reduceIte, List.length_cons, List.length_nil, Nat.reduceLeDiff, List.all_cons, List.all_nil, List.drop_zero, List.drop_succ_cons, List.take_succ_cons, List.take_zero, List.cons_append, List.nil_append, List.append_nil, splice, List.take_nil, List.drop_nil, s30, s32, d1, d3, d4, hb1, nn, dd, lcells_length, lcells_take, ak]
        have hx5 : Ext H3 (H3.push (.cells x.cells T_api_Form false)) := (Ext.refl H3).push _
        have hac5 := hac3.ext hw3 hx5
        have hb5 := hfm3.ext hw3 hx5
        refine Acc.app hac5 (hx3.trans hx5) (hw3.push _) (wk.ext hw3 hx5) (by omega) (by rw [Heap.get_push, if_pos rfl]) (fun a l c hv e => ?_) fun v' H6 y1 y2 y3 y4 y5 y6 => ?_
        · rcases hac3 with ⟨h, _⟩ | ⟨b2, h, _, h3', _⟩
          · rw [h] at hv; cases hv
          · rw [h] at hv; cases hv
            have := hw3.lt h3'
            simp only at e
            omega
        · simp only [sxA, Nat.reduceBEq, List.map_cons, List.map_nil, ne_eq, not_false_eq_true, not_true_eq_false, Nat.reduceEqDiff, reduceCtorEq, cond_true, cond_false, Bool.not_true, Bool.not_false, Bool.not_not, mxA, if_true, if_false, Nat.reduceAdd, List.getElem?_cons_succ, List.getElem?_cons_zero, Option.some.injEq, exists_eq_left', eq_self, reduceIte, List.length_cons, List.length_nil, Nat.reduceLeDiff, List.all_cons, List.all_nil, List.drop_zero, List.drop_succ_cons, List.take_succ_cons, List.take_zero, List.cons_append, List.nil_append, List.append_nil, splice, List.take_nil, List.drop_nil, s32, ek]
          simp only [Heap.next_push] at y3 y5
          refine ⟨xs.length - (k + 1), by omega, k + 1, zs ++ [x], by omega, rfl, y2, y1, by omega, by rw [hfil, List.map_append, hzs]; simp, by simp; omega, ?_, y6.fms hac5 hb5 fun a l c a' l' c' ha hv => ?_, ?_, ?_, ?_, ?_, ?_⟩
          rotate_left 2
          · intro z hz
            simp only [List.mem_append, List.mem_singleton] at hz
            rcases hz with hz | rfl
            · exact hzf z hz
            · exact wf
          · intro a l c b hv hb
            cases hb
            simp only [uxA, Nat.reduceBEq, cond_true, cond_false] at hv
            have h1 := y5 a l c hv
            have h2 := hw3.lt hb1
            simp only
            omega
          rotate_right 2
          · simp only [uxA, Nat.reduceBEq, cond_true, cond_false]
            exact y4
          · cases ha
            exact hne3 _ _ _ _ hv rfl
          all_goals simp only [uxA, Nat.reduceBEq, cond_true, cond_false, r0, s30]
    · have h3 : k = xs.length := by have := of_decide_eq_false h3; omega
      subst h3
      simp only [sxA, Nat.reduceBEq, List.map_cons, List.map_nil, ne_eq, not_false_eq_true, not_true_eq_false, Nat.reduceEqDiff, reduceCtorEq, cond_true, cond_false, Bool.not_true, Bool.not_false, Bool.not_not, mxA, if_true, if_false, Nat.reduceAdd, List.getElem?_cons_succ, List.getElem?_cons_zero, Option.some.injEq, exists_eq_left', eq_self, reduceIte, List.length_cons, List.length_nil, Nat.reduceLeDiff, List.all_cons, List.all_nil, List.drop_zero, List.drop_succ_cons, List.take_succ_cons, List.take_zero, List.cons_append, List.nil_append, List.append_nil, splice, List.take_nil, List.drop_nil, ret_linotyperef19_Of]
      rw [List.take_of_length_le (Nat.le_refl _), exs] at hzs
      exact .mk hx3.next ⟨hx3, zs, hzs, hac3, by omega, hzf⟩
include hT
theorem q_linotyperef19_Match (k' : Ky) (H : Heap) (ht : T H) : CallQ prog f_linotyperef19_Match [.agg k'.cells.toArray] H fun u H' => Told H H' u (L.filter fun f => standsF f k') := by
  refine in_linotyperef19_Match fun hw => ?_
  have ec : (Value.agg k'.cells.toArray).cells.toList = k'.cells := rfl
  have n6 : k'.cells.length = 6 := rfl
  have t6 : List.take 6 k'.cells = k'.cells := rfl
  have a6 : (k'.cells.all fun v => v.oneCell') = true := rfl
  simp only [pc_linotyperef19_Match, ec, sxA, Nat.reduceBEq, List.map_cons, List.map_nil, ne_eq, not_false_eq_true, not_true_eq_false, Nat.reduceEqDiff, reduceCtorEq, cond_true, cond_false, Bool.not_true, Bool.not_false, Bool.not_not, mxA, if_true, if_false, Nat.reduceAdd, List.getElem?_cons_succ, List.getElem?_cons_zero, Option.some.injEq, exists_eq_left', eq_self, reduceIte, List.length_cons, List.length_nil, Nat.reduceLeDiff, List.all_cons, List.all_nil, List.drop_zero, List.drop_succ_cons, List.take_succ_cons, List.take_zero, List.cons_append, List.nil_append, List.append_nil, splice, List.take_nil, List.drop_nil]
  have hx0 : Ext H (H.push (.cells k'.cells T_api_Key false)) := (Ext.refl H).push _
  have hg0 : (H.push (.cells k'.cells T_api_Key false)).get H.next = some (.cells k'.cells T_api_Key false) := by rw [Heap.get_push, if_pos rfl]
  have hw0 := hw.push (.cells k'.cells T_api_Key false)
  generalize H.push (.cells k'.cells T_api_Key false) = H0 at hx0 hg0 hw0
  refine (hR H0 (hT _ _ hw ht hx0)).thenW ?_
  rintro v0 H1 hn1 hw1 ⟨hx1, xs, exs, hax, hxl, hxf⟩
  have hfm := hax.fms
  obtain ⟨aa, cap, rfl, hsl⟩ := id hfm.1
  have hab : ∀ a, aa = some a → H0.next ≤ a.block ∧ (xs ≠ [] → a.block < H1.next) := fun a ha => by
    subst ha
    rcases hax with ⟨e, _⟩ | ⟨b, e, h1, h2, _⟩
    · cases e
    · cases e; exact ⟨h1, fun _ => hw1.lt h2⟩
  simp only [sxA, Nat.reduceBEq, List.map_cons, List.map_nil, ne_eq, not_false_eq_true, not_true_eq_false, Nat.reduceEqDiff, reduceCtorEq, cond_true, cond_false, Bool.not_true, Bool.not_false, Bool.not_not, mxA, if_true, if_false, Nat.reduceAdd, List.getElem?_cons_succ, List.getElem?_cons_zero, Option.some.injEq, exists_eq_left', eq_self, reduceIte, List.length_cons, List.length_nil, Nat.reduceLeDiff, List.all_cons, List.all_nil, List.drop_zero, List.drop_succ_cons, List.take_succ_cons, List.take_zero, List.cons_append, List.nil_append, List.append_nil, splice, List.take_nil, List.drop_nil]
  refine loop_intro (fun m A' H' => ∃ (i : Nat) (zs : List Lf), i ≤ xs.length ∧ m = xs.length - i ∧ H'.Wf ∧ Ext H0 H' ∧ H1.next ≤ H'.next ∧ zs.map (·.f) = ((xs.take i).map (·.f)).filter (fun f => standsF f k') ∧ zs.length ≤ i ∧ Acc H0 H' (A' 3) zs ∧ FmsAt H' (.slice aa xs.length cap) xs ∧ (∀ z ∈ zs, z.Fr H0.next) ∧
      (∀ a l c b, A' 3 = .slice (some a) l c → aa = some b → b.block ≠ a.block) ∧
      A' 1 = .pointer (some ⟨H.next, 0, none⟩) ∧ A' 4 = .slice aa xs.length cap ∧ A' 5 = .int .i64 i) xs.length ?_ ?_
  · refine ⟨0, [], Nat.zero_le _, by omega, hw1, hx1, Nat.le_refl _, by simp, by simp, ?_, hfm, fun z hz => (by cases hz), ?_, ?_, ?_, ?_⟩
    all_goals simp only [uxA, Nat.reduceBEq, cond_true, cond_false]
    · exact .inl ⟨rfl, rfl⟩
    · exact fun a l c b h => by cases h
    all_goals rfl
  · rintro m A' H3 ⟨k, zs, hk, rfl, hw3, hx3, hn3, hzs, hzl, hac3, hfm3, hzf, hne3, r0, s30, s32⟩
    simp only [sxA, Nat.reduceBEq, List.map_cons, List.map_nil, ne_eq, not_false_eq_true, not_true_eq_false, Nat.reduceEqDiff, reduceCtorEq, cond_true, cond_false, Bool.not_true, Bool.not_false, Bool.not_not, mxA, if_true, if_false, Nat.reduceAdd, List.getElem?_cons_succ, List.getElem?_cons_zero, Option.some.injEq, exists_eq_left', eq_self, reduceIte, List.length_cons, List.length_nil, Nat.reduceLeDiff, List.all_cons, List.all_nil, List.drop_zero, List.drop_succ_cons, List.take_succ_cons, List.take_zero, List.cons_append, List.nil_append, List.append_nil, splice, List.take_nil, List.drop_nil, r0, s30, s32]
    refine cB_cases (fun h3 => ?_) (fun h3 => ?_)
    · have h3 : k < xs.length := by have := of_decide_eq_true h3; omega
      obtain ⟨⟨a4, cap4, e4, hsl3⟩, hxa3⟩ := id hfm3
      cases e4
      obtain ⟨b1, e1', ro1, rfl, hb1⟩ := hsl3 (by omega)
      have d1 : (0 : Int) ≤ k ∧ (k : Int) < xs.length := by omega
      have d3 : (k : Int).toNat = k := by omega
      have d4 : k * 10 + 10 ≤ xs.length * 10 := by omega
      have ek : IntKind.i64.wrap ((k : Int) + 1) = ((k + 1 : Nat) : Int) := by rw [w64 (by unfold I64; omega)]; omega
      have hpk := List.getElem?_eq_getElem h3
      have dd := cellsL_at xs k _ hpk
      have nn := cellsL_length xs
      have hym : xs[k] ∈ xs := List.getElem_mem h3
      have wk := hxa3 _ hym
      have wf : (xs[k]).Fr H0.next := hxf _ hym
      have hxtk : xs.take (k + 1) = xs.take k ++ [xs[k]] := List.take_succ_eq_append_getElem h3
      generalize xs[k] = x at hpk dd hym wk wf hxtk
      have ak := lcells_all wk
      have hgk : H3.get H.next = some (.cells k'.cells T_api_Key false) := by rw [hx3.get _ (hw0.lt hg0)]; exact hg0
      simp only [sxA, Nat.reduceBEq, List.map_cons, List.map_nil, ne_eq, not_false_eq_true, not_true_eq_false, Nat.reduceEqDiff, reduceCtorEq, cond_true, cond_false, Bool.not_true, Bool.not_false, Bool.not_not, mxA, if_true, if_false, Nat.reduceAdd, List.getElem?_cons_succ, List.getElem?_cons_zero, Option.some.injEq, exists_eq_left', eq_self, reduceIte, List.length_cons, List.length_nil, Nat.reduceLeDiff, List.all_cons, List.all_nil, List.drop_zero, List.drop_succ_cons, List.take_succ_cons, List.take_zero, List.cons_append, List.nil_append, List.append_nil, splice, List.take_nil, List.drop_nil, r0, s30, s32, d1, d3, d4, hb1, nn, dd, lcells_length, lcells_take, ak, hgk, n6, t6, a6]
      refine (q_linotyperef19_Stands x k' H3 wk).thenW ?_
      rintro _ _ hn4 hw4 ⟨rfl, m4, rfl⟩
      simp only [Heap.next_up] at hn4
      have hxu : Ext H3 (H3.up m4) := (Ext.refl H3).up hn4
      have hnu : H3.next ≤ (H3.up m4).next := hxu.next
      replace hac3 := hac3.ext hw3 hxu
      replace hfm3 := hfm3.ext hw3 hxu
      replace wk := wk.ext hw3 hxu
      replace hb1 : (H3.up m4).get b1 = some (.cells (cellsL xs) e1' ro1) := by rw [Heap.get_up]; exact hb1
      replace hx3 := hx3.trans hxu
      replace hn3 := Nat.le_trans hn3 hnu
      clear hsl3 hxa3 hgk
      generalize H3.up m4 = H3' at hw4 hac3 hfm3 wk hb1 hx3 hn3
      clear hxu hnu hw3 hn4
      rename_i H3o
      revert hw4
      intro hw3
      simp only [sxA, Nat.reduceBEq, List.map_cons, List.map_nil, ne_eq, not_false_eq_true, not_true_eq_false, Nat.reduceEqDiff, reduceCtorEq, cond_true, cond_false, Bool.not_true, Bool.not_false, Bool.not_not, mxA, if_true, if_false, Nat.reduceAdd, List.getElem?_cons_succ, List.getElem?_cons_zero, Option.some.injEq, exists_eq_left', eq_self, reduceIte, List.length_cons, List.length_nil, Nat.reduceLeDiff, List.all_cons, List.all_nil, List.drop_zero, List.drop_succ_cons, List.take_succ_cons, List.take_zero, List.cons_append, List.nil_append, List.append_nil, splice, List.take_nil, List.drop_nil]
      have hfil : ((xs.take (k + 1)).map (·.f)).filter (fun f => standsF f k') = ((xs.take k).map (·.f)).filter (fun f => standsF f k') ++ bif standsF x.f k' then [x.f] else [] := by
        rw [hxtk, List.map_append, List.filter_append]
        cases hpx : standsF x.f k' <;> simp [hpx]
      cases hpx : standsF x.f k'
      · rw [hpx] at hfil
        simp only [sxA, Nat.reduceBEq, List.map_cons, List.map_nil, ne_eq, not_false_eq_true, not_true_eq_false, Nat.reduceEqDiff, reduceCtorEq, cond_true, cond_false, Bool.not_true, Bool.not_false, Bool.not_not, mxA, if_true, if_false, Nat.reduceAdd, List.getElem?_cons_succ, List.getElem?_cons_zero, Option.some.injEq, exists_eq_left', eq_self, reduceIte, List.length_cons, List.length_nil, Nat.reduceLeDiff, List.all_cons, List.all_nil, List.drop_zero, List.drop_succ_cons, List.take_succ_cons, List.take_zero, List.cons_append, List.nil_append, List.append_nil, splice, List.take_nil, List.drop_nil, s32, ek]
        refine ⟨xs.length - (k + 1), by omega, k + 1, zs, by omega, rfl, hw3, hx3, hn3, by rw [hfil, hzs]; simp, by omega, ?_, hfm3, hzf, ?_, ?_, ?_, ?_⟩
        all_goals simp only [uxA, Nat.reduceBEq, cond_true, cond_false, r0, s30]
        · exact hac3
        · exact fun a l c b h1 h2 => hne3 a l c b h1 (by rw [h2])
      · rw [hpx] at hfil
        simp only [sxA, Nat.reduceBEq, List.map_cons, List.map_nil, ne_eq, not_false_eq_true, not_true_eq_false, Nat.reduceEqDiff, reduceCtorEq, cond_true, cond_false, Bool.not_true, Bool.not_false, Bool.not_not, mxA, if_true, if_false, Nat.reduceAdd, List.getElem?_cons_succ, List.getElem?_cons_zero, Option.some.injEq, exists_eq_left', eq_self, reduceIte, List.length_cons, List.length_nil, Nat.reduceLeDiff, List.all_cons, List.all_nil, List.drop_zero, List.drop_succ_cons, List.take_succ_cons, List.take_zero, List.cons_append, List.nil_append, List.append_nil, splice, List.take_nil, List.drop_nil, s30, s32, d1, d3, d4, hb1, nn, dd, lcells_length, lcells_take, ak]
        have hx5 : Ext H3' (H3'.push (.cells x.cells T_api_Form false)) := (Ext.refl H3').push _
        have hac5 := hac3.ext hw3 hx5
        have hb5 := hfm3.ext hw3 hx5
        refine Acc.app hac5 (hx3.trans hx5) (hw3.push _) (wk.ext hw3 hx5) (by omega) (by rw [Heap.get_push, if_pos rfl]) (fun a l c hv e => ?_) fun v' H6 y1 y2 y3 y4 y5 y6 => ?_
        · rcases hac3 with ⟨h, _⟩ | ⟨b2, h, _, h3', _⟩
          · rw [h] at hv; cases hv
          · rw [h] at hv; cases hv
            have := hw3.lt h3'
            simp only at e
            omega
        · simp only [sxA, Nat.reduceBEq, List.map_cons, List.map_nil, ne_eq, not_false_eq_true, not_true_eq_false, Nat.reduceEqDiff, reduceCtorEq, cond_true, cond_false, Bool.not_true, Bool.not_false, Bool.not_not, mxA, if_true, if_false, Nat.reduceAdd, List.getElem?_cons_succ, List.getElem?_cons_zero, Option.some.injEq, exists_eq_left', eq_self, reduceIte, List.length_cons, List.length_nil, Nat.reduceLeDiff, List.all_cons, List.all_nil, List.drop_zero, List.drop_succ_cons, List.take_succ_cons, List.take_zero, List.cons_append, List.nil_append, List.append_nil, splice, List.take_nil, List.drop_nil, s32, ek]
          simp only [Heap.next_push] at y3 y5
          refine ⟨xs.length - (k + 1), by omega, k + 1, zs ++ [x], by omega, rfl, y2, y1, by omega, by rw [hfil, List.map_append, hzs]; simp, by simp; omega, ?_, y6.fms hac5 hb5 fun a l c a' l' c' ha hv => ?_, ?_, ?_, ?_, ?_, ?_⟩
          rotate_left 2
          · intro z hz
            simp only [List.mem_append, List.mem_singleton] at hz
            rcases hz with hz | rfl
            · exact hzf z hz
            · exact wf
          · intro a l c b hv hb
            cases hb
            simp only [uxA, Nat.reduceBEq, cond_true, cond_false] at hv
            have h1 := y5 a l c hv
            have h2 := hw3.lt hb1
            simp only
            omega
          rotate_right 2
          · simp only [uxA, Nat.reduceBEq, cond_true, cond_false]
            exact y4
          · cases ha
            exact hne3 _ _ _ _ hv rfl
          all_goals simp only [uxA, Nat.reduceBEq, cond_true, cond_false, r0, s30]
    · have h3 : k = xs.length := by have := of_decide_eq_false h3; omega
      subst h3
      simp only [sxA, Nat.reduceBEq, List.map_cons, List.map_nil, ne_eq, not_false_eq_true, not_true_eq_false, Nat.reduceEqDiff, reduceCtorEq, cond_true, cond_false, Bool.not_true, Bool.not_false, Bool.not_not, mxA, if_true, if_false, Nat.reduceAdd, List.getElem?_cons_succ, List.getElem?_cons_zero, Option.some.injEq, exists_eq_left', eq_self, reduceIte, List.length_cons, List.length_nil, Nat.reduceLeDiff, List.all_cons, List.all_nil, List.drop_zero, List.drop_succ_cons, List.take_succ_cons, List.take_zero, List.cons_append, List.nil_append, List.append_nil, splice, List.take_nil, List.drop_nil, ret_linotyperef19_Match]
      rw [List.take_of_length_le (Nat.le_refl _), exs] at hzs
      exact .mk (hx0.trans hx3).next ⟨hx0.trans hx3, zs, hzs, hac3.mono hx0.next, by omega, fun z hz => (hzf z hz).mono hx0.next⟩

end
end Go.Proofs.YtkoecjmmphmdeaaGreatDoor.code
/- The same opcodes, by bits and by what is left. -/
set_option linter.unusedVariables false
namespace Go.Proofs.YtkoecjmmphmdeaaGreatDoor.code
open Go.Ab

theorem andNot7 (x : BitVec 64) : x &&& ~~~(BitVec.ofInt 64 7) = (x >>> 3) <<< 3 := by
  have h7 : ∀ i : Fin 64, (BitVec.ofInt 64 7).getLsbD i.1 = decide (i.1 < 3) := by decide
  apply BitVec.eq_of_getLsbD_eq
  intro i hi
  have := h7 ⟨i, hi⟩
  simp only [BitVec.getLsbD_and, BitVec.getLsbD_not, BitVec.getLsbD_shiftLeft, BitVec.getLsbD_ushiftRight, this, hi, decide_true, Bool.true_and]
  by_cases h3 : i < 3
  · simp [h3]
  · simp [h3, show 3 + (i - 3) = i by omega]
theorem clr7_eq (c : Int) (h : I64 c) : clr7 c = c - c % 8 := by
  unfold clr7
  show IntKind.i64.wrap ((BitVec.ofInt 64 c &&& ~~~BitVec.ofInt 64 7).toNat : Nat) = _
  rw [andNot7, IntKind.wrap_i64]
  unfold I64 at h
  simp only [BitVec.toNat_shiftLeft, BitVec.toNat_ushiftRight, BitVec.toNat_ofInt, Nat.shiftLeft_eq, Nat.shiftRight_eq_div_pow]
  omega
theorem cl8_eq (c : Int) (h : I64 c) : cl8 c = c - c % 8 := by
  unfold cl8
  have h1 : (c.tmod 8 + 8).tmod 8 = c % 8 := by
    have e : c.tmod 8 = if 0 ≤ c then c % 8 else if c % 8 = 0 then 0 else c % 8 - 8 := by
      rw [Int.tmod_eq_emod]
      by_cases h0 : 0 ≤ c
      · simp [h0]
      · by_cases h3 : c % 8 = 0
        · have : (8 : Int) ∣ c := Int.dvd_of_emod_eq_zero h3
          simp [h0, h3, this]
        · have : ¬ (8 : Int) ∣ c := fun h => h3 (Int.emod_eq_zero_of_dvd h)
          simp [h0, h3, this]
    have e2 : 0 ≤ c.tmod 8 + 8 := by split at e <;> (try split at e) <;> omega
    rw [Int.tmod_eq_emod, if_pos (.inl e2)]
    split at e <;> (try split at e) <;> omega
  have h2 : IntKind.i64.wrap (c.tmod 8 + 8) = c.tmod 8 + 8 := by
    have e1 := Int.tmod_lt_of_pos c (show (0 : Int) < 8 by decide)
    have e2 : -8 < c.tmod 8 := by
      have := Int.lt_tmod_of_pos c (show (0 : Int) < 8 by decide)
      omega
    exact w64 (by unfold I64; omega)
  rw [h2, h1, w64]
  unfold I64 at *
  omega
theorem stands_may (f : Fm) (k : Ky) (h : I64 k.code) : standsF f k = mayF f k := by
  unfold standsF mayF codeF beginsF
  congr 1
  cases decide (0 ≤ idxI f.slots 4) with
  | true =>
    simp only [cond_true, clr7_eq _ h, cl8_eq _ h]
    rw [Bool.eq_iff_iff, beq_iff_eq, beq_iff_eq]
    exact ⟨Eq.symm, Eq.symm⟩
  | false =>
    simp only [cond_false]
    rw [Bool.eq_iff_iff, beq_iff_eq, beq_iff_eq]
    exact ⟨Eq.symm, Eq.symm⟩
end Go.Proofs.YtkoecjmmphmdeaaGreatDoor.code
