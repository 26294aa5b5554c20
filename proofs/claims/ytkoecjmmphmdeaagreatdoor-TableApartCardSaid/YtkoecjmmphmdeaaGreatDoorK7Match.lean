/- table.Match. -/
import Derived.Test.YtkoecjmmphmdeaaGreatDoorLibA
import Derived.Test.YtkoecjmmphmdeaaGreatDoorK5May
set_option linter.unusedVariables false
set_option linter.unusedSimpArgs false
set_option maxRecDepth 100000
namespace Go.Proofs.YtkoecjmmphmdeaaGreatDoor.code
open Go.Ab

theorem q_table_Match_1 (x : Lf) (k : Ky) (b : Nat) (H : Heap) {e : TypeId} {ro : Bool} (hb : H.get b = some (.cells k.cells e ro)) (hx : x.At H) : CallQ prog f_table_Match_1 [.agg x.cells.toArray, .pointer (some ⟨b, 0, none⟩)] H fun u H' => u = .bool (mayF x.f k) ∧ ∃ m, H' = H.up m := by
  refine in_table_Match_1 fun hw => ?_
  have hbl := hw.lt hb
  have hne : ¬ b = H.next := by omega
  have ak := lcells_all hx
  have n6 : k.cells.length = 6 := rfl
  have t6 : List.take 6 k.cells = k.cells := rfl
  have a6 : (k.cells.all fun v => v.oneCell') = true := rfl
  simp only [pc_table_Match_1, sxA, Nat.reduceBEq, List.map_cons, List.map_nil, ne_eq, not_false_eq_true, not_true_eq_false, Nat.reduceEqDiff, reduceCtorEq, cond_true, cond_false, Bool.not_true, Bool.not_false, Bool.not_not, mxA, if_true, if_false, Nat.reduceAdd, List.getElem?_cons_succ, List.getElem?_cons_zero, Option.some.injEq, exists_eq_left', eq_self, reduceIte, List.length_cons, List.length_nil, Nat.reduceLeDiff, List.all_cons, List.all_nil, List.drop_zero, List.drop_succ_cons, List.take_succ_cons, List.take_zero, List.cons_append, List.nil_append, List.append_nil, splice, List.take_nil, List.drop_nil, hne, hb, lcells_length, lcells_take, ak, n6, t6, a6]
  refine (q_table_may x k _ (hx.ext hw ((Ext.refl H).push _))).thenW ?_
  rintro _ _ hn hw2 ⟨rfl, m, rfl⟩
  simp only [sxA, Nat.reduceBEq, List.map_cons, List.map_nil, ne_eq, not_false_eq_true, not_true_eq_false, Nat.reduceEqDiff, reduceCtorEq, cond_true, cond_false, Bool.not_true, Bool.not_false, Bool.not_not, mxA, if_true, if_false, Nat.reduceAdd, List.getElem?_cons_succ, List.getElem?_cons_zero, Option.some.injEq, exists_eq_left', eq_self, reduceIte, List.length_cons, List.length_nil, Nat.reduceLeDiff, List.all_cons, List.all_nil, List.drop_zero, List.drop_succ_cons, List.take_succ_cons, List.take_zero, List.cons_append, List.nil_append, List.append_nil, splice, List.take_nil, List.drop_nil, ret_table_Match_1]
  simp only [Heap.next_up, Heap.next_push] at hn
  exact .ext hw (((Ext.refl H).push _).up (by simp only [Heap.next_push]; exact hn)) ⟨rfl, _, rfl⟩

section
variable {T : Heap → Prop} (hT : ∀ H H', H.Wf → T H → Ext H H' → T H') (LL : FuncId → List Fm) (hL : ∀ x ∈ lis, Tells T x.2.2 (LL x.2.2))
include hT hL
theorem q_table_Match (k : Ky) (H : Heap) (ht : T H) : CallQ prog f_table_Match [.agg k.cells.toArray] H fun u H' => Told H H' u (colF LL 1 322 (fun f => mayF f k) lis) := by
  refine in_table_Match fun hw => ?_
  have ek : (Value.agg k.cells.toArray).cells.toList = k.cells := rfl
  simp only [pc_table_Match, sxA, Nat.reduceBEq, List.map_cons, List.map_nil, ne_eq, not_false_eq_true, not_true_eq_false, Nat.reduceEqDiff, reduceCtorEq, cond_true, cond_false, Bool.not_true, Bool.not_false, Bool.not_not, mxA, if_true, if_false, Nat.reduceAdd, List.getElem?_cons_succ, List.getElem?_cons_zero, Option.some.injEq, exists_eq_left', eq_self, reduceIte, List.length_cons, List.length_nil, Nat.reduceLeDiff, List.all_cons, List.all_nil, List.drop_zero, List.drop_succ_cons, List.take_succ_cons, List.take_zero, List.cons_append, List.nil_append, List.append_nil, splice, List.take_nil, List.drop_nil, Zdt, ek]
  have hx0 : Ext H (H.push (.cells k.cells T_api_Key false)) := (Ext.refl H).push _
  have hg0 : (H.push (.cells k.cells T_api_Key false)).get H.next = some (.cells k.cells T_api_Key false) := by rw [Heap.get_push, if_pos rfl]
  have hw0 := hw.push (.cells k.cells T_api_Key false)
  generalize H.push (.cells k.cells T_api_Key false) = H1 at hx0 hg0 hw0
  refine (q_table_collect hT LL hL 1 322 (.func (.func f_table_Match_1) #[] [.pointer (some ⟨H.next, 0, none⟩)].toArray) (fun f => mayF f k) H1 ⟨f_table_Match_1, [.pointer (some ⟨H.next, 0, none⟩)], rfl, fun x H' hx ha => q_table_Match_1 x k H.next H' (e := T_api_Key) (ro := false) (by rw [hx.get _ (hw0.lt hg0)]; exact hg0) ha⟩ (hT _ _ hw ht hx0)).thenW ?_
  rintro u H' hn hw' ⟨hx, ys, h1, h2, h3, h4⟩
  simp only [sxA, Nat.reduceBEq, List.map_cons, List.map_nil, ne_eq, not_false_eq_true, not_true_eq_false, Nat.reduceEqDiff, reduceCtorEq, cond_true, cond_false, Bool.not_true, Bool.not_false, Bool.not_not, mxA, if_true, if_false, Nat.reduceAdd, List.getElem?_cons_succ, List.getElem?_cons_zero, Option.some.injEq, exists_eq_left', eq_self, reduceIte, List.length_cons, List.length_nil, Nat.reduceLeDiff, List.all_cons, List.all_nil, List.drop_zero, List.drop_succ_cons, List.take_succ_cons, List.take_zero, List.cons_append, List.nil_append, List.append_nil, splice, List.take_nil, List.drop_nil, ret_table_Match]
  exact .mk (hx0.trans hx).next ⟨hx0.trans hx, ys, h1, h2.mono hx0.next, h3, fun y hy => (h4 y hy).mono hx0.next⟩
end
end Go.Proofs.YtkoecjmmphmdeaaGreatDoor.code
