/- Whether a form may stand for a key. -/
import Derived.Test.YtkoecjmmphmdeaaGreatDoorLibA
set_option linter.unusedVariables false
set_option linter.unusedSimpArgs false
set_option maxRecDepth 100000
namespace Go.Proofs.YtkoecjmmphmdeaaGreatDoor.code
open Go.Ab

def clr7 (c : Int) : Int := IntKind.i64.wrap (BitVec.ofInt IntKind.i64.bits c &&& ~~~BitVec.ofInt IntKind.i64.bits 7).toNat
def beginsF (f : Fm) (c : Int) : Int := bif decide (0 ≤ idxI f.slots 4) then clr7 c else c

theorem q_table_begins (x : Lf) (c : Int) (H : Heap) (hx : x.At H) : CallQ prog f_table_begins [.agg x.cells.toArray, .int .i64 c] H fun u H' => u = .int .i64 (beginsF x.f c) ∧ ∃ m, H' = H.up m := by
  refine in_table_begins fun hw => ?_
  have ha := lcells_all hx
  simp only [pc_table_begins, lcells_length, lcells_take, sxA, Nat.reduceBEq, List.map_cons, List.map_nil, ne_eq, not_false_eq_true, not_true_eq_false, Nat.reduceEqDiff, reduceCtorEq, cond_true, cond_false, Bool.not_true, Bool.not_false, Bool.not_not, mxA, if_true, if_false, Nat.reduceAdd, List.getElem?_cons_succ, List.getElem?_cons_zero, Option.some.injEq, exists_eq_left', eq_self, reduceIte, List.length_cons, List.length_nil, Nat.reduceLeDiff, List.all_cons, List.all_nil, List.drop_zero, List.drop_succ_cons, List.take_succ_cons, List.take_zero, List.cons_append, List.nil_append, List.append_nil, splice, List.take_nil, List.drop_nil]
  refine (q_shape_Slot x 4 _ (hx.ext hw ((Ext.refl H).push _))).thenW ?_
  rintro _ _ hn hw2 ⟨rfl, m, rfl⟩
  simp only [Heap.next_up, Heap.next_push] at hn
  have hx2 : Ext H ((H.push (.cells x.cells T_api_Form false)).up m) := ((Ext.refl H).push _).up (by simp only [Heap.next_push]; exact hn)
  simp only [sxA, Nat.reduceBEq, List.map_cons, List.map_nil, ne_eq, not_false_eq_true, not_true_eq_false, Nat.reduceEqDiff, reduceCtorEq, cond_true, cond_false, Bool.not_true, Bool.not_false, Bool.not_not, mxA, if_true, if_false, Nat.reduceAdd, List.getElem?_cons_succ, List.getElem?_cons_zero, Option.some.injEq, exists_eq_left', eq_self, reduceIte, List.length_cons, List.length_nil, Nat.reduceLeDiff, List.all_cons, List.all_nil, List.drop_zero, List.drop_succ_cons, List.take_succ_cons, List.take_zero, List.cons_append, List.nil_append, List.append_nil, splice, List.take_nil, List.drop_nil]
  cases h0 : decide (0 ≤ idxI x.f.slots 4) with
  | true =>
    simp only [sxA, Nat.reduceBEq, List.map_cons, List.map_nil, ne_eq, not_false_eq_true, not_true_eq_false, Nat.reduceEqDiff, reduceCtorEq, cond_true, cond_false, Bool.not_true, Bool.not_false, Bool.not_not, mxA, if_true, if_false, Nat.reduceAdd, List.getElem?_cons_succ, List.getElem?_cons_zero, Option.some.injEq, exists_eq_left', eq_self, reduceIte, List.length_cons, List.length_nil, Nat.reduceLeDiff, List.all_cons, List.all_nil, List.drop_zero, List.drop_succ_cons, List.take_succ_cons, List.take_zero, List.cons_append, List.nil_append, List.append_nil, splice, List.take_nil, List.drop_nil, ret_table_begins]
    exact .ext hw hx2 ⟨by rw [beginsF, h0]; rfl, _, rfl⟩
  | false =>
    simp only [sxA, Nat.reduceBEq, List.map_cons, List.map_nil, ne_eq, not_false_eq_true, not_true_eq_false, Nat.reduceEqDiff, reduceCtorEq, cond_true, cond_false, Bool.not_true, Bool.not_false, Bool.not_not, mxA, if_true, if_false, Nat.reduceAdd, List.getElem?_cons_succ, List.getElem?_cons_zero, Option.some.injEq, exists_eq_left', eq_self, reduceIte, List.length_cons, List.length_nil, Nat.reduceLeDiff, List.all_cons, List.all_nil, List.drop_zero, List.drop_succ_cons, List.take_succ_cons, List.take_zero, List.cons_append, List.nil_append, List.append_nil, splice, List.take_nil, List.drop_nil, ret_table_begins]
    exact .ext hw hx2 ⟨by rw [beginsF, h0]; rfl, _, rfl⟩

structure Ky where
  vex : Bool
  pre : Int
  w : Int
  l : Int
  map : Int
  code : Int
def Ky.cells (k : Ky) : List Value := [.bool k.vex, .int .i64 k.pre, .int .i64 k.w, .int .i64 k.l, .int .i64 k.map, .int .i64 k.code]
def mayF (f : Fm) (k : Ky) : Bool := (f.vex == k.vex) && (f.pre == k.pre) && (f.map == k.map) && (f.l == k.l) && ((f.w == -1) || (f.w == k.w)) && (f.code == beginsF f k.code)

theorem q_table_may (x : Lf) (k : Ky) (H : Heap) (hx : x.At H) : CallQ prog f_table_may [.agg x.cells.toArray, .agg k.cells.toArray] H fun u H' => u = .bool (mayF x.f k) ∧ ∃ m, H' = H.up m := by
  refine in_table_may fun hw => ?_
  obtain ⟨q1, h1⟩ : ∃ c, (x.f.vex == k.vex) = c := ⟨_, rfl⟩
  obtain ⟨q2, h2⟩ : ∃ c, (x.f.pre == k.pre) = c := ⟨_, rfl⟩
  obtain ⟨q3, h3⟩ : ∃ c, (x.f.map == k.map) = c := ⟨_, rfl⟩
  obtain ⟨q4, h4⟩ : ∃ c, (x.f.l == k.l) = c := ⟨_, rfl⟩
  obtain ⟨q5, h5⟩ : ∃ c, (x.f.w == -1) = c := ⟨_, rfl⟩
  obtain ⟨q6, h6⟩ : ∃ c, (x.f.w == k.w) = c := ⟨_, rfl⟩
  obtain ⟨q7, h7⟩ : ∃ c, (x.f.code == beginsF x.f k.code) = c := ⟨_, rfl⟩
  have hm : mayF x.f k = (q1 && q2 && q3 && q4 && (q5 || q6) && q7) := by simp only [mayF, h1, h2, h3, h4, h5, h6, h7]
  rw [hm]
  have hxx : ∀ b c, Ext H ((H.push b).push c) := fun b c => ((Ext.refl H).push b).push c
  have ha := lcells_all hx
  have hx2 := hx.ext hw (hxx (.cells x.cells T_api_Form false) (.cells k.cells T_api_Key false))
  obtain ⟨xf, xs, xt⟩ := x
  obtain ⟨a1, c1, e1, _⟩ := id hx.2.2.1
  obtain ⟨a2, c2, e2, _⟩ := id hx.2.2.2
  replace e1 : xs = .slice a1 xf.shapes.length c1 := e1
  replace e2 : xt = .slice a2 xf.slots.length c2 := e2
  subst e1
  subst e2
  simp only at h1 h2 h3 h4 h5 h6 h7
  have fin : ∀ (q : Bool) (K : Value → Heap → Prop), (∀ H', K (.int .i64 (beginsF xf k.code)) H') → True := fun _ _ _ => trivial
  simp only [Lf.cells, Ky.cells] at hx2
  simp only [Lf.cells, Ky.cells, pc_table_may, sxA, Nat.reduceBEq, List.map_cons, List.map_nil, ne_eq, not_false_eq_true, not_true_eq_false, Nat.reduceEqDiff, reduceCtorEq, cond_true, cond_false, Bool.not_true, Bool.not_false, Bool.not_not, mxA, if_true, if_false, Nat.reduceAdd, List.getElem?_cons_succ, List.getElem?_cons_zero, Option.some.injEq, exists_eq_left', eq_self, reduceIte, List.length_cons, List.length_nil, Nat.reduceLeDiff, List.all_cons, List.all_nil, List.drop_zero, List.drop_succ_cons, List.take_succ_cons, List.take_zero, List.cons_append, List.nil_append, List.append_nil, splice, List.take_nil, List.drop_nil, h1]
  cases q1 <;> simp only [sxA, Nat.reduceBEq, List.map_cons, List.map_nil, ne_eq, not_false_eq_true, not_true_eq_false, Nat.reduceEqDiff, reduceCtorEq, cond_true, cond_false, Bool.not_true, Bool.not_false, Bool.not_not, mxA, if_true, if_false, Nat.reduceAdd, List.getElem?_cons_succ, List.getElem?_cons_zero, Option.some.injEq, exists_eq_left', eq_self, reduceIte, List.length_cons, List.length_nil, Nat.reduceLeDiff, List.all_cons, List.all_nil, List.drop_zero, List.drop_succ_cons, List.take_succ_cons, List.take_zero, List.cons_append, List.nil_append, List.append_nil, splice, List.take_nil, List.drop_nil, h2, ret_table_may]
  · exact .ext hw (hxx _ _) ⟨rfl, _, rfl⟩
  cases q2 <;> simp only [sxA, Nat.reduceBEq, List.map_cons, List.map_nil, ne_eq, not_false_eq_true, not_true_eq_false, Nat.reduceEqDiff, reduceCtorEq, cond_true, cond_false, Bool.not_true, Bool.not_false, Bool.not_not, mxA, if_true, if_false, Nat.reduceAdd, List.getElem?_cons_succ, List.getElem?_cons_zero, Option.some.injEq, exists_eq_left', eq_self, reduceIte, List.length_cons, List.length_nil, Nat.reduceLeDiff, List.all_cons, List.all_nil, List.drop_zero, List.drop_succ_cons, List.take_succ_cons, List.take_zero, List.cons_append, List.nil_append, List.append_nil, splice, List.take_nil, List.drop_nil, h3, ret_table_may]
  · exact .ext hw (hxx _ _) ⟨rfl, _, rfl⟩
  cases q3 <;> simp only [sxA, Nat.reduceBEq, List.map_cons, List.map_nil, ne_eq, not_false_eq_true, not_true_eq_false, Nat.reduceEqDiff, reduceCtorEq, cond_true, cond_false, Bool.not_true, Bool.not_false, Bool.not_not, mxA, if_true, if_false, Nat.reduceAdd, List.getElem?_cons_succ, List.getElem?_cons_zero, Option.some.injEq, exists_eq_left', eq_self, reduceIte, List.length_cons, List.length_nil, Nat.reduceLeDiff, List.all_cons, List.all_nil, List.drop_zero, List.drop_succ_cons, List.take_succ_cons, List.take_zero, List.cons_append, List.nil_append, List.append_nil, splice, List.take_nil, List.drop_nil, h4, ret_table_may]
  · exact .ext hw (hxx _ _) ⟨rfl, _, rfl⟩
  cases q4 <;> simp only [sxA, Nat.reduceBEq, List.map_cons, List.map_nil, ne_eq, not_false_eq_true, not_true_eq_false, Nat.reduceEqDiff, reduceCtorEq, cond_true, cond_false, Bool.not_true, Bool.not_false, Bool.not_not, mxA, if_true, if_false, Nat.reduceAdd, List.getElem?_cons_succ, List.getElem?_cons_zero, Option.some.injEq, exists_eq_left', eq_self, reduceIte, List.length_cons, List.length_nil, Nat.reduceLeDiff, List.all_cons, List.all_nil, List.drop_zero, List.drop_succ_cons, List.take_succ_cons, List.take_zero, List.cons_append, List.nil_append, List.append_nil, splice, List.take_nil, List.drop_nil, h5, ret_table_may]
  · exact .ext hw (hxx _ _) ⟨rfl, _, rfl⟩
  cases q5 <;> simp only [sxA, Nat.reduceBEq, List.map_cons, List.map_nil, ne_eq, not_false_eq_true, not_true_eq_false, Nat.reduceEqDiff, reduceCtorEq, cond_true, cond_false, Bool.not_true, Bool.not_false, Bool.not_not, mxA, if_true, if_false, Nat.reduceAdd, List.getElem?_cons_succ, List.getElem?_cons_zero, Option.some.injEq, exists_eq_left', eq_self, reduceIte, List.length_cons, List.length_nil, Nat.reduceLeDiff, List.all_cons, List.all_nil, List.drop_zero, List.drop_succ_cons, List.take_succ_cons, List.take_zero, List.cons_append, List.nil_append, List.append_nil, splice, List.take_nil, List.drop_nil, h6, ret_table_may]
  · cases q6 <;> simp only [sxA, Nat.reduceBEq, List.map_cons, List.map_nil, ne_eq, not_false_eq_true, not_true_eq_false, Nat.reduceEqDiff, reduceCtorEq, cond_true, cond_false, Bool.not_true, Bool.not_false, Bool.not_not, mxA, if_true, if_false, Nat.reduceAdd, List.getElem?_cons_succ, List.getElem?_cons_zero, Option.some.injEq, exists_eq_left', eq_self, reduceIte, List.length_cons, List.length_nil, Nat.reduceLeDiff, List.all_cons, List.all_nil, List.drop_zero, List.drop_succ_cons, List.take_succ_cons, List.take_zero, List.cons_append, List.nil_append, List.append_nil, splice, List.take_nil, List.drop_nil, ret_table_may]
    · exact .ext hw (hxx _ _) ⟨rfl, _, rfl⟩
    · refine ⟨rfl, (q_table_begins ⟨xf, _, _⟩ k.code _ hx2).thenW ?_⟩
      rintro _ _ hn hw2 ⟨rfl, m, rfl⟩
      simp only [Heap.next_up, Heap.next_push] at hn
      simp only [sxA, Nat.reduceBEq, List.map_cons, List.map_nil, ne_eq, not_false_eq_true, not_true_eq_false, Nat.reduceEqDiff, reduceCtorEq, cond_true, cond_false, Bool.not_true, Bool.not_false, Bool.not_not, mxA, if_true, if_false, Nat.reduceAdd, List.getElem?_cons_succ, List.getElem?_cons_zero, Option.some.injEq, exists_eq_left', eq_self, reduceIte, List.length_cons, List.length_nil, Nat.reduceLeDiff, List.all_cons, List.all_nil, List.drop_zero, List.drop_succ_cons, List.take_succ_cons, List.take_zero, List.cons_append, List.nil_append, List.append_nil, splice, List.take_nil, List.drop_nil, h7, ret_table_may]
      exact ⟨fun _ _ => rfl, .ext hw ((hxx _ _).up (by simp only [Heap.next_push]; exact hn)) ⟨by simp, _, rfl⟩⟩
  · refine ⟨rfl, (q_table_begins ⟨xf, _, _⟩ k.code _ hx2).thenW ?_⟩
    rintro _ _ hn hw2 ⟨rfl, m, rfl⟩
    simp only [Heap.next_up, Heap.next_push] at hn
    simp only [sxA, Nat.reduceBEq, List.map_cons, List.map_nil, ne_eq, not_false_eq_true, not_true_eq_false, Nat.reduceEqDiff, reduceCtorEq, cond_true, cond_false, Bool.not_true, Bool.not_false, Bool.not_not, mxA, if_true, if_false, Nat.reduceAdd, List.getElem?_cons_succ, List.getElem?_cons_zero, Option.some.injEq, exists_eq_left', eq_self, reduceIte, List.length_cons, List.length_nil, Nat.reduceLeDiff, List.all_cons, List.all_nil, List.drop_zero, List.drop_succ_cons, List.take_succ_cons, List.take_zero, List.cons_append, List.nil_append, List.append_nil, splice, List.take_nil, List.drop_nil, h7, ret_table_may]
    exact ⟨fun _ _ => rfl, .ext hw ((hxx _ _).up (by simp only [Heap.next_push]; exact hn)) ⟨by simp, _, rfl⟩⟩
end Go.Proofs.YtkoecjmmphmdeaaGreatDoor.code
/- table.Match. -/
set_option linter.unusedVariables false
set_option linter.unusedSimpArgs false
set_option maxRecDepth 100000
namespace Go.Proofs.YtkoecjmmphmdeaaGreatDoor.code
open Go.Ab

theorem q_table_Match_1 (x : Lf) (k : Ky) (b : Nat) (H : Heap) {e : TypeId} {ro : Bool} (hb : H.get b = some (.cells k.cells e ro)) (hx : x.At H) : CallQ prog f_table_Match_1 [.agg x.cells.toArray, .pointer (some ⟨b, 0, none⟩)] H fun u H' => u = .bool (mayF x.f k) ∧ ∃ m, H' = H.up m := by
  refine in_table_Match_1 fun hw => ?_
  have hbl := hw.lt hb
  have hne : ¬ b = H.next := by omega
  have ak := lcells_all hx
  have n6 : k.cells.length = 6 := rfl
  have t6 : List.take 6 k.cells = k.cells := rfl
  have a6 : (k.cells.all fun v => v.oneCell') = true := rfl
  simp only [pc_table_Match_1, sxA, Nat.reduceBEq, List.map_cons, List.map_nil, ne_eq, not_false_eq_true, not_true_eq_false, Nat.reduceEqDiff, reduceCtorEq, cond_true, cond_false, Bool.not_true, Bool.not_false, Bool.not_not, mxA, if_true, if_false, Nat.reduceAdd, List.getElem?_cons_succ, List.getElem?_cons_zero, Option.some.injEq, exists_eq_left', eq_self, reduceIte, List.length_cons, List.length_nil, Nat.reduceLeDiff, List.all_cons, List.all_nil, List.drop_zero, List.drop_succ_cons, List.take_succ_cons, List.take_zero, List.cons_append, List.nil_append, List.append_nil, splice, List.take_nil, List.drop_nil, hne, hb, lcells_length, lcells_take, ak, n6, t6, a6]
  refine (q_table_may x k _ (hx.ext hw ((Ext.refl H).push _))).thenW ?_
  rintro _ _ hn hw2 ⟨rfl, m, rfl⟩
  simp only [sxA, Nat.reduceBEq, List.map_cons, List.map_nil, ne_eq, not_false_eq_true, not_true_eq_false, Nat.reduceEqDiff, reduceCtorEq, cond_true, cond_false, Bool.not_true, Bool.not_false, Bool.not_not, mxA, if_true, if_false, Nat.reduceAdd, List.getElem?_cons_succ, List.getElem?_cons_zero, Option.some.injEq, exists_eq_left', eq_self, reduceIte, List.length_cons, List.length_nil, Nat.reduceLeDiff, List.all_cons, List.all_nil, List.drop_zero, List.drop_succ_cons, List.take_succ_cons, List.take_zero, List.cons_append, List.nil_append, List.append_nil, splice, List.take_nil, List.drop_nil, ret_table_Match_1]
  simp only [Heap.next_up, Heap.next_push] at hn
  exact .ext hw (((Ext.refl H).push _).up (by simp only [Heap.next_push]; exact hn)) ⟨rfl, _, rfl⟩

section
variable {T : Heap → Prop} (hT : ∀ H H', H.Wf → T H → Ext H H' → T H') (LL : FuncId → List Fm) (hL : ∀ x ∈ lis, Tells T x.2.2 (LL x.2.2))
include hT hL
theorem q_table_Match (k : Ky) (H : Heap) (ht : T H) : CallQ prog f_table_Match [.agg k.cells.toArray] H fun u H' => Told H H' u (colF LL 1 322 (fun f => mayF f k) lis) := by
  refine in_table_Match fun hw => ?_
  have ek : (Value.agg k.cells.toArray).cells.toList = k.cells := rfl
  simp only [pc_table_Match, sxA, Nat.reduceBEq, List.map_cons, List.map_nil, ne_eq, not_false_eq_true, not_true_eq_false, Nat.reduceEqDiff, reduceCtorEq, cond_true, cond_false, Bool.not_true, Bool.not_false, Bool.not_not, mxA, if_true, if_false, Nat.reduceAdd, List.getElem?_cons_succ, List.getElem?_cons_zero, Option.some.injEq, exists_eq_left', eq_self, reduceIte, List.length_cons, List.length_nil, Nat.reduceLeDiff, List.all_cons, List.all_nil, List.drop_zero, List.drop_succ_cons, List.take_succ_cons, List.take_zero, List.cons_append, List.nil_append, List.append_nil, splice, List.take_nil, List.drop_nil, Zdt, ek]
  have hx0 : Ext H (H.push (.cells k.cells T_api_Key false)) := (Ext.refl H).push _
  have hg0 : (H.push (.cells k.cells T_api_Key false)).get H.next = some (.cells k.cells T_api_Key false) := by rw [Heap.get_push, if_pos rfl]
  have hw0 := hw.push (.cells k.cells T_api_Key false)
  generalize H.push (.cells k.cells T_api_Key false) = H1 at hx0 hg0 hw0
  refine (q_table_collect hT LL hL 1 322 (.func (.func f_table_Match_1) #[] [.pointer (some ⟨H.next, 0, none⟩)].toArray) (fun f => mayF f k) H1 ⟨f_table_Match_1, [.pointer (some ⟨H.next, 0, none⟩)], rfl, fun x H' hx ha => q_table_Match_1 x k H.next H' (e := T_api_Key) (ro := false) (by rw [hx.get _ (hw0.lt hg0)]; exact hg0) ha⟩ (hT _ _ hw ht hx0)).thenW ?_
  rintro u H' hn hw' ⟨hx, ys, h1, h2, h3, h4⟩
  simp only [sxA, Nat.reduceBEq, List.map_cons, List.map_nil, ne_eq, not_false_eq_true, not_true_eq_false, Nat.reduceEqDiff, reduceCtorEq, cond_true, cond_false, Bool.not_true, Bool.not_false, Bool.not_not, mxA, if_true, if_false, Nat.reduceAdd, List.getElem?_cons_succ, List.getElem?_cons_zero, Option.some.injEq, exists_eq_left', eq_self, reduceIte, List.length_cons, List.length_nil, Nat.reduceLeDiff, List.all_cons, List.all_nil, List.drop_zero, List.drop_succ_cons, List.take_succ_cons, List.take_zero, List.cons_append, List.nil_append, List.append_nil, splice, List.take_nil, List.drop_nil, ret_table_Match]
  exact .mk (hx0.trans hx).next ⟨hx0.trans hx, ys, h1, h2.mono hx0.next, h3, fun y hy => (h4 y hy).mono hx0.next⟩
end
end Go.Proofs.YtkoecjmmphmdeaaGreatDoor.code
/- table.Match as a known call. -/
set_option linter.unusedVariables false
set_option linter.unusedSimpArgs false
set_option maxRecDepth 100000
namespace Go.Proofs.YtkoecjmmphmdeaaGreatDoor.code
open Go.Ab

noncomputable def keyOf (v : Value) : Option Ky := match v with
  | .agg xs => match xs.toList with
    | [.bool a, .int .i64 b, .int .i64 c, .int .i64 d, .int .i64 e, .int .i64 f] => some ⟨a, b, c, d, e, f⟩
    | _ => none
  | _ => none
theorem keyOf_eq {v : Value} {k : Ky} (h : keyOf v = some k) : v = .agg k.cells.toArray := by
  unfold keyOf at h
  split at h
  · rename_i xs
    split at h
    · rename_i hx
      cases h
      show Value.agg xs = .agg _
      rw [show xs = xs.toList.toArray from rfl, hx]
      rfl
    · cases h
  · cases h

theorem mt_key (σ : Nat → Option Nat) (k : Ky) : mtV σ 6 (.agg k.cells.toArray) (.agg k.cells.toArray) = true := by
  show beqL (mtV σ 5) k.cells k.cells = true
  simp only [Ky.cells, beqL, mt_int, mt_bool, Bool.and_self]

noncomputable def mknown (tabs : List Tab) (LL : FuncId → List Fm) : CallF := fun f args H =>
  bif Nat.beq f f_table_Match then (match args with | [v] => (match keyOf v with | some k => picKn tabs (colF LL 1 322 (fun x => mayF x k) lis) H | none => none) | _ => none) else none
theorem mknown_ok {tabs : List Tab} (ht : tabsOk tabs = true) (htab : ∀ t ∈ tabs, t.id < prog.globals.size) (hwf : (tabHeap prog.globals.size tabs).Wf) (htt : TabT tabs (tabHeap prog.globals.size tabs)) (LL : FuncId → List Fm) (hL : ∀ x ∈ lis, Tells (TabT tabs) x.2.2 (LL x.2.2))
    (e3 : entered prog f_table_Match = true) : CallOk prog (mknown tabs LL) := by
  intro f args H v H' h
  unfold mknown at h
  cases b3 : Nat.beq f f_table_Match with
  | true =>
    rw [b3, cond_true] at h
    have := Nat.eq_of_beq_eq_true b3
    subst this
    split at h
    · split at h
      · rename_i k hk
        have := keyOf_eq hk
        subst this
        exact picKn_ok ht htab hwf htt e3 (by simp only [beqL, mt_key, Bool.and_self]) (fun H hT => q_table_Match tabT_ext LL hL _ H hT) h
      · cases h
    · cases h
  | false => rw [b3, cond_false] at h; cases h
end Go.Proofs.YtkoecjmmphmdeaaGreatDoor.code
/- linotypekit.SameInts. -/
set_option linter.unusedVariables false
set_option linter.unusedSimpArgs false
set_option maxRecDepth 100000
namespace Go.Proofs.YtkoecjmmphmdeaaGreatDoor.code
open Go.Ab

theorem q_linotypekit_SameInts (va vb : Value) (xs ys : List Int) (H : Heap) (ha : IsSl H va xs.length (ints xs)) (hb : IsSl H vb ys.length (ints ys)) (hlx : xs.length ≤ 1000000) (hly : ys.length ≤ 1000000) : CallQ prog f_linotypekit_SameInts [va, vb] H fun u H' => u = .bool (decide (xs = ys)) ∧ H' = H := by
  refine in_linotypekit_SameInts fun hw => ?_
  obtain ⟨aa, acap, rfl, hsa⟩ := ha
  obtain ⟨ba, bcap, rfl, hsb⟩ := hb
  simp only [pc_linotypekit_SameInts, sxA, Nat.reduceBEq, List.map_cons, List.map_nil, ne_eq, not_false_eq_true, not_true_eq_false, Nat.reduceEqDiff, reduceCtorEq, cond_true, cond_false, Bool.not_true, Bool.not_false, Bool.not_not, mxA, if_true, if_false, Nat.reduceAdd, List.getElem?_cons_succ, List.getElem?_cons_zero, Option.some.injEq, exists_eq_left', eq_self, reduceIte, List.length_cons, List.length_nil, Nat.reduceLeDiff, List.all_cons, List.all_nil, List.drop_zero, List.drop_succ_cons, List.take_succ_cons, List.take_zero, List.cons_append, List.nil_append, List.append_nil, splice, List.take_nil, List.drop_nil]
  by_cases hne : xs.length = ys.length
  · have e0 : ((xs.length : Int) == (ys.length : Int)) = true := by simp [hne]
    simp only [e0, sxA, Nat.reduceBEq, List.map_cons, List.map_nil, ne_eq, not_false_eq_true, not_true_eq_false, Nat.reduceEqDiff, reduceCtorEq, cond_true, cond_false, Bool.not_true, Bool.not_false, Bool.not_not, mxA, if_true, if_false, Nat.reduceAdd, List.getElem?_cons_succ, List.getElem?_cons_zero, Option.some.injEq, exists_eq_left', eq_self, reduceIte, List.length_cons, List.length_nil, Nat.reduceLeDiff, List.all_cons, List.all_nil, List.drop_zero, List.drop_succ_cons, List.take_succ_cons, List.take_zero, List.cons_append, List.nil_append, List.append_nil, splice, List.take_nil, List.drop_nil]
    refine loop_intro (fun m A' H' => ∃ i : Nat, i ≤ xs.length ∧ m = xs.length - i ∧ H' = H ∧ (∀ j, j < i → xs.getD j 0 = ys.getD j 0) ∧ A' 0 = .slice aa xs.length acap ∧ A' 1 = .slice ba ys.length bcap ∧ A' 5 = .int .i64 i) xs.length ?_ ?_
    · refine ⟨0, Nat.zero_le _, by omega, rfl, fun j h => by omega, ?_, ?_, ?_⟩
      all_goals simp only [uxA, Nat.reduceBEq, cond_true, cond_false]
      rfl
    · rintro m A' H' ⟨i, hi, rfl, hEq, hall, r0, r1, r5⟩
      subst hEq
      simp only [sxA, Nat.reduceBEq, List.map_cons, List.map_nil, ne_eq, not_false_eq_true, not_true_eq_false, Nat.reduceEqDiff, reduceCtorEq, cond_true, cond_false, Bool.not_true, Bool.not_false, Bool.not_not, mxA, if_true, if_false, Nat.reduceAdd, List.getElem?_cons_succ, List.getElem?_cons_zero, Option.some.injEq, exists_eq_left', eq_self, reduceIte, List.length_cons, List.length_nil, Nat.reduceLeDiff, List.all_cons, List.all_nil, List.drop_zero, List.drop_succ_cons, List.take_succ_cons, List.take_zero, List.cons_append, List.nil_append, List.append_nil, splice, List.take_nil, List.drop_nil, r0, r1, r5]
      refine cB_cases (fun h2 => ?_) (fun h2 => ?_)
      · have h2 : i < xs.length := by have := of_decide_eq_true h2; omega
        obtain ⟨b1, e1, ro1, rfl, hb1⟩ := hsa (by omega)
        obtain ⟨b2, e2, ro2, rfl, hb2⟩ := hsb (by omega)
        have c1 : (0 : Int) ≤ i ∧ (i : Int) < xs.length := by omega
        have c2 : (0 : Int) ≤ i ∧ (i : Int) < ys.length := by omega
        have c3 : (i : Int).toNat = i := by omega
        have ei : IntKind.i64.wrap ((i : Int) + 1) = ((i + 1 : Nat) : Int) := by rw [w64 (by unfold I64; omega)]; omega
        have g1 := ints_get (l := xs) (i := i) (by omega)
        have g2 := ints_get (l := ys) (i := i) (by omega)
        simp only [sxA, Nat.reduceBEq, List.map_cons, List.map_nil, ne_eq, not_false_eq_true, not_true_eq_false, Nat.reduceEqDiff, reduceCtorEq, cond_true, cond_false, Bool.not_true, Bool.not_false, Bool.not_not, mxA, if_true, if_false, Nat.reduceAdd, List.getElem?_cons_succ, List.getElem?_cons_zero, Option.some.injEq, exists_eq_left', eq_self, reduceIte, List.length_cons, List.length_nil, Nat.reduceLeDiff, List.all_cons, List.all_nil, List.drop_zero, List.drop_succ_cons, List.take_succ_cons, List.take_zero, List.cons_append, List.nil_append, List.append_nil, splice, List.take_nil, List.drop_nil, r0, r1, r5, c1, c2, c3, hb1, hb2, g1, g2]
        refine cB_cases (fun h3 => ?_) (fun h3 => ?_)
        · have h3 : ¬ xs.getD i 0 = ys.getD i 0 := by simpa using h3
          simp only [sxA, Nat.reduceBEq, List.map_cons, List.map_nil, ne_eq, not_false_eq_true, not_true_eq_false, Nat.reduceEqDiff, reduceCtorEq, cond_true, cond_false, Bool.not_true, Bool.not_false, Bool.not_not, mxA, if_true, if_false, Nat.reduceAdd, List.getElem?_cons_succ, List.getElem?_cons_zero, Option.some.injEq, exists_eq_left', eq_self, reduceIte, List.length_cons, List.length_nil, Nat.reduceLeDiff, List.all_cons, List.all_nil, List.drop_zero, List.drop_succ_cons, List.take_succ_cons, List.take_zero, List.cons_append, List.nil_append, List.append_nil, splice, List.take_nil, List.drop_nil, ret_linotypekit_SameInts]
          exact .mk (Nat.le_refl _) ⟨by rw [decide_eq_false (fun h => h3 (by rw [h]))], rfl⟩
        · have h3 : xs.getD i 0 = ys.getD i 0 := by simpa using h3
          simp only [sxA, Nat.reduceBEq, List.map_cons, List.map_nil, ne_eq, not_false_eq_true, not_true_eq_false, Nat.reduceEqDiff, reduceCtorEq, cond_true, cond_false, Bool.not_true, Bool.not_false, Bool.not_not, mxA, if_true, if_false, Nat.reduceAdd, List.getElem?_cons_succ, List.getElem?_cons_zero, Option.some.injEq, exists_eq_left', eq_self, reduceIte, List.length_cons, List.length_nil, Nat.reduceLeDiff, List.all_cons, List.all_nil, List.drop_zero, List.drop_succ_cons, List.take_succ_cons, List.take_zero, List.cons_append, List.nil_append, List.append_nil, splice, List.take_nil, List.drop_nil, r5, ei]
          refine ⟨xs.length - (i + 1), by omega, i + 1, by omega, rfl, rfl, fun j hj => ?_, ?_, ?_, ?_⟩
          · rcases Nat.lt_or_ge j i with h | h
            · exact hall j h
            · rw [show j = i by omega]; exact h3
          all_goals simp only [uxA, Nat.reduceBEq, cond_true, cond_false, r0, r1]
      · have h2 : i = xs.length := by have := of_decide_eq_false h2; omega
        subst h2
        simp only [sxA, Nat.reduceBEq, List.map_cons, List.map_nil, ne_eq, not_false_eq_true, not_true_eq_false, Nat.reduceEqDiff, reduceCtorEq, cond_true, cond_false, Bool.not_true, Bool.not_false, Bool.not_not, mxA, if_true, if_false, Nat.reduceAdd, List.getElem?_cons_succ, List.getElem?_cons_zero, Option.some.injEq, exists_eq_left', eq_self, reduceIte, List.length_cons, List.length_nil, Nat.reduceLeDiff, List.all_cons, List.all_nil, List.drop_zero, List.drop_succ_cons, List.take_succ_cons, List.take_zero, List.cons_append, List.nil_append, List.append_nil, splice, List.take_nil, List.drop_nil, ret_linotypekit_SameInts]
        have heq : xs = ys := by
          apply List.ext_getElem hne
          intro i h1 h2
          have := hall i h1
          simpa [List.getD, List.getElem?_eq_getElem h1, List.getElem?_eq_getElem h2] using this
        exact .mk (Nat.le_refl _) ⟨by rw [decide_eq_true heq], rfl⟩
  · have e0 : ((xs.length : Int) == (ys.length : Int)) = false := by simp; omega
    simp only [e0, sxA, Nat.reduceBEq, List.map_cons, List.map_nil, ne_eq, not_false_eq_true, not_true_eq_false, Nat.reduceEqDiff, reduceCtorEq, cond_true, cond_false, Bool.not_true, Bool.not_false, Bool.not_not, mxA, if_true, if_false, Nat.reduceAdd, List.getElem?_cons_succ, List.getElem?_cons_zero, Option.some.injEq, exists_eq_left', eq_self, reduceIte, List.length_cons, List.length_nil, Nat.reduceLeDiff, List.all_cons, List.all_nil, List.drop_zero, List.drop_succ_cons, List.take_succ_cons, List.take_zero, List.cons_append, List.nil_append, List.append_nil, splice, List.take_nil, List.drop_nil, ret_linotypekit_SameInts]
    exact .mk (Nat.le_refl _) ⟨by rw [decide_eq_false (fun h => hne (by rw [h]))], rfl⟩
end Go.Proofs.YtkoecjmmphmdeaaGreatDoor.code
/- linotypekit.Pick. -/
set_option linter.unusedVariables false
set_option linter.unusedSimpArgs false
set_option maxRecDepth 100000
namespace Go.Proofs.YtkoecjmmphmdeaaGreatDoor.code
open Go.Ab

theorem q_linotypekit_Pick (x n : Int) (hx : I64 x) (hn : 1 ≤ n ∧ n ≤ 4611686018427387904) (H : Heap) : CallQ prog f_linotypekit_Pick [.int .i64 x, .int .i64 n] H fun u H' => u = .int .i64 (x % n) ∧ H' = H := by
  refine in_linotypekit_Pick fun hw => ?_
  have h1 : ¬ n < 1 := by omega
  have h2 : n ≠ 0 := by omega
  simp only [pc_linotypekit_Pick, sxA, Nat.reduceBEq, List.map_cons, List.map_nil, ne_eq, not_false_eq_true, not_true_eq_false, Nat.reduceEqDiff, reduceCtorEq, cond_true, cond_false, Bool.not_true, Bool.not_false, Bool.not_not, h1, decide_false]
  refine ⟨h2, ?_⟩
  have hp := Int.emod_nonneg x h2
  have hp2 := Int.emod_lt_of_pos x (by omega : 0 < n)
  have ht : x.tmod n = if 0 ≤ x then x % n else if x % n = 0 then 0 else x % n - n := by
    rw [Int.tmod_eq_emod]
    have hd : (n ∣ x) ↔ x % n = 0 := ⟨Int.emod_eq_zero_of_dvd, Int.dvd_of_emod_eq_zero⟩
    have hnn : (n.natAbs : Int) = n := Int.natAbs_of_nonneg (by omega)
    by_cases h0 : 0 ≤ x
    · simp [h0]
    · by_cases h3 : x % n = 0
      · simp [h0, hd.2 h3, h3]
      · have hnd : ¬ n ∣ x := fun h => h3 (hd.1 h)
        simp [h0, h3, hnd, hnn]
  refine cB_cases (fun h3 => ?_) (fun h3 => ?_)
  · have h3 : x.tmod n < 0 := of_decide_eq_true h3
    have e : IntKind.i64.wrap (x.tmod n + n) = x % n := by
      rw [w64 (by unfold I64; split at ht <;> (try split at ht) <;> omega)]
      split at ht <;> (try split at ht) <;> omega
    simp only [sxA, Nat.reduceBEq, List.map_cons, List.map_nil, ne_eq, not_false_eq_true, not_true_eq_false, Nat.reduceEqDiff, reduceCtorEq, cond_true, cond_false, Bool.not_true, Bool.not_false, Bool.not_not, ret_linotypekit_Pick, e]
    exact .mk (Nat.le_refl _) ⟨rfl, rfl⟩
  · have h3 : ¬ x.tmod n < 0 := of_decide_eq_false h3
    have e : x.tmod n = x % n := by split at ht <;> (try split at ht) <;> omega
    simp only [sxA, Nat.reduceBEq, List.map_cons, List.map_nil, ne_eq, not_false_eq_true, not_true_eq_false, Nat.reduceEqDiff, reduceCtorEq, cond_true, cond_false, Bool.not_true, Bool.not_false, Bool.not_not, ret_linotypekit_Pick, e]
    exact .mk (Nat.le_refl _) ⟨rfl, rfl⟩

end Go.Proofs.YtkoecjmmphmdeaaGreatDoor.code
/- linotypekit.SameForm. -/
set_option linter.unusedVariables false
set_option linter.unusedSimpArgs false
set_option maxRecDepth 100000
namespace Go.Proofs.YtkoecjmmphmdeaaGreatDoor.code
open Go.Ab

theorem q_linotypekit_SameForm (x y : Lf) (H : Heap) (hx : x.At H) (hy : y.At H) (he : x.f = y.f) : CallQ prog f_linotypekit_SameForm [.agg x.cells.toArray, .agg y.cells.toArray] H fun u H' => u = .bool true ∧ ∃ m, H' = H.up m := by
  refine in_linotypekit_SameForm fun hw => ?_
  obtain ⟨f, sv, tv⟩ := x
  obtain ⟨f', sv', tv'⟩ := y
  simp only at he
  subst he
  obtain ⟨l1, l2, h1, h2⟩ := hx
  obtain ⟨_, _, h3, h4⟩ := hy
  simp only at l1 l2 h1 h2 h3 h4
  have hxx : ∀ b c, Ext H ((H.push b).push c) := fun b c => ((Ext.refl H).push b).push c
  obtain ⟨a1, c1, rfl, _⟩ := id h1
  obtain ⟨a2, c2, rfl, _⟩ := id h2
  obtain ⟨a3, c3, rfl, _⟩ := id h3
  obtain ⟨a4, c4, rfl, _⟩ := id h4
  simp only [Lf.cells, pc_linotypekit_SameForm, beq_self_eq_true, sxA, Nat.reduceBEq, List.map_cons, List.map_nil, ne_eq, not_false_eq_true, not_true_eq_false, Nat.reduceEqDiff, reduceCtorEq, cond_true, cond_false, Bool.not_true, Bool.not_false, Bool.not_not, mxA, if_true, if_false, Nat.reduceAdd, List.getElem?_cons_succ, List.getElem?_cons_zero, Option.some.injEq, exists_eq_left', eq_self, reduceIte, List.length_cons, List.length_nil, Nat.reduceLeDiff, List.all_cons, List.all_nil, List.drop_zero, List.drop_succ_cons, List.take_succ_cons, List.take_zero, List.cons_append, List.nil_append, List.append_nil, splice, List.take_nil, List.drop_nil]
  refine (q_linotypekit_SameInts _ _ f.shapes f.shapes _ (h1.ext hw (hxx _ _)) (h3.ext hw (hxx _ _)) (by omega) (by omega)).mono ?_
  rintro _ _ ⟨rfl, rfl⟩
  simp only [decide_true, sxA, Nat.reduceBEq, List.map_cons, List.map_nil, ne_eq, not_false_eq_true, not_true_eq_false, Nat.reduceEqDiff, reduceCtorEq, cond_true, cond_false, Bool.not_true, Bool.not_false, Bool.not_not, mxA, if_true, if_false, Nat.reduceAdd, List.getElem?_cons_succ, List.getElem?_cons_zero, Option.some.injEq, exists_eq_left', eq_self, reduceIte, List.length_cons, List.length_nil, Nat.reduceLeDiff, List.all_cons, List.all_nil, List.drop_zero, List.drop_succ_cons, List.take_succ_cons, List.take_zero, List.cons_append, List.nil_append, List.append_nil, splice, List.take_nil, List.drop_nil]
  refine (q_linotypekit_SameInts _ _ f.slots f.slots _ (h2.ext hw (hxx _ _)) (h4.ext hw (hxx _ _)) (by omega) (by omega)).mono ?_
  rintro _ _ ⟨rfl, rfl⟩
  simp only [decide_true, beq_self_eq_true, sxA, Nat.reduceBEq, List.map_cons, List.map_nil, ne_eq, not_false_eq_true, not_true_eq_false, Nat.reduceEqDiff, reduceCtorEq, cond_true, cond_false, Bool.not_true, Bool.not_false, Bool.not_not, mxA, if_true, if_false, Nat.reduceAdd, List.getElem?_cons_succ, List.getElem?_cons_zero, Option.some.injEq, exists_eq_left', eq_self, reduceIte, List.length_cons, List.length_nil, Nat.reduceLeDiff, List.all_cons, List.all_nil, List.drop_zero, List.drop_succ_cons, List.take_succ_cons, List.take_zero, List.cons_append, List.nil_append, List.append_nil, splice, List.take_nil, List.drop_nil, ret_linotypekit_SameForm]
  exact .ext hw (hxx _ _) ⟨rfl, _, rfl⟩

end Go.Proofs.YtkoecjmmphmdeaaGreatDoor.code
/- linotypekit.SameForms. -/
set_option linter.unusedVariables false
set_option linter.unusedSimpArgs false
set_option maxRecDepth 100000
namespace Go.Proofs.YtkoecjmmphmdeaaGreatDoor.code
open Go.Ab

theorem q_linotypekit_SameForms (va vb : Value) (xs ys : List Lf) (H : Heap) (ha : FmsAt H va xs) (hb : FmsAt H vb ys) (he : xs.map (·.f) = ys.map (·.f)) (hl : xs.length ≤ 1000) : CallQ prog f_linotypekit_SameForms [va, vb] H fun u H' => u = .bool true ∧ ∃ m, H' = H.up m := by
  refine in_linotypekit_SameForms fun hw => ?_
  obtain ⟨⟨aa, acap, rfl, hsa⟩, hxa⟩ := ha
  obtain ⟨⟨ba, bcap, rfl, hsb⟩, hxb⟩ := hb
  have hll : xs.length = ys.length := by have := congrArg List.length he; simpa using this
  have e0 : ((xs.length : Int) == (ys.length : Int)) = true := by simp [hll]
  simp only [pc_linotypekit_SameForms, e0, sxA, Nat.reduceBEq, List.map_cons, List.map_nil, ne_eq, not_false_eq_true, not_true_eq_false, Nat.reduceEqDiff, reduceCtorEq, cond_true, cond_false, Bool.not_true, Bool.not_false, Bool.not_not, mxA, if_true, if_false, Nat.reduceAdd, List.getElem?_cons_succ, List.getElem?_cons_zero, Option.some.injEq, exists_eq_left', eq_self, reduceIte, List.length_cons, List.length_nil, Nat.reduceLeDiff, List.all_cons, List.all_nil, List.drop_zero, List.drop_succ_cons, List.take_succ_cons, List.take_zero, List.cons_append, List.nil_append, List.append_nil, splice, List.take_nil, List.drop_nil]
  refine loop_intro (fun m A' H' => ∃ i : Nat, i ≤ xs.length ∧ m = xs.length - i ∧ Ext H H' ∧ A' 0 = .slice aa xs.length acap ∧ A' 1 = .slice ba ys.length bcap ∧ A' 5 = .int .i64 i) xs.length ?_ ?_
  · refine ⟨0, Nat.zero_le _, by omega, .refl _, ?_, ?_, ?_⟩
    all_goals simp only [uxA, Nat.reduceBEq, cond_true, cond_false]
    rfl
  · rintro m A' H' ⟨i, hi, rfl, hx, r0, r1, r5⟩
    simp only [sxA, Nat.reduceBEq, List.map_cons, List.map_nil, ne_eq, not_false_eq_true, not_true_eq_false, Nat.reduceEqDiff, reduceCtorEq, cond_true, cond_false, Bool.not_true, Bool.not_false, Bool.not_not, mxA, if_true, if_false, Nat.reduceAdd, List.getElem?_cons_succ, List.getElem?_cons_zero, Option.some.injEq, exists_eq_left', eq_self, reduceIte, List.length_cons, List.length_nil, Nat.reduceLeDiff, List.all_cons, List.all_nil, List.drop_zero, List.drop_succ_cons, List.take_succ_cons, List.take_zero, List.cons_append, List.nil_append, List.append_nil, splice, List.take_nil, List.drop_nil, r0, r1, r5]
    by_cases h2 : i < xs.length
    · have k1 : (i : Int) < (xs.length : Int) := by omega
      obtain ⟨b1, e1, ro1, rfl, hb1⟩ := hsa (by omega)
      obtain ⟨b2, e2, ro2, rfl, hb2⟩ := hsb (by omega)
      have hb1' : H'.get b1 = some (.cells (cellsL xs) e1 ro1) := by rw [hx.get _ (hw.lt hb1)]; exact hb1
      have hb2' : H'.get b2 = some (.cells (cellsL ys) e2 ro2) := by rw [hx.get _ (hw.lt hb2)]; exact hb2
      have c1 : (0 : Int) ≤ i ∧ (i : Int) < xs.length := by omega
      have c2 : (0 : Int) ≤ i ∧ (i : Int) < ys.length := by omega
      have c3 : (i : Int).toNat = i := by omega
      have c4 : i * 10 + 10 ≤ xs.length * 10 := by omega
      have c5 : i * 10 + 10 ≤ ys.length * 10 := by omega
      have ei : IntKind.i64.wrap ((i : Int) + 1) = ((i + 1 : Nat) : Int) := by rw [w64 (by unfold I64; omega)]; omega
      have hp := List.getElem?_eq_getElem h2
      have hq := List.getElem?_eq_getElem (by omega : i < ys.length)
      have d1 := cellsL_at xs i _ hp
      have d2 := cellsL_at ys i _ hq
      have n1 := cellsL_length xs
      have n2 := cellsL_length ys
      have w1 := (hxa _ (List.getElem_mem h2)).ext hw hx
      have w2 := (hxb _ (List.getElem_mem (by omega : i < ys.length))).ext hw hx
      have a1 := lcells_all w1
      have a2 := lcells_all w2
      have hfe : (xs[i]).f = (ys[i]'(by omega)).f := by
        have := congrArg (fun l => l[i]?) he
        simpa [List.getElem?_map, hp, hq] using this
      simp only [k1, decide_true, sxA, Nat.reduceBEq, List.map_cons, List.map_nil, ne_eq, not_false_eq_true, not_true_eq_false, Nat.reduceEqDiff, reduceCtorEq, cond_true, cond_false, Bool.not_true, Bool.not_false, Bool.not_not, mxA, if_true, if_false, Nat.reduceAdd, List.getElem?_cons_succ, List.getElem?_cons_zero, Option.some.injEq, exists_eq_left', eq_self, reduceIte, List.length_cons, List.length_nil, Nat.reduceLeDiff, List.all_cons, List.all_nil, List.drop_zero, List.drop_succ_cons, List.take_succ_cons, List.take_zero, List.cons_append, List.nil_append, List.append_nil, splice, List.take_nil, List.drop_nil, r0, r1, r5, c1, c2, c3, c4, c5, hb1', hb2', n1, n2, d1, d2, lcells_length, lcells_take, a1, a2]
      refine (q_linotypekit_SameForm _ _ H' w1 w2 hfe).then ?_
      rintro _ _ hn ⟨rfl, m', rfl⟩
      simp only [Heap.next_up] at hn
      simp only [sxA, Nat.reduceBEq, List.map_cons, List.map_nil, ne_eq, not_false_eq_true, not_true_eq_false, Nat.reduceEqDiff, reduceCtorEq, cond_true, cond_false, Bool.not_true, Bool.not_false, Bool.not_not, mxA, if_true, if_false, Nat.reduceAdd, List.getElem?_cons_succ, List.getElem?_cons_zero, Option.some.injEq, exists_eq_left', eq_self, reduceIte, List.length_cons, List.length_nil, Nat.reduceLeDiff, List.all_cons, List.all_nil, List.drop_zero, List.drop_succ_cons, List.take_succ_cons, List.take_zero, List.cons_append, List.nil_append, List.append_nil, splice, List.take_nil, List.drop_nil, r0, r1, r5, ei]
      refine ⟨xs.length - (i + 1), by omega, i + 1, by omega, rfl, hx.up hn, ?_, ?_, ?_⟩
      all_goals simp only [uxA, Nat.reduceBEq, cond_true, cond_false, r0, r1]
    · have h2 : i = xs.length := by omega
      subst h2
      have k1 : ¬ (xs.length : Int) < (xs.length : Int) := by omega
      simp only [k1, decide_false, sxA, Nat.reduceBEq, List.map_cons, List.map_nil, ne_eq, not_false_eq_true, not_true_eq_false, Nat.reduceEqDiff, reduceCtorEq, cond_true, cond_false, Bool.not_true, Bool.not_false, Bool.not_not, mxA, if_true, if_false, Nat.reduceAdd, List.getElem?_cons_succ, List.getElem?_cons_zero, Option.some.injEq, exists_eq_left', eq_self, reduceIte, List.length_cons, List.length_nil, Nat.reduceLeDiff, List.all_cons, List.all_nil, List.drop_zero, List.drop_succ_cons, List.take_succ_cons, List.take_zero, List.cons_append, List.nil_append, List.append_nil, splice, List.take_nil, List.drop_nil, ret_linotypekit_SameForms]
      exact .ext hw hx ⟨rfl, _, rfl⟩

end Go.Proofs.YtkoecjmmphmdeaaGreatDoor.code
