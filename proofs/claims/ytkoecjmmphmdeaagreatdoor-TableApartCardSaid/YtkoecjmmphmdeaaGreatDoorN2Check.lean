/- shape.Check: the rules together. -/
import Derived.Test.YtkoecjmmphmdeaaGreatDoorN1Shape
import Derived.Test.YtkoecjmmphmdeaaGreatDoorLibA
set_option linter.unusedVariables false
set_option linter.unusedSimpArgs false
set_option maxRecDepth 100000
set_option maxHeartbeats 4000000
namespace Go.Proofs.YtkoecjmmphmdeaaGreatDoor.code
open Go.Ab

def prefF (f : Fm) : Bool := bif !f.vex then ((f.w == 0) || (f.w == 1)) && (f.l == 0) && decide (idxI f.slots 3 < 0) && decide (idxI f.slots 7 < 0) else ((f.pre == 0) || (f.pre == 1) || (f.pre == 2) || (f.pre == 4)) && (!(f.map == 0)) && decide (-1 ≤ f.w) && decide (f.w ≤ 1) && ((f.l == 0) || (f.l == 1))
theorem q_shape_prefixed (x : Lf) (H : Heap) (hx : x.At H) : CallQ prog f_shape_prefixed [.agg x.cells.toArray] H fun u H' => u = .bool (prefF x.f) ∧ ∃ m, H' = H.up m := by
  refine in_shape_prefixed fun hw => ?_
  have q3 := fun H' (he : Ext H H') => q_shape_Slot x 3 H' (hx.ext hw he)
  have q7 := fun H' (he : Ext H H') => q_shape_Slot x 7 H' (hx.ext hw he)
  have hs : prefF x.f = bif !x.f.vex then ((x.f.w == 0) || (x.f.w == 1)) && (x.f.l == 0) && decide (idxI x.f.slots 3 < 0) && decide (idxI x.f.slots 7 < 0) else ((x.f.pre == 0) || (x.f.pre == 1) || (x.f.pre == 2) || (x.f.pre == 4)) && (!(x.f.map == 0)) && decide (-1 ≤ x.f.w) && decide (x.f.w ≤ 1) && ((x.f.l == 0) || (x.f.l == 1)) := rfl
  rw [hs]
  clear hs hx
  generalize idxI x.f.slots 3 = i3 at *
  generalize idxI x.f.slots 7 = i7 at *
  obtain ⟨⟨fop, fpre, fmap, fcode, fdg, fw, fl, fvex, fsh, fsl⟩, sv, tv⟩ := x
  simp only [Lf.cells] at q3 q7 ⊢
  cases fvex
  all_goals simp (disch := (first | omega | ((repeat (first | rw [Heap.next_push] | rw [Heap.next_set] | rw [Heap.next_up])); done) | ((repeat (first | rw [Heap.next_push] | rw [Heap.next_set] | rw [Heap.next_up])); omega))) only [pc_shape_prefixed, pc_shape_prefixed_1, pc_shape_prefixed_2, pc_shape_prefixed_3, pc_shape_prefixed_4, sxA, Nat.reduceBEq, List.map_cons, List.map_nil, ne_eq, not_false_eq_true, not_true_eq_false, Nat.reduceEqDiff, reduceCtorEq, cond_true, cond_false, Bool.not_true, Bool.not_false, Bool.not_not, mxD, if_true, if_false, Nat.reduceAdd, List.getElem?_cons_succ, List.getElem?_cons_zero, Option.some.injEq, exists_eq_left', eq_self, reduceIte, List.length_cons, List.length_nil, Nat.reduceLeDiff, List.all_cons, List.all_nil, List.drop_zero, List.drop_succ_cons, List.take_succ_cons, List.take_zero, List.cons_append, List.nil_append, List.append_nil, splice, List.take_nil, List.drop_nil, ret_shape_prefixed]
  all_goals repeat' (first
      | (refine gB_cases (fun h => ?_) (fun h => ?_) <;> (try simp only [Bool.not_eq_true', Bool.not_eq_false'] at h) <;> simp (disch := (first | omega | ((repeat (first | rw [Heap.next_push] | rw [Heap.next_set] | rw [Heap.next_up])); done) | ((repeat (first | rw [Heap.next_push] | rw [Heap.next_set] | rw [Heap.next_up])); omega))) only [pc_shape_prefixed_1, pc_shape_prefixed_2, pc_shape_prefixed_3, pc_shape_prefixed_4, sxA, Nat.reduceBEq, List.map_cons, List.map_nil, ne_eq, not_false_eq_true, not_true_eq_false, Nat.reduceEqDiff, reduceCtorEq, cond_true, cond_false, Bool.not_true, Bool.not_false, Bool.not_not, mxD, if_true, if_false, Nat.reduceAdd, List.getElem?_cons_succ, List.getElem?_cons_zero, Option.some.injEq, exists_eq_left', eq_self, reduceIte, List.length_cons, List.length_nil, Nat.reduceLeDiff, List.all_cons, List.all_nil, List.drop_zero, List.drop_succ_cons, List.take_succ_cons, List.take_zero, List.cons_append, List.nil_append, List.append_nil, splice, List.take_nil, List.drop_nil, ret_shape_prefixed, h])
      | (refine cB_cases (fun h => ?_) (fun h => ?_) <;> (try simp only [Bool.not_eq_true', Bool.not_eq_false'] at h) <;> simp (disch := (first | omega | ((repeat (first | rw [Heap.next_push] | rw [Heap.next_set] | rw [Heap.next_up])); done) | ((repeat (first | rw [Heap.next_push] | rw [Heap.next_set] | rw [Heap.next_up])); omega))) only [pc_shape_prefixed_1, pc_shape_prefixed_2, pc_shape_prefixed_3, pc_shape_prefixed_4, sxA, Nat.reduceBEq, List.map_cons, List.map_nil, ne_eq, not_false_eq_true, not_true_eq_false, Nat.reduceEqDiff, reduceCtorEq, cond_true, cond_false, Bool.not_true, Bool.not_false, Bool.not_not, mxD, if_true, if_false, Nat.reduceAdd, List.getElem?_cons_succ, List.getElem?_cons_zero, Option.some.injEq, exists_eq_left', eq_self, reduceIte, List.length_cons, List.length_nil, Nat.reduceLeDiff, List.all_cons, List.all_nil, List.drop_zero, List.drop_succ_cons, List.take_succ_cons, List.take_zero, List.cons_append, List.nil_append, List.append_nil, splice, List.take_nil, List.drop_nil, ret_shape_prefixed, h])
      | (refine (q3 _ (by (repeat' (first | exact Ext.refl _ | refine Ext.push ?_ _ | refine Ext.up ?_ (by simp only [Heap.next_push, Heap.next_set, Heap.next_up]; omega))))).thenW ?_; rintro _ _ hn hw2 ⟨rfl, k, rfl⟩; (try simp only [Heap.next_push, Heap.next_up, Heap.next_set] at hn); simp (disch := (first | omega | ((repeat (first | rw [Heap.next_push] | rw [Heap.next_set] | rw [Heap.next_up])); done) | ((repeat (first | rw [Heap.next_push] | rw [Heap.next_set] | rw [Heap.next_up])); omega))) only [pc_shape_prefixed_1, pc_shape_prefixed_2, pc_shape_prefixed_3, pc_shape_prefixed_4, sxA, Nat.reduceBEq, List.map_cons, List.map_nil, ne_eq, not_false_eq_true, not_true_eq_false, Nat.reduceEqDiff, reduceCtorEq, cond_true, cond_false, Bool.not_true, Bool.not_false, Bool.not_not, mxD, if_true, if_false, Nat.reduceAdd, List.getElem?_cons_succ, List.getElem?_cons_zero, Option.some.injEq, exists_eq_left', eq_self, reduceIte, List.length_cons, List.length_nil, Nat.reduceLeDiff, List.all_cons, List.all_nil, List.drop_zero, List.drop_succ_cons, List.take_succ_cons, List.take_zero, List.cons_append, List.nil_append, List.append_nil, splice, List.take_nil, List.drop_nil, ret_shape_prefixed])
      | (refine (q7 _ (by (repeat' (first | exact Ext.refl _ | refine Ext.push ?_ _ | refine Ext.up ?_ (by simp only [Heap.next_push, Heap.next_set, Heap.next_up]; omega))))).thenW ?_; rintro _ _ hn hw2 ⟨rfl, k, rfl⟩; (try simp only [Heap.next_push, Heap.next_up, Heap.next_set] at hn); simp (disch := (first | omega | ((repeat (first | rw [Heap.next_push] | rw [Heap.next_set] | rw [Heap.next_up])); done) | ((repeat (first | rw [Heap.next_push] | rw [Heap.next_set] | rw [Heap.next_up])); omega))) only [pc_shape_prefixed_1, pc_shape_prefixed_2, pc_shape_prefixed_3, pc_shape_prefixed_4, sxA, Nat.reduceBEq, List.map_cons, List.map_nil, ne_eq, not_false_eq_true, not_true_eq_false, Nat.reduceEqDiff, reduceCtorEq, cond_true, cond_false, Bool.not_true, Bool.not_false, Bool.not_not, mxD, if_true, if_false, Nat.reduceAdd, List.getElem?_cons_succ, List.getElem?_cons_zero, Option.some.injEq, exists_eq_left', eq_self, reduceIte, List.length_cons, List.length_nil, Nat.reduceLeDiff, List.all_cons, List.all_nil, List.drop_zero, List.drop_succ_cons, List.take_succ_cons, List.take_zero, List.cons_append, List.nil_append, List.append_nil, splice, List.take_nil, List.drop_nil, ret_shape_prefixed])
      | fail)
  all_goals refine .ext hw ?_ ⟨?_, _, rfl⟩
  all_goals try (repeat' (first | exact Ext.refl _ | refine Ext.push ?_ _ | refine Ext.up ?_ (by simp only [Heap.next_push, Heap.next_set, Heap.next_up]; omega)))
  all_goals (simp_all <;> omega)

theorem q_shape_Modrm (x : Lf) (H : Heap) (hx : x.At H) : CallQ prog f_shape_Modrm [.agg x.cells.toArray] H fun u H' => u = .bool (decide (0 ≤ idxI x.f.slots 2)) ∧ ∃ m, H' = H.up m := by
  refine in_shape_Modrm fun hw => ?_
  have ec : (Value.agg x.cells.toArray).cells.toList = x.cells := rfl
  simp only [pc_shape_Modrm, ec, lcells_length, lcells_take, sxA, Nat.reduceBEq, List.map_cons, List.map_nil, ne_eq, not_false_eq_true, not_true_eq_false, Nat.reduceEqDiff, reduceCtorEq, cond_true, cond_false, Bool.not_true, Bool.not_false, Bool.not_not, mxA, if_true, if_false, Nat.reduceAdd, List.getElem?_cons_succ, List.getElem?_cons_zero, Option.some.injEq, exists_eq_left', eq_self, reduceIte, List.length_cons, List.length_nil, Nat.reduceLeDiff, List.all_cons, List.all_nil, List.drop_zero, List.drop_succ_cons, List.take_succ_cons, List.take_zero, List.cons_append, List.nil_append, List.append_nil, splice, List.take_nil, List.drop_nil]
  refine (q_shape_Slot x 2 _ (hx.ext hw ((Ext.refl H).push _))).thenW ?_
  rintro _ _ hn hw2 ⟨rfl, m, rfl⟩
  simp only [Heap.next_up, Heap.next_push] at hn
  simp only [sxA, Nat.reduceBEq, List.map_cons, List.map_nil, ne_eq, not_false_eq_true, not_true_eq_false, Nat.reduceEqDiff, reduceCtorEq, cond_true, cond_false, Bool.not_true, Bool.not_false, Bool.not_not, mxA, if_true, if_false, Nat.reduceAdd, List.getElem?_cons_succ, List.getElem?_cons_zero, Option.some.injEq, exists_eq_left', eq_self, reduceIte, List.length_cons, List.length_nil, Nat.reduceLeDiff, List.all_cons, List.all_nil, List.drop_zero, List.drop_succ_cons, List.take_succ_cons, List.take_zero, List.cons_append, List.nil_append, List.append_nil, splice, List.take_nil, List.drop_nil, ret_shape_Modrm]
  exact .ext hw (((Ext.refl H).push _).up (by simp only [Heap.next_push]; exact hn)) ⟨rfl, _, rfl⟩

def and7 (c : Int) : Int := IntKind.i64.wrap (BitVec.ofInt IntKind.i64.bits c &&& BitVec.ofInt IntKind.i64.bits 7).toNat
def rulF (f : Fm) : List Bool :=
  let r := decide (0 ≤ idxI f.slots 1); let m := decide (0 ≤ idxI f.slots 2); let c := decide (0 ≤ idxI f.slots 4); let d := decide (0 ≤ f.digit)
  [f.shapes.length == f.slots.length, prefF f, onceF f.slots, mtchF f, !c || ((and7 f.code == 0) && !r && !m && !d), !r || !d, !m || r || d, m || (!r && !d), !(f.map == 0) || !takenF f.code]

theorem slF_cap {M : Nat} {v : Value} {l : List Int} (h : SlF M v l) : ∀ a n c, v = .slice (some a) n c → CapOk n c := by
  rintro a n c rfl
  rcases h with ⟨_, h⟩ | ⟨_, b, cap, h, _, h2⟩
  · cases h
  · cases h; exact h2
theorem slF_below {M : Nat} {v : Value} {l : List Int} {H : Heap} {cs : List Value} (hw : H.Wf) (h : SlF M v l) (h2 : IsSl H v l.length cs) (m : Nat) (hm : H.next ≤ m) (n : Nat) : belowV m (n + 1) v = true := by
  rcases h with ⟨_, rfl⟩ | ⟨hl, b, cap, rfl, _, _⟩
  · rfl
  · obtain ⟨a, c, e, h1⟩ := h2
    cases e
    obtain ⟨b2, _, _, e3, hb⟩ := h1 (List.length_pos_iff.2 hl)
    cases e3
    have := hw.lt hb
    simp only [belowV, Nat.blt_eq]
    omega

theorem q_shape_rules (x : Lf) (H : Heap) (hx : x.At H) (hf : x.Fr 0) : CallQ prog f_shape_rules [.agg x.cells.toArray] H fun u H' => ∃ b, u = .slice (some ⟨b, 0, none⟩) 9 9 ∧ Ext H H' ∧ H'.get b = some (.cells ((rulF x.f).map .bool) 4 false) := by
  refine in_shape_rules fun hw => ?_
  have bs := fun m hm n => slF_below hw hf.1 hx.2.2.1 m hm n
  have bt := fun m hm n => slF_below hw hf.2 hx.2.2.2 m hm n
  have hb : ∀ m, H.next ≤ m → belowV m 6 (.agg x.cells.toArray) = true := fun m hm => by
    have h1 := bs m hm 4
    have h2 := bt m hm 4
    simp [belowV, Lf.cells, plain] at h1 h2 ⊢
    exact ⟨h1, h2⟩
  have hb1 : ∀ m, H.next ≤ m → belowV m 6 x.sv = true := fun m hm => bs m hm 5
  have hb2 : ∀ m, H.next ≤ m → belowV m 6 x.tv = true := fun m hm => bt m hm 5
  have q1 := fun H' (he : Ext H H') => q_shape_Slot x 1 H' (hx.ext hw he)
  have q4 := fun H' (he : Ext H H') => q_shape_Slot x 4 H' (hx.ext hw he)
  have qm := fun H' (he : Ext H H') => q_shape_Modrm x H' (hx.ext hw he)
  have qp := fun H' (he : Ext H H') => q_shape_prefixed x H' (hx.ext hw he)
  have qc := fun H' (he : Ext H H') => q_shape_matched x H' (hx.ext hw he)
  have qo := fun H' (he : Ext H H') => q_shape_once x.tv x.f.slots H' (hx.ext hw he).2.2.2 hx.2.1 (slF_cap hf.2)
  have qt := fun H' => q_shape_taken x.f.code H'
  have ec : (Value.agg x.cells.toArray).cells.toList = x.cells := rfl
  obtain ⟨a1, c1, e1, _⟩ := id hx.2.2.1
  obtain ⟨a2, c2, e2, _⟩ := id hx.2.2.2
  have x1 : x.cells[1]? = some (.slice a1 x.f.shapes.length c1) := by rw [← e1]; rfl
  have x2 : x.cells[2]? = some (.slice a2 x.f.slots.length c2) := by rw [← e2]; rfl
  have x4 : x.cells[4]? = some (.int .i64 x.f.map) := rfl
  have x5 : x.cells[5]? = some (.int .i64 x.f.code) := rfl
  have x6 : x.cells[6]? = some (.int .i64 x.f.digit) := rfl
  rw [e1] at hb1
  rw [e2] at hb2 qo
  have hr : rulF x.f = [x.f.shapes.length == x.f.slots.length, prefF x.f, onceF x.f.slots, mtchF x.f, !decide (0 ≤ idxI x.f.slots 4) || ((and7 x.f.code == 0) && !decide (0 ≤ idxI x.f.slots 1) && !decide (0 ≤ idxI x.f.slots 2) && !decide (0 ≤ x.f.digit)), !decide (0 ≤ idxI x.f.slots 1) || !decide (0 ≤ x.f.digit), !decide (0 ≤ idxI x.f.slots 2) || decide (0 ≤ idxI x.f.slots 1) || decide (0 ≤ x.f.digit), decide (0 ≤ idxI x.f.slots 2) || (!decide (0 ≤ idxI x.f.slots 1) && !decide (0 ≤ x.f.digit)), !(x.f.map == 0) || !takenF x.f.code] := rfl
  rw [hr]
  clear hr
  have hxx : ∀ b, Ext H (H.push b) := fun b => (Ext.refl H).push _
  simp only [pc_shape_rules, ec, lcells_length, lcells_take, sxA, Nat.reduceBEq, List.map_cons, List.map_nil, ne_eq, not_false_eq_true, not_true_eq_false, Nat.reduceEqDiff, reduceCtorEq, cond_true, cond_false, Bool.not_true, Bool.not_false, Bool.not_not, mxA, if_true, if_false, Nat.reduceAdd, List.getElem?_cons_succ, List.getElem?_cons_zero, Option.some.injEq, exists_eq_left', eq_self, reduceIte, List.length_cons, List.length_nil, Nat.reduceLeDiff, List.all_cons, List.all_nil, List.drop_zero, List.drop_succ_cons, List.take_succ_cons, List.take_zero, List.cons_append, List.nil_append, List.append_nil, splice, List.take_nil, List.drop_nil]
  have hx0 : Ext H (H.push (.cells x.cells T_api_Form false)) := (Ext.refl H).push _
  have hg0 : (H.push (.cells x.cells T_api_Form false)).get H.next = some (.cells x.cells T_api_Form false) := by rw [Heap.get_push, if_pos rfl]
  have hw0 := hw.push (.cells x.cells T_api_Form false)
  have hb0 : H.next < (H.push (.cells x.cells T_api_Form false)).next := Nat.lt_succ_self _
  generalize H.push (.cells x.cells T_api_Form false) = H0 at hx0 hg0 hw0 hb0
  -- each call leaves the box where it is
  have step : ∀ (H1 : Heap) (m : Nat), Ext H H1 → H1.Wf → H1.get H.next = some (.cells x.cells T_api_Form false) → H.next < H1.next → H1.next ≤ m → Ext H (H1.up m) ∧ (H1.up m).get H.next = some (.cells x.cells T_api_Form false) ∧ H.next < (H1.up m).next ∧ EqB H1 (H1.up m) := fun H1 m h1 h2 h3 h4 h5 => ⟨h1.up h5, by rw [Heap.get_up]; exact h3, by simp only [Heap.next_up]; omega, ((Ext.refl H1).up h5).eqB⟩
  have hb0' := hb0
  refine ⟨⟨Nat.lt_succ_self _, Nat.lt_succ_self _⟩, (q1 _ hx0).thenW ?_⟩
  rintro _ _ hn1 hw1 ⟨rfl, m1, rfl⟩
  simp only [Heap.next_up] at hn1
  obtain ⟨hx1, hg1, hb1', he1⟩ := step _ m1 hx0 hw0 hg0 hb0' hn1
  generalize Heap.up _ m1 = H1 at hw1 hx1 hg1 hb1' he1
  simp only [sxA, Nat.reduceBEq, List.map_cons, List.map_nil, ne_eq, not_false_eq_true, not_true_eq_false, Nat.reduceEqDiff, reduceCtorEq, cond_true, cond_false, Bool.not_true, Bool.not_false, Bool.not_not, mxA, if_true, if_false, Nat.reduceAdd, List.getElem?_cons_succ, List.getElem?_cons_zero, Option.some.injEq, exists_eq_left', eq_self, reduceIte, List.length_cons, List.length_nil, Nat.reduceLeDiff, List.all_cons, List.all_nil, List.drop_zero, List.drop_succ_cons, List.take_succ_cons, List.take_zero, List.cons_append, List.nil_append, List.append_nil, splice, List.take_nil, List.drop_nil, hg1, ec, lcells_length, lcells_take, x1, x2, x4, x5, x6]
  refine ⟨he1, hb _ hx1.next, hb1', (qm _ hx1).thenW ?_⟩
  rintro _ _ hn2 hw2 ⟨rfl, m2, rfl⟩
  simp only [Heap.next_up] at hn2
  obtain ⟨hx2, hg2, hb2', he2⟩ := step _ m2 hx1 hw1 hg1 hb1' hn2
  generalize Heap.up _ m2 = H2 at hw2 hx2 hg2 hb2' he2
  simp only [sxA, Nat.reduceBEq, List.map_cons, List.map_nil, ne_eq, not_false_eq_true, not_true_eq_false, Nat.reduceEqDiff, reduceCtorEq, cond_true, cond_false, Bool.not_true, Bool.not_false, Bool.not_not, mxA, if_true, if_false, Nat.reduceAdd, List.getElem?_cons_succ, List.getElem?_cons_zero, Option.some.injEq, exists_eq_left', eq_self, reduceIte, List.length_cons, List.length_nil, Nat.reduceLeDiff, List.all_cons, List.all_nil, List.drop_zero, List.drop_succ_cons, List.take_succ_cons, List.take_zero, List.cons_append, List.nil_append, List.append_nil, splice, List.take_nil, List.drop_nil, hg2, ec, lcells_length, lcells_take, x1, x2, x4, x5, x6]
  refine ⟨he2, hb _ hx2.next, (q4 _ hx2).thenW ?_⟩
  rintro _ _ hn3 hw3 ⟨rfl, m3, rfl⟩
  simp only [Heap.next_up] at hn3
  obtain ⟨hx3, hg3, hb3', he3⟩ := step _ m3 hx2 hw2 hg2 hb2' hn3
  generalize Heap.up _ m3 = H3 at hw3 hx3 hg3 hb3' he3
  simp only [sxA, Nat.reduceBEq, List.map_cons, List.map_nil, ne_eq, not_false_eq_true, not_true_eq_false, Nat.reduceEqDiff, reduceCtorEq, cond_true, cond_false, Bool.not_true, Bool.not_false, Bool.not_not, mxA, if_true, if_false, Nat.reduceAdd, List.getElem?_cons_succ, List.getElem?_cons_zero, Option.some.injEq, exists_eq_left', eq_self, reduceIte, List.length_cons, List.length_nil, Nat.reduceLeDiff, List.all_cons, List.all_nil, List.drop_zero, List.drop_succ_cons, List.take_succ_cons, List.take_zero, List.cons_append, List.nil_append, List.append_nil, splice, List.take_nil, List.drop_nil, hg3, ec, lcells_length, lcells_take, x1, x2, x4, x5, x6]
  refine ⟨hb1 _ hx3.next, hb2 _ hx3.next, ⟨hb3', hb3', hb3'⟩, (qp _ hx3).thenW ?_⟩
  rintro _ _ hn4 hw4 ⟨rfl, m4, rfl⟩
  simp only [Heap.next_up] at hn4
  obtain ⟨hx4, hg4, hb4', he4⟩ := step _ m4 hx3 hw3 hg3 hb3' hn4
  generalize Heap.up _ m4 = H4 at hw4 hx4 hg4 hb4' he4
  simp only [sxA, Nat.reduceBEq, List.map_cons, List.map_nil, ne_eq, not_false_eq_true, not_true_eq_false, Nat.reduceEqDiff, reduceCtorEq, cond_true, cond_false, Bool.not_true, Bool.not_false, Bool.not_not, mxA, if_true, if_false, Nat.reduceAdd, List.getElem?_cons_succ, List.getElem?_cons_zero, Option.some.injEq, exists_eq_left', eq_self, reduceIte, List.length_cons, List.length_nil, Nat.reduceLeDiff, List.all_cons, List.all_nil, List.drop_zero, List.drop_succ_cons, List.take_succ_cons, List.take_zero, List.cons_append, List.nil_append, List.append_nil, splice, List.take_nil, List.drop_nil, hg4, ec, lcells_length, lcells_take, x1, x2, x4, x5, x6]
  refine ⟨he4, hb2 _ hx4.next, ⟨hb4', hb4'⟩, (qo _ hx4).thenW ?_⟩
  rintro _ _ _ _ ⟨rfl, rfl⟩
  simp only [sxA, Nat.reduceBEq, List.map_cons, List.map_nil, ne_eq, not_false_eq_true, not_true_eq_false, Nat.reduceEqDiff, reduceCtorEq, cond_true, cond_false, Bool.not_true, Bool.not_false, Bool.not_not, mxA, if_true, if_false, Nat.reduceAdd, List.getElem?_cons_succ, List.getElem?_cons_zero, Option.some.injEq, exists_eq_left', eq_self, reduceIte, List.length_cons, List.length_nil, Nat.reduceLeDiff, List.all_cons, List.all_nil, List.drop_zero, List.drop_succ_cons, List.take_succ_cons, List.take_zero, List.cons_append, List.nil_append, List.append_nil, splice, List.take_nil, List.drop_nil, hg4, ec, lcells_length, lcells_take, x1, x2, x4, x5, x6]
  refine ⟨(Ext.refl _).eqB, hb _ hx4.next, hb4', (qc _ hx4).thenW ?_⟩
  rintro _ _ hn5 hw5 ⟨rfl, m5, rfl⟩
  simp only [Heap.next_up] at hn5
  obtain ⟨hx5, hg5, hb5', he5⟩ := step _ m5 hx4 hw4 hg4 hb4' hn5
  generalize Heap.up _ m5 = H5 at hw5 hx5 hg5 hb5' he5
  simp only [sxA, Nat.reduceBEq, List.map_cons, List.map_nil, ne_eq, not_false_eq_true, not_true_eq_false, Nat.reduceEqDiff, reduceCtorEq, cond_true, cond_false, Bool.not_true, Bool.not_false, Bool.not_not, mxA, if_true, if_false, Nat.reduceAdd, List.getElem?_cons_succ, List.getElem?_cons_zero, Option.some.injEq, exists_eq_left', eq_self, reduceIte, List.length_cons, List.length_nil, Nat.reduceLeDiff, List.all_cons, List.all_nil, List.drop_zero, List.drop_succ_cons, List.take_succ_cons, List.take_zero, List.cons_append, List.nil_append, List.append_nil, splice, List.take_nil, List.drop_nil, hg5, ec, lcells_length, lcells_take, x1, x2, x4, x5, x6]
  refine ⟨he5, ?_⟩
  have h7 : IntKind.i64.wrap (BitVec.ofInt IntKind.i64.bits x.f.code &&& BitVec.ofInt IntKind.i64.bits 7).toNat = and7 x.f.code := rfl

  have e0 : ((x.f.shapes.length : Int) == (x.f.slots.length : Int)) = (x.f.shapes.length == x.f.slots.length) := by
    rw [Bool.eq_iff_iff, beq_iff_eq, beq_iff_eq]; omega
  generalize decide (0 ≤ idxI x.f.slots 1) = r
  generalize decide (0 ≤ idxI x.f.slots 2) = m
  generalize decide (0 ≤ idxI x.f.slots 4) = c
  generalize decide (0 ≤ x.f.digit) = d
  cases z0 : (and7 x.f.code == 0) <;> cases p0 : (x.f.map == 0)
  all_goals cases c <;> cases r <;> cases m <;> cases d
  all_goals simp only [sxA, Nat.reduceBEq, List.map_cons, List.map_nil, ne_eq, not_false_eq_true, not_true_eq_false, Nat.reduceEqDiff, reduceCtorEq, cond_true, cond_false, Bool.not_true, Bool.not_false, Bool.not_not, mxA, if_true, if_false, Nat.reduceAdd, List.getElem?_cons_succ, List.getElem?_cons_zero, Option.some.injEq, exists_eq_left', eq_self, reduceIte, List.length_cons, List.length_nil, Nat.reduceLeDiff, List.all_cons, List.all_nil, List.drop_zero, List.drop_succ_cons, List.take_succ_cons, List.take_zero, List.cons_append, List.nil_append, List.append_nil, splice, List.take_nil, List.drop_nil, hg5, x4, x5, h7, z0, p0, e0, ret_shape_rules]
  all_goals refine ⟨rfl, ?_⟩
  all_goals first
    | (refine (qt _).thenW ?_
       rintro _ _ _ _ ⟨rfl, rfl⟩
       simp only [sxA, Nat.reduceBEq, List.map_cons, List.map_nil, ne_eq, not_false_eq_true, not_true_eq_false, Nat.reduceEqDiff, reduceCtorEq, cond_true, cond_false, Bool.not_true, Bool.not_false, Bool.not_not, mxA, if_true, if_false, Nat.reduceAdd, List.getElem?_cons_succ, List.getElem?_cons_zero, Option.some.injEq, exists_eq_left', eq_self, reduceIte, List.length_cons, List.length_nil, Nat.reduceLeDiff, List.all_cons, List.all_nil, List.drop_zero, List.drop_succ_cons, List.take_succ_cons, List.take_zero, List.cons_append, List.nil_append, List.append_nil, splice, List.take_nil, List.drop_nil, ret_shape_rules]
       refine ⟨fun _ _ => rfl, ?_⟩
       exact .mk (hx5.push _).next ⟨_, rfl, hx5.push _, by rw [Heap.get_push, if_pos rfl]; simp⟩)
    | exact .mk (hx5.push _).next ⟨_, rfl, hx5.push _, by rw [Heap.get_push, if_pos rfl]; simp⟩

end Go.Proofs.YtkoecjmmphmdeaaGreatDoor.code
