/- The law LayoutMoves: the walk and the law. -/
import Derived.Test.YtgoafcanccbflaaLaArgs
set_option linter.unusedVariables false
set_option linter.unusedSimpArgs false
set_option maxRecDepth 100000
namespace Go.Proofs.Ytgoafcanccbflaa.lay
open Go.Ab

/-! ### Another origin -/
theorem size_move {p : Pc} (hk : p.kind ≠ 3) (hok : p.kind = 1 ∨ p.kind = 2 ∨ p.kind = 3) (h h' : Int) (b : Bool) : sizeM p h b = sizeM p h' b := by
  unfold sizeM
  rcases hok with e | e | e
  · simp [e]
  · simp [e]
  · exact absurd e hk
theorem pos_move (l : List Pc) (nr : List Bool) (d : Int) (hk : ∀ p ∈ l, p.kind ≠ 3) (hok : ∀ p ∈ l, p.kind = 1 ∨ p.kind = 2 ∨ p.kind = 3) : ∀ h, posL l nr (h + d) = (posL l nr h).map (· + d) := by
  induction l generalizing nr with
  | nil => intro h; rfl
  | cons p l ih =>
    intro h
    have e := size_move (hk p (by simp)) (hok p (by simp)) (h + d) h (nr.headD false)
    simp only [posL, List.map_cons, e]
    congr 1
    rw [← ih nr.tail (fun q hq => hk q (by simp [hq])) (fun q hq => hok q (by simp [hq]))]
    congr 1
    omega
theorem getD_move (l : List Int) (d : Int) {i : Nat} (hi : i < l.length) : (l.map (· + d)).getD i 0 = l.getD i 0 + d := by
  simp [List.getD, List.getElem?_eq_getElem hi]

section
variable {l : List Pc} (hk : ∀ p ∈ l, p.kind ≠ 3) (hok : ∀ p ∈ l, PieceOk p l.length)
include hk hok
theorem far_move (nr : List Bool) (a b : Int) (i : Nat) (hi : i < l.length) (bits : Nat) : far l[i] (posL l nr a) i bits = far l[i] (posL l nr b) i bits := by
  have e := pos_move l nr (b - a) hk (fun p hp => (hok p hp).kind) a
  rw [show a + (b - a) = b by omega] at e
  unfold far
  by_cases h2 : l[i].kind = 2
  · have hbr := (hok l[i] (List.getElem_mem hi)).branch h2
    have hl := posL_length l nr a
    rw [e, getD_move _ _ (by omega), getD_move _ _ (by omega)]
    congr 3
    omega
  · have : (l[i].kind == 2) = false := by simpa using h2
    rw [this]; rfl
theorem turned_move (nr : List Bool) (a b : Int) (i : Nat) (hi : i < l.length) : turned l nr a i = turned l nr b i := by
  simp only [turned, List.getElem?_eq_getElem hi, far_move hk hok nr a b i hi 8]
theorem step_move (nr : List Bool) (a b : Int) : stepL l nr a = stepL l nr b := by
  unfold stepL
  apply List.map_congr_left
  intro i hi
  exact turned_move hk hok nr a b i (List.mem_range.1 hi)
theorem iter_move (a b : Int) : ∀ (f : Nat) (nr : List Bool) (ps : Int), iterL l a f nr ps = iterL l b f nr ps := by
  intro f
  induction f with
  | zero => intro nr ps; rfl
  | succ f ih =>
    intro nr ps
    simp only [iterL]
    rw [step_move hk hok nr a b, ih]
theorem fix_move (a b : Int) : fixL l a = fixL l b := iter_move hk hok a b _ _ _
theorem any_move (nr : List Bool) (a b : Int) : anyFar l nr a l.length = anyFar l nr b l.length := by
  unfold anyFar
  rw [Bool.eq_iff_iff]
  simp only [List.any_eq_true, List.mem_range]
  constructor
  · rintro ⟨i, hi, h⟩
    refine ⟨i, hi, ?_⟩
    rw [List.getElem?_eq_getElem hi] at h ⊢
    simpa only [far_move hk hok nr b a i hi 32] using h
  · rintro ⟨i, hi, h⟩
    refine ⟨i, hi, ?_⟩
    rw [List.getElem?_eq_getElem hi] at h ⊢
    simpa only [far_move hk hok nr a b i hi 32] using h
end

theorem plan_move (l : List Pc) (hk : ∀ p ∈ l, p.kind ≠ 3) (a b : Int) (ha : 0 ≤ a ∧ a ≤ 140737488355328) (hb : 0 ≤ b ∧ b ≤ 140737488355328) :
    planE l a = planE l b ∧ (planE l a = 0 → fixL l a = fixL l b ∧ ∀ i, i ≤ l.length → (posL l (fixL l a).1 a).getD i 0 - a = (posL l (fixL l b).1 b).getD i 0 - b) := by
  by_cases hc : checkM validR l = 0
  · obtain ⟨_, hok⟩ := check_ok hc
    have hf := fix_move hk hok a b
    have hpos : ∀ i, i ≤ l.length → (posL l (fixL l a).1 a).getD i 0 - a = (posL l (fixL l b).1 b).getD i 0 - b := fun i hi => by
      have e := pos_move l (fixL l a).1 (b - a) hk (fun p hp => (hok p hp).kind) a
      rw [show a + (b - a) = b by omega] at e
      have hl := posL_length l (fixL l a).1 a
      rw [← hf, e, getD_move _ _ (by omega)]
      omega
    refine ⟨?_, fun _ => ⟨hf, hpos⟩⟩
    have h1 := hpos l.length (Nat.le_refl _)
    have h2 : anyFar l (fixL l a).1 a l.length = anyFar l (fixL l b).1 b l.length := by rw [any_move hk hok _ a b, hf]
    unfold planE
    have na : ¬ (a < 0 ∨ 140737488355328 < a) := by omega
    have nb : ¬ (b < 0 ∨ 140737488355328 < b) := by omega
    simp only [hc, ne_eq, not_true_eq_false, if_false, na, nb, h1, h2]
  · have e : ∀ o, planE l o = checkM validR l := fun o => by simp [planE, hc]
    exact ⟨by rw [e, e], fun h => by rw [e] at h; exact absurd h hc⟩

/-- What a plan's lists are. -/
def atsOf (l : List Pc) (o : Int) : List Int := if planE l o = 0 then posL l (fixL l o).1 o else []
def nearOf (l : List Pc) (o : Int) : List Bool := if planE l o = 0 then (fixL l o).1 else []
def passOf (l : List Pc) (o : Int) : Int := if planE l o = 0 then (fixL l o).2 else 0

theorem iter_length (l : List Pc) (o : Int) : ∀ (f : Nat) (nr : List Bool) (ps : Int), nr.length = l.length → (iterL l o f nr ps).1.length = l.length := by
  intro f
  induction f with
  | zero => intro nr ps h; exact h
  | succ f ih =>
    intro nr ps h
    simp only [iterL]
    split
    · exact h
    · exact ih _ _ (stepL_length l nr o)
theorem fix_length (l : List Pc) (o : Int) : (fixL l o).1.length = l.length := iter_length l o _ _ _ (by simp)

/-- A plan, by its parts. -/
theorem Told.parts {H H' : Heap} {l : List Pc} {o : Int} {u : Value} (h : Told H H' l o u) : Ext H H' ∧ ∃ a1 n1 c1 a2 n2 c2, u = .tuple [.agg [.slice a1 n1 c1, .slice a2 n2 c2, .int .i64 (passOf l o)].toArray, .int .i64 (planE l o)].toArray ∧
    n1 = (atsOf l o).length ∧ n2 = (nearOf l o).length ∧ IsSl H' (.slice a1 n1 c1) (atsOf l o).length (ints (atsOf l o)) ∧ IsSl H' (.slice a2 n2 c2) (nearOf l o).length (bools (nearOf l o)) := by
  obtain ⟨hx, ⟨he, rfl⟩ | ⟨he, ab, nb, rfl, ha, hb, _⟩⟩ := h
  · refine ⟨hx, none, 0, 0, none, 0, 0, ?_, by simp [atsOf, he], by simp [nearOf, he], ⟨none, 0, by simp [atsOf, he], fun h => by simp [atsOf, he] at h⟩, ⟨none, 0, by simp [nearOf, he], fun h => by simp [nearOf, he] at h⟩⟩
    simp [passOf, he, emptyPlan]
  · have e1 : (atsOf l o) = posL l (fixL l o).1 o := by simp [atsOf, he]
    have e2 : (nearOf l o) = (fixL l o).1 := by simp [nearOf, he]
    have e3 : passOf l o = (fixL l o).2 := by simp [passOf, he]
    rw [e1, e2, e3]
    refine ⟨hx, some ⟨ab, 0, none⟩, l.length + 1, l.length + 1, some ⟨nb, 0, none⟩, l.length, l.length, by rw [he], (posL_length _ _ _).symm, (fix_length l o).symm, ⟨_, _, by rw [posL_length], fun _ => ⟨ab, _, _, rfl, ha⟩⟩, ⟨_, _, by rw [fix_length], fun _ => ⟨nb, _, _, rfl, hb⟩⟩⟩

theorem q4 (v : Value) (l : List Pc) (hl : ∀ p ∈ l, p.ok) (a b : Int) (ha : I64 a) (hb : I64 b) (H : Heap) (hv : IsSl H v l.length (cellsP l)) :
    CallQ Try.prog 4 [v, .int .i64 a, .int .i64 b] H fun u H' => u = .bool true ∧ Ext H H' := by
  refine in4 fun hw => ?_
  have hv0 := hv
  obtain ⟨sa, cap, rfl, hsl⟩ := hv0
  simp only [pc4, pexec_skip, pexec_ret, pexec_exit, pexec_ops, pexec_seq, pexec_block, kp_ret, kp_ext, exK_this, exK_other, pexec_cond, cV_bool, cB_true, cB_false, pops_nil, pops_cons, pops_guard, popsK_some, popsK_none, gV_bool, gV_undef, gB_true, gB_false, bt, bf, upd_this, upd_red, Nat.reduceBEq, updO_some, updO_none, ev_t, ev_const, ev_global, ev_func, pr_mv, pr_pick, pickK_bool, pr_bin, bin_add, bin_sub, bin_mul, bin_and, bin_or, bin_xor, bin_andNot, bin_eql, bin_neq, bin_lss, bin_leq, bin_gtr, bin_geq, bin_rem, bin_quo, bin_shl, bin_shr, bin_seq, bin_sne, bin_sadd, pr_beq, beqK_eq, beqK_ne, pr_eqs, pr_not, notK_bool, pr_toInt, toIntK_int, pr_mkIf, pr_fld, fldK_cell, fldK_agg, pr_fldA, fldAK_ptr, pr_idxS, idxK_slice, pr_chr, chrK_str, pr_ext, extK_0, extK_1, extK_2, pr_asrt, asrtK_yes, asrtK_no, asrtK_only, pr_build, buildK_some, rfill_nil, pr_bslice, bsliceK_some, bfill_nil, evP_mk, pr_alloc, pr_box, pr_mkSl, mkSlK_int, pr_slS, slK_some, bndOf_none, bndOf_some, pr_ld, pr_ld_fl, ldK_ptr, ldB_cell, ldB_agg, pr_st, stoK_ptr, stoB_cells, pr_lenS, lenSK_slice, pr_lenT, lenTK_str, pr_app, pr_call, pr_call_st, flK_apply, stK_apply, List.map_cons, List.map_nil, ne_eq, not_false_eq_true, not_true_eq_false, Nat.reduceEqDiff, reduceCtorEq, cond_true, cond_false, Bool.not_true, Bool.not_false, Bool.not_not, ldR_ptr, ldRB_agg, ldRB_cell, Heap.get_push, Heap.next_push, Heap.get_set, Heap.next_set, Heap.get_up, Heap.next_up, if_true, if_false, Nat.reduceAdd, Nat.zero_add, Nat.add_zero, List.getElem?_cons_succ, List.getElem?_cons_zero, Option.some.injEq, exists_eq_left', eq_self, true_and, and_true, cellsV_agg, cellsV_int, cellsV_bool, cellsV_slice, cellsV_iface, reduceIte, Nat.add_eq_left, Nat.left_eq_add, Nat.succ_ne_self, List.length_cons, List.length_nil, Nat.reduceLeDiff, List.all_cons, List.all_nil, oneCell_int, oneCell_bool, oneCell_slice, oneCell_iface, Bool.and_self, List.drop_zero, List.drop_succ_cons, List.take_succ_cons, List.take_zero, List.cons_append, List.nil_append, List.append_nil, splice, rfill_cons, List.take_nil, List.drop_nil, bfill_cons, Nat.mul_one, Nat.zero_mul, Nat.one_mul]
  refine (q16 H).mono ?_
  rintro _ Hx ⟨rfl, hx⟩
  subst Hx
  simp only [pexec_skip, pexec_ret, pexec_exit, pexec_ops, pexec_seq, pexec_block, kp_ret, kp_ext, exK_this, exK_other, pexec_cond, cV_bool, cB_true, cB_false, pops_nil, pops_cons, pops_guard, popsK_some, popsK_none, gV_bool, gV_undef, gB_true, gB_false, bt, bf, upd_this, upd_red, Nat.reduceBEq, updO_some, updO_none, ev_t, ev_const, ev_global, ev_func, pr_mv, pr_pick, pickK_bool, pr_bin, bin_add, bin_sub, bin_mul, bin_and, bin_or, bin_xor, bin_andNot, bin_eql, bin_neq, bin_lss, bin_leq, bin_gtr, bin_geq, bin_rem, bin_quo, bin_shl, bin_shr, bin_seq, bin_sne, bin_sadd, pr_beq, beqK_eq, beqK_ne, pr_eqs, pr_not, notK_bool, pr_toInt, toIntK_int, pr_mkIf, pr_fld, fldK_cell, fldK_agg, pr_fldA, fldAK_ptr, pr_idxS, idxK_slice, pr_chr, chrK_str, pr_ext, extK_0, extK_1, extK_2, pr_asrt, asrtK_yes, asrtK_no, asrtK_only, pr_build, buildK_some, rfill_nil, pr_bslice, bsliceK_some, bfill_nil, evP_mk, pr_alloc, pr_box, pr_mkSl, mkSlK_int, pr_slS, slK_some, bndOf_none, bndOf_some, pr_ld, pr_ld_fl, ldK_ptr, ldB_cell, ldB_agg, pr_st, stoK_ptr, stoB_cells, pr_lenS, lenSK_slice, pr_lenT, lenTK_str, pr_app, pr_call, pr_call_st, flK_apply, stK_apply, List.map_cons, List.map_nil, ne_eq, not_false_eq_true, not_true_eq_false, Nat.reduceEqDiff, reduceCtorEq, cond_true, cond_false, Bool.not_true, Bool.not_false, Bool.not_not, ldR_ptr, ldRB_agg, ldRB_cell, Heap.get_push, Heap.next_push, Heap.get_set, Heap.next_set, Heap.get_up, Heap.next_up, if_true, if_false, Nat.reduceAdd, Nat.zero_add, Nat.add_zero, List.getElem?_cons_succ, List.getElem?_cons_zero, Option.some.injEq, exists_eq_left', eq_self, true_and, and_true, cellsV_agg, cellsV_int, cellsV_bool, cellsV_slice, cellsV_iface, reduceIte, Nat.add_eq_left, Nat.left_eq_add, Nat.succ_ne_self, List.length_cons, List.length_nil, Nat.reduceLeDiff, List.all_cons, List.all_nil, oneCell_int, oneCell_bool, oneCell_slice, oneCell_iface, Bool.and_self, List.drop_zero, List.drop_succ_cons, List.take_succ_cons, List.take_zero, List.cons_append, List.nil_append, List.append_nil, splice, rfill_cons, List.take_nil, List.drop_nil, bfill_cons, Nat.mul_one, Nat.zero_mul, Nat.one_mul]
  refine cB_cases (fun h1 => ?_) (fun h1 => ?_)
  · simp only [pexec_skip, pexec_ret, pexec_exit, pexec_ops, pexec_seq, pexec_block, kp_ret, kp_ext, exK_this, exK_other, pexec_cond, cV_bool, cB_true, cB_false, pops_nil, pops_cons, pops_guard, popsK_some, popsK_none, gV_bool, gV_undef, gB_true, gB_false, bt, bf, upd_this, upd_red, Nat.reduceBEq, updO_some, updO_none, ev_t, ev_const, ev_global, ev_func, pr_mv, pr_pick, pickK_bool, pr_bin, bin_add, bin_sub, bin_mul, bin_and, bin_or, bin_xor, bin_andNot, bin_eql, bin_neq, bin_lss, bin_leq, bin_gtr, bin_geq, bin_rem, bin_quo, bin_shl, bin_shr, bin_seq, bin_sne, bin_sadd, pr_beq, beqK_eq, beqK_ne, pr_eqs, pr_not, notK_bool, pr_toInt, toIntK_int, pr_mkIf, pr_fld, fldK_cell, fldK_agg, pr_fldA, fldAK_ptr, pr_idxS, idxK_slice, pr_chr, chrK_str, pr_ext, extK_0, extK_1, extK_2, pr_asrt, asrtK_yes, asrtK_no, asrtK_only, pr_build, buildK_some, rfill_nil, pr_bslice, bsliceK_some, bfill_nil, evP_mk, pr_alloc, pr_box, pr_mkSl, mkSlK_int, pr_slS, slK_some, bndOf_none, bndOf_some, pr_ld, pr_ld_fl, ldK_ptr, ldB_cell, ldB_agg, pr_st, stoK_ptr, stoB_cells, pr_lenS, lenSK_slice, pr_lenT, lenTK_str, pr_app, pr_call, pr_call_st, flK_apply, stK_apply, List.map_cons, List.map_nil, ne_eq, not_false_eq_true, not_true_eq_false, Nat.reduceEqDiff, reduceCtorEq, cond_true, cond_false, Bool.not_true, Bool.not_false, Bool.not_not, ldR_ptr, ldRB_agg, ldRB_cell, Heap.get_push, Heap.next_push, Heap.get_set, Heap.next_set, Heap.get_up, Heap.next_up, if_true, if_false, Nat.reduceAdd, Nat.zero_add, Nat.add_zero, List.getElem?_cons_succ, List.getElem?_cons_zero, Option.some.injEq, exists_eq_left', eq_self, true_and, and_true, cellsV_agg, cellsV_int, cellsV_bool, cellsV_slice, cellsV_iface, reduceIte, Nat.add_eq_left, Nat.left_eq_add, Nat.succ_ne_self, List.length_cons, List.length_nil, Nat.reduceLeDiff, List.all_cons, List.all_nil, oneCell_int, oneCell_bool, oneCell_slice, oneCell_iface, Bool.and_self, List.drop_zero, List.drop_succ_cons, List.take_succ_cons, List.take_zero, List.cons_append, List.nil_append, List.append_nil, splice, rfill_cons, List.take_nil, List.drop_nil, bfill_cons, Nat.mul_one, Nat.zero_mul, Nat.one_mul, ret4]
    exact .mk (Nat.le_refl _) ⟨rfl, .refl _⟩
  · have h1 : l.length ≤ 200 := by have := of_decide_eq_false h1; omega
    simp only [pexec_skip, pexec_ret, pexec_exit, pexec_ops, pexec_seq, pexec_block, kp_ret, kp_ext, exK_this, exK_other, pexec_cond, cV_bool, cB_true, cB_false, pops_nil, pops_cons, pops_guard, popsK_some, popsK_none, gV_bool, gV_undef, gB_true, gB_false, bt, bf, upd_this, upd_red, Nat.reduceBEq, updO_some, updO_none, ev_t, ev_const, ev_global, ev_func, pr_mv, pr_pick, pickK_bool, pr_bin, bin_add, bin_sub, bin_mul, bin_and, bin_or, bin_xor, bin_andNot, bin_eql, bin_neq, bin_lss, bin_leq, bin_gtr, bin_geq, bin_rem, bin_quo, bin_shl, bin_shr, bin_seq, bin_sne, bin_sadd, pr_beq, beqK_eq, beqK_ne, pr_eqs, pr_not, notK_bool, pr_toInt, toIntK_int, pr_mkIf, pr_fld, fldK_cell, fldK_agg, pr_fldA, fldAK_ptr, pr_idxS, idxK_slice, pr_chr, chrK_str, pr_ext, extK_0, extK_1, extK_2, pr_asrt, asrtK_yes, asrtK_no, asrtK_only, pr_build, buildK_some, rfill_nil, pr_bslice, bsliceK_some, bfill_nil, evP_mk, pr_alloc, pr_box, pr_mkSl, mkSlK_int, pr_slS, slK_some, bndOf_none, bndOf_some, pr_ld, pr_ld_fl, ldK_ptr, ldB_cell, ldB_agg, pr_st, stoK_ptr, stoB_cells, pr_lenS, lenSK_slice, pr_lenT, lenTK_str, pr_app, pr_call, pr_call_st, flK_apply, stK_apply, List.map_cons, List.map_nil, ne_eq, not_false_eq_true, not_true_eq_false, Nat.reduceEqDiff, reduceCtorEq, cond_true, cond_false, Bool.not_true, Bool.not_false, Bool.not_not, ldR_ptr, ldRB_agg, ldRB_cell, Heap.get_push, Heap.next_push, Heap.get_set, Heap.next_set, Heap.get_up, Heap.next_up, if_true, if_false, Nat.reduceAdd, Nat.zero_add, Nat.add_zero, List.getElem?_cons_succ, List.getElem?_cons_zero, Option.some.injEq, exists_eq_left', eq_self, true_and, and_true, cellsV_agg, cellsV_int, cellsV_bool, cellsV_slice, cellsV_iface, reduceIte, Nat.add_eq_left, Nat.left_eq_add, Nat.succ_ne_self, List.length_cons, List.length_nil, Nat.reduceLeDiff, List.all_cons, List.all_nil, oneCell_int, oneCell_bool, oneCell_slice, oneCell_iface, Bool.and_self, List.drop_zero, List.drop_succ_cons, List.take_succ_cons, List.take_zero, List.cons_append, List.nil_append, List.append_nil, splice, rfill_cons, List.take_nil, List.drop_nil, bfill_cons, Nat.mul_one, Nat.zero_mul, Nat.one_mul]
    refine loop_intro (fun m A' H' => ∃ i : Nat, i ≤ l.length ∧ m = l.length - i ∧ H' = H ∧ (∀ j p, j < i → l[j]? = some p → p.kind ≠ 3) ∧ A' 0 = .slice sa l.length cap ∧ A' 1 = .int .i64 a ∧ A' 2 = .int .i64 b ∧ A' 7 = .bool true ∧ A' 8 = .int .i64 i) l.length ?_ ?_
    · refine ⟨0, Nat.zero_le _, by omega, rfl, fun j p h => by omega, ?_, ?_, ?_, ?_, ?_⟩
      all_goals simp only [upd_this, upd_red, Nat.reduceBEq, updO_some, updO_none, ev_t, ev_const, cond_true, cond_false]
      rfl
    · rintro m A' H' ⟨i, hi, rfl, hEq, hall, r0, r1, r2, r7, r8⟩
      subst H'
      simp only [pexec_skip, pexec_ret, pexec_exit, pexec_ops, pexec_seq, pexec_block, kp_ret, kp_ext, exK_this, exK_other, pexec_cond, cV_bool, cB_true, cB_false, pops_nil, pops_cons, pops_guard, popsK_some, popsK_none, gV_bool, gV_undef, gB_true, gB_false, bt, bf, upd_this, upd_red, Nat.reduceBEq, updO_some, updO_none, ev_t, ev_const, ev_global, ev_func, pr_mv, pr_pick, pickK_bool, pr_bin, bin_add, bin_sub, bin_mul, bin_and, bin_or, bin_xor, bin_andNot, bin_eql, bin_neq, bin_lss, bin_leq, bin_gtr, bin_geq, bin_rem, bin_quo, bin_shl, bin_shr, bin_seq, bin_sne, bin_sadd, pr_beq, beqK_eq, beqK_ne, pr_eqs, pr_not, notK_bool, pr_toInt, toIntK_int, pr_mkIf, pr_fld, fldK_cell, fldK_agg, pr_fldA, fldAK_ptr, pr_idxS, idxK_slice, pr_chr, chrK_str, pr_ext, extK_0, extK_1, extK_2, pr_asrt, asrtK_yes, asrtK_no, asrtK_only, pr_build, buildK_some, rfill_nil, pr_bslice, bsliceK_some, bfill_nil, evP_mk, pr_alloc, pr_box, pr_mkSl, mkSlK_int, pr_slS, slK_some, bndOf_none, bndOf_some, pr_ld, pr_ld_fl, ldK_ptr, ldB_cell, ldB_agg, pr_st, stoK_ptr, stoB_cells, pr_lenS, lenSK_slice, pr_lenT, lenTK_str, pr_app, pr_call, pr_call_st, flK_apply, stK_apply, List.map_cons, List.map_nil, ne_eq, not_false_eq_true, not_true_eq_false, Nat.reduceEqDiff, reduceCtorEq, cond_true, cond_false, Bool.not_true, Bool.not_false, Bool.not_not, ldR_ptr, ldRB_agg, ldRB_cell, Heap.get_push, Heap.next_push, Heap.get_set, Heap.next_set, Heap.get_up, Heap.next_up, if_true, if_false, Nat.reduceAdd, Nat.zero_add, Nat.add_zero, List.getElem?_cons_succ, List.getElem?_cons_zero, Option.some.injEq, exists_eq_left', eq_self, true_and, and_true, cellsV_agg, cellsV_int, cellsV_bool, cellsV_slice, cellsV_iface, reduceIte, Nat.add_eq_left, Nat.left_eq_add, Nat.succ_ne_self, List.length_cons, List.length_nil, Nat.reduceLeDiff, List.all_cons, List.all_nil, oneCell_int, oneCell_bool, oneCell_slice, oneCell_iface, Bool.and_self, List.drop_zero, List.drop_succ_cons, List.take_succ_cons, List.take_zero, List.cons_append, List.nil_append, List.append_nil, splice, rfill_cons, List.take_nil, List.drop_nil, bfill_cons, Nat.mul_one, Nat.zero_mul, Nat.one_mul, r0, r1, r2, r7, r8]
      refine cB_cases (fun h2 => ?_) (fun h2 => ?_)
      · have h2 : i < l.length := by have := of_decide_eq_true h2; omega
        obtain ⟨b0, e0, ro, rfl, hb0⟩ := hsl (by omega)
        have c1 : (0 : Int) ≤ i ∧ (i : Int) < l.length := by omega
        have c3 : (i : Int).toNat = i := by omega
        have ei : IntKind.i64.wrap ((i : Int) + 1) = ((i + 1 : Nat) : Int) := by rw [w64 (by unfold I64; omega)]; omega
        have hp := List.getElem?_eq_getElem h2
        have g0 := cellsP_cell l i 0 _ hp (by decide)
        rw [Nat.add_zero, cg0] at g0
        simp only [pexec_skip, pexec_ret, pexec_exit, pexec_ops, pexec_seq, pexec_block, kp_ret, kp_ext, exK_this, exK_other, pexec_cond, cV_bool, cB_true, cB_false, pops_nil, pops_cons, pops_guard, popsK_some, popsK_none, gV_bool, gV_undef, gB_true, gB_false, bt, bf, upd_this, upd_red, Nat.reduceBEq, updO_some, updO_none, ev_t, ev_const, ev_global, ev_func, pr_mv, pr_pick, pickK_bool, pr_bin, bin_add, bin_sub, bin_mul, bin_and, bin_or, bin_xor, bin_andNot, bin_eql, bin_neq, bin_lss, bin_leq, bin_gtr, bin_geq, bin_rem, bin_quo, bin_shl, bin_shr, bin_seq, bin_sne, bin_sadd, pr_beq, beqK_eq, beqK_ne, pr_eqs, pr_not, notK_bool, pr_toInt, toIntK_int, pr_mkIf, pr_fld, fldK_cell, fldK_agg, pr_fldA, fldAK_ptr, pr_idxS, idxK_slice, pr_chr, chrK_str, pr_ext, extK_0, extK_1, extK_2, pr_asrt, asrtK_yes, asrtK_no, asrtK_only, pr_build, buildK_some, rfill_nil, pr_bslice, bsliceK_some, bfill_nil, evP_mk, pr_alloc, pr_box, pr_mkSl, mkSlK_int, pr_slS, slK_some, bndOf_none, bndOf_some, pr_ld, pr_ld_fl, ldK_ptr, ldB_cell, ldB_agg, pr_st, stoK_ptr, stoB_cells, pr_lenS, lenSK_slice, pr_lenT, lenTK_str, pr_app, pr_call, pr_call_st, flK_apply, stK_apply, List.map_cons, List.map_nil, ne_eq, not_false_eq_true, not_true_eq_false, Nat.reduceEqDiff, reduceCtorEq, cond_true, cond_false, Bool.not_true, Bool.not_false, Bool.not_not, ldR_ptr, ldRB_agg, ldRB_cell, Heap.get_push, Heap.next_push, Heap.get_set, Heap.next_set, Heap.get_up, Heap.next_up, if_true, if_false, Nat.reduceAdd, Nat.zero_add, Nat.add_zero, List.getElem?_cons_succ, List.getElem?_cons_zero, Option.some.injEq, exists_eq_left', eq_self, true_and, and_true, cellsV_agg, cellsV_int, cellsV_bool, cellsV_slice, cellsV_iface, reduceIte, Nat.add_eq_left, Nat.left_eq_add, Nat.succ_ne_self, List.length_cons, List.length_nil, Nat.reduceLeDiff, List.all_cons, List.all_nil, oneCell_int, oneCell_bool, oneCell_slice, oneCell_iface, Bool.and_self, List.drop_zero, List.drop_succ_cons, List.take_succ_cons, List.take_zero, List.cons_append, List.nil_append, List.append_nil, splice, rfill_cons, List.take_nil, List.drop_nil, bfill_cons, Nat.mul_one, Nat.zero_mul, Nat.one_mul, r0, r1, r2, r7, r8, c1, c3, hb0, g0]
        refine cB_cases (fun h3 => ?_) (fun h3 => ?_)
        · simp only [pexec_skip, pexec_ret, pexec_exit, pexec_ops, pexec_seq, pexec_block, kp_ret, kp_ext, exK_this, exK_other, pexec_cond, cV_bool, cB_true, cB_false, pops_nil, pops_cons, pops_guard, popsK_some, popsK_none, gV_bool, gV_undef, gB_true, gB_false, bt, bf, upd_this, upd_red, Nat.reduceBEq, updO_some, updO_none, ev_t, ev_const, ev_global, ev_func, pr_mv, pr_pick, pickK_bool, pr_bin, bin_add, bin_sub, bin_mul, bin_and, bin_or, bin_xor, bin_andNot, bin_eql, bin_neq, bin_lss, bin_leq, bin_gtr, bin_geq, bin_rem, bin_quo, bin_shl, bin_shr, bin_seq, bin_sne, bin_sadd, pr_beq, beqK_eq, beqK_ne, pr_eqs, pr_not, notK_bool, pr_toInt, toIntK_int, pr_mkIf, pr_fld, fldK_cell, fldK_agg, pr_fldA, fldAK_ptr, pr_idxS, idxK_slice, pr_chr, chrK_str, pr_ext, extK_0, extK_1, extK_2, pr_asrt, asrtK_yes, asrtK_no, asrtK_only, pr_build, buildK_some, rfill_nil, pr_bslice, bsliceK_some, bfill_nil, evP_mk, pr_alloc, pr_box, pr_mkSl, mkSlK_int, pr_slS, slK_some, bndOf_none, bndOf_some, pr_ld, pr_ld_fl, ldK_ptr, ldB_cell, ldB_agg, pr_st, stoK_ptr, stoB_cells, pr_lenS, lenSK_slice, pr_lenT, lenTK_str, pr_app, pr_call, pr_call_st, flK_apply, stK_apply, List.map_cons, List.map_nil, ne_eq, not_false_eq_true, not_true_eq_false, Nat.reduceEqDiff, reduceCtorEq, cond_true, cond_false, Bool.not_true, Bool.not_false, Bool.not_not, ldR_ptr, ldRB_agg, ldRB_cell, Heap.get_push, Heap.next_push, Heap.get_set, Heap.next_set, Heap.get_up, Heap.next_up, if_true, if_false, Nat.reduceAdd, Nat.zero_add, Nat.add_zero, List.getElem?_cons_succ, List.getElem?_cons_zero, Option.some.injEq, exists_eq_left', eq_self, true_and, and_true, cellsV_agg, cellsV_int, cellsV_bool, cellsV_slice, cellsV_iface, reduceIte, Nat.add_eq_left, Nat.left_eq_add, Nat.succ_ne_self, List.length_cons, List.length_nil, Nat.reduceLeDiff, List.all_cons, List.all_nil, oneCell_int, oneCell_bool, oneCell_slice, oneCell_iface, Bool.and_self, List.drop_zero, List.drop_succ_cons, List.take_succ_cons, List.take_zero, List.cons_append, List.nil_append, List.append_nil, splice, rfill_cons, List.take_nil, List.drop_nil, bfill_cons, Nat.mul_one, Nat.zero_mul, Nat.one_mul, r7, ret4]
          exact .mk (Nat.le_refl _) ⟨rfl, .refl _⟩
        · have h3 : ¬ l[i].kind = 3 := by simpa using h3
          simp only [pexec_skip, pexec_ret, pexec_exit, pexec_ops, pexec_seq, pexec_block, kp_ret, kp_ext, exK_this, exK_other, pexec_cond, cV_bool, cB_true, cB_false, pops_nil, pops_cons, pops_guard, popsK_some, popsK_none, gV_bool, gV_undef, gB_true, gB_false, bt, bf, upd_this, upd_red, Nat.reduceBEq, updO_some, updO_none, ev_t, ev_const, ev_global, ev_func, pr_mv, pr_pick, pickK_bool, pr_bin, bin_add, bin_sub, bin_mul, bin_and, bin_or, bin_xor, bin_andNot, bin_eql, bin_neq, bin_lss, bin_leq, bin_gtr, bin_geq, bin_rem, bin_quo, bin_shl, bin_shr, bin_seq, bin_sne, bin_sadd, pr_beq, beqK_eq, beqK_ne, pr_eqs, pr_not, notK_bool, pr_toInt, toIntK_int, pr_mkIf, pr_fld, fldK_cell, fldK_agg, pr_fldA, fldAK_ptr, pr_idxS, idxK_slice, pr_chr, chrK_str, pr_ext, extK_0, extK_1, extK_2, pr_asrt, asrtK_yes, asrtK_no, asrtK_only, pr_build, buildK_some, rfill_nil, pr_bslice, bsliceK_some, bfill_nil, evP_mk, pr_alloc, pr_box, pr_mkSl, mkSlK_int, pr_slS, slK_some, bndOf_none, bndOf_some, pr_ld, pr_ld_fl, ldK_ptr, ldB_cell, ldB_agg, pr_st, stoK_ptr, stoB_cells, pr_lenS, lenSK_slice, pr_lenT, lenTK_str, pr_app, pr_call, pr_call_st, flK_apply, stK_apply, List.map_cons, List.map_nil, ne_eq, not_false_eq_true, not_true_eq_false, Nat.reduceEqDiff, reduceCtorEq, cond_true, cond_false, Bool.not_true, Bool.not_false, Bool.not_not, ldR_ptr, ldRB_agg, ldRB_cell, Heap.get_push, Heap.next_push, Heap.get_set, Heap.next_set, Heap.get_up, Heap.next_up, if_true, if_false, Nat.reduceAdd, Nat.zero_add, Nat.add_zero, List.getElem?_cons_succ, List.getElem?_cons_zero, Option.some.injEq, exists_eq_left', eq_self, true_and, and_true, cellsV_agg, cellsV_int, cellsV_bool, cellsV_slice, cellsV_iface, reduceIte, Nat.add_eq_left, Nat.left_eq_add, Nat.succ_ne_self, List.length_cons, List.length_nil, Nat.reduceLeDiff, List.all_cons, List.all_nil, oneCell_int, oneCell_bool, oneCell_slice, oneCell_iface, Bool.and_self, List.drop_zero, List.drop_succ_cons, List.take_succ_cons, List.take_zero, List.cons_append, List.nil_append, List.append_nil, splice, rfill_cons, List.take_nil, List.drop_nil, bfill_cons, Nat.mul_one, Nat.zero_mul, Nat.one_mul, r8, ei]
          refine ⟨l.length - (i + 1), by omega, i + 1, by omega, rfl, rfl, fun j p hj hp' => ?_, ?_, ?_, ?_, ?_, ?_⟩
          · rcases Nat.lt_or_ge j i with h | h
            · exact hall j p h hp'
            · obtain rfl : j = i := by omega
              rw [hp] at hp'; cases hp'; exact h3
          all_goals simp only [upd_this, upd_red, Nat.reduceBEq, updO_some, updO_none, ev_t, ev_const, cond_true, cond_false, r0, r1, r2, r7]
      · have h2 : i = l.length := by have := of_decide_eq_false h2; omega
        subst h2
        have hk : ∀ p ∈ l, p.kind ≠ 3 := fun p hp => by
          obtain ⟨j, hj⟩ := List.getElem?_of_mem hp
          exact hall j p (List.getElem?_eq_some_iff.1 hj).1 hj
        simp only [pexec_skip, pexec_ret, pexec_exit, pexec_ops, pexec_seq, pexec_block, kp_ret, kp_ext, exK_this, exK_other, pexec_cond, cV_bool, cB_true, cB_false, pops_nil, pops_cons, pops_guard, popsK_some, popsK_none, gV_bool, gV_undef, gB_true, gB_false, bt, bf, upd_this, upd_red, Nat.reduceBEq, updO_some, updO_none, ev_t, ev_const, ev_global, ev_func, pr_mv, pr_pick, pickK_bool, pr_bin, bin_add, bin_sub, bin_mul, bin_and, bin_or, bin_xor, bin_andNot, bin_eql, bin_neq, bin_lss, bin_leq, bin_gtr, bin_geq, bin_rem, bin_quo, bin_shl, bin_shr, bin_seq, bin_sne, bin_sadd, pr_beq, beqK_eq, beqK_ne, pr_eqs, pr_not, notK_bool, pr_toInt, toIntK_int, pr_mkIf, pr_fld, fldK_cell, fldK_agg, pr_fldA, fldAK_ptr, pr_idxS, idxK_slice, pr_chr, chrK_str, pr_ext, extK_0, extK_1, extK_2, pr_asrt, asrtK_yes, asrtK_no, asrtK_only, pr_build, buildK_some, rfill_nil, pr_bslice, bsliceK_some, bfill_nil, evP_mk, pr_alloc, pr_box, pr_mkSl, mkSlK_int, pr_slS, slK_some, bndOf_none, bndOf_some, pr_ld, pr_ld_fl, ldK_ptr, ldB_cell, ldB_agg, pr_st, stoK_ptr, stoB_cells, pr_lenS, lenSK_slice, pr_lenT, lenTK_str, pr_app, pr_call, pr_call_st, flK_apply, stK_apply, List.map_cons, List.map_nil, ne_eq, not_false_eq_true, not_true_eq_false, Nat.reduceEqDiff, reduceCtorEq, cond_true, cond_false, Bool.not_true, Bool.not_false, Bool.not_not, ldR_ptr, ldRB_agg, ldRB_cell, Heap.get_push, Heap.next_push, Heap.get_set, Heap.next_set, Heap.get_up, Heap.next_up, if_true, if_false, Nat.reduceAdd, Nat.zero_add, Nat.add_zero, List.getElem?_cons_succ, List.getElem?_cons_zero, Option.some.injEq, exists_eq_left', eq_self, true_and, and_true, cellsV_agg, cellsV_int, cellsV_bool, cellsV_slice, cellsV_iface, reduceIte, Nat.add_eq_left, Nat.left_eq_add, Nat.succ_ne_self, List.length_cons, List.length_nil, Nat.reduceLeDiff, List.all_cons, List.all_nil, oneCell_int, oneCell_bool, oneCell_slice, oneCell_iface, Bool.and_self, List.drop_zero, List.drop_succ_cons, List.take_succ_cons, List.take_zero, List.cons_append, List.nil_append, List.append_nil, splice, rfill_cons, List.take_nil, List.drop_nil, bfill_cons, Nat.mul_one, Nat.zero_mul, Nat.one_mul, r0, r1, r2, r7]
        refine (q17 a 140737488355328 ha (by decide) _).mono ?_
        rintro _ Hx ⟨rfl, hx⟩
        subst Hx
        simp only [pexec_skip, pexec_ret, pexec_exit, pexec_ops, pexec_seq, pexec_block, kp_ret, kp_ext, exK_this, exK_other, pexec_cond, cV_bool, cB_true, cB_false, pops_nil, pops_cons, pops_guard, popsK_some, popsK_none, gV_bool, gV_undef, gB_true, gB_false, bt, bf, upd_this, upd_red, Nat.reduceBEq, updO_some, updO_none, ev_t, ev_const, ev_global, ev_func, pr_mv, pr_pick, pickK_bool, pr_bin, bin_add, bin_sub, bin_mul, bin_and, bin_or, bin_xor, bin_andNot, bin_eql, bin_neq, bin_lss, bin_leq, bin_gtr, bin_geq, bin_rem, bin_quo, bin_shl, bin_shr, bin_seq, bin_sne, bin_sadd, pr_beq, beqK_eq, beqK_ne, pr_eqs, pr_not, notK_bool, pr_toInt, toIntK_int, pr_mkIf, pr_fld, fldK_cell, fldK_agg, pr_fldA, fldAK_ptr, pr_idxS, idxK_slice, pr_chr, chrK_str, pr_ext, extK_0, extK_1, extK_2, pr_asrt, asrtK_yes, asrtK_no, asrtK_only, pr_build, buildK_some, rfill_nil, pr_bslice, bsliceK_some, bfill_nil, evP_mk, pr_alloc, pr_box, pr_mkSl, mkSlK_int, pr_slS, slK_some, bndOf_none, bndOf_some, pr_ld, pr_ld_fl, ldK_ptr, ldB_cell, ldB_agg, pr_st, stoK_ptr, stoB_cells, pr_lenS, lenSK_slice, pr_lenT, lenTK_str, pr_app, pr_call, pr_call_st, flK_apply, stK_apply, List.map_cons, List.map_nil, ne_eq, not_false_eq_true, not_true_eq_false, Nat.reduceEqDiff, reduceCtorEq, cond_true, cond_false, Bool.not_true, Bool.not_false, Bool.not_not, ldR_ptr, ldRB_agg, ldRB_cell, Heap.get_push, Heap.next_push, Heap.get_set, Heap.next_set, Heap.get_up, Heap.next_up, if_true, if_false, Nat.reduceAdd, Nat.zero_add, Nat.add_zero, List.getElem?_cons_succ, List.getElem?_cons_zero, Option.some.injEq, exists_eq_left', eq_self, true_and, and_true, cellsV_agg, cellsV_int, cellsV_bool, cellsV_slice, cellsV_iface, reduceIte, Nat.add_eq_left, Nat.left_eq_add, Nat.succ_ne_self, List.length_cons, List.length_nil, Nat.reduceLeDiff, List.all_cons, List.all_nil, oneCell_int, oneCell_bool, oneCell_slice, oneCell_iface, Bool.and_self, List.drop_zero, List.drop_succ_cons, List.take_succ_cons, List.take_zero, List.cons_append, List.nil_append, List.append_nil, splice, rfill_cons, List.take_nil, List.drop_nil, bfill_cons, Nat.mul_one, Nat.zero_mul, Nat.one_mul, r0, r1, r2, r7]
        refine (q17 b 140737488355328 hb (by decide) _).mono ?_
        rintro _ Hx ⟨rfl, hx⟩
        subst Hx
        have ra := Int.emod_nonneg a (by decide : (140737488355328 : Int) ≠ 0)
        have ra2 := Int.emod_lt_of_pos a (by decide : (0 : Int) < 140737488355328)
        have rb := Int.emod_nonneg b (by decide : (140737488355328 : Int) ≠ 0)
        have rb2 := Int.emod_lt_of_pos b (by decide : (0 : Int) < 140737488355328)
        generalize a % 140737488355328 = x at *
        generalize b % 140737488355328 = y at *
        simp only [pexec_skip, pexec_ret, pexec_exit, pexec_ops, pexec_seq, pexec_block, kp_ret, kp_ext, exK_this, exK_other, pexec_cond, cV_bool, cB_true, cB_false, pops_nil, pops_cons, pops_guard, popsK_some, popsK_none, gV_bool, gV_undef, gB_true, gB_false, bt, bf, upd_this, upd_red, Nat.reduceBEq, updO_some, updO_none, ev_t, ev_const, ev_global, ev_func, pr_mv, pr_pick, pickK_bool, pr_bin, bin_add, bin_sub, bin_mul, bin_and, bin_or, bin_xor, bin_andNot, bin_eql, bin_neq, bin_lss, bin_leq, bin_gtr, bin_geq, bin_rem, bin_quo, bin_shl, bin_shr, bin_seq, bin_sne, bin_sadd, pr_beq, beqK_eq, beqK_ne, pr_eqs, pr_not, notK_bool, pr_toInt, toIntK_int, pr_mkIf, pr_fld, fldK_cell, fldK_agg, pr_fldA, fldAK_ptr, pr_idxS, idxK_slice, pr_chr, chrK_str, pr_ext, extK_0, extK_1, extK_2, pr_asrt, asrtK_yes, asrtK_no, asrtK_only, pr_build, buildK_some, rfill_nil, pr_bslice, bsliceK_some, bfill_nil, evP_mk, pr_alloc, pr_box, pr_mkSl, mkSlK_int, pr_slS, slK_some, bndOf_none, bndOf_some, pr_ld, pr_ld_fl, ldK_ptr, ldB_cell, ldB_agg, pr_st, stoK_ptr, stoB_cells, pr_lenS, lenSK_slice, pr_lenT, lenTK_str, pr_app, pr_call, pr_call_st, flK_apply, stK_apply, List.map_cons, List.map_nil, ne_eq, not_false_eq_true, not_true_eq_false, Nat.reduceEqDiff, reduceCtorEq, cond_true, cond_false, Bool.not_true, Bool.not_false, Bool.not_not, ldR_ptr, ldRB_agg, ldRB_cell, Heap.get_push, Heap.next_push, Heap.get_set, Heap.next_set, Heap.get_up, Heap.next_up, if_true, if_false, Nat.reduceAdd, Nat.zero_add, Nat.add_zero, List.getElem?_cons_succ, List.getElem?_cons_zero, Option.some.injEq, exists_eq_left', eq_self, true_and, and_true, cellsV_agg, cellsV_int, cellsV_bool, cellsV_slice, cellsV_iface, reduceIte, Nat.add_eq_left, Nat.left_eq_add, Nat.succ_ne_self, List.length_cons, List.length_nil, Nat.reduceLeDiff, List.all_cons, List.all_nil, oneCell_int, oneCell_bool, oneCell_slice, oneCell_iface, Bool.and_self, List.drop_zero, List.drop_succ_cons, List.take_succ_cons, List.take_zero, List.cons_append, List.nil_append, List.append_nil, splice, rfill_cons, List.take_nil, List.drop_nil, bfill_cons, Nat.mul_one, Nat.zero_mul, Nat.one_mul, r0, r1, r2, r7]
        refine (q9 _ l hl x (by unfold I64; omega) _ hv).thenW ?_
        rintro u1 H1 hn1 hw1 ht1
        obtain ⟨hx1, a1, n1, c1, a2, n2, c2, rfl, hn1', hn2', hs1, hs2⟩ := ht1.parts
        simp only [pexec_skip, pexec_ret, pexec_exit, pexec_ops, pexec_seq, pexec_block, kp_ret, kp_ext, exK_this, exK_other, pexec_cond, cV_bool, cB_true, cB_false, pops_nil, pops_cons, pops_guard, popsK_some, popsK_none, gV_bool, gV_undef, gB_true, gB_false, bt, bf, upd_this, upd_red, Nat.reduceBEq, updO_some, updO_none, ev_t, ev_const, ev_global, ev_func, pr_mv, pr_pick, pickK_bool, pr_bin, bin_add, bin_sub, bin_mul, bin_and, bin_or, bin_xor, bin_andNot, bin_eql, bin_neq, bin_lss, bin_leq, bin_gtr, bin_geq, bin_rem, bin_quo, bin_shl, bin_shr, bin_seq, bin_sne, bin_sadd, pr_beq, beqK_eq, beqK_ne, pr_eqs, pr_not, notK_bool, pr_toInt, toIntK_int, pr_mkIf, pr_fld, fldK_cell, fldK_agg, pr_fldA, fldAK_ptr, pr_idxS, idxK_slice, pr_chr, chrK_str, pr_ext, extK_0, extK_1, extK_2, pr_asrt, asrtK_yes, asrtK_no, asrtK_only, pr_build, buildK_some, rfill_nil, pr_bslice, bsliceK_some, bfill_nil, evP_mk, pr_alloc, pr_box, pr_mkSl, mkSlK_int, pr_slS, slK_some, bndOf_none, bndOf_some, pr_ld, pr_ld_fl, ldK_ptr, ldB_cell, ldB_agg, pr_st, stoK_ptr, stoB_cells, pr_lenS, lenSK_slice, pr_lenT, lenTK_str, pr_app, pr_call, pr_call_st, flK_apply, stK_apply, List.map_cons, List.map_nil, ne_eq, not_false_eq_true, not_true_eq_false, Nat.reduceEqDiff, reduceCtorEq, cond_true, cond_false, Bool.not_true, Bool.not_false, Bool.not_not, ldR_ptr, ldRB_agg, ldRB_cell, Heap.get_push, Heap.next_push, Heap.get_set, Heap.next_set, Heap.get_up, Heap.next_up, if_true, if_false, Nat.reduceAdd, Nat.zero_add, Nat.add_zero, List.getElem?_cons_succ, List.getElem?_cons_zero, Option.some.injEq, exists_eq_left', eq_self, true_and, and_true, cellsV_agg, cellsV_int, cellsV_bool, cellsV_slice, cellsV_iface, reduceIte, Nat.add_eq_left, Nat.left_eq_add, Nat.succ_ne_self, List.length_cons, List.length_nil, Nat.reduceLeDiff, List.all_cons, List.all_nil, oneCell_int, oneCell_bool, oneCell_slice, oneCell_iface, Bool.and_self, List.drop_zero, List.drop_succ_cons, List.take_succ_cons, List.take_zero, List.cons_append, List.nil_append, List.append_nil, splice, rfill_cons, List.take_nil, List.drop_nil, bfill_cons, Nat.mul_one, Nat.zero_mul, Nat.one_mul, r0, r1, r2, r7]
        have hx1a : Ext H1 ((H1.push (.cells [.slice none 0 0, .slice none 0 0, .int .i64 0] 27 false)).set H1.next (.cells [.slice a1 n1 c1, .slice a2 n2 c2, .int .i64 (passOf l x)] 27 false)) := ((Ext.refl H1).push _).set (Nat.le_refl _) _
        refine (q9 _ l hl y (by unfold I64; omega) _ (hv.ext hw (hx1.trans hx1a))).thenW ?_
        rintro u2 H2 hn2 hw2 ht2
        obtain ⟨hx2, a3, n3, c3, a4, n4, c4, rfl, hn3', hn4', hs3, hs4⟩ := ht2.parts
        have hx2a : Ext H2 ((H2.push (.cells [.slice none 0 0, .slice none 0 0, .int .i64 0] 27 false)).set H2.next (.cells [.slice a3 n3 c3, .slice a4 n4 c4, .int .i64 (passOf l y)] 27 false)) := ((Ext.refl H2).push _).set (Nat.le_refl _) _
        have hlt : H1.next < H2.next := by simp at hn2; omega
        have hg1 : H2.get H1.next = some (.cells [.slice a1 n1 c1, .slice a2 n2 c2, .int .i64 (passOf l x)] 27 false) := by
          rw [hx2.get _ (by simp), Heap.get_set, if_pos rfl]
        have nn : (H1.next = H2.next) = False := by simp; omega
        obtain ⟨hm1, hm2⟩ := plan_move l hk x y (by omega) (by omega)
        have hne : nearOf l x = nearOf l y := by
          unfold nearOf; rw [← hm1]; split
          · rename_i h0; rw [(hm2 h0).1]
          · rfl
        have hpe : passOf l x = passOf l y := by
          unfold passOf; rw [← hm1]; split
          · rename_i h0; rw [(hm2 h0).1]
          · rfl
        have hat : (atsOf l x).length = (atsOf l y).length ∧ (atsOf l x).length ≤ 201 ∧ ∀ i, i < (atsOf l x).length → (0 ≤ (atsOf l x).getD i 0 ∧ (atsOf l x).getD i 0 ≤ 281474976710656 ∧ 0 ≤ (atsOf l y).getD i 0 ∧ (atsOf l y).getD i 0 ≤ 281474976710656) ∧ (atsOf l x).getD i 0 - x = (atsOf l y).getD i 0 - y := by
          unfold atsOf; rw [← hm1]; split
          · rename_i h0
            have hc : checkM validR l = 0 := by
              by_cases hc : checkM validR l = 0
              · exact hc
              · simp [planE, hc] at h0
            obtain ⟨_, hok⟩ := check_ok hc
            refine ⟨by rw [posL_length, posL_length], by rw [posL_length]; omega, fun i hi => ?_⟩
            rw [posL_length] at hi
            have b1 := posL_bound l (fixL l x).1 x l.length hok ra i (by omega)
            have b2 := posL_bound l (fixL l y).1 y l.length hok rb i (by omega)
            exact ⟨by omega, (hm2 h0).2 i (by omega)⟩
          · exact ⟨rfl, by simp, fun i hi => by simp at hi⟩
        have hnl : (nearOf l x).length ≤ 200 := by
          unfold nearOf; split
          · rw [fix_length]; omega
          · simp
        have e1 : ((n1 : Int) == (n3 : Int)) = true := by rw [hn1', hn3', hat.1]; simp
        simp only [pexec_skip, pexec_ret, pexec_exit, pexec_ops, pexec_seq, pexec_block, kp_ret, kp_ext, exK_this, exK_other, pexec_cond, cV_bool, cB_true, cB_false, pops_nil, pops_cons, pops_guard, popsK_some, popsK_none, gV_bool, gV_undef, gB_true, gB_false, bt, bf, upd_this, upd_red, Nat.reduceBEq, updO_some, updO_none, ev_t, ev_const, ev_global, ev_func, pr_mv, pr_pick, pickK_bool, pr_bin, bin_add, bin_sub, bin_mul, bin_and, bin_or, bin_xor, bin_andNot, bin_eql, bin_neq, bin_lss, bin_leq, bin_gtr, bin_geq, bin_rem, bin_quo, bin_shl, bin_shr, bin_seq, bin_sne, bin_sadd, pr_beq, beqK_eq, beqK_ne, pr_eqs, pr_not, notK_bool, pr_toInt, toIntK_int, pr_mkIf, pr_fld, fldK_cell, fldK_agg, pr_fldA, fldAK_ptr, pr_idxS, idxK_slice, pr_chr, chrK_str, pr_ext, extK_0, extK_1, extK_2, pr_asrt, asrtK_yes, asrtK_no, asrtK_only, pr_build, buildK_some, rfill_nil, pr_bslice, bsliceK_some, bfill_nil, evP_mk, pr_alloc, pr_box, pr_mkSl, mkSlK_int, pr_slS, slK_some, bndOf_none, bndOf_some, pr_ld, pr_ld_fl, ldK_ptr, ldB_cell, ldB_agg, pr_st, stoK_ptr, stoB_cells, pr_lenS, lenSK_slice, pr_lenT, lenTK_str, pr_app, pr_call, pr_call_st, flK_apply, stK_apply, List.map_cons, List.map_nil, ne_eq, not_false_eq_true, not_true_eq_false, Nat.reduceEqDiff, reduceCtorEq, cond_true, cond_false, Bool.not_true, Bool.not_false, Bool.not_not, ldR_ptr, ldRB_agg, ldRB_cell, Heap.get_push, Heap.next_push, Heap.get_set, Heap.next_set, Heap.get_up, Heap.next_up, if_true, if_false, Nat.reduceAdd, Nat.zero_add, Nat.add_zero, List.getElem?_cons_succ, List.getElem?_cons_zero, Option.some.injEq, exists_eq_left', eq_self, true_and, and_true, cellsV_agg, cellsV_int, cellsV_bool, cellsV_slice, cellsV_iface, reduceIte, Nat.add_eq_left, Nat.left_eq_add, Nat.succ_ne_self, List.length_cons, List.length_nil, Nat.reduceLeDiff, List.all_cons, List.all_nil, oneCell_int, oneCell_bool, oneCell_slice, oneCell_iface, Bool.and_self, List.drop_zero, List.drop_succ_cons, List.take_succ_cons, List.take_zero, List.cons_append, List.nil_append, List.append_nil, splice, rfill_cons, List.take_nil, List.drop_nil, bfill_cons, Nat.mul_one, Nat.zero_mul, Nat.one_mul, r0, r1, r2, r7, nn, hg1, hm1, beq_self_eq_true, e1]
        have hs2' := hs2.ext hw1 (hx1a.trans (hx2.trans hx2a))
        have hs4' := hs4.ext hw2 hx2a
        refine (q18 _ _ (nearOf l x) (nearOf l y) _ hs2' hs4' (by omega) (by rw [← hne]; omega)).mono ?_
        rintro _ Hx ⟨rfl, hx⟩
        subst Hx
        simp only [pexec_skip, pexec_ret, pexec_exit, pexec_ops, pexec_seq, pexec_block, kp_ret, kp_ext, exK_this, exK_other, pexec_cond, cV_bool, cB_true, cB_false, pops_nil, pops_cons, pops_guard, popsK_some, popsK_none, gV_bool, gV_undef, gB_true, gB_false, bt, bf, upd_this, upd_red, Nat.reduceBEq, updO_some, updO_none, ev_t, ev_const, ev_global, ev_func, pr_mv, pr_pick, pickK_bool, pr_bin, bin_add, bin_sub, bin_mul, bin_and, bin_or, bin_xor, bin_andNot, bin_eql, bin_neq, bin_lss, bin_leq, bin_gtr, bin_geq, bin_rem, bin_quo, bin_shl, bin_shr, bin_seq, bin_sne, bin_sadd, pr_beq, beqK_eq, beqK_ne, pr_eqs, pr_not, notK_bool, pr_toInt, toIntK_int, pr_mkIf, pr_fld, fldK_cell, fldK_agg, pr_fldA, fldAK_ptr, pr_idxS, idxK_slice, pr_chr, chrK_str, pr_ext, extK_0, extK_1, extK_2, pr_asrt, asrtK_yes, asrtK_no, asrtK_only, pr_build, buildK_some, rfill_nil, pr_bslice, bsliceK_some, bfill_nil, evP_mk, pr_alloc, pr_box, pr_mkSl, mkSlK_int, pr_slS, slK_some, bndOf_none, bndOf_some, pr_ld, pr_ld_fl, ldK_ptr, ldB_cell, ldB_agg, pr_st, stoK_ptr, stoB_cells, pr_lenS, lenSK_slice, pr_lenT, lenTK_str, pr_app, pr_call, pr_call_st, flK_apply, stK_apply, List.map_cons, List.map_nil, ne_eq, not_false_eq_true, not_true_eq_false, Nat.reduceEqDiff, reduceCtorEq, cond_true, cond_false, Bool.not_true, Bool.not_false, Bool.not_not, ldR_ptr, ldRB_agg, ldRB_cell, Heap.get_push, Heap.next_push, Heap.get_set, Heap.next_set, Heap.get_up, Heap.next_up, if_true, if_false, Nat.reduceAdd, Nat.zero_add, Nat.add_zero, List.getElem?_cons_succ, List.getElem?_cons_zero, Option.some.injEq, exists_eq_left', eq_self, true_and, and_true, cellsV_agg, cellsV_int, cellsV_bool, cellsV_slice, cellsV_iface, reduceIte, Nat.add_eq_left, Nat.left_eq_add, Nat.succ_ne_self, List.length_cons, List.length_nil, Nat.reduceLeDiff, List.all_cons, List.all_nil, oneCell_int, oneCell_bool, oneCell_slice, oneCell_iface, Bool.and_self, List.drop_zero, List.drop_succ_cons, List.take_succ_cons, List.take_zero, List.cons_append, List.nil_append, List.append_nil, splice, rfill_cons, List.take_nil, List.drop_nil, bfill_cons, Nat.mul_one, Nat.zero_mul, Nat.one_mul, r0, r1, r2, r7, nn, hg1, hne, hpe, decide_true, beq_self_eq_true]
        have gB1 : ((H2.push (.cells [.slice none 0 0, .slice none 0 0, .int .i64 0] 27 false)).set H2.next (.cells [.slice a3 n3 c3, .slice a4 n4 c4, .int .i64 (passOf l y)] 27 false)).get H1.next = some (.cells [.slice a1 n1 c1, .slice a2 n2 c2, .int .i64 (passOf l x)] 27 false) := by
          rw [hx2a.get _ hlt]; exact hg1
        have gB2 : ((H2.push (.cells [.slice none 0 0, .slice none 0 0, .int .i64 0] 27 false)).set H2.next (.cells [.slice a3 n3 c3, .slice a4 n4 c4, .int .i64 (passOf l y)] 27 false)).get H2.next = some (.cells [.slice a3 n3 c3, .slice a4 n4 c4, .int .i64 (passOf l y)] 27 false) := by
          rw [Heap.get_set, if_pos rfl]
        have hs1' := hs1.ext hw1 (hx1a.trans (hx2.trans hx2a))
        have hs3' := hs3.ext hw2 hx2a
        have hxB : Ext H ((H2.push (.cells [.slice none 0 0, .slice none 0 0, .int .i64 0] 27 false)).set H2.next (.cells [.slice a3 n3 c3, .slice a4 n4 c4, .int .i64 (passOf l y)] 27 false)) := hx1.trans (hx1a.trans (hx2.trans hx2a))
        rw [hpe] at gB1
        generalize ((H2.push (.cells [.slice none 0 0, .slice none 0 0, .int .i64 0] 27 false)).set H2.next (.cells [.slice a3 n3 c3, .slice a4 n4 c4, .int .i64 (passOf l y)] 27 false)) = HB at gB1 gB2 hs1' hs3' hxB ⊢
        refine loop_intro (fun m A' H' => ∃ i : Nat, i ≤ n1 ∧ m = n1 - i ∧ H' = HB ∧ A' 1 = .int .i64 x ∧ A' 2 = .int .i64 y ∧ A' 7 = .bool true ∧ A' 9 = .pointer (some ⟨H1.next, 0, none⟩) ∧ A' 11 = .pointer (some ⟨H2.next, 0, none⟩) ∧ A' 13 = .int .i64 i) n1 ?_ ?_
        · refine ⟨0, Nat.zero_le _, by omega, rfl, ?_, ?_, ?_, ?_, ?_, ?_⟩
          all_goals simp only [upd_this, upd_red, Nat.reduceBEq, updO_some, updO_none, ev_t, ev_const, cond_true, cond_false, r1, r2, r7]
          rfl
        · rintro m A2 H' ⟨i, hi, rfl, hEq, t1, t2, t7, t9, t11, t13⟩
          subst H'
          simp only [pexec_skip, pexec_ret, pexec_exit, pexec_ops, pexec_seq, pexec_block, kp_ret, kp_ext, exK_this, exK_other, pexec_cond, cV_bool, cB_true, cB_false, pops_nil, pops_cons, pops_guard, popsK_some, popsK_none, gV_bool, gV_undef, gB_true, gB_false, bt, bf, upd_this, upd_red, Nat.reduceBEq, updO_some, updO_none, ev_t, ev_const, ev_global, ev_func, pr_mv, pr_pick, pickK_bool, pr_bin, bin_add, bin_sub, bin_mul, bin_and, bin_or, bin_xor, bin_andNot, bin_eql, bin_neq, bin_lss, bin_leq, bin_gtr, bin_geq, bin_rem, bin_quo, bin_shl, bin_shr, bin_seq, bin_sne, bin_sadd, pr_beq, beqK_eq, beqK_ne, pr_eqs, pr_not, notK_bool, pr_toInt, toIntK_int, pr_mkIf, pr_fld, fldK_cell, fldK_agg, pr_fldA, fldAK_ptr, pr_idxS, idxK_slice, pr_chr, chrK_str, pr_ext, extK_0, extK_1, extK_2, pr_asrt, asrtK_yes, asrtK_no, asrtK_only, pr_build, buildK_some, rfill_nil, pr_bslice, bsliceK_some, bfill_nil, evP_mk, pr_alloc, pr_box, pr_mkSl, mkSlK_int, pr_slS, slK_some, bndOf_none, bndOf_some, pr_ld, pr_ld_fl, ldK_ptr, ldB_cell, ldB_agg, pr_st, stoK_ptr, stoB_cells, pr_lenS, lenSK_slice, pr_lenT, lenTK_str, pr_app, pr_call, pr_call_st, flK_apply, stK_apply, List.map_cons, List.map_nil, ne_eq, not_false_eq_true, not_true_eq_false, Nat.reduceEqDiff, reduceCtorEq, cond_true, cond_false, Bool.not_true, Bool.not_false, Bool.not_not, ldR_ptr, ldRB_agg, ldRB_cell, Heap.get_push, Heap.next_push, Heap.get_set, Heap.next_set, Heap.get_up, Heap.next_up, if_true, if_false, Nat.reduceAdd, Nat.zero_add, Nat.add_zero, List.getElem?_cons_succ, List.getElem?_cons_zero, Option.some.injEq, exists_eq_left', eq_self, true_and, and_true, cellsV_agg, cellsV_int, cellsV_bool, cellsV_slice, cellsV_iface, reduceIte, Nat.add_eq_left, Nat.left_eq_add, Nat.succ_ne_self, List.length_cons, List.length_nil, Nat.reduceLeDiff, List.all_cons, List.all_nil, oneCell_int, oneCell_bool, oneCell_slice, oneCell_iface, Bool.and_self, List.drop_zero, List.drop_succ_cons, List.take_succ_cons, List.take_zero, List.cons_append, List.nil_append, List.append_nil, splice, rfill_cons, List.take_nil, List.drop_nil, bfill_cons, Nat.mul_one, Nat.zero_mul, Nat.one_mul, t1, t2, t7, t9, t11, t13, gB1]
          refine cB_cases (fun h5 => ?_) (fun h5 => ?_)
          · have h5 : i < n1 := by have := of_decide_eq_true h5; omega
            obtain ⟨_, _, e1, hq1⟩ := hs1'
            obtain ⟨_, _, e3, hq3⟩ := hs3'
            cases e1; cases e3
            have hl13 := hat.1
            obtain ⟨b1, et1, ro1, rfl, hb1⟩ := hq1 (by omega)
            obtain ⟨b3, et3, ro3, rfl, hb3⟩ := hq3 (by omega)
            have d1 : (0 : Int) ≤ i ∧ (i : Int) < ((atsOf l x).length : Int) := by omega
            have d3 : (0 : Int) ≤ i ∧ (i : Int) < ((atsOf l y).length : Int) := by omega
            have d4 : (i : Int).toNat = i := by omega
            have ei : IntKind.i64.wrap ((i : Int) + 1) = ((i + 1 : Nat) : Int) := by rw [w64 (by unfold I64; omega)]; omega
            have g1 := ints_get (l := atsOf l x) (i := i) (by omega)
            have g3 := ints_get (l := atsOf l y) (i := i) (by omega)
            obtain ⟨hr, hd⟩ := hat.2.2 i (by omega)
            have w1 : IntKind.i64.wrap ((atsOf l x).getD i 0 - x) = (atsOf l x).getD i 0 - x := w64 (by unfold I64; omega)
            have w3 : IntKind.i64.wrap ((atsOf l y).getD i 0 - y) = (atsOf l x).getD i 0 - x := by rw [hd, w64 (by unfold I64; omega)]
            simp only [pexec_skip, pexec_ret, pexec_exit, pexec_ops, pexec_seq, pexec_block, kp_ret, kp_ext, exK_this, exK_other, pexec_cond, cV_bool, cB_true, cB_false, pops_nil, pops_cons, pops_guard, popsK_some, popsK_none, gV_bool, gV_undef, gB_true, gB_false, bt, bf, upd_this, upd_red, Nat.reduceBEq, updO_some, updO_none, ev_t, ev_const, ev_global, ev_func, pr_mv, pr_pick, pickK_bool, pr_bin, bin_add, bin_sub, bin_mul, bin_and, bin_or, bin_xor, bin_andNot, bin_eql, bin_neq, bin_lss, bin_leq, bin_gtr, bin_geq, bin_rem, bin_quo, bin_shl, bin_shr, bin_seq, bin_sne, bin_sadd, pr_beq, beqK_eq, beqK_ne, pr_eqs, pr_not, notK_bool, pr_toInt, toIntK_int, pr_mkIf, pr_fld, fldK_cell, fldK_agg, pr_fldA, fldAK_ptr, pr_idxS, idxK_slice, pr_chr, chrK_str, pr_ext, extK_0, extK_1, extK_2, pr_asrt, asrtK_yes, asrtK_no, asrtK_only, pr_build, buildK_some, rfill_nil, pr_bslice, bsliceK_some, bfill_nil, evP_mk, pr_alloc, pr_box, pr_mkSl, mkSlK_int, pr_slS, slK_some, bndOf_none, bndOf_some, pr_ld, pr_ld_fl, ldK_ptr, ldB_cell, ldB_agg, pr_st, stoK_ptr, stoB_cells, pr_lenS, lenSK_slice, pr_lenT, lenTK_str, pr_app, pr_call, pr_call_st, flK_apply, stK_apply, List.map_cons, List.map_nil, ne_eq, not_false_eq_true, not_true_eq_false, Nat.reduceEqDiff, reduceCtorEq, cond_true, cond_false, Bool.not_true, Bool.not_false, Bool.not_not, ldR_ptr, ldRB_agg, ldRB_cell, Heap.get_push, Heap.next_push, Heap.get_set, Heap.next_set, Heap.get_up, Heap.next_up, if_true, if_false, Nat.reduceAdd, Nat.zero_add, Nat.add_zero, List.getElem?_cons_succ, List.getElem?_cons_zero, Option.some.injEq, exists_eq_left', eq_self, true_and, and_true, cellsV_agg, cellsV_int, cellsV_bool, cellsV_slice, cellsV_iface, reduceIte, Nat.add_eq_left, Nat.left_eq_add, Nat.succ_ne_self, List.length_cons, List.length_nil, Nat.reduceLeDiff, List.all_cons, List.all_nil, oneCell_int, oneCell_bool, oneCell_slice, oneCell_iface, Bool.and_self, List.drop_zero, List.drop_succ_cons, List.take_succ_cons, List.take_zero, List.cons_append, List.nil_append, List.append_nil, splice, rfill_cons, List.take_nil, List.drop_nil, bfill_cons, Nat.mul_one, Nat.zero_mul, Nat.one_mul, t1, t2, t7, t9, t11, t13, gB1, gB2, d1, d3, d4, hb1, hb3, g1, g3, w1, w3, beq_self_eq_true, ei]
            refine ⟨(atsOf l x).length - (i + 1), by omega, i + 1, by omega, rfl, rfl, ?_, ?_, ?_, ?_, ?_, ?_⟩
            all_goals simp only [upd_this, upd_red, Nat.reduceBEq, updO_some, updO_none, ev_t, ev_const, cond_true, cond_false, t1, t2, t7, t9, t11]
          · simp only [pexec_skip, pexec_ret, pexec_exit, pexec_ops, pexec_seq, pexec_block, kp_ret, kp_ext, exK_this, exK_other, pexec_cond, cV_bool, cB_true, cB_false, pops_nil, pops_cons, pops_guard, popsK_some, popsK_none, gV_bool, gV_undef, gB_true, gB_false, bt, bf, upd_this, upd_red, Nat.reduceBEq, updO_some, updO_none, ev_t, ev_const, ev_global, ev_func, pr_mv, pr_pick, pickK_bool, pr_bin, bin_add, bin_sub, bin_mul, bin_and, bin_or, bin_xor, bin_andNot, bin_eql, bin_neq, bin_lss, bin_leq, bin_gtr, bin_geq, bin_rem, bin_quo, bin_shl, bin_shr, bin_seq, bin_sne, bin_sadd, pr_beq, beqK_eq, beqK_ne, pr_eqs, pr_not, notK_bool, pr_toInt, toIntK_int, pr_mkIf, pr_fld, fldK_cell, fldK_agg, pr_fldA, fldAK_ptr, pr_idxS, idxK_slice, pr_chr, chrK_str, pr_ext, extK_0, extK_1, extK_2, pr_asrt, asrtK_yes, asrtK_no, asrtK_only, pr_build, buildK_some, rfill_nil, pr_bslice, bsliceK_some, bfill_nil, evP_mk, pr_alloc, pr_box, pr_mkSl, mkSlK_int, pr_slS, slK_some, bndOf_none, bndOf_some, pr_ld, pr_ld_fl, ldK_ptr, ldB_cell, ldB_agg, pr_st, stoK_ptr, stoB_cells, pr_lenS, lenSK_slice, pr_lenT, lenTK_str, pr_app, pr_call, pr_call_st, flK_apply, stK_apply, List.map_cons, List.map_nil, ne_eq, not_false_eq_true, not_true_eq_false, Nat.reduceEqDiff, reduceCtorEq, cond_true, cond_false, Bool.not_true, Bool.not_false, Bool.not_not, ldR_ptr, ldRB_agg, ldRB_cell, Heap.get_push, Heap.next_push, Heap.get_set, Heap.next_set, Heap.get_up, Heap.next_up, if_true, if_false, Nat.reduceAdd, Nat.zero_add, Nat.add_zero, List.getElem?_cons_succ, List.getElem?_cons_zero, Option.some.injEq, exists_eq_left', eq_self, true_and, and_true, cellsV_agg, cellsV_int, cellsV_bool, cellsV_slice, cellsV_iface, reduceIte, Nat.add_eq_left, Nat.left_eq_add, Nat.succ_ne_self, List.length_cons, List.length_nil, Nat.reduceLeDiff, List.all_cons, List.all_nil, oneCell_int, oneCell_bool, oneCell_slice, oneCell_iface, Bool.and_self, List.drop_zero, List.drop_succ_cons, List.take_succ_cons, List.take_zero, List.cons_append, List.nil_append, List.append_nil, splice, rfill_cons, List.take_nil, List.drop_nil, bfill_cons, Nat.mul_one, Nat.zero_mul, Nat.one_mul, t7, ret4]
            exact .mk hxB.next ⟨rfl, hxB⟩
end Go.Proofs.Ytgoafcanccbflaa.lay
