/- The law LayoutWorks: what a plan has, and the walk. -/
import Derived.Test.YtgoafcanccbflaaM1Moves
import Derived.Test.YtgoafcanccbflaaN1Fits
set_option linter.unusedVariables false
set_option linter.unusedSimpArgs false
set_option maxRecDepth 100000
namespace Go.Proofs.Ytgoafcanccbflaa.lay
open Go.Ab

/-- Only branches are near. -/
def onlyBr (l : List Pc) (nr : List Bool) : Prop := ∀ (i : Nat) p, l[i]? = some p → nr.getD i false = true → p.kind = 2

theorem step_only {l : List Pc} {nr : List Bool} {o : Int} (h : onlyBr l nr) : onlyBr l (stepL l nr o) := fun i p hp ht => by
  have hi := (List.getElem?_eq_some_iff.1 hp).1
  rw [stepL_get l nr o hi, turned] at ht
  cases hn : nr.getD i false with
  | true => exact h i p hp hn
  | false =>
    rw [hn, Bool.false_or, hp] at ht
    simp only [far, Bool.and_eq_true] at ht
    simpa using ht.1

theorem iter_spec (l : List Pc) (o : Int) : ∀ (f : Nat) (nr : List Bool) (ps : Int), nr.length = l.length → shorts nr < f → onlyBr l nr →
    stepL l (iterL l o f nr ps).1 o = (iterL l o f nr ps).1 ∧ onlyBr l (iterL l o f nr ps).1 ∧ (iterL l o f nr ps).2 + shorts (iterL l o f nr ps).1 ≤ ps + 1 + shorts nr ∧ ps + 1 ≤ (iterL l o f nr ps).2 := by
  intro f
  induction f with
  | zero => intro nr ps _ h; omega
  | succ f ih =>
    intro nr ps hl hf hb
    simp only [iterL]
    split
    · rename_i hst
      exact ⟨hst, hb, by simp only; omega, by simp only; omega⟩
    · rename_i hne
      have hlt := step_lt l nr o hl hne
      obtain ⟨i1, i2, i3, i4⟩ := ih (stepL l nr o) (ps + 1) (stepL_length l nr o) (by omega) (step_only hb)
      exact ⟨i1, i2, by omega, by omega⟩
theorem fix_spec (l : List Pc) (o : Int) : stepL l (fixL l o).1 o = (fixL l o).1 ∧ onlyBr l (fixL l o).1 ∧ (fixL l o).2 + shorts (fixL l o).1 ≤ 1 + l.length ∧ 1 ≤ (fixL l o).2 := by
  have h := iter_spec l o (l.length + 1) (List.replicate l.length false) 0 (by simp) (by rw [shorts_rep]; omega) (fun i p hp ht => by
    have hi := (List.getElem?_eq_some_iff.1 hp).1
    simp [List.getD, hi] at ht)
  rw [shorts_rep] at h
  exact ⟨h.1, h.2.1, by have := h.2.2.1; unfold fixL; omega, by have := h.2.2.2; unfold fixL; omega⟩

def brs (l : List Pc) : Nat := l.countP fun p => p.kind == 2
theorem near_brs : ∀ (l : List Pc) (nr : List Bool), nr.length = l.length → onlyBr l nr → l.length ≤ shorts nr + brs l
  | [], nr, h, _ => by simp
  | p :: l, [], h, _ => by simp at h
  | p :: l, b :: nr, h, ho => by
    have ih := near_brs l nr (by simpa using h) (fun i q hq ht => ho (i + 1) q (by simpa using hq) (by simpa using ht))
    have h0 := ho 0 p rfl
    simp only [shorts, brs, List.countP_cons, List.length_cons] at ih ⊢
    cases b with
    | false => rw [if_pos (by rfl)]; split <;> omega
    | true =>
      have := h0 rfl
      rw [if_neg (by decide), if_pos (by simp [this])]; omega

theorem plan_check {l : List Pc} {o : Int} (h : planE l o = 0) : checkM validR l = 0 ∧ 0 ≤ o ∧ o ≤ 140737488355328 ∧ anyFar l (fixL l o).1 o l.length = false := by
  unfold planE at h
  split at h
  · rename_i hc; exact absurd h hc
  · rename_i hc
    split at h
    · omega
    · rename_i ho
      split at h
      · omega
      · split at h
        · omega
        · rename_i ha
          exact ⟨by simpa using hc, by omega, by omega, by simpa using ha⟩

theorem plan_fits {l : List Pc} {o : Int} (h : planE l o = 0) : fitsM l o (fixL l o).1 = true := by
  obtain ⟨hc, h1, h2, ha⟩ := plan_check h
  obtain ⟨hst, _, _, _⟩ := fix_spec l o
  have hm : misfit l (fixL l o).1 o l.length = false := by
    unfold misfit
    rw [List.any_eq_false]
    intro i hi
    have hi := List.mem_range.1 hi
    unfold farAt wants
    rw [List.getElem?_eq_getElem hi]
    simp only
    cases hn : (fixL l o).1.getD i false with
    | true =>
      have := (List.any_eq_false.1 ha) i (List.mem_range.2 hi)
      rw [hn, List.getElem?_eq_getElem hi] at this
      simpa using this
    | false =>
      have ht := stepL_get l (fixL l o).1 o hi
      rw [hst, hn, turned, hn, List.getElem?_eq_getElem hi] at ht
      simpa using ht.symm
  simp [fitsM, hc, h1, h2, fix_length, hm]

theorem align_mod {p : Pc} {n h : Int} {b : Bool} (hp : PieceOk p n) (e : p.kind = 3) (h0 : 0 ≤ h) : 1 ≤ p.align ∧ sizeM p h b < p.align ∧ (h + sizeM p h b) % p.align = 0 := by
  obtain ⟨k, hk, e2⟩ := isPow_spec (hp.align e)
  have hp1 : (1 : Int) ≤ 2 ^ k := by exact_mod_cast Nat.one_le_two_pow
  have hs : sizeM p h b = (p.align - h % p.align) % p.align := by unfold sizeM; rw [if_neg (by omega), if_neg (by omega)]
  rw [hs, e2]
  have h2 := Int.emod_lt_of_pos (2 ^ k - h % 2 ^ k) (by omega : (0 : Int) < 2 ^ k)
  refine ⟨hp1, h2, ?_⟩
  generalize (2 : Int) ^ k = M at *
  have hr := Int.emod_nonneg h (by omega : M ≠ 0)
  have hr2 := Int.emod_lt_of_pos h (by omega : 0 < M)
  have hq := Int.mul_ediv_add_emod h M
  by_cases hz : h % M = 0
  · rw [hz, Int.sub_zero, Int.emod_self, Int.add_zero]; exact hz
  · rw [Int.emod_eq_of_lt (a := M - h % M) (by omega) (by omega), show h + (M - h % M) = M * (h / M + 1) by rw [Int.mul_add, Int.mul_one]; omega]
    exact Int.mul_emod_right M _

theorem take_brs (l : List Pc) (i : Nat) (h : i < l.length) : brs (l.take (i + 1)) = brs (l.take i) + (if l[i].kind == 2 then 1 else 0) := by
  unfold brs
  rw [List.take_succ_eq_append_getElem h, List.countP_append, List.countP_singleton]

theorem q6 (v : Value) (l : List Pc) (hl : ∀ p ∈ l, p.ok) (o : Int) (ho : I64 o) (H : Heap) (hv : IsSl H v l.length (cellsP l)) :
    CallQ Try.prog 6 [v, .int .i64 o] H fun u H' => u = .bool true ∧ Ext H H' := by
  refine in6 fun hw => ?_
  have hv0 := hv
  obtain ⟨sa, cap, rfl, hsl⟩ := hv0
  simp only [pc6, pexec_skip, pexec_ret, pexec_exit, pexec_ops, pexec_seq, pexec_block, kp_ret, kp_ext, exK_this, exK_other, pexec_cond, cV_bool, cB_true, cB_false, pops_nil, pops_cons, pops_guard, popsK_some, popsK_none, gV_bool, gV_undef, gB_true, gB_false, bt, bf, upd_this, upd_red, Nat.reduceBEq, updO_some, updO_none, ev_t, ev_const, ev_global, ev_func, pr_mv, pr_pick, pickK_bool, pr_bin, bin_add, bin_sub, bin_mul, bin_and, bin_or, bin_xor, bin_andNot, bin_eql, bin_neq, bin_lss, bin_leq, bin_gtr, bin_geq, bin_rem, bin_quo, bin_shl, bin_shr, bin_seq, bin_sne, bin_sadd, pr_beq, beqK_eq, beqK_ne, pr_eqs, pr_not, notK_bool, pr_toInt, toIntK_int, pr_mkIf, pr_fld, fldK_cell, fldK_agg, pr_fldA, fldAK_ptr, pr_idxS, idxK_slice, pr_chr, chrK_str, pr_ext, extK_0, extK_1, extK_2, pr_asrt, asrtK_yes, asrtK_no, asrtK_only, pr_build, buildK_some, rfill_nil, pr_bslice, bsliceK_some, bfill_nil, evP_mk, pr_alloc, pr_box, pr_mkSl, mkSlK_int, pr_slS, slK_some, bndOf_none, bndOf_some, pr_ld, pr_ld_fl, ldK_ptr, ldB_cell, ldB_agg, pr_st, stoK_ptr, stoB_cells, pr_lenS, lenSK_slice, pr_lenT, lenTK_str, pr_app, pr_call, pr_call_st, flK_apply, stK_apply, List.map_cons, List.map_nil, ne_eq, not_false_eq_true, not_true_eq_false, Nat.reduceEqDiff, reduceCtorEq, cond_true, cond_false, Bool.not_true, Bool.not_false, Bool.not_not, ldR_ptr, ldRB_agg, ldRB_cell, Heap.get_push, Heap.next_push, Heap.get_set, Heap.next_set, Heap.get_up, Heap.next_up, if_true, if_false, Nat.reduceAdd, Nat.zero_add, Nat.add_zero, List.getElem?_cons_succ, List.getElem?_cons_zero, Option.some.injEq, exists_eq_left', eq_self, true_and, and_true, cellsV_agg, cellsV_int, cellsV_bool, cellsV_slice, cellsV_iface, reduceIte, Nat.add_eq_left, Nat.left_eq_add, Nat.succ_ne_self, List.length_cons, List.length_nil, Nat.reduceLeDiff, List.all_cons, List.all_nil, oneCell_int, oneCell_bool, oneCell_slice, oneCell_iface, Bool.and_self, List.drop_zero, List.drop_succ_cons, List.take_succ_cons, List.take_zero, List.cons_append, List.nil_append, List.append_nil, splice, rfill_cons, List.take_nil, List.drop_nil, bfill_cons, Nat.mul_one, Nat.zero_mul, Nat.one_mul]
  refine (q16 H).mono ?_
  rintro _ Hx ⟨rfl, hx⟩
  subst Hx
  simp only [pexec_skip, pexec_ret, pexec_exit, pexec_ops, pexec_seq, pexec_block, kp_ret, kp_ext, exK_this, exK_other, pexec_cond, cV_bool, cB_true, cB_false, pops_nil, pops_cons, pops_guard, popsK_some, popsK_none, gV_bool, gV_undef, gB_true, gB_false, bt, bf, upd_this, upd_red, Nat.reduceBEq, updO_some, updO_none, ev_t, ev_const, ev_global, ev_func, pr_mv, pr_pick, pickK_bool, pr_bin, bin_add, bin_sub, bin_mul, bin_and, bin_or, bin_xor, bin_andNot, bin_eql, bin_neq, bin_lss, bin_leq, bin_gtr, bin_geq, bin_rem, bin_quo, bin_shl, bin_shr, bin_seq, bin_sne, bin_sadd, pr_beq, beqK_eq, beqK_ne, pr_eqs, pr_not, notK_bool, pr_toInt, toIntK_int, pr_mkIf, pr_fld, fldK_cell, fldK_agg, pr_fldA, fldAK_ptr, pr_idxS, idxK_slice, pr_chr, chrK_str, pr_ext, extK_0, extK_1, extK_2, pr_asrt, asrtK_yes, asrtK_no, asrtK_only, pr_build, buildK_some, rfill_nil, pr_bslice, bsliceK_some, bfill_nil, evP_mk, pr_alloc, pr_box, pr_mkSl, mkSlK_int, pr_slS, slK_some, bndOf_none, bndOf_some, pr_ld, pr_ld_fl, ldK_ptr, ldB_cell, ldB_agg, pr_st, stoK_ptr, stoB_cells, pr_lenS, lenSK_slice, pr_lenT, lenTK_str, pr_app, pr_call, pr_call_st, flK_apply, stK_apply, List.map_cons, List.map_nil, ne_eq, not_false_eq_true, not_true_eq_false, Nat.reduceEqDiff, reduceCtorEq, cond_true, cond_false, Bool.not_true, Bool.not_false, Bool.not_not, ldR_ptr, ldRB_agg, ldRB_cell, Heap.get_push, Heap.next_push, Heap.get_set, Heap.next_set, Heap.get_up, Heap.next_up, if_true, if_false, Nat.reduceAdd, Nat.zero_add, Nat.add_zero, List.getElem?_cons_succ, List.getElem?_cons_zero, Option.some.injEq, exists_eq_left', eq_self, true_and, and_true, cellsV_agg, cellsV_int, cellsV_bool, cellsV_slice, cellsV_iface, reduceIte, Nat.add_eq_left, Nat.left_eq_add, Nat.succ_ne_self, List.length_cons, List.length_nil, Nat.reduceLeDiff, List.all_cons, List.all_nil, oneCell_int, oneCell_bool, oneCell_slice, oneCell_iface, Bool.and_self, List.drop_zero, List.drop_succ_cons, List.take_succ_cons, List.take_zero, List.cons_append, List.nil_append, List.append_nil, splice, rfill_cons, List.take_nil, List.drop_nil, bfill_cons, Nat.mul_one, Nat.zero_mul, Nat.one_mul]
  refine cB_cases (fun h1 => ?_) (fun h1 => ?_)
  · simp only [pexec_skip, pexec_ret, pexec_exit, pexec_ops, pexec_seq, pexec_block, kp_ret, kp_ext, exK_this, exK_other, pexec_cond, cV_bool, cB_true, cB_false, pops_nil, pops_cons, pops_guard, popsK_some, popsK_none, gV_bool, gV_undef, gB_true, gB_false, bt, bf, upd_this, upd_red, Nat.reduceBEq, updO_some, updO_none, ev_t, ev_const, ev_global, ev_func, pr_mv, pr_pick, pickK_bool, pr_bin, bin_add, bin_sub, bin_mul, bin_and, bin_or, bin_xor, bin_andNot, bin_eql, bin_neq, bin_lss, bin_leq, bin_gtr, bin_geq, bin_rem, bin_quo, bin_shl, bin_shr, bin_seq, bin_sne, bin_sadd, pr_beq, beqK_eq, beqK_ne, pr_eqs, pr_not, notK_bool, pr_toInt, toIntK_int, pr_mkIf, pr_fld, fldK_cell, fldK_agg, pr_fldA, fldAK_ptr, pr_idxS, idxK_slice, pr_chr, chrK_str, pr_ext, extK_0, extK_1, extK_2, pr_asrt, asrtK_yes, asrtK_no, asrtK_only, pr_build, buildK_some, rfill_nil, pr_bslice, bsliceK_some, bfill_nil, evP_mk, pr_alloc, pr_box, pr_mkSl, mkSlK_int, pr_slS, slK_some, bndOf_none, bndOf_some, pr_ld, pr_ld_fl, ldK_ptr, ldB_cell, ldB_agg, pr_st, stoK_ptr, stoB_cells, pr_lenS, lenSK_slice, pr_lenT, lenTK_str, pr_app, pr_call, pr_call_st, flK_apply, stK_apply, List.map_cons, List.map_nil, ne_eq, not_false_eq_true, not_true_eq_false, Nat.reduceEqDiff, reduceCtorEq, cond_true, cond_false, Bool.not_true, Bool.not_false, Bool.not_not, ldR_ptr, ldRB_agg, ldRB_cell, Heap.get_push, Heap.next_push, Heap.get_set, Heap.next_set, Heap.get_up, Heap.next_up, if_true, if_false, Nat.reduceAdd, Nat.zero_add, Nat.add_zero, List.getElem?_cons_succ, List.getElem?_cons_zero, Option.some.injEq, exists_eq_left', eq_self, true_and, and_true, cellsV_agg, cellsV_int, cellsV_bool, cellsV_slice, cellsV_iface, reduceIte, Nat.add_eq_left, Nat.left_eq_add, Nat.succ_ne_self, List.length_cons, List.length_nil, Nat.reduceLeDiff, List.all_cons, List.all_nil, oneCell_int, oneCell_bool, oneCell_slice, oneCell_iface, Bool.and_self, List.drop_zero, List.drop_succ_cons, List.take_succ_cons, List.take_zero, List.cons_append, List.nil_append, List.append_nil, splice, rfill_cons, List.take_nil, List.drop_nil, bfill_cons, Nat.mul_one, Nat.zero_mul, Nat.one_mul, ret6]
    exact .mk (Nat.le_refl _) ⟨rfl, .refl _⟩
  · have h1 : l.length ≤ 200 := by have := of_decide_eq_false h1; omega
    simp only [pexec_skip, pexec_ret, pexec_exit, pexec_ops, pexec_seq, pexec_block, kp_ret, kp_ext, exK_this, exK_other, pexec_cond, cV_bool, cB_true, cB_false, pops_nil, pops_cons, pops_guard, popsK_some, popsK_none, gV_bool, gV_undef, gB_true, gB_false, bt, bf, upd_this, upd_red, Nat.reduceBEq, updO_some, updO_none, ev_t, ev_const, ev_global, ev_func, pr_mv, pr_pick, pickK_bool, pr_bin, bin_add, bin_sub, bin_mul, bin_and, bin_or, bin_xor, bin_andNot, bin_eql, bin_neq, bin_lss, bin_leq, bin_gtr, bin_geq, bin_rem, bin_quo, bin_shl, bin_shr, bin_seq, bin_sne, bin_sadd, pr_beq, beqK_eq, beqK_ne, pr_eqs, pr_not, notK_bool, pr_toInt, toIntK_int, pr_mkIf, pr_fld, fldK_cell, fldK_agg, pr_fldA, fldAK_ptr, pr_idxS, idxK_slice, pr_chr, chrK_str, pr_ext, extK_0, extK_1, extK_2, pr_asrt, asrtK_yes, asrtK_no, asrtK_only, pr_build, buildK_some, rfill_nil, pr_bslice, bsliceK_some, bfill_nil, evP_mk, pr_alloc, pr_box, pr_mkSl, mkSlK_int, pr_slS, slK_some, bndOf_none, bndOf_some, pr_ld, pr_ld_fl, ldK_ptr, ldB_cell, ldB_agg, pr_st, stoK_ptr, stoB_cells, pr_lenS, lenSK_slice, pr_lenT, lenTK_str, pr_app, pr_call, pr_call_st, flK_apply, stK_apply, List.map_cons, List.map_nil, ne_eq, not_false_eq_true, not_true_eq_false, Nat.reduceEqDiff, reduceCtorEq, cond_true, cond_false, Bool.not_true, Bool.not_false, Bool.not_not, ldR_ptr, ldRB_agg, ldRB_cell, Heap.get_push, Heap.next_push, Heap.get_set, Heap.next_set, Heap.get_up, Heap.next_up, if_true, if_false, Nat.reduceAdd, Nat.zero_add, Nat.add_zero, List.getElem?_cons_succ, List.getElem?_cons_zero, Option.some.injEq, exists_eq_left', eq_self, true_and, and_true, cellsV_agg, cellsV_int, cellsV_bool, cellsV_slice, cellsV_iface, reduceIte, Nat.add_eq_left, Nat.left_eq_add, Nat.succ_ne_self, List.length_cons, List.length_nil, Nat.reduceLeDiff, List.all_cons, List.all_nil, oneCell_int, oneCell_bool, oneCell_slice, oneCell_iface, Bool.and_self, List.drop_zero, List.drop_succ_cons, List.take_succ_cons, List.take_zero, List.cons_append, List.nil_append, List.append_nil, splice, rfill_cons, List.take_nil, List.drop_nil, bfill_cons, Nat.mul_one, Nat.zero_mul, Nat.one_mul]
    refine (q9 _ l hl o ho _ hv).thenW ?_
    rintro u1 H1 hn1 hw1 ht1
    obtain ⟨hx1, a1, n1, c1, a2, n2, c2, rfl, hn1', hn2', hs1, hs2⟩ := ht1.parts
    simp only [pexec_skip, pexec_ret, pexec_exit, pexec_ops, pexec_seq, pexec_block, kp_ret, kp_ext, exK_this, exK_other, pexec_cond, cV_bool, cB_true, cB_false, pops_nil, pops_cons, pops_guard, popsK_some, popsK_none, gV_bool, gV_undef, gB_true, gB_false, bt, bf, upd_this, upd_red, Nat.reduceBEq, updO_some, updO_none, ev_t, ev_const, ev_global, ev_func, pr_mv, pr_pick, pickK_bool, pr_bin, bin_add, bin_sub, bin_mul, bin_and, bin_or, bin_xor, bin_andNot, bin_eql, bin_neq, bin_lss, bin_leq, bin_gtr, bin_geq, bin_rem, bin_quo, bin_shl, bin_shr, bin_seq, bin_sne, bin_sadd, pr_beq, beqK_eq, beqK_ne, pr_eqs, pr_not, notK_bool, pr_toInt, toIntK_int, pr_mkIf, pr_fld, fldK_cell, fldK_agg, pr_fldA, fldAK_ptr, pr_idxS, idxK_slice, pr_chr, chrK_str, pr_ext, extK_0, extK_1, extK_2, pr_asrt, asrtK_yes, asrtK_no, asrtK_only, pr_build, buildK_some, rfill_nil, pr_bslice, bsliceK_some, bfill_nil, evP_mk, pr_alloc, pr_box, pr_mkSl, mkSlK_int, pr_slS, slK_some, bndOf_none, bndOf_some, pr_ld, pr_ld_fl, ldK_ptr, ldB_cell, ldB_agg, pr_st, stoK_ptr, stoB_cells, pr_lenS, lenSK_slice, pr_lenT, lenTK_str, pr_app, pr_call, pr_call_st, flK_apply, stK_apply, List.map_cons, List.map_nil, ne_eq, not_false_eq_true, not_true_eq_false, Nat.reduceEqDiff, reduceCtorEq, cond_true, cond_false, Bool.not_true, Bool.not_false, Bool.not_not, ldR_ptr, ldRB_agg, ldRB_cell, Heap.get_push, Heap.next_push, Heap.get_set, Heap.next_set, Heap.get_up, Heap.next_up, if_true, if_false, Nat.reduceAdd, Nat.zero_add, Nat.add_zero, List.getElem?_cons_succ, List.getElem?_cons_zero, Option.some.injEq, exists_eq_left', eq_self, true_and, and_true, cellsV_agg, cellsV_int, cellsV_bool, cellsV_slice, cellsV_iface, reduceIte, Nat.add_eq_left, Nat.left_eq_add, Nat.succ_ne_self, List.length_cons, List.length_nil, Nat.reduceLeDiff, List.all_cons, List.all_nil, oneCell_int, oneCell_bool, oneCell_slice, oneCell_iface, Bool.and_self, List.drop_zero, List.drop_succ_cons, List.take_succ_cons, List.take_zero, List.cons_append, List.nil_append, List.append_nil, splice, rfill_cons, List.take_nil, List.drop_nil, bfill_cons, Nat.mul_one, Nat.zero_mul, Nat.one_mul]
    have hx1a : Ext H1 ((H1.push (.cells [.slice none 0 0, .slice none 0 0, .int .i64 0] 27 false)).set H1.next (.cells [.slice a1 n1 c1, .slice a2 n2 c2, .int .i64 (passOf l o)] 27 false)) := ((Ext.refl H1).push _).set (Nat.le_refl _) _
    have gB : ((H1.push (.cells [.slice none 0 0, .slice none 0 0, .int .i64 0] 27 false)).set H1.next (.cells [.slice a1 n1 c1, .slice a2 n2 c2, .int .i64 (passOf l o)] 27 false)).get H1.next = some (.cells [.slice a1 n1 c1, .slice a2 n2 c2, .int .i64 (passOf l o)] 27 false) := by rw [Heap.get_set, if_pos rfl]
    have hxB := hx1.trans hx1a
    have hs1' := hs1.ext hw1 hx1a
    have hs2' := hs2.ext hw1 hx1a
    have hwB : ((H1.push (.cells [.slice none 0 0, .slice none 0 0, .int .i64 0] 27 false)).set H1.next (.cells [.slice a1 n1 c1, .slice a2 n2 c2, .int .i64 (passOf l o)] 27 false)).Wf := (hw1.push _).set (by rw [Heap.get_push, if_pos rfl]) _
    have hnB : H1.next < ((H1.push (.cells [.slice none 0 0, .slice none 0 0, .int .i64 0] 27 false)).set H1.next (.cells [.slice a1 n1 c1, .slice a2 n2 c2, .int .i64 (passOf l o)] 27 false)).next := by simp
    generalize ((H1.push (.cells [.slice none 0 0, .slice none 0 0, .int .i64 0] 27 false)).set H1.next (.cells [.slice a1 n1 c1, .slice a2 n2 c2, .int .i64 (passOf l o)] 27 false)) = HB at gB hxB hs1' hs2' hwB hnB ⊢
    by_cases he : planE l o = 0
    case neg =>
      have e0 : (planE l o == 0) = false := by simpa using he
      have ea : (atsOf l o).length = 0 := by simp [atsOf, he]
      have en : (nearOf l o).length = 0 := by simp [nearOf, he]
      have ep : passOf l o = 0 := by simp [passOf, he]
      subst n1; subst n2
      simp only [e0, pexec_skip, pexec_ret, pexec_exit, pexec_ops, pexec_seq, pexec_block, kp_ret, kp_ext, exK_this, exK_other, pexec_cond, cV_bool, cB_true, cB_false, pops_nil, pops_cons, pops_guard, popsK_some, popsK_none, gV_bool, gV_undef, gB_true, gB_false, bt, bf, upd_this, upd_red, Nat.reduceBEq, updO_some, updO_none, ev_t, ev_const, ev_global, ev_func, pr_mv, pr_pick, pickK_bool, pr_bin, bin_add, bin_sub, bin_mul, bin_and, bin_or, bin_xor, bin_andNot, bin_eql, bin_neq, bin_lss, bin_leq, bin_gtr, bin_geq, bin_rem, bin_quo, bin_shl, bin_shr, bin_seq, bin_sne, bin_sadd, pr_beq, beqK_eq, beqK_ne, pr_eqs, pr_not, notK_bool, pr_toInt, toIntK_int, pr_mkIf, pr_fld, fldK_cell, fldK_agg, pr_fldA, fldAK_ptr, pr_idxS, idxK_slice, pr_chr, chrK_str, pr_ext, extK_0, extK_1, extK_2, pr_asrt, asrtK_yes, asrtK_no, asrtK_only, pr_build, buildK_some, rfill_nil, pr_bslice, bsliceK_some, bfill_nil, evP_mk, pr_alloc, pr_box, pr_mkSl, mkSlK_int, pr_slS, slK_some, bndOf_none, bndOf_some, pr_ld, pr_ld_fl, ldK_ptr, ldB_cell, ldB_agg, pr_st, stoK_ptr, stoB_cells, pr_lenS, lenSK_slice, pr_lenT, lenTK_str, pr_app, pr_call, pr_call_st, flK_apply, stK_apply, List.map_cons, List.map_nil, ne_eq, not_false_eq_true, not_true_eq_false, Nat.reduceEqDiff, reduceCtorEq, cond_true, cond_false, Bool.not_true, Bool.not_false, Bool.not_not, ldR_ptr, ldRB_agg, ldRB_cell, Heap.get_push, Heap.next_push, Heap.get_set, Heap.next_set, Heap.get_up, Heap.next_up, if_true, if_false, Nat.reduceAdd, Nat.zero_add, Nat.add_zero, List.getElem?_cons_succ, List.getElem?_cons_zero, Option.some.injEq, exists_eq_left', eq_self, true_and, and_true, cellsV_agg, cellsV_int, cellsV_bool, cellsV_slice, cellsV_iface, reduceIte, Nat.add_eq_left, Nat.left_eq_add, Nat.succ_ne_self, List.length_cons, List.length_nil, Nat.reduceLeDiff, List.all_cons, List.all_nil, oneCell_int, oneCell_bool, oneCell_slice, oneCell_iface, Bool.and_self, List.drop_zero, List.drop_succ_cons, List.take_succ_cons, List.take_zero, List.cons_append, List.nil_append, List.append_nil, splice, rfill_cons, List.take_nil, List.drop_nil, bfill_cons, Nat.mul_one, Nat.zero_mul, Nat.one_mul, gB, ea, en, ep, Int.natCast_zero, beq_self_eq_true, ret6]
      exact .mk hxB.next ⟨rfl, hxB⟩
    have e0 : (planE l o == 0) = true := by simpa using he
    have ea : atsOf l o = posL l (fixL l o).1 o := by simp [atsOf, he]
    have en : nearOf l o = (fixL l o).1 := by simp [nearOf, he]
    have ep : passOf l o = (fixL l o).2 := by simp [passOf, he]
    obtain ⟨hc, ho1, ho2, _⟩ := plan_check he
    obtain ⟨hlen, hok⟩ := check_ok hc
    obtain ⟨fx1, fx2, fx3, fx4⟩ := fix_spec l o
    have hft := plan_fits he
    have hbr := near_brs l (fixL l o).1 (fix_length l o) fx2
    have bnd := posL_bound l (fixL l o).1 o l.length hok ho1
    have hps := posL_succ l (fixL l o).1 o
    have hpl := posL_length l (fixL l o).1 o
    have hfl := fix_length l o
    have hz := posL_zero l (fixL l o).1 o
    rw [ea] at hn1' hs1'
    rw [en] at hn2' hs2'
    rw [ep] at gB
    rw [hpl] at hn1' hs1'
    rw [hfl] at hn2'
    subst n1; subst n2
    generalize (fixL l o).1 = nr at *
    generalize (fixL l o).2 = ps at *
    obtain ⟨_, _, x1, hq1⟩ := hs1'
    cases x1
    obtain ⟨ab, ae, aro, rfl, hab⟩ := hq1 (by omega)
    have b1 : IntKind.i64.wrap ((l.length : Int) + 1) = ((l.length + 1 : Nat) : Int) := by rw [w64 (by unfold I64; omega)]; omega
    have z1 : (0 : Int) ≤ 0 ∧ (0 : Int) < ((l.length + 1 : Nat) : Int) := by omega
    have z2 : (0 : Int).toNat = 0 := rfl
    have gz := ints_get (l := posL l nr o) (i := 0) (by omega)
    rw [hz] at gz
    simp only [e0, pexec_skip, pexec_ret, pexec_exit, pexec_ops, pexec_seq, pexec_block, kp_ret, kp_ext, exK_this, exK_other, pexec_cond, cV_bool, cB_true, cB_false, pops_nil, pops_cons, pops_guard, popsK_some, popsK_none, gV_bool, gV_undef, gB_true, gB_false, bt, bf, upd_this, upd_red, Nat.reduceBEq, updO_some, updO_none, ev_t, ev_const, ev_global, ev_func, pr_mv, pr_pick, pickK_bool, pr_bin, bin_add, bin_sub, bin_mul, bin_and, bin_or, bin_xor, bin_andNot, bin_eql, bin_neq, bin_lss, bin_leq, bin_gtr, bin_geq, bin_rem, bin_quo, bin_shl, bin_shr, bin_seq, bin_sne, bin_sadd, pr_beq, beqK_eq, beqK_ne, pr_eqs, pr_not, notK_bool, pr_toInt, toIntK_int, pr_mkIf, pr_fld, fldK_cell, fldK_agg, pr_fldA, fldAK_ptr, pr_idxS, idxK_slice, pr_chr, chrK_str, pr_ext, extK_0, extK_1, extK_2, pr_asrt, asrtK_yes, asrtK_no, asrtK_only, pr_build, buildK_some, rfill_nil, pr_bslice, bsliceK_some, bfill_nil, evP_mk, pr_alloc, pr_box, pr_mkSl, mkSlK_int, pr_slS, slK_some, bndOf_none, bndOf_some, pr_ld, pr_ld_fl, ldK_ptr, ldB_cell, ldB_agg, pr_st, stoK_ptr, stoB_cells, pr_lenS, lenSK_slice, pr_lenT, lenTK_str, pr_app, pr_call, pr_call_st, flK_apply, stK_apply, List.map_cons, List.map_nil, ne_eq, not_false_eq_true, not_true_eq_false, Nat.reduceEqDiff, reduceCtorEq, cond_true, cond_false, Bool.not_true, Bool.not_false, Bool.not_not, ldR_ptr, ldRB_agg, ldRB_cell, Heap.get_push, Heap.next_push, Heap.get_set, Heap.next_set, Heap.get_up, Heap.next_up, if_true, if_false, Nat.reduceAdd, Nat.zero_add, Nat.add_zero, List.getElem?_cons_succ, List.getElem?_cons_zero, Option.some.injEq, exists_eq_left', eq_self, true_and, and_true, cellsV_agg, cellsV_int, cellsV_bool, cellsV_slice, cellsV_iface, reduceIte, Nat.add_eq_left, Nat.left_eq_add, Nat.succ_ne_self, List.length_cons, List.length_nil, Nat.reduceLeDiff, List.all_cons, List.all_nil, oneCell_int, oneCell_bool, oneCell_slice, oneCell_iface, Bool.and_self, List.drop_zero, List.drop_succ_cons, List.take_succ_cons, List.take_zero, List.cons_append, List.nil_append, List.append_nil, splice, rfill_cons, List.take_nil, List.drop_nil, bfill_cons, Nat.mul_one, Nat.zero_mul, Nat.one_mul, gB, b1, beq_self_eq_true, z1, z2, hab, gz]
    refine (q23 _ _ l hl o nr HB (hv.ext hw hxB) hs2').then ?_
    rintro _ _ hn3 ⟨rfl, m3, rfl⟩
    simp only [hft, pexec_skip, pexec_ret, pexec_exit, pexec_ops, pexec_seq, pexec_block, kp_ret, kp_ext, exK_this, exK_other, pexec_cond, cV_bool, cB_true, cB_false, pops_nil, pops_cons, pops_guard, popsK_some, popsK_none, gV_bool, gV_undef, gB_true, gB_false, bt, bf, upd_this, upd_red, Nat.reduceBEq, updO_some, updO_none, ev_t, ev_const, ev_global, ev_func, pr_mv, pr_pick, pickK_bool, pr_bin, bin_add, bin_sub, bin_mul, bin_and, bin_or, bin_xor, bin_andNot, bin_eql, bin_neq, bin_lss, bin_leq, bin_gtr, bin_geq, bin_rem, bin_quo, bin_shl, bin_shr, bin_seq, bin_sne, bin_sadd, pr_beq, beqK_eq, beqK_ne, pr_eqs, pr_not, notK_bool, pr_toInt, toIntK_int, pr_mkIf, pr_fld, fldK_cell, fldK_agg, pr_fldA, fldAK_ptr, pr_idxS, idxK_slice, pr_chr, chrK_str, pr_ext, extK_0, extK_1, extK_2, pr_asrt, asrtK_yes, asrtK_no, asrtK_only, pr_build, buildK_some, rfill_nil, pr_bslice, bsliceK_some, bfill_nil, evP_mk, pr_alloc, pr_box, pr_mkSl, mkSlK_int, pr_slS, slK_some, bndOf_none, bndOf_some, pr_ld, pr_ld_fl, ldK_ptr, ldB_cell, ldB_agg, pr_st, stoK_ptr, stoB_cells, pr_lenS, lenSK_slice, pr_lenT, lenTK_str, pr_app, pr_call, pr_call_st, flK_apply, stK_apply, List.map_cons, List.map_nil, ne_eq, not_false_eq_true, not_true_eq_false, Nat.reduceEqDiff, reduceCtorEq, cond_true, cond_false, Bool.not_true, Bool.not_false, Bool.not_not, ldR_ptr, ldRB_agg, ldRB_cell, Heap.get_push, Heap.next_push, Heap.get_set, Heap.next_set, Heap.get_up, Heap.next_up, if_true, if_false, Nat.reduceAdd, Nat.zero_add, Nat.add_zero, List.getElem?_cons_succ, List.getElem?_cons_zero, Option.some.injEq, exists_eq_left', eq_self, true_and, and_true, cellsV_agg, cellsV_int, cellsV_bool, cellsV_slice, cellsV_iface, reduceIte, Nat.add_eq_left, Nat.left_eq_add, Nat.succ_ne_self, List.length_cons, List.length_nil, Nat.reduceLeDiff, List.all_cons, List.all_nil, oneCell_int, oneCell_bool, oneCell_slice, oneCell_iface, Bool.and_self, List.drop_zero, List.drop_succ_cons, List.take_succ_cons, List.take_zero, List.cons_append, List.nil_append, List.append_nil, splice, rfill_cons, List.take_nil, List.drop_nil, bfill_cons, Nat.mul_one, Nat.zero_mul, Nat.one_mul]
    refine loop_intro (fun m A' H' => ∃ i : Nat, i ≤ l.length ∧ m = l.length - i ∧ H' = HB.up m3 ∧ A' 0 = .slice sa l.length cap ∧ A' 5 = .bool true ∧ A' 6 = .pointer (some ⟨H1.next, 0, none⟩) ∧ A' 8 = .int .i64 (brs (l.take i)) ∧ A' 9 = .int .i64 i) l.length ?_ ?_
    · refine ⟨0, Nat.zero_le _, by omega, rfl, ?_, ?_, ?_, ?_, ?_⟩
      all_goals simp only [upd_this, upd_red, Nat.reduceBEq, updO_some, updO_none, ev_t, ev_const, cond_true, cond_false]
      · rfl
      · rfl
    · rintro m A' H' ⟨i, hi, rfl, hEq, r0, r5, r6, r8, r9⟩
      subst H'
      simp only [pexec_skip, pexec_ret, pexec_exit, pexec_ops, pexec_seq, pexec_block, kp_ret, kp_ext, exK_this, exK_other, pexec_cond, cV_bool, cB_true, cB_false, pops_nil, pops_cons, pops_guard, popsK_some, popsK_none, gV_bool, gV_undef, gB_true, gB_false, bt, bf, upd_this, upd_red, Nat.reduceBEq, updO_some, updO_none, ev_t, ev_const, ev_global, ev_func, pr_mv, pr_pick, pickK_bool, pr_bin, bin_add, bin_sub, bin_mul, bin_and, bin_or, bin_xor, bin_andNot, bin_eql, bin_neq, bin_lss, bin_leq, bin_gtr, bin_geq, bin_rem, bin_quo, bin_shl, bin_shr, bin_seq, bin_sne, bin_sadd, pr_beq, beqK_eq, beqK_ne, pr_eqs, pr_not, notK_bool, pr_toInt, toIntK_int, pr_mkIf, pr_fld, fldK_cell, fldK_agg, pr_fldA, fldAK_ptr, pr_idxS, idxK_slice, pr_chr, chrK_str, pr_ext, extK_0, extK_1, extK_2, pr_asrt, asrtK_yes, asrtK_no, asrtK_only, pr_build, buildK_some, rfill_nil, pr_bslice, bsliceK_some, bfill_nil, evP_mk, pr_alloc, pr_box, pr_mkSl, mkSlK_int, pr_slS, slK_some, bndOf_none, bndOf_some, pr_ld, pr_ld_fl, ldK_ptr, ldB_cell, ldB_agg, pr_st, stoK_ptr, stoB_cells, pr_lenS, lenSK_slice, pr_lenT, lenTK_str, pr_app, pr_call, pr_call_st, flK_apply, stK_apply, List.map_cons, List.map_nil, ne_eq, not_false_eq_true, not_true_eq_false, Nat.reduceEqDiff, reduceCtorEq, cond_true, cond_false, Bool.not_true, Bool.not_false, Bool.not_not, ldR_ptr, ldRB_agg, ldRB_cell, Heap.get_push, Heap.next_push, Heap.get_set, Heap.next_set, Heap.get_up, Heap.next_up, if_true, if_false, Nat.reduceAdd, Nat.zero_add, Nat.add_zero, List.getElem?_cons_succ, List.getElem?_cons_zero, Option.some.injEq, exists_eq_left', eq_self, true_and, and_true, cellsV_agg, cellsV_int, cellsV_bool, cellsV_slice, cellsV_iface, reduceIte, Nat.add_eq_left, Nat.left_eq_add, Nat.succ_ne_self, List.length_cons, List.length_nil, Nat.reduceLeDiff, List.all_cons, List.all_nil, oneCell_int, oneCell_bool, oneCell_slice, oneCell_iface, Bool.and_self, List.drop_zero, List.drop_succ_cons, List.take_succ_cons, List.take_zero, List.cons_append, List.nil_append, List.append_nil, splice, rfill_cons, List.take_nil, List.drop_nil, bfill_cons, Nat.mul_one, Nat.zero_mul, Nat.one_mul, r0, r5, r6, r8, r9]
      have hbc : brs (l.take i) ≤ l.length := by
        unfold brs
        exact Nat.le_trans List.countP_le_length (by rw [List.length_take]; omega)
      refine cB_cases (fun h2 => ?_) (fun h2 => ?_)
      · have h2 : i < l.length := by have := of_decide_eq_true h2; omega
        obtain ⟨b0, e0', ro, rfl, hb0⟩ := hsl (by omega)
        have hb0' : HB.get b0 = some (.cells (cellsP l) e0' ro) := by rw [hxB.get _ (hw.lt hb0)]; exact hb0
        have hs2n := hs2'
        rw [hfl] at hs2n
        obtain ⟨_, _, x2, hq2⟩ := hs2n
        cases x2
        obtain ⟨nb, ne_, nro, rfl, hnb⟩ := hq2 (by omega)
        have d1 : (0 : Int) ≤ i ∧ (i : Int) < (l.length : Int) := by omega
        have d2 : (0 : Int) ≤ i ∧ (i : Int) < ((l.length + 1 : Nat) : Int) := by omega
        have d3 : (0 : Int) ≤ ((i + 1 : Nat) : Int) ∧ ((i + 1 : Nat) : Int) < ((l.length + 1 : Nat) : Int) := by omega
        have d4 : (i : Int).toNat = i := by omega
        have d5 : ((i + 1 : Nat) : Int).toNat = i + 1 := by omega
        have ei : IntKind.i64.wrap ((i : Int) + 1) = ((i + 1 : Nat) : Int) := by rw [w64 (by unfold I64; omega)]; omega
        have hp := List.getElem?_eq_getElem h2
        have g0 := cellsP_cell l i 0 _ hp (by decide)
        have g1 := cellsP_cell l i 1 _ hp (by decide)
        have g2 := cellsP_cell l i 2 _ hp (by decide)
        have g3 := cellsP_cell l i 3 _ hp (by decide)
        have g6 := cellsP_cell l i 6 _ hp (by decide)
        rw [Nat.add_zero, cg0] at g0
        rw [cg1] at g1
        rw [cg2] at g2
        rw [cg3] at g3
        rw [cg6] at g6
        have ga := ints_get (l := posL l nr o) (i := i) (by omega)
        have gb := ints_get (l := posL l nr o) (i := i + 1) (by omega)
        have gn := bools_get (l := nr) (i := i) (by omega)
        have hpk := hok l[i] (List.getElem_mem h2)
        have hps1 := hps i _ hp
        have hb1 := bnd i (by omega)
        have hb2 := bnd (i + 1) (by omega)
        have hsz := sizeM_range (b := nr.getD i false) hpk (by omega : 0 ≤ (posL l nr o).getD i 0)
        have wd : IntKind.i64.wrap ((posL l nr o).getD (i + 1) 0 - (posL l nr o).getD i 0) = sizeM l[i] ((posL l nr o).getD i 0) (nr.getD i false) := by
          rw [hps1, w64 (by unfold I64; omega)]; omega
        have tb := take_brs l i h2
        simp only [pexec_skip, pexec_ret, pexec_exit, pexec_ops, pexec_seq, pexec_block, kp_ret, kp_ext, exK_this, exK_other, pexec_cond, cV_bool, cB_true, cB_false, pops_nil, pops_cons, pops_guard, popsK_some, popsK_none, gV_bool, gV_undef, gB_true, gB_false, bt, bf, upd_this, upd_red, Nat.reduceBEq, updO_some, updO_none, ev_t, ev_const, ev_global, ev_func, pr_mv, pr_pick, pickK_bool, pr_bin, bin_add, bin_sub, bin_mul, bin_and, bin_or, bin_xor, bin_andNot, bin_eql, bin_neq, bin_lss, bin_leq, bin_gtr, bin_geq, bin_rem, bin_quo, bin_shl, bin_shr, bin_seq, bin_sne, bin_sadd, pr_beq, beqK_eq, beqK_ne, pr_eqs, pr_not, notK_bool, pr_toInt, toIntK_int, pr_mkIf, pr_fld, fldK_cell, fldK_agg, pr_fldA, fldAK_ptr, pr_idxS, idxK_slice, pr_chr, chrK_str, pr_ext, extK_0, extK_1, extK_2, pr_asrt, asrtK_yes, asrtK_no, asrtK_only, pr_build, buildK_some, rfill_nil, pr_bslice, bsliceK_some, bfill_nil, evP_mk, pr_alloc, pr_box, pr_mkSl, mkSlK_int, pr_slS, slK_some, bndOf_none, bndOf_some, pr_ld, pr_ld_fl, ldK_ptr, ldB_cell, ldB_agg, pr_st, stoK_ptr, stoB_cells, pr_lenS, lenSK_slice, pr_lenT, lenTK_str, pr_app, pr_call, pr_call_st, flK_apply, stK_apply, List.map_cons, List.map_nil, ne_eq, not_false_eq_true, not_true_eq_false, Nat.reduceEqDiff, reduceCtorEq, cond_true, cond_false, Bool.not_true, Bool.not_false, Bool.not_not, ldR_ptr, ldRB_agg, ldRB_cell, Heap.get_push, Heap.next_push, Heap.get_set, Heap.next_set, Heap.get_up, Heap.next_up, if_true, if_false, Nat.reduceAdd, Nat.zero_add, Nat.add_zero, List.getElem?_cons_succ, List.getElem?_cons_zero, Option.some.injEq, exists_eq_left', eq_self, true_and, and_true, cellsV_agg, cellsV_int, cellsV_bool, cellsV_slice, cellsV_iface, reduceIte, Nat.add_eq_left, Nat.left_eq_add, Nat.succ_ne_self, List.length_cons, List.length_nil, Nat.reduceLeDiff, List.all_cons, List.all_nil, oneCell_int, oneCell_bool, oneCell_slice, oneCell_iface, Bool.and_self, List.drop_zero, List.drop_succ_cons, List.take_succ_cons, List.take_zero, List.cons_append, List.nil_append, List.append_nil, splice, rfill_cons, List.take_nil, List.drop_nil, bfill_cons, Nat.mul_one, Nat.zero_mul, Nat.one_mul, r0, r5, r6, r8, r9, gB, hab, d1, d2, d3, d4, d5, ei, ga, gb, wd, hb0', g0, g1]
        by_cases hk : l[i].kind = 2
        · have k2 : (l[i].kind == 2) = true := by simpa using hk
          have k3 : (l[i].kind == 3) = false := by simp [hk]
          have hb8 : IntKind.i64.wrap ((brs (l.take i) : Int) + 1) = (brs (l.take (i + 1)) : Int) := by
            rw [tb, k2, w64 (by unfold I64; omega)]; simp
          have hs : sizeM l[i] ((posL l nr o).getD i 0) (nr.getD i false) = if nr.getD i false then l[i].near else l[i].short := by simp [sizeM, hk]
          simp only [k2, pexec_skip, pexec_ret, pexec_exit, pexec_ops, pexec_seq, pexec_block, kp_ret, kp_ext, exK_this, exK_other, pexec_cond, cV_bool, cB_true, cB_false, pops_nil, pops_cons, pops_guard, popsK_some, popsK_none, gV_bool, gV_undef, gB_true, gB_false, bt, bf, upd_this, upd_red, Nat.reduceBEq, updO_some, updO_none, ev_t, ev_const, ev_global, ev_func, pr_mv, pr_pick, pickK_bool, pr_bin, bin_add, bin_sub, bin_mul, bin_and, bin_or, bin_xor, bin_andNot, bin_eql, bin_neq, bin_lss, bin_leq, bin_gtr, bin_geq, bin_rem, bin_quo, bin_shl, bin_shr, bin_seq, bin_sne, bin_sadd, pr_beq, beqK_eq, beqK_ne, pr_eqs, pr_not, notK_bool, pr_toInt, toIntK_int, pr_mkIf, pr_fld, fldK_cell, fldK_agg, pr_fldA, fldAK_ptr, pr_idxS, idxK_slice, pr_chr, chrK_str, pr_ext, extK_0, extK_1, extK_2, pr_asrt, asrtK_yes, asrtK_no, asrtK_only, pr_build, buildK_some, rfill_nil, pr_bslice, bsliceK_some, bfill_nil, evP_mk, pr_alloc, pr_box, pr_mkSl, mkSlK_int, pr_slS, slK_some, bndOf_none, bndOf_some, pr_ld, pr_ld_fl, ldK_ptr, ldB_cell, ldB_agg, pr_st, stoK_ptr, stoB_cells, pr_lenS, lenSK_slice, pr_lenT, lenTK_str, pr_app, pr_call, pr_call_st, flK_apply, stK_apply, List.map_cons, List.map_nil, ne_eq, not_false_eq_true, not_true_eq_false, Nat.reduceEqDiff, reduceCtorEq, cond_true, cond_false, Bool.not_true, Bool.not_false, Bool.not_not, ldR_ptr, ldRB_agg, ldRB_cell, Heap.get_push, Heap.next_push, Heap.get_set, Heap.next_set, Heap.get_up, Heap.next_up, if_true, if_false, Nat.reduceAdd, Nat.zero_add, Nat.add_zero, List.getElem?_cons_succ, List.getElem?_cons_zero, Option.some.injEq, exists_eq_left', eq_self, true_and, and_true, cellsV_agg, cellsV_int, cellsV_bool, cellsV_slice, cellsV_iface, reduceIte, Nat.add_eq_left, Nat.left_eq_add, Nat.succ_ne_self, List.length_cons, List.length_nil, Nat.reduceLeDiff, List.all_cons, List.all_nil, oneCell_int, oneCell_bool, oneCell_slice, oneCell_iface, Bool.and_self, List.drop_zero, List.drop_succ_cons, List.take_succ_cons, List.take_zero, List.cons_append, List.nil_append, List.append_nil, splice, rfill_cons, List.take_nil, List.drop_nil, bfill_cons, Nat.mul_one, Nat.zero_mul, Nat.one_mul, r0, r5, r6, r8, r9, gB, hb8, d1, d4, hb0', g2, hnb, gn]
          cases hnr : nr.getD i false with
          | true =>
            rw [hnr] at hs
            simp only [if_true] at hs
            simp only [pexec_skip, pexec_ret, pexec_exit, pexec_ops, pexec_seq, pexec_block, kp_ret, kp_ext, exK_this, exK_other, pexec_cond, cV_bool, cB_true, cB_false, pops_nil, pops_cons, pops_guard, popsK_some, popsK_none, gV_bool, gV_undef, gB_true, gB_false, bt, bf, upd_this, upd_red, Nat.reduceBEq, updO_some, updO_none, ev_t, ev_const, ev_global, ev_func, pr_mv, pr_pick, pickK_bool, pr_bin, bin_add, bin_sub, bin_mul, bin_and, bin_or, bin_xor, bin_andNot, bin_eql, bin_neq, bin_lss, bin_leq, bin_gtr, bin_geq, bin_rem, bin_quo, bin_shl, bin_shr, bin_seq, bin_sne, bin_sadd, pr_beq, beqK_eq, beqK_ne, pr_eqs, pr_not, notK_bool, pr_toInt, toIntK_int, pr_mkIf, pr_fld, fldK_cell, fldK_agg, pr_fldA, fldAK_ptr, pr_idxS, idxK_slice, pr_chr, chrK_str, pr_ext, extK_0, extK_1, extK_2, pr_asrt, asrtK_yes, asrtK_no, asrtK_only, pr_build, buildK_some, rfill_nil, pr_bslice, bsliceK_some, bfill_nil, evP_mk, pr_alloc, pr_box, pr_mkSl, mkSlK_int, pr_slS, slK_some, bndOf_none, bndOf_some, pr_ld, pr_ld_fl, ldK_ptr, ldB_cell, ldB_agg, pr_st, stoK_ptr, stoB_cells, pr_lenS, lenSK_slice, pr_lenT, lenTK_str, pr_app, pr_call, pr_call_st, flK_apply, stK_apply, List.map_cons, List.map_nil, ne_eq, not_false_eq_true, not_true_eq_false, Nat.reduceEqDiff, reduceCtorEq, cond_true, cond_false, Bool.not_true, Bool.not_false, Bool.not_not, ldR_ptr, ldRB_agg, ldRB_cell, Heap.get_push, Heap.next_push, Heap.get_set, Heap.next_set, Heap.get_up, Heap.next_up, if_true, if_false, Nat.reduceAdd, Nat.zero_add, Nat.add_zero, List.getElem?_cons_succ, List.getElem?_cons_zero, Option.some.injEq, exists_eq_left', eq_self, true_and, and_true, cellsV_agg, cellsV_int, cellsV_bool, cellsV_slice, cellsV_iface, reduceIte, Nat.add_eq_left, Nat.left_eq_add, Nat.succ_ne_self, List.length_cons, List.length_nil, Nat.reduceLeDiff, List.all_cons, List.all_nil, oneCell_int, oneCell_bool, oneCell_slice, oneCell_iface, Bool.and_self, List.drop_zero, List.drop_succ_cons, List.take_succ_cons, List.take_zero, List.cons_append, List.nil_append, List.append_nil, splice, rfill_cons, List.take_nil, List.drop_nil, bfill_cons, Nat.mul_one, Nat.zero_mul, Nat.one_mul, r0, r9, d1, d4, hb0', g0, g3, k3, hs, beq_self_eq_true, ei]
            exact ⟨l.length - (i + 1), by omega, i + 1, by omega, rfl, rfl, by simp only [upd_this, upd_red, Nat.reduceBEq, updO_some, updO_none, ev_t, ev_const, cond_true, cond_false, r0], by simp only [upd_this, upd_red, Nat.reduceBEq, updO_some, updO_none, ev_t, ev_const, cond_true, cond_false, r5], by simp only [upd_this, upd_red, Nat.reduceBEq, updO_some, updO_none, ev_t, ev_const, cond_true, cond_false, r6], by simp only [upd_this, upd_red, Nat.reduceBEq, updO_some, updO_none, ev_t, ev_const, cond_true, cond_false, r8, hb8], by simp only [upd_this, upd_red, Nat.reduceBEq, updO_some, updO_none, ev_t, ev_const, cond_true, cond_false]⟩
          | false =>
            rw [hnr] at hs
            simp only [Bool.false_eq_true, if_false] at hs
            simp only [pexec_skip, pexec_ret, pexec_exit, pexec_ops, pexec_seq, pexec_block, kp_ret, kp_ext, exK_this, exK_other, pexec_cond, cV_bool, cB_true, cB_false, pops_nil, pops_cons, pops_guard, popsK_some, popsK_none, gV_bool, gV_undef, gB_true, gB_false, bt, bf, upd_this, upd_red, Nat.reduceBEq, updO_some, updO_none, ev_t, ev_const, ev_global, ev_func, pr_mv, pr_pick, pickK_bool, pr_bin, bin_add, bin_sub, bin_mul, bin_and, bin_or, bin_xor, bin_andNot, bin_eql, bin_neq, bin_lss, bin_leq, bin_gtr, bin_geq, bin_rem, bin_quo, bin_shl, bin_shr, bin_seq, bin_sne, bin_sadd, pr_beq, beqK_eq, beqK_ne, pr_eqs, pr_not, notK_bool, pr_toInt, toIntK_int, pr_mkIf, pr_fld, fldK_cell, fldK_agg, pr_fldA, fldAK_ptr, pr_idxS, idxK_slice, pr_chr, chrK_str, pr_ext, extK_0, extK_1, extK_2, pr_asrt, asrtK_yes, asrtK_no, asrtK_only, pr_build, buildK_some, rfill_nil, pr_bslice, bsliceK_some, bfill_nil, evP_mk, pr_alloc, pr_box, pr_mkSl, mkSlK_int, pr_slS, slK_some, bndOf_none, bndOf_some, pr_ld, pr_ld_fl, ldK_ptr, ldB_cell, ldB_agg, pr_st, stoK_ptr, stoB_cells, pr_lenS, lenSK_slice, pr_lenT, lenTK_str, pr_app, pr_call, pr_call_st, flK_apply, stK_apply, List.map_cons, List.map_nil, ne_eq, not_false_eq_true, not_true_eq_false, Nat.reduceEqDiff, reduceCtorEq, cond_true, cond_false, Bool.not_true, Bool.not_false, Bool.not_not, ldR_ptr, ldRB_agg, ldRB_cell, Heap.get_push, Heap.next_push, Heap.get_set, Heap.next_set, Heap.get_up, Heap.next_up, if_true, if_false, Nat.reduceAdd, Nat.zero_add, Nat.add_zero, List.getElem?_cons_succ, List.getElem?_cons_zero, Option.some.injEq, exists_eq_left', eq_self, true_and, and_true, cellsV_agg, cellsV_int, cellsV_bool, cellsV_slice, cellsV_iface, reduceIte, Nat.add_eq_left, Nat.left_eq_add, Nat.succ_ne_self, List.length_cons, List.length_nil, Nat.reduceLeDiff, List.all_cons, List.all_nil, oneCell_int, oneCell_bool, oneCell_slice, oneCell_iface, Bool.and_self, List.drop_zero, List.drop_succ_cons, List.take_succ_cons, List.take_zero, List.cons_append, List.nil_append, List.append_nil, splice, rfill_cons, List.take_nil, List.drop_nil, bfill_cons, Nat.mul_one, Nat.zero_mul, Nat.one_mul, r0, r9, d1, d4, hb0', g0, k3, hs, beq_self_eq_true, ei]
            exact ⟨l.length - (i + 1), by omega, i + 1, by omega, rfl, rfl, by simp only [upd_this, upd_red, Nat.reduceBEq, updO_some, updO_none, ev_t, ev_const, cond_true, cond_false, r0], by simp only [upd_this, upd_red, Nat.reduceBEq, updO_some, updO_none, ev_t, ev_const, cond_true, cond_false, r5], by simp only [upd_this, upd_red, Nat.reduceBEq, updO_some, updO_none, ev_t, ev_const, cond_true, cond_false, r6], by simp only [upd_this, upd_red, Nat.reduceBEq, updO_some, updO_none, ev_t, ev_const, cond_true, cond_false, r8, hb8], by simp only [upd_this, upd_red, Nat.reduceBEq, updO_some, updO_none, ev_t, ev_const, cond_true, cond_false]⟩
        · have k2 : (l[i].kind == 2) = false := by simpa using hk
          have hb8 : (brs (l.take i) : Int) = (brs (l.take (i + 1)) : Int) := by rw [tb, k2]; simp
          have hnf : nr.getD i false = false := by
            cases h : nr.getD i false with
            | false => rfl
            | true => exact absurd (fx2 i _ hp h) hk
          simp only [k2, pexec_skip, pexec_ret, pexec_exit, pexec_ops, pexec_seq, pexec_block, kp_ret, kp_ext, exK_this, exK_other, pexec_cond, cV_bool, cB_true, cB_false, pops_nil, pops_cons, pops_guard, popsK_some, popsK_none, gV_bool, gV_undef, gB_true, gB_false, bt, bf, upd_this, upd_red, Nat.reduceBEq, updO_some, updO_none, ev_t, ev_const, ev_global, ev_func, pr_mv, pr_pick, pickK_bool, pr_bin, bin_add, bin_sub, bin_mul, bin_and, bin_or, bin_xor, bin_andNot, bin_eql, bin_neq, bin_lss, bin_leq, bin_gtr, bin_geq, bin_rem, bin_quo, bin_shl, bin_shr, bin_seq, bin_sne, bin_sadd, pr_beq, beqK_eq, beqK_ne, pr_eqs, pr_not, notK_bool, pr_toInt, toIntK_int, pr_mkIf, pr_fld, fldK_cell, fldK_agg, pr_fldA, fldAK_ptr, pr_idxS, idxK_slice, pr_chr, chrK_str, pr_ext, extK_0, extK_1, extK_2, pr_asrt, asrtK_yes, asrtK_no, asrtK_only, pr_build, buildK_some, rfill_nil, pr_bslice, bsliceK_some, bfill_nil, evP_mk, pr_alloc, pr_box, pr_mkSl, mkSlK_int, pr_slS, slK_some, bndOf_none, bndOf_some, pr_ld, pr_ld_fl, ldK_ptr, ldB_cell, ldB_agg, pr_st, stoK_ptr, stoB_cells, pr_lenS, lenSK_slice, pr_lenT, lenTK_str, pr_app, pr_call, pr_call_st, flK_apply, stK_apply, List.map_cons, List.map_nil, ne_eq, not_false_eq_true, not_true_eq_false, Nat.reduceEqDiff, reduceCtorEq, cond_true, cond_false, Bool.not_true, Bool.not_false, Bool.not_not, ldR_ptr, ldRB_agg, ldRB_cell, Heap.get_push, Heap.next_push, Heap.get_set, Heap.next_set, Heap.get_up, Heap.next_up, if_true, if_false, Nat.reduceAdd, Nat.zero_add, Nat.add_zero, List.getElem?_cons_succ, List.getElem?_cons_zero, Option.some.injEq, exists_eq_left', eq_self, true_and, and_true, cellsV_agg, cellsV_int, cellsV_bool, cellsV_slice, cellsV_iface, reduceIte, Nat.add_eq_left, Nat.left_eq_add, Nat.succ_ne_self, List.length_cons, List.length_nil, Nat.reduceLeDiff, List.all_cons, List.all_nil, oneCell_int, oneCell_bool, oneCell_slice, oneCell_iface, Bool.and_self, List.drop_zero, List.drop_succ_cons, List.take_succ_cons, List.take_zero, List.cons_append, List.nil_append, List.append_nil, splice, rfill_cons, List.take_nil, List.drop_nil, bfill_cons, Nat.mul_one, Nat.zero_mul, Nat.one_mul, r0, r5, r6, r8, r9, gB, d1, d4, hnb, gn, hnf, hb0', g0]
          rcases hpk.kind with e | e | e
          · have k3 : (l[i].kind == 3) = false := by simp [e]
            have hs : sizeM l[i] ((posL l nr o).getD i 0) (nr.getD i false) = l[i].size := by simp [sizeM, e]
            rw [hnf] at hs
            simp only [k3, pexec_skip, pexec_ret, pexec_exit, pexec_ops, pexec_seq, pexec_block, kp_ret, kp_ext, exK_this, exK_other, pexec_cond, cV_bool, cB_true, cB_false, pops_nil, pops_cons, pops_guard, popsK_some, popsK_none, gV_bool, gV_undef, gB_true, gB_false, bt, bf, upd_this, upd_red, Nat.reduceBEq, updO_some, updO_none, ev_t, ev_const, ev_global, ev_func, pr_mv, pr_pick, pickK_bool, pr_bin, bin_add, bin_sub, bin_mul, bin_and, bin_or, bin_xor, bin_andNot, bin_eql, bin_neq, bin_lss, bin_leq, bin_gtr, bin_geq, bin_rem, bin_quo, bin_shl, bin_shr, bin_seq, bin_sne, bin_sadd, pr_beq, beqK_eq, beqK_ne, pr_eqs, pr_not, notK_bool, pr_toInt, toIntK_int, pr_mkIf, pr_fld, fldK_cell, fldK_agg, pr_fldA, fldAK_ptr, pr_idxS, idxK_slice, pr_chr, chrK_str, pr_ext, extK_0, extK_1, extK_2, pr_asrt, asrtK_yes, asrtK_no, asrtK_only, pr_build, buildK_some, rfill_nil, pr_bslice, bsliceK_some, bfill_nil, evP_mk, pr_alloc, pr_box, pr_mkSl, mkSlK_int, pr_slS, slK_some, bndOf_none, bndOf_some, pr_ld, pr_ld_fl, ldK_ptr, ldB_cell, ldB_agg, pr_st, stoK_ptr, stoB_cells, pr_lenS, lenSK_slice, pr_lenT, lenTK_str, pr_app, pr_call, pr_call_st, flK_apply, stK_apply, List.map_cons, List.map_nil, ne_eq, not_false_eq_true, not_true_eq_false, Nat.reduceEqDiff, reduceCtorEq, cond_true, cond_false, Bool.not_true, Bool.not_false, Bool.not_not, ldR_ptr, ldRB_agg, ldRB_cell, Heap.get_push, Heap.next_push, Heap.get_set, Heap.next_set, Heap.get_up, Heap.next_up, if_true, if_false, Nat.reduceAdd, Nat.zero_add, Nat.add_zero, List.getElem?_cons_succ, List.getElem?_cons_zero, Option.some.injEq, exists_eq_left', eq_self, true_and, and_true, cellsV_agg, cellsV_int, cellsV_bool, cellsV_slice, cellsV_iface, reduceIte, Nat.add_eq_left, Nat.left_eq_add, Nat.succ_ne_self, List.length_cons, List.length_nil, Nat.reduceLeDiff, List.all_cons, List.all_nil, oneCell_int, oneCell_bool, oneCell_slice, oneCell_iface, Bool.and_self, List.drop_zero, List.drop_succ_cons, List.take_succ_cons, List.take_zero, List.cons_append, List.nil_append, List.append_nil, splice, rfill_cons, List.take_nil, List.drop_nil, bfill_cons, Nat.mul_one, Nat.zero_mul, Nat.one_mul, hs, beq_self_eq_true, r9, ei]
            exact ⟨l.length - (i + 1), by omega, i + 1, by omega, rfl, rfl, by simp only [upd_this, upd_red, Nat.reduceBEq, updO_some, updO_none, ev_t, ev_const, cond_true, cond_false, r0], by simp only [upd_this, upd_red, Nat.reduceBEq, updO_some, updO_none, ev_t, ev_const, cond_true, cond_false, r5], by simp only [upd_this, upd_red, Nat.reduceBEq, updO_some, updO_none, ev_t, ev_const, cond_true, cond_false, r6], by simp only [upd_this, upd_red, Nat.reduceBEq, updO_some, updO_none, ev_t, ev_const, cond_true, cond_false, r8, hb8], by simp only [upd_this, upd_red, Nat.reduceBEq, updO_some, updO_none, ev_t, ev_const, cond_true, cond_false]⟩
          · exact absurd e hk
          · have k3 : (l[i].kind == 3) = true := by simp [e]
            obtain ⟨am1, am2, am3⟩ := align_mod (b := nr.getD i false) hpk e (by omega : 0 ≤ (posL l nr o).getD i 0)
            rw [← hps1] at am3
            rw [hnf] at am2 hsz
            have j1 : ¬ sizeM l[i] ((posL l nr o).getD i 0) false < 0 := by omega
            have j2 : ¬ l[i].align ≤ sizeM l[i] ((posL l nr o).getD i 0) false := by omega
            have j3 : l[i].align ≠ 0 := by omega
            have j4 : ((posL l nr o).getD (i + 1) 0).tmod l[i].align = 0 := by
              rw [Int.tmod_eq_emod_of_nonneg (by omega)]; exact am3
            simp only [k3, pexec_skip, pexec_ret, pexec_exit, pexec_ops, pexec_seq, pexec_block, kp_ret, kp_ext, exK_this, exK_other, pexec_cond, cV_bool, cB_true, cB_false, pops_nil, pops_cons, pops_guard, popsK_some, popsK_none, gV_bool, gV_undef, gB_true, gB_false, bt, bf, upd_this, upd_red, Nat.reduceBEq, updO_some, updO_none, ev_t, ev_const, ev_global, ev_func, pr_mv, pr_pick, pickK_bool, pr_bin, bin_add, bin_sub, bin_mul, bin_and, bin_or, bin_xor, bin_andNot, bin_eql, bin_neq, bin_lss, bin_leq, bin_gtr, bin_geq, bin_rem, bin_quo, bin_shl, bin_shr, bin_seq, bin_sne, bin_sadd, pr_beq, beqK_eq, beqK_ne, pr_eqs, pr_not, notK_bool, pr_toInt, toIntK_int, pr_mkIf, pr_fld, fldK_cell, fldK_agg, pr_fldA, fldAK_ptr, pr_idxS, idxK_slice, pr_chr, chrK_str, pr_ext, extK_0, extK_1, extK_2, pr_asrt, asrtK_yes, asrtK_no, asrtK_only, pr_build, buildK_some, rfill_nil, pr_bslice, bsliceK_some, bfill_nil, evP_mk, pr_alloc, pr_box, pr_mkSl, mkSlK_int, pr_slS, slK_some, bndOf_none, bndOf_some, pr_ld, pr_ld_fl, ldK_ptr, ldB_cell, ldB_agg, pr_st, stoK_ptr, stoB_cells, pr_lenS, lenSK_slice, pr_lenT, lenTK_str, pr_app, pr_call, pr_call_st, flK_apply, stK_apply, List.map_cons, List.map_nil, ne_eq, not_false_eq_true, not_true_eq_false, Nat.reduceEqDiff, reduceCtorEq, cond_true, cond_false, Bool.not_true, Bool.not_false, Bool.not_not, ldR_ptr, ldRB_agg, ldRB_cell, Heap.get_push, Heap.next_push, Heap.get_set, Heap.next_set, Heap.get_up, Heap.next_up, if_true, if_false, Nat.reduceAdd, Nat.zero_add, Nat.add_zero, List.getElem?_cons_succ, List.getElem?_cons_zero, Option.some.injEq, exists_eq_left', eq_self, true_and, and_true, cellsV_agg, cellsV_int, cellsV_bool, cellsV_slice, cellsV_iface, reduceIte, Nat.add_eq_left, Nat.left_eq_add, Nat.succ_ne_self, List.length_cons, List.length_nil, Nat.reduceLeDiff, List.all_cons, List.all_nil, oneCell_int, oneCell_bool, oneCell_slice, oneCell_iface, Bool.and_self, List.drop_zero, List.drop_succ_cons, List.take_succ_cons, List.take_zero, List.cons_append, List.nil_append, List.append_nil, splice, rfill_cons, List.take_nil, List.drop_nil, bfill_cons, Nat.mul_one, Nat.zero_mul, Nat.one_mul, r0, r6, r9, d1, d3, d4, d5, ei, hb0', g6, j1, j2, decide_false, gB, hab, gb, j4, beq_self_eq_true]
            refine ⟨j3, ?_⟩
            exact ⟨l.length - (i + 1), by omega, i + 1, by omega, rfl, rfl, by simp only [upd_this, upd_red, Nat.reduceBEq, updO_some, updO_none, ev_t, ev_const, cond_true, cond_false, r0], by simp only [upd_this, upd_red, Nat.reduceBEq, updO_some, updO_none, ev_t, ev_const, cond_true, cond_false, r5], by simp only [upd_this, upd_red, Nat.reduceBEq, updO_some, updO_none, ev_t, ev_const, cond_true, cond_false, r6], by simp only [upd_this, upd_red, Nat.reduceBEq, updO_some, updO_none, ev_t, ev_const, cond_true, cond_false, r8, hb8], by simp only [upd_this, upd_red, Nat.reduceBEq, updO_some, updO_none, ev_t, ev_const, cond_true, cond_false]⟩
      · have h2 : i = l.length := by have := of_decide_eq_false h2; omega
        subst h2
        have hbl : (brs (l.take l.length) : Int) = brs l := by rw [List.take_length]
        have w8 : IntKind.i64.wrap ((brs l : Int) + 1) = (brs l : Int) + 1 := by
          rw [List.take_length] at hbc
          exact w64 (by unfold I64; omega)
        have j1 : (1 : Int) ≤ ps := by omega
        have j2 : ps ≤ (brs l : Int) + 1 := by omega
        simp only [pexec_skip, pexec_ret, pexec_exit, pexec_ops, pexec_seq, pexec_block, kp_ret, kp_ext, exK_this, exK_other, pexec_cond, cV_bool, cB_true, cB_false, pops_nil, pops_cons, pops_guard, popsK_some, popsK_none, gV_bool, gV_undef, gB_true, gB_false, bt, bf, upd_this, upd_red, Nat.reduceBEq, updO_some, updO_none, ev_t, ev_const, ev_global, ev_func, pr_mv, pr_pick, pickK_bool, pr_bin, bin_add, bin_sub, bin_mul, bin_and, bin_or, bin_xor, bin_andNot, bin_eql, bin_neq, bin_lss, bin_leq, bin_gtr, bin_geq, bin_rem, bin_quo, bin_shl, bin_shr, bin_seq, bin_sne, bin_sadd, pr_beq, beqK_eq, beqK_ne, pr_eqs, pr_not, notK_bool, pr_toInt, toIntK_int, pr_mkIf, pr_fld, fldK_cell, fldK_agg, pr_fldA, fldAK_ptr, pr_idxS, idxK_slice, pr_chr, chrK_str, pr_ext, extK_0, extK_1, extK_2, pr_asrt, asrtK_yes, asrtK_no, asrtK_only, pr_build, buildK_some, rfill_nil, pr_bslice, bsliceK_some, bfill_nil, evP_mk, pr_alloc, pr_box, pr_mkSl, mkSlK_int, pr_slS, slK_some, bndOf_none, bndOf_some, pr_ld, pr_ld_fl, ldK_ptr, ldB_cell, ldB_agg, pr_st, stoK_ptr, stoB_cells, pr_lenS, lenSK_slice, pr_lenT, lenTK_str, pr_app, pr_call, pr_call_st, flK_apply, stK_apply, List.map_cons, List.map_nil, ne_eq, not_false_eq_true, not_true_eq_false, Nat.reduceEqDiff, reduceCtorEq, cond_true, cond_false, Bool.not_true, Bool.not_false, Bool.not_not, ldR_ptr, ldRB_agg, ldRB_cell, Heap.get_push, Heap.next_push, Heap.get_set, Heap.next_set, Heap.get_up, Heap.next_up, if_true, if_false, Nat.reduceAdd, Nat.zero_add, Nat.add_zero, List.getElem?_cons_succ, List.getElem?_cons_zero, Option.some.injEq, exists_eq_left', eq_self, true_and, and_true, cellsV_agg, cellsV_int, cellsV_bool, cellsV_slice, cellsV_iface, reduceIte, Nat.add_eq_left, Nat.left_eq_add, Nat.succ_ne_self, List.length_cons, List.length_nil, Nat.reduceLeDiff, List.all_cons, List.all_nil, oneCell_int, oneCell_bool, oneCell_slice, oneCell_iface, Bool.and_self, List.drop_zero, List.drop_succ_cons, List.take_succ_cons, List.take_zero, List.cons_append, List.nil_append, List.append_nil, splice, rfill_cons, List.take_nil, List.drop_nil, bfill_cons, Nat.mul_one, Nat.zero_mul, Nat.one_mul, r5, r6, r8, gB, hbl, w8, j1, j2, decide_true, ret6]
        exact .mk (by have := hxB.next; simpa using Nat.le_trans this hn3) ⟨rfl, hxB.up hn3⟩
end Go.Proofs.Ytgoafcanccbflaa.lay
