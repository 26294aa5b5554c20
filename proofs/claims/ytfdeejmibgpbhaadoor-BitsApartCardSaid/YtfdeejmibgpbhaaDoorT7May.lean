/- BitsMay: the walk. -/
import Derived.Test.YtfdeejmibgpbhaaDoorT6May
set_option linter.unusedVariables false
set_option linter.unusedSimpArgs false
set_option maxRecDepth 100000
namespace Go.Proofs.YtfdeejmibgpbhaaDoor.bits
open Go.Ab

theorem tab_parts : tabA = tabA.take 10 ++ ((tabA.drop 10).take 10 ++ ((tabA.drop 20).take 10 ++ ((tabA.drop 30).take 10 ++ (tabA.drop 40).take 10))) := by kernel_rfl
theorem may_all : ∀ e ∈ tabA, checked_ e = true := fun e he => by
  rw [tab_parts] at he
  simp only [List.mem_append] at he
  rcases he with h | h | h | h | h
  · exact List.all_eq_true.1 may0 e h
  · exact List.all_eq_true.1 may1 e h
  · exact List.all_eq_true.1 may2 e h
  · exact List.all_eq_true.1 may3 e h
  · exact List.all_eq_true.1 may4 e h

/-- shape.Check, of a form of the table. -/
theorem q18 (e : En) (he : checked_ e = true) (n : Nat) (H : Heap) (hat : (e.loc n).At H) : CallQ Tryd.prog 18 [.agg (e.loc n).cells.toArray] H fun u H' => u = .int .i64 0 ∧ H' = H := by
  unfold checked_ at he
  simp only [Bool.and_eq_true, Nat.blt_eq, decide_eq_true_eq] at he
  obtain ⟨⟨⟨⟨h1, _⟩, _⟩, l1⟩, l2⟩ := he
  obtain ⟨H1, hr⟩ := isZero_some h1
  have hd := (run_sound none_known 20 18 _ _ _ H1 hr).does (by kernel_rfl)
  obtain ⟨_, _, ⟨a1, c1, v1, g1⟩, ⟨a2, c2, v2, g2⟩⟩ := hat
  obtain ⟨b1, e1, r1, rfl, g1'⟩ := g1 l1
  obtain ⟨b2, e2, r2, rfl, g2'⟩ := g2 l2
  have w1 : (Value.slice (some ⟨n + e.a, 0, none⟩) e.f.shapes.length e.ca) = .slice (some ⟨b1, 0, none⟩) e.f.shapes.length c1 := v1
  have w2 : (Value.slice (some ⟨n + e.b, 0, none⟩) e.f.slots.length e.cb) = .slice (some ⟨b2, 0, none⟩) e.f.slots.length c2 := v2
  have f1 : b1 = n + e.a := by cases w1; rfl
  have f2 : b2 = n + e.b := by cases w2; rfl
  rw [f1] at g1'
  rw [f2] at g2'
  refine callQ_of_does (by kernel_rfl) (does_view (τ := fun id => if id = 11 then n + e.a else if id = 12 then n + e.b else id) hd rfl (by rw [gsize]; exact (by omega : 11 ≤ 13)) (fun g hg => ?_) (fun id b hb => ?_) rfl (fun j x y hx hy => ?_))
  · rw [gsize] at hg
    rw [if_neg (by omega), if_neg (by omega)]
  · unfold small at hb
    rw [Heap.get_push, Heap.get_push] at hb
    split at hb
    · rename_i hid
      cases hb
      have hid : id = 12 := hid
      subst hid
      refine ⟨_, _, _, _, _, rfl, g2', rfl, fun j x y hx hy => ?_⟩
      have hxy : (ints e.f.slots)[j]? = some y := hy
      rw [hx] at hxy; cases hxy
      obtain ⟨z, _, rfl⟩ := List.mem_map.1 (List.mem_of_getElem? hx)
      exact .plain rfl
    · split at hb
      · rename_i hid
        cases hb
        have hid : id = 11 := hid
        subst hid
        refine ⟨_, _, _, _, _, rfl, g1', rfl, fun j x y hx hy => ?_⟩
        have hxy : (ints e.f.shapes)[j]? = some y := hy
        rw [hx] at hxy; cases hxy
        obtain ⟨z, _, rfl⟩ := List.mem_map.1 (List.mem_of_getElem? hx)
        exact .plain rfl
      · cases hb
  · match j, hx, hy with
    | 0, hx, hy =>
      cases hx
      cases hy
      refine .agg rfl fun j x y hx hy => ?_
      match j, hx, hy with
      | 0, hx, hy => cases hx; cases hy; exact .plain rfl
      | 1, hx, hy => cases hx; cases hy; exact Seen.slice (τ := fun id => if id = 11 then n + e.a else if id = 12 then n + e.b else id) (id := 11) (show 11 < 13 by omega)
      | 2, hx, hy => cases hx; cases hy; exact Seen.slice (τ := fun id => if id = 11 then n + e.a else if id = 12 then n + e.b else id) (id := 12) (show 12 < 13 by omega)
      | 3, hx, hy => cases hx; cases hy; exact .plain rfl
      | 4, hx, hy => cases hx; cases hy; exact .plain rfl
      | 5, hx, hy => cases hx; cases hy; exact .plain rfl
      | 6, hx, hy => cases hx; cases hy; exact .plain rfl
      | 7, hx, hy => cases hx; cases hy; exact .plain rfl
      | 8, hx, hy => cases hx; cases hy; exact .plain rfl
      | 9, hx, hy => cases hx; cases hy; exact .plain rfl
      | j + 10, hx, hy => simp [Lf.cells] at hx

theorem q8 (which : Int) (hwh : I64 which) (H : Heap) (ht : tabsIn tabs H = true) (hG : 11 ≤ H.next) : CallQ Tryd.prog 8 [.int .i64 which] H fun u H' => u = .bool true ∧ H.next ≤ H'.next := by
  refine in8 fun hw => ?_
  simp only [pc8, pexec_skip, pexec_ret, pexec_exit, pexec_ops, pexec_seq, pexec_block, kp_ret, kp_ext, exK_this, exK_other, pexec_cond, cV_bool, cB_true, cB_false, pops_nil, pops_cons, pops_guard, popsK_some, popsK_none, gV_bool, gV_undef, gB_true, gB_false, bt, bf, upd_this, upd_red, Nat.reduceBEq, updO_some, updO_none, ev_t, ev_const, ev_global, ev_func, pr_mv, pr_pick, pickK_bool, pr_bin, bin_add, bin_sub, bin_mul, bin_and, bin_or, bin_xor, bin_andNot, bin_eql, bin_neq, bin_lss, bin_leq, bin_gtr, bin_geq, bin_rem, bin_quo, bin_shl, bin_shr, bin_seq, bin_sne, bin_sadd, pr_beq, beqK_eq, beqK_ne, pr_eqs, pr_not, notK_bool, pr_toInt, toIntK_int, pr_mkIf, pr_fld, fldK_cell, fldK_agg, pr_fldA, fldAK_ptr, pr_idxS, idxK_slice, pr_chr, chrK_str, pr_ext, extK_0, extK_1, extK_2, pr_asrt, asrtK_yes, asrtK_no, asrtK_only, pr_build, buildK_some, rfill_nil, pr_bslice, bsliceK_some, bfill_nil, evP_mk, pr_alloc, pr_box, pr_mkSl, mkSlK_int, pr_slS, slK_some, bndOf_none, bndOf_some, pr_ld, pr_ld_fl, ldK_ptr, ldB_cell, ldB_agg, pr_st, pr_stf, apK_apply, apL_nil, apL_cons, apartV_ptr, stoK_ptr, stoB_cells, pr_lenS, lenSK_slice, pr_lenT, lenTK_str, pr_app, pr_call, pr_call_st, flK_apply, stK_apply, List.map_cons, List.map_nil, ne_eq, not_false_eq_true, not_true_eq_false, Nat.reduceEqDiff, reduceCtorEq, cond_true, cond_false, Bool.not_true, Bool.not_false, Bool.not_not, ldR_ptr, ldRB_agg, ldRB_cell, Heap.get_push, Heap.next_push, Heap.get_set, Heap.next_set, Heap.get_up, Heap.next_up, if_true, if_false, Nat.reduceAdd, Nat.zero_add, Nat.add_zero, List.getElem?_cons_succ, List.getElem?_cons_zero, Option.some.injEq, exists_eq_left', eq_self, true_and, and_true, cellsV_agg, cellsV_int, cellsV_bool, cellsV_slice, cellsV_iface, reduceIte, Nat.add_eq_left, Nat.left_eq_add, Nat.succ_ne_self, List.length_cons, List.length_nil, Nat.reduceLeDiff, List.all_cons, List.all_nil, oneCell_int, oneCell_bool, oneCell_slice, oneCell_iface, Bool.and_self, List.drop_zero, List.drop_succ_cons, List.take_succ_cons, List.take_zero, List.cons_append, List.nil_append, List.append_nil, splice, rfill_cons, List.take_nil, List.drop_nil, bfill_cons, Nat.mul_one, Nat.zero_mul, Nat.one_mul]
  refine (q5 H ht).mono ?_
  rintro _ Hx ⟨rfl, hEq⟩
  subst Hx
  simp only [pexec_skip, pexec_ret, pexec_exit, pexec_ops, pexec_seq, pexec_block, kp_ret, kp_ext, exK_this, exK_other, pexec_cond, cV_bool, cB_true, cB_false, pops_nil, pops_cons, pops_guard, popsK_some, popsK_none, gV_bool, gV_undef, gB_true, gB_false, bt, bf, upd_this, upd_red, Nat.reduceBEq, updO_some, updO_none, ev_t, ev_const, ev_global, ev_func, pr_mv, pr_pick, pickK_bool, pr_bin, bin_add, bin_sub, bin_mul, bin_and, bin_or, bin_xor, bin_andNot, bin_eql, bin_neq, bin_lss, bin_leq, bin_gtr, bin_geq, bin_rem, bin_quo, bin_shl, bin_shr, bin_seq, bin_sne, bin_sadd, pr_beq, beqK_eq, beqK_ne, pr_eqs, pr_not, notK_bool, pr_toInt, toIntK_int, pr_mkIf, pr_fld, fldK_cell, fldK_agg, pr_fldA, fldAK_ptr, pr_idxS, idxK_slice, pr_chr, chrK_str, pr_ext, extK_0, extK_1, extK_2, pr_asrt, asrtK_yes, asrtK_no, asrtK_only, pr_build, buildK_some, rfill_nil, pr_bslice, bsliceK_some, bfill_nil, evP_mk, pr_alloc, pr_box, pr_mkSl, mkSlK_int, pr_slS, slK_some, bndOf_none, bndOf_some, pr_ld, pr_ld_fl, ldK_ptr, ldB_cell, ldB_agg, pr_st, pr_stf, apK_apply, apL_nil, apL_cons, apartV_ptr, stoK_ptr, stoB_cells, pr_lenS, lenSK_slice, pr_lenT, lenTK_str, pr_app, pr_call, pr_call_st, flK_apply, stK_apply, List.map_cons, List.map_nil, ne_eq, not_false_eq_true, not_true_eq_false, Nat.reduceEqDiff, reduceCtorEq, cond_true, cond_false, Bool.not_true, Bool.not_false, Bool.not_not, ldR_ptr, ldRB_agg, ldRB_cell, Heap.get_push, Heap.next_push, Heap.get_set, Heap.next_set, Heap.get_up, Heap.next_up, if_true, if_false, Nat.reduceAdd, Nat.zero_add, Nat.add_zero, List.getElem?_cons_succ, List.getElem?_cons_zero, Option.some.injEq, exists_eq_left', eq_self, true_and, and_true, cellsV_agg, cellsV_int, cellsV_bool, cellsV_slice, cellsV_iface, reduceIte, Nat.add_eq_left, Nat.left_eq_add, Nat.succ_ne_self, List.length_cons, List.length_nil, Nat.reduceLeDiff, List.all_cons, List.all_nil, oneCell_int, oneCell_bool, oneCell_slice, oneCell_iface, Bool.and_self, List.drop_zero, List.drop_succ_cons, List.take_succ_cons, List.take_zero, List.cons_append, List.nil_append, List.append_nil, splice, rfill_cons, List.take_nil, List.drop_nil, bfill_cons, Nat.mul_one, Nat.zero_mul, Nat.one_mul]
  refine (q9 H ht hG).thenW ?_
  rintro _ H1 hn1 hw1 ⟨hx1, rfl, ⟨hsl, hat⟩⟩
  have k2 : (((50 : Nat) : Int) == 0) = false := by decide
  simp only [pexec_skip, pexec_ret, pexec_exit, pexec_ops, pexec_seq, pexec_block, kp_ret, kp_ext, exK_this, exK_other, pexec_cond, cV_bool, cB_true, cB_false, pops_nil, pops_cons, pops_guard, popsK_some, popsK_none, gV_bool, gV_undef, gB_true, gB_false, bt, bf, upd_this, upd_red, Nat.reduceBEq, updO_some, updO_none, ev_t, ev_const, ev_global, ev_func, pr_mv, pr_pick, pickK_bool, pr_bin, bin_add, bin_sub, bin_mul, bin_and, bin_or, bin_xor, bin_andNot, bin_eql, bin_neq, bin_lss, bin_leq, bin_gtr, bin_geq, bin_rem, bin_quo, bin_shl, bin_shr, bin_seq, bin_sne, bin_sadd, pr_beq, beqK_eq, beqK_ne, pr_eqs, pr_not, notK_bool, pr_toInt, toIntK_int, pr_mkIf, pr_fld, fldK_cell, fldK_agg, pr_fldA, fldAK_ptr, pr_idxS, idxK_slice, pr_chr, chrK_str, pr_ext, extK_0, extK_1, extK_2, pr_asrt, asrtK_yes, asrtK_no, asrtK_only, pr_build, buildK_some, rfill_nil, pr_bslice, bsliceK_some, bfill_nil, evP_mk, pr_alloc, pr_box, pr_mkSl, mkSlK_int, pr_slS, slK_some, bndOf_none, bndOf_some, pr_ld, pr_ld_fl, ldK_ptr, ldB_cell, ldB_agg, pr_st, pr_stf, apK_apply, apL_nil, apL_cons, apartV_ptr, stoK_ptr, stoB_cells, pr_lenS, lenSK_slice, pr_lenT, lenTK_str, pr_app, pr_call, pr_call_st, flK_apply, stK_apply, List.map_cons, List.map_nil, ne_eq, not_false_eq_true, not_true_eq_false, Nat.reduceEqDiff, reduceCtorEq, cond_true, cond_false, Bool.not_true, Bool.not_false, Bool.not_not, ldR_ptr, ldRB_agg, ldRB_cell, Heap.get_push, Heap.next_push, Heap.get_set, Heap.next_set, Heap.get_up, Heap.next_up, if_true, if_false, Nat.reduceAdd, Nat.zero_add, Nat.add_zero, List.getElem?_cons_succ, List.getElem?_cons_zero, Option.some.injEq, exists_eq_left', eq_self, true_and, and_true, cellsV_agg, cellsV_int, cellsV_bool, cellsV_slice, cellsV_iface, reduceIte, Nat.add_eq_left, Nat.left_eq_add, Nat.succ_ne_self, List.length_cons, List.length_nil, Nat.reduceLeDiff, List.all_cons, List.all_nil, oneCell_int, oneCell_bool, oneCell_slice, oneCell_iface, Bool.and_self, List.drop_zero, List.drop_succ_cons, List.take_succ_cons, List.take_zero, List.cons_append, List.nil_append, List.append_nil, splice, rfill_cons, List.take_nil, List.drop_nil, bfill_cons, Nat.mul_one, Nat.zero_mul, Nat.one_mul, k2]
  refine (q15 which ((50 : Nat) : Int) hwh (by decide) H1).mono ?_
  rintro _ Hx ⟨rfl, hEq⟩
  subst Hx
  obtain ⟨r, hr, hr49⟩ : ∃ r : Nat, which % ((50 : Nat) : Int) = (r : Int) ∧ r < 50 := by
    have h1 := Int.emod_nonneg which (by decide : ((50 : Nat) : Int) ≠ 0)
    have h2 := Int.emod_lt_of_pos which (by decide : (0 : Int) < ((50 : Nat) : Int))
    exact ⟨(which % ((50 : Nat) : Int)).toNat, by omega, by omega⟩
  have hlx : (tabA.map (En.loc H.next)).length = 50 := by rw [List.length_map, tabA_length]
  obtain ⟨eb, heb⟩ : ∃ e, tabA[r]? = some e := ⟨_, List.getElem?_eq_getElem (by rw [tabA_length]; omega)⟩
  have hxb : (tabA.map (En.loc H.next))[r]? = some (eb.loc H.next) := by rw [List.getElem?_map, heb]; rfl
  have hck := may_all eb (List.mem_of_getElem? heb)
  have hck2 := hck
  unfold checked_ at hck2
  simp only [Bool.and_eq_true, Nat.blt_eq, decide_eq_true_eq] at hck2
  obtain ⟨⟨⟨⟨_, o1⟩, o2⟩, _⟩, _⟩ := hck2
  generalize (tabA.map (En.loc H.next)) = xs at *
  have atb := hat _ (List.mem_of_getElem? hxb)
  obtain ⟨_, _, hv, hblk⟩ := hsl
  rw [hlx] at hv
  cases hv
  obtain ⟨b, e, ro, hb, hg⟩ := hblk (by omega)
  cases hb
  have c1 : (0 : Int) ≤ (r : Int) ∧ (r : Int) < ((50 : Nat) : Int) := by omega
  have c2 : (r : Int).toNat = r := by omega
  have c3 : r * 10 + 10 ≤ xs.length * 10 := by omega
  have n1 := cellsL_length xs
  have db := cellsL_at xs r _ hxb
  have ab := lcells_all atb
  have b0 : (eb.loc H.next).cells[0]? = some (.int .i64 eb.f.op) := Eq.trans rfl rfl
  have p1 : (116 : Int) ≤ eb.f.op := o1
  have p2 : eb.f.op ≤ 135 := o2
  simp only [pexec_skip, pexec_ret, pexec_exit, pexec_ops, pexec_seq, pexec_block, kp_ret, kp_ext, exK_this, exK_other, pexec_cond, cV_bool, cB_true, cB_false, pops_nil, pops_cons, pops_guard, popsK_some, popsK_none, gV_bool, gV_undef, gB_true, gB_false, bt, bf, upd_this, upd_red, Nat.reduceBEq, updO_some, updO_none, ev_t, ev_const, ev_global, ev_func, pr_mv, pr_pick, pickK_bool, pr_bin, bin_add, bin_sub, bin_mul, bin_and, bin_or, bin_xor, bin_andNot, bin_eql, bin_neq, bin_lss, bin_leq, bin_gtr, bin_geq, bin_rem, bin_quo, bin_shl, bin_shr, bin_seq, bin_sne, bin_sadd, pr_beq, beqK_eq, beqK_ne, pr_eqs, pr_not, notK_bool, pr_toInt, toIntK_int, pr_mkIf, pr_fld, fldK_cell, fldK_agg, pr_fldA, fldAK_ptr, pr_idxS, idxK_slice, pr_chr, chrK_str, pr_ext, extK_0, extK_1, extK_2, pr_asrt, asrtK_yes, asrtK_no, asrtK_only, pr_build, buildK_some, rfill_nil, pr_bslice, bsliceK_some, bfill_nil, evP_mk, pr_alloc, pr_box, pr_mkSl, mkSlK_int, pr_slS, slK_some, bndOf_none, bndOf_some, pr_ld, pr_ld_fl, ldK_ptr, ldB_cell, ldB_agg, pr_st, pr_stf, apK_apply, apL_nil, apL_cons, apartV_ptr, stoK_ptr, stoB_cells, pr_lenS, lenSK_slice, pr_lenT, lenTK_str, pr_app, pr_call, pr_call_st, flK_apply, stK_apply, List.map_cons, List.map_nil, ne_eq, not_false_eq_true, not_true_eq_false, Nat.reduceEqDiff, reduceCtorEq, cond_true, cond_false, Bool.not_true, Bool.not_false, Bool.not_not, ldR_ptr, ldRB_agg, ldRB_cell, Heap.get_push, Heap.next_push, Heap.get_set, Heap.next_set, Heap.get_up, Heap.next_up, if_true, if_false, Nat.reduceAdd, Nat.zero_add, Nat.add_zero, List.getElem?_cons_succ, List.getElem?_cons_zero, Option.some.injEq, exists_eq_left', eq_self, true_and, and_true, cellsV_agg, cellsV_int, cellsV_bool, cellsV_slice, cellsV_iface, reduceIte, Nat.add_eq_left, Nat.left_eq_add, Nat.succ_ne_self, List.length_cons, List.length_nil, Nat.reduceLeDiff, List.all_cons, List.all_nil, oneCell_int, oneCell_bool, oneCell_slice, oneCell_iface, Bool.and_self, List.drop_zero, List.drop_succ_cons, List.take_succ_cons, List.take_zero, List.cons_append, List.nil_append, List.append_nil, splice, rfill_cons, List.take_nil, List.drop_nil, bfill_cons, Nat.mul_one, Nat.zero_mul, Nat.one_mul, hr, c1, c2, c3, hg, n1, db, lcells_length, lcells_take, ab]
  have xB : Ext H1 ((H1.push (.cells [.int .i64 0, .slice none 0 0, .slice none 0 0, .int .i64 0, .int .i64 0, .int .i64 0, .int .i64 0, .int .i64 0, .bool false, .int .i64 0] 32 false)).set H1.next (.cells (eb.loc H.next).cells 32 false)) := ((Ext.refl H1).push _).set (Nat.le_refl _) _
  refine (q18 eb hck H.next _ (atb.ext hw1 xB)).mono ?_
  rintro _ Hx ⟨rfl, hEq⟩
  subst Hx
  simp only [beq_self_eq_true, pexec_skip, pexec_ret, pexec_exit, pexec_ops, pexec_seq, pexec_block, kp_ret, kp_ext, exK_this, exK_other, pexec_cond, cV_bool, cB_true, cB_false, pops_nil, pops_cons, pops_guard, popsK_some, popsK_none, gV_bool, gV_undef, gB_true, gB_false, bt, bf, upd_this, upd_red, Nat.reduceBEq, updO_some, updO_none, ev_t, ev_const, ev_global, ev_func, pr_mv, pr_pick, pickK_bool, pr_bin, bin_add, bin_sub, bin_mul, bin_and, bin_or, bin_xor, bin_andNot, bin_eql, bin_neq, bin_lss, bin_leq, bin_gtr, bin_geq, bin_rem, bin_quo, bin_shl, bin_shr, bin_seq, bin_sne, bin_sadd, pr_beq, beqK_eq, beqK_ne, pr_eqs, pr_not, notK_bool, pr_toInt, toIntK_int, pr_mkIf, pr_fld, fldK_cell, fldK_agg, pr_fldA, fldAK_ptr, pr_idxS, idxK_slice, pr_chr, chrK_str, pr_ext, extK_0, extK_1, extK_2, pr_asrt, asrtK_yes, asrtK_no, asrtK_only, pr_build, buildK_some, rfill_nil, pr_bslice, bsliceK_some, bfill_nil, evP_mk, pr_alloc, pr_box, pr_mkSl, mkSlK_int, pr_slS, slK_some, bndOf_none, bndOf_some, pr_ld, pr_ld_fl, ldK_ptr, ldB_cell, ldB_agg, pr_st, pr_stf, apK_apply, apL_nil, apL_cons, apartV_ptr, stoK_ptr, stoB_cells, pr_lenS, lenSK_slice, pr_lenT, lenTK_str, pr_app, pr_call, pr_call_st, flK_apply, stK_apply, List.map_cons, List.map_nil, ne_eq, not_false_eq_true, not_true_eq_false, Nat.reduceEqDiff, reduceCtorEq, cond_true, cond_false, Bool.not_true, Bool.not_false, Bool.not_not, ldR_ptr, ldRB_agg, ldRB_cell, Heap.get_push, Heap.next_push, Heap.get_set, Heap.next_set, Heap.get_up, Heap.next_up, if_true, if_false, Nat.reduceAdd, Nat.zero_add, Nat.add_zero, List.getElem?_cons_succ, List.getElem?_cons_zero, Option.some.injEq, exists_eq_left', eq_self, true_and, and_true, cellsV_agg, cellsV_int, cellsV_bool, cellsV_slice, cellsV_iface, reduceIte, Nat.add_eq_left, Nat.left_eq_add, Nat.succ_ne_self, List.length_cons, List.length_nil, Nat.reduceLeDiff, List.all_cons, List.all_nil, oneCell_int, oneCell_bool, oneCell_slice, oneCell_iface, Bool.and_self, List.drop_zero, List.drop_succ_cons, List.take_succ_cons, List.take_zero, List.cons_append, List.nil_append, List.append_nil, splice, rfill_cons, List.take_nil, List.drop_nil, bfill_cons, Nat.mul_one, Nat.zero_mul, Nat.one_mul, b0, p1, p2, decide_true, ret8]
  exact .mk (by simp; omega) ⟨rfl, by simp; omega⟩
end Go.Proofs.YtfdeejmibgpbhaaDoor.bits
