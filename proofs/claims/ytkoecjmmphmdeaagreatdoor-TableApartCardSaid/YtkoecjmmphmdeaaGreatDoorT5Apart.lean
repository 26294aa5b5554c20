/- linotypelaw19.TableApart. -/
import Derived.Test.YtkoecjmmphmdeaaGreatDoorT4Facts
import Derived.Test.YtkoecjmmphmdeaaGreatDoorK1Pick
import Derived.Test.YtkoecjmmphmdeaaGreatDoorA2Awake
set_option linter.unusedVariables false
set_option linter.unusedSimpArgs false
set_option maxRecDepth 100000
set_option maxHeartbeats 4000000
namespace Go.Proofs.YtkoecjmmphmdeaaGreatDoor.code
open Go.Ab

theorem q_apart (i : Int) (hi : I64 i) (k : Int) (hk : I64 k) (H : Heap) (hT : TabT tab.tabs H) : CallQ prog f_linotypelaw19_TableApart [.int .i64 i, .int .i64 k] H fun u H' => u = .bool true ∧ True := by
  refine in_linotypelaw19_TableApart fun hw => ?_
  simp only [pc_linotypelaw19_TableApart, sxA, Nat.reduceBEq, List.map_cons, List.map_nil, ne_eq, not_false_eq_true, not_true_eq_false, Nat.reduceEqDiff, reduceCtorEq, cond_true, cond_false, Bool.not_true, Bool.not_false, Bool.not_not, mxA, if_true, if_false, Nat.reduceAdd, List.getElem?_cons_succ, List.getElem?_cons_zero, Option.some.injEq, exists_eq_left', eq_self, reduceIte, List.length_cons, List.length_nil, Nat.reduceLeDiff, List.all_cons, List.all_nil, List.drop_zero, List.drop_succ_cons, List.take_succ_cons, List.take_zero, List.cons_append, List.nil_append, List.append_nil, splice, List.take_nil, List.drop_nil]
  refine (q_awake H hT).thenW ?_
  rintro _ H hn hw ⟨rfl, rfl⟩
  simp only [sxA, Nat.reduceBEq, List.map_cons, List.map_nil, ne_eq, not_false_eq_true, not_true_eq_false, Nat.reduceEqDiff, reduceCtorEq, cond_true, cond_false, Bool.not_true, Bool.not_false, Bool.not_not, mxA, if_true, if_false, Nat.reduceAdd, List.getElem?_cons_succ, List.getElem?_cons_zero, Option.some.injEq, exists_eq_left', eq_self, reduceIte, List.length_cons, List.length_nil, Nat.reduceLeDiff, List.all_cons, List.all_nil, List.drop_zero, List.drop_succ_cons, List.take_succ_cons, List.take_zero, List.cons_append, List.nil_append, List.append_nil, splice, List.take_nil, List.drop_nil]
  refine (q_Rows H hT).thenW ?_
  rintro v1 H1 hn1 hw1 ⟨hx1, ys, e1, ha1, _, hfr⟩
  have l1 : ys.length = 834 := by have := congrArg List.length e1; rw [Lall_length] at this; simpa using this
  obtain ⟨⟨a1, cap1, rfl, hs1⟩, hat1⟩ := ha1.fms
  obtain ⟨b1, et1, ro1, rfl, hb1⟩ := hs1 (by omega)
  have z1 : ((ys.length : Int) == 0) = false := by simp [l1]
  simp only [sxA, Nat.reduceBEq, List.map_cons, List.map_nil, ne_eq, not_false_eq_true, not_true_eq_false, Nat.reduceEqDiff, reduceCtorEq, cond_true, cond_false, Bool.not_true, Bool.not_false, Bool.not_not, mxA, if_true, if_false, Nat.reduceAdd, List.getElem?_cons_succ, List.getElem?_cons_zero, Option.some.injEq, exists_eq_left', eq_self, reduceIte, List.length_cons, List.length_nil, Nat.reduceLeDiff, List.all_cons, List.all_nil, List.drop_zero, List.drop_succ_cons, List.take_succ_cons, List.take_zero, List.cons_append, List.nil_append, List.append_nil, splice, List.take_nil, List.drop_nil, z1]
  refine (q_linotypekit_Pick i ys.length hi (by omega) H1).thenW ?_
  rintro _ H1 _ hw1 ⟨rfl, rfl⟩
  simp only [sxA, Nat.reduceBEq, List.map_cons, List.map_nil, ne_eq, not_false_eq_true, not_true_eq_false, Nat.reduceEqDiff, reduceCtorEq, cond_true, cond_false, Bool.not_true, Bool.not_false, Bool.not_not, mxA, if_true, if_false, Nat.reduceAdd, List.getElem?_cons_succ, List.getElem?_cons_zero, Option.some.injEq, exists_eq_left', eq_self, reduceIte, List.length_cons, List.length_nil, Nat.reduceLeDiff, List.all_cons, List.all_nil, List.drop_zero, List.drop_succ_cons, List.take_succ_cons, List.take_zero, List.cons_append, List.nil_append, List.append_nil, splice, List.take_nil, List.drop_nil]
  refine (q_linotypekit_Pick k ys.length hk (by omega) H1).thenW ?_
  rintro _ H1 _ hw1 ⟨rfl, rfl⟩
  have hz0 := Int.emod_nonneg i (by omega : (ys.length : Int) ≠ 0)
  have hz1 := Int.emod_lt_of_pos i (by omega : (0 : Int) < ys.length)
  have hy0 := Int.emod_nonneg k (by omega : (ys.length : Int) ≠ 0)
  have hy1 := Int.emod_lt_of_pos k (by omega : (0 : Int) < ys.length)
  generalize i % (ys.length : Int) = z at hz0 hz1
  generalize k % (ys.length : Int) = y at hy0 hy1
  obtain ⟨n, rfl⟩ : ∃ n : Nat, z = n := ⟨z.toNat, by omega⟩
  obtain ⟨m, rfl⟩ : ∃ n : Nat, y = n := ⟨y.toNat, by omega⟩
  have hn : n < ys.length := by omega
  have hm : m < ys.length := by omega
  have c1 : (0 : Int) ≤ n ∧ (n : Int) < ys.length := by omega
  have c3 : (n : Int).toNat = n := by omega
  have c4 : n * 10 + 10 ≤ ys.length * 10 := by omega
  have f1 : (0 : Int) ≤ m ∧ (m : Int) < ys.length := by omega
  have f3 : (m : Int).toNat = m := by omega
  have f4 : m * 10 + 10 ≤ ys.length * 10 := by omega
  have hp := List.getElem?_eq_getElem hn
  have hq := List.getElem?_eq_getElem hm
  have d1 := cellsL_at ys n _ hp
  have g1 := cellsL_at ys m _ hq
  have nn := cellsL_length ys
  have wx := hat1 _ (List.getElem_mem hn)
  have wy := hat1 _ (List.getElem_mem hm)
  have fx := (hfr _ (List.getElem_mem hn)).mono (Nat.zero_le _)
  have lx : Lall[n]? = some (ys[n]).f := by rw [← e1, List.getElem?_map, hp]; rfl
  have ly : Lall[m]? = some (ys[m]).f := by rw [← e1, List.getElem?_map, hq]; rfl
  generalize ys[n] = x at hp d1 wx fx lx
  generalize ys[m] = y at hq g1 wy ly
  have ax := lcells_all wx
  have ay := lcells_all wy
  have hchk : shpF x.f = 0 := by
    have := List.all_eq_true.1 may_all _ (List.mem_of_getElem? lx)
    simpa using this
  have m1 := apart lx ly
  have m2 := apart ly lx
  have eqi : ((n : Int) == (m : Int)) = decide (n = m) := by rw [Bool.eq_iff_iff, beq_iff_eq, decide_eq_true_eq]; omega
  have eqj : decide (m = n) = decide (n = m) := by rw [decide_eq_decide]; exact eq_comm
  have hxH : Ext H H1 := hx1
  simp only [sxA, Nat.reduceBEq, List.map_cons, List.map_nil, ne_eq, not_false_eq_true, not_true_eq_false, Nat.reduceEqDiff, reduceCtorEq, cond_true, cond_false, Bool.not_true, Bool.not_false, Bool.not_not, mxA, if_true, if_false, Nat.reduceAdd, List.getElem?_cons_succ, List.getElem?_cons_zero, Option.some.injEq, exists_eq_left', eq_self, reduceIte, List.length_cons, List.length_nil, Nat.reduceLeDiff, List.all_cons, List.all_nil, List.drop_zero, List.drop_succ_cons, List.take_succ_cons, List.take_zero, List.cons_append, List.nil_append, List.append_nil, splice, List.take_nil, List.drop_nil, c1, c3, c4, f1, f3, f4, hb1, nn, d1, g1, lcells_length, lcells_take, ax, ay]
  refine (q_shape_Check x H1 wx fx).thenW ?_
  rintro _ _ hn2 hw2 ⟨rfl, k2, rfl⟩
  simp only [Heap.next_up] at hn2
  have hx2 := (Ext.refl H1).up hn2
  have hb2 : (H1.up k2).get b1 = some (.cells (cellsL ys) et1 ro1) := by rw [Heap.get_up]; exact hb1
  have z2 : (shpF x.f == 0) = true := by rw [hchk]; rfl
  have wx2 := wx.ext hw1 hx2
  have wy2 := wy.ext hw1 hx2
  have hxH2 := hxH.trans hx2
  generalize H1.up k2 = H2 at *
  simp only [sxA, Nat.reduceBEq, List.map_cons, List.map_nil, ne_eq, not_false_eq_true, not_true_eq_false, Nat.reduceEqDiff, reduceCtorEq, cond_true, cond_false, Bool.not_true, Bool.not_false, Bool.not_not, mxA, if_true, if_false, Nat.reduceAdd, List.getElem?_cons_succ, List.getElem?_cons_zero, Option.some.injEq, exists_eq_left', eq_self, reduceIte, List.length_cons, List.length_nil, Nat.reduceLeDiff, List.all_cons, List.all_nil, List.drop_zero, List.drop_succ_cons, List.take_succ_cons, List.take_zero, List.cons_append, List.nil_append, List.append_nil, splice, List.take_nil, List.drop_nil, c1, c3, c4, f1, f3, f4, hb2, nn, d1, g1, lcells_length, lcells_take, ax, ay, z2]
  refine (q_table_Meets x y H2 wx2 wy2).thenW ?_
  rintro _ _ hn3 hw3 ⟨rfl, k3, rfl⟩
  simp only [Heap.next_up] at hn3
  have hx3 := (Ext.refl H2).up hn3
  have hb3 : (H2.up k3).get b1 = some (.cells (cellsL ys) et1 ro1) := by rw [Heap.get_up]; exact hb2
  have wx3 := wx2.ext hw2 hx3
  have wy3 := wy2.ext hw2 hx3
  have hxH3 := hxH2.trans hx3
  generalize H2.up k3 = H3 at *
  simp only [sxA, Nat.reduceBEq, List.map_cons, List.map_nil, ne_eq, not_false_eq_true, not_true_eq_false, Nat.reduceEqDiff, reduceCtorEq, cond_true, cond_false, Bool.not_true, Bool.not_false, Bool.not_not, mxA, if_true, if_false, Nat.reduceAdd, List.getElem?_cons_succ, List.getElem?_cons_zero, Option.some.injEq, exists_eq_left', eq_self, reduceIte, List.length_cons, List.length_nil, Nat.reduceLeDiff, List.all_cons, List.all_nil, List.drop_zero, List.drop_succ_cons, List.take_succ_cons, List.take_zero, List.cons_append, List.nil_append, List.append_nil, splice, List.take_nil, List.drop_nil, c1, c3, c4, f1, f3, f4, hb3, nn, d1, g1, lcells_length, lcells_take, ax, ay, m1, eqi, beq_self_eq_true]
  refine (q_table_Meets y x H3 wy3 wx3).thenW ?_
  rintro _ _ hn4 hw4 ⟨rfl, k4, rfl⟩
  simp only [Heap.next_up] at hn4
  have hxH4 := hxH3.up hn4
  simp only [sxA, Nat.reduceBEq, List.map_cons, List.map_nil, ne_eq, not_false_eq_true, not_true_eq_false, Nat.reduceEqDiff, reduceCtorEq, cond_true, cond_false, Bool.not_true, Bool.not_false, Bool.not_not, mxA, if_true, if_false, Nat.reduceAdd, List.getElem?_cons_succ, List.getElem?_cons_zero, Option.some.injEq, exists_eq_left', eq_self, reduceIte, List.length_cons, List.length_nil, Nat.reduceLeDiff, List.all_cons, List.all_nil, List.drop_zero, List.drop_succ_cons, List.take_succ_cons, List.take_zero, List.cons_append, List.nil_append, List.append_nil, splice, List.take_nil, List.drop_nil, m2, eqj, eqi, beq_self_eq_true, ret_linotypelaw19_TableApart]
  first | exact .mk hxH4.next rfl | exact .mk hxH4.next ⟨rfl, trivial⟩
end Go.Proofs.YtkoecjmmphmdeaaGreatDoor.code
