/- linotypelaw19.TableFor. -/
import Derived.Test.YtkoecjmmphmdeaaGreatDoorT2Facts
import Derived.Test.YtkoecjmmphmdeaaGreatDoorK3Same
import Derived.Test.YtkoecjmmphmdeaaGreatDoorLibB
import Derived.Test.YtkoecjmmphmdeaaGreatDoorA0Known
set_option linter.unusedVariables false
set_option linter.unusedSimpArgs false
set_option maxRecDepth 100000
set_option maxHeartbeats 4000000
namespace Go.Proofs.YtkoecjmmphmdeaaGreatDoor.code
open Go.Ab

theorem q_known (H : Heap) (hT : TabT tab.tabs H) : CallQ prog f_linotypelaw19_TableKnown [] H fun u H' => u = .bool true ∧ H' = H :=
  closed_q tab.tabs_ok knM_ok (by kernel_rfl) known_ran H hT
theorem code_low : (Lall.all fun f => decide (0 ≤ f.code) && decide (f.code ≤ 255)) = true := by kernel_rfl

theorem q_for (i : Int) (hi : I64 i) (op : Int) (ho : I64 op) (k : Ky) (hk : I64 k.code) (H : Heap) (hT : TabT tab.tabs H) : CallQ prog f_linotypelaw19_TableFor [.int .i64 i, .int .i64 op, .agg k.cells.toArray] H fun u H' => u = .bool true ∧ True := by
  refine in_linotypelaw19_TableFor fun hw => ?_
  have ec : (Value.agg k.cells.toArray).cells.toList = k.cells := rfl
  have n6 : k.cells.length = 6 := rfl
  have t6 : List.take 6 k.cells = k.cells := rfl
  have a6 : (k.cells.all fun v => v.oneCell') = true := rfl
  have k0 : k.cells[0]? = some (.bool k.vex) := rfl
  have k1 : k.cells[1]? = some (.int .i64 k.pre) := rfl
  have k3 : k.cells[3]? = some (.int .i64 k.l) := rfl
  have k4 : k.cells[4]? = some (.int .i64 k.map) := rfl
  have k5 : k.cells[5]? = some (.int .i64 k.code) := rfl
  simp only [pc_linotypelaw19_TableFor, ec, sxA, Nat.reduceBEq, List.map_cons, List.map_nil, ne_eq, not_false_eq_true, not_true_eq_false, Nat.reduceEqDiff, reduceCtorEq, cond_true, cond_false, Bool.not_true, Bool.not_false, Bool.not_not, mxA, if_true, if_false, Nat.reduceAdd, List.getElem?_cons_succ, List.getElem?_cons_zero, Option.some.injEq, exists_eq_left', eq_self, reduceIte, List.length_cons, List.length_nil, Nat.reduceLeDiff, List.all_cons, List.all_nil, List.drop_zero, List.drop_succ_cons, List.take_succ_cons, List.take_zero, List.cons_append, List.nil_append, List.append_nil, splice, List.take_nil, List.drop_nil]
  have hx0 : Ext H (H.push (.cells k.cells T_api_Key false)) := (Ext.refl H).push _
  have hg0 : (H.push (.cells k.cells T_api_Key false)).get H.next = some (.cells k.cells T_api_Key false) := by rw [Heap.get_push, if_pos rfl]
  have hw0 := hw.push (.cells k.cells T_api_Key false)
  generalize H.push (.cells k.cells T_api_Key false) = H0 at hx0 hg0 hw0
  have hT0 := tabT_ext _ _ hw hT hx0
  refine (q_known H0 hT0).thenW ?_
  rintro _ H0 _ hw0 ⟨rfl, rfl⟩
  simp only [sxA, Nat.reduceBEq, List.map_cons, List.map_nil, ne_eq, not_false_eq_true, not_true_eq_false, Nat.reduceEqDiff, reduceCtorEq, cond_true, cond_false, Bool.not_true, Bool.not_false, Bool.not_not, mxA, if_true, if_false, Nat.reduceAdd, List.getElem?_cons_succ, List.getElem?_cons_zero, Option.some.injEq, exists_eq_left', eq_self, reduceIte, List.length_cons, List.length_nil, Nat.reduceLeDiff, List.all_cons, List.all_nil, List.drop_zero, List.drop_succ_cons, List.take_succ_cons, List.take_zero, List.cons_append, List.nil_append, List.append_nil, splice, List.take_nil, List.drop_nil]
  refine (q_Rows _ hT0).thenW ?_
  rintro v1 H1 hn1 hw1 ⟨hx1, ys, e1, ha1, _, _⟩
  have hT1 := tabT_ext _ _ hw0 hT0 hx1
  have l1 : ys.length = 834 := by have := congrArg List.length e1; rw [Lall_length] at this; simpa using this
  obtain ⟨⟨a1, cap1, rfl, hs1⟩, hat1⟩ := ha1.fms
  obtain ⟨b1, et1, ro1, rfl, hb1⟩ := hs1 (by omega)
  have z1 : ((ys.length : Int) == 0) = false := by simp [l1]
  simp only [sxA, Nat.reduceBEq, List.map_cons, List.map_nil, ne_eq, not_false_eq_true, not_true_eq_false, Nat.reduceEqDiff, reduceCtorEq, cond_true, cond_false, Bool.not_true, Bool.not_false, Bool.not_not, mxA, if_true, if_false, Nat.reduceAdd, List.getElem?_cons_succ, List.getElem?_cons_zero, Option.some.injEq, exists_eq_left', eq_self, reduceIte, List.length_cons, List.length_nil, Nat.reduceLeDiff, List.all_cons, List.all_nil, List.drop_zero, List.drop_succ_cons, List.take_succ_cons, List.take_zero, List.cons_append, List.nil_append, List.append_nil, splice, List.take_nil, List.drop_nil, z1]
  refine (q_linotypekit_Pick i ys.length hi (by omega) H1).thenW ?_
  rintro _ H1 _ hw1 ⟨rfl, rfl⟩
  have hz0 := Int.emod_nonneg i (by omega : (ys.length : Int) ≠ 0)
  have hz1 := Int.emod_lt_of_pos i (by omega : (0 : Int) < ys.length)
  generalize i % (ys.length : Int) = z at hz0 hz1
  obtain ⟨n, rfl⟩ : ∃ n : Nat, z = n := ⟨z.toNat, by omega⟩
  have hn : n < ys.length := by omega
  have c1 : (0 : Int) ≤ n ∧ (n : Int) < ys.length := by omega
  have c3 : (n : Int).toNat = n := by omega
  have c4 : n * 10 + 10 ≤ ys.length * 10 := by omega
  have hp := List.getElem?_eq_getElem hn
  have d1 := cellsL_at ys n _ hp
  have nn := cellsL_length ys
  have hym : ys[n] ∈ ys := List.getElem_mem hn
  have wk := hat1 _ hym
  have hfm : (ys[n]).f ∈ Lall := by rw [← e1]; exact List.mem_map_of_mem hym
  generalize ys[n] = x at hp d1 hym wk hfm
  have ak := lcells_all wk
  simp only [sxA, Nat.reduceBEq, List.map_cons, List.map_nil, ne_eq, not_false_eq_true, not_true_eq_false, Nat.reduceEqDiff, reduceCtorEq, cond_true, cond_false, Bool.not_true, Bool.not_false, Bool.not_not, mxA, if_true, if_false, Nat.reduceAdd, List.getElem?_cons_succ, List.getElem?_cons_zero, Option.some.injEq, exists_eq_left', eq_self, reduceIte, List.length_cons, List.length_nil, Nat.reduceLeDiff, List.all_cons, List.all_nil, List.drop_zero, List.drop_succ_cons, List.take_succ_cons, List.take_zero, List.cons_append, List.nil_append, List.append_nil, splice, List.take_nil, List.drop_nil, c1, c3, c4, hb1, nn, d1, lcells_length, lcells_take, ak]
  have hG : ∃ G1, G1 = (H1.push (.cells [.int .i64 0, .slice none 0 0, .slice none 0 0, .int .i64 0, .int .i64 0, .int .i64 0, .int .i64 0, .int .i64 0, .bool false, .int .i64 0] T_api_Form false)).set H1.next (.cells x.cells T_api_Form false) := ⟨_, rfl⟩
  obtain ⟨G1, hG1⟩ := hG
  have hwG1 : G1.Wf := by rw [hG1]; exact (hw1.push _).set (by rw [Heap.get_push, if_pos rfl]) _
  have hxG1 : Ext H1 G1 := by rw [hG1]; exact ((Ext.refl H1).push _).set (Nat.le_refl _) _
  have hgG1 : G1.get H1.next = some (.cells x.cells T_api_Form false) := by rw [hG1, Heap.get_set, if_pos rfl]
  have hnG1 : G1.next = H1.next + 1 := by rw [hG1]; rfl
  simp only [← hG1]
  have x3 : x.cells[3]? = some (.int .i64 x.f.pre) := rfl
  have x4 : x.cells[4]? = some (.int .i64 x.f.map) := rfl
  have x5 : x.cells[5]? = some (.int .i64 x.f.code) := rfl
  have x7 : x.cells[7]? = some (.int .i64 x.f.w) := rfl
  have x8 : x.cells[8]? = some (.bool x.f.vex) := rfl
  have x9 : x.cells[9]? = some (.int .i64 x.f.l) := rfl
  simp only [sxA, Nat.reduceBEq, List.map_cons, List.map_nil, ne_eq, not_false_eq_true, not_true_eq_false, Nat.reduceEqDiff, reduceCtorEq, cond_true, cond_false, Bool.not_true, Bool.not_false, Bool.not_not, mxA, if_true, if_false, Nat.reduceAdd, List.getElem?_cons_succ, List.getElem?_cons_zero, Option.some.injEq, exists_eq_left', eq_self, reduceIte, List.length_cons, List.length_nil, Nat.reduceLeDiff, List.all_cons, List.all_nil, List.drop_zero, List.drop_succ_cons, List.take_succ_cons, List.take_zero, List.cons_append, List.nil_append, List.append_nil, splice, List.take_nil, List.drop_nil, hgG1, x3, x4, x5, x7, x8, x9]
  rw [gen_max (ik := .i64) (a := x.f.w) (b := 0) (by simp only [uxA, Nat.reduceBEq, cond_true, cond_false]) rfl]
  simp only [sxA, Nat.reduceBEq, List.map_cons, List.map_nil, ne_eq, not_false_eq_true, not_true_eq_false, Nat.reduceEqDiff, reduceCtorEq, cond_true, cond_false, Bool.not_true, Bool.not_false, Bool.not_not, mxA, if_true, if_false, Nat.reduceAdd, List.getElem?_cons_succ, List.getElem?_cons_zero, Option.some.injEq, exists_eq_left', eq_self, reduceIte, List.length_cons, List.length_nil, Nat.reduceLeDiff, List.all_cons, List.all_nil, List.drop_zero, List.drop_succ_cons, List.take_succ_cons, List.take_zero, List.cons_append, List.nil_append, List.append_nil, splice, List.take_nil, List.drop_nil, hgG1, x3, x4, x5, x7, x8, x9]
  have hxT : Ext H0 G1 := hx1.trans hxG1
  have hTG := tabT_ext _ _ hw0 hT0 hxT
  have wkG := wk.ext hw1 hxG1
  refine (q_Match (keyF x.f) G1 hTG).thenW ?_
  rintro v2 H2 hn2 hw2 ⟨hx2, zs, e2, ha2, _, _⟩
  have hT2 := tabT_ext _ _ hwG1 hTG hx2
  have hg2 : H2.get H1.next = some (.cells x.cells T_api_Form false) := by rw [hx2.get _ (hwG1.lt hgG1)]; exact hgG1
  have wk2 := wkG.ext hwG1 hx2
  have hxk : Ext H0 H2 := hxT.trans hx2
  have hk2 : H2.get H.next = some (.cells k.cells T_api_Key false) := by rw [hxk.get _ (hw0.lt hg0)]; exact hg0
  have l2 := Told.short (H := H) (H' := H) (u := v2) e2
  have hxH2 : Ext H H2 := hx0.trans hxk
  have hown : x.f ∈ zs.map (·.f) := by
    rw [e2]
    exact List.mem_filter.2 ⟨hfm, List.all_eq_true.1 own_may _ hfm⟩
  obtain ⟨⟨a2, cap2, rfl, hs2⟩, hat2⟩ := ha2.fms
  simp only [sxA, Nat.reduceBEq, List.map_cons, List.map_nil, ne_eq, not_false_eq_true, not_true_eq_false, Nat.reduceEqDiff, reduceCtorEq, cond_true, cond_false, Bool.not_true, Bool.not_false, Bool.not_not, mxA, if_true, if_false, Nat.reduceAdd, List.getElem?_cons_succ, List.getElem?_cons_zero, Option.some.injEq, exists_eq_left', eq_self, reduceIte, List.length_cons, List.length_nil, Nat.reduceLeDiff, List.all_cons, List.all_nil, List.drop_zero, List.drop_succ_cons, List.take_succ_cons, List.take_zero, List.cons_append, List.nil_append, List.append_nil, splice, List.take_nil, List.drop_nil]
  refine loop_intro (fun m A' H' => ∃ j : Nat, j ≤ zs.length ∧ m = zs.length - j ∧ H'.Wf ∧ Ext H2 H' ∧ A' 1 = .int .i64 op ∧ A' 5 = .pointer (some ⟨H.next, 0, none⟩) ∧ A' 7 = .bool true ∧ A' 9 = .pointer (some ⟨H1.next, 0, none⟩) ∧ A' 10 = .slice a2 zs.length cap2 ∧ A' 11 = .bool ((zs.take j).any fun y => decide (y.f = x.f)) ∧ A' 12 = .int .i64 j) zs.length ?_ ?_
  · refine ⟨0, Nat.zero_le _, by omega, hw2, .refl _, ?_, ?_, ?_, ?_, ?_, ?_, ?_⟩
    all_goals simp only [uxA, Nat.reduceBEq, cond_true, cond_false]
    all_goals (first | rfl | simp)
  · rintro m A' H' ⟨j, hj, rfl, hw', hx', r1, r5, r7, r9, r10, r11, r12⟩
    have hgf : H'.get H1.next = some (.cells x.cells T_api_Form false) := by rw [hx'.get _ (hw2.lt hg2)]; exact hg2
    have wk' := wk2.ext hw2 hx'
    simp only [sxA, Nat.reduceBEq, List.map_cons, List.map_nil, ne_eq, not_false_eq_true, not_true_eq_false, Nat.reduceEqDiff, reduceCtorEq, cond_true, cond_false, Bool.not_true, Bool.not_false, Bool.not_not, mxA, if_true, if_false, Nat.reduceAdd, List.getElem?_cons_succ, List.getElem?_cons_zero, Option.some.injEq, exists_eq_left', eq_self, reduceIte, List.length_cons, List.length_nil, Nat.reduceLeDiff, List.all_cons, List.all_nil, List.drop_zero, List.drop_succ_cons, List.take_succ_cons, List.take_zero, List.cons_append, List.nil_append, List.append_nil, splice, List.take_nil, List.drop_nil, r10, r12]
    refine cB_cases (fun h2 => ?_) (fun h2 => ?_)
    · have h2 : j < zs.length := by have := of_decide_eq_true h2; omega
      obtain ⟨b2, et2, ro2, rfl, hb2⟩ := hs2 (by omega)
      have hb2' : H'.get b2 = some (.cells (cellsL zs) et2 ro2) := by rw [hx'.get _ (hw2.lt hb2)]; exact hb2
      have c1 : (0 : Int) ≤ j ∧ (j : Int) < zs.length := by omega
      have c3 : (j : Int).toNat = j := by omega
      have c4 : j * 10 + 10 ≤ zs.length * 10 := by omega
      have ei : IntKind.i64.wrap ((j : Int) + 1) = ((j + 1 : Nat) : Int) := by rw [w64 (by unfold I64; omega)]; omega
      have hpj := List.getElem?_eq_getElem h2
      have dj := cellsL_at zs j _ hpj
      have nj := cellsL_length zs
      have wj := (hat2 _ (List.getElem_mem h2)).ext hw2 hx'
      have htk : zs.take (j + 1) = zs.take j ++ [zs[j]] := List.take_succ_eq_append_getElem h2
      generalize zs[j] = y at hpj dj wj htk
      have aj := lcells_all wj
      have hany : ((zs.take (j + 1)).any fun y => decide (y.f = x.f)) = (((zs.take j).any fun y => decide (y.f = x.f)) || decide (y.f = x.f)) := by rw [htk]; simp
      simp only [sxA, Nat.reduceBEq, List.map_cons, List.map_nil, ne_eq, not_false_eq_true, not_true_eq_false, Nat.reduceEqDiff, reduceCtorEq, cond_true, cond_false, Bool.not_true, Bool.not_false, Bool.not_not, mxA, if_true, if_false, Nat.reduceAdd, List.getElem?_cons_succ, List.getElem?_cons_zero, Option.some.injEq, exists_eq_left', eq_self, reduceIte, List.length_cons, List.length_nil, Nat.reduceLeDiff, List.all_cons, List.all_nil, List.drop_zero, List.drop_succ_cons, List.take_succ_cons, List.take_zero, List.cons_append, List.nil_append, List.append_nil, splice, List.take_nil, List.drop_nil, r11]
      generalize ((zs.take j).any fun y => decide (y.f = x.f)) = q at r11 hany
      cases q with
      | true =>
        simp only [sxA, Nat.reduceBEq, List.map_cons, List.map_nil, ne_eq, not_false_eq_true, not_true_eq_false, Nat.reduceEqDiff, reduceCtorEq, cond_true, cond_false, Bool.not_true, Bool.not_false, Bool.not_not, mxA, if_true, if_false, Nat.reduceAdd, List.getElem?_cons_succ, List.getElem?_cons_zero, Option.some.injEq, exists_eq_left', eq_self, reduceIte, List.length_cons, List.length_nil, Nat.reduceLeDiff, List.all_cons, List.all_nil, List.drop_zero, List.drop_succ_cons, List.take_succ_cons, List.take_zero, List.cons_append, List.nil_append, List.append_nil, splice, List.take_nil, List.drop_nil, r12, ei]
        refine ⟨zs.length - (j + 1), by omega, j + 1, by omega, rfl, hw', hx', ?_, ?_, ?_, ?_, ?_, ?_, ?_⟩
        all_goals simp only [uxA, Nat.reduceBEq, cond_true, cond_false, r1, r5, r7, r9, r10, hany, Bool.true_or]
      | false =>
        simp only [sxA, Nat.reduceBEq, List.map_cons, List.map_nil, ne_eq, not_false_eq_true, not_true_eq_false, Nat.reduceEqDiff, reduceCtorEq, cond_true, cond_false, Bool.not_true, Bool.not_false, Bool.not_not, mxA, if_true, if_false, Nat.reduceAdd, List.getElem?_cons_succ, List.getElem?_cons_zero, Option.some.injEq, exists_eq_left', eq_self, reduceIte, List.length_cons, List.length_nil, Nat.reduceLeDiff, List.all_cons, List.all_nil, List.drop_zero, List.drop_succ_cons, List.take_succ_cons, List.take_zero, List.cons_append, List.nil_append, List.append_nil, splice, List.take_nil, List.drop_nil, r9, r10, r12, c1, c3, c4, hb2', nj, dj, hgf, lcells_length, lcells_take, aj, ak]
        refine (q_SameForm_any y x H' wj wk').thenW ?_
        rintro _ _ hn3 hw3 ⟨rfl, m3, rfl⟩
        simp only [Heap.next_up] at hn3
        simp only [sxA, Nat.reduceBEq, List.map_cons, List.map_nil, ne_eq, not_false_eq_true, not_true_eq_false, Nat.reduceEqDiff, reduceCtorEq, cond_true, cond_false, Bool.not_true, Bool.not_false, Bool.not_not, mxA, if_true, if_false, Nat.reduceAdd, List.getElem?_cons_succ, List.getElem?_cons_zero, Option.some.injEq, exists_eq_left', eq_self, reduceIte, List.length_cons, List.length_nil, Nat.reduceLeDiff, List.all_cons, List.all_nil, List.drop_zero, List.drop_succ_cons, List.take_succ_cons, List.take_zero, List.cons_append, List.nil_append, List.append_nil, splice, List.take_nil, List.drop_nil, r12, ei]
        refine ⟨zs.length - (j + 1), by omega, j + 1, by omega, rfl, hw3, hx'.up hn3, ?_, ?_, ?_, ?_, ?_, ?_, ?_⟩
        all_goals simp only [uxA, Nat.reduceBEq, cond_true, cond_false, r1, r5, r7, r9, r10, hany, Bool.false_or, sameF_eq]
    · have h2 : j = zs.length := by have := of_decide_eq_false h2; omega
      subst h2
      rw [List.take_length] at r11
      have hf : (zs.any fun y => decide (y.f = x.f)) = true := by
        rw [List.any_eq_true]
        obtain ⟨y, hy, hyf⟩ := List.mem_map.1 hown
        exact ⟨y, hy, by simp [hyf]⟩
      rw [hf] at r11
      simp only [sxA, Nat.reduceBEq, List.map_cons, List.map_nil, ne_eq, not_false_eq_true, not_true_eq_false, Nat.reduceEqDiff, reduceCtorEq, cond_true, cond_false, Bool.not_true, Bool.not_false, Bool.not_not, mxA, if_true, if_false, Nat.reduceAdd, List.getElem?_cons_succ, List.getElem?_cons_zero, Option.some.injEq, exists_eq_left', eq_self, reduceIte, List.length_cons, List.length_nil, Nat.reduceLeDiff, List.all_cons, List.all_nil, List.drop_zero, List.drop_succ_cons, List.take_succ_cons, List.take_zero, List.cons_append, List.nil_append, List.append_nil, splice, List.take_nil, List.drop_nil, r1]
      have hxH' : Ext H H' := hxH2.trans hx'
      have hT' := tabT_ext _ _ hw2 hT2 hx'
      have hk' : H'.get H.next = some (.cells k.cells T_api_Key false) := by rw [hx'.get _ (hw2.lt hk2)]; exact hk2
      clear hgf wk' hx'
      refine (q_linotypekit_Pick op 322 ho (by omega) H').thenW ?_
      rintro _ H' _ hw' ⟨rfl, rfl⟩
      have ho0 := Int.emod_nonneg op (by omega : (322 : Int) ≠ 0)
      have ho1 := Int.emod_lt_of_pos op (by omega : (0 : Int) < 322)
      have qP := fun H => q_linotypekit_Pick op 322 ho (by omega) H
      generalize op % 322 = o at ho0 ho1 qP
      have eo : IntKind.i64.wrap (1 + o) = 1 + o := w64 (by unfold I64; omega)
      simp only [sxA, Nat.reduceBEq, List.map_cons, List.map_nil, ne_eq, not_false_eq_true, not_true_eq_false, Nat.reduceEqDiff, reduceCtorEq, cond_true, cond_false, Bool.not_true, Bool.not_false, Bool.not_not, mxA, if_true, if_false, Nat.reduceAdd, List.getElem?_cons_succ, List.getElem?_cons_zero, Option.some.injEq, exists_eq_left', eq_self, reduceIte, List.length_cons, List.length_nil, Nat.reduceLeDiff, List.all_cons, List.all_nil, List.drop_zero, List.drop_succ_cons, List.take_succ_cons, List.take_zero, List.cons_append, List.nil_append, List.append_nil, splice, List.take_nil, List.drop_nil, eo]
      refine (q_Of (1 + o) H' hT').thenW ?_
      rintro v3 H3 hn3 hw3 ⟨hx3, us, e3, ha3, _, _⟩
      have l3 := Told.short (H := H) (H' := H) (u := v3) e3
      have hT3 := tabT_ext _ _ hw' hT' hx3
      have hk3 : H3.get H.next = some (.cells k.cells T_api_Key false) := by rw [hx3.get _ (hw'.lt hk')]; exact hk'
      have hxH3 : Ext H H3 := hxH'.trans hx3
      have us0 : 0 < us.length := by
        have h1 := List.all_eq_true.1 each_has o.toNat (by rw [List.mem_range]; omega)
        obtain ⟨f, hf1, hf2⟩ := List.any_eq_true.1 h1
        have : f ∈ us.map (·.f) := by
          rw [e3]
          refine List.mem_filter.2 ⟨hf1, ?_⟩
          rw [beq_iff_eq] at hf2 ⊢
          rw [hf2]
          simp only [Int.ofNat_eq_natCast]
          omega
        cases us with
        | nil => simp at this
        | cons _ _ => simp
      have usall : ∀ y ∈ us, (y.f.op == 1 + o) = true := fun y hy => by
        have : y.f ∈ us.map (·.f) := List.mem_map_of_mem hy
        rw [e3] at this
        exact (List.mem_filter.1 this).2
      obtain ⟨⟨a3, cap3, rfl, hs3⟩, hat3⟩ := ha3.fms
      obtain ⟨b3, et3, ro3, rfl, hb3⟩ := hs3 us0
      simp only [sxA, Nat.reduceBEq, List.map_cons, List.map_nil, ne_eq, not_false_eq_true, not_true_eq_false, Nat.reduceEqDiff, reduceCtorEq, cond_true, cond_false, Bool.not_true, Bool.not_false, Bool.not_not, mxA, if_true, if_false, Nat.reduceAdd, List.getElem?_cons_succ, List.getElem?_cons_zero, Option.some.injEq, exists_eq_left', eq_self, reduceIte, List.length_cons, List.length_nil, Nat.reduceLeDiff, List.all_cons, List.all_nil, List.drop_zero, List.drop_succ_cons, List.take_succ_cons, List.take_zero, List.cons_append, List.nil_append, List.append_nil, splice, List.take_nil, List.drop_nil]
      refine loop_intro (fun m A2 G => ∃ j : Nat, j ≤ us.length ∧ m = us.length - j ∧ G = H3 ∧ A2 1 = .int .i64 op ∧ A2 5 = .pointer (some ⟨H.next, 0, none⟩) ∧ A2 7 = .bool true ∧ A2 11 = .bool true ∧ A2 13 = .slice (some ⟨b3, 0, none⟩) us.length cap3 ∧ A2 14 = .int .i64 j) us.length ?_ ?_
      · refine ⟨0, Nat.zero_le _, by omega, rfl, ?_, ?_, ?_, ?_, ?_, ?_⟩
        all_goals simp only [uxA, Nat.reduceBEq, cond_true, cond_false, r1, r5, r7, r11]
        all_goals rfl
      · rintro m A2 G ⟨j, hj, rfl, rfl, s1, s5, s7, s11, s13, s14⟩
        simp only [sxA, Nat.reduceBEq, List.map_cons, List.map_nil, ne_eq, not_false_eq_true, not_true_eq_false, Nat.reduceEqDiff, reduceCtorEq, cond_true, cond_false, Bool.not_true, Bool.not_false, Bool.not_not, mxA, if_true, if_false, Nat.reduceAdd, List.getElem?_cons_succ, List.getElem?_cons_zero, Option.some.injEq, exists_eq_left', eq_self, reduceIte, List.length_cons, List.length_nil, Nat.reduceLeDiff, List.all_cons, List.all_nil, List.drop_zero, List.drop_succ_cons, List.take_succ_cons, List.take_zero, List.cons_append, List.nil_append, List.append_nil, splice, List.take_nil, List.drop_nil, s13, s14]
        refine cB_cases (fun h2 => ?_) (fun h2 => ?_)
        · have h2 : j < us.length := by have := of_decide_eq_true h2; omega
          have c1 : (0 : Int) ≤ j ∧ (j : Int) < us.length := by omega
          have c3 : (j : Int).toNat = j := by omega
          have ei : IntKind.i64.wrap ((j : Int) + 1) = ((j + 1 : Nat) : Int) := by rw [w64 (by unfold I64; omega)]; omega
          have hpj := List.getElem?_eq_getElem h2
          have g0 := cellsL_cell us j 0 _ hpj (by decide)
          rw [Nat.add_zero, lg0] at g0
          have uj := usall _ (List.getElem_mem h2)
          generalize us[j] = y at hpj g0 uj
          simp only [sxA, Nat.reduceBEq, List.map_cons, List.map_nil, ne_eq, not_false_eq_true, not_true_eq_false, Nat.reduceEqDiff, reduceCtorEq, cond_true, cond_false, Bool.not_true, Bool.not_false, Bool.not_not, mxA, if_true, if_false, Nat.reduceAdd, List.getElem?_cons_succ, List.getElem?_cons_zero, Option.some.injEq, exists_eq_left', eq_self, reduceIte, List.length_cons, List.length_nil, Nat.reduceLeDiff, List.all_cons, List.all_nil, List.drop_zero, List.drop_succ_cons, List.take_succ_cons, List.take_zero, List.cons_append, List.nil_append, List.append_nil, splice, List.take_nil, List.drop_nil, s1, s13, s14, c1, c3, hb3, g0]
          refine ⟨rfl, (qP _).thenW ?_⟩
          rintro _ H3 _ hw3 ⟨rfl, rfl⟩
          simp only [sxA, Nat.reduceBEq, List.map_cons, List.map_nil, ne_eq, not_false_eq_true, not_true_eq_false, Nat.reduceEqDiff, reduceCtorEq, cond_true, cond_false, Bool.not_true, Bool.not_false, Bool.not_not, mxA, if_true, if_false, Nat.reduceAdd, List.getElem?_cons_succ, List.getElem?_cons_zero, Option.some.injEq, exists_eq_left', eq_self, reduceIte, List.length_cons, List.length_nil, Nat.reduceLeDiff, List.all_cons, List.all_nil, List.drop_zero, List.drop_succ_cons, List.take_succ_cons, List.take_zero, List.cons_append, List.nil_append, List.append_nil, splice, List.take_nil, List.drop_nil, eo, uj]
          refine ⟨fun _ _ => rfl, ?_⟩
          simp only [sxA, Nat.reduceBEq, List.map_cons, List.map_nil, ne_eq, not_false_eq_true, not_true_eq_false, Nat.reduceEqDiff, reduceCtorEq, cond_true, cond_false, Bool.not_true, Bool.not_false, Bool.not_not, mxA, if_true, if_false, Nat.reduceAdd, List.getElem?_cons_succ, List.getElem?_cons_zero, Option.some.injEq, exists_eq_left', eq_self, reduceIte, List.length_cons, List.length_nil, Nat.reduceLeDiff, List.all_cons, List.all_nil, List.drop_zero, List.drop_succ_cons, List.take_succ_cons, List.take_zero, List.cons_append, List.nil_append, List.append_nil, splice, List.take_nil, List.drop_nil, s14, ei]
          refine ⟨us.length - (j + 1), by omega, j + 1, by omega, rfl, rfl, ?_, ?_, ?_, ?_, ?_, ?_⟩
          all_goals simp only [uxA, Nat.reduceBEq, cond_true, cond_false, s1, s5, s7, s11, s13]
        · have h2 : j = us.length := by have := of_decide_eq_false h2; omega
          subst h2
          simp only [sxA, Nat.reduceBEq, List.map_cons, List.map_nil, ne_eq, not_false_eq_true, not_true_eq_false, Nat.reduceEqDiff, reduceCtorEq, cond_true, cond_false, Bool.not_true, Bool.not_false, Bool.not_not, mxA, if_true, if_false, Nat.reduceAdd, List.getElem?_cons_succ, List.getElem?_cons_zero, Option.some.injEq, exists_eq_left', eq_self, reduceIte, List.length_cons, List.length_nil, Nat.reduceLeDiff, List.all_cons, List.all_nil, List.drop_zero, List.drop_succ_cons, List.take_succ_cons, List.take_zero, List.cons_append, List.nil_append, List.append_nil, splice, List.take_nil, List.drop_nil, s5, hk3, n6, t6, a6]
          refine (q_Match k _ hT3).thenW ?_
          rintro v4 H4 hn4 hw4 ⟨hx4, ws, e4, ha4, _, _⟩
          have l4 := Told.short (H := H) (H' := H) (u := v4) e4
          have hxH4 : Ext H H4 := hxH3.trans hx4
          have hk4 : H4.get H.next = some (.cells k.cells T_api_Key false) := by rw [hx4.get _ (hw3.lt hk3)]; exact hk3
          have wsall : ∀ y ∈ ws, mayF y.f k = true ∧ 0 ≤ y.f.code ∧ y.f.code ≤ 255 := fun y hy => by
            have : y.f ∈ ws.map (·.f) := List.mem_map_of_mem hy
            rw [e4] at this
            have h := List.mem_filter.1 this
            have h5 := List.all_eq_true.1 code_low _ h.1
            simp only [Bool.and_eq_true, decide_eq_true_eq] at h5
            exact ⟨h.2, h5⟩
          obtain ⟨⟨a4, cap4, rfl, hs4⟩, hat4⟩ := ha4.fms
          simp only [sxA, Nat.reduceBEq, List.map_cons, List.map_nil, ne_eq, not_false_eq_true, not_true_eq_false, Nat.reduceEqDiff, reduceCtorEq, cond_true, cond_false, Bool.not_true, Bool.not_false, Bool.not_not, mxA, if_true, if_false, Nat.reduceAdd, List.getElem?_cons_succ, List.getElem?_cons_zero, Option.some.injEq, exists_eq_left', eq_self, reduceIte, List.length_cons, List.length_nil, Nat.reduceLeDiff, List.all_cons, List.all_nil, List.drop_zero, List.drop_succ_cons, List.take_succ_cons, List.take_zero, List.cons_append, List.nil_append, List.append_nil, splice, List.take_nil, List.drop_nil]
          refine loop_intro (fun m A3 G => ∃ j : Nat, j ≤ ws.length ∧ m = ws.length - j ∧ G = H4 ∧ A3 5 = .pointer (some ⟨H.next, 0, none⟩) ∧ A3 7 = .bool true ∧ A3 11 = .bool true ∧ A3 13 = .slice (some ⟨b3, 0, none⟩) us.length cap3 ∧ A3 15 = .slice a4 ws.length cap4 ∧ A3 16 = .int .i64 j) ws.length ?_ ?_
          · refine ⟨0, Nat.zero_le _, by omega, rfl, ?_, ?_, ?_, ?_, ?_, ?_⟩
            all_goals simp only [uxA, Nat.reduceBEq, cond_true, cond_false, s5, s7, s11, s13]
            all_goals rfl
          · rintro m A3 G ⟨j, hj, rfl, rfl, t5, t7, t11, t13, t15, t16⟩
            simp only [sxA, Nat.reduceBEq, List.map_cons, List.map_nil, ne_eq, not_false_eq_true, not_true_eq_false, Nat.reduceEqDiff, reduceCtorEq, cond_true, cond_false, Bool.not_true, Bool.not_false, Bool.not_not, mxA, if_true, if_false, Nat.reduceAdd, List.getElem?_cons_succ, List.getElem?_cons_zero, Option.some.injEq, exists_eq_left', eq_self, reduceIte, List.length_cons, List.length_nil, Nat.reduceLeDiff, List.all_cons, List.all_nil, List.drop_zero, List.drop_succ_cons, List.take_succ_cons, List.take_zero, List.cons_append, List.nil_append, List.append_nil, splice, List.take_nil, List.drop_nil, t15, t16]
            refine cB_cases (fun h2 => ?_) (fun h2 => ?_)
            · have h2 : j < ws.length := by have := of_decide_eq_true h2; omega
              obtain ⟨b4, et4, ro4, rfl, hb4⟩ := hs4 (by omega)
              have c1 : (0 : Int) ≤ j ∧ (j : Int) < ws.length := by omega
              have c3 : (j : Int).toNat = j := by omega
              have ei : IntKind.i64.wrap ((j : Int) + 1) = ((j + 1 : Nat) : Int) := by rw [w64 (by unfold I64; omega)]; omega
              have hpj := List.getElem?_eq_getElem h2
              have g3 : (cellsL ws)[j * 10 + 3]? = some (.int .i64 (ws[j]).f.pre) := cellsL_cell ws j 3 _ hpj (by decide)
              have g4 : (cellsL ws)[j * 10 + 4]? = some (.int .i64 (ws[j]).f.map) := cellsL_cell ws j 4 _ hpj (by decide)
              have g5 : (cellsL ws)[j * 10 + 5]? = some (.int .i64 (ws[j]).f.code) := cellsL_cell ws j 5 _ hpj (by decide)
              have g8 : (cellsL ws)[j * 10 + 8]? = some (.bool (ws[j]).f.vex) := cellsL_cell ws j 8 _ hpj (by decide)
              have g9 : (cellsL ws)[j * 10 + 9]? = some (.int .i64 (ws[j]).f.l) := cellsL_cell ws j 9 _ hpj (by decide)
              obtain ⟨uj, hc0, hc1⟩ := wsall _ (List.getElem_mem h2)
              obtain ⟨m1, m2, m3, m4, m5, m6⟩ := may_says hk uj
              generalize (ws[j]).f = y at g3 g4 g5 g8 g9 hc0 hc1 m1 m2 m3 m4 m5 m6
              have w7 : IntKind.i64.wrap (y.code + 7) = y.code + 7 := w64 (by unfold I64; omega)
              have p1 : (y.vex == k.vex) = true := by rw [m1, beq_self_eq_true]
              have p2 : (y.pre == k.pre) = true := by rw [m2, beq_self_eq_true]
              have p3 : (y.map == k.map) = true := by rw [m3, beq_self_eq_true]
              have p4 : (y.l == k.l) = true := by rw [m4, beq_self_eq_true]
              have p5 : decide (k.code < y.code) = false := decide_eq_false (by omega)
              have p6 : decide (y.code + 7 < k.code) = false := decide_eq_false (by omega)
              simp only [sxA, Nat.reduceBEq, List.map_cons, List.map_nil, ne_eq, not_false_eq_true, not_true_eq_false, Nat.reduceEqDiff, reduceCtorEq, cond_true, cond_false, Bool.not_true, Bool.not_false, Bool.not_not, mxA, if_true, if_false, Nat.reduceAdd, List.getElem?_cons_succ, List.getElem?_cons_zero, Option.some.injEq, exists_eq_left', eq_self, reduceIte, List.length_cons, List.length_nil, Nat.reduceLeDiff, List.all_cons, List.all_nil, List.drop_zero, List.drop_succ_cons, List.take_succ_cons, List.take_zero, List.cons_append, List.nil_append, List.append_nil, splice, List.take_nil, List.drop_nil, t5, t15, t16, c1, c3, hb4, hk4, k0, k1, k3, k4, k5, g3, g4, g5, g8, g9, w7, p1, p2, p3, p4, p5, p6, ei]
              refine ⟨ws.length - (j + 1), by omega, j + 1, by omega, rfl, rfl, ?_, ?_, ?_, ?_, ?_, ?_⟩
              all_goals simp only [uxA, Nat.reduceBEq, cond_true, cond_false, t5, t7, t11, t13, t15]
            · have h2 : j = ws.length := by have := of_decide_eq_false h2; omega
              subst h2
              have p7 : decide ((0 : Int) < us.length) = true := decide_eq_true (by omega)
              simp only [sxA, Nat.reduceBEq, List.map_cons, List.map_nil, ne_eq, not_false_eq_true, not_true_eq_false, Nat.reduceEqDiff, reduceCtorEq, cond_true, cond_false, Bool.not_true, Bool.not_false, Bool.not_not, mxA, if_true, if_false, Nat.reduceAdd, List.getElem?_cons_succ, List.getElem?_cons_zero, Option.some.injEq, exists_eq_left', eq_self, reduceIte, List.length_cons, List.length_nil, Nat.reduceLeDiff, List.all_cons, List.all_nil, List.drop_zero, List.drop_succ_cons, List.take_succ_cons, List.take_zero, List.cons_append, List.nil_append, List.append_nil, splice, List.take_nil, List.drop_nil, t7, t11, t13, p7, ret_linotypelaw19_TableFor]
              first | exact .mk hxH4.next rfl | exact .mk hxH4.next ⟨rfl, trivial⟩
end Go.Proofs.YtkoecjmmphmdeaaGreatDoor.code
