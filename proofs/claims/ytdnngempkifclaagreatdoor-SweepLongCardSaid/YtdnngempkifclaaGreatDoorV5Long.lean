/- linotypelaw30.SweepLong, but for the chapter's examples. -/
import Derived.Test.YtdnngempkifclaaGreatDoorC1Code
import Derived.Test.YtdnngempkifclaaGreatDoorK1Pick
set_option linter.unusedVariables false
set_option linter.unusedSimpArgs false
set_option maxRecDepth 100000
namespace Go.Proofs.YtdnngempkifclaaGreatDoor.code
open Go.Ab
abbrev sxB := And.intro @Za (And.intro @Zb (And.intro @Zc (And.intro @Zd (And.intro @Ze (And.intro @Zf (And.intro @Zg (And.intro @Zh (And.intro @Zi (And.intro @Zj (And.intro @Zk (And.intro @Zl (And.intro @Zm (And.intro @Zn (And.intro @Zo (And.intro @Zp (And.intro @Zq (And.intro @Zr (And.intro @Zs (And.intro @Zt (And.intro @Zu (And.intro @Zv (And.intro @Zw (And.intro @Zx (And.intro @Zy (And.intro @bt (And.intro @bf (And.intro @Zz (And.intro @Zaa (And.intro @Zab (And.intro @Zac (And.intro @Zad (And.intro @Zae (And.intro @Zaf (And.intro @Zag (And.intro @Zah (And.intro @Zai (And.intro @Zaj (And.intro @Zak (And.intro @Zal (And.intro @Zam (And.intro @Zan (And.intro @Zao (And.intro @Zap (And.intro @Zaq (And.intro @Zar (And.intro @Zas (And.intro @Zat (And.intro @Zau (And.intro @Zav (And.intro @Zaw (And.intro @Zax (And.intro @Zay (And.intro @Zaz (And.intro @Zba (And.intro @Zbb (And.intro @Zbc (And.intro @Zbd (And.intro @Zbe (And.intro @Zbf (And.intro @Zbg (And.intro @Zbh (And.intro @Zbi (And.intro @Zbj (And.intro @Zbk (And.intro @Zbl (And.intro @Zbm (And.intro @Zbn (And.intro @Zbo (And.intro @Zbp (And.intro @Zbq (And.intro @Zbr (And.intro @Zbs (And.intro @Zbt (And.intro @Zbu (And.intro @Zbv (And.intro @Zbw (And.intro @Zbx (And.intro @Zby (And.intro @Zbz (And.intro @Zca (And.intro @Zcb (And.intro @Zcc (And.intro @Zcd (And.intro @Zce (And.intro @Zcf (And.intro @Zcg (And.intro @Zch (And.intro @Zci (And.intro @Zcj (And.intro @Zck (And.intro @Zcl (And.intro @Zcm (And.intro @Zcn (And.intro @Zco (And.intro @Zcp (And.intro @Zcq (And.intro @Zcr (And.intro @Zcs (And.intro @Zct (And.intro @Zcu (And.intro @Zcv (And.intro @Zcw (And.intro @Zcx (And.intro @Zcy (And.intro @Zcz (And.intro @Zda (And.intro @Zdb (And.intro @Zdc (And.intro @Zdd (And.intro @Zde (And.intro @Zdf (And.intro @Zdg (And.intro @Zdh (And.intro @Zdi (And.intro @Zdj (And.intro @Zdk (And.intro @Zdl (And.intro @Zdm (And.intro @Zdn (And.intro @Zdo (And.intro @Zdp (And.intro @Zdq (And.intro @Zdr (And.intro @Zds (And.intro @Zdt (And.intro @Zdu (And.intro @Zdv (And.intro @Zdw (And.intro @Zdx (And.intro @Zdy (And.intro @Zdz (And.intro @Zea (And.intro @Zeb (@Zec))))))))))))))))))))))))))))))))))))))))))))))))))))))))))))))))))))))))))))))))))))))))))))))))))))))))))))))))))))))))))))))))))))))
abbrev mxB := And.intro @Zed (And.intro @Zee (And.intro @Zef (And.intro @Zeg (And.intro @Zeh (And.intro @Zei (And.intro @Zej (And.intro @Zek (And.intro @Zel (And.intro @Zem (@Zen))))))))))
abbrev uxB := And.intro @Zz (And.intro @Zaa (And.intro @Zab (And.intro @Zac (And.intro @Zad (@Zae)))))

theorem q_sweep_check_long (a : Option Addr) (n cap : Nat) (o : Int) (hn : 65536 < n) (H : Heap) : CallQ prog f_sweep_check [.slice a n cap, .int .i64 o] H fun u H' => u = .int .i64 3 ∧ H' = H := by
  refine in_sweep_check fun hw => ?_
  have h1 : (n : Int) > 65536 := by omega
  simp only [pc_sweep_check, sxB, Nat.reduceBEq, List.map_cons, List.map_nil, ne_eq, not_false_eq_true, not_true_eq_false, Nat.reduceEqDiff, reduceCtorEq, cond_true, cond_false, Bool.not_true, Bool.not_false, Bool.not_not, h1, decide_true, ret_sweep_check]
  exact .mk (Nat.le_refl _) ⟨rfl, rfl⟩
theorem q_sweep_Sweep_long (a : Option Addr) (n cap : Nat) (hn : 65536 < n) (H : Heap) : CallQ prog f_sweep_Sweep [.slice a n cap, .int .i64 0] H fun u H' => u = .tuple #[.slice none 0 0, .int .i64 3] ∧ H' = H := by
  refine in_sweep_Sweep fun hw => ?_
  simp only [pc_sweep_Sweep, sxB, Nat.reduceBEq, List.map_cons, List.map_nil, ne_eq, not_false_eq_true, not_true_eq_false, Nat.reduceEqDiff, reduceCtorEq, cond_true, cond_false, Bool.not_true, Bool.not_false, Bool.not_not]
  refine (q_sweep_check_long a n cap 0 hn H).thenW ?_
  rintro _ H2 hn2 hw2 ⟨rfl, rfl⟩
  simp only [sxB, Nat.reduceBEq, List.map_cons, List.map_nil, ne_eq, not_false_eq_true, not_true_eq_false, Nat.reduceEqDiff, reduceCtorEq, cond_true, cond_false, Bool.not_true, Bool.not_false, Bool.not_not, mxB, Heap.get_push, Heap.next_push, Heap.get_set, Heap.next_set, Heap.get_up, Heap.next_up, if_true, if_false, Nat.reduceAdd, Nat.zero_add, Nat.add_zero, List.getElem?_cons_succ, List.getElem?_cons_zero, Option.some.injEq, exists_eq_left', eq_self, true_and, and_true, reduceIte, Nat.add_eq_left, Nat.left_eq_add, Nat.succ_ne_self, List.length_cons, List.length_nil, Nat.reduceLeDiff, List.all_cons, List.all_nil, Bool.and_self, List.drop_zero, List.drop_succ_cons, List.take_succ_cons, List.take_zero, List.cons_append, List.nil_append, List.append_nil, splice, List.take_nil, List.drop_nil, Nat.mul_one, Nat.zero_mul, Nat.one_mul, ret_sweep_Sweep, decide_true, show ((3 : Int) == 0) = false from rfl]
  exact .mk (Nat.le_refl _) ⟨rfl, rfl⟩
theorem q_sweep_Source_long (a : Option Addr) (n cap : Nat) (hn : 65536 < n) (H : Heap) : CallQ prog f_sweep_Source [.slice a n cap, .int .i64 0] H fun u H' => u = .tuple #[.string (mkS []), .int .i64 3] ∧ H' = H := by
  refine in_sweep_Source fun hw => ?_
  simp only [pc_sweep_Source, sxB, Nat.reduceBEq, List.map_cons, List.map_nil, ne_eq, not_false_eq_true, not_true_eq_false, Nat.reduceEqDiff, reduceCtorEq, cond_true, cond_false, Bool.not_true, Bool.not_false, Bool.not_not]
  refine (q_sweep_check_long a n cap 0 hn H).thenW ?_
  rintro _ H2 hn2 hw2 ⟨rfl, rfl⟩
  simp only [sxB, Nat.reduceBEq, List.map_cons, List.map_nil, ne_eq, not_false_eq_true, not_true_eq_false, Nat.reduceEqDiff, reduceCtorEq, cond_true, cond_false, Bool.not_true, Bool.not_false, Bool.not_not, mxB, Heap.get_push, Heap.next_push, Heap.get_set, Heap.next_set, Heap.get_up, Heap.next_up, if_true, if_false, Nat.reduceAdd, Nat.zero_add, Nat.add_zero, List.getElem?_cons_succ, List.getElem?_cons_zero, Option.some.injEq, exists_eq_left', eq_self, true_and, and_true, reduceIte, Nat.add_eq_left, Nat.left_eq_add, Nat.succ_ne_self, List.length_cons, List.length_nil, Nat.reduceLeDiff, List.all_cons, List.all_nil, Bool.and_self, List.drop_zero, List.drop_succ_cons, List.take_succ_cons, List.take_zero, List.cons_append, List.nil_append, List.append_nil, splice, List.take_nil, List.drop_nil, Nat.mul_one, Nat.zero_mul, Nat.one_mul, ret_sweep_Source, decide_true, show ((3 : Int) == 0) = false from rfl]
  exact .mk (Nat.le_refl _) ⟨rfl, rfl⟩
theorem q_sweep_Plain_long (a : Option Addr) (n cap : Nat) (hn : 65536 < n) (H : Heap) : CallQ prog f_sweep_Plain [.slice a n cap] H fun u H' => u = .bool false ∧ ∃ m, H' = H.up m := by
  refine in_sweep_Plain fun hw => ?_
  have h1 : (n : Int) > 65536 := by omega
  simp only [pc_sweep_Plain, sxB, Nat.reduceBEq, List.map_cons, List.map_nil, ne_eq, not_false_eq_true, not_true_eq_false, Nat.reduceEqDiff, reduceCtorEq, cond_true, cond_false, Bool.not_true, Bool.not_false, Bool.not_not, mxB, Heap.get_push, Heap.next_push, Heap.get_set, Heap.next_set, Heap.get_up, Heap.next_up, if_true, if_false, Nat.reduceAdd, Nat.zero_add, Nat.add_zero, List.getElem?_cons_succ, List.getElem?_cons_zero, Option.some.injEq, exists_eq_left', eq_self, true_and, and_true, reduceIte, Nat.add_eq_left, Nat.left_eq_add, Nat.succ_ne_self, List.length_cons, List.length_nil, Nat.reduceLeDiff, List.all_cons, List.all_nil, Bool.and_self, List.drop_zero, List.drop_succ_cons, List.take_succ_cons, List.take_zero, List.cons_append, List.nil_append, List.append_nil, splice, List.take_nil, List.drop_nil, Nat.mul_one, Nat.zero_mul, Nat.one_mul, h1, decide_true, ret_sweep_Plain]
  exact .ext hw ((Ext.refl H).push _ |>.set (Nat.le_refl _) _) ⟨rfl, _, rfl⟩

noncomputable def pcE : PC :=
       (.seq
        (.seq
         (.ops [⟨some 32, .mv (t 0), none, false⟩, ⟨some 33, .bin .eql (t 32) (.const (.int .i64 0)), none, false⟩])
         (.cond (t 33)
          (.seq
           (.ops [⟨some 34, .call f_linotypelaw30_awake [], none, false⟩, ⟨some 4, .mv (t 34), none, false⟩])
           .ret)
          .skip))
        (.seq
         (.ops [⟨some 36, .mv (t 5), none, false⟩, ⟨some 37, .call f_sweep_Sweep [(t 36), (.const (.int .i64 0))], none, false⟩, ⟨some 35, .mv (t 37), none, false⟩, ⟨some 38, .ext (t 35) 0, none, false⟩, ⟨some 39, .ext (t 35) 1, none, false⟩, ⟨some 7, .mv (t 38), none, false⟩, ⟨some 8, .mv (t 39), none, false⟩])
         (.seq
          (.ops [⟨some 41, .mv (t 5), none, false⟩, ⟨some 42, .call f_sweep_Source [(t 41), (.const (.int .i64 0))], none, false⟩, ⟨some 40, .mv (t 42), none, false⟩, ⟨some 43, .ext (t 40) 0, none, false⟩, ⟨some 44, .ext (t 40) 1, none, false⟩, ⟨some 9, .mv (t 43), none, false⟩, ⟨some 10, .mv (t 44), none, false⟩])
          (.seq
           (.ops [⟨some 45, .call f_linotypelaw30_awake [], none, false⟩, ⟨some 46, .mv (t 45), none, false⟩, ⟨some 47, .mv (t 8), some (46, true), false⟩, ⟨some 48, .bin .eql (t 47) (.const (.int .i64 3)), some (46, true), false⟩, ⟨some 49, .pick (t 46) (t 48) (.const (.bool false)), none, false⟩, ⟨some 50, .mv (t 49), none, false⟩, ⟨some 51, .mv (t 10), some (50, true), false⟩, ⟨some 52, .bin .eql (t 51) (.const (.int .i64 3)), some (50, true), false⟩, ⟨some 53, .pick (t 50) (t 52) (.const (.bool false)), none, false⟩, ⟨some 54, .mv (t 53), none, false⟩, ⟨some 55, .mv (t 7), some (54, true), false⟩, ⟨some 56, .lenS (t 55), some (54, true), false⟩, ⟨some 57, .bin .eql (t 56) (.const (.int .i64 0)), some (54, true), false⟩, ⟨some 58, .pick (t 54) (t 57) (.const (.bool false)), none, false⟩, ⟨some 59, .mv (t 58), none, false⟩, ⟨some 60, .mv (t 9), some (59, true), false⟩, ⟨some 61, .bin .eql (t 60) (.const (.string (mkS []))), some (59, true), false⟩, ⟨some 62, .pick (t 59) (t 61) (.const (.bool false)), none, false⟩, ⟨some 63, .mv (t 62), none, false⟩, ⟨some 64, .mv (t 5), some (63, true), false⟩, ⟨some 65, .call f_sweep_Plain [(t 64)], some (63, true), false⟩, ⟨some 66, .not (t 65), some (63, true), false⟩, ⟨some 67, .pick (t 63) (t 66) (.const (.bool false)), none, false⟩, ⟨some 4, .mv (t 67), none, false⟩])
           .ret))))
noncomputable def pcL : PC :=
     (.seq
      (.ops [⟨some 19, .mv (t 0), none, false⟩, ⟨some 20, .bin .add (.const (.int .i64 65536)) (t 19), none, false⟩, ⟨some 21, .mkSl 5 1 1 [.int .u8 0] (t 20) (t 20), none, false⟩, ⟨some 5, .mv (t 21), none, false⟩])
      (.seq
       (.seq
        (.ops [⟨some 6, .mv (.const (.int .i64 0)), none, false⟩])
        (.block 0
         (.loop
          (.seq
           (.seq
            (.ops [⟨some 22, .mv (t 6), none, false⟩, ⟨some 23, .mv (t 5), none, false⟩, ⟨some 24, .lenS (t 23), none, false⟩, ⟨some 25, .bin .lss (t 22) (t 24), none, false⟩])
            (.cond (t 25)
             .skip
             (.exit 0)))
           (.seq
            (.block 1
             (.ops [⟨some 28, .mv (t 5), none, false⟩, ⟨some 29, .mv (t 6), none, false⟩, ⟨some 30, .mv (t 1), none, false⟩, ⟨some 31, .idxS 1 (t 28) (t 29), none, false⟩, ⟨none, .st 1 (t 31) (t 30), none, false⟩]))
            (.ops [⟨some 26, .mv (t 6), none, false⟩, ⟨some 27, .bin .add (t 26) (.const (.int .i64 1)), none, false⟩, ⟨some 6, .mv (t 27), none, false⟩]))))))
       pcE))
theorem pcS : pc_linotypelaw30_SweepLong =
  (.seq
   (.ops [⟨some 4, .mv (.const (.bool false)), none, false⟩])
   (.seq
    (.ops [⟨some 11, .mv (t 0), none, false⟩, ⟨some 12, .call f_linotypekit_Pick [(t 11), (.const (.int .i64 3))], none, false⟩, ⟨some 0, .mv (t 12), none, false⟩])
    (.seq
     (.seq
      (.ops [⟨some 13, .mv (t 1), none, false⟩, ⟨some 14, .bin .lss (t 13) (.const (.int .u8 6)), none, false⟩, ⟨some 15, .mv (t 14), none, false⟩, ⟨some 16, .mv (t 1), some (15, false), false⟩, ⟨some 17, .bin .gtr (t 16) (.const (.int .u8 7)), some (15, false), false⟩, ⟨some 18, .pick (t 15) (.const (.bool true)) (t 17), none, false⟩])
      (.cond (t 18)
       (.ops [⟨some 1, .mv (.const (.int .u8 6)), none, false⟩])
       .skip))
     pcL))) := rfl

theorem q_linotypelaw30_SweepLong {T : Heap → Prop} (hT : ∀ H H', H.Wf → T H → Ext H H' → T H') (haw : ∀ H, T H → CallQ prog f_linotypelaw30_awake [] H fun u H' => u = .bool true ∧ H' = H)
    (x : Int) (hx : I64 x) (c : Int) (hc : 0 ≤ c ∧ c < 256) (H : Heap) (ht : T H) : CallQ prog f_linotypelaw30_SweepLong [.int .i64 x, .int .u8 c] H fun u H' => u = .bool true := by
  refine in_linotypelaw30_SweepLong fun hw => ?_
  rw [pcS]
  simp only [sxB, Nat.reduceBEq, List.map_cons, List.map_nil, ne_eq, not_false_eq_true, not_true_eq_false, Nat.reduceEqDiff, reduceCtorEq, cond_true, cond_false, Bool.not_true, Bool.not_false, Bool.not_not]
  refine (q_linotypekit_Pick x 3 hx (by omega) H).thenW ?_
  rintro _ H1 hn1 hw1 ⟨rfl, rfl⟩
  have hm := Int.emod_nonneg x (by omega : (3 : Int) ≠ 0)
  have hm2 := Int.emod_lt_of_pos x (by omega : (0 : Int) < 3)
  generalize x % 3 = mo at hm hm2
  -- behind the loop
  have hE : ∀ (A : Env) (H2 : Heap) (n : Nat) (hl : (n : Int) = 65536 + mo) (hx2 : Ext H1 H2), A 0 = .int .i64 mo → (∃ a cap, A 5 = .slice a n cap) → pexec prog pcE ⟨Rt prog Tryz.f4 H1 fun u H' => u = .bool true, noEx⟩ (Rt prog Tryz.f4 H1 fun u H' => u = .bool true) A H2 := by
    rintro A H2 n hl hx2 r0 ⟨a, cap, r5⟩
    have hT2 := hT _ _ hw1 ht hx2
    simp only [pcE, sxB, Nat.reduceBEq, List.map_cons, List.map_nil, ne_eq, not_false_eq_true, not_true_eq_false, Nat.reduceEqDiff, reduceCtorEq, cond_true, cond_false, Bool.not_true, Bool.not_false, Bool.not_not, mxB, Heap.get_push, Heap.next_push, Heap.get_set, Heap.next_set, Heap.get_up, Heap.next_up, if_true, if_false, Nat.reduceAdd, Nat.zero_add, Nat.add_zero, List.getElem?_cons_succ, List.getElem?_cons_zero, Option.some.injEq, exists_eq_left', eq_self, true_and, and_true, reduceIte, Nat.add_eq_left, Nat.left_eq_add, Nat.succ_ne_self, List.length_cons, List.length_nil, Nat.reduceLeDiff, List.all_cons, List.all_nil, Bool.and_self, List.drop_zero, List.drop_succ_cons, List.take_succ_cons, List.take_zero, List.cons_append, List.nil_append, List.append_nil, splice, List.take_nil, List.drop_nil, Nat.mul_one, Nat.zero_mul, Nat.one_mul, r0, r5]
    refine cB_cases (fun h2 => ?_) (fun h2 => ?_)
    · simp only [sxB, Nat.reduceBEq, List.map_cons, List.map_nil, ne_eq, not_false_eq_true, not_true_eq_false, Nat.reduceEqDiff, reduceCtorEq, cond_true, cond_false, Bool.not_true, Bool.not_false, Bool.not_not, mxB, Heap.get_push, Heap.next_push, Heap.get_set, Heap.next_set, Heap.get_up, Heap.next_up, if_true, if_false, Nat.reduceAdd, Nat.zero_add, Nat.add_zero, List.getElem?_cons_succ, List.getElem?_cons_zero, Option.some.injEq, exists_eq_left', eq_self, true_and, and_true, reduceIte, Nat.add_eq_left, Nat.left_eq_add, Nat.succ_ne_self, List.length_cons, List.length_nil, Nat.reduceLeDiff, List.all_cons, List.all_nil, Bool.and_self, List.drop_zero, List.drop_succ_cons, List.take_succ_cons, List.take_zero, List.cons_append, List.nil_append, List.append_nil, splice, List.take_nil, List.drop_nil, Nat.mul_one, Nat.zero_mul, Nat.one_mul]
      refine (haw H2 hT2).thenW ?_
      rintro _ H3 hn3 hw3 ⟨rfl, rfl⟩
      simp only [sxB, Nat.reduceBEq, List.map_cons, List.map_nil, ne_eq, not_false_eq_true, not_true_eq_false, Nat.reduceEqDiff, reduceCtorEq, cond_true, cond_false, Bool.not_true, Bool.not_false, Bool.not_not, mxB, Heap.get_push, Heap.next_push, Heap.get_set, Heap.next_set, Heap.get_up, Heap.next_up, if_true, if_false, Nat.reduceAdd, Nat.zero_add, Nat.add_zero, List.getElem?_cons_succ, List.getElem?_cons_zero, Option.some.injEq, exists_eq_left', eq_self, true_and, and_true, reduceIte, Nat.add_eq_left, Nat.left_eq_add, Nat.succ_ne_self, List.length_cons, List.length_nil, Nat.reduceLeDiff, List.all_cons, List.all_nil, Bool.and_self, List.drop_zero, List.drop_succ_cons, List.take_succ_cons, List.take_zero, List.cons_append, List.nil_append, List.append_nil, splice, List.take_nil, List.drop_nil, Nat.mul_one, Nat.zero_mul, Nat.one_mul, ret_linotypelaw30_SweepLong]
      exact .mk hx2.next rfl
    · have h2 : ¬ mo = 0 := by simpa using h2
      have hn : 65536 < n := by omega
      simp only [sxB, Nat.reduceBEq, List.map_cons, List.map_nil, ne_eq, not_false_eq_true, not_true_eq_false, Nat.reduceEqDiff, reduceCtorEq, cond_true, cond_false, Bool.not_true, Bool.not_false, Bool.not_not, mxB, Heap.get_push, Heap.next_push, Heap.get_set, Heap.next_set, Heap.get_up, Heap.next_up, if_true, if_false, Nat.reduceAdd, Nat.zero_add, Nat.add_zero, List.getElem?_cons_succ, List.getElem?_cons_zero, Option.some.injEq, exists_eq_left', eq_self, true_and, and_true, reduceIte, Nat.add_eq_left, Nat.left_eq_add, Nat.succ_ne_self, List.length_cons, List.length_nil, Nat.reduceLeDiff, List.all_cons, List.all_nil, Bool.and_self, List.drop_zero, List.drop_succ_cons, List.take_succ_cons, List.take_zero, List.cons_append, List.nil_append, List.append_nil, splice, List.take_nil, List.drop_nil, Nat.mul_one, Nat.zero_mul, Nat.one_mul, r0, r5]
      refine (q_sweep_Sweep_long a n cap hn H2).thenW ?_
      rintro _ H3 hn3 hw3 ⟨rfl, rfl⟩
      simp only [sxB, Nat.reduceBEq, List.map_cons, List.map_nil, ne_eq, not_false_eq_true, not_true_eq_false, Nat.reduceEqDiff, reduceCtorEq, cond_true, cond_false, Bool.not_true, Bool.not_false, Bool.not_not, mxB, Heap.get_push, Heap.next_push, Heap.get_set, Heap.next_set, Heap.get_up, Heap.next_up, if_true, if_false, Nat.reduceAdd, Nat.zero_add, Nat.add_zero, List.getElem?_cons_succ, List.getElem?_cons_zero, Option.some.injEq, exists_eq_left', eq_self, true_and, and_true, reduceIte, Nat.add_eq_left, Nat.left_eq_add, Nat.succ_ne_self, List.length_cons, List.length_nil, Nat.reduceLeDiff, List.all_cons, List.all_nil, Bool.and_self, List.drop_zero, List.drop_succ_cons, List.take_succ_cons, List.take_zero, List.cons_append, List.nil_append, List.append_nil, splice, List.take_nil, List.drop_nil, Nat.mul_one, Nat.zero_mul, Nat.one_mul, r0, r5]
      refine (q_sweep_Source_long a n cap hn H3).thenW ?_
      rintro _ H4 hn4 hw4 ⟨rfl, rfl⟩
      simp only [sxB, Nat.reduceBEq, List.map_cons, List.map_nil, ne_eq, not_false_eq_true, not_true_eq_false, Nat.reduceEqDiff, reduceCtorEq, cond_true, cond_false, Bool.not_true, Bool.not_false, Bool.not_not, mxB, Heap.get_push, Heap.next_push, Heap.get_set, Heap.next_set, Heap.get_up, Heap.next_up, if_true, if_false, Nat.reduceAdd, Nat.zero_add, Nat.add_zero, List.getElem?_cons_succ, List.getElem?_cons_zero, Option.some.injEq, exists_eq_left', eq_self, true_and, and_true, reduceIte, Nat.add_eq_left, Nat.left_eq_add, Nat.succ_ne_self, List.length_cons, List.length_nil, Nat.reduceLeDiff, List.all_cons, List.all_nil, Bool.and_self, List.drop_zero, List.drop_succ_cons, List.take_succ_cons, List.take_zero, List.cons_append, List.nil_append, List.append_nil, splice, List.take_nil, List.drop_nil, Nat.mul_one, Nat.zero_mul, Nat.one_mul, r0, r5]
      refine (haw H4 hT2).thenW ?_
      rintro _ H5 hn5 hw5 ⟨rfl, rfl⟩
      have e3 : ((3 : Int) == 3) = true := rfl
      have e4 : ((((0 : Nat) : Int)) == 0) = true := rfl
      have e5 : (bl (mkS []) == bl (mkS [])) = true := by simp
      simp only [sxB, Nat.reduceBEq, List.map_cons, List.map_nil, ne_eq, not_false_eq_true, not_true_eq_false, Nat.reduceEqDiff, reduceCtorEq, cond_true, cond_false, Bool.not_true, Bool.not_false, Bool.not_not, mxB, Heap.get_push, Heap.next_push, Heap.get_set, Heap.next_set, Heap.get_up, Heap.next_up, if_true, if_false, Nat.reduceAdd, Nat.zero_add, Nat.add_zero, List.getElem?_cons_succ, List.getElem?_cons_zero, Option.some.injEq, exists_eq_left', eq_self, true_and, and_true, reduceIte, Nat.add_eq_left, Nat.left_eq_add, Nat.succ_ne_self, List.length_cons, List.length_nil, Nat.reduceLeDiff, List.all_cons, List.all_nil, Bool.and_self, List.drop_zero, List.drop_succ_cons, List.take_succ_cons, List.take_zero, List.cons_append, List.nil_append, List.append_nil, splice, List.take_nil, List.drop_nil, Nat.mul_one, Nat.zero_mul, Nat.one_mul, r0, r5, e3, e4, e5]
      refine (q_sweep_Plain_long a n cap hn H5).thenW ?_
      rintro _ H6 hn6 hw6 ⟨rfl, m6, rfl⟩
      simp only [sxB, Nat.reduceBEq, List.map_cons, List.map_nil, ne_eq, not_false_eq_true, not_true_eq_false, Nat.reduceEqDiff, reduceCtorEq, cond_true, cond_false, Bool.not_true, Bool.not_false, Bool.not_not, mxB, Heap.get_push, Heap.next_push, Heap.get_set, Heap.next_set, Heap.get_up, Heap.next_up, if_true, if_false, Nat.reduceAdd, Nat.zero_add, Nat.add_zero, List.getElem?_cons_succ, List.getElem?_cons_zero, Option.some.injEq, exists_eq_left', eq_self, true_and, and_true, reduceIte, Nat.add_eq_left, Nat.left_eq_add, Nat.succ_ne_self, List.length_cons, List.length_nil, Nat.reduceLeDiff, List.all_cons, List.all_nil, Bool.and_self, List.drop_zero, List.drop_succ_cons, List.take_succ_cons, List.take_zero, List.cons_append, List.nil_append, List.append_nil, splice, List.take_nil, List.drop_nil, Nat.mul_one, Nat.zero_mul, Nat.one_mul, ret_linotypelaw30_SweepLong]
      simp only [Heap.next_up] at hn6
      exact .mk (Nat.le_trans hx2.next hn6) rfl
  have hL : ∀ (A : Env) (c : Int), A 0 = .int .i64 mo → A 1 = .int .u8 c → pexec prog pcL ⟨Rt prog Tryz.f4 H1 fun u H' => u = .bool true, noEx⟩ (Rt prog Tryz.f4 H1 fun u H' => u = .bool true) A H1 := by
    intro A c r0 r1
    have e1 : IntKind.i64.wrap (65536 + mo) = 65536 + mo := w64 (by unfold I64; omega)
    simp only [pcL, sxB, Nat.reduceBEq, List.map_cons, List.map_nil, ne_eq, not_false_eq_true, not_true_eq_false, Nat.reduceEqDiff, reduceCtorEq, cond_true, cond_false, Bool.not_true, Bool.not_false, Bool.not_not, mxB, Heap.get_push, Heap.next_push, Heap.get_set, Heap.next_set, Heap.get_up, Heap.next_up, if_true, if_false, Nat.reduceAdd, Nat.zero_add, Nat.add_zero, List.getElem?_cons_succ, List.getElem?_cons_zero, Option.some.injEq, exists_eq_left', eq_self, true_and, and_true, reduceIte, Nat.add_eq_left, Nat.left_eq_add, Nat.succ_ne_self, List.length_cons, List.length_nil, Nat.reduceLeDiff, List.all_cons, List.all_nil, Bool.and_self, List.drop_zero, List.drop_succ_cons, List.take_succ_cons, List.take_zero, List.cons_append, List.nil_append, List.append_nil, splice, List.take_nil, List.drop_nil, Nat.mul_one, Nat.zero_mul, Nat.one_mul, r0, r1, e1]
    obtain ⟨n, hn⟩ : ∃ n : Nat, (65536 + mo).toNat = n := ⟨_, rfl⟩
    have hl : (n : Int) = 65536 + mo := by omega
    refine ⟨by omega, ?_⟩
    rw [hn]
    have hzl : (zeros #[Value.int IntKind.u8 0] n).length = n := by simp [zeros]
    have hx0 : Ext H1 (H1.push (.cells (zeros #[Value.int IntKind.u8 0] n) 5 false)) := (Ext.refl H1).push _
    have hg0 : (H1.push (.cells (zeros #[Value.int IntKind.u8 0] n) 5 false)).get H1.next = some (.cells (zeros #[Value.int IntKind.u8 0] n) 5 false) := by rw [Heap.get_push, if_pos rfl]
    generalize H1.push (.cells (zeros #[Value.int IntKind.u8 0] n) 5 false) = H0 at hx0 hg0
    generalize zeros #[Value.int IntKind.u8 0] n = zs at hzl hg0
    refine loop_intro (fun m A' H' => ∃ (i : Nat) (cs : List Value), i ≤ n ∧ m = n - i ∧ Ext H1 H' ∧ H'.get H1.next = some (.cells cs 5 false) ∧ cs.length = n ∧ A' 0 = .int .i64 mo ∧ A' 1 = .int .u8 c ∧ A' 5 = .slice (some ⟨H1.next, 0, none⟩) n n ∧ A' 6 = .int .i64 i) n ?_ ?_
    · refine ⟨0, zs, Nat.zero_le _, by omega, hx0, hg0, hzl, ?_, ?_, ?_, ?_⟩
      all_goals simp only [uxB, Nat.reduceBEq, cond_true, cond_false, r0, r1]
      rfl
    · rintro m A' H' ⟨i, cs, hi, rfl, hxe, hge, hcl, q0, q1, q5, q6⟩
      simp only [sxB, Nat.reduceBEq, List.map_cons, List.map_nil, ne_eq, not_false_eq_true, not_true_eq_false, Nat.reduceEqDiff, reduceCtorEq, cond_true, cond_false, Bool.not_true, Bool.not_false, Bool.not_not, mxB, Heap.get_push, Heap.next_push, Heap.get_set, Heap.next_set, Heap.get_up, Heap.next_up, if_true, if_false, Nat.reduceAdd, Nat.zero_add, Nat.add_zero, List.getElem?_cons_succ, List.getElem?_cons_zero, Option.some.injEq, exists_eq_left', eq_self, true_and, and_true, reduceIte, Nat.add_eq_left, Nat.left_eq_add, Nat.succ_ne_self, List.length_cons, List.length_nil, Nat.reduceLeDiff, List.all_cons, List.all_nil, Bool.and_self, List.drop_zero, List.drop_succ_cons, List.take_succ_cons, List.take_zero, List.cons_append, List.nil_append, List.append_nil, splice, List.take_nil, List.drop_nil, Nat.mul_one, Nat.zero_mul, Nat.one_mul, q0, q1, q5, q6]
      refine cB_cases (fun h2 => ?_) (fun h2 => ?_)
      · have h2 : i < n := by have := of_decide_eq_true h2; omega
        have c1 : (0 : Int) ≤ i ∧ (i : Int) < n := by omega
        have c3 : (i : Int).toNat = i := by omega
        have ei : IntKind.i64.wrap ((i : Int) + 1) = ((i + 1 : Nat) : Int) := by rw [w64 (by unfold I64; omega)]; omega
        have c4 : i + 1 ≤ cs.length := by omega
        simp only [sxB, Nat.reduceBEq, List.map_cons, List.map_nil, ne_eq, not_false_eq_true, not_true_eq_false, Nat.reduceEqDiff, reduceCtorEq, cond_true, cond_false, Bool.not_true, Bool.not_false, Bool.not_not, mxB, Heap.get_push, Heap.next_push, Heap.get_set, Heap.next_set, Heap.get_up, Heap.next_up, if_true, if_false, Nat.reduceAdd, Nat.zero_add, Nat.add_zero, List.getElem?_cons_succ, List.getElem?_cons_zero, Option.some.injEq, exists_eq_left', eq_self, true_and, and_true, reduceIte, Nat.add_eq_left, Nat.left_eq_add, Nat.succ_ne_self, List.length_cons, List.length_nil, Nat.reduceLeDiff, List.all_cons, List.all_nil, Bool.and_self, List.drop_zero, List.drop_succ_cons, List.take_succ_cons, List.take_zero, List.cons_append, List.nil_append, List.append_nil, splice, List.take_nil, List.drop_nil, Nat.mul_one, Nat.zero_mul, Nat.one_mul, q0, q1, q5, q6, c1, c3, hge, c4, ei]
        refine ⟨n - (i + 1), by omega, i + 1, _, by omega, rfl, hxe.set (Nat.le_refl _) _, by rw [Heap.get_set, if_pos rfl], ?_, ?_, ?_, ?_, ?_⟩
        · simp; omega
        all_goals simp only [uxB, Nat.reduceBEq, cond_true, cond_false, q0, q1, q5]
      · have h2 : i = n := by have := of_decide_eq_false h2; omega
        subst h2
        simp only [sxB, Nat.reduceBEq, List.map_cons, List.map_nil, ne_eq, not_false_eq_true, not_true_eq_false, Nat.reduceEqDiff, reduceCtorEq, cond_true, cond_false, Bool.not_true, Bool.not_false, Bool.not_not, mxB, Heap.get_push, Heap.next_push, Heap.get_set, Heap.next_set, Heap.get_up, Heap.next_up, if_true, if_false, Nat.reduceAdd, Nat.zero_add, Nat.add_zero, List.getElem?_cons_succ, List.getElem?_cons_zero, Option.some.injEq, exists_eq_left', eq_self, true_and, and_true, reduceIte, Nat.add_eq_left, Nat.left_eq_add, Nat.succ_ne_self, List.length_cons, List.length_nil, Nat.reduceLeDiff, List.all_cons, List.all_nil, Bool.and_self, List.drop_zero, List.drop_succ_cons, List.take_succ_cons, List.take_zero, List.cons_append, List.nil_append, List.append_nil, splice, List.take_nil, List.drop_nil, Nat.mul_one, Nat.zero_mul, Nat.one_mul, q0, q1, q5, q6]
        refine hE _ _ i hl hxe ?_ ⟨some ⟨H1.next, 0, none⟩, i, ?_⟩
        all_goals simp only [uxB, Nat.reduceBEq, cond_true, cond_false, q0, q5]
  simp only [sxB, Nat.reduceBEq, List.map_cons, List.map_nil, ne_eq, not_false_eq_true, not_true_eq_false, Nat.reduceEqDiff, reduceCtorEq, cond_true, cond_false, Bool.not_true, Bool.not_false, Bool.not_not, mxB, Heap.get_push, Heap.next_push, Heap.get_set, Heap.next_set, Heap.get_up, Heap.next_up, if_true, if_false, Nat.reduceAdd, Nat.zero_add, Nat.add_zero, List.getElem?_cons_succ, List.getElem?_cons_zero, Option.some.injEq, exists_eq_left', eq_self, true_and, and_true, reduceIte, Nat.add_eq_left, Nat.left_eq_add, Nat.succ_ne_self, List.length_cons, List.length_nil, Nat.reduceLeDiff, List.all_cons, List.all_nil, Bool.and_self, List.drop_zero, List.drop_succ_cons, List.take_succ_cons, List.take_zero, List.cons_append, List.nil_append, List.append_nil, splice, List.take_nil, List.drop_nil, Nat.mul_one, Nat.zero_mul, Nat.one_mul]
  by_cases h6 : c < 6
  · have d6 : decide (c < 6) = true := decide_eq_true h6
    simp only [sxB, Nat.reduceBEq, List.map_cons, List.map_nil, ne_eq, not_false_eq_true, not_true_eq_false, Nat.reduceEqDiff, reduceCtorEq, cond_true, cond_false, Bool.not_true, Bool.not_false, Bool.not_not, mxB, Heap.get_push, Heap.next_push, Heap.get_set, Heap.next_set, Heap.get_up, Heap.next_up, if_true, if_false, Nat.reduceAdd, Nat.zero_add, Nat.add_zero, List.getElem?_cons_succ, List.getElem?_cons_zero, Option.some.injEq, exists_eq_left', eq_self, true_and, and_true, reduceIte, Nat.add_eq_left, Nat.left_eq_add, Nat.succ_ne_self, List.length_cons, List.length_nil, Nat.reduceLeDiff, List.all_cons, List.all_nil, Bool.and_self, List.drop_zero, List.drop_succ_cons, List.take_succ_cons, List.take_zero, List.cons_append, List.nil_append, List.append_nil, splice, List.take_nil, List.drop_nil, Nat.mul_one, Nat.zero_mul, Nat.one_mul, d6]
    refine hL _ 6 ?_ ?_
    all_goals simp only [uxB, Nat.reduceBEq, cond_true, cond_false]
  · have d6 : decide (c < 6) = false := decide_eq_false h6
    simp only [sxB, Nat.reduceBEq, List.map_cons, List.map_nil, ne_eq, not_false_eq_true, not_true_eq_false, Nat.reduceEqDiff, reduceCtorEq, cond_true, cond_false, Bool.not_true, Bool.not_false, Bool.not_not, mxB, Heap.get_push, Heap.next_push, Heap.get_set, Heap.next_set, Heap.get_up, Heap.next_up, if_true, if_false, Nat.reduceAdd, Nat.zero_add, Nat.add_zero, List.getElem?_cons_succ, List.getElem?_cons_zero, Option.some.injEq, exists_eq_left', eq_self, true_and, and_true, reduceIte, Nat.add_eq_left, Nat.left_eq_add, Nat.succ_ne_self, List.length_cons, List.length_nil, Nat.reduceLeDiff, List.all_cons, List.all_nil, Bool.and_self, List.drop_zero, List.drop_succ_cons, List.take_succ_cons, List.take_zero, List.cons_append, List.nil_append, List.append_nil, splice, List.take_nil, List.drop_nil, Nat.mul_one, Nat.zero_mul, Nat.one_mul, d6]
    refine cB_cases (fun h2 => ?_) (fun h2 => ?_)
    · simp only [sxB, Nat.reduceBEq, List.map_cons, List.map_nil, ne_eq, not_false_eq_true, not_true_eq_false, Nat.reduceEqDiff, reduceCtorEq, cond_true, cond_false, Bool.not_true, Bool.not_false, Bool.not_not, mxB, Heap.get_push, Heap.next_push, Heap.get_set, Heap.next_set, Heap.get_up, Heap.next_up, if_true, if_false, Nat.reduceAdd, Nat.zero_add, Nat.add_zero, List.getElem?_cons_succ, List.getElem?_cons_zero, Option.some.injEq, exists_eq_left', eq_self, true_and, and_true, reduceIte, Nat.add_eq_left, Nat.left_eq_add, Nat.succ_ne_self, List.length_cons, List.length_nil, Nat.reduceLeDiff, List.all_cons, List.all_nil, Bool.and_self, List.drop_zero, List.drop_succ_cons, List.take_succ_cons, List.take_zero, List.cons_append, List.nil_append, List.append_nil, splice, List.take_nil, List.drop_nil, Nat.mul_one, Nat.zero_mul, Nat.one_mul]
      refine hL _ 6 ?_ ?_
      all_goals simp only [uxB, Nat.reduceBEq, cond_true, cond_false]
    · simp only [sxB, Nat.reduceBEq, List.map_cons, List.map_nil, ne_eq, not_false_eq_true, not_true_eq_false, Nat.reduceEqDiff, reduceCtorEq, cond_true, cond_false, Bool.not_true, Bool.not_false, Bool.not_not, mxB, Heap.get_push, Heap.next_push, Heap.get_set, Heap.next_set, Heap.get_up, Heap.next_up, if_true, if_false, Nat.reduceAdd, Nat.zero_add, Nat.add_zero, List.getElem?_cons_succ, List.getElem?_cons_zero, Option.some.injEq, exists_eq_left', eq_self, true_and, and_true, reduceIte, Nat.add_eq_left, Nat.left_eq_add, Nat.succ_ne_self, List.length_cons, List.length_nil, Nat.reduceLeDiff, List.all_cons, List.all_nil, Bool.and_self, List.drop_zero, List.drop_succ_cons, List.take_succ_cons, List.take_zero, List.cons_append, List.nil_append, List.append_nil, splice, List.take_nil, List.drop_nil, Nat.mul_one, Nat.zero_mul, Nat.one_mul]
      refine hL _ c ?_ ?_
      all_goals simp only [uxB, Nat.reduceBEq, cond_true, cond_false]
end Go.Proofs.YtdnngempkifclaaGreatDoor.code
