/- Texts: strings.HasPrefix, CutPrefix, Split at blanks; the document's words. -/
import Derived.Test.YthoanamkoigjeaaGreatDoorLibO
import Derived.Lib.IndexLaws
import Derived.Test.YthoanamkoigjeaaGreatDoorLibP
set_option linter.unusedVariables false
set_option linter.unusedSimpArgs false
set_option maxRecDepth 100000
set_option maxHeartbeats 4000000
namespace Go.Proofs.YthoanamkoigjeaaGreatDoor.code
open Go.Ab

theorem q_slHasPrefix (s p : List UInt8) (hl : s.length ≤ 1000000) (hp : p.length ≤ 1000000) (H : Heap) : CallQ prog f_internal_stringslite_HasPrefix [.string (mkS s), .string (mkS p)] H fun u H' => u = .bool (s.take p.length == p) ∧ H' = H := by
  refine in_internal_stringslite_HasPrefix fun hw => ?_
  by_cases h : p.length ≤ s.length
  · have e1 : decide ((p.length : Int) ≤ (s.length : Int)) = true := decide_eq_true (by omega)
    simp only [pc_internal_stringslite_HasPrefix, sxA, sxB, Nat.reduceBEq, Nat.reduceEqDiff, reduceCtorEq, mxA, mxB, Nat.reduceAdd, reduceIte, Nat.reduceLeDiff, splice, Zdk, bl_mkS, e1]
    rw [gen_slThi (s := mkS s) (h := p.length) (ik := .i64) (by kernel_rfl) (by simp only [uxA, uxB, Nat.reduceBEq]) (by simp only [uxA, uxB, Nat.reduceBEq]) (by rw [bl_mkS]; exact h)]
    simp only [sxA, sxB, Nat.reduceBEq, Nat.reduceEqDiff, reduceCtorEq, mxA, mxB, Nat.reduceAdd, reduceIte, Nat.reduceLeDiff, splice, bl_mkS, ret_internal_stringslite_HasPrefix]
    exact .mk (Nat.le_refl _) ⟨rfl, rfl⟩
  · have e1 : decide ((p.length : Int) ≤ (s.length : Int)) = false := decide_eq_false (by omega)
    have e2 : (s.take p.length == p) = false := beq_eq_false_iff_ne.2 fun h2 => by
      have := congrArg List.length h2
      rw [List.length_take] at this
      omega
    rw [e2]
    simp only [pc_internal_stringslite_HasPrefix, sxA, sxB, Nat.reduceBEq, Nat.reduceEqDiff, reduceCtorEq, mxA, mxB, Nat.reduceAdd, reduceIte, Nat.reduceLeDiff, splice, Zdk, bl_mkS, e1, ret_internal_stringslite_HasPrefix]
    exact .mk (Nat.le_refl _) ⟨rfl, rfl⟩
theorem q_HasPrefix (s p : List UInt8) (hl : s.length ≤ 1000000) (hp : p.length ≤ 1000000) (H : Heap) : CallQ prog f_strings_HasPrefix [.string (mkS s), .string (mkS p)] H fun u H' => u = .bool (s.take p.length == p) ∧ H' = H := by
  refine in_strings_HasPrefix fun hw => ?_
  simp only [pc_strings_HasPrefix, sxA, sxB, Nat.reduceBEq, Nat.reduceEqDiff, reduceCtorEq, mxA, mxB, Nat.reduceAdd, reduceIte, Nat.reduceLeDiff, splice]
  refine (q_slHasPrefix s p hl hp H).thenW ?_
  rintro _ H1 _ hw1 ⟨rfl, rfl⟩
  simp only [sxA, sxB, Nat.reduceBEq, Nat.reduceEqDiff, reduceCtorEq, mxA, mxB, Nat.reduceAdd, reduceIte, Nat.reduceLeDiff, splice, ret_strings_HasPrefix]
  exact .mk (Nat.le_refl _) ⟨rfl, rfl⟩
def cutP (s p : List UInt8) : List UInt8 := if s.take p.length == p then s.drop p.length else s
theorem q_CutPrefix (s p : List UInt8) (hl : s.length ≤ 1000000) (hp : p.length ≤ 1000000) (H : Heap) : CallQ prog f_strings_CutPrefix [.string (mkS s), .string (mkS p)] H fun u H' => u = .tuple #[.string (mkS (cutP s p)), .bool (s.take p.length == p)] ∧ H' = H := by
  refine in_strings_CutPrefix fun hw => ?_
  simp only [pc_strings_CutPrefix, sxA, sxB, Nat.reduceBEq, Nat.reduceEqDiff, reduceCtorEq, mxA, mxB, Nat.reduceAdd, reduceIte, Nat.reduceLeDiff, splice]
  have h2 : CallQ prog f_internal_stringslite_CutPrefix [.string (mkS s), .string (mkS p)] H fun u H' => u = .tuple #[.string (mkS (cutP s p)), .bool (s.take p.length == p)] ∧ H' = H := by
    refine in_internal_stringslite_CutPrefix fun hw => ?_
    unfold cutP
    simp only [pc_internal_stringslite_CutPrefix, sxA, sxB, Nat.reduceBEq, Nat.reduceEqDiff, reduceCtorEq, mxA, mxB, Nat.reduceAdd, reduceIte, Nat.reduceLeDiff, splice]
    refine (q_slHasPrefix s p hl hp H).thenW ?_
    rintro _ H1 _ hw1 ⟨rfl, rfl⟩
    cases hb : s.take p.length == p with
    | true =>
      have hle : p.length ≤ s.length := by
        have := congrArg List.length (beq_iff_eq.1 hb)
        rw [List.length_take] at this
        omega
      simp only [sxA, sxB, Nat.reduceBEq, Nat.reduceEqDiff, reduceCtorEq, mxA, mxB, Nat.reduceAdd, reduceIte, Nat.reduceLeDiff, splice, Zdk, bl_mkS]
      rw [gen_slTlo (s := mkS s) (l := p.length) (ik := .i64) (by kernel_rfl) (by simp only [uxA, uxB, Nat.reduceBEq]) (by simp only [uxA, uxB, Nat.reduceBEq]) (by rw [bl_mkS]; exact hle)]
      simp only [sxA, sxB, Nat.reduceBEq, Nat.reduceEqDiff, reduceCtorEq, mxA, mxB, Nat.reduceAdd, reduceIte, Nat.reduceLeDiff, splice, bl_mkS, ret_internal_stringslite_CutPrefix]
      exact .mk (Nat.le_refl _) ⟨rfl, rfl⟩
    | false =>
      simp only [sxA, sxB, Nat.reduceBEq, Nat.reduceEqDiff, reduceCtorEq, mxA, mxB, Nat.reduceAdd, reduceIte, Nat.reduceLeDiff, splice, ret_internal_stringslite_CutPrefix]
      exact .mk (Nat.le_refl _) ⟨rfl, rfl⟩
  refine h2.thenW ?_
  rintro _ H1 _ hw1 ⟨rfl, rfl⟩
  simp only [sxA, sxB, Nat.reduceBEq, Nat.reduceEqDiff, reduceCtorEq, mxA, mxB, Nat.reduceAdd, reduceIte, Nat.reduceLeDiff, splice, ret_strings_CutPrefix]
  exact .mk (Nat.le_refl _) ⟨rfl, rfl⟩
theorem q_slIndexByte (s : List UInt8) (c : UInt8) (H : Heap) : CallQ prog f_internal_stringslite_IndexByte [.string (mkS s), .int .u8 (c.toNat : Int)] H fun u H' => u = .int .i64 (Lib.indexByte s c) ∧ H' = H := by
  refine in_internal_stringslite_IndexByte fun hw => ?_
  simp only [pc_internal_stringslite_IndexByte, sxA, sxB, Nat.reduceBEq, Nat.reduceEqDiff, reduceCtorEq, mxA, mxB, Nat.reduceAdd, reduceIte, Nat.reduceLeDiff, splice]
  refine callQ_ext ext_indexByte (v := .int .i64 (Lib.indexByte s c)) (by simp [Xk.val]) ?_
  simp only [sxA, sxB, Nat.reduceBEq, Nat.reduceEqDiff, reduceCtorEq, mxA, mxB, Nat.reduceAdd, reduceIte, Nat.reduceLeDiff, splice, ret_internal_stringslite_IndexByte]
  exact .mk (Nat.le_refl _) ⟨rfl, rfl⟩
theorem q_Index1 (s : List UInt8) (c : UInt8) (H : Heap) : CallQ prog f_strings_Index [.string (mkS s), .string (mkS [c])] H fun u H' => u = .int .i64 (Lib.indexByte s c) ∧ H' = H := by
  refine in_strings_Index fun hw => ?_
  simp only [pc_strings_Index, sxA, sxB, Nat.reduceBEq, Nat.reduceEqDiff, reduceCtorEq, mxA, mxB, Nat.reduceAdd, reduceIte, Nat.reduceLeDiff, splice]
  have h2 : CallQ prog f_internal_stringslite_Index [.string (mkS s), .string (mkS [c])] H fun u H' => u = .int .i64 (Lib.indexByte s c) ∧ H' = H := by
    refine in_internal_stringslite_Index fun hw => ?_
    have e1 : (((1 : Nat) : Int) == 0) = false := rfl
    have e2 : (((1 : Nat) : Int) == 1) = true := rfl
    have e3 : (([c] : List UInt8) == ([] : List UInt8)) = false := rfl
    have t0 : (0 : Int) ≤ 0 := by decide
    have u0 : (0 : Int).toNat = 0 := rfl
    simp only [pc_internal_stringslite_Index, pc_internal_stringslite_Index_12, sxA, sxB, Nat.reduceBEq, Nat.reduceEqDiff, reduceCtorEq, mxA, mxB, Nat.reduceAdd, reduceIte, Nat.reduceLeDiff, splice, Zdk, bl_mkS, Zbw, e1, e2, e3, t0, u0]
    cases hs : ([c] : List UInt8) == s with
    | true =>
      have hs2 : s = [c] := (beq_iff_eq.1 hs).symm
      subst hs2
      have hz : Lib.indexByte [c] c = 0 := by simp [Lib.indexByte]
      simp only [sxA, sxB, Nat.reduceBEq, Nat.reduceEqDiff, reduceCtorEq, mxA, mxB, Nat.reduceAdd, reduceIte, Nat.reduceLeDiff, splice, ret_internal_stringslite_Index]
      exact .mk (Nat.le_refl _) ⟨by rw [hz], rfl⟩
    | false =>
      simp only [sxA, sxB, Nat.reduceBEq, Nat.reduceEqDiff, reduceCtorEq, mxA, mxB, Nat.reduceAdd, reduceIte, Nat.reduceLeDiff, splice, Zdk, bl_mkS, Zbw, e2, t0, u0]
      refine (q_slIndexByte s c H).thenW ?_
      rintro _ H1 _ hw1 ⟨rfl, rfl⟩
      simp only [sxA, sxB, Nat.reduceBEq, Nat.reduceEqDiff, reduceCtorEq, mxA, mxB, Nat.reduceAdd, reduceIte, Nat.reduceLeDiff, splice, ret_internal_stringslite_Index]
      exact .mk (Nat.le_refl _) ⟨rfl, rfl⟩
  refine h2.thenW ?_
  rintro _ H1 _ hw1 ⟨rfl, rfl⟩
  simp only [sxA, sxB, Nat.reduceBEq, Nat.reduceEqDiff, reduceCtorEq, mxA, mxB, Nat.reduceAdd, reduceIte, Nat.reduceLeDiff, splice, ret_strings_Index]
  exact .mk (Nat.le_refl _) ⟨rfl, rfl⟩
theorem q_Count1 (s : List UInt8) (c : UInt8) (H : Heap) : CallQ prog f_strings_Count [.string (mkS s), .string (mkS [c])] H fun u H' => u = .int .i64 ((s.count c : Nat) : Int) ∧ H' = H := by
  refine in_strings_Count fun hw => ?_
  have e1 : (((1 : Nat) : Int) == 0) = false := rfl
  have e2 : (((1 : Nat) : Int) == 1) = true := rfl
  have t0 : (0 : Int) ≤ 0 := by decide
  have u0 : (0 : Int).toNat = 0 := rfl
  simp only [pc_strings_Count, pc_strings_Count_4, sxA, sxB, Nat.reduceBEq, Nat.reduceEqDiff, reduceCtorEq, mxA, mxB, Nat.reduceAdd, reduceIte, Nat.reduceLeDiff, splice, Zdk, bl_mkS, Zbw, e1, e2, t0, u0]
  refine callQ_ext ext_count (args := [.string (mkS s), .int .u8 (c.toNat : Int)]) (v := .int .i64 ((s.count c : Nat) : Int)) (by simp [Xk.val, Lib.countByte]) ?_
  simp only [sxA, sxB, Nat.reduceBEq, Nat.reduceEqDiff, reduceCtorEq, mxA, mxB, Nat.reduceAdd, reduceIte, Nat.reduceLeDiff, splice, ret_strings_Count]
  exact .mk (Nat.le_refl _) ⟨rfl, rfl⟩
def wordsF : List UInt8 → List (List UInt8)
  | [] => [[]]
  | c :: l => if c = 32 then [] :: wordsF l else match wordsF l with
    | w :: ws => (c :: w) :: ws
    | [] => [[c]]
theorem wordsF_ne : ∀ l, wordsF l ≠ []
  | [] => by simp [wordsF]
  | c :: l => by
    unfold wordsF
    split
    · simp
    · split <;> simp
theorem wordsF_none : ∀ l : List UInt8, (∀ c ∈ l, c ≠ 32) → wordsF l = [l]
  | [], _ => rfl
  | c :: l, h => by
    rw [wordsF, if_neg (h c (by simp)), wordsF_none l fun d hd => h d (by simp [hd])]
theorem wordsF_cut : ∀ a b : List UInt8, (∀ c ∈ a, c ≠ 32) → wordsF (a ++ 32 :: b) = a :: wordsF b
  | [], b, _ => by simp [wordsF]
  | c :: a, b, h => by
    rw [List.cons_append, wordsF, if_neg (h c (by simp)), wordsF_cut a b fun d hd => h d (by simp [hd])]
theorem wordsF_len (l : List UInt8) : (wordsF l).length = l.count 32 + 1 := by
  induction l with
  | nil => rfl
  | cons c l ih =>
    unfold wordsF
    by_cases h : c = 32
    · subst h; rw [if_pos rfl, List.length_cons, ih, List.count_cons_self]
    · rw [if_neg h, List.count_cons_of_ne h]
      cases hw : wordsF l with
      | nil => exact absurd hw (wordsF_ne l)
      | cons w ws => rw [hw] at ih; simpa using ih
theorem index_no {s : List UInt8} {c : UInt8} (h : Lib.indexByte s c < 0) : ∀ d ∈ s, d ≠ c := by
  have h1 : Lib.indexByte s c = -1 := by have := Lib.indexByte_ge s c; omega
  intro d hd hdc
  obtain ⟨k, hk⟩ := List.mem_iff_getElem?.1 hd
  exact Lib.indexByte_none h1 k (by rw [hk, hdc])
theorem index_at {s : List UInt8} {c : UInt8} {o : Nat} (h : Lib.indexByte s c = o) : o < s.length ∧ s = s.take o ++ c :: s.drop (o + 1) ∧ ∀ d ∈ s.take o, d ≠ c := by
  obtain ⟨h1, h2⟩ := Lib.indexByte_some h
  have ho : o < s.length := (List.getElem?_eq_some_iff.1 h1).1
  refine ⟨ho, ?_, fun d hd hdc => ?_⟩
  · have : s.drop o = c :: s.drop (o + 1) := by
      rw [List.drop_eq_getElem_cons ho]
      congr 1
      rw [List.getElem?_eq_getElem ho] at h1
      exact Option.some.inj h1
    rw [← this, List.take_append_drop]
  · obtain ⟨k, hk⟩ := List.mem_iff_getElem?.1 hd
    rw [List.getElem?_take] at hk
    split at hk
    · rename_i hko; exact h2 k hko (by rw [hk, hdc])
    · cases hk
noncomputable def strs (l : List (List UInt8)) : List Value := l.map fun w => .string (mkS w)
theorem strs_len (l : List (List UInt8)) : (strs l).length = l.length := by simp [strs]
theorem strs_get {l : List (List UInt8)} {i : Nat} {w : List UInt8} (h : l[i]? = some w) : (strs l)[i]? = some (.string (mkS w)) := by simp [strs, h]
def NewSl (H0 H : Heap) (v : Value) (n : Nat) (cs : List Value) : Prop := ∃ b cap e, v = .slice (some ⟨b, 0, none⟩) n cap ∧ H0.next ≤ b ∧ H.get b = some (.cells cs e false)
theorem q_Split (s : List UInt8) (hl : s.length ≤ 1000000) (H : Heap) : CallQ prog f_strings_Split [.string (mkS s), .string (mkS [32])] H fun u H' => NewSl H H' u (wordsF s).length (strs (wordsF s)) ∧ Ext H H' := by
  refine in_strings_Split fun hw => ?_
  simp only [pc_strings_Split, sxA, sxB, Nat.reduceBEq, Nat.reduceEqDiff, reduceCtorEq, mxA, mxB, Nat.reduceAdd, reduceIte, Nat.reduceLeDiff, splice]
  have hG : CallQ prog f_strings_genSplit [.string (mkS s), .string (mkS [32]), .int .i64 0, .int .i64 (-1)] H fun u H' => NewSl H H' u (wordsF s).length (strs (wordsF s)) ∧ Ext H H' := by
    refine in_strings_genSplit fun hw => ?_
    have hwl := wordsF_len s
    have hcl : s.count 32 ≤ s.length := List.count_le_length
    have e1 : ((-1 : Int) == 0) = false := rfl
    have e2 : (([32] : List UInt8) == ([] : List UInt8)) = false := rfl
    have e3 : decide ((-1 : Int) < 0) = true := rfl
    simp only [pc_strings_genSplit, pc_strings_genSplit_6, pc_strings_genSplit_5, sxA, sxB, Nat.reduceBEq, Nat.reduceEqDiff, reduceCtorEq, mxA, mxB, Nat.reduceAdd, reduceIte, Nat.reduceLeDiff, splice, bl_mkS, e1, e2, e3]
    refine (q_Count1 s 32 H).thenW ?_
    rintro _ H1 _ hw1 ⟨rfl, rfl⟩
    have w1 : IntKind.i64.wrap (((s.count 32 : Nat) : Int) + 1) = ((s.count 32 + 1 : Nat) : Int) := by rw [w64 (by unfold I64; omega)]; rfl
    have w2 : IntKind.i64.wrap ((s.length : Int) + 1) = ((s.length + 1 : Nat) : Int) := by rw [w64 (by unfold I64; omega)]; rfl
    have w3 : (if ((s.length + 1 : Nat) : Int) < ((s.count 32 + 1 : Nat) : Int) then ((s.length + 1 : Nat) : Int) else ((s.count 32 + 1 : Nat) : Int)) = ((s.count 32 + 1 : Nat) : Int) := if_neg (by omega)
    simp only [pc_strings_genSplit_4, sxA, sxB, Nat.reduceBEq, Nat.reduceEqDiff, reduceCtorEq, mxA, mxB, Nat.reduceAdd, reduceIte, Nat.reduceLeDiff, splice, Zdk, bl_mkS, w1, w2]
    rw [gen_min (ik := .i64) (a := ((s.count 32 + 1 : Nat) : Int)) (b := ((s.length + 1 : Nat) : Int)) (by simp only [uxA, uxB, Nat.reduceBEq]) (by simp only [uxA, uxB, Nat.reduceBEq])]
    rw [w3]
    rw [← hwl]
    generalize hN : (wordsF s).length = N at *
    have hN1 : 1 ≤ N := by omega
    have w4 : IntKind.i64.wrap ((N : Int) - 1) = ((N - 1 : Nat) : Int) := by rw [w64 (by unfold I64; omega)]; omega
    have c1 : (0 : Int) ≤ (N : Int) ∧ (N : Int) ≤ (N : Int) ∧ (16 : Int) * (N : Int) ≤ 281474976710656 ∧ (N : Int) ≤ 9223372036854775807 := by omega
    simp only [sxA, sxB, Nat.reduceBEq, Nat.reduceEqDiff, reduceCtorEq, mxA, mxB, Nat.reduceAdd, reduceIte, Nat.reduceLeDiff, splice, Int.toNat_natCast, w4]
    refine ⟨c1, ?_⟩
    generalize hE : H1.push _ = H2
    obtain ⟨e, z, hz, h2⟩ : ∃ e z, z.length = N ∧ H2 = H1.push (.cells z e false) := ⟨_, _, by simp [zeros], hE.symm⟩
    clear hE
    have hx2 : Ext H1 H2 := by rw [h2]; exact (Ext.refl H1).push _
    have hg2 : H2.get H1.next = some (.cells z e false) := by rw [h2, Heap.get_push, if_pos rfl]
    have hw2 : H2.Wf := by rw [h2]; exact hw1.push _
    clear h2
    have hn2 := hx2.next
    have hlt : H1.next < H2.next := hw2.lt hg2
    refine loop_intro (fun m A' H' => ∃ (i : Nat) (s' : List UInt8) (c : List Value), N = m + i ∧ 1 ≤ m ∧ H'.Wf ∧ H'.next = H2.next ∧ Ext H1 H' ∧ H'.get H1.next = some (.cells c e false) ∧ c.length = N ∧ c.take i = strs ((wordsF s).take i) ∧ (wordsF s).drop i = wordsF s' ∧ s'.length ≤ s.length ∧ A' 0 = .string (mkS s') ∧ A' 1 = .string (mkS [32]) ∧ A' 2 = .int .i64 0 ∧ A' 3 = .int .i64 ((N - 1 : Nat) : Int) ∧ A' 9 = .slice (some ⟨H1.next, 0, none⟩) N N ∧ A' 10 = .int .i64 i) N ?_ ?_
    · refine ⟨0, s, z, rfl, hN1, hw2, rfl, hx2, hg2, hz, by simp [strs], by simp, Nat.le_refl _, ?_, ?_, ?_, ?_, ?_, ?_⟩
      all_goals simp only [uxA, uxB, Nat.reduceBEq]
      all_goals rfl
    · rintro m A' H3 ⟨i, s', c, hmi, hm1, hw3, hn3, hx3, hg3, hc, hct, hcd, hsl, r0, r1, r2, r3, r9, r10⟩
      have hws : (wordsF s').length = m := by
        have := congrArg List.length hcd
        rw [List.length_drop, hN] at this
        omega
      have fin : ∀ (ks : Kp) (k : Env → Heap → Prop) (A2 : Env), A2 0 = .string (mkS s') → A2 9 = .slice (some ⟨H1.next, 0, none⟩) N N → A2 10 = .int .i64 i → m = 1 → ks.ret = (Rt prog F_strings_genSplit H1 fun u H' => NewSl H1 H' u N (strs (wordsF s)) ∧ Ext H1 H') →
          pexec prog (.seq (.ops [Om 58 (t 9), Om 59 (t 10), Om 60 (t 0), Ow 61 (.idxS 1 (t 58) (t 59)), Ov (.st 1 (t 61) (t 60))]) (.seq (.ops [Om 62 (t 9), Om 63 (t 10), Ow 64 (.bin .add (t 63) (Ci 1)), Ow 65 (.slS 1 (t 62) none (some (t 64))), Om 8 (t 65)]) .ret)) ks k A2 H3 := fun ks k A2 q0 q9 q10 hm hks => by
        have hnone : ∀ d ∈ s', d ≠ 32 := by
          have hcnt : s'.count 32 = 0 := by have := wordsF_len s'; omega
          intro d hd hd2
          exact absurd hcnt (Nat.pos_iff_ne_zero.1 (List.count_pos_iff.2 (by rw [← hd2]; exact hd)))
        have hlast : (wordsF s).drop i = [s'] := by rw [hcd]; exact wordsF_none s' hnone
        have c2 : (0 : Int) ≤ (i : Int) ∧ (i : Int) < (N : Int) := by omega
        have c3 : (i : Int).toNat = i := Int.toNat_natCast _
        have c4 : i + 1 ≤ c.length := by omega
        have ei : IntKind.i64.wrap ((i : Int) + 1) = ((i + 1 : Nat) : Int) := by rw [w64 (by unfold I64; omega)]; rfl
        have hs2 : asliceS 1 (.slice (some ⟨H1.next, 0, none⟩) N N) none (some ((i + 1 : Nat) : Int)) none = some (.slice (some ⟨H1.next, 0, none⟩) N N) := by
          unfold asliceS
          simp only [Option.getD_none, Option.getD_some]
          rw [if_neg (by unfold UNK; omega), if_pos (by omega)]
          have : (0 : Nat) ≠ N := by omega
          simp [Ne.symm this]
          omega
        simp only [sxA, sxB, Nat.reduceBEq, Nat.reduceEqDiff, reduceCtorEq, mxA, mxB, Nat.reduceAdd, reduceIte, Nat.reduceLeDiff, syA, q0, q9, q10, c2, c3, hg3, c4, ei, hs2, hks, ret_strings_genSplit]
        refine .mk (by rw [Heap.next_set]; omega) ⟨⟨H1.next, N, e, rfl, Nat.le_refl _, ?_⟩, hx3.set (Nat.le_refl _) _⟩
        rw [Heap.get_set, if_pos rfl]
        congr 2
        have hsp : (splice c i [.string (mkS s')]).take i ++ (splice c i [.string (mkS s')]).drop i = strs (wordsF s) := by
          rw [splice_drop (l := []) (by omega) (List.drop_eq_nil_of_le (by omega))]
          have h1 : (splice c i [.string (mkS s')]).take i = c.take i := by
            unfold splice
            rw [List.take_append_of_le_length (by rw [List.length_take]; omega), List.take_take, Nat.min_self]
          rw [h1, hct]
          have h2 : strs (wordsF s) = strs ((wordsF s).take i ++ (wordsF s).drop i) := by rw [List.take_append_drop]
          rw [h2, hlast]
          simp [strs]
        rw [← hsp, List.take_append_drop]
      by_cases hi : i < N - 1
      · have e4 : decide ((i : Int) < ((N - 1 : Nat) : Int)) = true := decide_eq_true (by omega)
        simp only [pc_strings_genSplit_3, pc_strings_genSplit_2, sxA, sxB, Nat.reduceBEq, Nat.reduceEqDiff, reduceCtorEq, mxA, mxB, Nat.reduceAdd, reduceIte, Nat.reduceLeDiff, splice, r0, r1, r2, r3, r9, r10, e4]
        refine (q_Index1 s' 32 H3).thenW ?_
        rintro _ H4 _ hw4 ⟨rfl, rfl⟩
        have hge := Lib.indexByte_ge s' 32
        by_cases hneg : Lib.indexByte s' 32 < 0
        · exfalso
          have hnone := index_no hneg
          rw [wordsF_none s' hnone] at hws
          simp at hws
          omega
        · obtain ⟨o, ho⟩ : ∃ o : Nat, Lib.indexByte s' 32 = o := ⟨(Lib.indexByte s' 32).toNat, by omega⟩
          obtain ⟨ho1, ho2, ho3⟩ := index_at ho
          have e5 : decide ((o : Int) < 0) = false := decide_eq_false (by omega)
          have w5 : IntKind.i64.wrap ((o : Int) + 0) = (o : Int) := w64 (by unfold I64; omega)
          have w6 : IntKind.i64.wrap ((o : Int) + ((1 : Nat) : Int)) = ((o + 1 : Nat) : Int) := by rw [w64 (by unfold I64; omega)]; rfl
          have ei : IntKind.i64.wrap ((i : Int) + 1) = ((i + 1 : Nat) : Int) := by rw [w64 (by unfold I64; omega)]; rfl
          have c2 : (0 : Int) ≤ (i : Int) ∧ (i : Int) < (N : Int) := by omega
          have c3 : (i : Int).toNat = i := Int.toNat_natCast _
          have c4 : i + 1 ≤ c.length := by omega
          rw [ho]
          simp only [pc_strings_genSplit_1, sxA, sxB, Nat.reduceBEq, Nat.reduceEqDiff, reduceCtorEq, mxA, mxB, Nat.reduceAdd, reduceIte, Nat.reduceLeDiff, splice, r0, r1, r2, r3, r9, r10, e5, w5]
          rw [gen_slThi (s := mkS s') (h := o) (ik := .i64) (by kernel_rfl) (by simp only [uxA, uxB, Nat.reduceBEq, r0]) (by simp only [uxA, uxB, Nat.reduceBEq]) (by rw [bl_mkS]; omega)]
          simp only [sxA, sxB, Nat.reduceBEq, Nat.reduceEqDiff, reduceCtorEq, mxA, mxB, Nat.reduceAdd, reduceIte, Nat.reduceLeDiff, syA, Zdk, r0, r1, r2, r9, r10, c2, c3, hg3, c4, w6]
          rw [gen_slTlo (s := mkS s') (l := o + 1) (ik := .i64) (by kernel_rfl) (by simp only [uxA, uxB, Nat.reduceBEq, r0]) (by simp only [uxA, uxB, Nat.reduceBEq]) (by rw [bl_mkS]; omega)]
          simp only [sxA, sxB, Nat.reduceBEq, Nat.reduceEqDiff, reduceCtorEq, mxA, mxB, Nat.reduceAdd, reduceIte, Nat.reduceLeDiff, splice, syA, r10, ei]
          have hwd : wordsF s' = s'.take o :: wordsF (s'.drop (o + 1)) := by
            have := wordsF_cut (s'.take o) (s'.drop (o + 1)) ho3
            rw [← ho2] at this
            exact this
          have hwi : (wordsF s)[i]? = some (s'.take o) := by
            have h5 : ((wordsF s).drop i)[0]? = some (s'.take o) := by rw [hcd, hwd]; rfl
            rwa [List.getElem?_drop] at h5
          refine ⟨m - 1, by omega, i + 1, s'.drop (o + 1), splice c i [.string (mkS (s'.take o))], by omega, by omega, hw4.set hg3 _, by rw [Heap.next_set]; exact hn3, hx3.set (Nat.le_refl _) _, (by rw [Heap.get_set, if_pos rfl]; rfl), by rw [splice_length (by simp; omega)]; exact hc, ?_, ?_, by rw [List.length_drop]; omega, ?_, ?_, ?_, ?_, ?_, ?_⟩
          · have h1 : (splice c i [.string (mkS (s'.take o))]).take (i + 1) = c.take i ++ [.string (mkS (s'.take o))] := by
              unfold splice
              rw [List.take_append, List.length_take, Nat.min_eq_left (by omega), show i + 1 - i = 1 by omega, List.take_take, Nat.min_eq_right (by omega)]; rfl
            rw [h1, hct, List.take_add_one, hwi]
            simp [strs]
          · have h6 : (wordsF s).drop (i + 1) = ((wordsF s).drop i).drop 1 := by rw [List.drop_drop]
            rw [h6, hcd, hwd]; rfl
          all_goals simp only [uxA, uxB, Nat.reduceBEq, r1, r2, r3, r9]
      · have e4 : decide ((i : Int) < ((N - 1 : Nat) : Int)) = false := decide_eq_false (by omega)
        simp only [pc_strings_genSplit_3, sxA, sxB, Nat.reduceBEq, Nat.reduceEqDiff, reduceCtorEq, mxA, mxB, Nat.reduceAdd, reduceIte, Nat.reduceLeDiff, splice, r3, r10, e4]
        have hf := fin ⟨Rt prog F_strings_genSplit H1 fun u H' => NewSl H1 H' u N (strs (wordsF s)) ∧ Ext H1 H', noEx⟩ (Rt prog F_strings_genSplit H1 fun u H' => NewSl H1 H' u N (strs (wordsF s)) ∧ Ext H1 H') (upd (upd (upd A' 34 (A' 10)) 35 (A' 3)) 36 (.bool false)) (by simp only [uxA, uxB, Nat.reduceBEq, r0]) (by simp only [uxA, uxB, Nat.reduceBEq, r9]) (by simp only [uxA, uxB, Nat.reduceBEq, r10]) (by omega) rfl
        simp only [sxA, sxB, Nat.reduceBEq, Nat.reduceEqDiff, reduceCtorEq, mxA, mxB, Nat.reduceAdd, reduceIte, Nat.reduceLeDiff, splice, r0, r3, r9, r10] at hf ⊢
        exact hf
  refine hG.thenW ?_
  rintro u H1 _ hw1 ⟨h1, hx⟩
  simp only [sxA, sxB, Nat.reduceBEq, Nat.reduceEqDiff, reduceCtorEq, mxA, mxB, Nat.reduceAdd, reduceIte, Nat.reduceLeDiff, splice, ret_strings_Split]
  exact .mk hx.next ⟨h1, hx⟩
end Go.Proofs.YthoanamkoigjeaaGreatDoor.code
/- Lists that grow; the document's words. -/
set_option linter.unusedVariables false
set_option linter.unusedSimpArgs false
set_option maxRecDepth 100000
set_option maxHeartbeats 4000000
namespace Go.Proofs.YthoanamkoigjeaaGreatDoor.code
open Go.Ab

def Gs (size : Nat) (e : TypeId) (H0 H : Heap) (v : Value) (n : Nat) (cs : List Value) : Prop := (v = .slice none 0 0 ∧ n = 0 ∧ cs = []) ∨ ∃ b, v = .slice (some ⟨b, 0, none⟩) n (UNK + size) ∧ H0.next ≤ b ∧ H.get b = some (.cells cs e false) ∧ cs.length = n * size
def inBlk (v : Value) (id : Nat) : Prop := ∃ o n c, v = .slice (some ⟨id, o, none⟩) n c
theorem Gs.ext {size : Nat} {e : TypeId} {H0 H H' : Heap} {v : Value} {n : Nat} {cs : List Value} (h : Gs size e H0 H v n cs) (hk : ∀ id, inBlk v id → H'.get id = H.get id) : Gs size e H0 H' v n cs := by
  rcases h with h | ⟨b, rfl, h2, h3, h4⟩
  · exact .inl h
  · exact .inr ⟨b, rfl, h2, by rw [hk b ⟨_, _, _, rfl⟩]; exact h3, h4⟩
theorem Gs.low {size : Nat} {e : TypeId} {H0 H : Heap} {v : Value} {n : Nat} {cs : List Value} (h : Gs size e H0 H v n cs) (hw : H.Wf) {id : Nat} (hi : inBlk v id) : H0.next ≤ id ∧ id < H.next := by
  obtain ⟨o, n', c, rfl⟩ := hi
  rcases h with ⟨h, _, _⟩ | ⟨b, h, h2, h3, h4⟩
  · cases h
  · cases h; exact ⟨h2, hw.lt h3⟩
theorem gs_app {size : Nat} {e bytes : Nat} {H0 H : Heap} {v x : Value} {n m : Nat} {cs ms : List Value} {k : Value → Heap → Prop} (hs : Gs size e H0 H v n cs) (hx : Ext H0 H) (hw : H.Wf) (hsrc : asrc size x H = some (m, ms)) (hone : ms.all (·.oneCell') = true) (hm : 1 ≤ m) (hml : ms.length = m * size) (hb : (n + m) * bytes ≤ 140737488355328) (hn : n + m ≤ 9223372036854775807)
    (h : ∀ v' H', Gs size e H0 H' v' (n + m) (cs ++ ms) → Ext H0 H' → H'.Wf → (∀ id, id < H.next → ¬ inBlk v id → H'.get id = H.get id) → H'.next = H.next + 1 → (∀ id, inBlk v' id → id = H.next) → k v' H') : appK e size bytes v x H k := by
  have hnn := hx.next
  rcases hs with ⟨rfl, rfl, rfl⟩ | ⟨b, rfl, h2, h3, h4⟩
  · refine appK_nil hsrc hone (by omega) (by rw [Nat.zero_add] at hb; exact hb) (by omega) (h _ _ (.inr ⟨H.next, by rw [Nat.zero_add], hnn, by rw [Heap.get_push, if_pos rfl, List.nil_append], by rw [List.nil_append, Nat.zero_add]; exact hml⟩) (hx.push _) (hw.push _) (fun id hid _ => by rw [Heap.get_push, if_neg (by omega)]) (by rw [Heap.next_push]) ?_)
    rintro id ⟨o, n', c, he⟩
    cases he; rfl
  · have hbl := hw.lt h3
    refine appK_own rfl hsrc hone (by omega) h3 (by rw [Nat.zero_add]; omega) hb hn (by omega) (h _ _ (.inr ⟨H.next, rfl, hnn, ?_, by rw [List.length_append, h4, hml, Nat.add_mul]⟩) ?_ ?_ ?_ (by rw [Heap.next_push, Heap.next_kill]) ?_)
    · rw [Heap.get_push, Heap.next_kill, if_pos rfl, List.drop_zero]
    · refine ⟨by rw [Heap.next_push, Heap.next_kill]; omega, fun id hid => ?_⟩
      rw [Heap.get_push, Heap.next_kill, if_neg (by omega), Heap.get_kill, if_neg (by omega)]
      exact hx.get id hid
    · exact (hw.kill b).push _
    · intro id hid hnb
      have hne : ¬ id = b := fun h => hnb ⟨_, _, _, by rw [h]⟩
      rw [Heap.get_push, Heap.next_kill, if_neg (by omega), Heap.get_kill, if_neg hne]
    · rintro id ⟨o, n', c, he⟩
      cases he; rfl
theorem asrc_new {size m b : Nat} {cap : Nat} {c : List Value} {e : TypeId} {ro : Bool} {H : Heap} (hb : H.get b = some (.cells c e ro)) (hm : m ≠ 0) (hc : c.length = m * size) : asrc size (.slice (some ⟨b, 0, none⟩) m cap) H = some (m, c) := by
  rw [asrc_sl hb hm (by omega), List.drop_zero, List.take_of_length_le (by omega)]
theorem u8eq32 (a : UInt8) : ((a.toNat : Int) == 32) = (a == 32) := by
  rw [Bool.eq_iff_iff, beq_iff_eq, beq_iff_eq]
  constructor
  · intro h
    have h : a.toNat = 32 := by omega
    exact UInt8.toNat_inj.1 h
  · intro h; rw [h]; rfl
theorem q_ref31_words (s : List UInt8) (hl : s.length ≤ 1000000) (H : Heap) : CallQ prog f_linotyperef31_words [.string (mkS s)] H fun u H' => Gs 1 9 H H' u (wordsF s).length (strs (wordsF s)) ∧ Ext H H' := by
  refine in_linotyperef31_words fun hw => ?_
  simp only [pc_linotyperef31_words, sxA, sxB, Nat.reduceBEq, Nat.reduceEqDiff, reduceCtorEq, mxA, mxB, Nat.reduceAdd, reduceIte, Nat.reduceLeDiff, splice]
  refine loop_intro (fun m A' H' => ∃ (i f : Nat) (W : List (List UInt8)) (v : Value), m + i = s.length + 2 ∧ 1 ≤ m ∧ H'.Wf ∧ Ext H H' ∧ Gs 1 9 H H' v W.length (strs W) ∧ W.length ≤ i ∧ ((i = s.length + 1 ∧ W = wordsF s) ∨ (i ≤ s.length ∧ f ≤ i ∧ wordsF s = W ++ wordsF (s.drop f) ∧ ∀ c ∈ (s.drop f).take (i - f), c ≠ 32)) ∧ A' 0 = .string (mkS s) ∧ A' 3 = v ∧ A' 4 = .int .i64 f ∧ A' 5 = .int .i64 i) (s.length + 2) ?_ ?_
  · refine ⟨0, 0, [], .slice none 0 0, rfl, by omega, hw, .refl _, .inl ⟨rfl, rfl, rfl⟩, Nat.le_refl _, .inr ⟨Nat.zero_le _, Nat.le_refl _, by simp, by simp⟩, ?_, ?_, ?_, ?_⟩
    all_goals simp only [uxA, uxB, Nat.reduceBEq]
    all_goals rfl
  · rintro m A' H1 ⟨i, f, W, v, hmi, hm1, hw1, hx1, hgs, hWi, hcase, r0, r3, r4, r5⟩
    rcases hcase with ⟨rfl, hW⟩ | ⟨hil, hfi, hWs, hno⟩
    · have e1 : decide (((s.length + 1 : Nat) : Int) ≤ (s.length : Int)) = false := decide_eq_false (by omega)
      simp only [pc_linotyperef31_words_3, sxA, sxB, Nat.reduceBEq, Nat.reduceEqDiff, reduceCtorEq, mxA, mxB, Nat.reduceAdd, reduceIte, Nat.reduceLeDiff, splice, Zdk, bl_mkS, r0, r3, r4, r5, e1, ret_linotyperef31_words]
      exact .mk hx1.next ⟨by rw [← hW]; exact hgs, hx1⟩
    · have e1 : decide ((i : Int) ≤ (s.length : Int)) = true := decide_eq_true (by omega)
      have ei : IntKind.i64.wrap ((i : Int) + 1) = ((i + 1 : Nat) : Int) := by rw [w64 (by unfold I64; omega)]; rfl
      have put : ∀ (ks : Kp) (k : Env → Heap → Prop) (A2 : Env), A2 0 = .string (mkS s) → A2 3 = v → A2 4 = .int .i64 f → A2 5 = .int .i64 i → (∀ (A3 : Env) (H' : Heap) (v' : Value), H'.Wf → Ext H H' → Gs 1 9 H H' v' (W ++ [(s.drop f).take (i - f)]).length (strs (W ++ [(s.drop f).take (i - f)])) → A3 0 = .string (mkS s) → A3 3 = v' → A3 4 = .int .i64 ((i + 1 : Nat) : Int) → A3 5 = .int .i64 i → k A3 H') → pexec prog pc_linotyperef31_words_1 ks k A2 H1 := fun ks k A2 q0 q3 q4 q5 hk => by
        simp only [pc_linotyperef31_words_1, sxA, sxB, Nat.reduceBEq, Nat.reduceEqDiff, reduceCtorEq, mxA, mxB, Nat.reduceAdd, reduceIte, Nat.reduceLeDiff, splice, q0, q3, q4, q5]
        rw [gen_slT (s := mkS s) (l := f) (h := i) (ik := .i64) (ik' := .i64) (by kernel_rfl) (by simp only [uxA, uxB, Nat.reduceBEq, q0]) (by simp only [uxA, uxB, Nat.reduceBEq, q4]) (by simp only [uxA, uxB, Nat.reduceBEq]) hfi (by rw [bl_mkS]; exact hil)]
        simp only [sxA, sxB, Nat.reduceBEq, Nat.reduceEqDiff, reduceCtorEq, mxA, mxB, Nat.reduceAdd, reduceIte, Nat.reduceLeDiff, splice, syA]
        refine gs_app (H := H1.push (.cells [.string (mkS ((s.drop f).take (i - f)))] 9 false)) (hgs.ext fun id hid => ?_) (hx1.push _) (hw1.push _) (asrc_one (by rw [Heap.get_push, if_pos rfl])) rfl (by decide) rfl (by omega) (by omega) ?_
        · have := hgs.low hw1 hid
          rw [Heap.get_push, if_neg (by omega)]
        · intro v' H' hgs' hx' hw' _ _ _
          simp only [sxA, sxB, Nat.reduceBEq, Nat.reduceEqDiff, reduceCtorEq, mxA, mxB, Nat.reduceAdd, reduceIte, Nat.reduceLeDiff, splice, q5, ei]
          refine hk _ H' v' hw' hx' (by rw [List.length_append]; have hst : strs (W ++ [(s.drop f).take (i - f)]) = strs W ++ [.string (mkS ((s.drop f).take (i - f)))] := by simp [strs]
                                        rw [hst]; exact hgs') ?_ ?_ ?_ ?_
          all_goals simp only [uxA, uxB, Nat.reduceBEq, q0, q5]
      by_cases hlast : i = s.length
      · have e2 : ((i : Int) == (s.length : Int)) = true := beq_iff_eq.2 (by omega)
        have hnone : wordsF (s.drop f) = [(s.drop f).take (i - f)] := by
          have h1 : (s.drop f).take (i - f) = s.drop f := List.take_of_length_le (by rw [List.length_drop]; omega)
          rw [h1] at hno ⊢
          exact wordsF_none _ hno
        simp only [pc_linotyperef31_words_3, pc_linotyperef31_words_2, sxA, sxB, Nat.reduceBEq, Nat.reduceEqDiff, reduceCtorEq, mxA, mxB, Nat.reduceAdd, reduceIte, Nat.reduceLeDiff, splice, Zdk, bl_mkS, r0, r3, r4, r5, e1, e2]
        refine put _ _ _ ?_ ?_ ?_ ?_ ?_
        · simp only [uxA, uxB, Nat.reduceBEq, r0]
        · simp only [uxA, uxB, Nat.reduceBEq, r3]
        · simp only [uxA, uxB, Nat.reduceBEq, r4]
        · simp only [uxA, uxB, Nat.reduceBEq, r5]
        · intro A3 H' v' hw' hx' hgs' p0 p3 p4 p5
          simp only [sxA, sxB, Nat.reduceBEq, Nat.reduceEqDiff, reduceCtorEq, mxA, mxB, Nat.reduceAdd, reduceIte, Nat.reduceLeDiff, splice, p5, ei]
          refine ⟨m - 1, by omega, i + 1, i + 1, W ++ [(s.drop f).take (i - f)], v', by omega, by omega, hw', hx', hgs', by rw [List.length_append, List.length_singleton]; omega, .inl ⟨by omega, by rw [hWs, hnone]⟩, ?_, ?_, ?_, ?_⟩
          all_goals simp only [uxA, uxB, Nat.reduceBEq, p0, p3, p4]
      · have e2 : ((i : Int) == (s.length : Int)) = false := beq_eq_false_iff_ne.2 (by omega)
        have hi : i < s.length := by omega
        have hp := List.getElem?_eq_getElem hi
        have t0 : (0 : Int) ≤ (i : Int) := Int.natCast_nonneg _
        have u0 : (i : Int).toNat = i := Int.toNat_natCast _
        have hsp : s.drop f = (s.drop f).take (i - f) ++ s[i] :: s.drop (i + 1) := by
          have h1 : (s.drop f).drop (i - f) = s[i] :: s.drop (i + 1) := by
            rw [List.drop_drop, show f + (i - f) = i by omega, List.drop_eq_getElem_cons hi]
          rw [← h1, List.take_append_drop]
        have htk : (s.drop f).take (i + 1 - f) = (s.drop f).take (i - f) ++ [s[i]] := by
          rw [show i + 1 - f = (i - f) + 1 by omega, List.take_add_one, List.getElem?_drop, show f + (i - f) = i by omega, hp]; rfl
        generalize s[i] = c at *
        have e32 : ((c.toNat : Int) == 32) = (c == 32) := u8eq32 c
        cases hc : c == 32 with
        | true =>
          have hc32 : c = 32 := beq_iff_eq.1 hc
          subst hc32
          simp only [pc_linotyperef31_words_3, pc_linotyperef31_words_2, sxA, sxB, Nat.reduceBEq, Nat.reduceEqDiff, reduceCtorEq, mxA, mxB, Nat.reduceAdd, reduceIte, Nat.reduceLeDiff, splice, Zdk, Zbw, bl_mkS, r0, r3, r4, r5, e1, e2, t0, u0, hp, e32, hc]
          refine put _ _ _ ?_ ?_ ?_ ?_ ?_
          · simp only [uxA, uxB, Nat.reduceBEq, r0]
          · simp only [uxA, uxB, Nat.reduceBEq, r3]
          · simp only [uxA, uxB, Nat.reduceBEq, r4]
          · simp only [uxA, uxB, Nat.reduceBEq, r5]
          · intro A3 H' v' hw' hx' hgs' p0 p3 p4 p5
            simp only [sxA, sxB, Nat.reduceBEq, Nat.reduceEqDiff, reduceCtorEq, mxA, mxB, Nat.reduceAdd, reduceIte, Nat.reduceLeDiff, splice, p5, ei]
            refine ⟨m - 1, by omega, i + 1, i + 1, W ++ [(s.drop f).take (i - f)], v', by omega, by omega, hw', hx', hgs', by rw [List.length_append, List.length_singleton]; omega, .inr ⟨by omega, Nat.le_refl _, ?_, by simp⟩, ?_, ?_, ?_, ?_⟩
            · have hcut : wordsF (s.drop f) = (s.drop f).take (i - f) :: wordsF (s.drop (i + 1)) := by
                have h3 := wordsF_cut ((s.drop f).take (i - f)) (s.drop (i + 1)) hno
                rw [← hsp] at h3
                exact h3
              rw [hWs, hcut, List.append_assoc]; rfl
            all_goals simp only [uxA, uxB, Nat.reduceBEq, p0, p3, p4]
        | false =>
          have hc32 : c ≠ 32 := fun h => by rw [h] at hc; cases hc
          simp only [pc_linotyperef31_words_3, pc_linotyperef31_words_2, sxA, sxB, Nat.reduceBEq, Nat.reduceEqDiff, reduceCtorEq, mxA, mxB, Nat.reduceAdd, reduceIte, Nat.reduceLeDiff, splice, Zdk, Zbw, bl_mkS, r0, r3, r4, r5, e1, e2, t0, u0, hp, e32, hc, ei]
          refine ⟨m - 1, by omega, i + 1, f, W, v, by omega, by omega, hw1, hx1, hgs, by omega, .inr ⟨by omega, by omega, hWs, ?_⟩, ?_, ?_, ?_, ?_⟩
          · rw [htk]
            intro d hd
            rcases List.mem_append.1 hd with hd | hd
            · exact hno d hd
            · rw [List.mem_singleton.1 hd]; exact hc32
          all_goals simp only [uxA, uxB, Nat.reduceBEq, r0, r3, r4]
end Go.Proofs.YthoanamkoigjeaaGreatDoor.code
/- Numbers of lines: listing.number, the document's hex. -/
set_option linter.unusedVariables false
set_option linter.unusedSimpArgs false
set_option maxRecDepth 100000
set_option maxHeartbeats 4000000
namespace Go.Proofs.YthoanamkoigjeaaGreatDoor.code
open Go.Ab

theorem i64_wrap (n : Int) : I64 (IntKind.i64.wrap n) := by rw [IntKind.wrap_i64]; unfold I64; omega
theorem textF_i64 : ∀ (l : List UInt8) (p k : Nat) (acc : BitVec 64), I64 (textF l p k acc).n
  | [], p, k, acc => by unfold textF scBad I64; simp
  | c :: l, p, k, acc => by
    have h0 : ∀ e p, I64 (scBad e p).n := fun e p => by unfold scBad I64; simp
    unfold textF
    cases c == 39 with
    | true =>
      cases Nat.beq k 0 with
      | true => exact h0 _ _
      | false =>
        show I64 acc.toInt
        rw [← wrap_toInt]; exact i64_wrap _
    | false =>
      cases (Nat.blt c.toNat 32 || Nat.blt 126 c.toNat) with
      | true => exact h0 _ _
      | false =>
        cases Nat.beq k 8 with
        | true => exact h0 _ _
        | false => exact textF_i64 l _ _ _
theorem scanF_i64 (s : List UInt8) (a : Nat) : I64 (scanF s a).n := by
  have h0 : ∀ e p, I64 (scBad e p).n := fun e p => by unfold scBad I64; simp
  unfold scanF
  split
  · exact h0 _ _
  · rename_i c r _
    cases c == 39 with
    | true => exact textF_i64 _ _ _ _
    | false =>
      cases Nat.blt 9 (digF c.toNat) with
      | true => exact h0 _ _
      | false =>
        show I64 (match numF _ with | .inl (e, p) => (⟨0, 0, e, _⟩ : Sc) | .inr n => ⟨IntKind.i64.wrap n, _, 0, 0⟩).n
        split
        · unfold I64; simp
        · exact i64_wrap _
def okW (w : List UInt8) : Bool := (scanF (cutP w [45]) 0).err == 0 && (scanF (cutP w [45]) 0).e == ((cutP w [45]).length : Int)
def numW (w : List UInt8) : Int := if okW w then (if w.take 1 == [45] then IntKind.i64.wrap (-(scanF (cutP w [45]) 0).n) else (scanF (cutP w [45]) 0).n) else 0
theorem numW_i64 (w : List UInt8) : I64 (numW w) := by
  unfold numW
  split
  · split
    · exact i64_wrap _
    · exact scanF_i64 _ _
  · unfold I64; omega
theorem cutP_len (w p : List UInt8) : (cutP w p).length ≤ w.length := by
  unfold cutP
  split
  · rw [List.length_drop]; omega
  · exact Nat.le_refl _
theorem q_number (w : List UInt8) (hl : w.length ≤ 1000000) (H : Heap) : CallQ prog f_listing_number [.string (mkS w)] H fun u H' => u = .int .i64 (numW w) ∧ Ext H H' := by
  refine in_listing_number fun hw => ?_
  have hcl := cutP_len w [45]
  simp only [pc_listing_number, sxA, sxB, Nat.reduceBEq, Nat.reduceEqDiff, reduceCtorEq, mxA, mxB, Nat.reduceAdd, reduceIte, Nat.reduceLeDiff, splice]
  refine (q_CutPrefix w [45] hl (by decide) H).thenW ?_
  rintro _ H1 _ hw1 ⟨rfl, rfl⟩
  simp only [sxA, sxB, Nat.reduceBEq, Nat.reduceEqDiff, reduceCtorEq, mxA, mxB, Nat.reduceAdd, reduceIte, Nat.reduceLeDiff, splice]
  refine (q_literal_Scan (cutP w [45]) (by omega) 0 (by decide) H1).thenW ?_
  rintro _ H2 _ hw2 ⟨rfl, hx2⟩
  have hi := scanF_i64 (cutP w [45]) 0
  have hx3 : ∀ c e, Ext H1 ((H2.push (.cells c e false)).set H2.next (.cells c e false)) := fun c e => (hx2.push _).set hx2.next _
  have hnn := hx2.next
  unfold numW okW
  generalize scanF (cutP w [45]) 0 = sc at *
  obtain ⟨n, e, err, at_⟩ := sc
  simp only [Sc.val, fltV, sxA, sxB, Nat.reduceBEq, Nat.reduceEqDiff, reduceCtorEq, mxA, mxB, Nat.reduceAdd, reduceIte, Nat.reduceLeDiff, splice]
  have fin : ∀ A : Env, A 4 = .bool (w.take 1 == [45]) → A 5 = .int .i64 n → (err == 0 && e == ((cutP w [45]).length : Int)) = true → ∀ H3, Ext H1 H3 → pexec prog pc_listing_number_1 ⟨Rt prog F_listing_number H1 fun u H' => u = .int .i64 (if (err == 0 && e == ((cutP w [45]).length : Int)) = true then (if (w.take 1 == [45]) = true then IntKind.i64.wrap (-n) else n) else 0) ∧ Ext H1 H', noEx⟩ (Rt prog F_listing_number H1 fun u H' => u = .int .i64 (if (err == 0 && e == ((cutP w [45]).length : Int)) = true then (if (w.take 1 == [45]) = true then IntKind.i64.wrap (-n) else n) else 0) ∧ Ext H1 H') A H3 := fun A q4 q5 hok H3 hx3 => by
    rw [if_pos hok]
    cases hb : w.take 1 == [45] with
    | true =>
      rw [hb] at q4
      simp only [pc_listing_number_1, sxA, sxB, Nat.reduceBEq, Nat.reduceEqDiff, reduceCtorEq, mxA, mxB, Nat.reduceAdd, reduceIte, Nat.reduceLeDiff, splice, q4, q5]
      rw [gen_negI (ik := .i64) (n := n) (by simp only [uxA, uxB, Nat.reduceBEq])]
      simp only [sxA, sxB, Nat.reduceBEq, Nat.reduceEqDiff, reduceCtorEq, mxA, mxB, Nat.reduceAdd, reduceIte, Nat.reduceLeDiff, splice, ret_listing_number]
      exact .mk hx3.next ⟨rfl, hx3⟩
    | false =>
      rw [hb] at q4
      simp only [pc_listing_number_1, sxA, sxB, Nat.reduceBEq, Nat.reduceEqDiff, reduceCtorEq, mxA, mxB, Nat.reduceAdd, reduceIte, Nat.reduceLeDiff, splice, q4, q5, ret_listing_number]
      exact .mk hx3.next ⟨rfl, hx3⟩
  have hxe : ∀ c e c' e', Ext H1 ((H2.push (.cells c e false)).set H2.next (.cells c' e' false)) := fun c e c' e' => (hx2.push _).set hx2.next _
  cases he : err == 0 with
  | false =>
    rw [he, Bool.false_and] at fin
    simp only [sxA, sxB, Nat.reduceBEq, Nat.reduceEqDiff, reduceCtorEq, mxA, mxB, Nat.reduceAdd, reduceIte, Nat.reduceLeDiff, splice, he, Bool.false_and, Bool.false_eq_true, ret_listing_number]
    exact .mk (by rw [Heap.next_set, Heap.next_push]; omega) ⟨rfl, hxe _ _ _ _⟩
  | true =>
    cases hE : e == ((cutP w [45]).length : Int) with
    | false =>
      simp only [sxA, sxB, Nat.reduceBEq, Nat.reduceEqDiff, reduceCtorEq, mxA, mxB, Nat.reduceAdd, reduceIte, Nat.reduceLeDiff, splice, Zdk, bl_mkS, he, hE, Bool.and_false, Bool.false_eq_true, ret_listing_number]
      exact .mk (by rw [Heap.next_set, Heap.next_push]; omega) ⟨rfl, hxe _ _ _ _⟩
    | true =>
      have hf := fun A q4 q5 => fin A q4 q5 (by rw [he, hE]; rfl)
      rw [he, hE] at hf
      simp only [sxA, sxB, Nat.reduceBEq, Nat.reduceEqDiff, reduceCtorEq, mxA, mxB, Nat.reduceAdd, reduceIte, Nat.reduceLeDiff, splice, Zdk, bl_mkS, he, hE]
      refine hf _ ?_ ?_ _ (hxe _ _ _ _)
      all_goals simp only [uxA, uxB, Nat.reduceBEq]
theorem cutP_one (w : List UInt8) : (w.take 1 == [45]) = (match w with | c :: _ => c == 45 | [] => false) := by
  cases w with
  | nil => rfl
  | cons c r => show ([c] == [45]) = (c == 45); simp
theorem hex0 (w : List UInt8) (h : okW w = false) : (hexF (numW w) == w) = false := by
  have h0 : numW w = 0 := by unfold numW; rw [h]; rfl
  rw [h0]
  refine beq_eq_false_iff_ne.2 fun he => ?_
  have h1 : hexF 0 = [48, 120, 48] := by
    unfold hexF tellF
    rw [dgs_lt (by decide)]; rfl
  rw [h1] at he
  rw [← he] at h
  revert h
  decide
theorem q_ref31_hex (w : List UInt8) (hl : w.length ≤ 1000000) (H : Heap) : CallQ prog f_linotyperef31_hex [.string (mkS w)] H fun u H' => u = .tuple #[.int .i64 (numW w), .bool (hexF (numW w) == w)] ∧ Ext H H' := by
  refine in_linotyperef31_hex fun hw => ?_
  have hcl := cutP_len w [45]
  have hni := numW_i64 w
  have hneg : (w.take 1 == [45]) = !(bl (mkS (cutP w [45])) == bl (mkS w)) := by
    rw [bl_mkS, bl_mkS]
    unfold cutP
    cases hb : w.take 1 == [45] with
    | true =>
      show true = !(w.drop 1 == w)
      have hw0 : 0 < w.length := by
        have := congrArg List.length (beq_iff_eq.1 hb)
        rw [List.length_take] at this
        simp at this; omega
      have : (w.drop 1 == w) = false := beq_eq_false_iff_ne.2 fun h => by
        have := congrArg List.length h
        rw [List.length_drop] at this; omega
      rw [this]; rfl
    | false =>
      show false = !(w == w)
      rw [beq_self_eq_true]; rfl
  have main : ∀ A : Env, A 0 = .string (mkS w) → A 4 = .string (mkS (cutP w [45])) → pexec prog pc_linotyperef31_hex_2 ⟨Rt prog F_linotyperef31_hex H fun u H' => u = .tuple #[.int .i64 (numW w), .bool (hexF (numW w) == w)] ∧ Ext H H', noEx⟩ (Rt prog F_linotyperef31_hex H fun u H' => u = .tuple #[.int .i64 (numW w), .bool (hexF (numW w) == w)] ∧ Ext H H') A H := by
    intro A q0 q4
    simp only [pc_linotyperef31_hex_2, sxA, sxB, Nat.reduceBEq, Nat.reduceEqDiff, reduceCtorEq, mxA, mxB, Nat.reduceAdd, reduceIte, Nat.reduceLeDiff, splice, q0, q4]
    refine (q_ref02_Scan (cutP w [45]) (by omega) 0 (by decide) H).thenW ?_
    rintro _ H2 _ hw2 ⟨rfl, hx2⟩
    have hi := scanF_i64 (cutP w [45]) 0
    have hnn := hx2.next
    have hxe : ∀ c e c' e', Ext H ((H2.push (.cells c e false)).set H2.next (.cells c' e' false)) := fun c e c' e' => (hx2.push _).set hx2.next _
    have h0 := hex0 w
    have hok : okW w = ((scanF (cutP w [45]) 0).err == 0 && (scanF (cutP w [45]) 0).e == ((cutP w [45]).length : Int)) := rfl
    have hnum : numW w = if okW w then (if w.take 1 == [45] then IntKind.i64.wrap (-(scanF (cutP w [45]) 0).n) else (scanF (cutP w [45]) 0).n) else 0 := rfl
    generalize scanF (cutP w [45]) 0 = sc at *
    obtain ⟨n, e, err, at_⟩ := sc
    simp only at hok hnum hi
    simp only [Sc.val, fltV, sxA, sxB, Nat.reduceBEq, Nat.reduceEqDiff, reduceCtorEq, mxA, mxB, Nat.reduceAdd, reduceIte, Nat.reduceLeDiff, splice]
    cases he : err == 0 with
    | false =>
      rw [he, Bool.false_and] at hok
      have hz : numW w = 0 := by rw [hnum, hok]; rfl
      simp only [sxA, sxB, Nat.reduceBEq, Nat.reduceEqDiff, reduceCtorEq, mxA, mxB, Nat.reduceAdd, reduceIte, Nat.reduceLeDiff, splice, he, ret_linotyperef31_hex]
      exact .mk (by rw [Heap.next_set, Heap.next_push]; omega) ⟨by rw [h0 hok, hz], hxe _ _ _ _⟩
    | true =>
      cases hE : e == ((cutP w [45]).length : Int) with
      | false =>
        rw [he, hE] at hok
        have hz : numW w = 0 := by rw [hnum, hok]; rfl
        simp only [sxA, sxB, Nat.reduceBEq, Nat.reduceEqDiff, reduceCtorEq, mxA, mxB, Nat.reduceAdd, reduceIte, Nat.reduceLeDiff, splice, Zdk, bl_mkS, q4, he, hE, ret_linotyperef31_hex]
        exact .mk (by rw [Heap.next_set, Heap.next_push]; omega) ⟨by rw [h0 hok, hz], hxe _ _ _ _⟩
      | true =>
        rw [he, hE] at hok
        have hok : okW w = true := hok
        rw [if_pos hok] at hnum
        simp only [pc_linotyperef31_hex_1, sxA, sxB, Nat.reduceBEq, Nat.reduceEqDiff, reduceCtorEq, mxA, mxB, Nat.reduceAdd, reduceIte, Nat.reduceLeDiff, splice, Zdk, bl_mkS, q0, q4, he, hE]
        rw [bl_mkS, bl_mkS] at hneg
        rw [← hneg]
        cases hb : w.take 1 == [45] with
        | true =>
          rw [hb] at hnum
          have hnum : numW w = IntKind.i64.wrap (-n) := hnum
          simp only [sxA, sxB, Nat.reduceBEq, Nat.reduceEqDiff, reduceCtorEq, mxA, mxB, Nat.reduceAdd, reduceIte, Nat.reduceLeDiff, splice]
          rw [gen_negI (ik := .i64) (n := n) (by simp only [uxA, uxB, Nat.reduceBEq])]
          simp only [sxA, sxB, Nat.reduceBEq, Nat.reduceEqDiff, reduceCtorEq, mxA, mxB, Nat.reduceAdd, reduceIte, Nat.reduceLeDiff, splice, ← hnum]
          refine (q_ref02_Hex (numW w) hni _).thenW ?_
          rintro _ H3 _ hw3 ⟨rfl, rfl⟩
          simp only [sxA, sxB, Nat.reduceBEq, Nat.reduceEqDiff, reduceCtorEq, mxA, mxB, Nat.reduceAdd, reduceIte, Nat.reduceLeDiff, splice, bl_mkS, q0, ret_linotyperef31_hex]
          exact .mk (by rw [Heap.next_set, Heap.next_push]; omega) ⟨rfl, hxe _ _ _ _⟩
        | false =>
          rw [hb] at hnum
          have hnum : numW w = n := hnum
          simp only [sxA, sxB, Nat.reduceBEq, Nat.reduceEqDiff, reduceCtorEq, mxA, mxB, Nat.reduceAdd, reduceIte, Nat.reduceLeDiff, splice, ← hnum]
          refine (q_ref02_Hex (numW w) hni _).thenW ?_
          rintro _ H3 _ hw3 ⟨rfl, rfl⟩
          simp only [sxA, sxB, Nat.reduceBEq, Nat.reduceEqDiff, reduceCtorEq, mxA, mxB, Nat.reduceAdd, reduceIte, Nat.reduceLeDiff, splice, bl_mkS, q0, ret_linotyperef31_hex]
          exact .mk (by rw [Heap.next_set, Heap.next_push]; omega) ⟨rfl, hxe _ _ _ _⟩
  cases w with
  | nil =>
    have e0 : (([] : List UInt8) == []) = true := rfl
    simp only [pc_linotyperef31_hex, sxA, sxB, Nat.reduceBEq, Nat.reduceEqDiff, reduceCtorEq, mxA, mxB, Nat.reduceAdd, reduceIte, Nat.reduceLeDiff, splice, bl_mkS, e0]
    exact main _ (by simp only [uxA, uxB, Nat.reduceBEq]) (by simp only [uxA, uxB, Nat.reduceBEq]; rfl)
  | cons c r =>
    have e0 : ((c :: r) == ([] : List UInt8)) = false := rfl
    have e45 : ((c.toNat : Int) == 45) = (c == 45) := u8eq c 45 (by decide)
    have t0 : (0 : Int) ≤ 0 := by decide
    have u0 : (0 : Int).toNat = 0 := rfl
    have hc1 := cutP_one (c :: r)
    simp only [pc_linotyperef31_hex, sxA, sxB, Nat.reduceBEq, Nat.reduceEqDiff, reduceCtorEq, mxA, mxB, Nat.reduceAdd, reduceIte, Nat.reduceLeDiff, splice, bl_mkS, Zbw, e0, t0, u0, e45]
    cases hc : c == 45 with
    | true =>
      have hcut : cutP (c :: r) [45] = r := (if_pos (hc1.trans hc)).trans rfl
      simp only [sxA, sxB, Nat.reduceBEq, Nat.reduceEqDiff, reduceCtorEq, mxA, mxB, Nat.reduceAdd, reduceIte, Nat.reduceLeDiff, splice]
      rw [gen_slTlo (s := mkS (c :: r)) (l := 1) (ik := .i64) (by kernel_rfl) (by simp only [uxA, uxB, Nat.reduceBEq]) (by simp only [uxA, uxB, Nat.reduceBEq]; rfl) (by rw [bl_mkS]; simp)]
      simp only [sxA, sxB, Nat.reduceBEq, Nat.reduceEqDiff, reduceCtorEq, mxA, mxB, Nat.reduceAdd, reduceIte, Nat.reduceLeDiff, splice, bl_mkS]
      exact main _ (by simp only [uxA, uxB, Nat.reduceBEq]) (by simp only [uxA, uxB, Nat.reduceBEq]; rw [hcut])
    | false =>
      have hcut : cutP (c :: r) [45] = c :: r := if_neg fun h => by have h2 := (hc1.trans hc).symm.trans h; cases h2
      simp only [sxA, sxB, Nat.reduceBEq, Nat.reduceEqDiff, reduceCtorEq, mxA, mxB, Nat.reduceAdd, reduceIte, Nat.reduceLeDiff, splice]
      exact main _ (by simp only [uxA, uxB, Nat.reduceBEq]) (by simp only [uxA, uxB, Nat.reduceBEq]; rw [hcut])
end Go.Proofs.YthoanamkoigjeaaGreatDoor.code
/- strings.Builder. -/
set_option linter.unusedVariables false
set_option linter.unusedSimpArgs false
set_option maxRecDepth 100000
set_option maxHeartbeats 4000000
namespace Go.Proofs.YthoanamkoigjeaaGreatDoor.code
open Go.Ab

structure BAt (H0 H : Heap) (D : Nat) (l : List UInt8) (p v : Value) : Prop where
  get : H.get D = some (.cells [p, v] T_strings_Builder false)
  ptr : p = .pointer none ∨ p = .pointer (some ⟨D, 0, none⟩)
  gs : Gs 1 5 H0 H v l.length (u8v l)
  low : H0.next ≤ D
  apart : ¬ inBlk v D
  wf : H.Wf
  ext : Ext H0 H
theorem q_copyCheck {H0 H : Heap} {D : Nat} {l : List UInt8} {p v : Value} (hb : BAt H0 H D l p v) : CallQ prog f_strings_Builder_copyCheck [.pointer (some ⟨D, 0, none⟩)] H fun u H' => u = .tuple #[] ∧ BAt H0 H' D l (.pointer (some ⟨D, 0, none⟩)) v ∧ H'.next = H.next ∧ ∀ id, id ≠ D → H'.get id = H.get id := by
  refine in_strings_Builder_copyCheck fun hw => ?_
  obtain ⟨hg, hp, hgs, hlow, hap, hwf, hx⟩ := hb
  simp only [pc_strings_Builder_copyCheck, sxA, sxB, Nat.reduceBEq, Nat.reduceEqDiff, reduceCtorEq, mxA, mxB, Nat.reduceAdd, reduceIte, Nat.reduceLeDiff, splice, Zdr, hg]
  rcases hp with rfl | rfl
  · rw [gen_nilPt (a := none) (by kernel_rfl) (by simp only [uxA, uxB, Nat.reduceBEq])]
    simp only [sxA, sxB, Nat.reduceBEq, Nat.reduceEqDiff, reduceCtorEq, mxA, mxB, Nat.reduceAdd, reduceIte, Nat.reduceLeDiff, splice, Option.isNone_none]
    rw [gen_toUn (b := D) (o := 0) (by kernel_rfl) (by simp only [uxA, uxB, Nat.reduceBEq]) hg (by simp)]
    simp only [sxA, sxB, Nat.reduceBEq, Nat.reduceEqDiff, reduceCtorEq, mxA, mxB, Nat.reduceAdd, reduceIte, Nat.reduceLeDiff, splice]
    refine callQ_ext ext_noEscape (args := [.pointer (some ⟨D, 0, none⟩)]) (v := .pointer (some ⟨D, 0, none⟩)) rfl ?_
    simp only [sxA, sxB, Nat.reduceBEq, Nat.reduceEqDiff, reduceCtorEq, mxA, mxB, Nat.reduceAdd, reduceIte, Nat.reduceLeDiff, splice]
    rw [gen_fromUn (b := D) (o := 0) (by kernel_rfl) (by simp only [uxA, uxB, Nat.reduceBEq]) hg]
    simp only [sxA, sxB, Nat.reduceBEq, Nat.reduceEqDiff, reduceCtorEq, mxA, mxB, Nat.reduceAdd, reduceIte, Nat.reduceLeDiff, splice, Zdr, hg, cellsV_ptr, oneCell_ptr, ret_strings_Builder_copyCheck]
    refine .mk (by rw [Heap.next_set]; exact Nat.le_refl _) ⟨rfl, ⟨by rw [Heap.get_set, if_pos rfl], .inr rfl, hgs.ext fun id hid => ?_, hlow, hap, hwf.set hg _, hx.set hlow _⟩, by rw [Heap.next_set], fun id hid => by rw [Heap.get_set, if_neg hid]⟩
    have : id ≠ D := fun h => hap (by rw [← h]; exact hid)
    rw [Heap.get_set, if_neg this]
  · rw [gen_nilPt (a := some ⟨D, 0, none⟩) (by kernel_rfl) (by simp only [uxA, uxB, Nat.reduceBEq])]
    simp only [sxA, sxB, Nat.reduceBEq, Nat.reduceEqDiff, reduceCtorEq, mxA, mxB, Nat.reduceAdd, reduceIte, Nat.reduceLeDiff, splice, Option.isNone_some, Zdr, hg]
    rw [gen_neqPt (b := D) (o := 0) (by kernel_rfl) (by simp only [uxA, uxB, Nat.reduceBEq]) (by simp only [uxA, uxB, Nat.reduceBEq])]
    simp only [sxA, sxB, Nat.reduceBEq, Nat.reduceEqDiff, reduceCtorEq, mxA, mxB, Nat.reduceAdd, reduceIte, Nat.reduceLeDiff, splice, ret_strings_Builder_copyCheck]
    exact .mk (Nat.le_refl _) ⟨rfl, ⟨hg, .inr rfl, hgs, hlow, hap, hwf, hx⟩, rfl, fun _ _ => rfl⟩
theorem bat_app {H0 H : Heap} {D : Nat} {l m : List UInt8} {v x : Value} {k : Value → Heap → Prop} (hb : BAt H0 H D l (.pointer (some ⟨D, 0, none⟩)) v) (hsrc : asrc 1 x H = some (m.length, u8v m)) (hm : 1 ≤ m.length) (hl : l.length + m.length ≤ 140737488355328)
    (h : ∀ v' H', H'.get D = some (.cells [.pointer (some ⟨D, 0, none⟩), v] T_strings_Builder false) → BAt H0 (H'.set D (.cells [.pointer (some ⟨D, 0, none⟩), v'] T_strings_Builder false)) D (l ++ m) (.pointer (some ⟨D, 0, none⟩)) v' → (∃ b n c, v' = .slice (some ⟨b, 0, none⟩) n c) → H'.next = H.next + 1 → k v' H') : appK 5 1 1 v x H k := by
  obtain ⟨hg, hp, hgs, hlow, hap, hwf, hx⟩ := hb
  have hD := hwf.lt hg
  refine gs_app hgs hx hwf hsrc (u8v_all m) hm (by rw [u8v_len]; omega) (by omega) (by omega) ?_
  intro v' H' hgs' hx' hw' hk hn hnew
  have hgD : H'.get D = some (.cells [.pointer (some ⟨D, 0, none⟩), v] T_strings_Builder false) := by rw [hk D hD hap]; exact hg
  have hapD : ¬ inBlk v' D := fun hi => by have := hnew D hi; omega
  refine h v' H' hgD ⟨by rw [Heap.get_set, if_pos rfl], .inr rfl, ?_, hlow, hapD, hw'.set hgD _, hx'.set hlow _⟩ ?_ hn
  · have e1 : u8v (l ++ m) = u8v l ++ u8v m := by simp [u8v]
    rw [e1, List.length_append]
    refine hgs'.ext fun id hid => ?_
    have : id ≠ D := fun h => hapD (by rw [← h]; exact hid)
    rw [Heap.get_set, if_neg this]
  · rcases hgs' with ⟨_, h0, _⟩ | ⟨b, hb, _⟩
    · omega
    · exact ⟨b, _, _, hb⟩
theorem q_WriteString {H0 H : Heap} {D : Nat} {l m : List UInt8} {p v : Value} (hb : BAt H0 H D l p v) (hm : 1 ≤ m.length) (hl : l.length + m.length ≤ 140737488355328) : CallQ prog f_strings_Builder_WriteString [.pointer (some ⟨D, 0, none⟩), .string (mkS m)] H fun u H' => (∃ x y, u = .tuple #[x, y]) ∧ ∃ p' v', BAt H0 H' D (l ++ m) p' v' := by
  refine in_strings_Builder_WriteString fun hw => ?_
  simp only [pc_strings_Builder_WriteString, sxA, sxB, Nat.reduceBEq, Nat.reduceEqDiff, reduceCtorEq, mxA, mxB, Nat.reduceAdd, reduceIte, Nat.reduceLeDiff, splice]
  refine (q_copyCheck hb).thenW ?_
  rintro _ H1 _ hw1 ⟨rfl, hb1, hn1, _⟩
  have hg1 := hb1.get
  simp only [sxA, sxB, Nat.reduceBEq, Nat.reduceEqDiff, reduceCtorEq, mxA, mxB, Nat.reduceAdd, reduceIte, Nat.reduceLeDiff, splice, Zdr, hg1]
  refine bat_app hb1 (m := m) (by simp [asrc, bytesOf, bl_size, u8v, mkS, ByteArray.size]) hm hl ?_
  intro v' H' hgD hb' ⟨b, n, c, hv'⟩ hn'
  subst hv'
  have hn2 := hb'.ext.next
  rw [Heap.next_set] at hn2
  simp only [sxA, sxB, Nat.reduceBEq, Nat.reduceEqDiff, reduceCtorEq, mxA, mxB, Nat.reduceAdd, reduceIte, Nat.reduceLeDiff, splice, Zdr, hgD, Zdk, ret_strings_Builder_WriteString]
  exact .mk (by rw [Heap.next_set]; omega) ⟨⟨_, _, rfl⟩, _, _, hb'⟩
theorem q_WriteByte {H0 H : Heap} {D : Nat} {l : List UInt8} {p v : Value} (hb : BAt H0 H D l p v) (c : UInt8) (hl : l.length + 1 ≤ 140737488355328) : CallQ prog f_strings_Builder_WriteByte [.pointer (some ⟨D, 0, none⟩), .int .u8 (c.toNat : Int)] H fun u H' => u = .nilIface ∧ ∃ p' v', BAt H0 H' D (l ++ [c]) p' v' := by
  refine in_strings_Builder_WriteByte fun hw => ?_
  simp only [pc_strings_Builder_WriteByte, sxA, sxB, Nat.reduceBEq, Nat.reduceEqDiff, reduceCtorEq, mxA, mxB, Nat.reduceAdd, reduceIte, Nat.reduceLeDiff, splice]
  refine (q_copyCheck hb).thenW ?_
  rintro _ H1 _ hw1 ⟨rfl, hb1, hn1, _⟩
  have hg1 := hb1.get
  have hD := hw1.lt hg1
  simp only [sxA, sxB, Nat.reduceBEq, Nat.reduceEqDiff, reduceCtorEq, mxA, mxB, Nat.reduceAdd, reduceIte, Nat.reduceLeDiff, splice, Zdr, hg1]
  have hb2 : BAt H0 (H1.push (.cells [.int .u8 (c.toNat : Int)] 5 false)) D l (.pointer (some ⟨D, 0, none⟩)) v := by
    obtain ⟨hg, hp, hgs, hlow, hap, hwf, hx⟩ := hb1
    exact ⟨by rw [Heap.get_push, if_neg (by omega)]; exact hg, hp, hgs.ext fun id hid => by have := hgs.low hwf hid; rw [Heap.get_push, if_neg (by omega)], hlow, hap, hwf.push _, hx.push _⟩
  refine bat_app hb2 (m := [c]) (asrc_one (by rw [Heap.get_push, if_pos rfl])) (by simp) (by simpa using hl) ?_
  intro v' H' hgD hb' ⟨b, n, cc, hv'⟩ hn'
  subst hv'
  have hn2 := hb'.ext.next
  rw [Heap.next_set] at hn2
  rw [Heap.next_push] at hn'
  simp only [sxA, sxB, Nat.reduceBEq, Nat.reduceEqDiff, reduceCtorEq, mxA, mxB, Nat.reduceAdd, reduceIte, Nat.reduceLeDiff, splice, Zdr, hgD, ret_strings_Builder_WriteByte]
  exact .mk (by rw [Heap.next_set]; omega) ⟨rfl, _, _, hb'⟩
theorem u8v_ok (l : List UInt8) : (u8v l).all u8ok = true := by
  rw [List.all_eq_true]
  intro v hv
  obtain ⟨b, _, rfl⟩ := List.mem_map.1 hv
  have := b.toNat_lt
  simp [u8ok]
  omega
theorem q_BString {H0 H : Heap} {D : Nat} {l : List UInt8} {p v : Value} (hb : BAt H0 H D l p v) (h1 : 1 ≤ l.length) (hl : l.length ≤ 140737488355328) : CallQ prog f_strings_Builder_String [.pointer (some ⟨D, 0, none⟩)] H fun u H' => u = .string (mkS l) ∧ Ext H0 H' := by
  refine in_strings_Builder_String fun hw => ?_
  obtain ⟨hg, hp, hgs, hlow, hap, hwf, hx⟩ := hb
  simp only [pc_strings_Builder_String, sxA, sxB, Nat.reduceBEq, Nat.reduceEqDiff, reduceCtorEq, mxA, mxB, Nat.reduceAdd, reduceIte, Nat.reduceLeDiff, splice, Zdr, hg]
  have hn := hx.next
  rcases hgs with ⟨rfl, h0, _⟩ | ⟨b, rfl, h2, h3, h4⟩
  · omega
  · have e : (l.length : Int) = ((u8v l).length : Int) := by rw [u8v_len]
    rw [gen_slData (a := some ⟨b, 0, none⟩) (n := l.length) (c := UNK + 1) (by simp only [uxA, uxB, Nat.reduceBEq]) (.inr (by omega))]
    simp only [sxA, sxB, Nat.reduceBEq, Nat.reduceEqDiff, reduceCtorEq, mxA, mxB, Nat.reduceAdd, reduceIte, Nat.reduceLeDiff, splice, Zdr, hg, Zdi]
    rw [gen_unStr (e := 5) (b := b) (by kernel_rfl) (by simp only [uxA, uxB, Nat.reduceBEq]) (by simp only [uxA, uxB, Nat.reduceBEq]; rw [e]) h3 (by rw [u8v_len]; omega) (by rw [u8v_len]; omega) (u8v_ok l) (bytesIn_u8v l)]
    simp only [sxA, sxB, Nat.reduceBEq, Nat.reduceEqDiff, reduceCtorEq, mxA, mxB, Nat.reduceAdd, reduceIte, Nat.reduceLeDiff, splice, ret_strings_Builder_String]
    exact .mk (by rw [Heap.next_set]; exact Nat.le_refl _) ⟨rfl, hx.set h2 _⟩
end Go.Proofs.YthoanamkoigjeaaGreatDoor.code
/- An image's lines: listing.orgLine, symLine, markLine; the document's unpaired. -/
set_option linter.unusedVariables false
set_option linter.unusedSimpArgs false
set_option maxRecDepth 100000
set_option maxHeartbeats 4000000
namespace Go.Proofs.YthoanamkoigjeaaGreatDoor.code
open Go.Ab

structure Tz (T : Heap → Prop) : Prop where
  q : Tq T
  pow : PowT T
theorem hexF_len {n : Int} (hn : I64 n) : (hexF n).length ≤ 19 := by
  unfold hexF tellF
  have := dgs16_len 15 n.natAbs (by unfold I64 at hn; omega)
  rw [List.length_append, List.length_append]
  split <;> simp <;> omega
def orgF (n : Int) : List UInt8 := [111, 114, 103, 32] ++ hexF n
theorem q_orgLine {T : Heap → Prop} (hT : Tz T) (n : Int) (hn : I64 n) (H : Heap) (hTH : T H) : CallQ prog f_listing_orgLine [.int .i64 n] H fun u H' => u = .string (mkS (orgF n)) ∧ Ext H H' := by
  refine in_listing_orgLine fun hw => ?_
  have hl := hexF_len hn
  simp only [pc_listing_orgLine, sxA, sxB, Nat.reduceBEq, Nat.reduceEqDiff, reduceCtorEq, mxA, mxB, Nat.reduceAdd, reduceIte, Nat.reduceLeDiff, splice]
  refine (q_literal_Hex hT.q n hn H hTH).thenW ?_
  rintro _ H1 _ hw1 ⟨rfl, hx⟩
  simp only [sxA, sxB, Nat.reduceBEq, Nat.reduceEqDiff, reduceCtorEq, mxA, mxB, Nat.reduceAdd, reduceIte, Nat.reduceLeDiff, splice, syA, ret_listing_orgLine]
  exact ⟨(by first | omega | (simp only [List.length_append, List.length_cons, List.length_nil]; omega)), .mk hx.next ⟨rfl, hx⟩⟩
structure Sy where
  name : List UInt8
  n : Int
  here : Bool
noncomputable def Sy.cells (s : Sy) : List Value := [.string (mkS s.name), .int .i64 s.n, .bool s.here]
def symF (s : Sy) : List UInt8 := [115, 121, 109, 32] ++ s.name ++ [32] ++ hexF s.n ++ (if s.here then [32, 104, 101, 114, 101] else [32, 99, 111, 110, 115, 116])
theorem q_symLine {T : Heap → Prop} (hT : Tz T) (s : Sy) (hn : I64 s.n) (hl : s.name.length ≤ 1000000) (H : Heap) (hTH : T H) : CallQ prog f_listing_symLine [.agg s.cells.toArray] H fun u H' => u = .string (mkS (symF s)) ∧ Ext H H' := by
  refine in_listing_symLine fun hw => ?_
  have hll := hexF_len hn
  simp only [pc_listing_symLine, sxA, sxB, Nat.reduceBEq, Nat.reduceEqDiff, reduceCtorEq, mxA, mxB, Nat.reduceAdd, reduceIte, Nat.reduceLeDiff, splice, Sy.cells]
  generalize hE : H.push _ = H1
  obtain ⟨e, h1⟩ : ∃ e, H1 = H.push (.cells s.cells e false) := ⟨_, hE.symm⟩
  clear hE
  have hx1 : Ext H H1 := by rw [h1]; exact (Ext.refl H).push _
  have hg1 : H1.get H.next = some (.cells [.string (mkS s.name), .int .i64 s.n, .bool s.here] e false) := by rw [h1, Heap.get_push, if_pos rfl]; rfl
  clear h1
  have hT1 := hT.q.ext _ _ hw hTH hx1
  have hbel : belowV H1.next 6 (.string (mkS s.name)) = true := rfl
  unfold symF
  cases hh : s.here
  all_goals
    rw [hh] at hg1
    simp only [sxA, sxB, Nat.reduceBEq, Nat.reduceEqDiff, reduceCtorEq, mxA, mxB, Nat.reduceAdd, reduceIte, Nat.reduceLeDiff, splice, syA, hg1, hbel]
    refine ⟨by omega, by omega, ?_⟩
    refine (q_literal_Hex hT.q s.n hn H1 hT1).thenW ?_
    rintro _ H2 _ hw2 ⟨rfl, hx2⟩
    have hx3 := hx1.trans hx2
    simp only [sxA, sxB, Nat.reduceBEq, Nat.reduceEqDiff, reduceCtorEq, mxA, mxB, Nat.reduceAdd, reduceIte, Nat.reduceLeDiff, splice, syA, ret_listing_symLine]
    refine ⟨hx2.get, (by first | omega | (simp only [List.length_append, List.length_cons, List.length_nil]; omega)), (by first | omega | (simp only [List.length_append, List.length_cons, List.length_nil]; omega)), .mk hx3.next ⟨by simp, hx3⟩⟩
structure Mk where
  line : Int
  at_ : Int
  size : Int
noncomputable def Mk.cells (m : Mk) : List Value := [.int .i64 m.line, .int .i64 m.at_, .int .i64 m.size]
def pairF (b : List UInt8) : List UInt8 := b.flatMap fun c => [dchr (c.toNat / 16), dchr (c.toNat % 16)]
def markF (line at_ : Int) (b : List UInt8) : List UInt8 := [109, 97, 114, 107, 32] ++ decF line ++ [32] ++ hexF at_ ++ [32] ++ pairF b
theorem dgs10_len : ∀ (n u : Nat), u < 10 ^ (n + 1) → (dgs 10 u).length ≤ n + 1
  | 0, u, h => by rw [dgs_lt (by omega)]; simp
  | n + 1, u, h => by
    by_cases h10 : 10 ≤ u
    · rw [dgs_ge h10 (by decide), List.length_append]
      have := dgs10_len n (u / 10) (by rw [Nat.pow_succ] at h; omega)
      simp only [List.length_cons, List.length_nil]
      omega
    · rw [dgs_lt (by omega)]; simp
theorem dig16c (d : Nat) (h : d < 16) : ([48, 49, 50, 51, 52, 53, 54, 55, 56, 57, 97, 98, 99, 100, 101, 102] : List UInt8)[d]? = some (dchr d) := by
  have : ∀ d, d < 16 → ([48, 49, 50, 51, 52, 53, 54, 55, 56, 57, 97, 98, 99, 100, 101, 102] : List UInt8)[d]? = some (dchr d) := by decide
  exact this d h
theorem nib (c : Nat) (h : c < 256) : (c : Int).fdiv (2 ^ (min (4 : Int).toNat IntKind.u8.bits)) = ((c / 16 : Nat) : Int) ∧ IntKind.u8.wrap ((BitVec.ofInt IntKind.u8.bits (c : Int) &&& BitVec.ofInt IntKind.u8.bits 15).toNat : Int) = ((c % 16 : Nat) : Int) := by
  have hk : ((List.range 256).all fun c => decide ((c : Int).fdiv (2 ^ (min (4 : Int).toNat IntKind.u8.bits)) = ((c / 16 : Nat) : Int)) && decide (IntKind.u8.wrap ((BitVec.ofInt IntKind.u8.bits (c : Int) &&& BitVec.ofInt IntKind.u8.bits 15).toNat : Int) = ((c % 16 : Nat) : Int))) = true := by kernel_rfl
  have := List.all_eq_true.1 hk c (List.mem_range.2 h)
  simp only [Bool.and_eq_true, decide_eq_true_eq] at this
  exact this
def SlO (H : Heap) (v : Value) (n : Nat) (cs : List Value) : Prop := ∃ a cap, v = .slice a n cap ∧ (0 < n → ∃ b o c e ro, a = some ⟨b, o, none⟩ ∧ H.get b = some (.cells c e ro) ∧ ∀ i, i < n → c[o + i]? = cs[i]?)
theorem IsSl.slO {H : Heap} {v : Value} {n : Nat} {cs : List Value} (h : IsSl H v n cs) : SlO H v n cs := by
  obtain ⟨a, cap, rfl, h1⟩ := h
  refine ⟨a, cap, rfl, fun hn => ?_⟩
  obtain ⟨b, e, ro, rfl, hb⟩ := h1 hn
  exact ⟨b, 0, cs, e, ro, rfl, hb, fun i _ => by rw [Nat.zero_add]⟩
theorem q_markLine {T : Heap → Prop} (hT : Tz T) (m : Mk) (line : Nat) (hline : m.line = line) (hln : line < 1048577) (hat : I64 m.at_) (b : List UInt8) (bv : Value) (hbl : b.length ≤ 1000000) (H : Heap) (hTH : T H) (hb : SlO H bv b.length (u8v b)) :
    CallQ prog f_listing_markLine [.agg m.cells.toArray, bv] H fun u H' => u = .string (mkS (markF m.line m.at_ b)) ∧ Ext H H' := by
  refine in_listing_markLine fun hw => ?_
  have hll := hexF_len hat
  have hdl : (decF (line : Int)).length ≤ 7 := by
    have : decF (line : Int) = dgs 10 line := by
      unfold decF tellF
      rw [if_neg (by omega)]; rfl
    rw [this]; exact dgs10_len 6 line (by omega)
  obtain ⟨a, cap, rfl, hbb⟩ := hb
  simp only [pc_listing_markLine, sxA, sxB, Nat.reduceBEq, Nat.reduceEqDiff, reduceCtorEq, mxA, mxB, Nat.reduceAdd, reduceIte, Nat.reduceLeDiff, splice, Mk.cells]
  generalize hE : Heap.push (Heap.push H _) _ = H1
  obtain ⟨e, h1⟩ : ∃ e, H1 = (H.push (.cells [.int .i64 m.line, .int .i64 m.at_, .int .i64 m.size] e false)).push (.cells [.pointer none, .slice none 0 0] T_strings_Builder false) := ⟨_, hE.symm⟩
  clear hE
  have hx1 : Ext H H1 := by rw [h1]; exact ((Ext.refl H).push _).push _
  have hw1 : H1.Wf := by rw [h1]; exact (hw.push _).push _
  have hn1 : H1.next = H.next + 1 + 1 := by rw [h1, Heap.next_push, Heap.next_push]
  have hg1 : H1.get H.next = some (.cells [.int .i64 m.line, .int .i64 m.at_, .int .i64 m.size] e false) := by rw [h1, Heap.get_push, Heap.next_push, if_neg (by omega), Heap.get_push, if_pos rfl]
  have hg2 : H1.get (H.next + 1) = some (.cells [.pointer none, .slice none 0 0] T_strings_Builder false) := by rw [h1, Heap.get_push, Heap.next_push, if_pos rfl]
  clear h1
  have hT1 := hT.q.ext _ _ hw hTH hx1
  rw [hline] at hg1 ⊢
  refine ⟨by omega, ?_⟩
  refine (q_literal_Dec hT.q.ext hT.pow line hln H1 hT1).thenW ?_
  rintro _ H2 _ hw2 ⟨rfl, hx2⟩
  have hbel : belowV H2.next 6 (.int .i64 m.at_) = true := rfl
  have hg1' : H2.get H.next = some (.cells [.int .i64 (line : Int), .int .i64 m.at_, .int .i64 m.size] e false) := by rw [hx2.get _ (by omega)]; exact hg1
  have hT2 := hT.q.ext _ _ hw1 hT1 hx2
  simp only [sxA, sxB, Nat.reduceBEq, Nat.reduceEqDiff, reduceCtorEq, mxA, mxB, Nat.reduceAdd, reduceIte, Nat.reduceLeDiff, splice, syA, hg1', hbel]
  refine ⟨hx2.get, (by first | omega | (simp only [List.length_append, List.length_cons, List.length_nil]; omega)), (by first | omega | (simp only [List.length_append, List.length_cons, List.length_nil]; omega)), ?_⟩
  refine (q_literal_Hex hT.q m.at_ hat H2 hT2).thenW ?_
  rintro _ H3 _ hw3 ⟨rfl, hx3⟩
  simp only [sxA, sxB, Nat.reduceBEq, Nat.reduceEqDiff, reduceCtorEq, mxA, mxB, Nat.reduceAdd, reduceIte, Nat.reduceLeDiff, splice, syA]
  refine ⟨(by first | omega | (simp only [List.length_append, List.length_cons, List.length_nil]; omega)), (by first | omega | (simp only [List.length_append, List.length_cons, List.length_nil]; omega)), ?_⟩
  have hx13 := hx2.trans hx3
  have hx03 := hx1.trans hx13
  have hB0 : BAt H H3 (H.next + 1) [] (.pointer none) (.slice none 0 0) := ⟨by rw [hx13.get _ (by omega)]; exact hg2, .inl rfl, .inl ⟨rfl, rfl, rfl⟩, by omega, (by rintro ⟨o, n, c, h⟩; cases h), hw3, hx03⟩
  refine (q_WriteString hB0 (m := [109, 97, 114, 107, 32] ++ decF (line : Int) ++ [32] ++ hexF m.at_ ++ [32]) (by simp) (by simp; omega)).thenW ?_
  rintro _ H4 _ hw4 ⟨⟨x, y, rfl⟩, p4, v4, hB4⟩
  rw [List.nil_append] at hB4
  simp only [sxA, sxB, Nat.reduceBEq, Nat.reduceEqDiff, reduceCtorEq, mxA, mxB, Nat.reduceAdd, reduceIte, Nat.reduceLeDiff, splice, Zdi]
  unfold markF
  generalize hP : [109, 97, 114, 107, 32] ++ decF (line : Int) ++ [32] ++ hexF m.at_ ++ [32] = P at *
  have hPl : P.length ≤ 40 := by rw [← hP]; simp; omega
  have hP1 : 1 ≤ P.length := by rw [← hP]; simp
  refine loop_intro (fun q A' H' => ∃ (i : Nat) (p v : Value), q = b.length - i ∧ i ≤ b.length ∧ BAt H H' (H.next + 1) (P ++ pairF (b.take i)) p v ∧ A' 5 = .pointer (some ⟨H.next + 1, 0, none⟩) ∧ A' 19 = .slice a b.length cap ∧ A' 20 = .int .i64 b.length ∧ A' 21 = .int .i64 i) b.length ?_ ?_
  · refine ⟨0, p4, v4, rfl, Nat.zero_le _, by simpa [pairF] using hB4, ?_, ?_, ?_, ?_⟩
    all_goals simp only [uxA, uxB, Nat.reduceBEq]
    all_goals rfl
  · rintro q A' H5 ⟨i, p, v, rfl, hib, hB, r5, r19, r20, r21⟩
    have hpl : ∀ l : List UInt8, (pairF l).length = 2 * l.length := fun l => by
      unfold pairF
      induction l with
      | nil => rfl
      | cons c l ih => rw [List.flatMap_cons, List.length_append, ih]; simp; omega
    by_cases hi : i < b.length
    · have e1 : decide ((i : Int) < (b.length : Int)) = true := decide_eq_true (by omega)
      obtain ⟨bb, ob, cb, eb, rob, rfl, hgb, hcb⟩ := hbb (by omega)
      have hbn := hw.lt hgb
      have hg5 : H5.get bb = some (.cells cb eb rob) := by rw [hB.ext.get _ hbn]; exact hgb
      have c1 : (0 : Int) ≤ (i : Int) ∧ (i : Int) < (b.length : Int) := by omega
      have u0 : (i : Int).toNat = i := Int.toNat_natCast _
      have hp := List.getElem?_eq_getElem hi
      have htk : b.take (i + 1) = b.take i ++ [b[i]] := by rw [List.take_add_one, hp]; rfl
      have hv : cb[ob + i]? = some (.int .u8 (b[i].toNat : Int)) := by rw [hcb i hi]; simp [u8v, hp]
      generalize b[i] = c at *
      have hc := c.toNat_lt
      obtain ⟨n1, n2⟩ := nib c.toNat hc
      have d1 := dig16c (c.toNat / 16) (by omega)
      have d2 := dig16c (c.toNat % 16) (by omega)
      have t1 : (0 : Int) ≤ ((c.toNat / 16 : Nat) : Int) := Int.natCast_nonneg _
      have t2 : (0 : Int) ≤ ((c.toNat % 16 : Nat) : Int) := Int.natCast_nonneg _
      have u1 : ((c.toNat / 16 : Nat) : Int).toNat = c.toNat / 16 := Int.toNat_natCast _
      have u2 : ((c.toNat % 16 : Nat) : Int).toNat = c.toNat % 16 := Int.toNat_natCast _
      have t4 : (0 : Int) ≤ 4 := by decide
      have ei : IntKind.i64.wrap ((i : Int) + 1) = ((i + 1 : Nat) : Int) := by rw [w64 (by unfold I64; omega)]; rfl
      have hlen : (P ++ pairF (b.take i)).length ≤ 3000000 := by rw [List.length_append, hpl, List.length_take]; omega
      simp only [pc_listing_markLine_2, pc_listing_markLine_1, sxA, sxB, Nat.reduceBEq, Nat.reduceEqDiff, reduceCtorEq, mxA, mxB, Nat.reduceAdd, reduceIte, Nat.reduceLeDiff, splice, r5, r19, r20, r21, e1, c1, decide_true, u0, hg5, hv, t4, n1, Zbw, bl_mkS, t1, u1, d1]
      refine (q_WriteByte hB (dchr (c.toNat / 16)) (by omega)).thenW ?_
      rintro _ H6 _ hw6 ⟨rfl, p6, v6, hB6⟩
      simp only [sxA, sxB, Nat.reduceBEq, Nat.reduceEqDiff, reduceCtorEq, mxA, mxB, Nat.reduceAdd, reduceIte, Nat.reduceLeDiff, splice, r5, n2, Zbw, bl_mkS, t2, u2, d2]
      refine (q_WriteByte hB6 (dchr (c.toNat % 16)) (by rw [List.length_append, List.length_singleton]; omega)).thenW ?_
      rintro _ H7 _ hw7 ⟨rfl, p7, v7, hB7⟩
      simp only [sxA, sxB, Nat.reduceBEq, Nat.reduceEqDiff, reduceCtorEq, mxA, mxB, Nat.reduceAdd, reduceIte, Nat.reduceLeDiff, splice, r21, ei]
      refine ⟨b.length - (i + 1), by omega, i + 1, p7, v7, rfl, by omega, ?_, ?_, ?_, ?_, ?_⟩
      · have e : P ++ pairF (b.take (i + 1)) = P ++ pairF (b.take i) ++ [dchr (c.toNat / 16)] ++ [dchr (c.toNat % 16)] := by
          rw [htk]; unfold pairF; rw [List.flatMap_append]; simp
        rw [e]; exact hB7
      all_goals simp only [uxA, uxB, Nat.reduceBEq, r5, r19, r20]
    · have e1 : decide ((i : Int) < (b.length : Int)) = false := decide_eq_false (by omega)
      have hib2 : i = b.length := by omega
      subst hib2
      rw [List.take_length] at hB
      simp only [pc_listing_markLine_2, sxA, sxB, Nat.reduceBEq, Nat.reduceEqDiff, reduceCtorEq, mxA, mxB, Nat.reduceAdd, reduceIte, Nat.reduceLeDiff, splice, r5, r20, r21, e1]
      refine (q_BString hB (by rw [List.length_append]; omega) (by rw [List.length_append, hpl]; omega)).thenW ?_
      rintro _ H6 _ hw6 ⟨rfl, hx6⟩
      simp only [sxA, sxB, Nat.reduceBEq, Nat.reduceEqDiff, reduceCtorEq, mxA, mxB, Nat.reduceAdd, reduceIte, Nat.reduceLeDiff, splice, ret_listing_markLine]
      exact .mk hx6.next ⟨rfl, hx6⟩
def unpF : List UInt8 → Option (List UInt8)
  | [] => some []
  | [_] => none
  | a :: b :: l => bif Nat.blt 15 (hexD a.toNat) || Nat.blt 15 (hexD b.toNat) then none else (unpF l).map (((16 * hexD a.toNat + hexD b.toNat).toUInt8) :: ·)
def unpairF (w : List UInt8) : Option (List UInt8) := bif w.isEmpty || !Nat.beq (w.length % 2) 0 then none else unpF w
theorem hexD_le (c : Nat) : hexD c ≤ 16 := by
  unfold hexD
  cases h1 : Nat.ble 48 c && Nat.ble c 57 with
  | true => simp only [Bool.and_eq_true, Nat.ble_eq] at h1; simp; omega
  | false =>
    cases h2 : Nat.ble 97 c && Nat.ble c 102 with
    | true => simp only [Bool.and_eq_true, Nat.ble_eq] at h2; simp; omega
    | false => simp
theorem q_unpaired (w : List UInt8) (hl : w.length ≤ 1000000) (H : Heap) : CallQ prog f_linotyperef31_unpaired [.string (mkS w)] H fun u H' => (match unpairF w with
    | none => u = .tuple #[.slice none 0 0, .bool false]
    | some b => ∃ v, u = .tuple #[v, .bool true] ∧ Gs 1 5 H H' v b.length (u8v b)) ∧ Ext H H' := by
  refine in_linotyperef31_unpaired fun hw => ?_
  have hem : ((w == ([] : List UInt8)) : Bool) = w.isEmpty := by cases w <;> rfl
  have hrem : (w.length : Int).tmod 2 = ((w.length % 2 : Nat) : Int) := rfl
  have hodd : (((w.length % 2 : Nat) : Int) == 0) = Nat.beq (w.length % 2) 0 := by rw [Bool.eq_iff_iff, beq_iff_eq, Nat.beq_eq]; omega
  have z2 : ¬ ((2 : Int) = 0) := by decide
  unfold unpairF
  simp only [pc_linotyperef31_unpaired, sxA, sxB, Nat.reduceBEq, Nat.reduceEqDiff, reduceCtorEq, mxA, mxB, Nat.reduceAdd, reduceIte, Nat.reduceLeDiff, splice, bl_mkS, hem]
  cases h0 : w.isEmpty with
  | true =>
    simp only [sxA, sxB, Nat.reduceBEq, Nat.reduceEqDiff, reduceCtorEq, mxA, mxB, Nat.reduceAdd, reduceIte, Nat.reduceLeDiff, splice, Bool.true_or, ret_linotyperef31_unpaired]
    exact .mk (Nat.le_refl _) ⟨rfl, .refl _⟩
  | false =>
    simp only [sxA, sxB, Nat.reduceBEq, Nat.reduceEqDiff, reduceCtorEq, mxA, mxB, Nat.reduceAdd, reduceIte, Nat.reduceLeDiff, splice, Zdk, bl_mkS, z2, hrem, hodd]
    cases h1 : Nat.beq (w.length % 2) 0 with
    | false =>
      simp only [sxA, sxB, Nat.reduceBEq, Nat.reduceEqDiff, reduceCtorEq, mxA, mxB, Nat.reduceAdd, reduceIte, Nat.reduceLeDiff, splice, Bool.false_or, ret_linotyperef31_unpaired]
      exact .mk (Nat.le_refl _) ⟨rfl, .refl _⟩
    | true =>
      have hev : w.length % 2 = 0 := Nat.eq_of_beq_eq_true h1
      simp only [sxA, sxB, Nat.reduceBEq, Nat.reduceEqDiff, reduceCtorEq, mxA, mxB, Nat.reduceAdd, reduceIte, Nat.reduceLeDiff, splice, Bool.false_or, pc_linotyperef31_unpaired_3]
      generalize hR : unpF w = R
      refine loop_intro (fun q A' H' => ∃ (i : Nat) (l : List UInt8) (v : Value), q = w.length - i ∧ i ≤ w.length ∧ i % 2 = 0 ∧ H'.Wf ∧ Ext H H' ∧ l.length ≤ i ∧ (unpF (w.drop i)).map (l ++ ·) = R ∧ Gs 1 5 H H' v l.length (u8v l) ∧ A' 0 = .string (mkS w) ∧ A' 4 = v ∧ A' 5 = .int .i64 i) w.length ?_ ?_
      · refine ⟨0, [], .slice none 0 0, rfl, Nat.zero_le _, rfl, hw, .refl _, Nat.le_refl _, ?_, .inl ⟨rfl, rfl, rfl⟩, ?_, ?_, ?_⟩
        · rw [List.drop_zero, hR]; cases R <;> rfl
        all_goals simp only [uxA, uxB, Nat.reduceBEq]
        all_goals rfl
      · rintro q A' H1 ⟨i, l, v, rfl, hiw, hi2, hw1, hx1, hli, hun, hgs, r0, r4, r5⟩
        by_cases hi : i < w.length
        · have hi1 : i + 1 < w.length := by omega
          have e1 : decide ((i : Int) < (w.length : Int)) = true := decide_eq_true (by omega)
          have t0 : (0 : Int) ≤ (i : Int) := Int.natCast_nonneg _
          have u0 : (i : Int).toNat = i := Int.toNat_natCast _
          have t1 : (0 : Int) ≤ ((i + 1 : Nat) : Int) := Int.natCast_nonneg _
          have u1 : ((i + 1 : Nat) : Int).toNat = i + 1 := Int.toNat_natCast _
          have ei : IntKind.i64.wrap ((i : Int) + 1) = ((i + 1 : Nat) : Int) := by rw [w64 (by unfold I64; omega)]; rfl
          have ei2 : IntKind.i64.wrap ((i : Int) + 2) = ((i + 2 : Nat) : Int) := by rw [w64 (by unfold I64; omega)]; rfl
          have pa := List.getElem?_eq_getElem hi
          have pb := List.getElem?_eq_getElem hi1
          have hds : w.drop i = w[i] :: w[i + 1] :: w.drop (i + 2) := by rw [List.drop_eq_getElem_cons hi, List.drop_eq_getElem_cons hi1]
          rw [hds] at hun
          generalize w[i] = a at *
          generalize w[i + 1] = b at *
          have ha := hexD_le a.toNat
          have hb := hexD_le b.toNat
          rw [unpF] at hun
          simp only [pc_linotyperef31_unpaired_2, pc_linotyperef31_unpaired_1, sxA, sxB, Nat.reduceBEq, Nat.reduceEqDiff, reduceCtorEq, mxA, mxB, Nat.reduceAdd, reduceIte, Nat.reduceLeDiff, splice, Zdk, Zbw, bl_mkS, r0, r4, r5, e1, t0, u0, pa, ei]
          refine (q_ref31_digit a.toNat a.toNat_lt H1).thenW ?_
          rintro _ H2 _ hw2 ⟨rfl, rfl⟩
          simp only [sxA, sxB, Nat.reduceBEq, Nat.reduceEqDiff, reduceCtorEq, mxA, mxB, Nat.reduceAdd, reduceIte, Nat.reduceLeDiff, splice, Zbw, bl_mkS, r0, r5, ei, t1, u1, pb]
          refine (q_ref31_digit b.toNat b.toNat_lt H2).thenW ?_
          rintro _ H3 _ hw3 ⟨rfl, rfl⟩
          have g1 : decide ((15 : Int) < ((hexD a.toNat : Nat) : Int)) = Nat.blt 15 (hexD a.toNat) := by rw [blt_dec]; simp only [decide_eq_decide]; omega
          have g2 : decide ((15 : Int) < ((hexD b.toNat : Nat) : Int)) = Nat.blt 15 (hexD b.toNat) := by rw [blt_dec]; simp only [decide_eq_decide]; omega
          simp only [sxA, sxB, Nat.reduceBEq, Nat.reduceEqDiff, reduceCtorEq, mxA, mxB, Nat.reduceAdd, reduceIte, Nat.reduceLeDiff, splice, r0, r4, r5, g1, g2]
          cases b1 : Nat.blt 15 (hexD a.toNat) with
          | true =>
            rw [b1, Bool.true_or, cond_true] at hun
            simp only [sxA, sxB, Nat.reduceBEq, Nat.reduceEqDiff, reduceCtorEq, mxA, mxB, Nat.reduceAdd, reduceIte, Nat.reduceLeDiff, splice, ret_linotyperef31_unpaired]
            rw [← hun]
            exact .mk hx1.next ⟨rfl, hx1⟩
          | false =>
            simp only [sxA, sxB, Nat.reduceBEq, Nat.reduceEqDiff, reduceCtorEq, mxA, mxB, Nat.reduceAdd, reduceIte, Nat.reduceLeDiff, splice, g2]
            cases b2 : Nat.blt 15 (hexD b.toNat) with
            | true =>
              rw [b1, b2, Bool.or_true, cond_true] at hun
              simp only [sxA, sxB, Nat.reduceBEq, Nat.reduceEqDiff, reduceCtorEq, mxA, mxB, Nat.reduceAdd, reduceIte, Nat.reduceLeDiff, splice, ret_linotyperef31_unpaired]
              rw [← hun]
              exact .mk hx1.next ⟨rfl, hx1⟩
            | false =>
              rw [b1, b2, Bool.or_false, cond_false] at hun
              have ha : hexD a.toNat ≤ 15 := by rw [blt_dec] at b1; have := of_decide_eq_false b1; omega
              have hb : hexD b.toNat ≤ 15 := by rw [blt_dec] at b2; have := of_decide_eq_false b2; omega
              have w1 : IntKind.i64.wrap (16 * ((hexD a.toNat : Nat) : Int)) = ((16 * hexD a.toNat : Nat) : Int) := by rw [w64 (by unfold I64; omega)]; omega
              have w2 : IntKind.i64.wrap (((16 * hexD a.toNat : Nat) : Int) + ((hexD b.toNat : Nat) : Int)) = ((16 * hexD a.toNat + hexD b.toNat : Nat) : Int) := by rw [w64 (by unfold I64; omega)]; omega
              have w3 : IntKind.u8.wrap ((16 * hexD a.toNat + hexD b.toNat : Nat) : Int) = ((((16 * hexD a.toNat + hexD b.toNat).toUInt8).toNat : Nat) : Int) := by
                rw [IntKind.wrap_u8]
                simp
              simp only [sxA, sxB, Nat.reduceBEq, Nat.reduceEqDiff, reduceCtorEq, mxA, mxB, Nat.reduceAdd, reduceIte, Nat.reduceLeDiff, splice, r0, r4, r5, w1, w2, w3, syA]
              refine gs_app (H := H3.push (.cells [.int .u8 ((((16 * hexD a.toNat + hexD b.toNat).toUInt8).toNat : Nat) : Int)] 5 false)) (hgs.ext fun id hid => ?_) (hx1.push _) (hw3.push _) (asrc_one (by rw [Heap.get_push, if_pos rfl])) rfl (by decide) rfl (by omega) (by omega) ?_
              · have := hgs.low hw3 hid
                rw [Heap.get_push, if_neg (by omega)]
              · intro v' H' hgs' hx' hw' _ _ _
                simp only [sxA, sxB, Nat.reduceBEq, Nat.reduceEqDiff, reduceCtorEq, mxA, mxB, Nat.reduceAdd, reduceIte, Nat.reduceLeDiff, splice, r5, ei2]
                refine ⟨w.length - (i + 2), by omega, i + 2, l ++ [(16 * hexD a.toNat + hexD b.toNat).toUInt8], v', rfl, by omega, by omega, hw', hx', by rw [List.length_append, List.length_singleton]; omega, ?_, ?_, ?_, ?_, ?_⟩
                · rw [← hun, Option.map_map]; congr 1; funext z; simp
                · have hst : u8v (l ++ [(16 * hexD a.toNat + hexD b.toNat).toUInt8]) = u8v l ++ [.int .u8 ((((16 * hexD a.toNat + hexD b.toNat).toUInt8).toNat : Nat) : Int)] := by simp [u8v]
                  rw [List.length_append, hst]; exact hgs'
                all_goals simp only [uxA, uxB, Nat.reduceBEq, r0]
        · have e1 : decide ((i : Int) < (w.length : Int)) = false := decide_eq_false (by omega)
          rw [List.drop_eq_nil_of_le (by omega)] at hun
          have hun : some (l ++ []) = R := hun
          rw [List.append_nil] at hun
          simp only [pc_linotyperef31_unpaired_2, sxA, sxB, Nat.reduceBEq, Nat.reduceEqDiff, reduceCtorEq, mxA, mxB, Nat.reduceAdd, reduceIte, Nat.reduceLeDiff, splice, Zdk, bl_mkS, r0, r4, r5, e1, ret_linotyperef31_unpaired]
          rw [← hun]
          exact .mk hx1.next ⟨⟨v, rfl, hgs⟩, hx1⟩
end Go.Proofs.YthoanamkoigjeaaGreatDoor.code
