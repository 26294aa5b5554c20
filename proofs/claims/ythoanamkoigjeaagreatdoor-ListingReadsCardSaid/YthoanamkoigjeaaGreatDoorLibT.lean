/- The document's Check. -/
import Derived.Test.YthoanamkoigjeaaGreatDoorLibS
set_option linter.unusedVariables false
set_option linter.unusedSimpArgs false
set_option maxRecDepth 100000
set_option maxHeartbeats 4000000
namespace Go.Proofs.YthoanamkoigjeaaGreatDoor.code
open Go.Ab

def SymAt (l : List Sy) (i : Nat) : Prop := ∀ y, l[i]? = some y → nameF y.name = true ∧ ∀ p, i ≠ 0 → l[i - 1]? = some p → Op.bytesLess p.name y.name = true
def SymsOk (l : List Sy) : Prop := ∀ i, SymAt l i
theorem q_ref31_symbols (l : List Sy) (v : Value) (hl : ∀ y ∈ l, y.name.length ≤ 1000000) (hn : l.length ≤ 20000) (H : Heap) (hs : IsSl H v l.length (symC l)) : CallQ prog f_linotyperef31_symbols [v] H fun u H' => (∃ t : Bool, u = .bool t ∧ (t = true ↔ SymsOk l)) ∧ H' = H := by
  refine in_linotyperef31_symbols fun hw => ?_
  obtain ⟨a, cap, rfl, hla⟩ := hs
  simp only [pc_linotyperef31_symbols, sxA, sxB, Nat.reduceBEq, Nat.reduceEqDiff, reduceCtorEq, mxA, mxB, Nat.reduceAdd, reduceIte, Nat.reduceLeDiff, splice]
  refine loop_intro (fun m A' H' => ∃ i : Nat, i ≤ l.length ∧ m = l.length - i ∧ H' = H ∧ (∀ j < i, SymAt l j) ∧ A' 0 = .slice a l.length cap ∧ A' 3 = .int .i64 i) l.length ?_ ?_
  · refine ⟨0, Nat.zero_le _, rfl, rfl, fun j hj => by omega, ?_, ?_⟩
    all_goals simp only [uxA, uxB, Nat.reduceBEq]
    all_goals rfl
  · rintro m A' H' ⟨i, hi, rfl, hEq, hall, r0, r3⟩
    subst hEq
    by_cases h2 : i < l.length
    · have e1 : decide ((i : Int) < (l.length : Int)) = true := decide_eq_true (by omega)
      have c1 : (0 : Int) ≤ (i : Int) ∧ (i : Int) < (l.length : Int) := by omega
      have u1 : (i : Int).toNat = i := Int.toNat_natCast _
      have ei : IntKind.i64.wrap ((i : Int) + 1) = ((i + 1 : Nat) : Int) := by rw [w64 (by unfold I64; omega)]; rfl
      obtain ⟨b, e, ro, rfl, hgl⟩ := hla (by omega)
      have p1 := List.getElem?_eq_getElem h2
      have hlm := hl _ (List.getElem_mem h2)
      generalize l[i] = y at *
      have g1 := symC_at p1
      rw [Nat.add_zero] at g1
      have done : ∀ t : Bool, (t = true → SymAt l i) → (t = false → ¬ SymAt l i) → ∀ A : Env, (t = true → A 0 = .slice (some ⟨b, 0, none⟩) l.length cap ∧ A 3 = .int .i64 i) → True := fun _ _ _ _ _ => trivial
      simp only [pc_linotyperef31_symbols_2, pc_linotyperef31_symbols_1, sxA, sxB, Nat.reduceBEq, Nat.reduceEqDiff, reduceCtorEq, mxA, mxB, Nat.reduceAdd, reduceIte, Nat.reduceLeDiff, splice, syA, r0, r3, e1, c1, decide_true, u1, hgl, g1]
      refine (q_ref22_Name (mkS y.name) (by rw [bl_mkS]; exact hlm) H').thenW ?_
      rintro _ H2 _ hw2 ⟨rfl, rfl⟩
      rw [bl_mkS]
      cases hnm : nameF y.name with
      | false =>
        simp only [sxA, sxB, Nat.reduceBEq, Nat.reduceEqDiff, reduceCtorEq, mxA, mxB, Nat.reduceAdd, reduceIte, Nat.reduceLeDiff, splice, ret_linotyperef31_symbols]
        exact .mk (Nat.le_refl _) ⟨⟨false, rfl, ⟨(fun h => nomatch h), fun h => by have := (h i y p1).1; rw [hnm] at this; exact this⟩⟩, rfl⟩
      | true =>
        by_cases h0 : i = 0
        · have e2 : decide ((0 : Int) < (i : Int)) = false := decide_eq_false (by omega)
          simp only [sxA, sxB, Nat.reduceBEq, Nat.reduceEqDiff, reduceCtorEq, mxA, mxB, Nat.reduceAdd, reduceIte, Nat.reduceLeDiff, splice, r3, e2, ei]
          refine ⟨l.length - (i + 1), by omega, i + 1, by omega, rfl, rfl, ?_, ?_, ?_⟩
          · intro j hj
            by_cases hji : j = i
            · subst hji
              intro z hz
              rw [p1] at hz; cases hz
              exact ⟨hnm, fun p hp => absurd h0 hp⟩
            · exact hall j (by omega)
          all_goals simp only [uxA, uxB, Nat.reduceBEq, r0]
        · have e2 : decide ((0 : Int) < (i : Int)) = true := decide_eq_true (by omega)
          have em : IntKind.i64.wrap ((i : Int) - 1) = ((i - 1 : Nat) : Int) := by rw [w64 (by unfold I64; omega)]; omega
          have c5 : (0 : Int) ≤ ((i - 1 : Nat) : Int) ∧ ((i - 1 : Nat) : Int) < (l.length : Int) := by omega
          have u5 : ((i - 1 : Nat) : Int).toNat = i - 1 := Int.toNat_natCast _
          have p5 := List.getElem?_eq_getElem (show i - 1 < l.length by omega)
          generalize l[i - 1] = z at *
          have g5 := symC_at p5
          rw [Nat.add_zero] at g5
          simp only [sxA, sxB, Nat.reduceBEq, Nat.reduceEqDiff, reduceCtorEq, mxA, mxB, Nat.reduceAdd, reduceIte, Nat.reduceLeDiff, splice, syA, r0, r3, e2, em, c5, c1, decide_true, u1, u5, hgl, g1, g5]
          cases hlt : Op.bytesLess z.name y.name with
          | false =>
            simp only [sxA, sxB, Nat.reduceBEq, Nat.reduceEqDiff, reduceCtorEq, mxA, mxB, Nat.reduceAdd, reduceIte, Nat.reduceLeDiff, splice, ret_linotyperef31_symbols]
            exact .mk (Nat.le_refl _) ⟨⟨false, rfl, ⟨(fun h => nomatch h), fun h => by have := (h i y p1).2 z h0 p5; rw [hlt] at this; exact this⟩⟩, rfl⟩
          | true =>
            simp only [sxA, sxB, Nat.reduceBEq, Nat.reduceEqDiff, reduceCtorEq, mxA, mxB, Nat.reduceAdd, reduceIte, Nat.reduceLeDiff, splice, r3, ei]
            refine ⟨l.length - (i + 1), by omega, i + 1, by omega, rfl, rfl, ?_, ?_, ?_⟩
            · intro j hj
              by_cases hji : j = i
              · subst hji
                intro w hz
                rw [p1] at hz; cases hz
                refine ⟨hnm, fun p _ hp => ?_⟩
                rw [p5] at hp; cases hp; exact hlt
              · exact hall j (by omega)
            all_goals simp only [uxA, uxB, Nat.reduceBEq, r0]
    · have e1 : decide ((i : Int) < (l.length : Int)) = false := decide_eq_false (by omega)
      simp only [pc_linotyperef31_symbols_2, sxA, sxB, Nat.reduceBEq, Nat.reduceEqDiff, reduceCtorEq, mxA, mxB, Nat.reduceAdd, reduceIte, Nat.reduceLeDiff, splice, r0, r3, e1, Zdi, ret_linotyperef31_symbols]
      refine .mk (Nat.le_refl _) ⟨⟨true, rfl, ⟨fun _ j => ?_, fun _ => rfl⟩⟩, rfl⟩
      by_cases hj : j < i
      · exact hall j hj
      · intro y hy
        rw [List.getElem?_eq_none (by omega)] at hy
        cases hy
def marksF : List Mk → Int → Int → Int → Bool
  | [], a, e, _ => a == e
  | m :: l, a, e, ln => if m.at_ ≠ a ∨ m.size < 1 ∨ e - a < m.size ∨ m.line < ln ∨ 1048576 < m.line then false else marksF l (a + m.size) e m.line
theorem markC_at1 {l : List Mk} {i : Nat} {m : Mk} (h : l[i]? = some m) : (markC l)[i * 3 + 0]? = some (.int .i64 m.line) ∧ (markC l)[i * 3 + 1]? = some (.int .i64 m.at_) ∧ (markC l)[i * 3 + 2]? = some (.int .i64 m.size) := by
  induction l generalizing i with
  | nil => simp at h
  | cons a l ih =>
    have e : markC (a :: l) = a.cells ++ markC l := rfl
    cases i with
    | zero => simp at h; subst h; exact ⟨rfl, rfl, rfl⟩
    | succ i =>
      have hl : a.cells.length = 3 := rfl
      rw [e, List.getElem?_append_right (by omega), List.getElem?_append_right (by omega), List.getElem?_append_right (by omega), hl, show (i + 1) * 3 + 0 - 3 = i * 3 + 0 by omega, show (i + 1) * 3 + 1 - 3 = i * 3 + 1 by omega, show (i + 1) * 3 + 2 - 3 = i * 3 + 2 by omega]
      exact ih (by simpa using h)
theorem q_ref31_marks (l : List Mk) (v : Value) (a0 e0 : Int) (ha : 0 ≤ a0 ∧ a0 ≤ e0 ∧ e0 ≤ 281474976710656) (hn : l.length ≤ 1000000) (H : Heap) (hs : IsSl H v l.length (markC l)) : CallQ prog f_linotyperef31_marks [v, .int .i64 a0, .int .i64 e0] H fun u H' => u = .bool (marksF l a0 e0 1) ∧ H' = H := by
  refine in_linotyperef31_marks fun hw => ?_
  obtain ⟨av, cap, rfl, hla⟩ := hs
  simp only [pc_linotyperef31_marks, sxA, sxB, Nat.reduceBEq, Nat.reduceEqDiff, reduceCtorEq, mxA, mxB, Nat.reduceAdd, reduceIte, Nat.reduceLeDiff, splice]
  refine loop_intro (fun m A' H' => ∃ (i : Nat) (a ln : Int), i ≤ l.length ∧ m = l.length - i ∧ H' = H ∧ 0 ≤ a ∧ a ≤ e0 ∧ marksF l a0 e0 1 = marksF (l.drop i) a e0 ln ∧ A' 0 = .slice av l.length cap ∧ A' 1 = .int .i64 a ∧ A' 2 = .int .i64 e0 ∧ A' 7 = .int .i64 ln ∧ A' 8 = .int .i64 i) l.length ?_ ?_
  · refine ⟨0, a0, 1, Nat.zero_le _, rfl, rfl, ha.1, ha.2.1, rfl, ?_, ?_, ?_, ?_, ?_⟩
    all_goals simp only [uxA, uxB, Nat.reduceBEq]
    all_goals rfl
  · rintro m A' H' ⟨i, a, ln, hi, rfl, hEq, h1, hae, hmf, r0, r1, r2, r7, r8⟩
    subst hEq
    by_cases h2 : i < l.length
    · have e1 : decide ((i : Int) < (l.length : Int)) = true := decide_eq_true (by omega)
      have c1 : (0 : Int) ≤ (i : Int) ∧ (i : Int) < (l.length : Int) := by omega
      have u1 : (i : Int).toNat = i := Int.toNat_natCast _
      have ei : IntKind.i64.wrap ((i : Int) + 1) = ((i + 1 : Nat) : Int) := by rw [w64 (by unfold I64; omega)]; rfl
      obtain ⟨b, e, ro, rfl, hgl⟩ := hla (by omega)
      have hdr : l.drop i = l[i] :: l.drop (i + 1) := List.drop_eq_getElem_cons h2
      rw [hdr] at hmf
      have p1 := List.getElem?_eq_getElem h2
      generalize l[i] = m at *
      obtain ⟨g1, g2, g3⟩ := markC_at1 p1
      rw [Nat.add_zero] at g1
      have es : IntKind.i64.wrap (e0 - a) = e0 - a := w64 (by unfold I64; omega)
      rw [marksF] at hmf
      have fail : (m.at_ ≠ a ∨ m.size < 1 ∨ e0 - a < m.size ∨ m.line < ln ∨ 1048576 < m.line) → marksF l a0 e0 1 = false := fun h => by rw [hmf, if_pos h]
      simp only [pc_linotyperef31_marks_3, pc_linotyperef31_marks_2, sxA, sxB, Nat.reduceBEq, Nat.reduceEqDiff, reduceCtorEq, mxA, mxB, Nat.reduceAdd, reduceIte, Nat.reduceLeDiff, splice, r0, r1, r2, r7, r8, e1, c1, decide_true, u1, hgl, g2]
      by_cases k1 : m.at_ = a
      · have f1 : (m.at_ == a) = true := beq_iff_eq.2 k1
        simp only [sxA, sxB, Nat.reduceBEq, Nat.reduceEqDiff, reduceCtorEq, mxA, mxB, Nat.reduceAdd, reduceIte, Nat.reduceLeDiff, splice, r0, r1, r2, r7, r8, f1, c1, decide_true, u1, hgl, g3]
        by_cases k2 : m.size < 1
        · simp only [sxA, sxB, Nat.reduceBEq, Nat.reduceEqDiff, reduceCtorEq, mxA, mxB, Nat.reduceAdd, reduceIte, Nat.reduceLeDiff, splice, decide_eq_true k2, ret_linotyperef31_marks]
          exact .mk (Nat.le_refl _) ⟨by rw [fail (.inr (.inl k2))], rfl⟩
        · simp only [sxA, sxB, Nat.reduceBEq, Nat.reduceEqDiff, reduceCtorEq, mxA, mxB, Nat.reduceAdd, reduceIte, Nat.reduceLeDiff, splice, r0, r1, r2, r7, r8, decide_eq_false k2, c1, decide_true, u1, hgl, g3, es]
          by_cases k3 : e0 - a < m.size
          · simp only [sxA, sxB, Nat.reduceBEq, Nat.reduceEqDiff, reduceCtorEq, mxA, mxB, Nat.reduceAdd, reduceIte, Nat.reduceLeDiff, splice, decide_eq_true k3, ret_linotyperef31_marks]
            exact .mk (Nat.le_refl _) ⟨by rw [fail (.inr (.inr (.inl k3)))], rfl⟩
          · simp only [sxA, sxB, Nat.reduceBEq, Nat.reduceEqDiff, reduceCtorEq, mxA, mxB, Nat.reduceAdd, reduceIte, Nat.reduceLeDiff, splice, r0, r1, r2, r7, r8, decide_eq_false k3, c1, decide_true, u1, hgl, g1]
            by_cases k4 : m.line < ln
            · simp only [sxA, sxB, Nat.reduceBEq, Nat.reduceEqDiff, reduceCtorEq, mxA, mxB, Nat.reduceAdd, reduceIte, Nat.reduceLeDiff, splice, decide_eq_true k4, ret_linotyperef31_marks]
              exact .mk (Nat.le_refl _) ⟨by rw [fail (.inr (.inr (.inr (.inl k4))))], rfl⟩
            · simp only [sxA, sxB, Nat.reduceBEq, Nat.reduceEqDiff, reduceCtorEq, mxA, mxB, Nat.reduceAdd, reduceIte, Nat.reduceLeDiff, splice, r0, r1, r2, r7, r8, decide_eq_false k4, c1, decide_true, u1, hgl, g1]
              by_cases k5 : 1048576 < m.line
              · simp only [sxA, sxB, Nat.reduceBEq, Nat.reduceEqDiff, reduceCtorEq, mxA, mxB, Nat.reduceAdd, reduceIte, Nat.reduceLeDiff, splice, decide_eq_true k5, ret_linotyperef31_marks]
                exact .mk (Nat.le_refl _) ⟨by rw [fail (.inr (.inr (.inr (.inr k5))))], rfl⟩
              · have ea : IntKind.i64.wrap (a + m.size) = a + m.size := w64 (by unfold I64; omega)
                rw [if_neg (by omega)] at hmf
                simp only [sxA, sxB, Nat.reduceBEq, Nat.reduceEqDiff, reduceCtorEq, mxA, mxB, Nat.reduceAdd, reduceIte, Nat.reduceLeDiff, splice, pc_linotyperef31_marks_1, r0, r1, r2, r7, r8, decide_eq_false k5, c1, decide_true, u1, hgl, g1, g3, ea, ei]
                refine ⟨l.length - (i + 1), by omega, i + 1, a + m.size, m.line, by omega, rfl, rfl, by omega, by omega, hmf, ?_, ?_, ?_, ?_, ?_⟩
                all_goals simp only [uxA, uxB, Nat.reduceBEq, r0, r2]
      · have f1 : (m.at_ == a) = false := beq_eq_false_iff_ne.2 k1
        simp only [sxA, sxB, Nat.reduceBEq, Nat.reduceEqDiff, reduceCtorEq, mxA, mxB, Nat.reduceAdd, reduceIte, Nat.reduceLeDiff, splice, f1, ret_linotyperef31_marks]
        exact .mk (Nat.le_refl _) ⟨by rw [fail (.inl k1)], rfl⟩
    · have e1 : decide ((i : Int) < (l.length : Int)) = false := decide_eq_false (by omega)
      rw [List.drop_eq_nil_of_le (by omega), marksF] at hmf
      simp only [pc_linotyperef31_marks_3, sxA, sxB, Nat.reduceBEq, Nat.reduceEqDiff, reduceCtorEq, mxA, mxB, Nat.reduceAdd, reduceIte, Nat.reduceLeDiff, splice, r0, r1, r2, r7, r8, e1, Zdi, ret_linotyperef31_marks]
      exact .mk (Nat.le_refl _) ⟨by rw [hmf], rfl⟩
end Go.Proofs.YthoanamkoigjeaaGreatDoor.code
/- The document's Check of an image, and a line of one. -/
set_option linter.unusedVariables false
set_option linter.unusedSimpArgs false
set_option maxRecDepth 100000
set_option maxHeartbeats 4000000
namespace Go.Proofs.YthoanamkoigjeaaGreatDoor.code
open Go.Ab

def ChkOk (x : Im) : Prop := (x.b.length ≤ 1048576 ∧ x.syms.length ≤ 20000 ∧ x.marks.length ≤ 20000) ∧ (0 ≤ x.org ∧ x.org ≤ 140737488355328) ∧ SymsOk x.syms ∧ marksF x.marks x.org (x.org + x.b.length) 1 = true
theorem Gs.isl {size : Nat} {e : TypeId} {H0 H : Heap} {v : Value} {n : Nat} {cs : List Value} (h : Gs size e H0 H v n cs) : IsSl H v n cs := by
  rcases h with ⟨rfl, rfl, rfl⟩ | ⟨b, rfl, h2, h3, h4⟩
  · exact ⟨none, 0, rfl, fun h => by omega⟩
  · exact ⟨_, _, rfl, fun _ => ⟨b, e, false, rfl, h3⟩⟩
theorem q_ref31_Check (x : Im) (vb vs vm : Value) (hnm : ∀ y ∈ x.syms, y.name.length ≤ 1000000) (H : Heap) (hb : ∃ a c, vb = .slice a x.b.length c) (hs : IsSl H vs x.syms.length (symC x.syms)) (hm : IsSl H vm x.marks.length (markC x.marks)) (hsz : x.b.length ≤ 1000000000 ∧ x.syms.length ≤ 1000000000 ∧ x.marks.length ≤ 1000000000) : CallQ prog f_linotyperef31_Check [.agg #[.int .i64 x.org, vb, vs, vm]] H fun u H' => (∃ z : Int, u = .int .i64 z ∧ ((z == 0) = true ↔ ChkOk x)) ∧ Ext H H' := by
  refine in_linotyperef31_Check fun hw => ?_
  obtain ⟨ba, bc, rfl⟩ := hb
  obtain ⟨sa, sc, rfl, hs1⟩ := id hs
  obtain ⟨ma, mc, rfl, hm1⟩ := id hm
  simp only [pc_linotyperef31_Check, sxA, sxB, Nat.reduceBEq, Nat.reduceEqDiff, reduceCtorEq, mxA, mxB, Nat.reduceAdd, reduceIte, Nat.reduceLeDiff, splice]
  have hx1 : ∀ c, Ext H (H.push c) := fun c => (Ext.refl H).push c
  have nx : ∀ c, H.next ≤ (H.push c).next := fun c => by rw [Heap.next_push]; omega
  have bad : ∀ (z : Int) (A : Env) (c : Blk), A 2 = .int .i64 z → (z == 0) = false → ¬ ChkOk x → Rt prog F_linotyperef31_Check H (fun u H' => (∃ z : Int, u = .int .i64 z ∧ ((z == 0) = true ↔ ChkOk x)) ∧ Ext H H') A (H.push c) := fun z A c h2 hz hno => by
    rw [ret_linotyperef31_Check, h2]
    exact .mk (nx c) ⟨⟨z, rfl, ⟨fun h => absurd (hz.symm.trans h) Bool.false_ne_true, fun h => absurd h hno⟩⟩, hx1 c⟩
  by_cases k1 : (1048576 : Int) < (x.b.length : Int)
  · simp only [sxA, sxB, Nat.reduceBEq, Nat.reduceEqDiff, reduceCtorEq, mxA, mxB, Nat.reduceAdd, reduceIte, Nat.reduceLeDiff, splice, decide_eq_true k1, Zdi]
    exact bad 3 _ _ (by simp only [uxA, uxB, Nat.reduceBEq]) rfl fun h => by have := h.1.1; omega
  · simp only [sxA, sxB, Nat.reduceBEq, Nat.reduceEqDiff, reduceCtorEq, mxA, mxB, Nat.reduceAdd, reduceIte, Nat.reduceLeDiff, splice, decide_eq_false k1, Zdi]
    by_cases k2 : (20000 : Int) < (x.syms.length : Int)
    · simp only [sxA, sxB, Nat.reduceBEq, Nat.reduceEqDiff, reduceCtorEq, mxA, mxB, Nat.reduceAdd, reduceIte, Nat.reduceLeDiff, splice, decide_eq_true k2, Zdi]
      exact bad 3 _ _ (by simp only [uxA, uxB, Nat.reduceBEq]) rfl fun h => by have := h.1.2.1; omega
    · simp only [sxA, sxB, Nat.reduceBEq, Nat.reduceEqDiff, reduceCtorEq, mxA, mxB, Nat.reduceAdd, reduceIte, Nat.reduceLeDiff, splice, decide_eq_false k2, Zdi]
      by_cases k3 : (20000 : Int) < (x.marks.length : Int)
      · simp only [sxA, sxB, Nat.reduceBEq, Nat.reduceEqDiff, reduceCtorEq, mxA, mxB, Nat.reduceAdd, reduceIte, Nat.reduceLeDiff, splice, decide_eq_true k3, Zdi]
        exact bad 3 _ _ (by simp only [uxA, uxB, Nat.reduceBEq]) rfl fun h => by have := h.1.2.2; omega
      · simp only [sxA, sxB, Nat.reduceBEq, Nat.reduceEqDiff, reduceCtorEq, mxA, mxB, Nat.reduceAdd, reduceIte, Nat.reduceLeDiff, splice, decide_eq_false k3, pc_linotyperef31_Check_1]
        by_cases k4 : x.org < 0
        · simp only [sxA, sxB, Nat.reduceBEq, Nat.reduceEqDiff, reduceCtorEq, mxA, mxB, Nat.reduceAdd, reduceIte, Nat.reduceLeDiff, splice, decide_eq_true k4]
          exact bad 2 _ _ (by simp only [uxA, uxB, Nat.reduceBEq]) rfl fun h => by have := h.2.1.1; omega
        · simp only [sxA, sxB, Nat.reduceBEq, Nat.reduceEqDiff, reduceCtorEq, mxA, mxB, Nat.reduceAdd, reduceIte, Nat.reduceLeDiff, splice, decide_eq_false k4]
          by_cases k5 : 140737488355328 < x.org
          · simp only [sxA, sxB, Nat.reduceBEq, Nat.reduceEqDiff, reduceCtorEq, mxA, mxB, Nat.reduceAdd, reduceIte, Nat.reduceLeDiff, splice, decide_eq_true k5]
            exact bad 2 _ _ (by simp only [uxA, uxB, Nat.reduceBEq]) rfl fun h => by have := h.2.1.2; omega
          · simp only [sxA, sxB, Nat.reduceBEq, Nat.reduceEqDiff, reduceCtorEq, mxA, mxB, Nat.reduceAdd, reduceIte, Nat.reduceLeDiff, splice, decide_eq_false k5]
            generalize hP : Heap.push H _ = H1
            obtain ⟨c, hP⟩ : ∃ c, H1 = H.push (.cells [.int .i64 x.org, .slice ba x.b.length bc, .slice sa x.syms.length sc, .slice ma x.marks.length mc] c false) := ⟨_, hP.symm⟩
            have hxp : Ext H H1 := by rw [hP]; exact hx1 _
            have hwp : H1.Wf := by rw [hP]; exact hw.push _
            have hgp : H1.get H.next = some (.cells [.int .i64 x.org, .slice ba x.b.length bc, .slice sa x.syms.length sc, .slice ma x.marks.length mc] c false) := by rw [hP, Heap.get_push, if_pos rfl]
            have bad := fun z A h2 hz hno => bad z A (.cells [.int .i64 x.org, .slice ba x.b.length bc, .slice sa x.syms.length sc, .slice ma x.marks.length mc] c false) h2 hz hno
            rw [← hP] at bad
            clear hP
            refine (q_ref31_symbols x.syms _ hnm (by omega) H1 (hs.ext hw hxp)).thenW ?_
            rintro _ H2 _ hw2 ⟨⟨t, rfl, ht⟩, rfl⟩
            cases t with
            | false =>
              simp only [sxA, sxB, Nat.reduceBEq, Nat.reduceEqDiff, reduceCtorEq, mxA, mxB, Nat.reduceAdd, reduceIte, Nat.reduceLeDiff, splice]
              exact bad 2 _ (by simp only [uxA, uxB, Nat.reduceBEq]) rfl fun h => absurd (ht.2 h.2.2.1) Bool.false_ne_true
            | true =>
              have eo : IntKind.i64.wrap (x.org + (x.b.length : Int)) = x.org + (x.b.length : Int) := w64 (by unfold I64; omega)
              simp only [sxA, sxB, Nat.reduceBEq, Nat.reduceEqDiff, reduceCtorEq, mxA, mxB, Nat.reduceAdd, reduceIte, Nat.reduceLeDiff, splice, hgp, Zdi, eo]
              refine (q_ref31_marks x.marks _ x.org (x.org + x.b.length) (by omega) (by omega) H2 (hm.ext hw hxp)).thenW ?_
              rintro _ H3 _ hw3 ⟨rfl, rfl⟩
              cases hmk : marksF x.marks x.org (x.org + x.b.length) 1 with
              | false =>
                simp only [sxA, sxB, Nat.reduceBEq, Nat.reduceEqDiff, reduceCtorEq, mxA, mxB, Nat.reduceAdd, reduceIte, Nat.reduceLeDiff, splice]
                exact bad 2 _ (by simp only [uxA, uxB, Nat.reduceBEq]) rfl fun h => absurd (hmk.symm.trans h.2.2.2) Bool.false_ne_true
              | true =>
                simp only [sxA, sxB, Nat.reduceBEq, Nat.reduceEqDiff, reduceCtorEq, mxA, mxB, Nat.reduceAdd, reduceIte, Nat.reduceLeDiff, splice, ret_linotyperef31_Check]
                exact .mk hxp.next ⟨⟨0, rfl, ⟨fun _ => ⟨by omega, by omega, ht.1 rfl, hmk⟩, fun _ => rfl⟩⟩, hxp⟩
theorem appK_zero {e size bytes : Nat} {H0 H : Heap} {v : Value} {n : Nat} {cs : List Value} {k : Value → Heap → Prop} (hs : Gs size e H0 H v n cs) (h : k v H) : appK e size bytes v (.slice none 0 0) H k := by
  have e0 : asrc size (.slice none 0 0) H = some (0, []) := by simp [asrc]
  unfold appK
  rcases hs with ⟨rfl, rfl, rfl⟩ | ⟨b, rfl, h2, h3, h4⟩
  · have : rappend e size bytes (.slice none 0 0) (.slice none 0 0) H = some (.slice none 0 0, H) := by simp [rappend, e0]
    rw [this, onS_some]; exact h
  · have : rappend e size bytes (.slice (some ⟨b, 0, none⟩) n (UNK + size)) (.slice none 0 0) H = some (.slice (some ⟨b, 0, none⟩) n (UNK + size), H) := by
      simp [rappend, e0]
    rw [this, onS_some]; exact h
theorem ImAt.low' {H0 H : Heap} {x : Im} {vb vs vm : Value} (h : ImAt H0 H x vb vs vm) (hw : H.Wf) : (∀ id, inBlk vb id → id < H.next) ∧ (∀ id, inBlk vs id → id < H.next) ∧ (∀ id, inBlk vm id → id < H.next) :=
  ⟨fun _ hi => (h.gb.low hw hi).2, fun _ hi => (h.gs.low hw hi).2, fun _ hi => (h.gm.low hw hi).2⟩
theorem ImAt.more {H0 H H' : Heap} {x : Im} {vb vs vm : Value} (h : ImAt H0 H x vb vs vm) (hw : H.Wf) (hx : Ext H H') : ImAt H0 H' x vb vs vm := by
  have k : ∀ {size e v n cs}, Gs size e H0 H v n cs → Gs size e H0 H' v n cs := fun hg => hg.ext fun id hid => hx.get id (hg.low hw hid).2
  exact ⟨k h.gb, k h.gs, k h.gm, h.bs, h.bm, h.sm⟩
theorem ImAt.set {H0 H : Heap} {x : Im} {vb vs vm : Value} (h : ImAt H0 H x vb vs vm) {D : Nat} (b : Blk) (hb : ¬ inBlk vb D) (hs : ¬ inBlk vs D) (hm : ¬ inBlk vm D) : ImAt H0 (H.set D b) x vb vs vm := by
  have k : ∀ {size e v n cs}, Gs size e H0 H v n cs → ¬ inBlk v D → Gs size e H0 (H.set D b) v n cs := fun hg hd => hg.ext fun id hid => by
    rw [Heap.get_set, if_neg (fun h => hd (by rw [← h]; exact hid))]
  exact ⟨k h.gb hb, k h.gs hs, k h.gm hm, h.bs, h.bm, h.sm⟩
theorem ImAt.setB {H0 H H1 : Heap} {x : Im} {vb vs vm vb' : Value} {b' : List UInt8} {n : Nat} {cs : List Value} (h : ImAt H0 H x vb vs vm) (hwH : H.Wf) (hg : Gs 1 5 H0 H1 vb' n cs) (en : n = b'.length) (ec : cs = u8v b') (hk : ∀ id, id < H.next → ¬ inBlk vb id → H1.get id = H.get id) (hn : ∀ id, inBlk vb' id → id = H.next) : ImAt H0 H1 { x with b := b' } vb' vs vm := by
  subst en; subst ec
  obtain ⟨l2, l3, l4⟩ := h.low' hwH
  exact ⟨hg, h.gs.ext fun id hi => hk id (l3 id hi) fun hb => h.bs id hb hi, h.gm.ext fun id hi => hk id (l4 id hi) fun hb => h.bm id hb hi, fun id hi hs => by have := hn id hi; have := l3 id hs; omega, fun id hi hs => by have := hn id hi; have := l4 id hs; omega, h.sm⟩
theorem ImAt.setS {H0 H H1 : Heap} {x : Im} {vb vs vm vs' : Value} {s' : List Sy} {n : Nat} {cs : List Value} (h : ImAt H0 H x vb vs vm) (hwH : H.Wf) (hg : Gs 3 T_api_Symbol H0 H1 vs' n cs) (en : n = s'.length) (ec : cs = symC s') (hk : ∀ id, id < H.next → ¬ inBlk vs id → H1.get id = H.get id) (hn : ∀ id, inBlk vs' id → id = H.next) : ImAt H0 H1 { x with syms := s' } vb vs' vm := by
  subst en; subst ec
  obtain ⟨l2, l3, l4⟩ := h.low' hwH
  exact ⟨h.gb.ext fun id hi => hk id (l2 id hi) fun hb => h.bs id hi hb, hg, h.gm.ext fun id hi => hk id (l4 id hi) fun hb => h.sm id hb hi, fun id hi hs => by have := hn id hs; have := l2 id hi; omega, h.bm, fun id hi hs => by have := hn id hi; have := l4 id hs; omega⟩
theorem ImAt.setM {H0 H H1 : Heap} {x : Im} {vb vs vm vm' : Value} {m' : List Mk} {n : Nat} {cs : List Value} (h : ImAt H0 H x vb vs vm) (hwH : H.Wf) (hg : Gs 3 T_api_Mark H0 H1 vm' n cs) (en : n = m'.length) (ec : cs = markC m') (hk : ∀ id, id < H.next → ¬ inBlk vm id → H1.get id = H.get id) (hn : ∀ id, inBlk vm' id → id = H.next) : ImAt H0 H1 { x with marks := m' } vb vs vm' := by
  subst en; subst ec
  obtain ⟨l2, l3, l4⟩ := h.low' hwH
  exact ⟨h.gb.ext fun id hi => hk id (l2 id hi) fun hb => h.bm id hi hb, h.gs.ext fun id hi => hk id (l3 id hi) fun hb => h.sm id hi hb, hg, h.bs, fun id hi hs => by have := hn id hs; have := l2 id hi; omega, fun id hi hs => by have := hn id hs; have := l3 id hi; omega⟩
end Go.Proofs.YthoanamkoigjeaaGreatDoor.code
/- A line of the document's image. -/
set_option linter.unusedVariables false
set_option linter.unusedSimpArgs false
set_option maxRecDepth 100000
set_option maxHeartbeats 4000000
namespace Go.Proofs.YthoanamkoigjeaaGreatDoor.code
open Go.Ab

def lineM (x : Im) (w1 w2 w3 : List UInt8) : Option Im := match unpairF w3 with
  | none => none
  | some b => if (hexF (numW w2) == w2) = true ∧ (scanF w1 0).err = 0 ∧ (scanF w1 0).e = w1.length ∧ (decF (scanF w1 0).n == w1) = true then some { x with b := x.b ++ b, marks := x.marks ++ [⟨(scanF w1 0).n, numW w2, b.length⟩] } else none
def lineY (x : Im) (w1 w2 w3 : List UInt8) : Option Im := if (hexF (numW w2) == w2) = true ∧ x.marks.length = 0 ∧ (w3 = [104, 101, 114, 101] ∨ w3 = [99, 111, 110, 115, 116]) then some { x with syms := x.syms ++ [⟨w1, numW w2, w3 == [104, 101, 114, 101]⟩] } else none
def lineO (x : Im) (w0 w1 : List UInt8) : Option Im := if w0 = [111, 114, 103] ∧ (hexF (numW w1) == w1) = true then some { x with org := numW w1 } else none
def lineS (x : Im) (s : List UInt8) (first : Bool) : Option Im := if first = true then (match wordsF s with
    | [w0, w1] => lineO x w0 w1
    | _ => none) else (match wordsF s with
    | [w0, w1, w2, w3] => if w0 = [115, 121, 109] then lineY x w1 w2 w3 else if w0 = [109, 97, 114, 107] then lineM x w1 w2 w3 else none
    | _ => none)
def LnP (H0 : Heap) (r : Option Im) (u : Value) (H' : Heap) : Prop := Ext H0 H' ∧ match r with
  | none => ∃ (n : Int) (a1 a2 a3 : Option Addr) (n1 n2 n3 c1 c2 c3 : Nat), u = .tuple #[.agg #[.int .i64 n, .slice a1 n1 c1, .slice a2 n2 c2, .slice a3 n3 c3], .bool false]
  | some x => ∃ vb vs vm, u = .tuple #[.agg #[.int .i64 x.org, vb, vs, vm], .bool true] ∧ ImAt H0 H' x vb vs vm
theorem unpF_len : ∀ (w b : List UInt8), unpF w = some b → 2 * b.length = w.length
  | [], b, h => by cases h; rfl
  | [_], b, h => by cases h
  | a :: c :: l, b, h => by
    unfold unpF at h
    cases hb : Nat.blt 15 (hexD a.toNat) || Nat.blt 15 (hexD c.toNat) with
    | true => rw [hb] at h; cases h
    | false =>
      rw [hb] at h
      have h : (unpF l).map (((16 * hexD a.toNat + hexD c.toNat).toUInt8) :: ·) = some b := h
      cases hu : unpF l with
      | none => rw [hu] at h; cases h
      | some r =>
        rw [hu] at h
        cases h
        have := unpF_len l r hu
        simp only [List.length_cons]; omega
theorem unpairF_len {w b : List UInt8} (h : unpairF w = some b) : 2 * b.length = w.length ∧ 1 ≤ b.length := by
  unfold unpairF at h
  cases hb : w.isEmpty || !Nat.beq (w.length % 2) 0 with
  | true => rw [hb] at h; cases h
  | false =>
    rw [hb] at h
    have := unpF_len w b h
    refine ⟨this, ?_⟩
    have hne : w.isEmpty = false := by cases he : w.isEmpty <;> simp [he] at hb ⊢
    cases w with
    | nil => cases hne
    | cons a l => simp only [List.length_cons] at this; omega
theorem Gs.bel {size : Nat} {e : TypeId} {H0 H : Heap} {v : Value} {n : Nat} {cs : List Value} (h : Gs size e H0 H v n cs) (hw : H.Wf) {m f : Nat} (hm : H.next ≤ m) : belowV m (f + 1) v = true := by
  rcases h with ⟨rfl, rfl, rfl⟩ | ⟨b, rfl, h2, h3, h4⟩
  · rfl
  · show Nat.blt b m = true
    rw [Nat.blt_eq]; exact Nat.lt_of_lt_of_le (hw.lt h3) hm
theorem bel4 {m : Nat} {n : Int} {v1 v2 v3 : Value} (h1 : belowV m 5 v1 = true) (h2 : belowV m 5 v2 = true) (h3 : belowV m 5 v3 = true) : belowV m 6 (.agg #[.int .i64 n, v1, v2, v3]) = true := by
  show (#[Value.int .i64 n, v1, v2, v3].all (belowV m 5)) = true
  rw [← Array.all_toList]
  show (belowV m 5 (.int .i64 n) && (belowV m 5 v1 && (belowV m 5 v2 && (belowV m 5 v3 && true)))) = true
  rw [h1, h2, h3]; rfl
theorem q_line {H0 H : Heap} (x : Im) (vb vs vm : Value) (hI : ImAt H0 H x vb vs vm) (hx0 : Ext H0 H) (hsz : x.b.length ≤ 1048576 ∧ x.syms.length ≤ 20000 ∧ x.marks.length ≤ 20000) (s : List UInt8) (hl : s.length ≤ 1000000) (first : Bool) : CallQ prog f_linotyperef31_line [.agg #[.int .i64 x.org, vb, vs, vm], .string (mkS s), .bool first] H (LnP H0 (lineS x s first)) := by
  refine in_linotyperef31_line fun hw => ?_
  obtain ⟨ba, bc, rfl⟩ := hI.gb.sl
  obtain ⟨sa, sc, rfl⟩ := hI.gs.sl
  obtain ⟨ma, mc, rfl⟩ := hI.gm.sl
  simp only [pc_linotyperef31_line, sxA, sxB, Nat.reduceBEq, Nat.reduceEqDiff, reduceCtorEq, mxA, mxB, Nat.reduceAdd, reduceIte, Nat.reduceLeDiff, splice]
  generalize hS : Heap.push (Heap.push H _) _ = H1
  have hx1 : Ext H H1 := by rw [← hS]; exact ((Ext.refl H).push _).push _
  have hw1 : H1.Wf := by rw [← hS]; exact (hw.push _).push _
  have hn1 : H1.next = H.next + 2 := by rw [← hS, Heap.next_push, Heap.next_push]
  obtain ⟨eX, hgX⟩ : ∃ e, H1.get H.next = some (.cells [.int .i64 x.org, .slice ba x.b.length bc, .slice sa x.syms.length sc, .slice ma x.marks.length mc] e false) := by
    rw [← hS, Heap.get_push, Heap.next_push, if_neg (by omega), Heap.get_push, if_pos rfl]; exact ⟨_, rfl⟩
  obtain ⟨eR, hgR⟩ : ∃ e, H1.get (H.next + 1) = some (.cells [.int .i64 0, .slice none 0 0, .slice none 0 0, .slice none 0 0] e false) := by
    rw [← hS, Heap.get_push, Heap.next_push, if_pos rfl]; exact ⟨_, rfl⟩
  clear hS
  refine (q_ref31_words s hl H1).thenW ?_
  rintro wv H2 _ hw2 ⟨hgw, hx2⟩
  have hx12 := hx1.trans hx2
  have hn2 := hx2.next
  have hI2 := hI.more hw hx12
  have hlow := hI.low' hw
  have hgX2 : H2.get H.next = some (.cells [.int .i64 x.org, .slice ba x.b.length bc, .slice sa x.syms.length sc, .slice ma x.marks.length mc] eX false) := by rw [hx2.get _ (by omega)]; exact hgX
  have hgR2 : H2.get (H.next + 1) = some (.cells [.int .i64 0, .slice none 0 0, .slice none 0 0, .slice none 0 0] eR false) := by rw [hx2.get _ (by omega)]; exact hgR
  have hx02 := hx0.trans hx12
  have n12 : ¬ H.next + 1 = H.next := by omega
  have n21 : ¬ H.next = H.next + 1 := by omega
  have hwle := wordsF_le s
  have hwl : (wordsF s).length ≤ s.length + 1 := by rw [wordsF_len]; have := List.count_le_length (a := (32 : UInt8)) (l := s); omega
  have z0 : H0.next ≤ H.next := hx0.next
  have fail : ∀ (n : Int) (a1 a2 a3 : Option Addr) (n1 n2 n3 c1 c2 c3 : Nat) (A : Env) (H' : Heap) (e : TypeId), H.next ≤ H'.next → Ext H0 H' → lineS x s first = none → A 6 = .pointer (some ⟨H.next + 1, 0, none⟩) → A 7 = .bool false → H'.get (H.next + 1) = some (.cells [.int .i64 n, .slice a1 n1 c1, .slice a2 n2 c2, .slice a3 n3 c3] e false) → Rt prog F_linotyperef31_line H (LnP H0 (lineS x s first)) A H' := fun n a1 a2 a3 n1 n2 n3 c1 c2 c3 A H' e hn hx hs q6 q7 hg => by
    simp only [sxA, sxB, Nat.reduceBEq, Nat.reduceEqDiff, reduceCtorEq, mxA, mxB, Nat.reduceAdd, reduceIte, Nat.reduceLeDiff, splice, ret_linotyperef31_line, q6, q7, hg]
    refine .mk hn ⟨hx, ?_⟩
    rw [hs]
    exact ⟨n, a1, a2, a3, n1, n2, n3, c1, c2, c3, rfl⟩
  have good : ∀ (x' : Im) (a1 a2 a3 : Option Addr) (n1 n2 n3 c1 c2 c3 : Nat) (A : Env) (H' : Heap) (e : TypeId), H.next ≤ H'.next → Ext H0 H' → lineS x s first = some x' → A 6 = .pointer (some ⟨H.next + 1, 0, none⟩) → A 7 = .bool true → H'.get (H.next + 1) = some (.cells [.int .i64 x'.org, .slice a1 n1 c1, .slice a2 n2 c2, .slice a3 n3 c3] e false) → ImAt H0 H' x' (.slice a1 n1 c1) (.slice a2 n2 c2) (.slice a3 n3 c3) → Rt prog F_linotyperef31_line H (LnP H0 (lineS x s first)) A H' := fun x' a1 a2 a3 n1 n2 n3 c1 c2 c3 A H' e hn hx hs q6 q7 hg hI => by
    simp only [sxA, sxB, Nat.reduceBEq, Nat.reduceEqDiff, reduceCtorEq, mxA, mxB, Nat.reduceAdd, reduceIte, Nat.reduceLeDiff, splice, ret_linotyperef31_line, q6, q7, hg]
    refine .mk hn ⟨hx, ?_⟩
    rw [hs]
    exact ⟨_, _, _, rfl, hI⟩
  have hbX : ¬ inBlk (.slice ba x.b.length bc) H.next ∧ ¬ inBlk (.slice sa x.syms.length sc) H.next ∧ ¬ inBlk (.slice ma x.marks.length mc) H.next := ⟨fun h => by have := hlow.1 _ h; omega, fun h => by have := hlow.2.1 _ h; omega, fun h => by have := hlow.2.2 _ h; omega⟩
  have hbR : ¬ inBlk (.slice ba x.b.length bc) (H.next + 1) ∧ ¬ inBlk (.slice sa x.syms.length sc) (H.next + 1) ∧ ¬ inBlk (.slice ma x.marks.length mc) (H.next + 1) := ⟨fun h => by have := hlow.1 _ h; omega, fun h => by have := hlow.2.1 _ h; omega, fun h => by have := hlow.2.2 _ h; omega⟩
  cases first with
  | true =>
    obtain ⟨wa, wc, rfl, hwa⟩ := hgw.isl
    simp only [sxA, sxB, Nat.reduceBEq, Nat.reduceEqDiff, reduceCtorEq, mxA, mxB, Nat.reduceAdd, reduceIte, Nat.reduceLeDiff, splice, pc_linotyperef31_line_2, Zdi]
    by_cases h2 : (wordsF s).length = 2
    · obtain ⟨w0, w1, hws⟩ : ∃ w0 w1, wordsF s = [w0, w1] := by
        match hm : wordsF s with
        | [a, c] => exact ⟨a, c, rfl⟩
        | [] | [_] | _ :: _ :: _ :: _ => rw [hm] at h2; simp at h2
      rw [hws] at hwa hwle ⊢
      have hw1l := hwle w1 (by simp)
      have e2 : (((2 : Nat) : Int) == 2) = true := rfl
      have c0 : (0 : Int) ≤ 0 ∧ (0 : Int) < ((2 : Nat) : Int) := by decide
      have c1 : (0 : Int) ≤ 1 ∧ (1 : Int) < ((2 : Nat) : Int) := by decide
      have u0 : (0 : Int).toNat = 0 := rfl
      have u1 : (1 : Int).toNat = 1 := rfl
      obtain ⟨b, ew, ro, rfl, hg⟩ := hwa (by simp)
      have hg : H2.get b = some (.cells [.string (mkS w0), .string (mkS w1)] ew ro) := hg
      have hls : lineS x s true = lineO x w0 w1 := by unfold lineS; rw [if_pos rfl, hws]
      simp only [sxA, sxB, Nat.reduceBEq, Nat.reduceEqDiff, reduceCtorEq, mxA, mxB, Nat.reduceAdd, reduceIte, Nat.reduceLeDiff, splice, syA, e2, c0, u0, hg, List.length_cons, List.length_nil]
      cases h0 : w0 == [111, 114, 103] with
      | false =>
        simp only [sxA, sxB, Nat.reduceBEq, Nat.reduceEqDiff, reduceCtorEq, mxA, mxB, Nat.reduceAdd, reduceIte, Nat.reduceLeDiff, splice, hgX2, hgR2, n12, n21, if_false]
        refine fail x.org ba sa ma x.b.length x.syms.length x.marks.length bc sc mc _ _ eR (by rw [Heap.next_set]; omega) (hx02.set (by omega) _) ?_ ?_ ?_ ?_
        · rw [hls]; unfold lineO; rw [if_neg fun h => by rw [h.1] at h0; simp at h0]
        · simp only [uxA, uxB, Nat.reduceBEq]
        · simp only [uxA, uxB, Nat.reduceBEq]
        · rw [Heap.get_set, if_pos rfl]
      | true =>
        have h0 := beq_iff_eq.1 h0
        simp only [sxA, sxB, Nat.reduceBEq, Nat.reduceEqDiff, reduceCtorEq, mxA, mxB, Nat.reduceAdd, reduceIte, Nat.reduceLeDiff, splice, syA, pc_linotyperef31_line_1, c1, u1, hg]
        refine (q_ref31_hex w1 (by omega) H2).thenW ?_
        rintro _ H3 hn3 hw3 ⟨rfl, hx3⟩
        have hgX3 : H3.get H.next = some (.cells [.int .i64 x.org, .slice ba x.b.length bc, .slice sa x.syms.length sc, .slice ma x.marks.length mc] eX false) := by rw [hx3.get _ (by omega)]; exact hgX2
        have hgR3 : H3.get (H.next + 1) = some (.cells [.int .i64 0, .slice none 0 0, .slice none 0 0, .slice none 0 0] eR false) := by rw [hx3.get _ (by omega)]; exact hgR2
        have hx03 := hx02.trans hx3
        have hn3 := hx3.next
        simp only [sxA, sxB, Nat.reduceBEq, Nat.reduceEqDiff, reduceCtorEq, mxA, mxB, Nat.reduceAdd, reduceIte, Nat.reduceLeDiff, splice, hgX3, hgR3, n12, n21, if_false]
        have hI3 := hI2.more hw2 hx3
        have hx5 : ∀ b1 b2, Ext H0 ((H3.set H.next b1).set (H.next + 1) b2) := fun b1 b2 => (hx03.set (by omega) _).set (by omega) _
        cases hh : hexF (numW w1) == w1 with
        | false =>
          refine fail (numW w1) ba sa ma x.b.length x.syms.length x.marks.length bc sc mc _ _ eR (by rw [Heap.next_set, Heap.next_set]; omega) (hx5 _ _) ?_ ?_ ?_ ?_
          · rw [hls]; unfold lineO; rw [if_neg fun h => by rw [h.2] at hh; cases hh]
          · simp only [uxA, uxB, Nat.reduceBEq]
          · simp only [uxA, uxB, Nat.reduceBEq]
          · rw [Heap.get_set, if_pos rfl]
        | true =>
          refine good { x with org := numW w1 } ba sa ma x.b.length x.syms.length x.marks.length bc sc mc _ _ eR (by rw [Heap.next_set, Heap.next_set]; omega) (hx5 _ _) ?_ ?_ ?_ ?_ ?_
          · rw [hls]; unfold lineO; rw [if_pos ⟨h0, hh⟩]
          · simp only [uxA, uxB, Nat.reduceBEq]
          · simp only [uxA, uxB, Nat.reduceBEq]
          · rw [Heap.get_set, if_pos rfl]
          · have h5 := (hI3.set (D := H.next) (.cells [.int .i64 (numW w1), .slice ba x.b.length bc, .slice sa x.syms.length sc, .slice ma x.marks.length mc] eX false) hbX.1 hbX.2.1 hbX.2.2).set (D := H.next + 1) (.cells [.int .i64 (numW w1), .slice ba x.b.length bc, .slice sa x.syms.length sc, .slice ma x.marks.length mc] eR false) hbR.1 hbR.2.1 hbR.2.2
            exact ⟨h5.gb, h5.gs, h5.gm, h5.bs, h5.bm, h5.sm⟩
    · have e2 : (((wordsF s).length : Int) == 2) = false := beq_eq_false_iff_ne.2 (by omega)
      simp only [sxA, sxB, Nat.reduceBEq, Nat.reduceEqDiff, reduceCtorEq, mxA, mxB, Nat.reduceAdd, reduceIte, Nat.reduceLeDiff, splice, e2, hgX2, hgR2, n12, n21, if_false]
      refine fail x.org ba sa ma x.b.length x.syms.length x.marks.length bc sc mc _ _ eR (by rw [Heap.next_set]; omega) (hx02.set (by omega) _) ?_ ?_ ?_ ?_
      · unfold lineS
        rw [if_pos rfl]
        split
        · rename_i hws; rw [hws] at h2; exact absurd rfl h2
        · rfl
      · simp only [uxA, uxB, Nat.reduceBEq]
      · simp only [uxA, uxB, Nat.reduceBEq]
      · rw [Heap.get_set, if_pos rfl]
  | false =>
    obtain ⟨wa, wc, rfl, hwa⟩ := hgw.isl
    simp only [sxA, sxB, Nat.reduceBEq, Nat.reduceEqDiff, reduceCtorEq, mxA, mxB, Nat.reduceAdd, reduceIte, Nat.reduceLeDiff, splice, pc_linotyperef31_line_7, Zdi]
    by_cases h4 : (wordsF s).length = 4
    · obtain ⟨w0, w1, w2, w3, hws⟩ : ∃ w0 w1 w2 w3, wordsF s = [w0, w1, w2, w3] := by
        match hm : wordsF s with
        | [a, c, d, f] => exact ⟨a, c, d, f, rfl⟩
        | [] | [_] | [_, _] | [_, _, _] | _ :: _ :: _ :: _ :: _ :: _ => rw [hm] at h4; simp at h4
      rw [hws] at hwa hwle ⊢
      have hw1l := hwle w1 (by simp)
      have hw2l := hwle w2 (by simp)
      have hw3l := hwle w3 (by simp)
      have e2 : (((4 : Nat) : Int) == 4) = true := rfl
      have c0 : (0 : Int) ≤ 0 ∧ (0 : Int) < ((4 : Nat) : Int) := by decide
      have c1 : (0 : Int) ≤ 1 ∧ (1 : Int) < ((4 : Nat) : Int) := by decide
      have c2 : (0 : Int) ≤ 2 ∧ (2 : Int) < ((4 : Nat) : Int) := by decide
      have c3 : (0 : Int) ≤ 3 ∧ (3 : Int) < ((4 : Nat) : Int) := by decide
      have u0 : (0 : Int).toNat = 0 := rfl
      have u1 : (1 : Int).toNat = 1 := rfl
      have u2 : (2 : Int).toNat = 2 := rfl
      have u3 : (3 : Int).toNat = 3 := rfl
      obtain ⟨b, ew, ro, rfl, hg⟩ := hwa (by simp)
      have hg : H2.get b = some (.cells [.string (mkS w0), .string (mkS w1), .string (mkS w2), .string (mkS w3)] ew ro) := hg
      have hbn := hw2.lt hg
      have hbl1 : H1.next ≤ b := (hgw.low hw2 (id := b) ⟨_, _, _, rfl⟩).1
      have hls : lineS x s false = if w0 = [115, 121, 109] then lineY x w1 w2 w3 else if w0 = [109, 97, 114, 107] then lineM x w1 w2 w3 else none := by unfold lineS; rw [if_neg (by simp), hws]
      simp only [sxA, sxB, Nat.reduceBEq, Nat.reduceEqDiff, reduceCtorEq, mxA, mxB, Nat.reduceAdd, reduceIte, Nat.reduceLeDiff, splice, syA, e2, pc_linotyperef31_line_6, c0, u0, hg, List.length_cons, List.length_nil]
      cases h0 : w0 == [115, 121, 109] with
      | true =>
        have h0 := beq_iff_eq.1 h0
        rw [if_pos h0] at hls
        simp only [sxA, sxB, Nat.reduceBEq, Nat.reduceEqDiff, reduceCtorEq, mxA, mxB, Nat.reduceAdd, reduceIte, Nat.reduceLeDiff, splice, syA, pc_linotyperef31_line_3, c2, u2, hg]
        refine (q_ref31_hex w2 (by omega) H2).thenW ?_
        rintro _ H3 hn3 hw3 ⟨rfl, hx3⟩
        have hgX3 : H3.get H.next = some (.cells [.int .i64 x.org, .slice ba x.b.length bc, .slice sa x.syms.length sc, .slice ma x.marks.length mc] eX false) := by rw [hx3.get _ (by omega)]; exact hgX2
        have hgR3 : H3.get (H.next + 1) = some (.cells [.int .i64 0, .slice none 0 0, .slice none 0 0, .slice none 0 0] eR false) := by rw [hx3.get _ (by omega)]; exact hgR2
        have hg3 : H3.get b = some (.cells [.string (mkS w0), .string (mkS w1), .string (mkS w2), .string (mkS w3)] ew ro) := by rw [hx3.get _ hbn]; exact hg
        have hx03 := hx02.trans hx3
        have hI3 := hI2.more hw2 hx3
        have hn3 := hx3.next
        simp only [sxA, sxB, Nat.reduceBEq, Nat.reduceEqDiff, reduceCtorEq, mxA, mxB, Nat.reduceAdd, reduceIte, Nat.reduceLeDiff, splice, syA, hgX3, c1, c3, u1, u3, hg3]
        generalize hP : Heap.push H3 _ = H4
        have hx4 : Ext H3 H4 := by rw [← hP]; exact (Ext.refl H3).push _
        have hw4 : H4.Wf := by rw [← hP]; exact hw3.push _
        have hg4 : H4.get H3.next = some (.cells [.string (mkS w1), .int .i64 (numW w2), .bool (w3 == [104, 101, 114, 101])] T_api_Symbol false) := by rw [← hP, Heap.get_push, if_pos rfl]
        clear hP
        have hI4 := hI3.more hw3 hx4
        refine gs_app hI4.gs (hx03.trans hx4) hw4 (asrc_new hg4 (by decide) rfl) rfl (Nat.le_refl _) rfl (by omega) (by omega) fun vs' H5 hgs5 hx5 hw5 hk5 hn5 hi5 => ?_
        have hI5 := hI4.setS hw4 hgs5 (s' := x.syms ++ [Sy.mk w1 (numW w2) (w3 == [104, 101, 114, 101])]) (by rw [List.length_append]; rfl) (symC_app x.syms (Sy.mk w1 (numW w2) (w3 == [104, 101, 114, 101]))) hk5 hi5
        obtain ⟨sa5, sc5, rfl⟩ := hgs5.sl
        have hn4 := hx4.next
        have hgX5 : H5.get H.next = some (.cells [.int .i64 x.org, .slice ba x.b.length bc, .slice sa x.syms.length sc, .slice ma x.marks.length mc] eX false) := by rw [hk5 _ (by omega) hbX.2.1, hx4.get _ (by omega)]; exact hgX3
        have hgR5 : H5.get (H.next + 1) = some (.cells [.int .i64 0, .slice none 0 0, .slice none 0 0, .slice none 0 0] eR false) := by rw [hk5 _ (by omega) hbR.2.1, hx4.get _ (by omega)]; exact hgR3
        have hnb : ¬ inBlk (.slice sa x.syms.length sc) b := fun h => by have := hlow.2.1 _ h; omega
        have hg5 : H5.get b = some (.cells [.string (mkS w0), .string (mkS w1), .string (mkS w2), .string (mkS w3)] ew ro) := by rw [hk5 _ (by omega) hnb, hx4.get _ (by omega)]; exact hg3
        have nbX : ¬ b = H.next := by omega
        have nbR : ¬ b = H.next + 1 := by omega
        have bel : ∀ (n : Nat) (z : List UInt8), belowV n 6 (.string (mkS z)) = true := fun _ _ => rfl
        simp only [sxA, sxB, Nat.reduceBEq, Nat.reduceEqDiff, reduceCtorEq, mxA, mxB, Nat.reduceAdd, reduceIte, Nat.reduceLeDiff, splice, syA, hgX5, n12, n21, nbX, nbR, if_false]
        have hx05 := hx5
        have nl5 : H.next ≤ H5.next := by omega
        have failY : ∀ (A : Env) (e : TypeId), lineY x w1 w2 w3 = none → A 6 = .pointer (some ⟨H.next + 1, 0, none⟩) → A 7 = .bool false → ∀ H', H.next ≤ H'.next → Ext H0 H' → H'.get (H.next + 1) = some (.cells [.int .i64 x.org, .slice ba x.b.length bc, .slice sa5 (x.syms.length + 1) sc5, .slice ma x.marks.length mc] e false) → Rt prog F_linotyperef31_line H (LnP H0 (lineS x s false)) A H' := fun A e hno q6 q7 H' hn hx hg => fail x.org ba sa5 ma x.b.length (x.syms.length + 1) x.marks.length bc sc5 mc A H' e hn hx (by rw [hls]; exact hno) q6 q7 hg
        cases hh : hexF (numW w2) == w2 with
        | false =>
          simp only [sxA, sxB, Nat.reduceBEq, Nat.reduceEqDiff, reduceCtorEq, mxA, mxB, Nat.reduceAdd, reduceIte, Nat.reduceLeDiff, splice, syA, hgR5, n12, n21, nbX, nbR, if_false]
          refine failY _ eR ?_ ?_ ?_ _ (by rw [Heap.next_set, Heap.next_set]; exact nl5) ((hx05.set (by omega) _).set (by omega) _) (by rw [Heap.get_set, if_pos rfl])
          · unfold lineY; rw [if_neg fun h => by rw [h.1] at hh; cases hh]
          all_goals simp only [uxA, uxB, Nat.reduceBEq]
        | true =>
          simp only [sxA, sxB, Nat.reduceBEq, Nat.reduceEqDiff, reduceCtorEq, mxA, mxB, Nat.reduceAdd, reduceIte, Nat.reduceLeDiff, splice, syA, hgX5, hgR5, n12, n21, nbX, nbR, if_false]
          by_cases hm0 : x.marks.length = 0
          · have em : ((x.marks.length : Int) == 0) = true := by rw [hm0]; rfl
            simp only [sxA, sxB, Nat.reduceBEq, Nat.reduceEqDiff, reduceCtorEq, mxA, mxB, Nat.reduceAdd, reduceIte, Nat.reduceLeDiff, splice, syA, em, c3, u3, hg5, nbX, nbR, if_false]
            have goodY : ∀ (A : Env), (w3 = [104, 101, 114, 101] ∨ w3 = [99, 111, 110, 115, 116]) → A 6 = .pointer (some ⟨H.next + 1, 0, none⟩) → A 7 = .bool true → ∀ b1 b2, b2 = .cells [.int .i64 x.org, .slice ba x.b.length bc, .slice sa5 (x.syms.length + 1) sc5, .slice ma x.marks.length mc] eR false → Rt prog F_linotyperef31_line H (LnP H0 (lineS x s false)) A ((H5.set H.next b1).set (H.next + 1) b2) := fun A hk q6 q7 b1 b2 hb2 => by
              have h5 := (hI5.set (D := H.next) b1 hbX.1 (fun h => by have := hi5 _ h; omega) hbX.2.2).set (D := H.next + 1) b2 hbR.1 (fun h => by have := hi5 _ h; omega) hbR.2.2
              refine good { x with syms := x.syms ++ [⟨w1, numW w2, w3 == [104, 101, 114, 101]⟩] } ba sa5 ma x.b.length (x.syms.length + 1) x.marks.length bc sc5 mc A _ eR (by rw [Heap.next_set, Heap.next_set]; exact nl5) ((hx05.set (by omega) _).set (by omega) _) ?_ q6 q7 ?_ ?_
              · rw [hls]; unfold lineY; rw [if_pos ⟨hh, hm0, hk⟩]
              · rw [hb2, Heap.get_set, if_pos rfl]
              · exact h5
            cases hq : w3 == [104, 101, 114, 101] with
            | true =>
              simp only [sxA, sxB, Nat.reduceBEq, Nat.reduceEqDiff, reduceCtorEq, mxA, mxB, Nat.reduceAdd, reduceIte, Nat.reduceLeDiff, splice, syA, hgR5, n12, n21, nbX, nbR, if_false]
              refine goodY _ (.inl (beq_iff_eq.1 hq)) ?_ ?_ _ _ rfl
              all_goals simp only [uxA, uxB, Nat.reduceBEq]
            | false =>
              simp only [sxA, sxB, Nat.reduceBEq, Nat.reduceEqDiff, reduceCtorEq, mxA, mxB, Nat.reduceAdd, reduceIte, Nat.reduceLeDiff, splice, syA, c3, u3, hg5, nbX, nbR, if_false, bel]
              cases hc : w3 == [99, 111, 110, 115, 116] with
              | true =>
                simp only [sxA, sxB, Nat.reduceBEq, Nat.reduceEqDiff, reduceCtorEq, mxA, mxB, Nat.reduceAdd, reduceIte, Nat.reduceLeDiff, splice, syA, hgR5, n12, n21, nbX, nbR, if_false]
                refine goodY _ (.inr (beq_iff_eq.1 hc)) ?_ ?_ _ _ rfl
                all_goals simp only [uxA, uxB, Nat.reduceBEq]
              | false =>
                simp only [sxA, sxB, Nat.reduceBEq, Nat.reduceEqDiff, reduceCtorEq, mxA, mxB, Nat.reduceAdd, reduceIte, Nat.reduceLeDiff, splice, syA, hgR5, n12, n21, nbX, nbR, if_false]
                refine failY _ eR ?_ ?_ ?_ _ (by rw [Heap.next_set, Heap.next_set]; exact nl5) ((hx05.set (by omega) _).set (by omega) _) (by rw [Heap.get_set, if_pos rfl])
                · unfold lineY; rw [if_neg fun h => by rcases h.2.2 with h | h <;> rw [h] at hq hc <;> simp at hq hc]
                all_goals simp only [uxA, uxB, Nat.reduceBEq]
          · have em : ((x.marks.length : Int) == 0) = false := beq_eq_false_iff_ne.2 (by omega)
            simp only [sxA, sxB, Nat.reduceBEq, Nat.reduceEqDiff, reduceCtorEq, mxA, mxB, Nat.reduceAdd, reduceIte, Nat.reduceLeDiff, splice, syA, em, hgR5, n12, n21, nbX, nbR, if_false]
            refine failY _ eR ?_ ?_ ?_ _ (by rw [Heap.next_set, Heap.next_set]; exact nl5) ((hx05.set (by omega) _).set (by omega) _) (by rw [Heap.get_set, if_pos rfl])
            · unfold lineY; rw [if_neg fun h => hm0 h.2.1]
            all_goals simp only [uxA, uxB, Nat.reduceBEq]
      | false =>
        have h0' : ¬ w0 = [115, 121, 109] := fun h => by rw [h] at h0; simp at h0
        rw [if_neg h0'] at hls
        simp only [sxA, sxB, Nat.reduceBEq, Nat.reduceEqDiff, reduceCtorEq, mxA, mxB, Nat.reduceAdd, reduceIte, Nat.reduceLeDiff, splice, syA, pc_linotyperef31_line_5, c0, u0, hg]
        cases h00 : w0 == [109, 97, 114, 107] with
        | true =>
          have h00 := beq_iff_eq.1 h00
          rw [if_pos h00] at hls
          simp only [sxA, sxB, Nat.reduceBEq, Nat.reduceEqDiff, reduceCtorEq, mxA, mxB, Nat.reduceAdd, reduceIte, Nat.reduceLeDiff, splice, syA, pc_linotyperef31_line_4, c1, u1, hg]
          refine (q_ref02_Scan w1 (by omega) 0 (by decide) H2).thenW ?_
          rintro _ H3 hn3 hw3 ⟨rfl, hx3⟩
          have hsi := scanF_i64 w1 0
          unfold lineM at hls
          generalize scanF w1 0 = scn at *
          obtain ⟨sn, se, serr, sat⟩ := scn
          simp only at hls hsi
          have hg3 : H3.get b = some (.cells [.string (mkS w0), .string (mkS w1), .string (mkS w2), .string (mkS w3)] ew ro) := by rw [hx3.get _ hbn]; exact hg
          have nb3 : ¬ b = H3.next := by have := hw3.lt hg3; omega
          simp only [Sc.val, fltV, sxA, sxB, Nat.reduceBEq, Nat.reduceEqDiff, reduceCtorEq, mxA, mxB, Nat.reduceAdd, reduceIte, Nat.reduceLeDiff, splice, syA, c2, u2, nb3, if_false, hg3]
          generalize hP : Heap.set (Heap.push H3 _) _ _ = H4
          obtain ⟨e4, e4', hP⟩ : ∃ c c', H4 = (H3.push c).set H3.next (.cells [.int .i64 serr, .int .i64 sat] c' false) := ⟨_, _, hP.symm⟩
          have hx4 : Ext H3 H4 := by rw [hP]; exact ((Ext.refl H3).push _).set (Nat.le_refl _) _
          have hw4 : H4.Wf := by rw [hP]; exact (hw3.push _).set (by rw [Heap.get_push, if_pos rfl]) _
          have hgF4 : H4.get H3.next = some (.cells [.int .i64 serr, .int .i64 sat] e4' false) := by rw [hP, Heap.get_set, if_pos rfl]
          clear hP
          have hF4 := hw4.lt hgF4
          refine (q_ref31_hex w2 (by omega) H4).thenW ?_
          rintro _ H5 hn5 hw5 ⟨rfl, hx5⟩
          have hx25 := (hx3.trans hx4).trans hx5
          have hg5 : H5.get b = some (.cells [.string (mkS w0), .string (mkS w1), .string (mkS w2), .string (mkS w3)] ew ro) := by rw [hx25.get _ hbn]; exact hg
          simp only [sxA, sxB, Nat.reduceBEq, Nat.reduceEqDiff, reduceCtorEq, mxA, mxB, Nat.reduceAdd, reduceIte, Nat.reduceLeDiff, splice, syA, c3, u3, hg5]
          refine (q_unpaired w3 (by omega) H5).thenW ?_
          rintro uv H6 hn6 hw6 ⟨hup, hx6⟩
          obtain ⟨bb, fl, va, vc, rfl, hbb, hfl⟩ : ∃ (bb : List UInt8) (fl : Bool) (va : Option Addr) (vc : Nat), uv = .tuple #[.slice va bb.length vc, .bool fl] ∧ bb.length ≤ 1000000 ∧ ((fl = false ∧ va = none ∧ bb = [] ∧ vc = 0 ∧ unpairF w3 = none) ∨ (fl = true ∧ unpairF w3 = some bb ∧ 1 ≤ bb.length ∧ Gs 1 5 H5 H6 (.slice va bb.length vc) bb.length (u8v bb))) := by
            cases hu : unpairF w3 with
            | none => rw [hu] at hup; exact ⟨[], false, none, 0, hup, by simp, .inl ⟨rfl, rfl, rfl, rfl, rfl⟩⟩
            | some bb =>
              rw [hu] at hup
              obtain ⟨v, hv, hgv⟩ := hup
              obtain ⟨va, vc, rfl⟩ := hgv.sl
              have := unpairF_len hu
              exact ⟨bb, true, va, vc, hv, by omega, .inr ⟨rfl, rfl, this.2, hgv⟩⟩
          have hx26 := hx25.trans hx6
          have hgX6 : H6.get H.next = some (.cells [.int .i64 x.org, .slice ba x.b.length bc, .slice sa x.syms.length sc, .slice ma x.marks.length mc] eX false) := by rw [hx26.get _ (by omega)]; exact hgX2
          have hgR6 : H6.get (H.next + 1) = some (.cells [.int .i64 0, .slice none 0 0, .slice none 0 0, .slice none 0 0] eR false) := by rw [hx26.get _ (by omega)]; exact hgR2
          have hg6 : H6.get b = some (.cells [.string (mkS w0), .string (mkS w1), .string (mkS w2), .string (mkS w3)] ew ro) := by rw [hx26.get _ hbn]; exact hg
          have hgF6 : H6.get H3.next = some (.cells [.int .i64 serr, .int .i64 sat] e4' false) := by rw [hx6.get _ (by omega), hx5.get _ hF4]; exact hgF4
          simp only [sxA, sxB, Nat.reduceBEq, Nat.reduceEqDiff, reduceCtorEq, mxA, mxB, Nat.reduceAdd, reduceIte, Nat.reduceLeDiff, splice, syA, hgX6, Zdi]
          have hI6 := hI2.more hw2 hx26
          have hx06 := hx02.trans hx26
          have hn26 := hx26.next
          generalize hP : Heap.push H6 _ = H7
          have hx7 : Ext H6 H7 := by rw [← hP]; exact (Ext.refl H6).push _
          have hw7 : H7.Wf := by rw [← hP]; exact hw6.push _
          have hg7 : H7.get H6.next = some (.cells [.int .i64 sn, .int .i64 (numW w2), .int .i64 (bb.length : Int)] T_api_Mark false) := by rw [← hP, Heap.get_push, if_pos rfl]
          clear hP
          have hI7 := hI6.more hw6 hx7
          have hn67 := hx7.next
          refine gs_app hI7.gm (hx06.trans hx7) hw7 (asrc_new hg7 (by decide) rfl) rfl (Nat.le_refl _) rfl (by omega) (by omega) fun vm' H8 hgs8 hx8 hw8 hk8 hn8 hi8 => ?_
          have hI8 := hI7.setM hw7 hgs8 (m' := x.marks ++ [Mk.mk sn (numW w2) (bb.length : Int)]) (by rw [List.length_append]; rfl) (markC_app x.marks (Mk.mk sn (numW w2) (bb.length : Int))) hk8 hi8
          obtain ⟨ma8, mc8, rfl⟩ := hgs8.sl
          have keep8 : ∀ id, id < H7.next → H.next ≤ id → H8.get id = H7.get id := fun id h1 h2 => hk8 id h1 fun h => by have := hlow.2.2 id h; omega
          have hgX8 : H8.get H.next = some (.cells [.int .i64 x.org, .slice ba x.b.length bc, .slice sa x.syms.length sc, .slice ma x.marks.length mc] eX false) := by rw [keep8 _ (by omega) (by omega), hx7.get _ (by omega)]; exact hgX6
          have hgR8 : H8.get (H.next + 1) = some (.cells [.int .i64 0, .slice none 0 0, .slice none 0 0, .slice none 0 0] eR false) := by rw [keep8 _ (by omega) (by omega), hx7.get _ (by omega)]; exact hgR6
          have hg8 : H8.get b = some (.cells [.string (mkS w0), .string (mkS w1), .string (mkS w2), .string (mkS w3)] ew ro) := by rw [keep8 _ (by omega) (by omega), hx7.get _ (by omega)]; exact hg6
          have hn34 := hx4.next
          have hn45 := hx5.next
          have hn56 := hx6.next
          have hF3 : H2.next ≤ H3.next := hx3.next
          have hgF8 : H8.get H3.next = some (.cells [.int .i64 serr, .int .i64 sat] e4' false) := by rw [keep8 _ (by omega) (by omega), hx7.get _ (by omega)]; exact hgF6
          have nbX : ¬ b = H.next := by omega
          have nbR : ¬ b = H.next + 1 := by omega
          have nFX : ¬ H3.next = H.next := by omega
          have nFR : ¬ H3.next = H.next + 1 := by omega
          simp only [sxA, sxB, Nat.reduceBEq, Nat.reduceEqDiff, reduceCtorEq, mxA, mxB, Nat.reduceAdd, reduceIte, Nat.reduceLeDiff, splice, syA, hgX8]
          generalize hS : Heap.set H8 H.next _ = H9
          have hn9 : H9.next = H8.next := by rw [← hS, Heap.next_set]
          have hw9 : H9.Wf := by rw [← hS]; exact hw8.set hgX8 _
          have hx09 : Ext H0 H9 := by rw [← hS]; exact hx8.set (by omega) _
          have hI9 : ImAt H0 H9 { x with marks := x.marks ++ [Mk.mk sn (numW w2) (bb.length : Int)] } (.slice ba x.b.length bc) (.slice sa x.syms.length sc) (.slice ma8 (x.marks.length + 1) mc8) := by
            rw [← hS]
            exact hI8.set _ hbX.1 hbX.2.1 fun h => by have := hi8 _ h; omega
          have hgX9 : H9.get H.next = some (.cells [.int .i64 x.org, .slice ba x.b.length bc, .slice sa x.syms.length sc, .slice ma8 (x.marks.length + 1) mc8] eX false) := by rw [← hS, Heap.get_set, if_pos rfl]
          have k9 : ∀ id, id ≠ H.next → H9.get id = H8.get id := fun id h => by rw [← hS, Heap.get_set, if_neg h]
          clear hS
          have hgR9 : H9.get (H.next + 1) = some (.cells [.int .i64 0, .slice none 0 0, .slice none 0 0, .slice none 0 0] eR false) := by rw [k9 _ (by omega)]; exact hgR8
          have hg9 : H9.get b = some (.cells [.string (mkS w0), .string (mkS w1), .string (mkS w2), .string (mkS w3)] ew ro) := by rw [k9 _ nbX]; exact hg8
          have hgF9 : H9.get H3.next = some (.cells [.int .i64 serr, .int .i64 sat] e4' false) := by rw [k9 _ nFX]; exact hgF8
          have happ : ∀ K : Value → Heap → Prop, (∀ ab8 cb8 H10, Ext H0 H10 → H10.Wf → H9.next ≤ H10.next → (∀ id, id < H9.next → H.next ≤ id → H10.get id = H9.get id) → belowV H10.next 6 (.agg #[.int .i64 x.org, .slice ab8 (x.b.length + bb.length) cb8, .slice sa x.syms.length sc, .slice ma8 (x.marks.length + 1) mc8]) = true → ¬ inBlk (.slice ab8 (x.b.length + bb.length) cb8) H.next → ¬ inBlk (.slice ab8 (x.b.length + bb.length) cb8) (H.next + 1) → (fl = true → ImAt H0 H10 { x with b := x.b ++ bb, marks := x.marks ++ [Mk.mk sn (numW w2) (bb.length : Int)] } (.slice ab8 (x.b.length + bb.length) cb8) (.slice sa x.syms.length sc) (.slice ma8 (x.marks.length + 1) mc8)) → K (.slice ab8 (x.b.length + bb.length) cb8) H10) → appK 5 1 1 (.slice ba x.b.length bc) (.slice va bb.length vc) H9 K := by
            intro K hK
            rcases hfl with ⟨rfl, rfl, rfl, rfl, hu⟩ | ⟨rfl, hu, hb1, hgv⟩
            · refine appK_zero hI9.gb ?_
              refine hK ba bc H9 hx09 hw9 (Nat.le_refl _) (fun _ _ _ => rfl) ?_ hbX.1 hbR.1 (fun h => nomatch h)
              exact bel4 (hI9.gb.bel hw9 (Nat.le_refl _)) (hI9.gs.bel hw9 (Nat.le_refl _)) (hI9.gm.bel hw9 (Nat.le_refl _))
            · obtain ⟨bv, rfl, hv1, hv2⟩ : ∃ bv, va = some ⟨bv, 0, none⟩ ∧ H5.next ≤ bv ∧ H6.get bv = some (.cells (u8v bb) 5 false) := by
                rcases hgv with ⟨h1, h2, h3⟩ | ⟨bv, h1, h2, h3, h4⟩
                · omega
                · cases h1; exact ⟨bv, rfl, h2, h3⟩
              have hv6 := hw6.lt hv2
              have hv9 : H9.get bv = some (.cells (u8v bb) 5 false) := by rw [k9 _ (by omega), keep8 _ (by omega) (by omega), hx7.get _ hv6]; exact hv2
              refine gs_app hI9.gb hx09 hw9 (asrc_new hv9 (by omega) (by simp [u8v])) (by simp [u8v, Value.oneCell']) hb1 (by simp [u8v]) (by simp only; omega) (by simp only; omega) fun vb' H10 hgs10 hx10 hw10 hk10 hn10 hi10 => ?_
              have hI10 := hI9.setB hw9 hgs10 (b' := x.b ++ bb) (by rw [List.length_append]) (u8v_app _ _) hk10 hi10
              obtain ⟨ab8, cb8, rfl⟩ := hgs10.sl
              refine hK ab8 cb8 H10 hx10 hw10 (by omega) (fun id h1 h2 => hk10 id h1 fun h => by have := hlow.1 id h; omega) ?_ (fun h => by have := hi10 _ h; omega) (fun h => by have := hi10 _ h; omega) fun _ => hI10
              exact bel4 (hgs10.bel hw10 (Nat.le_refl _)) (hI10.gs.bel hw10 (Nat.le_refl _)) (hI10.gm.bel hw10 (Nat.le_refl _))
          refine happ _ fun ab8 cb8 H10 hx010 hw10 hn10 hk10 hbel10 hbX10 hbR10 hI10 => ?_
          have hgX10 : H10.get H.next = some (.cells [.int .i64 x.org, .slice ba x.b.length bc, .slice sa x.syms.length sc, .slice ma8 (x.marks.length + 1) mc8] eX false) := by rw [hk10 _ (by omega) (by omega)]; exact hgX9
          have hgR10 : H10.get (H.next + 1) = some (.cells [.int .i64 0, .slice none 0 0, .slice none 0 0, .slice none 0 0] eR false) := by rw [hk10 _ (by omega) (by omega)]; exact hgR9
          have hg10 : H10.get b = some (.cells [.string (mkS w0), .string (mkS w1), .string (mkS w2), .string (mkS w3)] ew ro) := by rw [hk10 _ (by omega) (by omega)]; exact hg9
          have hgF10 : H10.get H3.next = some (.cells [.int .i64 serr, .int .i64 sat] e4' false) := by rw [hk10 _ (by omega) (by omega)]; exact hgF9
          simp only [sxA, sxB, Nat.reduceBEq, Nat.reduceEqDiff, reduceCtorEq, mxA, mxB, Nat.reduceAdd, reduceIte, Nat.reduceLeDiff, splice, syA, hgX10, hbel10]
          generalize hS : Heap.set H10 H.next _ = H11
          have hn11 : H11.next = H10.next := by rw [← hS, Heap.next_set]
          have hw11 : H11.Wf := by rw [← hS]; exact hw10.set hgX10 _
          have hx011 : Ext H0 H11 := by rw [← hS]; exact hx010.set (by omega) _
          have hI11 : fl = true → ImAt H0 H11 { x with b := x.b ++ bb, marks := x.marks ++ [Mk.mk sn (numW w2) (bb.length : Int)] } (.slice ab8 (x.b.length + bb.length) cb8) (.slice sa x.syms.length sc) (.slice ma8 (x.marks.length + 1) mc8) := fun hfl => by
            rw [← hS]
            exact (hI10 hfl).set _ hbX10 hbX.2.1 fun h => by have := hi8 _ h; omega
          have k11 : ∀ id, id ≠ H.next → H11.get id = H10.get id := fun id h => by rw [← hS, Heap.get_set, if_neg h]
          clear hS
          have hgR11 : H11.get (H.next + 1) = some (.cells [.int .i64 0, .slice none 0 0, .slice none 0 0, .slice none 0 0] eR false) := by rw [k11 _ (by omega)]; exact hgR10
          have hg11 : H11.get b = some (.cells [.string (mkS w0), .string (mkS w1), .string (mkS w2), .string (mkS w3)] ew ro) := by rw [k11 _ nbX]; exact hg10
          have hgF11 : H11.get H3.next = some (.cells [.int .i64 serr, .int .i64 sat] e4' false) := by rw [k11 _ nFX]; exact hgF10
          have nl11 : H.next ≤ H11.next := by omega
          have failM : lineS x s false = none → ∀ A : Env, A 6 = .pointer (some ⟨H.next + 1, 0, none⟩) → A 7 = .bool false → ∀ b2, b2 = .cells [.int .i64 x.org, .slice ab8 (x.b.length + bb.length) cb8, .slice sa x.syms.length sc, .slice ma8 (x.marks.length + 1) mc8] eR false → Rt prog F_linotyperef31_line H (LnP H0 (lineS x s false)) A (H11.set (H.next + 1) b2) := fun hno A q6 q7 b2 hb2 =>
            fail x.org ab8 sa ma8 (x.b.length + bb.length) x.syms.length (x.marks.length + 1) cb8 sc mc8 A _ eR (by rw [Heap.next_set]; exact nl11) (hx011.set (by omega) _) hno q6 q7 (by rw [Heap.get_set, if_pos rfl, hb2])
          cases hh : hexF (numW w2) == w2 with
          | false =>
            simp only [sxA, sxB, Nat.reduceBEq, Nat.reduceEqDiff, reduceCtorEq, mxA, mxB, Nat.reduceAdd, reduceIte, Nat.reduceLeDiff, splice, syA, hgR11, n12, n21, nbX, nbR, if_false]
            refine failM ?_ _ ?_ ?_ _ rfl
            · rw [hls]; split
              · rfl
              · rw [if_neg fun h => by rw [h.1] at hh; cases hh]
            all_goals simp only [uxA, uxB, Nat.reduceBEq]
          | true =>
            simp only [sxA, sxB, Nat.reduceBEq, Nat.reduceEqDiff, reduceCtorEq, mxA, mxB, Nat.reduceAdd, reduceIte, Nat.reduceLeDiff, splice, syA]
            cases fl with
            | false =>
              simp only [sxA, sxB, Nat.reduceBEq, Nat.reduceEqDiff, reduceCtorEq, mxA, mxB, Nat.reduceAdd, reduceIte, Nat.reduceLeDiff, splice, syA, hgR11, n12, n21, nbX, nbR, if_false]
              refine failM ?_ _ ?_ ?_ _ rfl
              · rcases hfl with h | h
                · rw [hls, h.2.2.2.2]
                · exact absurd h.1 Bool.false_ne_true
              all_goals simp only [uxA, uxB, Nat.reduceBEq]
            | true =>
              have hu : unpairF w3 = some bb := by
                rcases hfl with h | h
                · exact absurd h.1.symm Bool.false_ne_true
                · exact h.2.1
              rw [hu] at hls
              simp only at hls
              simp only [sxA, sxB, Nat.reduceBEq, Nat.reduceEqDiff, reduceCtorEq, mxA, mxB, Nat.reduceAdd, reduceIte, Nat.reduceLeDiff, splice, syA, hgF11]
              cases he : serr == 0 with
              | false =>
                simp only [sxA, sxB, Nat.reduceBEq, Nat.reduceEqDiff, reduceCtorEq, mxA, mxB, Nat.reduceAdd, reduceIte, Nat.reduceLeDiff, splice, syA, hgR11, n12, n21, nbX, nbR, if_false]
                refine failM ?_ _ ?_ ?_ _ rfl
                · rw [hls, if_neg fun h => by rw [h.2.1] at he; cases he]
                all_goals simp only [uxA, uxB, Nat.reduceBEq]
              | true =>
                simp only [sxA, sxB, Nat.reduceBEq, Nat.reduceEqDiff, reduceCtorEq, mxA, mxB, Nat.reduceAdd, reduceIte, Nat.reduceLeDiff, splice, syA, c1, u1, hg11, Zdk]
                cases hE : se == (w1.length : Int) with
                | false =>
                  simp only [sxA, sxB, Nat.reduceBEq, Nat.reduceEqDiff, reduceCtorEq, mxA, mxB, Nat.reduceAdd, reduceIte, Nat.reduceLeDiff, splice, syA, hgR11, n12, n21, nbX, nbR, if_false]
                  refine failM ?_ _ ?_ ?_ _ rfl
                  · rw [hls, if_neg fun h => by rw [h.2.2.1] at hE; simp at hE]
                  all_goals simp only [uxA, uxB, Nat.reduceBEq]
                | true =>
                  simp only [sxA, sxB, Nat.reduceBEq, Nat.reduceEqDiff, reduceCtorEq, mxA, mxB, Nat.reduceAdd, reduceIte, Nat.reduceLeDiff, splice, syA]
                  refine ⟨by omega, ?_⟩
                  refine (q_ref02_Dec sn hsi H11).thenW ?_
                  rintro _ H12 _ hw12 ⟨rfl, rfl⟩
                  have bel : ∀ (n : Nat) (z : List UInt8), belowV n 6 (.string (mkS z)) = true := fun _ _ => rfl
                  simp only [sxA, sxB, Nat.reduceBEq, Nat.reduceEqDiff, reduceCtorEq, mxA, mxB, Nat.reduceAdd, reduceIte, Nat.reduceLeDiff, splice, syA, c1, u1, hg11, bel]
                  refine ⟨fun _ _ => rfl, ?_⟩
                  simp only [sxA, sxB, Nat.reduceBEq, Nat.reduceEqDiff, reduceCtorEq, mxA, mxB, Nat.reduceAdd, reduceIte, Nat.reduceLeDiff, splice, syA, hgR11]
                  refine ⟨nbR, ?_⟩
                  cases hd : decF sn == w1 with
                  | false =>
                    refine failM ?_ _ ?_ ?_ _ rfl
                    · rw [hls, if_neg fun h => by rw [h.2.2.2] at hd; cases hd]
                    all_goals simp only [uxA, uxB, Nat.reduceBEq]
                  | true =>
                    refine good { x with b := x.b ++ bb, marks := x.marks ++ [⟨sn, numW w2, (bb.length : Int)⟩] } ab8 sa ma8 (x.b.length + bb.length) x.syms.length (x.marks.length + 1) cb8 sc mc8 _ _ eR (by rw [Heap.next_set]; exact nl11) (hx011.set (by omega) _) ?_ ?_ ?_ ?_ ?_
                    · rw [hls, if_pos ⟨hh, beq_iff_eq.1 he, beq_iff_eq.1 hE, hd⟩]
                    · simp only [uxA, uxB, Nat.reduceBEq]
                    · simp only [uxA, uxB, Nat.reduceBEq]
                    · rw [Heap.get_set, if_pos rfl]
                    · exact (hI11 rfl).set _ hbR10 hbR.2.1 fun h => by have := hi8 _ h; omega
        | false =>
          have h00' : ¬ w0 = [109, 97, 114, 107] := fun h => by rw [h] at h00; simp at h00
          rw [if_neg h00'] at hls
          simp only [sxA, sxB, Nat.reduceBEq, Nat.reduceEqDiff, reduceCtorEq, mxA, mxB, Nat.reduceAdd, reduceIte, Nat.reduceLeDiff, splice, hgX2, hgR2, n12, n21, if_false]
          refine fail x.org ba sa ma x.b.length x.syms.length x.marks.length bc sc mc _ _ eR (by rw [Heap.next_set]; omega) (hx02.set (by omega) _) hls ?_ ?_ ?_
          · simp only [uxA, uxB, Nat.reduceBEq]
          · simp only [uxA, uxB, Nat.reduceBEq]
          · rw [Heap.get_set, if_pos rfl]
    · have e2 : (((wordsF s).length : Int) == 4) = false := beq_eq_false_iff_ne.2 (by omega)
      simp only [sxA, sxB, Nat.reduceBEq, Nat.reduceEqDiff, reduceCtorEq, mxA, mxB, Nat.reduceAdd, reduceIte, Nat.reduceLeDiff, splice, e2, hgX2, hgR2, n12, n21, if_false]
      refine fail x.org ba sa ma x.b.length x.syms.length x.marks.length bc sc mc _ _ eR (by rw [Heap.next_set]; omega) (hx02.set (by omega) _) ?_ ?_ ?_ ?_
      · unfold lineS
        rw [if_neg (by simp)]
        split
        · rename_i hws; rw [hws] at h4; exact absurd rfl h4
        · rfl
      · simp only [uxA, uxB, Nat.reduceBEq]
      · simp only [uxA, uxB, Nat.reduceBEq]
      · rw [Heap.get_set, if_pos rfl]
end Go.Proofs.YthoanamkoigjeaaGreatDoor.code
/- The document's Read. -/
set_option linter.unusedVariables false
set_option linter.unusedSimpArgs false
set_option maxRecDepth 100000
set_option maxHeartbeats 4000000
namespace Go.Proofs.YthoanamkoigjeaaGreatDoor.code
open Go.Ab

open Classical in
noncomputable def readR : Im → Nat → List (List UInt8) → Except Nat Im
  | x, _, [] => .ok x
  | x, i, s :: l => match lineS x s (i == 0) with
    | none => .error (i + 1)
    | some y => if ChkOk y then readR y (i + 1) l else .error (i + 1)
noncomputable def refF (l : List (List UInt8)) : Except Nat Im := if l = [] then .error 1 else readR im0 0 l
theorem lineS_sz {x y : Im} {s : List UInt8} {f : Bool} (h : lineS x s f = some y) (hl : s.length ≤ 1000000) (hn : ∀ z ∈ x.syms, z.name.length ≤ 1000000) : (y.b.length ≤ x.b.length + 1000000 ∧ y.syms.length ≤ x.syms.length + 1 ∧ y.marks.length ≤ x.marks.length + 1) ∧ ∀ z ∈ y.syms, z.name.length ≤ 1000000 := by
  have hwl := wordsF_le s
  unfold lineS at h
  split at h
  · split at h
    · unfold lineO at h
      split at h
      · cases h; exact ⟨by simp only; omega, hn⟩
      · cases h
    · cases h
  · split at h
    · rename_i w0 w1 w2 w3 hw
      rw [hw] at hwl
      have h1 := hwl w1 (by simp)
      have h3 := hwl w3 (by simp)
      split at h
      · unfold lineY at h
        split at h
        · cases h
          refine ⟨by simp only [List.length_append, List.length_cons, List.length_nil]; omega, fun z hz => ?_⟩
          rcases List.mem_append.1 hz with hz | hz
          · exact hn z hz
          · simp at hz; subst hz; simp only; omega
        · cases h
      · split at h
        · unfold lineM at h
          split at h
          · cases h
          · rename_i b hu
            have hb := unpairF_len hu
            split at h
            · cases h
              exact ⟨by simp only [List.length_append, List.length_cons, List.length_nil]; omega, hn⟩
            · cases h
        · cases h
    · cases h
theorem Gs.base {size : Nat} {e : TypeId} {H0 H1 H : Heap} {v : Value} {n : Nat} {cs : List Value} (h : Gs size e H1 H v n cs) (hn : H0.next ≤ H1.next) : Gs size e H0 H v n cs := h.old hn
theorem ImAt.old {H0 H1 H : Heap} {x : Im} {vb vs vm : Value} (h : ImAt H1 H x vb vs vm) (hn : H0.next ≤ H1.next) : ImAt H0 H x vb vs vm := ⟨h.gb.old hn, h.gs.old hn, h.gm.old hn, h.bs, h.bm, h.sm⟩
theorem q_ref31_Read (l : List (List UInt8)) (lv : Value) (hl : ∀ s ∈ l, s.length ≤ 1000000) (hn : l.length ≤ 1000000) (H : Heap) (hs : IsSl H lv l.length (strs l)) : CallQ prog f_linotyperef31_Read [lv] H (ImP H (refF l)) := by
  refine in_linotyperef31_Read fun hw => ?_
  obtain ⟨la, lcap, rfl, hla⟩ := hs
  simp only [pc_linotyperef31_Read, sxA, sxB, Nat.reduceBEq, Nat.reduceEqDiff, reduceCtorEq, mxA, mxB, Nat.reduceAdd, reduceIte, Nat.reduceLeDiff, splice]
  generalize hS : Heap.push (Heap.push (Heap.push H _) _) _ = Hb
  have hxb : Ext H Hb := by rw [← hS]; exact (((Ext.refl H).push _).push _).push _
  have hwb : Hb.Wf := by rw [← hS]; exact ((hw.push _).push _).push _
  have hnb : Hb.next = H.next + 3 := by rw [← hS, Heap.next_push, Heap.next_push, Heap.next_push]
  have hgb1 : Hb.get H.next = some (.cells [.int .i64 0, .slice none 0 0, .slice none 0 0, .slice none 0 0] T_api_Image false) := by
    rw [← hS, Heap.get_push, Heap.next_push, Heap.next_push, if_neg (by omega), Heap.get_push, Heap.next_push, if_neg (by omega), Heap.get_push, if_pos rfl]
  have hgb2 : Hb.get (H.next + 1) = some (.cells [.int .i64 0, .int .i64 0] T_api_Wrong false) := by
    rw [← hS, Heap.get_push, Heap.next_push, Heap.next_push, if_neg (by omega), Heap.get_push, Heap.next_push, if_pos rfl]
  have hgb3 : Hb.get (H.next + 1 + 1) = some (.cells [.int .i64 0, .slice none 0 0, .slice none 0 0, .slice none 0 0] T_api_Image false) := by
    rw [← hS, Heap.get_push, Heap.next_push, Heap.next_push, if_pos rfl]
  clear hS
  refine loop_intro (fun m A' H' => ∃ (i : Nat) (x : Im) (vb vs vm : Value), i ≤ l.length ∧ m = l.length - i ∧ H'.Wf ∧ ImAt Hb H' x vb vs vm ∧ Ext (Hb.set (H.next + 1 + 1) (.cells [.int .i64 x.org, vb, vs, vm] T_api_Image false)) H' ∧ (x.b.length ≤ 1048576 ∧ x.syms.length ≤ 20000 ∧ x.marks.length ≤ 20000) ∧ (∀ z ∈ x.syms, z.name.length ≤ 1000000) ∧ readR im0 0 l = readR x i (l.drop i) ∧ A' 0 = .slice la l.length lcap ∧ A' 2 = .pointer (some ⟨H.next, 0, none⟩) ∧ A' 3 = .pointer (some ⟨H.next + 1, 0, none⟩) ∧ A' 4 = .pointer (some ⟨H.next + 1 + 1, 0, none⟩) ∧ A' 5 = .int .i64 i) l.length ?_ ?_
  · have nb : ∀ id, ¬ inBlk (.slice none 0 0) id := fun id h => by obtain ⟨o, n, c, h⟩ := h; cases h
    refine ⟨0, im0, .slice none 0 0, .slice none 0 0, .slice none 0 0, Nat.zero_le _, rfl, hwb.set hgb3 _, ⟨.inl ⟨rfl, rfl, rfl⟩, .inl ⟨rfl, rfl, rfl⟩, .inl ⟨rfl, rfl, rfl⟩, fun id h => absurd h (nb _), fun id h => absurd h (nb _), fun id h => absurd h (nb _)⟩, Ext.refl _, by decide, fun z hz => by simp [im0] at hz, rfl, ?_, ?_, ?_, ?_, ?_⟩
    all_goals simp only [uxA, uxB, Nat.reduceBEq]
    all_goals rfl
  · rintro m A' H1 ⟨i, x, vb, vs, vm, hi, rfl, hw1, hI, hx, hsz, hnm, hrd, r0, r2, r3, r4, r5⟩
    have hKn : (Hb.set (H.next + 1 + 1) (.cells [.int .i64 x.org, vb, vs, vm] T_api_Image false)).next = Hb.next := Heap.next_set ..
    have hnn : Hb.next ≤ H1.next := by rw [← hKn]; exact hx.next
    have hgX : H1.get (H.next + 1 + 1) = some (.cells [.int .i64 x.org, vb, vs, vm] T_api_Image false) := by rw [hx.get _ (by rw [hKn]; omega), Heap.get_set, if_pos rfl]
    have kb : ∀ id, id < Hb.next → id ≠ H.next + 1 + 1 → H1.get id = Hb.get id := fun id h1 h2 => by rw [hx.get _ (by rw [hKn]; exact h1), Heap.get_set, if_neg h2]
    have hg1 : H1.get H.next = some (.cells [.int .i64 0, .slice none 0 0, .slice none 0 0, .slice none 0 0] T_api_Image false) := by rw [kb _ (by omega) (by omega)]; exact hgb1
    have hg2 : H1.get (H.next + 1) = some (.cells [.int .i64 0, .int .i64 0] T_api_Wrong false) := by rw [kb _ (by omega) (by omega)]; exact hgb2
    have hxH1 : Ext H H1 := ⟨by have := hxb.next; omega, fun id hid => by rw [kb id (by omega) (by omega)]; exact hxb.get id hid⟩
    have n12 : ¬ H.next + 1 = H.next := by omega
    have n21 : ¬ H.next = H.next + 1 := by omega
    have n31 : ¬ H.next + 1 + 1 = H.next := by omega
    have n32 : ¬ H.next + 1 + 1 = H.next + 1 := by omega
    have n13 : ¬ H.next = H.next + 1 + 1 := by omega
    have n23 : ¬ H.next + 1 = H.next + 1 + 1 := by omega
    obtain ⟨sb, cb, rfl⟩ := hI.gb.sl
    obtain ⟨ss, cs, rfl⟩ := hI.gs.sl
    obtain ⟨sm, cm, rfl⟩ := hI.gm.sl
    by_cases h2 : i < l.length
    · have e1 : decide ((i : Int) < (l.length : Int)) = true := decide_eq_true (by omega)
      have c1 : (0 : Int) ≤ (i : Int) ∧ (i : Int) < (l.length : Int) := by omega
      have u1 : (i : Int).toNat = i := Int.toNat_natCast _
      have ei : IntKind.i64.wrap ((i : Int) + 1) = ((i + 1 : Nat) : Int) := by rw [w64 (by unfold I64; omega)]; rfl
      have z0 : ((i : Int) == 0) = (i == 0) := by rw [Bool.eq_iff_iff, beq_iff_eq, beq_iff_eq]; omega
      obtain ⟨b, e, ro, rfl, hgl⟩ := hla (by omega)
      have hgl1 : H1.get b = some (.cells (strs l) e ro) := by rw [hxH1.get _ (hw.lt hgl)]; exact hgl
      have p1 := List.getElem?_eq_getElem h2
      have hlm := hl _ (List.getElem_mem h2)
      have hdr : l.drop i = l[i] :: l.drop (i + 1) := List.drop_eq_getElem_cons h2
      rw [hdr] at hrd
      generalize l[i] = s at *
      have p2 := strs_get p1
      have hrdF : ∀ r, readR x i (s :: l.drop (i + 1)) = r → refF l = r := fun r hr => by
        unfold refF
        rw [if_neg (by intro h; rw [h] at h2; simp at h2), hrd, hr]
      simp only [pc_linotyperef31_Read_3, pc_linotyperef31_Read_2, sxA, sxB, Nat.reduceBEq, Nat.reduceEqDiff, reduceCtorEq, mxA, mxB, Nat.reduceAdd, reduceIte, Nat.reduceLeDiff, splice, syA, r0, r2, r3, r4, r5, e1, c1, decide_true, u1, hgX, hgl1, p2, z0]
      refine (q_line (H0 := Hb.set (H.next + 1 + 1) (.cells [.int .i64 x.org, .slice sb x.b.length cb, .slice ss x.syms.length cs, .slice sm x.marks.length cm] T_api_Image false)) x _ _ _ (hI.old (by rw [hKn]; exact Nat.le_refl _)) hx hsz s hlm (i == 0)).thenW ?_
      rintro u H2 hn2 hw2 ⟨hx2, hP⟩
      have hgX2 : H2.get (H.next + 1 + 1) = some (.cells [.int .i64 x.org, .slice sb x.b.length cb, .slice ss x.syms.length cs, .slice sm x.marks.length cm] T_api_Image false) := by rw [hx2.get _ (by rw [hKn]; omega), Heap.get_set, if_pos rfl]
      have kb2 : ∀ id, id < Hb.next → id ≠ H.next + 1 + 1 → H2.get id = Hb.get id := fun id h1 h2 => by rw [hx2.get _ (by rw [hKn]; exact h1), Heap.get_set, if_neg h2]
      cases hls : lineS x s (i == 0) with
      | none =>
        rw [hls] at hP
        obtain ⟨n, a1, a2, a3, n1, n2, n3, c1', c2', c3', rfl⟩ := hP
        have hrr := hrdF (.error (i + 1)) (by rw [readR, hls])
        simp only [sxA, sxB, Nat.reduceBEq, Nat.reduceEqDiff, reduceCtorEq, mxA, mxB, Nat.reduceAdd, reduceIte, Nat.reduceLeDiff, splice, syA]
        generalize hS : Heap.set (Heap.push H2 _) _ _ = H3
        have kb3 : ∀ id, id < Hb.next → id ≠ H.next + 1 + 1 → H3.get id = Hb.get id := fun id h1 h2 => by rw [← hS, Heap.get_set, if_neg (by omega), Heap.get_push, if_neg (by omega)]; exact kb2 id h1 h2
        have hn3 : Hb.next ≤ H3.next := by rw [← hS, Heap.next_set, Heap.next_push]; omega
        clear hS
        have hg31 : H3.get H.next = some (.cells [.int .i64 0, .slice none 0 0, .slice none 0 0, .slice none 0 0] T_api_Image false) := by rw [kb3 _ (by omega) (by omega)]; exact hgb1
        have hg32 : H3.get (H.next + 1) = some (.cells [.int .i64 0, .int .i64 0] T_api_Wrong false) := by rw [kb3 _ (by omega) (by omega)]; exact hgb2
        simp only [sxA, sxB, Nat.reduceBEq, Nat.reduceEqDiff, reduceCtorEq, mxA, mxB, Nat.reduceAdd, reduceIte, Nat.reduceLeDiff, splice, syA, r2, r3, r5, ei, hg31, hg32, n12, n21, if_false, ret_linotyperef31_Read]
        refine .mk ?_ ?_
        · simp only [Heap.next_set]; omega
        · rw [hrr]
          refine ⟨rfl, ?_, fun id hid => ?_⟩
          · simp only [Heap.next_set]; omega
          · rw [Heap.get_set, if_neg (by omega), Heap.get_set, if_neg (by omega), kb3 id (by omega) (by omega)]; exact hxb.get id hid
      | some y =>
        rw [hls] at hP
        obtain ⟨vb', vs', vm', rfl, hI2⟩ := hP
        obtain ⟨hszy, hnmy⟩ := lineS_sz hls hlm hnm
        obtain ⟨yb, ycb, rfl⟩ := hI2.gb.sl
        obtain ⟨ys, ycs, rfl⟩ := hI2.gs.sl
        obtain ⟨ym, ycm, rfl⟩ := hI2.gm.sl
        simp only [sxA, sxB, Nat.reduceBEq, Nat.reduceEqDiff, reduceCtorEq, mxA, mxB, Nat.reduceAdd, reduceIte, Nat.reduceLeDiff, splice, syA]
        generalize hS : Heap.set (Heap.push H2 _) _ _ = H3
        have hx23 : Ext H2 H3 := by rw [← hS]; exact ((Ext.refl H2).push _).set (Nat.le_refl _) _
        have hw3 : H3.Wf := by rw [← hS]; exact (hw2.push _).set (by rw [Heap.get_push, if_pos rfl]) _
        have hgY3 : H3.get H2.next = some (.cells [.int .i64 y.org, .slice yb y.b.length ycb, .slice ys y.syms.length ycs, .slice ym y.marks.length ycm] T_api_Image false) := by rw [← hS, Heap.get_set, if_pos rfl]
        clear hS
        have hI3 := hI2.more hw2 hx23
        have hc := q_ref31_Check y (.slice yb y.b.length ycb) (.slice ys y.syms.length ycs) (.slice ym y.marks.length ycm) hnmy H3 ⟨_, _, rfl⟩ hI3.gs.isl hI3.gm.isl (by omega)
        refine hc.thenW ?_
        rintro _ H4 hn4 hw4 ⟨⟨z, rfl, hz⟩, hx34⟩
        have hx24 := hx23.trans hx34
        have hnY : H2.next < H3.next := hw3.lt hgY3
        have hgY4 : H4.get H2.next = some (.cells [.int .i64 y.org, .slice yb y.b.length ycb, .slice ys y.syms.length ycs, .slice ym y.marks.length ycm] T_api_Image false) := by rw [hx34.get _ hnY]; exact hgY3
        have kb4 : ∀ id, id < Hb.next → id ≠ H.next + 1 + 1 → H4.get id = Hb.get id := fun id h1 h2 => by rw [hx24.get _ (by omega)]; exact kb2 id h1 h2
        have hgX4 : H4.get (H.next + 1 + 1) = some (.cells [.int .i64 x.org, .slice sb x.b.length cb, .slice ss x.syms.length cs, .slice sm x.marks.length cm] T_api_Image false) := by rw [hx24.get _ (by omega)]; exact hgX2
        have hn24 := hx24.next
        cases hz0 : z == 0 with
        | false =>
          have hrr := hrdF (.error (i + 1)) (by rw [readR, hls]; simp only; rw [if_neg fun h => by have := hz.2 h; rw [hz0] at this; cases this])
          have hg41 : H4.get H.next = some (.cells [.int .i64 0, .slice none 0 0, .slice none 0 0, .slice none 0 0] T_api_Image false) := by rw [kb4 _ (by omega) (by omega)]; exact hgb1
          have hg42 : H4.get (H.next + 1) = some (.cells [.int .i64 0, .int .i64 0] T_api_Wrong false) := by rw [kb4 _ (by omega) (by omega)]; exact hgb2
          simp only [sxA, sxB, Nat.reduceBEq, Nat.reduceEqDiff, reduceCtorEq, mxA, mxB, Nat.reduceAdd, reduceIte, Nat.reduceLeDiff, splice, syA, hz0, r2, r3, r5, ei, hg41, hg42, n12, n21, if_false, ret_linotyperef31_Read]
          refine .mk ?_ ?_
          · simp only [Heap.next_set]; omega
          · rw [hrr]
            refine ⟨rfl, ?_, fun id hid => ?_⟩
            · simp only [Heap.next_set]; omega
            · rw [Heap.get_set, if_neg (by omega), Heap.get_set, if_neg (by omega), kb4 id (by omega) (by omega)]; exact hxb.get id hid
        | true =>
          have hok := hz.1 hz0
          have hokc : ChkOk y := hok
          obtain ⟨⟨k1, k2, k3⟩, _⟩ := hok
          simp only [sxA, sxB, Nat.reduceBEq, Nat.reduceEqDiff, reduceCtorEq, mxA, mxB, Nat.reduceAdd, reduceIte, Nat.reduceLeDiff, splice, syA, hz0, r4, r5, hgY4, hgX4, ei]
          have hI4 := hI3.more hw3 hx34
          have hlow4 : ∀ id, (inBlk (.slice yb y.b.length ycb) id ∨ inBlk (.slice ys y.syms.length ycs) id ∨ inBlk (.slice ym y.marks.length ycm) id) → Hb.next ≤ id := fun id h => by
            rw [← hKn]
            rcases h with h | h | h
            · exact (hI4.gb.low hw4 h).1
            · exact (hI4.gs.low hw4 h).1
            · exact (hI4.gm.low hw4 h).1
          have hI5 := hI4.set (D := H.next + 1 + 1) (.cells [.int .i64 y.org, .slice yb y.b.length ycb, .slice ys y.syms.length ycs, .slice ym y.marks.length ycm] T_api_Image false) (fun h => by have := hlow4 _ (.inl h); omega) (fun h => by have := hlow4 _ (.inr (.inl h)); omega) (fun h => by have := hlow4 _ (.inr (.inr h)); omega)
          refine ⟨l.length - (i + 1), by omega, i + 1, y, .slice yb y.b.length ycb, .slice ys y.syms.length ycs, .slice ym y.marks.length ycm, by omega, rfl, hw4.set hgX4 _, hI5.old (by rw [hKn]; exact Nat.le_refl _), ⟨by rw [Heap.next_set, Heap.next_set]; omega, fun id hid => ?_⟩, ⟨k1, k2, k3⟩, hnmy, ?_, ?_, ?_, ?_, ?_, ?_⟩
          · rw [Heap.next_set] at hid
            by_cases hX : id = H.next + 1 + 1
            · rw [hX, Heap.get_set, if_pos rfl, Heap.get_set, if_pos rfl]
            · rw [Heap.get_set, if_neg hX, Heap.get_set, if_neg hX, kb4 id hid hX]
          · rw [hrd, readR, hls]; simp only; rw [if_pos hokc]
          all_goals simp only [uxA, uxB, Nat.reduceBEq, r0, r2, r3, r4]
    · have e1 : decide ((i : Int) < (l.length : Int)) = false := decide_eq_false (by omega)
      have hd : l.drop i = [] := List.drop_eq_nil_of_le (by omega)
      rw [hd, readR] at hrd
      simp only [pc_linotyperef31_Read_3, pc_linotyperef31_Read_1, sxA, sxB, Nat.reduceBEq, Nat.reduceEqDiff, reduceCtorEq, mxA, mxB, Nat.reduceAdd, reduceIte, Nat.reduceLeDiff, splice, syA, r0, r2, r3, r4, r5, e1, Zdi]
      by_cases h0 : l = []
      · have e2 : (((l.length : Nat) : Int) == 0) = true := by rw [h0]; rfl
        have hrd2 : refF l = .error 1 := by unfold refF; rw [if_pos h0]
        simp only [sxA, sxB, Nat.reduceBEq, Nat.reduceEqDiff, reduceCtorEq, mxA, mxB, Nat.reduceAdd, reduceIte, Nat.reduceLeDiff, splice, syA, e2, r2, r3, hg1, hg2, n12, n21, if_false, ret_linotyperef31_Read]
        refine .mk ?_ ?_
        · simp only [Heap.next_set]; omega
        · rw [hrd2]
          refine ⟨rfl, ?_⟩
          exact (hxH1.set (Nat.le_refl _) _).set (by omega) _
      · have e2 : (((l.length : Nat) : Int) == 0) = false := beq_eq_false_iff_ne.2 fun h => h0 (List.length_eq_zero_iff.1 (by omega))
        have hrd2 : refF l = .ok x := by unfold refF; rw [if_neg h0, hrd]
        simp only [sxA, sxB, Nat.reduceBEq, Nat.reduceEqDiff, reduceCtorEq, mxA, mxB, Nat.reduceAdd, reduceIte, Nat.reduceLeDiff, splice, syA, e2, r2, r3, r4, hgX, hg1, hg2, n12, n21, n31, n32, if_false, ret_linotyperef31_Read]
        refine .mk ?_ ?_
        · simp only [Heap.next_set]; omega
        · rw [hrd2]
          have lowb : ∀ id, (inBlk (.slice sb x.b.length cb) id ∨ inBlk (.slice ss x.syms.length cs) id ∨ inBlk (.slice sm x.marks.length cm) id) → Hb.next ≤ id := fun id h => by
            rcases h with h | h | h
            · exact (hI.gb.low hw1 h).1
            · exact (hI.gs.low hw1 h).1
            · exact (hI.gm.low hw1 h).1
          have st : ∀ (D : Nat) (H' : Heap) (bk : Blk), D < Hb.next → ImAt Hb H' x (.slice sb x.b.length cb) (.slice ss x.syms.length cs) (.slice sm x.marks.length cm) → ImAt Hb (H'.set D bk) x (.slice sb x.b.length cb) (.slice ss x.syms.length cs) (.slice sm x.marks.length cm) := fun D H' bk hD hI => hI.set bk (fun h => by have := lowb _ (.inl h); omega) (fun h => by have := lowb _ (.inr (.inl h)); omega) (fun h => by have := lowb _ (.inr (.inr h)); omega)
          exact ⟨_, _, _, rfl, (st _ _ _ (by omega) (st _ _ _ (by omega) hI)).old (by omega), (hxH1.set (Nat.le_refl _) _).set (by omega) _⟩
end Go.Proofs.YthoanamkoigjeaaGreatDoor.code
/- The two readers of lines agree: plain law, first part. -/
set_option linter.unusedVariables false
set_option linter.unusedSimpArgs false
set_option maxRecDepth 100000
namespace Go.Proofs.YthoanamkoigjeaaGreatDoor.code
open Go.Ab

/-! ### Words -/
def joinF : List (List UInt8) → List UInt8
  | [] => []
  | [w] => w
  | w :: ws => w ++ 32 :: joinF ws
def NoSp (w : List UInt8) : Prop := ∀ c ∈ w, c ≠ 32
theorem joinF_words : ∀ l : List UInt8, joinF (wordsF l) = l ∧ ∀ w ∈ wordsF l, NoSp w
  | [] => ⟨rfl, fun w hw c hc => by simp [wordsF] at hw; subst hw; simp at hc⟩
  | c :: l => by
    obtain ⟨h1, h2⟩ := joinF_words l
    unfold wordsF
    by_cases h : c = 32
    · rw [if_pos h]
      have hj : ∀ ws : List (List UInt8), ws ≠ [] → joinF ([] :: ws) = 32 :: joinF ws := fun ws hws => by
        cases ws with
        | nil => exact absurd rfl hws
        | cons a r => rfl
      refine ⟨by rw [hj _ (wordsF_ne l), h1, h], fun w hw => ?_⟩
      rcases List.mem_cons.1 hw with rfl | hw
      · intro c hc; simp at hc
      · exact h2 w hw
    · rw [if_neg h]
      cases hw : wordsF l with
      | nil => exact absurd hw (wordsF_ne l)
      | cons w ws =>
        rw [hw] at h1 h2
        constructor
        · rw [← h1]
          cases ws <;> rfl
        · intro v hv
          rcases List.mem_cons.1 hv with rfl | hv
          · intro d hd
            rcases List.mem_cons.1 hd with rfl | hd
            · exact h
            · exact h2 w (by simp) d hd
          · exact h2 v (by simp [hv])
theorem words_join : ∀ ws : List (List UInt8), ws ≠ [] → (∀ w ∈ ws, NoSp w) → wordsF (joinF ws) = ws
  | [w], _, h => wordsF_none w (h w (by simp))
  | w :: v :: ws, _, h => by
    rw [show joinF (w :: v :: ws) = w ++ 32 :: joinF (v :: ws) from rfl, wordsF_cut _ _ (h w (by simp)), words_join (v :: ws) (by simp) fun u hu => h u (by simp [hu])]
theorem words_iff {s : List UInt8} {ws : List (List UInt8)} (hn : ws ≠ []) (h : ∀ w ∈ ws, NoSp w) : s = joinF ws ↔ wordsF s = ws := by
  constructor
  · intro hs; rw [hs]; exact words_join ws hn h
  · intro hs; rw [← hs]; exact (joinF_words s).1.symm
theorem dchr_ne : ∀ d, d < 16 → dchr d ≠ 32 ∧ dchr d ≠ 45 := by decide
theorem dgs_nosp (b : Nat) (hb : 2 ≤ b ∧ b ≤ 16) : ∀ u : Nat, ∀ c ∈ dgs b u, c ≠ 32 ∧ c ≠ 45 := by
  intro u
  induction u using Nat.strongRecOn with
  | ind u ih =>
    by_cases h : u < b
    · rw [dgs_lt h]; intro c hc; simp at hc; subst hc; exact dchr_ne u (by omega)
    · rw [dgs_ge (by omega) hb.1]
      intro c hc
      rcases List.mem_append.1 hc with hc | hc
      · exact ih (u / b) (Nat.div_lt_self (by omega) (by omega)) c hc
      · simp at hc; subst hc
        exact dchr_ne _ (by have := Nat.mod_lt u (show 0 < b by omega); omega)
theorem tell_nosp (n : Int) (b : Nat) (hb : 2 ≤ b ∧ b ≤ 16) (a : List UInt8) (ha : NoSp a) : NoSp (tellF n b a) := by
  intro c hc
  unfold tellF at hc
  rcases List.mem_append.1 hc with hc | hc
  · rcases List.mem_append.1 hc with hc | hc
    · split at hc
      · simp at hc; subst hc; decide
      · simp at hc
    · exact ha c hc
  · exact (dgs_nosp b hb _ c hc).1
theorem hexF_nosp (n : Int) : NoSp (hexF n) := tell_nosp n 16 (by decide) _ (show ∀ c ∈ ([48, 120] : List UInt8), c ≠ 32 by decide)
theorem decF_nosp (n : Int) : NoSp (decF n) := tell_nosp n 10 (by decide) _ (fun c hc => by simp at hc)
theorem pairF_nosp (b : List UInt8) : NoSp (pairF b) := by
  intro c hc
  unfold pairF at hc
  obtain ⟨d, _, hd⟩ := List.mem_flatMap.1 hc
  have h1 := d.toNat_lt
  simp at hd
  rcases hd with rfl | rfl
  · exact (dchr_ne _ (by omega)).1
  · exact (dchr_ne _ (by omega)).1
/-! ### Digits of bytes -/
theorem dchr_hexD : ∀ c, c < 256 → ((hexD c ≤ 15 → (dchr (hexD c)).toNat = c) ∧ (∀ d, d < 16 → (dchr d).toNat = c → hexD c = d)) := by
  have h : ((List.range 256).all fun c => (!(Nat.ble (hexD c) 15) || (dchr (hexD c)).toNat == c) && (List.range 16).all fun d => !((dchr d).toNat == c) || hexD c == d) = true := by decide
  intro c hc
  have := List.all_eq_true.1 h c (List.mem_range.2 hc)
  simp only [Bool.and_eq_true, Bool.or_eq_true, Bool.not_eq_true', List.all_eq_true, List.mem_range, beq_iff_eq, beq_eq_false_iff_ne] at this
  refine ⟨fun h15 => ?_, fun d hd he => ?_⟩
  · rcases this.1 with h | h
    · rw [Nat.ble_eq_true_of_le h15] at h; cases h
    · exact h
  · rcases this.2 d hd with h | h
    · exact absurd he h
    · exact h
theorem dchr_of {c : UInt8} (h : hexD c.toNat ≤ 15) : dchr (hexD c.toNat) = c := UInt8.toNat_inj.1 ((dchr_hexD c.toNat c.toNat_lt).1 h)
theorem hexZ_of {c : Nat} (h : hexD c ≤ 15) : hexZ c = hexD c := by
  unfold hexZ
  have : Nat.beq (hexD c) 16 = false := by
    cases hb : Nat.beq (hexD c) 16 with
    | false => rfl
    | true => rw [Nat.beq_eq] at hb; omega
  rw [this]; rfl
theorem pair_byte (a b : Nat) (ha : a ≤ 15) (hb : b ≤ 15) : (16 * a + b).toUInt8.toNat = 16 * a + b := by
  show (16 * a + b) % 256 = _
  omega
theorem unpF_pair : ∀ (w b : List UInt8), unpF w = some b → pairF b = w ∧ zipF w = b
  | [], b, h => by cases h; exact ⟨rfl, rfl⟩
  | [_], b, h => by cases h
  | a :: c :: l, b, h => by
    unfold unpF at h
    cases hb : Nat.blt 15 (hexD a.toNat) || Nat.blt 15 (hexD c.toNat) with
    | true => rw [hb] at h; cases h
    | false =>
      rw [hb] at h
      have h : (unpF l).map (((16 * hexD a.toNat + hexD c.toNat).toUInt8) :: ·) = some b := h
      simp only [Bool.or_eq_false_iff] at hb
      have ha15 : hexD a.toNat ≤ 15 := by
        rcases Nat.lt_or_ge 15 (hexD a.toNat) with h' | h'
        · have := (by rw [Nat.blt_eq]; exact h' : Nat.blt _ _ = true); rw [hb.1] at this; cases this
        · exact h'
      have hc15 : hexD c.toNat ≤ 15 := by
        rcases Nat.lt_or_ge 15 (hexD c.toNat) with h' | h'
        · have := (by rw [Nat.blt_eq]; exact h' : Nat.blt _ _ = true); rw [hb.2] at this; cases this
        · exact h'
      cases hu : unpF l with
      | none => rw [hu] at h; cases h
      | some r =>
        rw [hu] at h
        cases h
        obtain ⟨i1, i2⟩ := unpF_pair l r hu
        have hn := pair_byte _ _ ha15 hc15
        constructor
        · show [dchr ((16 * hexD a.toNat + hexD c.toNat).toUInt8.toNat / 16), dchr ((16 * hexD a.toNat + hexD c.toNat).toUInt8.toNat % 16)] ++ pairF r = _
          rw [hn, show (16 * hexD a.toNat + hexD c.toNat) / 16 = hexD a.toNat by omega, show (16 * hexD a.toNat + hexD c.toNat) % 16 = hexD c.toNat by omega, dchr_of ha15, dchr_of hc15, i1]
          rfl
        · rw [zipF, hexZ_of ha15, hexZ_of hc15, i2]
theorem pairF_unp : ∀ (w : List UInt8), w.length % 2 = 0 → pairF (zipF w) = w → unpF w = some (zipF w)
  | [], _, _ => rfl
  | [_], h, _ => by simp at h
  | a :: c :: l, he, h => by
    rw [zipF] at h
    have h : dchr ((16 * hexZ a.toNat + hexZ c.toNat).toUInt8.toNat / 16) :: dchr ((16 * hexZ a.toNat + hexZ c.toNat).toUInt8.toNat % 16) :: pairF (zipF l) = a :: c :: l := h
    have za := hexZ_le a.toNat
    have zc := hexZ_le c.toNat
    rw [pair_byte _ _ za zc, show (16 * hexZ a.toNat + hexZ c.toNat) / 16 = hexZ a.toNat by omega, show (16 * hexZ a.toNat + hexZ c.toNat) % 16 = hexZ c.toNat by omega] at h
    injection h with h1 h
    injection h with h2 h3
    have da := (dchr_hexD a.toNat a.toNat_lt).2 _ (show hexZ a.toNat < 16 by omega) (by rw [h1])
    have dc := (dchr_hexD c.toNat c.toNat_lt).2 _ (show hexZ c.toNat < 16 by omega) (by rw [h2])
    have ih := pairF_unp l (by simp only [List.length_cons] at he; omega) h3
    have b1 : Nat.blt 15 (hexD a.toNat) = false := by
      cases hb : Nat.blt 15 (hexD a.toNat) with
      | false => rfl
      | true => rw [Nat.blt_eq] at hb; omega
    have b2 : Nat.blt 15 (hexD c.toNat) = false := by
      cases hb : Nat.blt 15 (hexD c.toNat) with
      | false => rfl
      | true => rw [Nat.blt_eq] at hb; omega
    unfold unpF
    rw [b1, b2, ih, zipF, da, dc]
    rfl
theorem unpair_iff (w : List UInt8) : (∀ b, unpairF w = some b → b = zipF w) ∧ ((unpairF w).isSome = true ↔ (w.length ≠ 0 ∧ w.length % 2 = 0 ∧ w = pairF (zipF w))) := by
  have hc : (w.isEmpty || !Nat.beq (w.length % 2) 0) = false ↔ (w.length ≠ 0 ∧ w.length % 2 = 0) := by
    rw [Bool.or_eq_false_iff]
    constructor
    · rintro ⟨h1, h2⟩
      refine ⟨fun h => ?_, ?_⟩
      · rw [List.length_eq_zero_iff.1 h] at h1; cases h1
      · cases hb : Nat.beq (w.length % 2) 0 with
        | true => rw [Nat.beq_eq] at hb; exact hb
        | false => rw [hb] at h2; cases h2
    · rintro ⟨h1, h2⟩
      refine ⟨?_, by rw [h2]; rfl⟩
      cases w with
      | nil => exact absurd rfl h1
      | cons a l => rfl
  unfold unpairF
  cases hb : w.isEmpty || !Nat.beq (w.length % 2) 0 with
  | true =>
    refine ⟨fun b h => (by cases h), ⟨fun h => (by cases h), fun h => ?_⟩⟩
    have := hc.2 ⟨h.1, h.2.1⟩
    rw [hb] at this; cases this
  | false =>
    have h2 := hc.1 hb
    refine ⟨fun b h => (unpF_pair w b h).2.symm, ⟨fun h => ?_, fun h => ?_⟩⟩
    · obtain ⟨b, hu⟩ := Option.isSome_iff_exists.1 h
      obtain ⟨p1, p2⟩ := unpF_pair w b hu
      exact ⟨h2.1, h2.2, by rw [p2]; exact p1.symm⟩
    · show (unpF w).isSome = true
      rw [pairF_unp w h.2.1 h.2.2.symm]; rfl
/-! ### Numbers -/
theorem decF_head {n : Int} (h : 0 ≤ n) : (decF n).take 1 ≠ [45] := by
  unfold decF tellF
  rw [if_neg (by omega)]
  simp only [List.nil_append]
  intro he
  have hm : (45 : UInt8) ∈ (dgs 10 n.natAbs).take 1 := by rw [he]; simp
  exact (dgs_nosp 10 (by decide) _ 45 (List.mem_of_mem_take hm)).2 rfl
theorem scanF_minus {w : List UInt8} (h : (w.take 1 == [45]) = true) : (scanF w 0).err ≠ 0 := by
  cases w with
  | nil => simp at h
  | cons c l =>
    have hc : c = 45 := by simpa using h
    subst hc
    have h0 : scanF (45 :: l) 0 = scBad 6 0 := rfl
    rw [h0]
    decide
theorem num_iff (w : List UInt8) (k : Int) (hk : 1 ≤ k) : ((scanF w 0).err = 0 ∧ (scanF w 0).e = w.length ∧ (decF (scanF w 0).n == w) = true ∧ k ≤ (scanF w 0).n → numW w = (scanF w 0).n ∧ decF (numW w) = w) ∧ (k ≤ numW w ∧ decF (numW w) = w → (scanF w 0).err = 0 ∧ (scanF w 0).e = w.length ∧ numW w = (scanF w 0).n) := by
  cases hm : w.take 1 == [45] with
  | true =>
    refine ⟨fun h => absurd h.1 (scanF_minus hm), fun h => ?_⟩
    have := decF_head (n := numW w) (by omega)
    rw [h.2] at this
    exact absurd (beq_iff_eq.1 hm) this
  | false =>
    have hcut : cutP w [45] = w := by
      unfold cutP
      rw [show ([45] : List UInt8).length = 1 from rfl, hm, if_neg (by simp)]
    have hok : okW w = ((scanF w 0).err == 0 && (scanF w 0).e == (w.length : Int)) := by unfold okW; rw [hcut]
    have hnum : numW w = if okW w then (scanF w 0).n else 0 := by unfold numW; rw [hm, hcut, if_neg (by simp : ¬ (false = true))]
    constructor
    · rintro ⟨h1, h2, h3, _⟩
      have : okW w = true := by rw [hok, h1, h2]; simp
      rw [hnum, if_pos this]
      exact ⟨rfl, beq_iff_eq.1 h3⟩
    · rintro ⟨h1, h2⟩
      cases ho : okW w with
      | false => rw [hnum, ho, if_neg (by simp)] at h1; omega
      | true =>
        rw [hok, Bool.and_eq_true, beq_iff_eq, beq_iff_eq] at ho
        refine ⟨ho.1, ho.2, ?_⟩
        rw [hnum, hok, ho.1, ho.2]; simp
end Go.Proofs.YthoanamkoigjeaaGreatDoor.code
/- The two readers of lines agree: plain law. -/
set_option linter.unusedVariables false
set_option linter.unusedSimpArgs false
set_option maxRecDepth 100000
namespace Go.Proofs.YthoanamkoigjeaaGreatDoor.code
open Go.Ab

def lastLn : Int → List Mk → Int
  | k, [] => k
  | _, m :: l => lastLn m.line l
theorem lastLn_get : ∀ (l : List Mk) (k : Int), (match l.getLast? with | some m => m.line | none => k) = lastLn k l
  | [], k => rfl
  | [a], k => rfl
  | a :: b :: l, k => by
    rw [List.getLast?_cons_cons, lastLn, ← lastLn_get (b :: l) a.line]
    cases h : (b :: l).getLast? with
    | none => rw [List.getLast?_eq_none_iff] at h; cases h
    | some m => rfl
theorem lastL_eq (l : List Mk) : lastL l = lastLn 1 l := by unfold lastL; exact lastLn_get l 1
theorem lastLn_ge : ∀ (l : List Mk) (a e ln : Int), marksF l a e ln = true → ln ≤ lastLn ln l
  | [], _, _, _, _ => Int.le_refl _
  | m :: l, a, e, ln, h => by
    rw [marksF] at h
    split at h
    · cases h
    · rename_i hn
      have := lastLn_ge l _ _ _ h
      rw [lastLn]; omega
theorem marksF_snoc : ∀ (l : List Mk) (a e e' ln : Int) (m : Mk), marksF l a e ln = true → e ≤ e' → (marksF (l ++ [m]) a e' ln = true ↔ (m.at_ = e ∧ 1 ≤ m.size ∧ m.size ≤ e' - e ∧ lastLn ln l ≤ m.line ∧ m.line ≤ 1048576 ∧ e + m.size = e'))
  | [], a, e, e', ln, m, h, he => by
    rw [marksF, beq_iff_eq] at h
    subst h
    rw [List.nil_append, marksF, lastLn]
    by_cases hb : m.at_ ≠ a ∨ m.size < 1 ∨ e' - a < m.size ∨ m.line < ln ∨ 1048576 < m.line
    · rw [if_pos hb]
      exact ⟨fun h => (by cases h), fun h => by omega⟩
    · rw [if_neg hb, marksF, beq_iff_eq]
      constructor
      · intro h; omega
      · intro h; omega
  | m0 :: l, a, e, e', ln, m, h, he => by
    rw [marksF] at h
    split at h
    · cases h
    · rename_i hn
      rw [List.cons_append, marksF, if_neg (by omega), lastLn]
      exact marksF_snoc l _ e e' _ m h he
theorem less_iff : ∀ a b : List UInt8, Op.bytesLess a b = true ↔ Sy.le b a = false
  | [], [] => by decide
  | [], d :: b => by simp [Op.bytesLess, Sy.le]
  | c :: a, [] => by simp [Op.bytesLess, Sy.le]
  | c :: a, d :: b => by
    have ih := less_iff a b
    simp only [Op.bytesLess, Sy.le, Bool.or_eq_true, Bool.and_eq_true, Bool.or_eq_false_iff, beq_iff_eq, decide_eq_true_eq, Bool.and_eq_false_iff, beq_eq_false_iff_ne, decide_eq_false_iff_not] at ih ⊢
    rcases Nat.lt_trichotomy c.toNat d.toNat with h | h | h
    · have h1 : c < d := h
      have h2 : ¬ d < c := fun h' => by have : d.toNat < c.toNat := h'; omega
      have h3 : ¬ d = c := fun h' => by rw [h'] at h; omega
      refine ⟨fun _ => ⟨⟨h2, .inl h3⟩, fun h' => ?_⟩, fun _ => .inl h1⟩
      injection h' with h' _; exact h3 h'
    · have h0 : c = d := UInt8.toNat_inj.1 h
      subst h0
      have h2 : ¬ c < c := fun h' => by have : c.toNat < c.toNat := h'; omega
      constructor
      · rintro (h' | ⟨_, h'⟩)
        · exact absurd h' h2
        · obtain ⟨i1, i2⟩ := ih.1 h'
          exact ⟨⟨h2, .inr i1⟩, fun h' => by injection h' with _ h'; exact i2 h'⟩
      · rintro ⟨⟨_, h'⟩, h''⟩
        refine .inr ⟨rfl, ih.2 ⟨?_, fun h => h'' (by rw [h])⟩⟩
        rcases h' with h' | h'
        · exact absurd rfl h'
        · exact h'
    · have h1 : d < c := h
      have h2 : ¬ c < d := fun h' => by have : c.toNat < d.toNat := h'; omega
      have h3 : ¬ c = d := fun h' => by rw [h'] at h; omega
      refine ⟨fun h' => ?_, fun h' => absurd h1 h'.1.1⟩
      rcases h' with h' | h'
      · exact absurd h' h2
      · exact absurd h'.1 h3
theorem symsOk_snoc (l : List Sy) (y : Sy) : SymsOk (l ++ [y]) ↔ (SymsOk l ∧ nameF y.name = true ∧ ∀ p, l.getLast? = some p → Op.bytesLess p.name y.name = true) := by
  constructor
  · intro h
    refine ⟨fun i z hz => ?_, ?_, fun p hp => ?_⟩
    · have hi : i < l.length := (List.getElem?_eq_some_iff.1 hz).1
      obtain ⟨h1, h2⟩ := h i z (by rw [List.getElem?_append_left hi]; exact hz)
      exact ⟨h1, fun p hp0 hp => h2 p hp0 (by rw [List.getElem?_append_left (by omega)]; exact hp)⟩
    · exact (h l.length y (by rw [List.getElem?_append_right (Nat.le_refl _)]; simp)).1
    · rw [List.getLast?_eq_getElem?] at hp
      have hi := (List.getElem?_eq_some_iff.1 hp).1
      exact (h l.length y (by rw [List.getElem?_append_right (Nat.le_refl _)]; simp)).2 p (by omega) (by rw [List.getElem?_append_left hi]; exact hp)
  · rintro ⟨h1, h2, h3⟩ i z hz
    by_cases hi : i < l.length
    · rw [List.getElem?_append_left hi] at hz
      obtain ⟨g1, g2⟩ := h1 i z hz
      exact ⟨g1, fun p hp0 hp => g2 p hp0 (by rw [List.getElem?_append_left (by omega)] at hp; exact hp)⟩
    · have hi2 := (List.getElem?_eq_some_iff.1 hz).1
      have hi3 : i = l.length := by rw [List.length_append] at hi2; simp at hi2; omega
      subst hi3
      rw [List.getElem?_append_right (Nat.le_refl _)] at hz
      simp at hz
      subst hz
      refine ⟨h2, fun p hp0 hp => h3 p ?_⟩
      rw [List.getElem?_append_left (by omega)] at hp
      rw [List.getLast?_eq_getElem?]; exact hp
/-! ### A mark's line -/
def wMark : List UInt8 := [109, 97, 114, 107]
def wSym : List UInt8 := [115, 121, 109]
def wHere : List UInt8 := [104, 101, 114, 101]
def wConst : List UInt8 := [99, 111, 110, 115, 116]
theorem markF_join (n a : Int) (b : List UInt8) : markF n a b = joinF [wMark, decF n, hexF a, pairF b] := by
  simp [markF, joinF, wMark]
theorem symF_join (y : Sy) : symF y = joinF [wSym, y.name, hexF y.n, if y.here then wHere else wConst] := by
  cases hh : y.here <;> simp [symF, joinF, wSym, wHere, wConst, hh]
def MC (x : Im) (w1 w2 w3 : List UInt8) : Prop := (w3.length ≠ 0 ∧ w3.length % 2 = 0 ∧ w3 = pairF (zipF w3)) ∧ hexF (numW w2) = w2 ∧ decF (numW w1) = w1 ∧ lastL x.marks ≤ numW w1 ∧ numW w1 ≤ 1048576 ∧ numW w2 = x.org + x.b.length ∧ x.b.length + w3.length / 2 ≤ 1048576 ∧ x.marks.length ≠ 20000
def MX (x : Im) (w1 w2 w3 : List UInt8) : Im := { x with b := x.b ++ zipF w3, marks := x.marks ++ [⟨numW w1, numW w2, ((w3.length / 2 : Nat) : Int)⟩] }
theorem markS_iff {x : Im} {s w0 w1 w2 w3 : List UInt8} (hw : wordsF s = [w0, w1, w2, w3]) (hb : x.b.length ≤ 1048576) : (w0 = wMark ∧ MC x w1 w2 w3 → markS x s = some (.mark, MX x w1 w2 w3)) ∧ (¬ (w0 = wMark ∧ MC x w1 w2 w3) → markS x s = none) := by
  have hs := (joinF_words s).1
  rw [hw] at hs
  constructor
  · rintro ⟨h0, ⟨h1, h2, h3⟩, h4, h5, h6, h7, h8, h9, h10⟩
    unfold markS
    rw [hw]
    simp only
    rw [if_neg (by omega), if_neg (by omega), if_neg (by omega), if_pos]
    · rfl
    · rw [markF_join, h5, h4, ← h3, beq_iff_eq, ← hs, h0]
  · intro hn
    unfold markS
    rw [hw]
    simp only
    split
    · rfl
    · split
      · rfl
      · split
        · rfl
        · split
          · rename_i g1 g2 g3 g4
            refine absurd ?_ hn
            have g4 := beq_iff_eq.1 g4
            rw [markF_join, words_iff (by simp) (by
              intro w hw
              simp only [List.mem_cons, List.not_mem_nil, or_false] at hw
              rcases hw with rfl | rfl | rfl | rfl
              · exact (show ∀ c ∈ wMark, c ≠ 32 by decide)
              · exact decF_nosp _
              · exact hexF_nosp _
              · exact pairF_nosp _), hw] at g4
            simp only [List.cons.injEq, and_true] at g4
            obtain ⟨k0, k1, k2, k3⟩ := g4
            exact ⟨k0, ⟨by omega, by omega, k3⟩, k2.symm, k1.symm, by omega, by omega, by omega, by omega, by omega⟩
          · rfl
theorem lineM_iff {x y : Im} {w1 w2 w3 : List UInt8} (hc : ChkOk x) : (lineM x w1 w2 w3 = some y ∧ ChkOk y) ↔ (MC x w1 w2 w3 ∧ y = MX x w1 w2 w3) := by
  obtain ⟨⟨c1, c2, c3⟩, c4, c5, c6⟩ := hc
  have hge := lastLn_ge _ _ _ _ c6
  rw [← lastL_eq] at hge
  obtain ⟨n1, n2⟩ := num_iff w1 (lastL x.marks) hge
  obtain ⟨u1, u2⟩ := unpair_iff w3
  have hzl := zipF_len w3
  constructor
  · rintro ⟨h, hy⟩
    unfold lineM at h
    cases hu : unpairF w3 with
    | none => rw [hu] at h; cases h
    | some b =>
      rw [hu] at h
      simp only at h
      have hbz := u1 b hu
      subst hbz
      have hsm := u2.1 (by rw [hu]; rfl)
      split at h
      · rename_i hcond
        cases h
        obtain ⟨⟨d1, d2, d3⟩, d4, d5, d6⟩ := hy
        simp only [List.length_append, List.length_cons, List.length_nil] at d1 d2 d3 d6
        rw [marksF_snoc x.marks x.org (x.org + x.b.length) _ 1 _ c6 (by omega), ← lastL_eq] at d6
        simp only at d6
        obtain ⟨k1, k2⟩ := n1 ⟨hcond.2.1, hcond.2.2.1, hcond.2.2.2, d6.2.2.2.1⟩
        refine ⟨⟨hsm, beq_iff_eq.1 hcond.1, k2, by omega, by omega, by omega, by omega, by omega⟩, ?_⟩
        unfold MX
        rw [k1, hzl]
      · cases h
  · rintro ⟨⟨h1, h4, h5, h6, h7, h8, h9, h10⟩, rfl⟩
    have hus := u2.2 h1
    obtain ⟨b, hu⟩ := Option.isSome_iff_exists.1 hus
    have hbz := u1 b hu
    subst hbz
    obtain ⟨k1, k2, k3⟩ := n2 ⟨h6, h5⟩
    constructor
    · unfold lineM
      rw [hu]
      simp only
      rw [if_pos ⟨by rw [h4]; simp, k1, k2, by rw [← k3, h5]; simp⟩, ← k3, hzl]
      rfl
    · refine ⟨?_, c4, c5, ?_⟩
      · simp only [MX, List.length_append, List.length_cons, List.length_nil]; omega
      · simp only [MX, List.length_append]
        rw [marksF_snoc x.marks x.org (x.org + x.b.length) _ 1 _ c6 (by omega), ← lastL_eq]
        simp only
        omega
/-! ### A symbol's line -/
def SC (x : Im) (w1 w2 w3 : List UInt8) : Prop := hexF (numW w2) = w2 ∧ (w3 = wHere ∨ w3 = wConst) ∧ nameF w1 = true ∧ x.syms.length ≠ 20000 ∧ ∀ y, x.syms.getLast? = some y → Sy.le w1 y.name = false
def SX (x : Im) (w1 w2 w3 : List UInt8) : Im := { x with syms := x.syms ++ [⟨w1, numW w2, w3 == wHere⟩] }
theorem symT_iff {x : Im} {s w0 w1 w2 w3 : List UInt8} (hw : wordsF s = [w0, w1, w2, w3]) : (w0 = wSym ∧ SC x w1 w2 w3 → symT x s w1 w2 w3 = some (.sym, SX x w1 w2 w3)) ∧ (¬ (w0 = wSym ∧ SC x w1 w2 w3) → symT x s w1 w2 w3 = none) := by
  obtain ⟨hs, hno⟩ := joinF_words s
  rw [hw] at hs hno
  have hb : (s == symF ⟨w1, numW w2, w3 == [104, 101, 114, 101]⟩) = true ↔ (w0 = wSym ∧ hexF (numW w2) = w2 ∧ (w3 = wHere ∨ w3 = wConst)) := by
    rw [beq_iff_eq, symF_join, words_iff (by simp) (by
      intro w hw
      simp only [List.mem_cons, List.not_mem_nil, or_false] at hw
      rcases hw with rfl | rfl | rfl | rfl
      · exact (show ∀ c ∈ wSym, c ≠ 32 by decide)
      · exact hno _ (by simp)
      · exact hexF_nosp _
      · split
        · exact (show ∀ c ∈ wHere, c ≠ 32 by decide)
        · exact (show ∀ c ∈ wConst, c ≠ 32 by decide)), hw]
    simp only [List.cons.injEq, and_true, true_and]
    have h3 : w3 = (if (w3 == [104, 101, 114, 101]) = true then wHere else wConst) ↔ (w3 = wHere ∨ w3 = wConst) := by
      by_cases h : w3 = wHere
      · have hq : (w3 == [104, 101, 114, 101]) = true := beq_iff_eq.2 h
        rw [if_pos hq]
        exact ⟨.inl, fun _ => h⟩
      · have hq : ¬ (w3 == [104, 101, 114, 101]) = true := fun h' => h (beq_iff_eq.1 h')
        rw [if_neg hq]
        exact ⟨.inr, fun h' => h'.resolve_left h⟩
    rw [h3]
    constructor
    · rintro ⟨a, b, c⟩; exact ⟨a, b.symm, c⟩
    · rintro ⟨a, b, c⟩; exact ⟨a, b.symm, c⟩
  constructor
  · rintro ⟨h0, h1, h2, h3, h4, h5⟩
    unfold symT
    rw [if_pos ⟨hb.2 ⟨h0, h1, h2⟩, h3, h4, h5⟩]
    rfl
  · intro hn
    unfold symT
    rw [if_neg fun h => hn ?_]
    obtain ⟨a, b, c⟩ := hb.1 h.1
    exact ⟨a, b, c, h.2.1, h.2.2.1, h.2.2.2⟩
theorem lineY_iff {x y : Im} {w1 w2 w3 : List UInt8} (hc : ChkOk x) : (lineY x w1 w2 w3 = some y ∧ ChkOk y) ↔ (x.marks = [] ∧ SC x w1 w2 w3 ∧ y = SX x w1 w2 w3) := by
  obtain ⟨⟨c1, c2, c3⟩, c4, c5, c6⟩ := hc
  unfold lineY
  constructor
  · rintro ⟨h, hy⟩
    split at h
    · rename_i hcond
      cases h
      obtain ⟨⟨d1, d2, d3⟩, d4, d5, d6⟩ := hy
      simp only [List.length_append, List.length_cons, List.length_nil] at d2
      obtain ⟨e1, e2, e3⟩ := (symsOk_snoc _ _).1 d5
      exact ⟨List.length_eq_zero_iff.1 hcond.2.1, ⟨beq_iff_eq.1 hcond.1, hcond.2.2, e2, by omega, fun p hp => (less_iff _ _).1 (e3 p hp)⟩, rfl⟩
    · cases h
  · rintro ⟨h0, ⟨h1, h2, h3, h4, h5⟩, rfl⟩
    rw [if_pos ⟨beq_iff_eq.2 h1, by rw [h0]; rfl, h2⟩]
    refine ⟨rfl, ⟨by simp only [SX, List.length_append, List.length_cons, List.length_nil]; omega, c4, ?_, c6⟩⟩
    exact (symsOk_snoc _ _).2 ⟨c5, h3, fun p hp => (less_iff _ _).2 (h5 p hp)⟩
end Go.Proofs.YthoanamkoigjeaaGreatDoor.code
/- The two readers of lines agree. -/
set_option linter.unusedVariables false
set_option linter.unusedSimpArgs false
set_option maxRecDepth 100000
namespace Go.Proofs.YthoanamkoigjeaaGreatDoor.code
open Go.Ab

def GM (g : Option Stg) (x : Im) : Prop := match g with
  | none => x = im0
  | some .sym => ChkOk x ∧ x.marks = []
  | some .mark => ChkOk x ∧ x.marks ≠ []
def Agree (g : Option Stg) (x : Im) (s : List UInt8) (r : Option (Stg × Im)) : Prop := match r with
  | none => ∀ y, lineS x s g.isNone = some y → ¬ ChkOk y
  | some (g', x') => lineS x s g.isNone = some x' ∧ ChkOk x' ∧ GM (some g') x'
theorem lineS_four {x : Im} {s : List UInt8} {w0 w1 w2 w3 : List UInt8} (hw : wordsF s = [w0, w1, w2, w3]) : lineS x s false = if w0 = wSym then lineY x w1 w2 w3 else if w0 = wMark then lineM x w1 w2 w3 else none := by
  unfold lineS
  rw [if_neg (by simp), hw]; rfl
theorem lineS_not {x : Im} {s : List UInt8} (h : (wordsF s).length ≠ 4) : lineS x s false = none := by
  unfold lineS
  rw [if_neg (by simp)]
  split
  · rename_i hw; rw [hw] at h; exact absurd rfl h
  · rfl
theorem markS_not {x : Im} {s : List UInt8} (h : (wordsF s).length ≠ 4) : markS x s = none := by
  unfold markS
  split
  · rename_i hw; rw [hw] at h; exact absurd rfl h
  · rfl
theorem four {s : List UInt8} (h : (wordsF s).length = 4) : ∃ w0 w1 w2 w3, wordsF s = [w0, w1, w2, w3] := by
  match hm : wordsF s with
  | [a, c, d, f] => exact ⟨a, c, d, f, rfl⟩
  | [] | [_] | [_, _] | [_, _, _] | _ :: _ :: _ :: _ :: _ :: _ => rw [hm] at h; simp at h
theorem take5 {s w0 w1 w2 w3 : List UInt8} (hw : wordsF s = [w0, w1, w2, w3]) : (s.take 5 == [109, 97, 114, 107, 32]) = true ↔ w0 = wMark := by
  obtain ⟨hs, hno⟩ := joinF_words s
  rw [hw] at hs hno
  rw [beq_iff_eq]
  constructor
  · intro h
    have h2 : s = wMark ++ 32 :: s.drop 5 := by
      conv => lhs; rw [← List.take_append_drop 5 s, h]
      rfl
    have h3 := wordsF_cut wMark (s.drop 5) (show ∀ c ∈ wMark, c ≠ 32 by decide)
    rw [← h2, hw] at h3
    injection h3
  · intro h
    rw [← hs, h]
    rfl
theorem mark_agree {x : Im} {s : List UInt8} {g : Option Stg} (hg : g.isNone = false) (hc : ChkOk x) (hm : wordsF s = [] ∨ (wordsF s).length ≠ 4 ∨ x.marks ≠ [] ∨ ∃ w1 w2 w3, wordsF s = [wMark, w1, w2, w3]) : Agree g x s (markS x s) := by
  by_cases h4 : (wordsF s).length = 4
  · obtain ⟨w0, w1, w2, w3, hw⟩ := four h4
    obtain ⟨m1, m2⟩ := markS_iff (x := x) hw hc.1.1
    have hl := lineS_four (x := x) hw
    by_cases hk : w0 = wMark ∧ MC x w1 w2 w3
    · rw [m1 hk]
      have hh := (lineM_iff (y := MX x w1 w2 w3) hc).2 ⟨hk.2, rfl⟩
      refine ⟨?_, hh.2, hh.2, ?_⟩
      · rw [hg, hl, if_neg (by rw [hk.1]; decide), if_pos hk.1]; exact hh.1
      · unfold MX; simp
    · rw [m2 hk]
      intro y hy hcy
      rw [hg, hl] at hy
      split at hy
      · rename_i hsym
        have := (lineY_iff (y := y) hc).1 ⟨hy, hcy⟩
        rcases hm with h | h | h | ⟨v1, v2, v3, h⟩
        · rw [h] at hw; cases hw
        · exact h h4
        · exact h this.1
        · rw [h] at hw; injection hw with hw _; rw [hsym] at hw; revert hw; decide
      · split at hy
        · rename_i h0
          exact hk ⟨h0, ((lineM_iff (y := y) hc).1 ⟨hy, hcy⟩).1⟩
        · cases hy
  · rw [markS_not h4]
    intro y hy
    rw [hg, lineS_not h4] at hy
    cases hy
theorem agree (g : Option Stg) (x : Im) (s : List UInt8) (hG : GM g x) : Agree g x s (goS g x s) := by
  match g, hG with
  | none, hG =>
    have hG : x = im0 := hG
    subst hG
    have hl : lineS im0 s true = (match wordsF s with | [w0, w1] => lineO im0 w0 w1 | _ => none) := by unfold lineS; rw [if_pos rfl]; try rfl
    by_cases h2 : (wordsF s).length = 2
    · obtain ⟨w0, w1, hw⟩ : ∃ w0 w1, wordsF s = [w0, w1] := by
        match hm : wordsF s with
        | [a, c] => exact ⟨a, c, rfl⟩
        | [] | [_] | _ :: _ :: _ :: _ => rw [hm] at h2; simp at h2
      rw [hw] at hl
      simp only at hl
      have hiff : (s == orgF (numW w1)) = true ↔ (w0 = [111, 114, 103] ∧ hexF (numW w1) = w1) := by
        have hj : orgF (numW w1) = joinF [[111, 114, 103], hexF (numW w1)] := by simp [orgF, joinF]
        rw [beq_iff_eq, hj, words_iff (by simp) (by
          intro w hw
          simp only [List.mem_cons, List.not_mem_nil, or_false] at hw
          rcases hw with rfl | rfl
          · exact (show ∀ c ∈ ([111, 114, 103] : List UInt8), c ≠ 32 by decide)
          · exact hexF_nosp _), hw]
        simp only [List.cons.injEq, and_true]
        exact ⟨fun h => ⟨h.1, h.2.symm⟩, fun h => ⟨h.1, h.2.symm⟩⟩
      have hgo : goS none im0 s = if (s == orgF (numW w1)) = true ∧ 0 ≤ numW w1 ∧ numW w1 ≤ 140737488355328 then some (.sym, { im0 with org := numW w1 }) else none := by
        show orgS im0 s = _
        unfold orgS; rw [hw]
      have hchk : ChkOk { im0 with org := numW w1 } ↔ (0 ≤ numW w1 ∧ numW w1 ≤ 140737488355328) := by
        constructor
        · intro h; exact h.2.1
        · intro h
          refine ⟨⟨by simp [im0], by simp [im0], by simp [im0]⟩, h, fun i y hy => by simp [im0] at hy, ?_⟩
          show marksF [] _ _ 1 = true
          rw [marksF, beq_iff_eq]
          simp [im0]
      rw [hgo]
      split
      · rename_i hc
        have h1 := hiff.1 hc.1
        have hk := hchk.2 hc.2
        refine ⟨?_, hk, hk, rfl⟩
        rw [show (none : Option Stg).isNone = true from rfl, hl]
        unfold lineO
        rw [if_pos ⟨h1.1, beq_iff_eq.2 h1.2⟩]
      · rename_i hc
        intro y hy hcy
        rw [show (none : Option Stg).isNone = true from rfl, hl] at hy
        unfold lineO at hy
        split at hy
        · rename_i h1
          cases hy
          exact hc ⟨hiff.2 ⟨h1.1, beq_iff_eq.1 h1.2⟩, hchk.1 hcy⟩
        · cases hy
    · have hgo : goS none im0 s = none := by
        show orgS im0 s = _
        unfold orgS
        split
        · rename_i hw; rw [hw] at h2; exact absurd rfl h2
        · rfl
      rw [hgo]
      intro y hy
      rw [show (none : Option Stg).isNone = true from rfl, hl] at hy
      split at hy
      · rename_i hw; rw [hw] at h2; exact absurd rfl h2
      · cases hy
  | some .mark, hG => exact mark_agree rfl hG.1 (.inr (.inr (.inl hG.2)))
  | some .sym, hG =>
    obtain ⟨hc, hm0⟩ := hG
    show Agree (some .sym) x s (symS x s)
    unfold symS
    by_cases h4 : (wordsF s).length = 4
    · obtain ⟨w0, w1, w2, w3, hw⟩ := four h4
      have ht := take5 hw
      by_cases h0 : w0 = wMark
      · rw [if_pos (ht.2 h0)]
        exact mark_agree rfl hc (.inr (.inr (.inr ⟨w1, w2, w3, by rw [hw, h0]⟩)))
      · rw [if_neg (fun h => h0 (ht.1 h)), hw]
        obtain ⟨t1, t2⟩ := symT_iff (x := x) hw
        have hl := lineS_four (x := x) hw
        simp only
        by_cases hk : w0 = wSym ∧ SC x w1 w2 w3
        · rw [t1 hk]
          have hh := (lineY_iff (y := SX x w1 w2 w3) hc).2 ⟨hm0, hk.2, rfl⟩
          refine ⟨?_, hh.2, hh.2, hm0⟩
          rw [show (some Stg.sym).isNone = false from rfl, hl, if_pos hk.1]; exact hh.1
        · rw [t2 hk]
          intro y hy hcy
          rw [show (some Stg.sym).isNone = false from rfl, hl] at hy
          split at hy
          · rename_i hsym
            exact hk ⟨hsym, ((lineY_iff (y := y) hc).1 ⟨hy, hcy⟩).2.1⟩
          · first | (rw [if_neg h0] at hy; cases hy) | cases hy
    · have hn : Agree (some .sym) x s none := fun y hy => by
        rw [show (some Stg.sym).isNone = false from rfl, lineS_not h4] at hy; cases hy
      split
      · rw [markS_not h4]; exact hn
      · split
        · rename_i hw; rw [hw] at h4; exact absurd rfl h4
        · exact hn
theorem read_same : ∀ (l : List (List UInt8)) (g : Option Stg) (x : Im) (i : Nat), (i == 0) = g.isNone → GM g x → readS g x i l = readR x i l
  | [], g, x, i, _, _ => by cases g <;> rfl
  | s :: l, g, x, i, hi, hG => by
    have ha := agree g x s hG
    rw [readS, readR, hi]
    cases hgo : goS g x s with
    | none =>
      rw [hgo] at ha
      simp only
      cases hls : lineS x s g.isNone with
      | none => rfl
      | some y => simp only; rw [if_neg (ha y hls)]
    | some r =>
      obtain ⟨g', x'⟩ := r
      rw [hgo] at ha
      obtain ⟨h1, h2, h3⟩ := ha
      simp only
      rw [h1]
      simp only
      rw [if_pos h2]
      exact read_same l (some g') x' (i + 1) rfl h3
theorem readF_refF (l : List (List UInt8)) : readF l = refF l := by
  unfold readF refF
  split
  · rfl
  · exact read_same l none im0 0 rfl rfl
end Go.Proofs.YthoanamkoigjeaaGreatDoor.code
