/- Names: token.Name and the document's. -/
import Derived.Test.YtbkbdnlfkahaaaaGreatDoorLibA
import Derived.Test.YtbkbdnlfkahaaaaGreatDoorC7Asm
set_option linter.unusedVariables false
set_option linter.unusedSimpArgs false
set_option maxRecDepth 100000
set_option maxHeartbeats 4000000
namespace Go.Proofs.YtbkbdnlfkahaaaaGreatDoor.code
open Go.Ab

def firstF (c : Int) : Bool := (decide (97 ≤ c) && decide (c ≤ 122)) || (decide (65 ≤ c) && decide (c ≤ 90)) || (c == 95) || (c == 46)
def moreF (c : Int) : Bool := firstF c || (decide (48 ≤ c) && decide (c ≤ 57))
theorem q_token_isFirst (c : Int) (H : Heap) : CallQ prog f_token_isFirst [.int .u8 c] H fun u H' => u = .bool (firstF c) ∧ H' = H := by
  refine in_token_isFirst fun hw => ?_
  have e : firstF c = ((decide (97 ≤ c) && decide (c ≤ 122)) || (decide (65 ≤ c) && decide (c ≤ 90)) || (c == 95) || (c == 46)) := rfl
  rw [e]
  simp only [pc_token_isFirst, sxA, sxB, Nat.reduceBEq, Nat.reduceEqDiff, reduceCtorEq, mxA, mxB, Nat.reduceAdd, reduceIte, Nat.reduceLeDiff, splice, ret_token_isFirst]
  cases h1 : decide (97 ≤ c) <;> cases h2 : decide (c ≤ 122) <;> cases h3 : decide (65 ≤ c) <;> cases h4 : decide (c ≤ 90) <;> cases h5 : c == 95 <;> cases h6 : c == 46 <;> simp only [sxA, sxB, Nat.reduceBEq, Nat.reduceEqDiff, reduceCtorEq, mxA, mxB, Nat.reduceAdd, reduceIte, Nat.reduceLeDiff, splice, h1, h2, h3, h4, h5, h6, ret_token_isFirst] <;> exact .mk (Nat.le_refl _) ⟨rfl, rfl⟩
theorem q_ref22_first (c : Int) (H : Heap) : CallQ prog f_linotyperef22_first [.int .u8 c] H fun u H' => u = .bool (firstF c) ∧ H' = H := by
  refine in_linotyperef22_first fun hw => ?_
  have e : firstF c = ((decide (97 ≤ c) && decide (c ≤ 122)) || (decide (65 ≤ c) && decide (c ≤ 90)) || (c == 95) || (c == 46)) := rfl
  rw [e]
  simp only [pc_linotyperef22_first, sxA, sxB, Nat.reduceBEq, Nat.reduceEqDiff, reduceCtorEq, mxA, mxB, Nat.reduceAdd, reduceIte, Nat.reduceLeDiff, splice, ret_linotyperef22_first]
  cases h1 : decide (97 ≤ c) <;> cases h2 : decide (c ≤ 122) <;> cases h3 : decide (65 ≤ c) <;> cases h4 : decide (c ≤ 90) <;> cases h5 : c == 95 <;> cases h6 : c == 46 <;> simp only [sxA, sxB, Nat.reduceBEq, Nat.reduceEqDiff, reduceCtorEq, mxA, mxB, Nat.reduceAdd, reduceIte, Nat.reduceLeDiff, splice, ge_iff_le, h1, h2, h3, h4, h5, h6, ret_linotyperef22_first] <;> exact .mk (Nat.le_refl _) ⟨rfl, rfl⟩
theorem q_token_isMore (c : Int) (H : Heap) : CallQ prog f_token_isMore [.int .u8 c] H fun u H' => u = .bool (moreF c) ∧ H' = H := by
  refine in_token_isMore fun hw => ?_
  have e : moreF c = (firstF c || (decide (48 ≤ c) && decide (c ≤ 57))) := rfl
  rw [e]
  simp only [pc_token_isMore, sxA, sxB, Nat.reduceBEq, Nat.reduceEqDiff, reduceCtorEq, mxA, mxB, Nat.reduceAdd, reduceIte, Nat.reduceLeDiff, splice]
  refine (q_token_isFirst c H).thenW ?_
  rintro _ H _ hw ⟨rfl, rfl⟩
  simp only [sxA, sxB, Nat.reduceBEq, Nat.reduceEqDiff, reduceCtorEq, mxA, mxB, Nat.reduceAdd, reduceIte, Nat.reduceLeDiff, splice, ret_token_isMore]
  cases h0 : firstF c <;> cases h1 : decide (48 ≤ c) <;> cases h2 : decide (c ≤ 57) <;> simp only [sxA, sxB, Nat.reduceBEq, Nat.reduceEqDiff, reduceCtorEq, mxA, mxB, Nat.reduceAdd, reduceIte, Nat.reduceLeDiff, splice, h0, h1, h2, ret_token_isMore] <;> exact .mk (Nat.le_refl _) ⟨rfl, rfl⟩
theorem q_ref22_more (c : Int) (H : Heap) : CallQ prog f_linotyperef22_more [.int .u8 c] H fun u H' => u = .bool (moreF c) ∧ H' = H := by
  refine in_linotyperef22_more fun hw => ?_
  have e : moreF c = (firstF c || (decide (48 ≤ c) && decide (c ≤ 57))) := rfl
  rw [e]
  simp only [pc_linotyperef22_more, sxA, sxB, Nat.reduceBEq, Nat.reduceEqDiff, reduceCtorEq, mxA, mxB, Nat.reduceAdd, reduceIte, Nat.reduceLeDiff, splice]
  refine (q_ref22_first c H).thenW ?_
  rintro _ H _ hw ⟨rfl, rfl⟩
  simp only [sxA, sxB, Nat.reduceBEq, Nat.reduceEqDiff, reduceCtorEq, mxA, mxB, Nat.reduceAdd, reduceIte, Nat.reduceLeDiff, splice, ret_linotyperef22_more]
  cases h0 : firstF c <;> cases h1 : decide (48 ≤ c) <;> cases h2 : decide (c ≤ 57) <;> simp only [sxA, sxB, Nat.reduceBEq, Nat.reduceEqDiff, reduceCtorEq, mxA, mxB, Nat.reduceAdd, reduceIte, Nat.reduceLeDiff, splice, ge_iff_le, h0, h1, h2, ret_linotyperef22_more] <;> exact .mk (Nat.le_refl _) ⟨rfl, rfl⟩
def nameF : List UInt8 → Bool
  | [] => false
  | b :: l => decide (l.length < 60) && firstF b.toNat && l.all fun b => moreF b.toNat
theorem first_more {c : Int} (h : firstF c = true) : moreF c = true := by unfold moreF; rw [h]; rfl
theorem take_all {l : List UInt8} {i : Nat} {b : UInt8} (h : l[i]? = some b) : ((l.take (i + 1)).all fun b => moreF b.toNat) = (((l.take i).all fun b => moreF b.toNat) && moreF b.toNat) := by
  rw [List.take_add_one, h]
  simp
theorem not_all {l : List UInt8} {i : Nat} {b : UInt8} (h : l[i]? = some b) (hb : moreF b.toNat = false) : (l.all fun b => moreF b.toNat) = false := by
  cases ha : l.all fun b => moreF b.toNat with
  | false => rfl
  | true =>
    have := List.all_eq_true.1 ha b (List.mem_of_getElem? h)
    rw [hb] at this
    cases this
theorem q_token_Name (s : ByteArray) (hl : (bl s).length ≤ 1000000) (H : Heap) : CallQ prog f_token_Name [.string s] H fun u H' => u = .bool (nameF (bl s)) ∧ H' = H := by
  refine in_token_Name fun hw => ?_
  generalize hbl : bl s = l at *
  simp only [pc_token_Name, sxA, sxB, Nat.reduceBEq, Nat.reduceEqDiff, reduceCtorEq, mxA, mxB, Nat.reduceAdd, reduceIte, Nat.reduceLeDiff, splice, Zdk, hbl]
  cases hc : l with
  | nil =>
    subst hc
    have z : (((0 : Nat) : Int) == 0) = true := rfl
    simp only [sxA, sxB, Nat.reduceBEq, Nat.reduceEqDiff, reduceCtorEq, mxA, mxB, Nat.reduceAdd, reduceIte, Nat.reduceLeDiff, splice, z, ret_token_Name]
    exact .mk (Nat.le_refl _) ⟨rfl, rfl⟩
  | cons b0 l0 =>
    rw [← hc]
    have hn : l.length = l0.length + 1 := by rw [hc]; rfl
    have z : ((l.length : Int) == 0) = false := by rw [hn]; exact beq_eq_false_iff_ne.2 (by omega)
    have h0 : l[0]? = some b0 := by rw [hc]; rfl
    have eN : nameF l = (decide (l0.length < 60) && firstF b0.toNat && l0.all fun b => moreF b.toNat) := by rw [hc]; rfl
    rw [eN]
    simp only [sxA, sxB, Nat.reduceBEq, Nat.reduceEqDiff, reduceCtorEq, mxA, mxB, Nat.reduceAdd, reduceIte, Nat.reduceLeDiff, splice, Zdk, Zbw, hbl, z, h0]
    by_cases h60 : (60 : Int) < l.length
    · have e60 : decide ((60 : Int) < l.length) = true := decide_eq_true h60
      have e61 : decide (l0.length < 60) = false := decide_eq_false (by omega)
      simp only [sxA, sxB, Nat.reduceBEq, Nat.reduceEqDiff, reduceCtorEq, mxA, mxB, Nat.reduceAdd, reduceIte, Nat.reduceLeDiff, splice, e60, ret_token_Name]
      exact .mk (Nat.le_refl _) ⟨by rw [e61]; rfl, rfl⟩
    · have e60 : decide ((60 : Int) < l.length) = false := decide_eq_false h60
      have e61 : decide (l0.length < 60) = true := decide_eq_true (by omega)
      have t0 : (0 : Int) ≤ 0 := Int.le_refl 0
      have t00 : (0 : Int).toNat = 0 := rfl
      rw [e61, Bool.true_and]
      simp only [sxA, sxB, Nat.reduceBEq, Nat.reduceEqDiff, reduceCtorEq, mxA, mxB, Nat.reduceAdd, reduceIte, Nat.reduceLeDiff, splice, Zbw, hbl, e60, t0, t00, h0, true_and]
      refine (q_token_isFirst b0.toNat H).thenW ?_
      rintro _ H _ hw ⟨rfl, rfl⟩
      cases hf : firstF b0.toNat with
      | false =>
        simp only [sxA, sxB, Nat.reduceBEq, Nat.reduceEqDiff, reduceCtorEq, mxA, mxB, Nat.reduceAdd, reduceIte, Nat.reduceLeDiff, splice, ret_token_Name]
        exact .mk (Nat.le_refl _) ⟨rfl, rfl⟩
      | true =>
        have hm0 := first_more hf
        have eA : (l0.all fun b => moreF b.toNat) = l.all fun b => moreF b.toNat := by rw [hc, List.all_cons, hm0, Bool.true_and]
        rw [Bool.true_and, eA]
        simp only [sxA, sxB, Nat.reduceBEq, Nat.reduceEqDiff, reduceCtorEq, mxA, mxB, Nat.reduceAdd, reduceIte, Nat.reduceLeDiff, splice, Zdk, hbl]
        refine loop_intro (fun m A' H' => ∃ i : Nat, i ≤ l.length ∧ m = l.length - i ∧ H' = H ∧ ((l.take i).all fun b => moreF b.toNat) = true ∧ A' 0 = .string s ∧ A' 19 = .int .i64 l.length ∧ A' 20 = .int .i64 i) l.length ?_ ?_
        · refine ⟨0, Nat.zero_le _, by omega, rfl, rfl, ?_, ?_, ?_⟩
          all_goals simp only [uxA, uxB, Nat.reduceBEq]
          all_goals rfl
        · rintro m A' H' ⟨i, hi, rfl, hEq, hall, r0, r19, r20⟩
          subst hEq
          simp only [sxA, sxB, Nat.reduceBEq, Nat.reduceEqDiff, reduceCtorEq, mxA, mxB, Nat.reduceAdd, reduceIte, Nat.reduceLeDiff, splice, r19, r20]
          refine cB_cases (fun h2 => ?_) (fun h2 => ?_)
          · have h2 : i < l.length := by have := of_decide_eq_true h2; omega
            have hp := List.getElem?_eq_getElem h2
            have c1 : (0 : Int) ≤ i := by omega
            have c3 : (i : Int).toNat = i := by omega
            have ei : IntKind.i64.wrap ((i : Int) + 1) = ((i + 1 : Nat) : Int) := by rw [w64 (by unfold I64; omega)]; omega
            have ht := take_all hp
            have hno := not_all hp
            generalize l[i] = b at *
            simp only [sxA, sxB, Nat.reduceBEq, Nat.reduceEqDiff, reduceCtorEq, mxA, mxB, Nat.reduceAdd, reduceIte, Nat.reduceLeDiff, splice, r0, r20, Zbw, hbl, c1, c3, hp, true_and]
            refine (q_token_isMore b.toNat H').thenW ?_
            rintro _ H2 _ hw2 ⟨rfl, rfl⟩
            cases hmb : moreF b.toNat with
            | false =>
              simp only [sxA, sxB, Nat.reduceBEq, Nat.reduceEqDiff, reduceCtorEq, mxA, mxB, Nat.reduceAdd, reduceIte, Nat.reduceLeDiff, splice, ret_token_Name]
              exact .mk (Nat.le_refl _) ⟨by rw [hno hmb], rfl⟩
            | true =>
              simp only [sxA, sxB, Nat.reduceBEq, Nat.reduceEqDiff, reduceCtorEq, mxA, mxB, Nat.reduceAdd, reduceIte, Nat.reduceLeDiff, splice, r20, ei]
              refine ⟨l.length - (i + 1), by omega, i + 1, by omega, rfl, rfl, by rw [ht, hall, hmb]; rfl, ?_, ?_, ?_⟩
              all_goals simp only [uxA, uxB, Nat.reduceBEq, r0, r19]
          · have h2 : i = l.length := by have := of_decide_eq_false h2; omega
            subst h2
            rw [List.take_length] at hall
            simp only [sxA, sxB, Nat.reduceBEq, Nat.reduceEqDiff, reduceCtorEq, mxA, mxB, Nat.reduceAdd, reduceIte, Nat.reduceLeDiff, splice, ret_token_Name]
            exact .mk (Nat.le_refl _) ⟨by rw [hall], rfl⟩
theorem q_ref22_Name (s : ByteArray) (hl : (bl s).length ≤ 1000000) (H : Heap) : CallQ prog f_linotyperef22_Name [.string s] H fun u H' => u = .bool (nameF (bl s)) ∧ H' = H := by
  refine in_linotyperef22_Name fun hw => ?_
  generalize hbl : bl s = l at *
  simp only [pc_linotyperef22_Name, sxA, sxB, Nat.reduceBEq, Nat.reduceEqDiff, reduceCtorEq, mxA, mxB, Nat.reduceAdd, reduceIte, Nat.reduceLeDiff, splice, Zdk, hbl]
  cases hc : l with
  | nil =>
    subst hc
    have z : decide (((0 : Nat) : Int) < 1) = true := rfl
    simp only [sxA, sxB, Nat.reduceBEq, Nat.reduceEqDiff, reduceCtorEq, mxA, mxB, Nat.reduceAdd, reduceIte, Nat.reduceLeDiff, splice, z, ret_linotyperef22_Name]
    exact .mk (Nat.le_refl _) ⟨rfl, rfl⟩
  | cons b0 l0 =>
    rw [← hc]
    have hn : l.length = l0.length + 1 := by rw [hc]; rfl
    have z : decide ((l.length : Int) < 1) = false := decide_eq_false (by omega)
    have h0 : l[0]? = some b0 := by rw [hc]; rfl
    have eN : nameF l = (decide (l0.length < 60) && firstF b0.toNat && l0.all fun b => moreF b.toNat) := by rw [hc]; rfl
    rw [eN]
    simp only [sxA, sxB, Nat.reduceBEq, Nat.reduceEqDiff, reduceCtorEq, mxA, mxB, Nat.reduceAdd, reduceIte, Nat.reduceLeDiff, splice, Zdk, Zbw, hbl, z, h0]
    by_cases h60 : (60 : Int) < l.length
    · have e60 : decide ((60 : Int) < l.length) = true := decide_eq_true h60
      have e61 : decide (l0.length < 60) = false := decide_eq_false (by omega)
      simp only [sxA, sxB, Nat.reduceBEq, Nat.reduceEqDiff, reduceCtorEq, mxA, mxB, Nat.reduceAdd, reduceIte, Nat.reduceLeDiff, splice, e60, ret_linotyperef22_Name]
      exact .mk (Nat.le_refl _) ⟨by rw [e61]; rfl, rfl⟩
    · have e60 : decide ((60 : Int) < l.length) = false := decide_eq_false h60
      have e61 : decide (l0.length < 60) = true := decide_eq_true (by omega)
      have t0 : (0 : Int) ≤ 0 := Int.le_refl 0
      have t00 : (0 : Int).toNat = 0 := rfl
      rw [e61, Bool.true_and]
      simp only [sxA, sxB, Nat.reduceBEq, Nat.reduceEqDiff, reduceCtorEq, mxA, mxB, Nat.reduceAdd, reduceIte, Nat.reduceLeDiff, splice, Zbw, hbl, e60, t0, t00, h0, true_and]
      refine (q_ref22_first b0.toNat H).thenW ?_
      rintro _ H _ hw ⟨rfl, rfl⟩
      cases hf : firstF b0.toNat with
      | false =>
        simp only [sxA, sxB, Nat.reduceBEq, Nat.reduceEqDiff, reduceCtorEq, mxA, mxB, Nat.reduceAdd, reduceIte, Nat.reduceLeDiff, splice, ret_linotyperef22_Name]
        exact .mk (Nat.le_refl _) ⟨rfl, rfl⟩
      | true =>
        have hm0 := first_more hf
        have eA : (l0.all fun b => moreF b.toNat) = l.all fun b => moreF b.toNat := by rw [hc, List.all_cons, hm0, Bool.true_and]
        rw [Bool.true_and, eA]
        simp only [sxA, sxB, Nat.reduceBEq, Nat.reduceEqDiff, reduceCtorEq, mxA, mxB, Nat.reduceAdd, reduceIte, Nat.reduceLeDiff, splice]
        refine loop_intro (fun m A' H' => ∃ i : Nat, i ≤ l.length ∧ m = l.length - i ∧ H' = H ∧ ((l.take i).all fun b => moreF b.toNat) = true ∧ A' 0 = .string s ∧ A' 3 = .int .i64 i) (l.length - 1) ?_ ?_
        · refine ⟨1, by omega, by omega, rfl, ?_, ?_, ?_⟩
          · rw [hc]; simp [hm0]
          all_goals simp only [uxA, uxB, Nat.reduceBEq]
          all_goals rfl
        · rintro m A' H' ⟨i, hi, rfl, hEq, hall, r0, r3⟩
          subst hEq
          simp only [sxA, sxB, Nat.reduceBEq, Nat.reduceEqDiff, reduceCtorEq, mxA, mxB, Nat.reduceAdd, reduceIte, Nat.reduceLeDiff, splice, r0, r3, Zdk, hbl]
          refine cB_cases (fun h2 => ?_) (fun h2 => ?_)
          · have h2 : i < l.length := by have := of_decide_eq_true h2; omega
            have hp := List.getElem?_eq_getElem h2
            have c1 : (0 : Int) ≤ i := by omega
            have c3 : (i : Int).toNat = i := by omega
            have ei : IntKind.i64.wrap ((i : Int) + 1) = ((i + 1 : Nat) : Int) := by rw [w64 (by unfold I64; omega)]; omega
            have ht := take_all hp
            have hno := not_all hp
            generalize l[i] = b at *
            simp only [sxA, sxB, Nat.reduceBEq, Nat.reduceEqDiff, reduceCtorEq, mxA, mxB, Nat.reduceAdd, reduceIte, Nat.reduceLeDiff, splice, r0, r3, Zbw, hbl, c1, c3, hp, true_and]
            refine (q_ref22_more b.toNat H').thenW ?_
            rintro _ H2 _ hw2 ⟨rfl, rfl⟩
            cases hmb : moreF b.toNat with
            | false =>
              simp only [sxA, sxB, Nat.reduceBEq, Nat.reduceEqDiff, reduceCtorEq, mxA, mxB, Nat.reduceAdd, reduceIte, Nat.reduceLeDiff, splice, ret_linotyperef22_Name]
              exact .mk (Nat.le_refl _) ⟨by rw [hno hmb], rfl⟩
            | true =>
              simp only [sxA, sxB, Nat.reduceBEq, Nat.reduceEqDiff, reduceCtorEq, mxA, mxB, Nat.reduceAdd, reduceIte, Nat.reduceLeDiff, splice, r3, ei]
              refine ⟨l.length - (i + 1), by omega, i + 1, by omega, rfl, rfl, by rw [ht, hall, hmb]; rfl, ?_, ?_⟩
              all_goals simp only [uxA, uxB, Nat.reduceBEq, r0]
          · have h2 : i = l.length := by have := of_decide_eq_false h2; omega
            subst h2
            rw [List.take_length] at hall
            simp only [sxA, sxB, Nat.reduceBEq, Nat.reduceEqDiff, reduceCtorEq, mxA, mxB, Nat.reduceAdd, reduceIte, Nat.reduceLeDiff, splice, ret_linotyperef22_Name]
            exact .mk (Nat.le_refl _) ⟨by rw [hall], rfl⟩
end Go.Proofs.YtbkbdnlfkahaaaaGreatDoor.code
/- Nodes of expressions: their fields, how many operands they have. -/
set_option linter.unusedVariables false
set_option linter.unusedSimpArgs false
set_option maxRecDepth 100000
set_option maxHeartbeats 4000000
namespace Go.Proofs.YtbkbdnlfkahaaaaGreatDoor.code
open Go.Ab

structure Nd where
  op : Int
  n : Int
  s : ByteArray
  l : Int
  r : Int
def Nd.cells (x : Nd) : List Value := [.int .i64 x.op, .int .i64 x.n, .string x.s, .int .i64 x.l, .int .i64 x.r]
def cellsN (l : List Nd) : List Value := l.flatMap Nd.cells
theorem ndcells_length (a : Nd) : a.cells.length = 5 := rfl
theorem ndcells_take (a : Nd) : a.cells.take 5 = a.cells := rfl
theorem ndcells_one (a : Nd) : (a.cells.all fun v => v.oneCell') = true := rfl
theorem nd0 (a : Nd) : a.cells[0]? = some (.int .i64 a.op) := rfl
theorem nd1 (a : Nd) : a.cells[1]? = some (.int .i64 a.n) := rfl
theorem nd2 (a : Nd) : a.cells[2]? = some (.string a.s) := rfl
theorem nd3 (a : Nd) : a.cells[3]? = some (.int .i64 a.l) := rfl
theorem nd4 (a : Nd) : a.cells[4]? = some (.int .i64 a.r) := rfl
theorem cellsN_cons (a : Nd) (l : List Nd) : cellsN (a :: l) = a.cells ++ cellsN l := by simp [cellsN]
theorem cellsN_length : ∀ l : List Nd, (cellsN l).length = l.length * 5
  | [] => rfl
  | a :: l => by
    have := cellsN_length l
    rw [cellsN_cons, List.length_append, ndcells_length, this, List.length_cons]; omega
theorem cellsN_at : ∀ (l : List Nd) (i : Nat) (p : Nd), l[i]? = some p → ((cellsN l).drop (i * 5)).take 5 = p.cells
  | [], i, p, h => by simp at h
  | q :: l, 0, p, h => by
    simp at h; subst h
    rw [cellsN_cons, Nat.zero_mul, List.drop_zero, List.take_append_of_le_length (by rw [ndcells_length]; exact Nat.le_refl 5), List.take_of_length_le (by rw [ndcells_length]; exact Nat.le_refl 5)]
  | q :: l, i + 1, p, h => by
    rw [cellsN_cons, show (i + 1) * 5 = q.cells.length + i * 5 by rw [ndcells_length]; omega, List.drop_append, List.drop_of_length_le (by omega), List.nil_append, Nat.add_sub_cancel_left]
    exact cellsN_at l i p (by simpa using h)
def NdsAt (H : Heap) (v : Value) (l : List Nd) : Prop := IsSl H v l.length (cellsN l)
theorem NdsAt.ext {H H' : Heap} {v : Value} {l : List Nd} (hw : H.Wf) (he : Ext H H') (h : NdsAt H v l) : NdsAt H' v l := IsSl.ext hw he h
noncomputable def emptyS (s : ByteArray) : Bool := (bl s).isEmpty
def opsN (op : Int) : Int := if (decide (op < 1) || decide (16 < op)) = true then -1 else if op ≤ 4 then 0 else if op ≤ 6 then 1 else 2
noncomputable def leafF (x : Nd) : Bool := !(!(x.op == 1) && !(x.n == 0)) && !(!(x.op == 2) && !emptyS x.s) && (!(x.op == 2) || nameF (bl x.s))
theorem q_operands (op : Int) (H : Heap) : CallQ prog f_linotyperef23_operands [.int .i64 op] H fun u H' => u = .int .i64 (opsN op) ∧ H' = H := by
  refine in_linotyperef23_operands fun hw => ?_
  have e : opsN op = if (decide (op < 1) || decide (16 < op)) = true then -1 else if op ≤ 4 then 0 else if op ≤ 6 then 1 else 2 := rfl
  simp only [pc_linotyperef23_operands, sxA, sxB, Nat.reduceBEq, Nat.reduceEqDiff, reduceCtorEq, mxA, mxB, Nat.reduceAdd, reduceIte, Nat.reduceLeDiff, splice]
  by_cases h1 : op < 1
  · simp only [sxA, sxB, Nat.reduceBEq, Nat.reduceEqDiff, reduceCtorEq, mxA, mxB, Nat.reduceAdd, reduceIte, Nat.reduceLeDiff, splice, decide_eq_true h1, ret_linotyperef23_operands]
    exact .mk (Nat.le_refl _) ⟨by rw [e, if_pos (by simp [h1])], rfl⟩
  · by_cases h2 : (16 : Int) < op
    · simp only [sxA, sxB, Nat.reduceBEq, Nat.reduceEqDiff, reduceCtorEq, mxA, mxB, Nat.reduceAdd, reduceIte, Nat.reduceLeDiff, splice, decide_eq_false h1, decide_eq_true h2, ret_linotyperef23_operands]
      exact .mk (Nat.le_refl _) ⟨by rw [e, if_pos (by simp [h2])], rfl⟩
    · rw [if_neg (by simp; omega)] at e
      by_cases h3 : op ≤ 4
      · simp only [sxA, sxB, Nat.reduceBEq, Nat.reduceEqDiff, reduceCtorEq, mxA, mxB, Nat.reduceAdd, reduceIte, Nat.reduceLeDiff, splice, decide_eq_false h1, decide_eq_false h2, decide_eq_true h3, ret_linotyperef23_operands]
        exact .mk (Nat.le_refl _) ⟨by rw [e, if_pos h3], rfl⟩
      · by_cases h4 : op ≤ 6
        · simp only [sxA, sxB, Nat.reduceBEq, Nat.reduceEqDiff, reduceCtorEq, mxA, mxB, Nat.reduceAdd, reduceIte, Nat.reduceLeDiff, splice, decide_eq_false h1, decide_eq_false h2, decide_eq_false h3, decide_eq_true h4, ret_linotyperef23_operands]
          exact .mk (Nat.le_refl _) ⟨by rw [e, if_neg h3, if_pos h4], rfl⟩
        · simp only [sxA, sxB, Nat.reduceBEq, Nat.reduceEqDiff, reduceCtorEq, mxA, mxB, Nat.reduceAdd, reduceIte, Nat.reduceLeDiff, splice, decide_eq_false h1, decide_eq_false h2, decide_eq_false h3, decide_eq_false h4, ret_linotyperef23_operands]
          exact .mk (Nat.le_refl _) ⟨by rw [e, if_neg h3, if_neg h4], rfl⟩
theorem beq_empty (s : ByteArray) : (bl s == ([] : List UInt8)) = emptyS s := by unfold emptyS; cases bl s <;> rfl
theorem q_leaf (x : Nd) (hl : (bl x.s).length ≤ 1000000) (H : Heap) : CallQ prog f_linotyperef23_leaf [.agg x.cells.toArray] H fun u H' => u = .bool (leafF x) ∧ ∃ k, H' = H.up k := by
  refine in_linotyperef23_leaf fun hw => ?_
  have ex : (Value.agg x.cells.toArray).cells.toList = x.cells := rfl
  have e : leafF x = (!(!(x.op == 1) && !(x.n == 0)) && !(!(x.op == 2) && !emptyS x.s) && (!(x.op == 2) || nameF (bl x.s))) := rfl
  rw [e]
  have hx := (Ext.refl H).push (.cells x.cells T_api_Node false)
  simp only [pc_linotyperef23_leaf, ex, sxA, sxB, Nat.reduceBEq, Nat.reduceEqDiff, reduceCtorEq, mxA, mxB, Nat.reduceAdd, reduceIte, Nat.reduceLeDiff, splice, nd0, nd1, nd2]
  cases h1 : x.op == 1 <;> cases h2 : x.n == 0 <;> cases h3 : x.op == 2 <;> cases h4 : emptyS x.s <;> simp only [sxA, sxB, Nat.reduceBEq, Nat.reduceEqDiff, reduceCtorEq, mxA, mxB, Nat.reduceAdd, reduceIte, Nat.reduceLeDiff, splice, nd0, nd1, nd2, h1, h2, h3, h4, bl_mkS, beq_empty, ret_linotyperef23_leaf]
  all_goals first
    | exact .ext hw hx ⟨rfl, _, rfl⟩
    | (refine (q_ref22_Name x.s hl _).thenW ?_
       rintro _ _ hn hw2 ⟨rfl, rfl⟩
       simp only [sxA, sxB, Nat.reduceBEq, Nat.reduceEqDiff, reduceCtorEq, mxA, mxB, Nat.reduceAdd, reduceIte, Nat.reduceLeDiff, splice, ret_linotyperef23_leaf]
       exact .ext hw hx ⟨by simp, _, rfl⟩)
noncomputable def fieldsF (x : Nd) : Bool := decide (1 ≤ x.op) && decide (x.op ≤ 16) && leafF x && (!decide (x.op ≤ 4) || (x.l == 0)) && (!decide (x.op ≤ 6) || (x.r == 0))
theorem q_fields (x : Nd) (hl : (bl x.s).length ≤ 1000000) (H : Heap) : CallQ prog f_expr_fields [.agg x.cells.toArray] H fun u H' => u = .bool (fieldsF x) ∧ ∃ k, H' = H.up k := by
  refine in_expr_fields fun hw => ?_
  have ex : (Value.agg x.cells.toArray).cells.toList = x.cells := rfl
  have e : fieldsF x = (decide (1 ≤ x.op) && decide (x.op ≤ 16) && (!(!(x.op == 1) && !(x.n == 0)) && !(!(x.op == 2) && !emptyS x.s) && (!(x.op == 2) || nameF (bl x.s))) && (!decide (x.op ≤ 4) || (x.l == 0)) && (!decide (x.op ≤ 6) || (x.r == 0))) := rfl
  obtain ⟨r, hr⟩ : ∃ r, r = fieldsF x := ⟨_, rfl⟩
  rw [← hr]
  rw [← hr] at e
  have hx := (Ext.refl H).push (.cells x.cells T_api_Node false)
  have hg : (H.push (.cells x.cells T_api_Node false)).get H.next = some (.cells x.cells T_api_Node false) := by rw [Heap.get_push, if_pos rfl]
  simp only [pc_expr_fields, ex, sxA, sxB, Nat.reduceBEq, Nat.reduceEqDiff, reduceCtorEq, mxA, mxB, Nat.reduceAdd, reduceIte, Nat.reduceLeDiff, splice, nd0]
  generalize H.push (.cells x.cells T_api_Node false) = H0 at *
  have gt6 : decide (6 < x.op) = !decide (x.op ≤ 6) := by rw [Bool.eq_iff_iff]; simp
  have no : ∀ b : Bool, b = r → Ret H (fun u H' => u = .bool r ∧ ∃ k, H' = H.up k) (.bool b) H0 := fun b hb => .ext hw hx ⟨by rw [hb], _, rfl⟩
  by_cases h1 : x.op < 1
  · have e1 : decide (1 ≤ x.op) = false := decide_eq_false (by omega)
    simp only [sxA, sxB, Nat.reduceBEq, Nat.reduceEqDiff, reduceCtorEq, mxA, mxB, Nat.reduceAdd, reduceIte, Nat.reduceLeDiff, splice, decide_eq_true h1, ret_expr_fields]
    exact no _ (by rw [e, e1]; rfl)
  by_cases h2 : (16 : Int) < x.op
  · have e1 : decide (x.op ≤ 16) = false := decide_eq_false (by omega)
    simp only [sxA, sxB, Nat.reduceBEq, Nat.reduceEqDiff, reduceCtorEq, mxA, mxB, Nat.reduceAdd, reduceIte, Nat.reduceLeDiff, splice, hg, nd0, decide_eq_false h1, decide_eq_true h2, ret_expr_fields]
    exact no _ (by rw [e, e1]; simp)
  have e1 : decide (1 ≤ x.op) = true := decide_eq_true (by omega)
  have e2 : decide (x.op ≤ 16) = true := decide_eq_true (by omega)
  rw [e1, e2, Bool.true_and, Bool.true_and] at e
  have tail1 : ∀ (A : Env), A 1 = .pointer (some ⟨H.next, 0, none⟩) → r = ((!decide (x.op ≤ 4) || (x.l == 0)) && (!decide (x.op ≤ 6) || (x.r == 0))) → pexec prog pc_expr_fields_1 ⟨Rt prog F_expr_fields H (fun u H' => u = .bool r ∧ ∃ k, H' = H.up k), noEx⟩ (Rt prog F_expr_fields H (fun u H' => u = .bool r ∧ ∃ k, H' = H.up k)) A H0 := by
    intro A a1 hb
    simp only [pc_expr_fields_1, sxA, sxB, Nat.reduceBEq, Nat.reduceEqDiff, reduceCtorEq, mxA, mxB, Nat.reduceAdd, reduceIte, Nat.reduceLeDiff, splice, a1, hg, nd0]
    cases q5 : decide (x.op ≤ 4) <;> cases q6 : x.l == 0 <;> cases q7 : decide (x.op ≤ 6) <;> cases q8 : x.r == 0 <;> simp only [sxA, sxB, Nat.reduceBEq, Nat.reduceEqDiff, reduceCtorEq, mxA, mxB, Nat.reduceAdd, reduceIte, Nat.reduceLeDiff, splice, a1, hg, nd0, nd3, nd4, gt6, q6, q7, q8, ret_expr_fields]
    all_goals exact no _ (by rw [hb, q5, q6, q7, q8]; rfl)
  have tail2 : ∀ (A : Env), A 1 = .pointer (some ⟨H.next, 0, none⟩) → r = (!(!(x.op == 2) && !emptyS x.s) && (!(x.op == 2) || nameF (bl x.s)) && (!decide (x.op ≤ 4) || (x.l == 0)) && (!decide (x.op ≤ 6) || (x.r == 0))) → pexec prog pc_expr_fields_2 ⟨Rt prog F_expr_fields H (fun u H' => u = .bool r ∧ ∃ k, H' = H.up k), noEx⟩ (Rt prog F_expr_fields H (fun u H' => u = .bool r ∧ ∃ k, H' = H.up k)) A H0 := by
    intro A a1 hb
    simp only [pc_expr_fields_2, sxA, sxB, Nat.reduceBEq, Nat.reduceEqDiff, reduceCtorEq, mxA, mxB, Nat.reduceAdd, reduceIte, Nat.reduceLeDiff, splice, a1, hg, nd0]
    cases q3 : x.op == 2 with
    | false =>
      rw [q3] at hb
      simp only [sxA, sxB, Nat.reduceBEq, Nat.reduceEqDiff, reduceCtorEq, mxA, mxB, Nat.reduceAdd, reduceIte, Nat.reduceLeDiff, splice, a1, hg, nd0, nd2, q3, bl_mkS, beq_empty]
      cases q4 : emptyS x.s with
      | false =>
        rw [q4] at hb
        simp only [sxA, sxB, Nat.reduceBEq, Nat.reduceEqDiff, reduceCtorEq, mxA, mxB, Nat.reduceAdd, reduceIte, Nat.reduceLeDiff, splice, ret_expr_fields]
        exact no _ (by rw [hb]; rfl)
      | true =>
        rw [q4] at hb
        simp only [sxA, sxB, Nat.reduceBEq, Nat.reduceEqDiff, reduceCtorEq, mxA, mxB, Nat.reduceAdd, reduceIte, Nat.reduceLeDiff, splice]
        exact tail1 _ (by simp only [uxA, uxB, Nat.reduceBEq, a1]) (by rw [hb]; simp)
    | true =>
      rw [q3] at hb
      simp only [sxA, sxB, Nat.reduceBEq, Nat.reduceEqDiff, reduceCtorEq, mxA, mxB, Nat.reduceAdd, reduceIte, Nat.reduceLeDiff, splice, a1, hg, nd0, nd2, q3]
      refine (q_token_Name x.s hl _).thenW ?_
      rintro _ _ hn hw2 ⟨rfl, rfl⟩
      cases q9 : nameF (bl x.s) with
      | false =>
        rw [q9] at hb
        simp only [sxA, sxB, Nat.reduceBEq, Nat.reduceEqDiff, reduceCtorEq, mxA, mxB, Nat.reduceAdd, reduceIte, Nat.reduceLeDiff, splice, ret_expr_fields]
        exact no _ (by rw [hb]; simp)
      | true =>
        rw [q9] at hb
        simp only [sxA, sxB, Nat.reduceBEq, Nat.reduceEqDiff, reduceCtorEq, mxA, mxB, Nat.reduceAdd, reduceIte, Nat.reduceLeDiff, splice, a1, hg, nd0, q3]
        exact tail1 _ (by simp only [uxA, uxB, Nat.reduceBEq, a1]) (by rw [hb]; simp)
  simp only [pc_expr_fields_3, sxA, sxB, Nat.reduceBEq, Nat.reduceEqDiff, reduceCtorEq, mxA, mxB, Nat.reduceAdd, reduceIte, Nat.reduceLeDiff, splice, hg, nd0, decide_eq_false h1, decide_eq_false h2]
  cases q1 : x.op == 1 with
  | true =>
    rw [q1] at e
    simp only [sxA, sxB, Nat.reduceBEq, Nat.reduceEqDiff, reduceCtorEq, mxA, mxB, Nat.reduceAdd, reduceIte, Nat.reduceLeDiff, splice]
    exact tail2 _ (by simp only [uxA, uxB, Nat.reduceBEq]) (by rw [e]; simp)
  | false =>
    rw [q1] at e
    simp only [sxA, sxB, Nat.reduceBEq, Nat.reduceEqDiff, reduceCtorEq, mxA, mxB, Nat.reduceAdd, reduceIte, Nat.reduceLeDiff, splice, hg, nd1]
    cases q2 : x.n == 0 with
    | true =>
      rw [q2] at e
      simp only [sxA, sxB, Nat.reduceBEq, Nat.reduceEqDiff, reduceCtorEq, mxA, mxB, Nat.reduceAdd, reduceIte, Nat.reduceLeDiff, splice]
      exact tail2 _ (by simp only [uxA, uxB, Nat.reduceBEq]) (by rw [e]; simp)
    | false =>
      rw [q2] at e
      simp only [sxA, sxB, Nat.reduceBEq, Nat.reduceEqDiff, reduceCtorEq, mxA, mxB, Nat.reduceAdd, reduceIte, Nat.reduceLeDiff, splice, ret_expr_fields]
      exact no _ (by rw [e]; rfl)
end Go.Proofs.YtbkbdnlfkahaaaaGreatDoor.code
/- Rows of numbers that grow and shrink; whether an expression may be: the program and the document. -/
set_option linter.unusedVariables false
set_option linter.unusedSimpArgs false
set_option maxRecDepth 100000
set_option maxHeartbeats 4000000
namespace Go.Proofs.YtbkbdnlfkahaaaaGreatDoor.code
open Go.Ab

theorem appK_spare {e size bytes m len b cap : Nat} {news c : List Value} {x : Value} {H : Heap} {e' : TypeId} {k : Value → Heap → Prop} (hx : asrc size x H = some (m, news)) (h1 : news.all (·.oneCell') = true) (hm : m ≠ 0) (hb : H.get b = some (.cells c e' false))
    (hcap : cap = UNK + size) (hne : ¬ len * size = c.length) (hc : (len + m) * size ≤ c.length) (hsum : (len + m) * bytes ≤ 140737488355328) (hmax : len + m ≤ 9223372036854775807) (h : k (.slice (some ⟨b, 0, none⟩) (len + m) cap) (H.set b (.cells (splice c (len * size) news) e' false))) :
    appK e size bytes (.slice (some ⟨b, 0, none⟩) len cap) x H k := by
  have hlen : 0 + len * size ≤ c.length := by have := Nat.le_trans (Nat.mul_le_mul_right size (Nat.le_add_right len m)) hc; omega
  have e1 : rappend e size bytes (.slice (some ⟨b, 0, none⟩) len cap) x H = some (.slice (some ⟨b, 0, none⟩) (len + m) cap, H.set b (.cells (splice c (0 + len * size) news) e' false)) := by
    simp only [rappend, hx, h1, if_true, hm, if_false, hb]
    rw [if_pos ⟨hlen, hmax, hsum⟩, if_pos (by omega), if_neg (by omega), if_pos ⟨trivial, hcap, by omega⟩]
  unfold appK
  rw [e1, onS_some, Nat.zero_add]
  exact h
def StkAt (H0 H : Heap) (v : Value) (st : List Int) : Prop :=
  (v = .slice none 0 0 ∧ st = []) ∨ ∃ b c, v = .slice (some ⟨b, 0, none⟩) st.length (UNK + 1) ∧ H0.next ≤ b ∧ H.get b = some (.cells c 3 false) ∧ st.length ≤ c.length ∧ c.take st.length = ints st
theorem StkAt.len {H0 H : Heap} {v : Value} {st : List Int} (h : StkAt H0 H v st) : ∃ a cap, v = .slice a st.length cap := by
  rcases h with ⟨rfl, rfl⟩ | ⟨b, c, rfl, _⟩
  · exact ⟨none, 0, rfl⟩
  · exact ⟨_, _, rfl⟩
theorem StkAt.ext {H0 H H' : Heap} {v : Value} {st : List Int} (h : StkAt H0 H v st) (hw : H.Wf) (hx : Ext H H') : StkAt H0 H' v st := by
  rcases h with h | ⟨b, c, h1, h2, h3, h4, h5⟩
  · exact .inl h
  · exact .inr ⟨b, c, h1, h2, by rw [hx.get _ (hw.lt h3)]; exact h3, h4, h5⟩
theorem StkAt.at_ {H0 H : Heap} {v : Value} {st : List Int} (h : StkAt H0 H v st) {i : Nat} (hi : i < st.length) : ∃ b c, v = .slice (some ⟨b, 0, none⟩) st.length (UNK + 1) ∧ H.get b = some (.cells c 3 false) ∧ c[i]? = some (.int .i64 (st.getD i 0)) := by
  rcases h with ⟨rfl, rfl⟩ | ⟨b, c, rfl, h2, h3, h4, h5⟩
  · simp at hi
  · refine ⟨b, c, rfl, h3, ?_⟩
    have := congrArg (fun l => l[i]?) h5
    simp only [List.getElem?_take, if_pos hi] at this
    rw [this, ints_get hi]
theorem StkAt.cut {H0 H : Heap} {v : Value} {st : List Int} (h : StkAt H0 H v st) {k : Nat} (hk : k ≤ st.length) : ∃ v', asliceS 1 v none (some (k : Int)) none = some v' ∧ StkAt H0 H v' (st.take k) := by
  rcases h with ⟨rfl, rfl⟩ | ⟨b, c, rfl, h2, h3, h4, h5⟩
  · have : k = 0 := by simpa using hk
    subst this
    exact ⟨.slice none 0 0, rfl, .inl ⟨rfl, rfl⟩⟩
  · refine ⟨.slice (some ⟨b, 0, none⟩) k (UNK + 1), ?_, .inr ⟨b, c, ?_, h2, h3, ?_, ?_⟩⟩
    · unfold asliceS
      simp only [Option.getD_none, Option.getD_some]
      have k1 : UNK ≤ UNK + 1 := Nat.le_add_right _ _
      have k2 : (0 : Int) ≤ 0 ∧ (0 : Int) ≤ (k : Int) ∧ (k : Int) ≤ (st.length : Int) ∧ True := ⟨Int.le_refl 0, by omega, by omega, trivial⟩
      rw [if_pos k1, if_pos k2]
      simp
    · rw [List.length_take, Nat.min_eq_left hk]
    · rw [List.length_take]; omega
    · rw [List.length_take, Nat.min_eq_left hk]
      have := congrArg (List.take k) h5
      rw [List.take_take, Nat.min_eq_left hk] at this
      rw [this]
      unfold ints
      rw [List.map_take]
theorem stk_push {H0 H : Heap} {v : Value} {st : List Int} {x : Int} {p cap : Nat} {k : Value → Heap → Prop} (hs : StkAt H0 H v st) (hx : Ext H0 H) (hw : H.Wf) (hp : H.get p = some (.cells [.int .i64 x] 3 false)) (hl : st.length ≤ 1000000)
    (h : ∀ v' H', StkAt H0 H' v' (st ++ [x]) → Ext H0 H' → H'.Wf → k v' H') : appK 3 1 8 v (.slice (some ⟨p, 0, none⟩) 1 cap) H k := by
  have hn := hx.next
  rcases hs with ⟨rfl, rfl⟩ | ⟨b, c, rfl, h2, h3, h4, h5⟩
  · refine appK_nil (asrc_one hp) rfl (by decide) (by decide) (by decide) (h _ _ (.inr ⟨H.next, [.int .i64 x], rfl, hn, by rw [Heap.get_push, if_pos rfl], Nat.le_refl _, rfl⟩) (hx.push _) (hw.push _))
  · have hb := hw.lt h3
    have e1 : (st ++ [x]).length = st.length + 1 := by simp
    by_cases hfull : st.length = c.length
    · refine appK_own rfl (asrc_one hp) rfl (by decide) h3 (by omega) (by omega) (by omega) (by omega) (h _ _ (.inr ⟨H.next, c.drop 0 ++ [.int .i64 x], by rw [e1], hn, by rw [Heap.get_push, Heap.next_kill, if_pos rfl], by simp; exact h4, ?_⟩) ⟨by simp only [Heap.next_push, Heap.next_kill]; omega, fun id hid => ?_⟩ ((hw.kill _).push _))
      · rw [hfull, List.take_length] at h5
        rw [e1, hfull, List.drop_zero, h5]
        rw [List.take_of_length_le (by simp [ints])]
        simp [ints]
      · rw [Heap.get_push, Heap.next_kill, if_neg (by omega), Heap.get_kill, if_neg (by omega)]
        exact hx.get id hid
    · refine appK_spare (asrc_one hp) rfl (by decide) h3 rfl (by omega) (by omega) (by omega) (by omega) (h _ _ (.inr ⟨b, splice c (st.length * 1) [.int .i64 x], by rw [e1], h2, by rw [Heap.get_set, if_pos rfl], ?_, ?_⟩) ⟨hn, fun id hid => ?_⟩ (hw.set h3 _))
      · rw [e1]; simp only [splice, List.length_append, List.length_take, List.length_cons, List.length_nil, List.length_drop, Nat.mul_one]; omega
      · rw [e1, Nat.mul_one]
        unfold splice
        have l1 : (c.take st.length).length = st.length := by rw [List.length_take]; omega
        rw [← List.append_assoc, List.take_append_of_le_length (by rw [List.length_append, l1]; exact Nat.le_refl _), List.take_of_length_le (by rw [List.length_append, l1]; exact Nat.le_refl _), h5]
        simp [ints]
      · rw [Heap.get_set, if_neg (by omega)]
        exact hx.get id hid
noncomputable def stepN (st : List Int) (i : Nat) (x : Nd) : Option (List Int) :=
  if fieldsF x = false then none
  else if x.op ≤ 4 then some (st ++ [(i : Int)])
  else if x.op ≤ 6 then (if st.length < 1 ∨ ¬ x.l = st.getD (st.length - 1) 0 then none else some (st.take (st.length - 1) ++ [(i : Int)]))
  else (if st.length < 2 ∨ ¬ x.l = st.getD (st.length - 2) 0 ∨ ¬ x.r = st.getD (st.length - 1) 0 then none else some (st.take (st.length - 2) ++ [(i : Int)]))
noncomputable def runN : List Nd → Nat → List Int → Option (List Int)
  | [], _, st => some st
  | x :: l, i, st => match stepN st i x with
    | none => none
    | some st' => runN l (i + 1) st'
def endN (r : Option (List Int)) : Int := match r with
  | none => 2
  | some st => if st.length = 1 then 0 else 2
noncomputable def chkN (xs : List Nd) : Int := if 200 < xs.length then 3 else endN (runN xs 0 [])
theorem stepN_len {st st' : List Int} {i : Nat} {x : Nd} (h : stepN st i x = some st') : st'.length ≤ st.length + 1 := by
  unfold stepN at h
  repeat' split at h
  all_goals first
    | (cases h; done)
    | (cases h; rw [List.length_append, List.length_singleton]; (try rw [List.length_take]); omega)
theorem runN_drop {xs : List Nd} {i : Nat} {x : Nd} (h : xs[i]? = some x) (st : List Int) : runN (xs.drop i) i st = match stepN st i x with
    | none => none
    | some st' => runN (xs.drop (i + 1)) (i + 1) st' := by
  obtain ⟨hi, rfl⟩ := List.getElem?_eq_some_iff.1 h
  rw [List.drop_eq_getElem_cons hi]
  rfl
end Go.Proofs.YtbkbdnlfkahaaaaGreatDoor.code
/- expr.Check, of any nodes. -/
set_option linter.unusedVariables false
set_option linter.unusedSimpArgs false
set_option maxRecDepth 100000
set_option maxHeartbeats 4000000
namespace Go.Proofs.YtbkbdnlfkahaaaaGreatDoor.code
open Go.Ab

theorem q_expr_Check (v : Value) (xs : List Nd) (hS : ∀ x ∈ xs, (bl x.s).length ≤ 1000000) (hlx : xs.length ≤ 1000000) (H : Heap) (hx : NdsAt H v xs) : CallQ prog f_expr_Check [v] H fun u H' => u = .int .i64 (chkN xs) ∧ Ext H H' := by
  refine in_expr_Check fun hw => ?_
  obtain ⟨a, cap, rfl, hsl⟩ := hx
  obtain ⟨r, hr⟩ : ∃ r, r = chkN xs := ⟨_, rfl⟩
  rw [← hr]
  have hr1 : r = if 200 < xs.length then 3 else endN (runN xs 0 []) := hr
  clear hr
  simp only [pc_expr_Check, sxA, sxB, Nat.reduceBEq, Nat.reduceEqDiff, reduceCtorEq, mxA, mxB, Nat.reduceAdd, reduceIte, Nat.reduceLeDiff, splice]
  by_cases h200 : (200 : Int) < xs.length
  · rw [if_pos (by omega)] at hr1
    simp only [sxA, sxB, Nat.reduceBEq, Nat.reduceEqDiff, reduceCtorEq, mxA, mxB, Nat.reduceAdd, reduceIte, Nat.reduceLeDiff, splice, decide_eq_true h200, ret_expr_Check]
    exact .mk (Nat.le_refl _) ⟨by rw [hr1], .refl _⟩
  rw [if_neg (by omega)] at hr1
  obtain ⟨R, hR⟩ : ∃ R, R = runN xs 0 [] := ⟨_, rfl⟩
  rw [← hR] at hr1
  simp only [pc_expr_Check_8, sxA, sxB, Nat.reduceBEq, Nat.reduceEqDiff, reduceCtorEq, mxA, mxB, Nat.reduceAdd, reduceIte, Nat.reduceLeDiff, splice, decide_eq_false h200]
  refine loop_intro (fun m A' H' => ∃ (i : Nat) (st : List Int) (sv : Value), i ≤ xs.length ∧ m = xs.length - i ∧ H'.Wf ∧ Ext H H' ∧ StkAt H H' sv st ∧ st.length ≤ i ∧ R = runN (xs.drop i) i st ∧
      A' 3 = sv ∧ A' 10 = .slice a xs.length cap ∧ A' 11 = .int .i64 xs.length ∧ A' 12 = .int .i64 i) xs.length ?_ ?_
  · refine ⟨0, [], .slice none 0 0, Nat.zero_le _, by omega, hw, .refl _, .inl ⟨rfl, rfl⟩, Nat.le_refl _, hR, ?_, ?_, ?_, ?_⟩
    all_goals simp only [uxA, uxB, Nat.reduceBEq]
    all_goals rfl
  · rintro m A' H3 ⟨i, st, sv, hi, rfl, hw3, hx3, hst, hsti, hRi, r3, r10, r11, r12⟩
    simp only [pc_expr_Check_7, sxA, sxB, Nat.reduceBEq, Nat.reduceEqDiff, reduceCtorEq, mxA, mxB, Nat.reduceAdd, reduceIte, Nat.reduceLeDiff, splice, r11, r12]
    refine cB_cases (fun h2 => ?_) (fun h2 => ?_)
    · have h2 : i < xs.length := by have := of_decide_eq_true h2; omega
      obtain ⟨b1, e1, ro1, rfl, hb1⟩ := hsl (by omega)
      have hb3 : H3.get b1 = some (.cells (cellsN xs) e1 ro1) := by rw [hx3.get _ (hw.lt hb1)]; exact hb1
      have c1 : (0 : Int) ≤ i ∧ (i : Int) < xs.length := by omega
      have c3 : (i : Int).toNat = i := by omega
      have c4 : i * 5 + 5 ≤ xs.length * 5 := by omega
      have ei : IntKind.i64.wrap ((i : Int) + 1) = ((i + 1 : Nat) : Int) := by rw [w64 (by unfold I64; omega)]; omega
      have p1 := List.getElem?_eq_getElem h2
      have d1 := cellsN_at xs i _ p1
      have n1 := cellsN_length xs
      have hSx := hS _ (List.getElem_mem h2)
      rw [runN_drop p1] at hRi
      generalize xs[i] = x at *
      have a1 := ndcells_one x
      simp only [pc_expr_Check_6, sxA, sxB, Nat.reduceBEq, Nat.reduceEqDiff, reduceCtorEq, mxA, mxB, Nat.reduceAdd, reduceIte, Nat.reduceLeDiff, splice, r10, r12, c1, c3, c4, hb3, d1, n1, a1, ndcells_length, ndcells_take]
      obtain ⟨G1, hG1⟩ : ∃ h, h = (H3.push (.cells [.int .i64 0, .int .i64 0, .string (mkS []), .int .i64 0, .int .i64 0] T_api_Node false)).set H3.next (.cells x.cells T_api_Node false) := ⟨_, rfl⟩
      have hwG1 : G1.Wf := by rw [hG1]; exact (hw3.push _).set (by rw [Heap.get_push, if_pos rfl]) _
      have hxG1 : Ext H3 G1 := by rw [hG1]; exact ((Ext.refl H3).push _).set (Nat.le_refl _) _
      have hgy : G1.get H3.next = some (.cells x.cells T_api_Node false) := by rw [hG1, Heap.get_set, if_pos rfl]
      simp only [← hG1]
      clear hG1
      try simp only [sxA, sxB, Nat.reduceBEq, Nat.reduceEqDiff, reduceCtorEq, mxA, mxB, Nat.reduceAdd, reduceIte, Nat.reduceLeDiff, splice, hgy, a1, ndcells_length, ndcells_take]
      refine (q_fields x hSx G1).thenW ?_
      rintro _ _ hn2 hw2 ⟨rfl, kk, rfl⟩
      have hkk : G1.next ≤ kk := hn2
      have hgy2 : (G1.up kk).get H3.next = some (.cells x.cells T_api_Node false) := by rw [Heap.get_up]; exact hgy
      have hxx := hx3.trans (hxG1.up hkk)
      have hst2 := hst.ext hw3 (hxG1.up hkk)
      generalize G1.up kk = G2 at *
      obtain ⟨sa, scap, hsv⟩ := hst2.len
      have eS : stepN st i x = if fieldsF x = false then none
          else if x.op ≤ 4 then some (st ++ [(i : Int)])
          else if x.op ≤ 6 then (if st.length < 1 ∨ ¬ x.l = st.getD (st.length - 1) 0 then none else some (st.take (st.length - 1) ++ [(i : Int)]))
          else (if st.length < 2 ∨ ¬ x.l = st.getD (st.length - 2) 0 ∨ ¬ x.r = st.getD (st.length - 1) 0 then none else some (st.take (st.length - 2) ++ [(i : Int)])) := rfl
      cases hf : fieldsF x with
      | false =>
        rw [eS, if_pos hf] at hRi
        simp only [sxA, sxB, Nat.reduceBEq, Nat.reduceEqDiff, reduceCtorEq, mxA, mxB, Nat.reduceAdd, reduceIte, Nat.reduceLeDiff, splice, ret_expr_Check]
        exact .mk hxx.next ⟨by rw [hr1, hRi]; rfl, hxx⟩
      | true =>
        rw [if_neg (by rw [hf]; decide)] at eS
        have hgyc := hgy2
        subst hsv
        have done : ∀ (st' : List Int) (v' : Value) (H5 : Heap) (A5 : Env), stepN st i x = some st' → StkAt H H5 v' st' → Ext H H5 → H5.Wf → A5 3 = v' → A5 10 = .slice (some ⟨b1, 0, none⟩) xs.length cap → A5 11 = .int .i64 xs.length → A5 12 = .int .i64 ((i + 1 : Nat) : Int) →
            ∃ n, n < xs.length - i ∧ ∃ (i' : Nat) (st : List Int) (sv : Value), i' ≤ xs.length ∧ n = xs.length - i' ∧ H5.Wf ∧ Ext H H5 ∧ StkAt H H5 sv st ∧ st.length ≤ i' ∧ R = runN (xs.drop i') i' st ∧ A5 3 = sv ∧ A5 10 = .slice (some ⟨b1, 0, none⟩) xs.length cap ∧ A5 11 = .int .i64 xs.length ∧ A5 12 = .int .i64 i' := by
          intro st' v' H5 A5 hs hs5 hx5 hw5 q3 q10 q11 q12
          rw [hs] at hRi
          have := stepN_len hs
          exact ⟨xs.length - (i + 1), by omega, i + 1, st', v', by omega, rfl, hw5, hx5, hs5, by omega, hRi, q3, q10, q11, q12⟩
        simp only [pc_expr_Check_5, sxA, sxB, Nat.reduceBEq, Nat.reduceEqDiff, reduceCtorEq, mxA, mxB, Nat.reduceAdd, reduceIte, Nat.reduceLeDiff, splice, r3, hgyc, nd0]
        by_cases h4 : x.op ≤ 4
        · rw [if_pos h4] at eS
          simp only [sxA, sxB, Nat.reduceBEq, Nat.reduceEqDiff, reduceCtorEq, mxA, mxB, Nat.reduceAdd, reduceIte, Nat.reduceLeDiff, splice, decide_eq_true h4, r3]
          refine stk_push (st := st) (x := (i : Int)) (hst2.ext hw2 ((Ext.refl _).push _)) (hxx.push _) (hw2.push _) (by rw [Heap.get_push, if_pos rfl]) (by omega) fun v' H' hs' hx' hw' => ?_
          simp only [sxA, sxB, Nat.reduceBEq, Nat.reduceEqDiff, reduceCtorEq, mxA, mxB, Nat.reduceAdd, reduceIte, Nat.reduceLeDiff, splice, r12, ei]
          refine done _ v' H' _ eS hs' hx' hw' ?_ ?_ ?_ ?_
          all_goals simp only [uxA, uxB, Nat.reduceBEq, r10, r11]
        rw [if_neg h4] at eS
        by_cases h6 : x.op ≤ 6
        · rw [if_pos h6] at eS
          simp only [pc_expr_Check_4, pc_expr_Check_2, sxA, sxB, Nat.reduceBEq, Nat.reduceEqDiff, reduceCtorEq, mxA, mxB, Nat.reduceAdd, reduceIte, Nat.reduceLeDiff, splice, decide_eq_false h4, decide_eq_true h6, hgyc, nd0]
          by_cases hk : st.length < 1
          · rw [if_pos (.inl hk)] at eS
            rw [eS] at hRi
            have e1 : decide ((st.length : Int) < 1) = true := decide_eq_true (by omega)
            simp only [sxA, sxB, Nat.reduceBEq, Nat.reduceEqDiff, reduceCtorEq, mxA, mxB, Nat.reduceAdd, reduceIte, Nat.reduceLeDiff, splice, e1, ret_expr_Check]
            exact .mk hxx.next ⟨by rw [hr1, hRi]; rfl, hxx⟩
          have e1 : decide ((st.length : Int) < 1) = false := decide_eq_false (by omega)
          have ek1 : IntKind.i64.wrap ((st.length : Int) - 1) = ((st.length - 1 : Nat) : Int) := by rw [w64 (by unfold I64; omega)]; omega
          obtain ⟨sb, sc, hv1, hg1, hc1⟩ := hst2.at_ (i := st.length - 1) (by omega)
          obtain ⟨vc, hvc, hsc⟩ := hst2.cut (k := st.length - 1) (by omega)
          have f1 : (0 : Int) ≤ ((st.length - 1 : Nat) : Int) ∧ ((st.length - 1 : Nat) : Int) < st.length := by omega
          have f3 : (((st.length - 1 : Nat) : Int)).toNat = st.length - 1 := by omega
          rw [hv1] at hvc
          injection hv1 with q1 q2 q3
          subst q1
          subst q3
          simp only [sxA, sxB, Nat.reduceBEq, Nat.reduceEqDiff, reduceCtorEq, mxA, mxB, Nat.reduceAdd, reduceIte, Nat.reduceLeDiff, splice, e1, r3, hgyc, nd3, ek1, f1, f3, hg1, hc1]
          cases hne : x.l == st.getD (st.length - 1) 0 with
          | false =>
            rw [if_pos (.inr (by simpa using hne))] at eS
            rw [eS] at hRi
            simp only [sxA, sxB, Nat.reduceBEq, Nat.reduceEqDiff, reduceCtorEq, mxA, mxB, Nat.reduceAdd, reduceIte, Nat.reduceLeDiff, splice, hne, ret_expr_Check]
            exact .mk hxx.next ⟨by rw [hr1, hRi]; rfl, hxx⟩
          | true =>
            have hne' : x.l = st.getD (st.length - 1) 0 := by simpa using hne
            rw [if_neg (by rintro (h | h); exact hk h; exact h hne')] at eS
            simp only [sxA, sxB, Nat.reduceBEq, Nat.reduceEqDiff, reduceCtorEq, mxA, mxB, Nat.reduceAdd, reduceIte, Nat.reduceLeDiff, splice, hne, r3, ek1, hvc]
            refine stk_push (st := st.take (st.length - 1)) (x := (i : Int)) (hsc.ext hw2 ((Ext.refl _).push _)) (hxx.push _) (hw2.push _) (by rw [Heap.get_push, if_pos rfl]) (by rw [List.length_take]; omega) fun v' H' hs' hx' hw' => ?_
            simp only [sxA, sxB, Nat.reduceBEq, Nat.reduceEqDiff, reduceCtorEq, mxA, mxB, Nat.reduceAdd, reduceIte, Nat.reduceLeDiff, splice, r12, ei]
            refine done _ v' H' _ eS hs' hx' hw' ?_ ?_ ?_ ?_
            all_goals simp only [uxA, uxB, Nat.reduceBEq, r10, r11]
        rw [if_neg h6] at eS
        simp only [pc_expr_Check_4, pc_expr_Check_3, sxA, sxB, Nat.reduceBEq, Nat.reduceEqDiff, reduceCtorEq, mxA, mxB, Nat.reduceAdd, reduceIte, Nat.reduceLeDiff, splice, decide_eq_false h4, decide_eq_false h6, hgyc, nd0]
        by_cases hk : st.length < 2
        · rw [if_pos (.inl hk)] at eS
          rw [eS] at hRi
          have e1 : decide ((st.length : Int) < 2) = true := decide_eq_true (by omega)
          simp only [sxA, sxB, Nat.reduceBEq, Nat.reduceEqDiff, reduceCtorEq, mxA, mxB, Nat.reduceAdd, reduceIte, Nat.reduceLeDiff, splice, e1, ret_expr_Check]
          exact .mk hxx.next ⟨by rw [hr1, hRi]; rfl, hxx⟩
        have e1 : decide ((st.length : Int) < 2) = false := decide_eq_false (by omega)
        have ek1 : IntKind.i64.wrap ((st.length : Int) - 1) = ((st.length - 1 : Nat) : Int) := by rw [w64 (by unfold I64; omega)]; omega
        have ek2 : IntKind.i64.wrap ((st.length : Int) - 2) = ((st.length - 2 : Nat) : Int) := by rw [w64 (by unfold I64; omega)]; omega
        obtain ⟨sb, sc, hv1, hg1, hc1⟩ := hst2.at_ (i := st.length - 1) (by omega)
        obtain ⟨sb2, sc2, hv2, hg2, hc2⟩ := hst2.at_ (i := st.length - 2) (by omega)
        obtain ⟨vc, hvc, hsc⟩ := hst2.cut (k := st.length - 2) (by omega)
        have f1 : (0 : Int) ≤ ((st.length - 1 : Nat) : Int) ∧ ((st.length - 1 : Nat) : Int) < st.length := by omega
        have f3 : (((st.length - 1 : Nat) : Int)).toNat = st.length - 1 := by omega
        have f4 : (0 : Int) ≤ ((st.length - 2 : Nat) : Int) ∧ ((st.length - 2 : Nat) : Int) < st.length := by omega
        have f6 : (((st.length - 2 : Nat) : Int)).toNat = st.length - 2 := by omega
        rw [hv1] at hvc hv2
        have q5 : sb = sb2 := by injection hv2 with q1 q2 q3; injection q1 with q1; injection q1
        subst q5
        rw [hg1] at hg2
        cases hg2
        injection hv1 with q1 q2 q3
        subst q1
        subst q3
        simp only [sxA, sxB, Nat.reduceBEq, Nat.reduceEqDiff, reduceCtorEq, mxA, mxB, Nat.reduceAdd, reduceIte, Nat.reduceLeDiff, splice, e1, r3, hgyc, nd3, ek2, f4, f6, hg1, hc2]
        cases hne : x.l == st.getD (st.length - 2) 0 with
        | false =>
          rw [if_pos (.inr (.inl (by simpa using hne)))] at eS
          rw [eS] at hRi
          simp only [sxA, sxB, Nat.reduceBEq, Nat.reduceEqDiff, reduceCtorEq, mxA, mxB, Nat.reduceAdd, reduceIte, Nat.reduceLeDiff, splice, hne, ret_expr_Check]
          exact .mk hxx.next ⟨by rw [hr1, hRi]; rfl, hxx⟩
        | true =>
          have hne' : x.l = st.getD (st.length - 2) 0 := by simpa using hne
          simp only [sxA, sxB, Nat.reduceBEq, Nat.reduceEqDiff, reduceCtorEq, mxA, mxB, Nat.reduceAdd, reduceIte, Nat.reduceLeDiff, splice, hne, r3, hgyc, nd4, ek1, f1, f3, hg1, hc1]
          cases hnr : x.r == st.getD (st.length - 1) 0 with
          | false =>
            rw [if_pos (.inr (.inr (by simpa using hnr)))] at eS
            rw [eS] at hRi
            simp only [sxA, sxB, Nat.reduceBEq, Nat.reduceEqDiff, reduceCtorEq, mxA, mxB, Nat.reduceAdd, reduceIte, Nat.reduceLeDiff, splice, hnr, ret_expr_Check]
            exact .mk hxx.next ⟨by rw [hr1, hRi]; rfl, hxx⟩
          | true =>
            have hnr' : x.r = st.getD (st.length - 1) 0 := by simpa using hnr
            rw [if_neg (by rintro (h | h | h); exact hk h; exact h hne'; exact h hnr')] at eS
            simp only [sxA, sxB, Nat.reduceBEq, Nat.reduceEqDiff, reduceCtorEq, mxA, mxB, Nat.reduceAdd, reduceIte, Nat.reduceLeDiff, splice, hnr, r3, ek2, hvc]
            refine stk_push (st := st.take (st.length - 2)) (x := (i : Int)) (hsc.ext hw2 ((Ext.refl _).push _)) (hxx.push _) (hw2.push _) (by rw [Heap.get_push, if_pos rfl]) (by rw [List.length_take]; omega) fun v' H' hs' hx' hw' => ?_
            simp only [sxA, sxB, Nat.reduceBEq, Nat.reduceEqDiff, reduceCtorEq, mxA, mxB, Nat.reduceAdd, reduceIte, Nat.reduceLeDiff, splice, r12, ei]
            refine done _ v' H' _ eS hs' hx' hw' ?_ ?_ ?_ ?_
            all_goals simp only [uxA, uxB, Nat.reduceBEq, r10, r11]
    · have h2 : i = xs.length := by have := of_decide_eq_false h2; omega
      subst h2
      rw [List.drop_length] at hRi
      have hRi : R = some st := hRi
      rw [hRi] at hr1
      obtain ⟨sa, scap, rfl⟩ := hst.len
      have hr2 : r = if st.length = 1 then 0 else 2 := hr1
      simp only [pc_expr_Check_1, sxA, sxB, Nat.reduceBEq, Nat.reduceEqDiff, reduceCtorEq, mxA, mxB, Nat.reduceAdd, reduceIte, Nat.reduceLeDiff, splice, r3]
      by_cases h1 : st.length = 1
      · have e1 : ((st.length : Int) == 1) = true := by rw [h1]; rfl
        simp only [sxA, sxB, Nat.reduceBEq, Nat.reduceEqDiff, reduceCtorEq, mxA, mxB, Nat.reduceAdd, reduceIte, Nat.reduceLeDiff, splice, e1, ret_expr_Check]
        exact .mk hx3.next ⟨by rw [hr2, if_pos h1], hx3⟩
      · have e1 : ((st.length : Int) == 1) = false := beq_eq_false_iff_ne.2 (by omega)
        simp only [sxA, sxB, Nat.reduceBEq, Nat.reduceEqDiff, reduceCtorEq, mxA, mxB, Nat.reduceAdd, reduceIte, Nat.reduceLeDiff, splice, e1, ret_expr_Check]
        exact .mk hx3.next ⟨by rw [hr2, if_neg h1], hx3⟩
end Go.Proofs.YtbkbdnlfkahaaaaGreatDoor.code
/- linotyperef23.Check, of any nodes: as expr.Check. -/
set_option linter.unusedVariables false
set_option linter.unusedSimpArgs false
set_option maxRecDepth 100000
set_option maxHeartbeats 4000000
namespace Go.Proofs.YtbkbdnlfkahaaaaGreatDoor.code
open Go.Ab

theorem asrc_zero (size : Nat) (a : Option Addr) (c : Nat) (H : Heap) : asrc size (.slice a 0 c) H = some (0, []) := by
  cases a <;> simp [asrc]
theorem appK_zero {e size bytes len cap : Nat} {a : Addr} {x : Value} {H : Heap} {k : Value → Heap → Prop} (hx : asrc size x H = some (0, [])) (hc : len ≤ cap) (h : k (.slice (some a) len cap) H) : appK e size bytes (.slice (some a) len cap) x H k := by
  have e1 : rappend e size bytes (.slice (some a) len cap) x H = some (.slice (some a) len cap, H) := by simp [rappend, hx, hc]
  unfold appK
  rw [e1, onS_some]
  exact h
theorem ints_one (l : List Int) : ((ints l).all fun v => v.oneCell') = true := by
  unfold ints
  rw [List.all_map, List.all_eq_true]
  exact fun _ _ => rfl
theorem stk_copy {H0 H : Heap} {v : Value} {st : List Int} {x : Int} {p : Nat} {K : Value → Heap → Prop} (hs : StkAt H0 H v st) (hx : Ext H0 H) (hw : H.Wf) (hp : H.get p = some (.cells [] 3 false)) (hl : st.length ≤ 1000000)
    (h : ∀ v1 H1, Ext H0 H1 → H1.Wf → (∀ q cap, H1.get q = some (.cells [.int .i64 x] 3 false) → ∀ k, (∀ v' H', StkAt H0 H' v' (st ++ [x]) → Ext H0 H' → H'.Wf → k v' H') → appK 3 1 8 v1 (.slice (some ⟨q, 0, none⟩) 1 cap) H1 k) →
      (∀ H2, Ext H1 H2 → H2.Wf → ∀ q cap, H2.get q = some (.cells [.int .i64 x] 3 false) → ∀ k, (∀ v' H', StkAt H0 H' v' (st ++ [x]) → Ext H0 H' → H'.Wf → k v' H') → appK 3 1 8 v1 (.slice (some ⟨q, 0, none⟩) 1 cap) H2 k) → K v1 H1) :
    appK 3 1 8 (.slice (some ⟨p, 0, none⟩) 0 0) v H K := by
  have hn := hx.next
  by_cases h0 : st.length = 0
  · have hst : st = [] := by simpa using h0
    subst hst
    have ha : asrc 1 v H = some (0, []) := by
      rcases hs with ⟨rfl, _⟩ | ⟨b, c, rfl, _⟩
      · exact asrc_zero _ _ _ _
      · exact asrc_zero _ _ _ _
    have push : ∀ H2, Ext H H2 → H2.Wf → ∀ q cap, H2.get q = some (.cells [.int .i64 x] 3 false) → ∀ k, (∀ v' H', StkAt H0 H' v' ([] ++ [x]) → Ext H0 H' → H'.Wf → k v' H') → appK 3 1 8 (.slice (some ⟨p, 0, none⟩) 0 0) (.slice (some ⟨q, 0, none⟩) 1 cap) H2 k := by
      intro H2 hx2 hw2 q cap hq k hk
      have hp2 : H2.get p = some (.cells [] 3 false) := by rw [hx2.get _ (hw.lt hp)]; exact hp
      have hxx := hx.trans hx2
      exact appK_grow (asrc_one hq) rfl (by decide) hp2 (Nat.le_refl _) (by decide) (by decide) (by unfold UNK; omega) (by omega) (hk _ _ (.inr ⟨H2.next, [.int .i64 x], rfl, hxx.next, by rw [Heap.get_push, if_pos rfl]; rfl, Nat.le_refl _, rfl⟩) (hxx.push _) (hw2.push _))
    exact appK_zero ha (Nat.le_refl 0) (h _ _ hx hw (fun q cap hq k hk => push H (.refl _) hw q cap hq k hk) (fun H2 hx2 hw2 q cap hq k hk => push H2 hx2 hw2 q cap hq k hk))
  · rcases hs with ⟨rfl, rfl⟩ | ⟨b, c, rfl, h2, h3, h4, h5⟩
    · exact absurd rfl h0
    · have ha : asrc 1 (.slice (some ⟨b, 0, none⟩) st.length (UNK + 1)) H = some (st.length, ints st) := by
        rw [asrc_sl h3 h0 (by omega), List.drop_zero, Nat.mul_one, h5]
      refine appK_grow ha (ints_one st) h0 hp (Nat.le_refl _) (by omega) (by omega) (by unfold UNK; omega) (by omega) ?_
      have hs1 : StkAt H0 (H.push (.cells (((([] : List Value).drop 0).take (0 * 1)) ++ ints st) 3 false)) (.slice (some ⟨H.next, 0, none⟩) (0 + st.length) (UNK + 1)) st :=
        .inr ⟨H.next, ints st, by rw [Nat.zero_add], hn, by rw [Heap.get_push, if_pos rfl]; rfl, by rw [ints_length]; exact Nat.le_refl _, by rw [List.take_of_length_le (by rw [ints_length]; exact Nat.le_refl _)]⟩
      have push : ∀ H2, Ext (H.push (.cells (((([] : List Value).drop 0).take (0 * 1)) ++ ints st) 3 false)) H2 → H2.Wf → ∀ q cap, H2.get q = some (.cells [.int .i64 x] 3 false) → ∀ k, (∀ v' H', StkAt H0 H' v' (st ++ [x]) → Ext H0 H' → H'.Wf → k v' H') → appK 3 1 8 (.slice (some ⟨H.next, 0, none⟩) (0 + st.length) (UNK + 1)) (.slice (some ⟨q, 0, none⟩) 1 cap) H2 k := by
        intro H2 hx2 hw2 q cap hq k hk
        exact stk_push (st := st) (hs1.ext (hw.push _) hx2) ((hx.push _).trans hx2) hw2 hq hl hk
      exact h _ _ (hx.push _) (hw.push _) (fun q cap hq k hk => push _ (.refl _) (hw.push _) q cap hq k hk) push
theorem q_ref23_Check (v : Value) (xs : List Nd) (hS : ∀ x ∈ xs, (bl x.s).length ≤ 1000000) (hlx : xs.length ≤ 1000000) (H : Heap) (hx : NdsAt H v xs) : CallQ prog f_linotyperef23_Check [v] H fun u H' => u = .int .i64 (chkN xs) ∧ Ext H H' := by
  refine in_linotyperef23_Check fun hw => ?_
  obtain ⟨a, cap, rfl, hsl⟩ := hx
  obtain ⟨r, hr⟩ : ∃ r, r = chkN xs := ⟨_, rfl⟩
  rw [← hr]
  have hr1 : r = if 200 < xs.length then 3 else endN (runN xs 0 []) := hr
  clear hr
  simp only [pc_linotyperef23_Check, sxA, sxB, Nat.reduceBEq, Nat.reduceEqDiff, reduceCtorEq, mxA, mxB, Nat.reduceAdd, reduceIte, Nat.reduceLeDiff, splice]
  by_cases h200 : (200 : Int) < xs.length
  · rw [if_pos (by omega)] at hr1
    simp only [sxA, sxB, Nat.reduceBEq, Nat.reduceEqDiff, reduceCtorEq, mxA, mxB, Nat.reduceAdd, reduceIte, Nat.reduceLeDiff, splice, decide_eq_true h200, ret_linotyperef23_Check]
    exact .mk (Nat.le_refl _) ⟨by rw [hr1], .refl _⟩
  rw [if_neg (by omega)] at hr1
  obtain ⟨R, hR⟩ : ∃ R, R = runN xs 0 [] := ⟨_, rfl⟩
  rw [← hR] at hr1
  simp only [pc_linotyperef23_Check_9, sxA, sxB, Nat.reduceBEq, Nat.reduceEqDiff, reduceCtorEq, mxA, mxB, Nat.reduceAdd, reduceIte, Nat.reduceLeDiff, splice, decide_eq_false h200]
  refine loop_intro (fun m A' H' => ∃ (i : Nat) (st : List Int) (sv : Value), i ≤ xs.length ∧ m = xs.length - i ∧ H'.Wf ∧ Ext H H' ∧ StkAt H H' sv st ∧ st.length ≤ i ∧ R = runN (xs.drop i) i st ∧
      A' 3 = sv ∧ A' 0 = .slice a xs.length cap ∧ A' 4 = .int .i64 i) xs.length ?_ ?_
  · refine ⟨0, [], .slice none 0 0, Nat.zero_le _, by omega, hw, .refl _, .inl ⟨rfl, rfl⟩, Nat.le_refl _, hR, ?_, ?_, ?_⟩
    all_goals simp only [uxA, uxB, Nat.reduceBEq]
    all_goals rfl
  · rintro m A' H3 ⟨i, st, sv, hi, rfl, hw3, hx3, hst, hsti, hRi, r3, r0, r4⟩
    simp only [pc_linotyperef23_Check_8, sxA, sxB, Nat.reduceBEq, Nat.reduceEqDiff, reduceCtorEq, mxA, mxB, Nat.reduceAdd, reduceIte, Nat.reduceLeDiff, splice, r0, r4]
    refine cB_cases (fun h2 => ?_) (fun h2 => ?_)
    · have h2 : i < xs.length := by have := of_decide_eq_true h2; omega
      obtain ⟨b1, e1, ro1, rfl, hb1⟩ := hsl (by omega)
      have hb3 : H3.get b1 = some (.cells (cellsN xs) e1 ro1) := by rw [hx3.get _ (hw.lt hb1)]; exact hb1
      have c1 : (0 : Int) ≤ i ∧ (i : Int) < xs.length := by omega
      have c3 : (i : Int).toNat = i := by omega
      have c4 : i * 5 + 5 ≤ xs.length * 5 := by omega
      have ei : IntKind.i64.wrap ((i : Int) + 1) = ((i + 1 : Nat) : Int) := by rw [w64 (by unfold I64; omega)]; omega
      have p1 := List.getElem?_eq_getElem h2
      have d1 := cellsN_at xs i _ p1
      have n1 := cellsN_length xs
      have hSx := hS _ (List.getElem_mem h2)
      rw [runN_drop p1] at hRi
      generalize xs[i] = x at *
      have a1 := ndcells_one x
      have fl : ∀ j v, x.cells[j]? = some v → (cellsN xs)[i * 5 + j]? = some v := fun j v hj => by
        have := congrArg (fun l => l[j]?) d1
        have hj5 : j < 5 := by have := (List.getElem?_eq_some_iff.1 hj).1; rw [ndcells_length] at this; exact this
        simp only [List.getElem?_take, if_pos hj5, List.getElem?_drop] at this
        rw [this]; exact hj
      have g0 := fl 0 _ (nd0 x)
      have g3 := fl 3 _ (nd3 x)
      have g4 := fl 4 _ (nd4 x)
      rw [Nat.add_zero] at g0
      obtain ⟨sa, scap, hsv⟩ := hst.len
      subst hsv
      have done : ∀ (st' : List Int) (v' : Value) (H5 : Heap) (A5 : Env), stepN st i x = some st' → StkAt H H5 v' st' → Ext H H5 → H5.Wf → A5 3 = v' → A5 0 = .slice (some ⟨b1, 0, none⟩) xs.length cap → A5 4 = .int .i64 ((i + 1 : Nat) : Int) →
          ∃ n, n < xs.length - i ∧ ∃ (i' : Nat) (st : List Int) (sv : Value), i' ≤ xs.length ∧ n = xs.length - i' ∧ H5.Wf ∧ Ext H H5 ∧ StkAt H H5 sv st ∧ st.length ≤ i' ∧ R = runN (xs.drop i') i' st ∧ A5 3 = sv ∧ A5 0 = .slice (some ⟨b1, 0, none⟩) xs.length cap ∧ A5 4 = .int .i64 i' := by
        intro st' v' H5 A5 hs hs5 hx5 hw5 q3 q0 q4
        rw [hs] at hRi
        have := stepN_len hs
        exact ⟨xs.length - (i + 1), by omega, i + 1, st', v', by omega, rfl, hw5, hx5, hs5, by omega, hRi, q3, q0, q4⟩
      have fail : stepN st i x = none → r = 2 := fun h => by rw [h] at hRi; rw [hr1, hRi]; rfl
      have eS : stepN st i x = if fieldsF x = false then none
          else if x.op ≤ 4 then some (st ++ [(i : Int)])
          else if x.op ≤ 6 then (if st.length < 1 ∨ ¬ x.l = st.getD (st.length - 1) 0 then none else some (st.take (st.length - 1) ++ [(i : Int)]))
          else (if st.length < 2 ∨ ¬ x.l = st.getD (st.length - 2) 0 ∨ ¬ x.r = st.getD (st.length - 1) 0 then none else some (st.take (st.length - 2) ++ [(i : Int)])) := rfl
      have eF : fieldsF x = (decide (1 ≤ x.op) && decide (x.op ≤ 16) && leafF x && (!decide (x.op ≤ 4) || (x.l == 0)) && (!decide (x.op ≤ 6) || (x.r == 0))) := rfl
      have eO : opsN x.op = if (decide (x.op < 1) || decide (16 < x.op)) = true then -1 else if x.op ≤ 4 then 0 else if x.op ≤ 6 then 1 else 2 := rfl
      simp only [pc_linotyperef23_Check_7, sxA, sxB, Nat.reduceBEq, Nat.reduceEqDiff, reduceCtorEq, mxA, mxB, Nat.reduceAdd, reduceIte, Nat.reduceLeDiff, splice, r0, r4, c1, c3, c4, hb3, g0]
      refine (q_operands x.op H3).thenW ?_
      rintro _ H4 _ _ ⟨rfl, rfl⟩
      by_cases hop : x.op < 1 ∨ 16 < x.op
      · have e5 : opsN x.op = -1 := by rw [eO, if_pos (by simpa using hop)]
        have e6 : decide ((-1 : Int) < 0) = true := rfl
        rw [e5]
        simp only [sxA, sxB, Nat.reduceBEq, Nat.reduceEqDiff, reduceCtorEq, mxA, mxB, Nat.reduceAdd, reduceIte, Nat.reduceLeDiff, splice, e6, ret_linotyperef23_Check]
        have hz := fail (by
          rw [eS, if_pos]
          rw [eF]
          rcases hop with h | h
          · rw [decide_eq_false (show ¬ 1 ≤ x.op by omega)]; rfl
          · rw [decide_eq_false (show ¬ x.op ≤ 16 by omega)]; simp)
        exact .mk hx3.next ⟨by rw [hz], hx3⟩
      rw [if_neg (by simpa using hop)] at eO
      have hge : decide (opsN x.op < 0) = false := by
        rw [eO]
        repeat' split
        all_goals rfl
      have hF0 : fieldsF x = (leafF x && (!decide (x.op ≤ 4) || (x.l == 0)) && (!decide (x.op ≤ 6) || (x.r == 0))) := by rw [eF, decide_eq_true (show 1 ≤ x.op by omega), decide_eq_true (show x.op ≤ 16 by omega)]; simp
      simp only [sxA, sxB, Nat.reduceBEq, Nat.reduceEqDiff, reduceCtorEq, mxA, mxB, Nat.reduceAdd, reduceIte, Nat.reduceLeDiff, splice, hge, r0, r4, c1, c3, c4, hb3, d1, n1, a1, ndcells_length, ndcells_take]
      refine (q_leaf x hSx H4).thenW ?_
      rintro _ _ hn5 hw5 ⟨rfl, kk, rfl⟩
      have hkk : H4.next ≤ kk := hn5
      have hxx := hx3.up hkk
      have hst5 := hst.ext hw3 ((Ext.refl _).up hkk)
      have hb5 : (H4.up kk).get b1 = some (.cells (cellsN xs) e1 ro1) := by rw [Heap.get_up]; exact hb3
      generalize H4.up kk = H5 at *
      cases hlf : leafF x with
      | false =>
        simp only [sxA, sxB, Nat.reduceBEq, Nat.reduceEqDiff, reduceCtorEq, mxA, mxB, Nat.reduceAdd, reduceIte, Nat.reduceLeDiff, splice, ret_linotyperef23_Check]
        have hz := fail (by rw [eS, if_pos (by rw [hF0, hlf]; rfl)])
        exact .mk hxx.next ⟨by rw [hz], hxx⟩
      | true =>
        rw [hlf, Bool.true_and] at hF0
        have tail : ∀ (e : Nat → Env → Heap → Prop) (K : Env → Heap → Prop) (kN : Nat) (l q : Int) (A : Env), kN ≤ st.length → A 0 = .slice (some ⟨b1, 0, none⟩) xs.length cap → A 3 = .slice sa st.length scap → A 4 = .int .i64 i → A 5 = .int .i64 kN → A 6 = .int .i64 l → A 7 = .int .i64 q →
            stepN st i x = (if x.l = l ∧ x.r = q then some (st.take (st.length - kN) ++ [(i : Int)]) else none) →
            (∀ (A3 : Env) (H6 : Heap) (v' : Value), stepN st i x = some (st.take (st.length - kN) ++ [(i : Int)]) → StkAt H H6 v' (st.take (st.length - kN) ++ [(i : Int)]) → Ext H H6 → H6.Wf → A3 3 = v' → A3 0 = .slice (some ⟨b1, 0, none⟩) xs.length cap → A3 4 = .int .i64 i → K A3 H6) →
            pexec prog pc_linotyperef23_Check_3 ⟨Rt prog F_linotyperef23_Check H (fun u H' => u = .int .i64 r ∧ Ext H H'), e⟩ K A H5 := by
          intro e K kN l q A hkN q0 q3 q4 q5 q6 q7 hstep hK
          simp only [pc_linotyperef23_Check_3, sxA, sxB, Nat.reduceBEq, Nat.reduceEqDiff, reduceCtorEq, mxA, mxB, Nat.reduceAdd, reduceIte, Nat.reduceLeDiff, splice, q0, q4, q6, q7, c1, c3, c4, hb5, g3, g4]
          cases w1 : x.l == l with
          | false =>
            have hz := fail (by rw [hstep, if_neg (by rintro ⟨h, _⟩; rw [h] at w1; simp at w1)])
            simp only [sxA, sxB, Nat.reduceBEq, Nat.reduceEqDiff, reduceCtorEq, mxA, mxB, Nat.reduceAdd, reduceIte, Nat.reduceLeDiff, splice, ret_linotyperef23_Check]
            exact .mk hxx.next ⟨by rw [hz], hxx⟩
          | true =>
            simp only [sxA, sxB, Nat.reduceBEq, Nat.reduceEqDiff, reduceCtorEq, mxA, mxB, Nat.reduceAdd, reduceIte, Nat.reduceLeDiff, splice, q0, q4, q7, c1, c3, c4, hb5, g3, g4]
            cases w2 : x.r == q with
            | false =>
              have hz := fail (by rw [hstep, if_neg (by rintro ⟨_, h⟩; rw [h] at w2; simp at w2)])
              simp only [sxA, sxB, Nat.reduceBEq, Nat.reduceEqDiff, reduceCtorEq, mxA, mxB, Nat.reduceAdd, reduceIte, Nat.reduceLeDiff, splice, ret_linotyperef23_Check]
              exact .mk hxx.next ⟨by rw [hz], hxx⟩
            | true =>
              have ek : IntKind.i64.wrap ((st.length : Int) - (kN : Int)) = ((st.length - kN : Nat) : Int) := by rw [w64 (by unfold I64; omega)]; omega
              have hx6 := (Ext.refl H5).push (.cells [] 3 false)
              obtain ⟨vc, hvc, hsc⟩ := (hst5.ext hw5 hx6).cut (k := st.length - kN) (by omega)
              simp only [pc_linotyperef23_Check_2, sxA, sxB, Nat.reduceBEq, Nat.reduceEqDiff, reduceCtorEq, mxA, mxB, Nat.reduceAdd, reduceIte, Nat.reduceLeDiff, splice, q3, q5, ek, hvc]
              refine stk_copy (x := (i : Int)) hsc (hxx.trans hx6) (hw5.push _) (by rw [Heap.get_push, if_pos rfl]) (by rw [List.length_take]; omega) fun v1 H1 hx1 hw1 _ pu => ?_
              simp only [sxA, sxB, Nat.reduceBEq, Nat.reduceEqDiff, reduceCtorEq, mxA, mxB, Nat.reduceAdd, reduceIte, Nat.reduceLeDiff, splice, q4]
              refine pu _ ((Ext.refl H1).push _) (hw1.push _) H1.next _ (by rw [Heap.get_push, if_pos rfl]) _ fun v' H' hs' hx' hw' => ?_
              simp only [sxA, sxB, Nat.reduceBEq, Nat.reduceEqDiff, reduceCtorEq, mxA, mxB, Nat.reduceAdd, reduceIte, Nat.reduceLeDiff, splice]
              refine hK _ H' v' (by rw [hstep, if_pos ⟨by simpa using w1, by simpa using w2⟩]) hs' hx' hw' ?_ ?_ ?_
              all_goals simp only [uxA, uxB, Nat.reduceBEq, q0, q4]
        simp only [pc_linotyperef23_Check_6, pc_linotyperef23_Check_5, sxA, sxB, Nat.reduceBEq, Nat.reduceEqDiff, reduceCtorEq, mxA, mxB, Nat.reduceAdd, reduceIte, Nat.reduceLeDiff, splice, r3]
        by_cases h4 : x.op ≤ 4
        · rw [if_pos h4] at eO
          have e5 : decide ((st.length : Int) < opsN x.op) = false := by rw [eO]; exact decide_eq_false (by omega)
          have e6 : (opsN x.op == 1) = false := by rw [eO]; rfl
          have e7 : (opsN x.op == 2) = false := by rw [eO]; rfl
          simp only [sxA, sxB, Nat.reduceBEq, Nat.reduceEqDiff, reduceCtorEq, mxA, mxB, Nat.reduceAdd, reduceIte, Nat.reduceLeDiff, splice, e5, e6, e7]
          rw [decide_eq_true h4, decide_eq_true (show x.op ≤ 6 by omega)] at hF0
          have hstep : stepN st i x = (if x.l = 0 ∧ x.r = 0 then some (st.take (st.length - 0) ++ [(i : Int)]) else none) := by
            rw [eS, hF0, if_pos h4, Nat.sub_zero, List.take_length]
            by_cases z1 : x.l = 0 <;> by_cases z2 : x.r = 0 <;> simp [z1, z2]
          refine tail _ _ 0 (0) (0) _ (by omega) (by simp only [uxA, uxB, Nat.reduceBEq, r0]) (by simp only [uxA, uxB, Nat.reduceBEq, r3]) (by simp only [uxA, uxB, Nat.reduceBEq, r4]) (by simp only [uxA, uxB, Nat.reduceBEq, eO]; rfl) (by simp only [uxA, uxB, Nat.reduceBEq]) (by simp only [uxA, uxB, Nat.reduceBEq]) hstep fun A3 H6 v' hgo hs' hx' hw' y3 y0 y4 => ?_
          simp only [sxA, sxB, Nat.reduceBEq, Nat.reduceEqDiff, reduceCtorEq, mxA, mxB, Nat.reduceAdd, reduceIte, Nat.reduceLeDiff, splice, y4, ei]
          refine done _ v' H6 _ hgo hs' hx' hw' ?_ ?_ ?_
          all_goals simp only [uxA, uxB, Nat.reduceBEq, y3, y0]
        rw [if_neg h4] at eO
        by_cases h6 : x.op ≤ 6
        · rw [if_pos h6] at eO
          rw [decide_eq_false h4, decide_eq_true h6] at hF0
          have e6 : (opsN x.op == 1) = true := by rw [eO]; rfl
          have e7 : (opsN x.op == 2) = false := by rw [eO]; rfl
          by_cases hk : st.length < 1
          · have e5 : decide ((st.length : Int) < opsN x.op) = true := by rw [eO]; exact decide_eq_true (by omega)
            have hz := fail (by rw [eS]; by_cases zf : fieldsF x = false; (rw [if_pos zf]); (rw [if_neg zf, if_neg h4, if_pos h6, if_pos (Or.inl hk)]))
            simp only [sxA, sxB, Nat.reduceBEq, Nat.reduceEqDiff, reduceCtorEq, mxA, mxB, Nat.reduceAdd, reduceIte, Nat.reduceLeDiff, splice, e5, ret_linotyperef23_Check]
            exact .mk hxx.next ⟨by rw [hz], hxx⟩
          have e5 : decide ((st.length : Int) < opsN x.op) = false := by rw [eO]; exact decide_eq_false (by omega)
          have ek1 : IntKind.i64.wrap ((st.length : Int) - 1) = ((st.length - 1 : Nat) : Int) := by rw [w64 (by unfold I64; omega)]; omega
          obtain ⟨sb, sc, hv1, hg1, hc1⟩ := hst5.at_ (i := st.length - 1) (by omega)
          have f1 : (0 : Int) ≤ ((st.length - 1 : Nat) : Int) ∧ ((st.length - 1 : Nat) : Int) < st.length := by omega
          have f3 : (((st.length - 1 : Nat) : Int)).toNat = st.length - 1 := by omega
          injection hv1 with q1 q2 q3
          subst q1
          subst q3
          simp only [sxA, sxB, Nat.reduceBEq, Nat.reduceEqDiff, reduceCtorEq, mxA, mxB, Nat.reduceAdd, reduceIte, Nat.reduceLeDiff, splice, e5, e6, e7, r3, ek1, f1, f3, hg1, hc1]
          have hstep : stepN st i x = (if x.l = st.getD (st.length - 1) 0 ∧ x.r = 0 then some (st.take (st.length - 1) ++ [(i : Int)]) else none) := by
            rw [eS, hF0, if_neg h4, if_pos h6]
            by_cases z1 : x.l = st.getD (st.length - 1) 0 <;> by_cases z2 : x.r = 0 <;> simp [z1, z2, hk] <;> (intro h; omega)
          refine tail _ _ 1 (st.getD (st.length - 1) 0) (0) _ (by omega) (by simp only [uxA, uxB, Nat.reduceBEq, r0]) (by simp only [uxA, uxB, Nat.reduceBEq, r3]) (by simp only [uxA, uxB, Nat.reduceBEq, r4]) (by simp only [uxA, uxB, Nat.reduceBEq, eO]; rfl) (by simp only [uxA, uxB, Nat.reduceBEq]) (by simp only [uxA, uxB, Nat.reduceBEq]) hstep fun A3 H6 v' hgo hs' hx' hw' y3 y0 y4 => ?_
          simp only [sxA, sxB, Nat.reduceBEq, Nat.reduceEqDiff, reduceCtorEq, mxA, mxB, Nat.reduceAdd, reduceIte, Nat.reduceLeDiff, splice, y4, ei]
          refine done _ v' H6 _ hgo hs' hx' hw' ?_ ?_ ?_
          all_goals simp only [uxA, uxB, Nat.reduceBEq, y3, y0]
        rw [if_neg h6] at eO
        rw [decide_eq_false h4, decide_eq_false h6] at hF0
        have hF1 : fieldsF x = true := by rw [hF0]; rfl
        have e6 : (opsN x.op == 1) = false := by rw [eO]; rfl
        have e7 : (opsN x.op == 2) = true := by rw [eO]; rfl
        by_cases hk : st.length < 2
        · have e5 : decide ((st.length : Int) < opsN x.op) = true := by rw [eO]; exact decide_eq_true (by omega)
          have hz := fail (by rw [eS, if_neg (by rw [hF1]; decide), if_neg h4, if_neg h6, if_pos (Or.inl hk)])
          simp only [sxA, sxB, Nat.reduceBEq, Nat.reduceEqDiff, reduceCtorEq, mxA, mxB, Nat.reduceAdd, reduceIte, Nat.reduceLeDiff, splice, e5, ret_linotyperef23_Check]
          exact .mk hxx.next ⟨by rw [hz], hxx⟩
        have e5 : decide ((st.length : Int) < opsN x.op) = false := by rw [eO]; exact decide_eq_false (by omega)
        have ek1 : IntKind.i64.wrap ((st.length : Int) - 1) = ((st.length - 1 : Nat) : Int) := by rw [w64 (by unfold I64; omega)]; omega
        have ek2 : IntKind.i64.wrap ((st.length : Int) - 2) = ((st.length - 2 : Nat) : Int) := by rw [w64 (by unfold I64; omega)]; omega
        obtain ⟨sb, sc, hv1, hg1, hc1⟩ := hst5.at_ (i := st.length - 1) (by omega)
        obtain ⟨sb2, sc2, hv2, hg2, hc2⟩ := hst5.at_ (i := st.length - 2) (by omega)
        have f1 : (0 : Int) ≤ ((st.length - 1 : Nat) : Int) ∧ ((st.length - 1 : Nat) : Int) < st.length := by omega
        have f3 : (((st.length - 1 : Nat) : Int)).toNat = st.length - 1 := by omega
        have f4 : (0 : Int) ≤ ((st.length - 2 : Nat) : Int) ∧ ((st.length - 2 : Nat) : Int) < st.length := by omega
        have f6 : (((st.length - 2 : Nat) : Int)).toNat = st.length - 2 := by omega
        rw [hv1] at hv2
        have q5 : sb = sb2 := by injection hv2 with q1 q2 q3; injection q1 with q1; injection q1
        subst q5
        rw [hg1] at hg2
        cases hg2
        injection hv1 with q1 q2 q3
        subst q1
        subst q3
        simp only [pc_linotyperef23_Check_4, sxA, sxB, Nat.reduceBEq, Nat.reduceEqDiff, reduceCtorEq, mxA, mxB, Nat.reduceAdd, reduceIte, Nat.reduceLeDiff, splice, e5, e6, e7, r3, ek1, ek2, f1, f3, f4, f6, hg1, hc1, hc2]
        have hstep : stepN st i x = (if x.l = st.getD (st.length - 2) 0 ∧ x.r = st.getD (st.length - 1) 0 then some (st.take (st.length - 2) ++ [(i : Int)]) else none) := by
          rw [eS, if_neg (by rw [hF1]; decide), if_neg h4, if_neg h6]
          by_cases hh : x.l = st.getD (st.length - 2) 0 ∧ x.r = st.getD (st.length - 1) 0
          · rw [if_pos hh, if_neg (by rintro (h | h | h); exact hk h; exact h hh.1; exact h hh.2)]
          · rw [if_neg hh, if_pos]
            by_cases z1 : x.l = st.getD (st.length - 2) 0
            · exact .inr (.inr fun z2 => hh ⟨z1, z2⟩)
            · exact .inr (.inl z1)
        refine tail _ _ 2 (st.getD (st.length - 2) 0) (st.getD (st.length - 1) 0) _ (by omega) (by simp only [uxA, uxB, Nat.reduceBEq, r0]) (by simp only [uxA, uxB, Nat.reduceBEq, r3]) (by simp only [uxA, uxB, Nat.reduceBEq, r4]) (by simp only [uxA, uxB, Nat.reduceBEq, eO]; rfl) (by simp only [uxA, uxB, Nat.reduceBEq]) (by simp only [uxA, uxB, Nat.reduceBEq]) hstep fun A3 H6 v' hgo hs' hx' hw' y3 y0 y4 => ?_
        simp only [sxA, sxB, Nat.reduceBEq, Nat.reduceEqDiff, reduceCtorEq, mxA, mxB, Nat.reduceAdd, reduceIte, Nat.reduceLeDiff, splice, y4, ei]
        refine done _ v' H6 _ hgo hs' hx' hw' ?_ ?_ ?_
        all_goals simp only [uxA, uxB, Nat.reduceBEq, y3, y0]
    · have h2 : i = xs.length := by have := of_decide_eq_false h2; omega
      subst h2
      rw [List.drop_length] at hRi
      have hRi : R = some st := hRi
      rw [hRi] at hr1
      obtain ⟨sa, scap, rfl⟩ := hst.len
      have hr2 : r = if st.length = 1 then 0 else 2 := hr1
      simp only [pc_linotyperef23_Check_1, sxA, sxB, Nat.reduceBEq, Nat.reduceEqDiff, reduceCtorEq, mxA, mxB, Nat.reduceAdd, reduceIte, Nat.reduceLeDiff, splice, r3]
      by_cases h1 : st.length = 1
      · have e1 : ((st.length : Int) == 1) = true := by rw [h1]; rfl
        simp only [sxA, sxB, Nat.reduceBEq, Nat.reduceEqDiff, reduceCtorEq, mxA, mxB, Nat.reduceAdd, reduceIte, Nat.reduceLeDiff, splice, e1, ret_linotyperef23_Check]
        exact .mk hx3.next ⟨by rw [hr2, if_pos h1], hx3⟩
      · have e1 : ((st.length : Int) == 1) = false := beq_eq_false_iff_ne.2 (by omega)
        simp only [sxA, sxB, Nat.reduceBEq, Nat.reduceEqDiff, reduceCtorEq, mxA, mxB, Nat.reduceAdd, reduceIte, Nat.reduceLeDiff, splice, e1, ret_linotyperef23_Check]
        exact .mk hx3.next ⟨by rw [hr2, if_neg h1], hx3⟩
end Go.Proofs.YtbkbdnlfkahaaaaGreatDoor.code
/- asm.Goal and the document's, of any nodes. -/
set_option linter.unusedVariables false
set_option linter.unusedSimpArgs false
set_option maxRecDepth 100000
set_option maxHeartbeats 4000000
namespace Go.Proofs.YtbkbdnlfkahaaaaGreatDoor.code
open Go.Ab

noncomputable def nameN (a : Nd) : Option ByteArray := if a.op = 2 then some a.s else if a.op = 3 then some (mkS [36]) else none
noncomputable def noGoal : ByteArray × Int × Bool := (mkS [], 0, false)
noncomputable def form3 (a b c : Nd) : ByteArray × Int × Bool := match nameN a with
  | none => noGoal
  | some s => if ¬ b.op = 1 ∨ b.n < -2147483648 ∨ 2147483647 < b.n then noGoal else if c.op = 10 then (s, b.n, true) else if c.op = 11 ∧ -2147483648 < b.n then (s, -b.n, true) else noGoal
noncomputable def form1 (a : Nd) : ByteArray × Int × Bool := match nameN a with
  | none => noGoal
  | some s => (s, 0, true)
noncomputable def formF : List Nd → ByteArray × Int × Bool
  | [a] => form1 a
  | [a, b, c] => form3 a b c
  | _ => noGoal
noncomputable def goalF (xs : List Nd) : ByteArray × Int × Bool := if ¬ chkN xs = 0 then noGoal else formF xs
def GPost (H : Heap) (g : ByteArray × Int × Bool) : Value → Heap → Prop := fun u H' => u = .tuple #[.string g.1, .int .i64 g.2.1, .bool g.2.2] ∧ Ext H H'
theorem chk_nil : chkN [] = 2 := rfl
theorem chk_first {a : Nd} {l : List Nd} (h : chkN (a :: l) = 0) : fieldsF a = true := by
  cases hf : fieldsF a with
  | true => rfl
  | false =>
    exfalso
    have e : stepN [] 0 a = none := by unfold stepN; rw [if_pos hf]
    have e2 : runN (a :: l) 0 [] = none := by
      show (match stepN [] 0 a with | none => none | some st' => runN l 1 st') = none
      rw [e]
    unfold chkN at h
    rw [e2] at h
    split at h
    · cases h
    · cases h
theorem name_first {a : Nd} {l : List Nd} (h : chkN (a :: l) = 0) (h2 : a.op = 2) : emptyS a.s = false := by
  have hf := chk_first h
  unfold fieldsF leafF at hf
  simp only [Bool.and_eq_true, h2] at hf
  have hn : nameF (bl a.s) = true := by simpa using hf.1.1.2.2
  unfold emptyS
  cases hb : bl a.s with
  | nil => rw [hb] at hn; cases hn
  | cons _ _ => rfl
theorem gen_neg {A : Env} {H : Heap} {k : Value → Heap → Prop} {t : TypeId} {x : Operand} {ik : IntKind} {n : Int} (hx : ev A x = .int ik n) : pr prog (.gen (.unOp .neg t x)) false A H k = k (.int ik (ik.wrap (-n))) H := by
  have e : rop prog (.gen (.unOp .neg t x)) A H = some (.int ik (ik.wrap (-n)), H) := by simp [rop, aop, a_unOp, hx, pureR, unBin]
  refine (onS_fl _).trans ?_
  rw [e, onS_some]
theorem q_lone (a : Nd) (H : Heap) : CallQ prog f_linotyperef28_lone [.agg a.cells.toArray] H fun u H' => u = .string ((nameN a).getD (mkS [])) ∧ ∃ k, H' = H.up k := by
  refine in_linotyperef28_lone fun hw => ?_
  have ex : (Value.agg a.cells.toArray).cells.toList = a.cells := rfl
  have hx := (Ext.refl H).push (.cells a.cells T_api_Node false)
  simp only [pc_linotyperef28_lone, ex, sxA, sxB, Nat.reduceBEq, Nat.reduceEqDiff, reduceCtorEq, mxA, mxB, Nat.reduceAdd, reduceIte, Nat.reduceLeDiff, splice, nd0]
  unfold nameN
  by_cases h1 : a.op = 2
  · have e1 : (a.op == 2) = true := by simpa using h1
    simp only [sxA, sxB, Nat.reduceBEq, Nat.reduceEqDiff, reduceCtorEq, mxA, mxB, Nat.reduceAdd, reduceIte, Nat.reduceLeDiff, splice, e1, nd2, ret_linotyperef28_lone]
    exact .ext hw hx ⟨by rw [if_pos h1]; rfl, _, rfl⟩
  · have e1 : (a.op == 2) = false := by simpa using h1
    by_cases h2 : a.op = 3
    · have e2 : (a.op == 3) = true := by simpa using h2
      simp only [sxA, sxB, Nat.reduceBEq, Nat.reduceEqDiff, reduceCtorEq, mxA, mxB, Nat.reduceAdd, reduceIte, Nat.reduceLeDiff, splice, e1, nd0, e2, ret_linotyperef28_lone]
      exact .ext hw hx ⟨by rw [if_neg h1, if_pos h2]; rfl, _, rfl⟩
    · have e2 : (a.op == 3) = false := by simpa using h2
      simp only [sxA, sxB, Nat.reduceBEq, Nat.reduceEqDiff, reduceCtorEq, mxA, mxB, Nat.reduceAdd, reduceIte, Nat.reduceLeDiff, splice, e1, nd0, e2, ret_linotyperef28_lone]
      exact .ext hw hx ⟨by rw [if_neg h1, if_neg h2]; rfl, _, rfl⟩
theorem fld_at {xs : List Nd} {i : Nat} {x : Nd} (h : xs[i]? = some x) {j : Nat} {v : Value} (hj : x.cells[j]? = some v) : (cellsN xs)[i * 5 + j]? = some v := by
  have := congrArg (fun l => l[j]?) (cellsN_at xs i x h)
  have hj5 : j < 5 := by have := (List.getElem?_eq_some_iff.1 hj).1; rw [ndcells_length] at this; exact this
  simp only [List.getElem?_take, if_pos hj5, List.getElem?_drop] at this
  rw [this]; exact hj
theorem q_asm_Goal (v : Value) (xs : List Nd) (hS : ∀ x ∈ xs, (bl x.s).length ≤ 1000000) (hlx : xs.length ≤ 1000000) (H : Heap) (hx : NdsAt H v xs) : CallQ prog f_asm_Goal [v] H (GPost H (goalF xs)) := by
  refine in_asm_Goal fun hw => ?_
  have q := q_expr_Check v xs hS hlx H hx
  obtain ⟨a0, cap, rfl, hsl⟩ := hx
  obtain ⟨g, hg⟩ : ∃ g, g = goalF xs := ⟨_, rfl⟩
  rw [← hg]
  have hg1 : g = if ¬ chkN xs = 0 then noGoal else formF xs := hg
  clear hg
  simp only [pc_asm_Goal, sxA, sxB, Nat.reduceBEq, Nat.reduceEqDiff, reduceCtorEq, mxA, mxB, Nat.reduceAdd, reduceIte, Nat.reduceLeDiff, splice]
  refine q.thenW ?_
  rintro _ H1 hn1 hw1 ⟨rfl, hx1⟩
  have no : g = noGoal → Ret H (GPost H g) (.tuple #[.string (mkS []), .int .i64 0, .bool false]) H1 := fun h => .mk hx1.next ⟨by rw [h]; rfl, hx1⟩
  have yes : ∀ s n, g = (s, n, true) → Ret H (GPost H g) (.tuple #[.string s, .int .i64 n, .bool true]) H1 := fun s n h => .mk hx1.next ⟨by rw [h], hx1⟩
  by_cases hc : chkN xs = 0
  · have e0 : (chkN xs == 0) = true := by simpa using hc
    rw [if_neg (by simpa using hc)] at hg1
    rcases xs with _ | ⟨a, l⟩
    · rw [chk_nil] at hc; cases hc
    have hnm := name_first (l := l) hc
    obtain ⟨n, hn⟩ : ∃ n, n = (a :: l).length := ⟨_, rfl⟩
    rw [← hn] at hsl ⊢
    have hn0 : 0 < n := by rw [hn]; exact Nat.succ_pos _
    obtain ⟨b1, t1, ro1, rfl, hb1⟩ := hsl hn0
    have hb2 : H1.get b1 = some (.cells (cellsN (a :: l)) t1 ro1) := by rw [hx1.get _ (hw.lt hb1)]; exact hb1
    have i0 : (0 : Int) ≤ 0 ∧ (0 : Int) < n := by omega
    have t0 : (0 : Int).toNat = 0 := rfl
    have a00 : (cellsN (a :: l))[0]? = some (.int .i64 a.op) := fld_at (i := 0) rfl (nd0 a)
    have a02 : (cellsN (a :: l))[2]? = some (.string a.s) := fld_at (i := 0) rfl (nd2 a)
    -- the name
    have head : ∀ (A : Env), (n = 1 ∨ n = 3) → A 0 = .slice (some ⟨b1, 0, none⟩) n cap → A 2 = .string (mkS []) → A 3 = .int .i64 0 → A 4 = .bool false →
        (∀ s (A2 : Env), nameN a = some s → A2 0 = .slice (some ⟨b1, 0, none⟩) n cap → A2 5 = .string s → A2 2 = .string (mkS []) → A2 3 = .int .i64 0 → A2 4 = .bool false → pexec prog pc_asm_Goal_4 ⟨Rt prog F_asm_Goal H (GPost H g), noEx⟩ (Rt prog F_asm_Goal H (GPost H g)) A2 H1) →
        (nameN a = none → g = noGoal) → pexec prog pc_asm_Goal_6 ⟨Rt prog F_asm_Goal H (GPost H g), noEx⟩ (Rt prog F_asm_Goal H (GPost H g)) A H1 := by
      intro A hn13 q0 q2 q3 q4 hK hN
      have eN : nameN a = if a.op = 2 then some a.s else if a.op = 3 then some (mkS [36]) else none := rfl
      simp only [pc_asm_Goal_6, sxA, sxB, Nat.reduceBEq, Nat.reduceEqDiff, reduceCtorEq, mxA, mxB, Nat.reduceAdd, reduceIte, Nat.reduceLeDiff, splice, q0, i0, t0, hb2, Nat.zero_mul, Nat.zero_add, Nat.add_zero, a00, a02]
      by_cases h1 : a.op = 2
      · have e1 : (a.op == 2) = true := by simpa using h1
        rw [if_pos h1] at eN
        simp only [sxA, sxB, Nat.reduceBEq, Nat.reduceEqDiff, reduceCtorEq, mxA, mxB, Nat.reduceAdd, reduceIte, Nat.reduceLeDiff, splice, e1]
        refine hK _ _ eN ?_ ?_ ?_ ?_ ?_
        all_goals simp only [uxA, uxB, Nat.reduceBEq, q0, q2, q3, q4]
      · have e1 : (a.op == 2) = false := by simpa using h1
        rw [if_neg h1] at eN
        by_cases h2 : a.op = 3
        · have e2 : (a.op == 3) = true := by simpa using h2
          rw [if_pos h2] at eN
          simp only [pc_asm_Goal_5, sxA, sxB, Nat.reduceBEq, Nat.reduceEqDiff, reduceCtorEq, mxA, mxB, Nat.reduceAdd, reduceIte, Nat.reduceLeDiff, splice, e1, e2]
          refine hK _ _ eN ?_ ?_ ?_ ?_ ?_
          all_goals simp only [uxA, uxB, Nat.reduceBEq, q0, q2, q3, q4]
        · have e2 : (a.op == 3) = false := by simpa using h2
          rw [if_neg h2] at eN
          simp only [pc_asm_Goal_5, sxA, sxB, Nat.reduceBEq, Nat.reduceEqDiff, reduceCtorEq, mxA, mxB, Nat.reduceAdd, reduceIte, Nat.reduceLeDiff, splice, e1, e2, ret_asm_Goal]
          exact no (hN eN)
    rcases l with _ | ⟨b, _ | ⟨c, _ | ⟨d, l⟩⟩⟩
    · have e1 : ((n : Int) == 1) = true := by rw [hn]; rfl
      have hg2 : g = form1 a := hg1
      simp only [sxA, sxB, Nat.reduceBEq, Nat.reduceEqDiff, reduceCtorEq, mxA, mxB, Nat.reduceAdd, reduceIte, Nat.reduceLeDiff, splice, e0, e1]
      refine head _ (.inl hn) (by simp only [uxA, uxB, Nat.reduceBEq]) (by simp only [uxA, uxB, Nat.reduceBEq]) (by simp only [uxA, uxB, Nat.reduceBEq]) (by simp only [uxA, uxB, Nat.reduceBEq]) (fun s A2 hs y0 y5 y2 y3 y4 => ?_) fun h => by rw [hg2, form1, h]
      simp only [pc_asm_Goal_4, sxA, sxB, Nat.reduceBEq, Nat.reduceEqDiff, reduceCtorEq, mxA, mxB, Nat.reduceAdd, reduceIte, Nat.reduceLeDiff, splice, y0, e1, y5, ret_asm_Goal]
      exact yes s 0 (by rw [hg2, form1, hs])
    · have hn2 : n = 2 := hn
      have e1 : ((n : Int) == 1) = false := beq_eq_false_iff_ne.2 (by omega)
      have e3 : ((n : Int) == 3) = false := beq_eq_false_iff_ne.2 (by omega)
      simp only [sxA, sxB, Nat.reduceBEq, Nat.reduceEqDiff, reduceCtorEq, mxA, mxB, Nat.reduceAdd, reduceIte, Nat.reduceLeDiff, splice, e0, e1, e3, ret_asm_Goal]
      exact no hg1
    · have hn3 : n = 3 := hn
      have e1 : ((n : Int) == 1) = false := beq_eq_false_iff_ne.2 (by omega)
      have e3 : ((n : Int) == 3) = true := by rw [hn3]; rfl
      have hg2 : g = form3 a b c := hg1
      have i1 : (0 : Int) ≤ 1 ∧ (1 : Int) < n := by omega
      have i2 : (0 : Int) ≤ 2 ∧ (2 : Int) < n := by omega
      have t1 : (1 : Int).toNat = 1 := rfl
      have t2 : (2 : Int).toNat = 2 := rfl
      have b0 : (cellsN [a, b, c])[5]? = some (.int .i64 b.op) := fld_at (xs := [a, b, c]) (i := 1) rfl (nd0 b)
      have bn : (cellsN [a, b, c])[6]? = some (.int .i64 b.n) := fld_at (xs := [a, b, c]) (i := 1) rfl (nd1 b)
      have c0 : (cellsN [a, b, c])[10]? = some (.int .i64 c.op) := fld_at (xs := [a, b, c]) (i := 2) rfl (nd0 c)
      simp only [sxA, sxB, Nat.reduceBEq, Nat.reduceEqDiff, reduceCtorEq, mxA, mxB, Nat.reduceAdd, reduceIte, Nat.reduceLeDiff, splice, e0, e1, e3]
      refine head _ (.inr hn3) (by simp only [uxA, uxB, Nat.reduceBEq]) (by simp only [uxA, uxB, Nat.reduceBEq]) (by simp only [uxA, uxB, Nat.reduceBEq]) (by simp only [uxA, uxB, Nat.reduceBEq]) (fun s A2 hs y0 y5 y2 y3 y4 => ?_) fun h => by rw [hg2, form3, h]
      have hg3 : g = if ¬ b.op = 1 ∨ b.n < -2147483648 ∨ 2147483647 < b.n then noGoal else if c.op = 10 then (s, b.n, true) else if c.op = 11 ∧ -2147483648 < b.n then (s, -b.n, true) else noGoal := by rw [hg2, form3, hs]
      simp only [pc_asm_Goal_4, pc_asm_Goal_3, sxA, sxB, Nat.reduceBEq, Nat.reduceEqDiff, reduceCtorEq, mxA, mxB, Nat.reduceAdd, reduceIte, Nat.reduceLeDiff, splice, y0, e1, i1, t1, hb2, Nat.reduceMul, Nat.one_mul, Nat.add_zero, bn, b0]
      by_cases h1 : b.op = 1
      · have w1 : (b.op == 1) = true := by simpa using h1
        by_cases h2 : b.n < -2147483648
        · rw [if_pos (.inr (.inl h2))] at hg3
          simp only [sxA, sxB, Nat.reduceBEq, Nat.reduceEqDiff, reduceCtorEq, mxA, mxB, Nat.reduceAdd, reduceIte, Nat.reduceLeDiff, splice, w1, decide_eq_true h2, ret_asm_Goal]
          exact no hg3
        · by_cases h3 : 2147483647 < b.n
          · rw [if_pos (.inr (.inr h3))] at hg3
            simp only [sxA, sxB, Nat.reduceBEq, Nat.reduceEqDiff, reduceCtorEq, mxA, mxB, Nat.reduceAdd, reduceIte, Nat.reduceLeDiff, splice, w1, decide_eq_false h2, decide_eq_true h3, ret_asm_Goal]
            exact no hg3
          · rw [if_neg (by rintro (h | h | h); exact h h1; exact h2 h; exact h3 h)] at hg3
            simp only [pc_asm_Goal_2, sxA, sxB, Nat.reduceBEq, Nat.reduceEqDiff, reduceCtorEq, mxA, mxB, Nat.reduceAdd, reduceIte, Nat.reduceLeDiff, splice, w1, decide_eq_false h2, decide_eq_false h3, y0, i2, t2, hb2, Nat.reduceMul, Nat.add_zero, c0]
            by_cases h4 : c.op = 10
            · have w4 : (c.op == 10) = true := by simpa using h4
              rw [if_pos h4] at hg3
              simp only [sxA, sxB, Nat.reduceBEq, Nat.reduceEqDiff, reduceCtorEq, mxA, mxB, Nat.reduceAdd, reduceIte, Nat.reduceLeDiff, splice, w4, y5, ret_asm_Goal]
              exact yes s _ hg3
            · have w4 : (c.op == 10) = false := by simpa using h4
              rw [if_neg h4] at hg3
              simp only [pc_asm_Goal_1, sxA, sxB, Nat.reduceBEq, Nat.reduceEqDiff, reduceCtorEq, mxA, mxB, Nat.reduceAdd, reduceIte, Nat.reduceLeDiff, splice, w4, y0, i2, t2, hb2, Nat.reduceMul, Nat.add_zero, c0]
              by_cases h5 : c.op = 11
              · have w5 : (c.op == 11) = true := by simpa using h5
                by_cases h6 : -2147483648 < b.n
                · rw [if_pos ⟨h5, h6⟩] at hg3
                  simp only [sxA, sxB, Nat.reduceBEq, Nat.reduceEqDiff, reduceCtorEq, mxA, mxB, Nat.reduceAdd, reduceIte, Nat.reduceLeDiff, splice, w5, decide_eq_true h6, y5]
                  rw [gen_neg (ik := .i64) (n := b.n) (by simp only [uxA, uxB, Nat.reduceBEq])]
                  rw [w64 (by unfold I64; omega)]
                  simp only [sxA, sxB, Nat.reduceBEq, Nat.reduceEqDiff, reduceCtorEq, mxA, mxB, Nat.reduceAdd, reduceIte, Nat.reduceLeDiff, splice, y5, ret_asm_Goal]
                  exact yes s _ hg3
                · rw [if_neg (by rintro ⟨_, h⟩; exact h6 h)] at hg3
                  simp only [sxA, sxB, Nat.reduceBEq, Nat.reduceEqDiff, reduceCtorEq, mxA, mxB, Nat.reduceAdd, reduceIte, Nat.reduceLeDiff, splice, w5, decide_eq_false h6, ret_asm_Goal]
                  exact no hg3
              · have w5 : (c.op == 11) = false := by simpa using h5
                rw [if_neg (by rintro ⟨h, _⟩; exact h5 h)] at hg3
                simp only [sxA, sxB, Nat.reduceBEq, Nat.reduceEqDiff, reduceCtorEq, mxA, mxB, Nat.reduceAdd, reduceIte, Nat.reduceLeDiff, splice, w5, ret_asm_Goal]
                exact no hg3
      · have w1 : (b.op == 1) = false := by simpa using h1
        rw [if_pos (.inl h1)] at hg3
        simp only [sxA, sxB, Nat.reduceBEq, Nat.reduceEqDiff, reduceCtorEq, mxA, mxB, Nat.reduceAdd, reduceIte, Nat.reduceLeDiff, splice, w1, ret_asm_Goal]
        exact no hg3
    · have hn4 : n = l.length + 4 := hn
      have e1 : ((n : Int) == 1) = false := beq_eq_false_iff_ne.2 (by omega)
      have e3 : ((n : Int) == 3) = false := beq_eq_false_iff_ne.2 (by omega)
      simp only [sxA, sxB, Nat.reduceBEq, Nat.reduceEqDiff, reduceCtorEq, mxA, mxB, Nat.reduceAdd, reduceIte, Nat.reduceLeDiff, splice, e0, e1, e3, ret_asm_Goal]
      exact no hg1
  · have e0 : (chkN xs == 0) = false := by simpa using hc
    rw [if_pos hc] at hg1
    simp only [sxA, sxB, Nat.reduceBEq, Nat.reduceEqDiff, reduceCtorEq, mxA, mxB, Nat.reduceAdd, reduceIte, Nat.reduceLeDiff, splice, e0, ret_asm_Goal]
    exact no hg1
end Go.Proofs.YtbkbdnlfkahaaaaGreatDoor.code
/- The document's Goal, of any nodes: as asm.Goal. -/
set_option linter.unusedVariables false
set_option linter.unusedSimpArgs false
set_option maxRecDepth 100000
set_option maxHeartbeats 4000000
namespace Go.Proofs.YtbkbdnlfkahaaaaGreatDoor.code
open Go.Ab

theorem q_Fits (n : Int) (H : Heap) : CallQ prog f_linotyperef01_Fits [.int .i64 n, .int .i64 32] H fun u H' => u = .bool (decide (-2147483648 ≤ n) && decide (n ≤ 2147483647)) ∧ H' = H := by
  refine in_linotyperef01_Fits fun hw => ?_
  have e1 : decide ((32 : Int) < 1) = false := rfl
  have e2 : decide ((64 : Int) < 32) = false := rfl
  have e3 : IntKind.i64.wrap ((32 : Int) - 1) = 31 := rfl
  have h31 : (0 : Int) ≤ 31 := by decide
  have hd : n.fdiv (2 ^ min (Int.toNat 31) IntKind.i64.bits) = n / 2147483648 := by
    have : (2 : Int) ^ min (Int.toNat 31) IntKind.i64.bits = 2147483648 := rfl
    rw [this, Int.fdiv_eq_ediv_of_nonneg _ (by decide)]
  simp only [pc_linotyperef01_Fits, sxA, sxB, Nat.reduceBEq, Nat.reduceEqDiff, reduceCtorEq, mxA, mxB, Nat.reduceAdd, reduceIte, Nat.reduceLeDiff, splice, e1, e2, e3, h31, hd]
  cases h1 : (n / 2147483648 == 0) with
  | true =>
    have : n / 2147483648 = 0 := by simpa using h1
    simp only [sxA, sxB, Nat.reduceBEq, Nat.reduceEqDiff, reduceCtorEq, mxA, mxB, Nat.reduceAdd, reduceIte, Nat.reduceLeDiff, splice, ret_linotyperef01_Fits]
    exact .mk (Nat.le_refl _) ⟨by rw [decide_eq_true (show -2147483648 ≤ n by omega), decide_eq_true (show n ≤ 2147483647 by omega)]; rfl, rfl⟩
  | false =>
    have h0 : ¬ n / 2147483648 = 0 := by simpa using h1
    simp only [sxA, sxB, Nat.reduceBEq, Nat.reduceEqDiff, reduceCtorEq, mxA, mxB, Nat.reduceAdd, reduceIte, Nat.reduceLeDiff, splice, e3, h31, hd]
    cases h2 : (n / 2147483648 == -1) with
    | true =>
      have : n / 2147483648 = -1 := by simpa using h2
      simp only [sxA, sxB, Nat.reduceBEq, Nat.reduceEqDiff, reduceCtorEq, mxA, mxB, Nat.reduceAdd, reduceIte, Nat.reduceLeDiff, splice, ret_linotyperef01_Fits]
      exact .mk (Nat.le_refl _) ⟨by rw [decide_eq_true (show -2147483648 ≤ n by omega), decide_eq_true (show n ≤ 2147483647 by omega)]; rfl, rfl⟩
    | false =>
      have h3 : ¬ n / 2147483648 = -1 := by simpa using h2
      simp only [sxA, sxB, Nat.reduceBEq, Nat.reduceEqDiff, reduceCtorEq, mxA, mxB, Nat.reduceAdd, reduceIte, Nat.reduceLeDiff, splice, ret_linotyperef01_Fits]
      refine .mk (Nat.le_refl _) ⟨?_, rfl⟩
      by_cases h4 : -2147483648 ≤ n
      · rw [decide_eq_false (show ¬ n ≤ 2147483647 by omega)]; simp
      · rw [decide_eq_false h4]; rfl
theorem name_empty {a : Nd} {l : List Nd} (h : chkN (a :: l) = 0) : (bl ((nameN a).getD (mkS [])) == ([] : List UInt8)) = (nameN a).isNone := by
  unfold nameN
  by_cases h1 : a.op = 2
  · rw [if_pos h1]
    show (bl a.s == []) = false
    rw [beq_empty]
    exact name_first h h1
  · rw [if_neg h1]
    by_cases h2 : a.op = 3
    · rw [if_pos h2]; rfl
    · rw [if_neg h2]; rfl
theorem q_ref28_Goal (v : Value) (xs : List Nd) (hS : ∀ x ∈ xs, (bl x.s).length ≤ 1000000) (hlx : xs.length ≤ 1000000) (H : Heap) (hx : NdsAt H v xs) : CallQ prog f_linotyperef28_Goal [v] H (GPost H (goalF xs)) := by
  refine in_linotyperef28_Goal fun hw => ?_
  have q := q_ref23_Check v xs hS hlx H hx
  obtain ⟨a0, cap, rfl, hsl⟩ := hx
  obtain ⟨g, hg⟩ : ∃ g, g = goalF xs := ⟨_, rfl⟩
  rw [← hg]
  have hg1 : g = if ¬ chkN xs = 0 then noGoal else formF xs := hg
  clear hg
  simp only [pc_linotyperef28_Goal, sxA, sxB, Nat.reduceBEq, Nat.reduceEqDiff, reduceCtorEq, mxA, mxB, Nat.reduceAdd, reduceIte, Nat.reduceLeDiff, splice]
  refine q.thenW ?_
  rintro _ H1 hn1 hw1 ⟨rfl, hx1⟩
  have no : ∀ H2, Ext H H2 → g = noGoal → Ret H (GPost H g) (.tuple #[.string (mkS []), .int .i64 0, .bool false]) H2 := fun H2 hx2 h => .mk hx2.next ⟨by rw [h]; rfl, hx2⟩
  have yes : ∀ H2, Ext H H2 → ∀ s n, g = (s, n, true) → Ret H (GPost H g) (.tuple #[.string s, .int .i64 n, .bool true]) H2 := fun H2 hx2 s n h => .mk hx2.next ⟨by rw [h], hx2⟩
  by_cases hc : chkN xs = 0
  · have e0 : (chkN xs == 0) = true := by simpa using hc
    rw [if_neg (by simpa using hc)] at hg1
    rcases xs with _ | ⟨a, l⟩
    · rw [chk_nil] at hc; cases hc
    have hem := name_empty (l := l) hc
    obtain ⟨n, hn⟩ : ∃ n, n = (a :: l).length := ⟨_, rfl⟩
    rw [← hn] at hsl ⊢
    have hn0 : 0 < n := by rw [hn]; exact Nat.succ_pos _
    obtain ⟨b1, t1, ro1, rfl, hb1⟩ := hsl hn0
    have hb2 : ∀ H2, Ext H H2 → H2.get b1 = some (.cells (cellsN (a :: l)) t1 ro1) := fun H2 hx2 => by rw [hx2.get _ (hw.lt hb1)]; exact hb1
    have hb3 := hb2 H1 hx1
    have i0 : (0 : Int) ≤ 0 ∧ (0 : Int) < n := by omega
    have t0 : (0 : Int).toNat = 0 := rfl
    have d0 : (cellsN (a :: l)).take 5 = a.cells := by have := cellsN_at (a :: l) 0 a rfl; simpa using this
    have n5 : 5 ≤ (cellsN (a :: l)).length := by rw [cellsN_length, List.length_cons]; omega
    have a1 := ndcells_one a
    simp only [sxA, sxB, Nat.reduceBEq, Nat.reduceEqDiff, reduceCtorEq, mxA, mxB, Nat.reduceAdd, reduceIte, Nat.reduceLeDiff, splice, e0, i0, t0, hb3, Nat.zero_mul, Nat.zero_add, Nat.add_zero, List.drop_zero, d0, n5, a1, ndcells_length, ndcells_take]
    refine (q_lone a H1).thenW ?_
    rintro _ _ hn2 hw2 ⟨rfl, kk, rfl⟩
    have hx2 := hx1.up (show H1.next ≤ kk from hn2)
    have hb4 := hb2 _ hx2
    generalize H1.up kk = H2 at *
    -- the name once more
    have lone : ∀ (H3 : Heap), Ext H H3 → CallQ prog f_linotyperef28_lone [.agg a.cells.toArray] H3 fun u H' => u = .string ((nameN a).getD (mkS [])) ∧ ∃ k, H' = H3.up k := fun H3 _ => q_lone a H3
    simp only [sxA, sxB, Nat.reduceBEq, Nat.reduceEqDiff, reduceCtorEq, mxA, mxB, Nat.reduceAdd, reduceIte, Nat.reduceLeDiff, splice, bl_mkS, hem]
    cases hN : nameN a with
    | none =>
      have hg2 : g = noGoal := by
        rw [hg1]
        rcases l with _ | ⟨b, _ | ⟨c, _ | ⟨d, l⟩⟩⟩
        · show form1 a = noGoal; rw [form1, hN]
        · rfl
        · show form3 a b c = noGoal; rw [form3, hN]
        · rfl
      simp only [sxA, sxB, Nat.reduceBEq, Nat.reduceEqDiff, reduceCtorEq, mxA, mxB, Nat.reduceAdd, reduceIte, Nat.reduceLeDiff, splice, Option.isNone_none, ret_linotyperef28_Goal]
      exact no H2 hx2 hg2
    | some s =>
      have hlone : ∀ (H3 : Heap), Ext H H3 → CallQ prog f_linotyperef28_lone [.agg a.cells.toArray] H3 fun u H' => u = .string s ∧ Ext H H' := fun H3 hx3 => by
        refine (q_lone a H3).thenW ?_
        rintro _ _ hn3 _ ⟨rfl, k, rfl⟩
        exact ⟨by rw [hN]; rfl, hx3.up hn3⟩
      simp only [sxA, sxB, Nat.reduceBEq, Nat.reduceEqDiff, reduceCtorEq, mxA, mxB, Nat.reduceAdd, reduceIte, Nat.reduceLeDiff, splice, Option.isNone_some]
      rcases l with _ | ⟨b, _ | ⟨c, _ | ⟨d, l⟩⟩⟩
      · have e1 : ((n : Int) == 1) = true := by rw [hn]; rfl
        have hg2 : g = form1 a := hg1
        simp only [pc_linotyperef28_Goal_4, sxA, sxB, Nat.reduceBEq, Nat.reduceEqDiff, reduceCtorEq, mxA, mxB, Nat.reduceAdd, reduceIte, Nat.reduceLeDiff, splice, e1, i0, t0, hb4, Nat.zero_mul, Nat.zero_add, Nat.add_zero, List.drop_zero, d0, n5, a1, ndcells_length, ndcells_take]
        refine (hlone H2 hx2).thenW ?_
        rintro _ H3 _ _ ⟨rfl, hx3⟩
        simp only [sxA, sxB, Nat.reduceBEq, Nat.reduceEqDiff, reduceCtorEq, mxA, mxB, Nat.reduceAdd, reduceIte, Nat.reduceLeDiff, splice, ret_linotyperef28_Goal]
        exact yes H3 hx3 s 0 (by rw [hg2, form1, hN])
      · have hn2 : n = 2 := hn
        have e1 : ((n : Int) == 1) = false := beq_eq_false_iff_ne.2 (by omega)
        have e3 : ((n : Int) == 3) = false := beq_eq_false_iff_ne.2 (by omega)
        simp only [sxA, sxB, Nat.reduceBEq, Nat.reduceEqDiff, reduceCtorEq, mxA, mxB, Nat.reduceAdd, reduceIte, Nat.reduceLeDiff, splice, e1, e3, ret_linotyperef28_Goal]
        exact no H2 hx2 hg1
      · have hn3 : n = 3 := hn
        have e1 : ((n : Int) == 1) = false := beq_eq_false_iff_ne.2 (by omega)
        have e3 : ((n : Int) == 3) = true := by rw [hn3]; rfl
        have hg2 : g = form3 a b c := hg1
        have hg3 : g = if ¬ b.op = 1 ∨ b.n < -2147483648 ∨ 2147483647 < b.n then noGoal else if c.op = 10 then (s, b.n, true) else if c.op = 11 ∧ -2147483648 < b.n then (s, -b.n, true) else noGoal := by rw [hg2, form3, hN]
        have i1 : (0 : Int) ≤ 1 ∧ (1 : Int) < n := by omega
        have i2 : (0 : Int) ≤ 2 ∧ (2 : Int) < n := by omega
        have t1 : (1 : Int).toNat = 1 := rfl
        have t2 : (2 : Int).toNat = 2 := rfl
        have b0 : (cellsN [a, b, c])[5]? = some (.int .i64 b.op) := fld_at (xs := [a, b, c]) (i := 1) rfl (nd0 b)
        have bn : (cellsN [a, b, c])[6]? = some (.int .i64 b.n) := fld_at (xs := [a, b, c]) (i := 1) rfl (nd1 b)
        have c0 : (cellsN [a, b, c])[10]? = some (.int .i64 c.op) := fld_at (xs := [a, b, c]) (i := 2) rfl (nd0 c)
        simp only [pc_linotyperef28_Goal_4, pc_linotyperef28_Goal_3, sxA, sxB, Nat.reduceBEq, Nat.reduceEqDiff, reduceCtorEq, mxA, mxB, Nat.reduceAdd, reduceIte, Nat.reduceLeDiff, splice, e1, e3, i1, t1, hb4, Nat.reduceMul, Nat.one_mul, Nat.add_zero, bn, b0]
        by_cases h1 : b.op = 1
        · have w1 : (b.op == 1) = true := by simpa using h1
          simp only [sxA, sxB, Nat.reduceBEq, Nat.reduceEqDiff, reduceCtorEq, mxA, mxB, Nat.reduceAdd, reduceIte, Nat.reduceLeDiff, splice, w1]
          refine (q_Fits b.n H2).thenW ?_
          rintro _ H2 _ hw2 ⟨rfl, rfl⟩
          cases hF : (decide (-2147483648 ≤ b.n) && decide (b.n ≤ 2147483647)) with
          | false =>
            rw [if_pos] at hg3
            rotate_left
            · simp only [Bool.and_eq_false_iff, decide_eq_false_iff_not] at hF
              rcases hF with h | h
              · exact .inr (.inl (by omega))
              · exact .inr (.inr (by omega))
            simp only [sxA, sxB, Nat.reduceBEq, Nat.reduceEqDiff, reduceCtorEq, mxA, mxB, Nat.reduceAdd, reduceIte, Nat.reduceLeDiff, splice, ret_linotyperef28_Goal]
            exact no H2 hx2 hg3
          | true =>
            simp only [Bool.and_eq_true, decide_eq_true_eq] at hF
            rw [if_neg (by rintro (h | h | h); exact h h1; omega; omega)] at hg3
            simp only [pc_linotyperef28_Goal_2, sxA, sxB, Nat.reduceBEq, Nat.reduceEqDiff, reduceCtorEq, mxA, mxB, Nat.reduceAdd, reduceIte, Nat.reduceLeDiff, splice, i2, t2, hb4, Nat.reduceMul, Nat.add_zero, c0]
            by_cases h4 : c.op = 10
            · have w4 : (c.op == 10) = true := by simpa using h4
              rw [if_pos h4] at hg3
              simp only [sxA, sxB, Nat.reduceBEq, Nat.reduceEqDiff, reduceCtorEq, mxA, mxB, Nat.reduceAdd, reduceIte, Nat.reduceLeDiff, splice, w4, i0, t0, hb4, Nat.zero_mul, Nat.zero_add, Nat.add_zero, List.drop_zero, d0, n5, a1, ndcells_length, ndcells_take]
              refine (hlone H2 hx2).thenW ?_
              rintro _ H3 _ _ ⟨rfl, hx3⟩
              simp only [sxA, sxB, Nat.reduceBEq, Nat.reduceEqDiff, reduceCtorEq, mxA, mxB, Nat.reduceAdd, reduceIte, Nat.reduceLeDiff, splice, ret_linotyperef28_Goal]
              exact yes H3 hx3 s _ hg3
            · have w4 : (c.op == 10) = false := by simpa using h4
              rw [if_neg h4] at hg3
              simp only [pc_linotyperef28_Goal_1, sxA, sxB, Nat.reduceBEq, Nat.reduceEqDiff, reduceCtorEq, mxA, mxB, Nat.reduceAdd, reduceIte, Nat.reduceLeDiff, splice, w4, i2, t2, hb4, Nat.reduceMul, Nat.add_zero, c0]
              by_cases h5 : c.op = 11
              · have w5 : (c.op == 11) = true := by simpa using h5
                by_cases h6 : b.n = -2147483648
                · have w6 : (b.n == -2147483648) = true := by simpa using h6
                  rw [if_neg (by rintro ⟨_, h⟩; omega)] at hg3
                  simp only [sxA, sxB, Nat.reduceBEq, Nat.reduceEqDiff, reduceCtorEq, mxA, mxB, Nat.reduceAdd, reduceIte, Nat.reduceLeDiff, splice, w5, w6, ret_linotyperef28_Goal]
                  exact no H2 hx2 hg3
                · have w6 : (b.n == -2147483648) = false := by simpa using h6
                  rw [if_pos ⟨h5, by omega⟩] at hg3
                  simp only [sxA, sxB, Nat.reduceBEq, Nat.reduceEqDiff, reduceCtorEq, mxA, mxB, Nat.reduceAdd, reduceIte, Nat.reduceLeDiff, splice, w5, w6, i0, t0, hb4, Nat.zero_mul, Nat.zero_add, Nat.add_zero, List.drop_zero, d0, n5, a1, ndcells_length, ndcells_take]
                  refine (hlone H2 hx2).thenW ?_
                  rintro _ H3 _ _ ⟨rfl, hx3⟩
                  simp only [sxA, sxB, Nat.reduceBEq, Nat.reduceEqDiff, reduceCtorEq, mxA, mxB, Nat.reduceAdd, reduceIte, Nat.reduceLeDiff, splice]
                  rw [gen_neg (ik := .i64) (n := b.n) (by simp only [uxA, uxB, Nat.reduceBEq])]
                  rw [w64 (by unfold I64; omega)]
                  simp only [sxA, sxB, Nat.reduceBEq, Nat.reduceEqDiff, reduceCtorEq, mxA, mxB, Nat.reduceAdd, reduceIte, Nat.reduceLeDiff, splice, ret_linotyperef28_Goal]
                  exact yes H3 hx3 s _ hg3
              · have w5 : (c.op == 11) = false := by simpa using h5
                rw [if_neg (by rintro ⟨h, _⟩; exact h5 h)] at hg3
                simp only [sxA, sxB, Nat.reduceBEq, Nat.reduceEqDiff, reduceCtorEq, mxA, mxB, Nat.reduceAdd, reduceIte, Nat.reduceLeDiff, splice, w5, ret_linotyperef28_Goal]
                exact no H2 hx2 hg3
        · have w1 : (b.op == 1) = false := by simpa using h1
          rw [if_pos (.inl h1)] at hg3
          simp only [sxA, sxB, Nat.reduceBEq, Nat.reduceEqDiff, reduceCtorEq, mxA, mxB, Nat.reduceAdd, reduceIte, Nat.reduceLeDiff, splice, w1, ret_linotyperef28_Goal]
          exact no H2 hx2 hg3
      · have hn4 : n = l.length + 4 := hn
        have e1 : ((n : Int) == 1) = false := beq_eq_false_iff_ne.2 (by omega)
        have e3 : ((n : Int) == 3) = false := beq_eq_false_iff_ne.2 (by omega)
        simp only [sxA, sxB, Nat.reduceBEq, Nat.reduceEqDiff, reduceCtorEq, mxA, mxB, Nat.reduceAdd, reduceIte, Nat.reduceLeDiff, splice, e1, e3, ret_linotyperef28_Goal]
        exact no H2 hx2 hg1
  · have e0 : (chkN xs == 0) = false := by simpa using hc
    rw [if_pos hc] at hg1
    simp only [sxA, sxB, Nat.reduceBEq, Nat.reduceEqDiff, reduceCtorEq, mxA, mxB, Nat.reduceAdd, reduceIte, Nat.reduceLeDiff, splice, e0, ret_linotyperef28_Goal]
    exact no H1 hx1 hg1
end Go.Proofs.YtbkbdnlfkahaaaaGreatDoor.code
/- Bytes that do nothing: asm.Nops and the document's, of any number. -/
set_option linter.unusedVariables false
set_option linter.unusedSimpArgs false
set_option maxRecDepth 100000
set_option maxHeartbeats 4000000
namespace Go.Proofs.YtbkbdnlfkahaaaaGreatDoor.code
open Go.Ab

def u8s (l : List Int) : List Value := l.map (Value.int .u8 ·)
theorem u8s_length (l : List Int) : (u8s l).length = l.length := by simp [u8s]
theorem u8s_one (l : List Int) : ((u8s l).all fun v => v.oneCell') = true := by
  unfold u8s
  rw [List.all_map, List.all_eq_true]
  exact fun _ _ => rfl
def nopB (k : Nat) : List Int := if k = 1 then [144] else if k = 2 then [144, 144] else if k = 3 then [15, 31, 0] else if k = 4 then [15, 31, 64, 0] else if k = 5 then [15, 31, 68, 0, 0] else if k = 6 then [102, 15, 31, 68, 0, 0]
  else if k = 7 then [15, 31, 128, 0, 0, 0, 0] else if k = 8 then [15, 31, 132, 0, 0, 0, 0, 0] else [102, 15, 31, 132, 0, 0, 0, 0, 0]
theorem nopB_len {k : Nat} (h1 : 1 ≤ k) (h2 : k ≤ 9) : (nopB k).length = k := by
  obtain rfl | rfl | rfl | rfl | rfl | rfl | rfl | rfl | rfl : k = 1 ∨ k = 2 ∨ k = 3 ∨ k = 4 ∨ k = 5 ∨ k = 6 ∨ k = 7 ∨ k = 8 ∨ k = 9 := by omega
  all_goals rfl
theorem nopB_byte (k : Nat) : ∀ z ∈ nopB k, 0 ≤ z ∧ z < 256 := by
  unfold nopB
  repeat' split
  all_goals (intro z hz; simp at hz; omega)
def NopPost (H : Heap) (k : Nat) : Value → Heap → Prop := fun u H' => ∃ b, u = .slice (some ⟨b, 0, none⟩) k k ∧ Ext H H' ∧ H.next ≤ b ∧ H'.get b = some (.cells (u8s (nopB k)) 5 false)
theorem q_asm_nop (k : Nat) (h1 : 1 ≤ k) (h2 : k ≤ 9) (H : Heap) : CallQ prog f_asm_nop [.int .i64 k] H (NopPost H k) := by
  refine in_asm_nop fun hw => ?_
  have fin : ∀ cs, cs = u8s (nopB k) → Ret H (NopPost H k) (.slice (some ⟨H.next, 0, none⟩) k k) (H.push (.cells cs 5 false)) := fun cs hcs => .mk ((Ext.refl H).push _).next ⟨H.next, rfl, (Ext.refl H).push _, Nat.le_refl _, by rw [Heap.get_push, if_pos rfl, hcs]⟩
  obtain rfl | rfl | rfl | rfl | rfl | rfl | rfl | rfl | rfl : k = 1 ∨ k = 2 ∨ k = 3 ∨ k = 4 ∨ k = 5 ∨ k = 6 ∨ k = 7 ∨ k = 8 ∨ k = 9 := by omega
  all_goals simp only [pc_asm_nop, pc_asm_nop_1, pc_asm_nop_2, pc_asm_nop_3, pc_asm_nop_4, pc_asm_nop_5, pc_asm_nop_6, sxA, sxB, Nat.reduceBEq, Nat.reduceEqDiff, reduceCtorEq, mxA, mxB, Nat.reduceAdd, reduceIte, Nat.reduceLeDiff, splice, simprocAttr, Int.ofNat_one, Int.cast_ofNat_Int, beq_self_eq_true, ret_asm_nop]
  all_goals exact fin _ rfl
theorem q_ref28_nop (k : Nat) (h1 : 1 ≤ k) (h2 : k ≤ 9) (H : Heap) : CallQ prog f_linotyperef28_nop [.int .i64 k] H (NopPost H k) := by
  refine in_linotyperef28_nop fun hw => ?_
  have ek : IntKind.i64.wrap ((k : Int) - 1) = ((k - 1 : Nat) : Int) := by rw [w64 (by unfold I64; omega)]; omega
  have c1 : (0 : Int) ≤ ((k - 1 : Nat) : Int) ∧ ((k - 1 : Nat) : Int) < 9 := by omega
  have c3 : ((k - 1 : Nat) : Int).toNat = k - 1 := by omega
  simp only [pc_linotyperef28_nop, sxA, sxB, Nat.reduceBEq, Nat.reduceEqDiff, reduceCtorEq, mxA, mxB, Nat.reduceAdd, reduceIte, Nat.reduceLeDiff, splice, ek]
  have hxx : Ext H ((((((((((H.push (.cells [.int .u8 144] 5 false)).push (.cells [.int .u8 144, .int .u8 144] 5 false)).push (.cells [.int .u8 15, .int .u8 31, .int .u8 0] 5 false)).push (.cells [.int .u8 15, .int .u8 31, .int .u8 64, .int .u8 0] 5 false)).push (.cells [.int .u8 15, .int .u8 31, .int .u8 68, .int .u8 0, .int .u8 0] 5 false)).push (.cells [.int .u8 102, .int .u8 15, .int .u8 31, .int .u8 68, .int .u8 0, .int .u8 0] 5 false)).push (.cells [.int .u8 15, .int .u8 31, .int .u8 128, .int .u8 0, .int .u8 0, .int .u8 0, .int .u8 0] 5 false)).push (.cells [.int .u8 15, .int .u8 31, .int .u8 132, .int .u8 0, .int .u8 0, .int .u8 0, .int .u8 0, .int .u8 0] 5 false)).push (.cells [.int .u8 102, .int .u8 15, .int .u8 31, .int .u8 132, .int .u8 0, .int .u8 0, .int .u8 0, .int .u8 0, .int .u8 0] 5 false))) :=
    (((((((((Ext.refl H).push _).push _).push _).push _).push _).push _).push _).push _).push _
  obtain rfl | rfl | rfl | rfl | rfl | rfl | rfl | rfl | rfl : k = 1 ∨ k = 2 ∨ k = 3 ∨ k = 4 ∨ k = 5 ∨ k = 6 ∨ k = 7 ∨ k = 8 ∨ k = 9 := by omega
  all_goals refine ⟨by decide, _, rfl, ?_⟩
  all_goals simp only [sxA, sxB, Nat.reduceBEq, Nat.reduceEqDiff, reduceCtorEq, mxA, mxB, Nat.reduceAdd, reduceIte, Nat.reduceLeDiff, splice, ret_linotyperef28_nop]
  all_goals refine .mk (hxx.push _).next ⟨_, rfl, hxx.push _, by omega, ?_⟩
  all_goals simp only [Heap.get_push, Heap.next_push]
  all_goals (repeat rw [if_neg (by omega)])
  all_goals first
    | rfl
    | (rw [if_pos trivial]; rfl)
def RowB (H0 H : Heap) (v : Value) (l : List Int) : Prop := (v = .slice none 0 0 ∧ l = []) ∨ ∃ b, v = .slice (some ⟨b, 0, none⟩) l.length (UNK + 1) ∧ H0.next ≤ b ∧ H.get b = some (.cells (u8s l) 5 false)
theorem RowB.ext {H0 H H' : Heap} {v : Value} {l : List Int} (h : RowB H0 H v l) (hw : H.Wf) (hx : Ext H H') : RowB H0 H' v l := by
  rcases h with h | ⟨b, h1, h2, h3⟩
  · exact .inl h
  · exact .inr ⟨b, h1, h2, by rw [hx.get _ (hw.lt h3)]; exact h3⟩
theorem RowB.low {H0 H1 H : Heap} {v : Value} {l : List Int} (h : RowB H1 H v l) (hle : H0.next ≤ H1.next) : RowB H0 H v l := by
  rcases h with h | ⟨b, h1, h2, h3⟩
  · exact .inl h
  · exact .inr ⟨b, h1, Nat.le_trans hle h2, h3⟩
theorem row_app {H0 H : Heap} {v : Value} {l m : List Int} {p n : Nat} {k : Value → Heap → Prop} (hs : RowB H0 H v l) (hx : Ext H0 H) (hw : H.Wf) (hp : H.get p = some (.cells (u8s m) 5 false)) (hm : m.length = n) (h0 : 1 ≤ n) (hl : l.length + n ≤ 1000000)
    (h : ∀ v' H', RowB H0 H' v' (l ++ m) → Ext H0 H' → H'.Wf → k v' H') : appK 5 1 1 v (.slice (some ⟨p, 0, none⟩) n n) H k := by
  have hn := hx.next
  have ha : asrc 1 (.slice (some ⟨p, 0, none⟩) n n) H = some (n, u8s m) := by
    rw [asrc_sl hp (by omega) (by rw [u8s_length]; omega), List.drop_zero, Nat.mul_one, List.take_of_length_le (by rw [u8s_length]; omega)]
  rcases hs with ⟨rfl, rfl⟩ | ⟨b, rfl, h2, h3⟩
  · refine appK_nil ha (u8s_one m) (by omega) (by omega) (by omega) (h _ _ (.inr ⟨H.next, by rw [List.nil_append, hm], hn, by rw [Heap.get_push, if_pos rfl, List.nil_append]⟩) (hx.push _) (hw.push _))
  · have hb := hw.lt h3
    refine appK_own rfl ha (u8s_one m) (by omega) h3 (by rw [u8s_length]; omega) (by omega) (by omega) (by omega) (h _ _ (.inr ⟨H.next, by rw [List.length_append, hm], hn, ?_⟩) ⟨by simp only [Heap.next_push, Heap.next_kill]; omega, fun id hid => ?_⟩ ((hw.kill _).push _))
    · rw [Heap.get_push, Heap.next_kill, if_pos rfl, List.drop_zero]
      simp [u8s]
    · rw [Heap.get_push, Heap.next_kill, if_neg (by omega), Heap.get_kill, if_neg (by omega)]
      exact hx.get id hid
def goN (m : Nat) : List Int := if 9 < m then nopB 9 ++ goN (m - 9) else nopB m
termination_by m
def nopsF (n : Int) : List Int := if n < 1 ∨ 4095 < n then [] else goN n.toNat
theorem goN_more {m : Nat} (h : 9 < m) : goN m = nopB 9 ++ goN (m - 9) := by rw [goN, if_pos h]
theorem goN_last {m : Nat} (h : ¬ 9 < m) : goN m = nopB m := by rw [goN, if_neg h]
theorem q_asm_Nops (n : Int) (H : Heap) : CallQ prog f_asm_Nops [.int .i64 n] H fun u H' => RowB H H' u (nopsF n) ∧ Ext H H' := by
  refine in_asm_Nops fun hw => ?_
  simp only [pc_asm_Nops, sxA, sxB, Nat.reduceBEq, Nat.reduceEqDiff, reduceCtorEq, mxA, mxB, Nat.reduceAdd, reduceIte, Nat.reduceLeDiff, splice]
  have e : nopsF n = if n < 1 ∨ 4095 < n then [] else goN n.toNat := rfl
  by_cases h1 : n < 1
  · simp only [sxA, sxB, Nat.reduceBEq, Nat.reduceEqDiff, reduceCtorEq, mxA, mxB, Nat.reduceAdd, reduceIte, Nat.reduceLeDiff, splice, decide_eq_true h1, ret_asm_Nops]
    exact .mk (Nat.le_refl _) ⟨.inl ⟨rfl, by rw [e, if_pos (.inl h1)]⟩, .refl _⟩
  by_cases h2 : 4095 < n
  · simp only [sxA, sxB, Nat.reduceBEq, Nat.reduceEqDiff, reduceCtorEq, mxA, mxB, Nat.reduceAdd, reduceIte, Nat.reduceLeDiff, splice, decide_eq_false h1, decide_eq_true h2, ret_asm_Nops]
    exact .mk (Nat.le_refl _) ⟨.inl ⟨rfl, by rw [e, if_pos (.inr h2)]⟩, .refl _⟩
  rw [if_neg (by omega)] at e
  obtain ⟨N, rfl⟩ : ∃ N : Nat, n = N := ⟨n.toNat, by omega⟩
  rw [Int.toNat_natCast] at e
  rw [e]
  have hN : N ≤ 4095 := by omega
  simp only [sxA, sxB, Nat.reduceBEq, Nat.reduceEqDiff, reduceCtorEq, mxA, mxB, Nat.reduceAdd, reduceIte, Nat.reduceLeDiff, splice, decide_eq_false h1, decide_eq_false h2]
  refine loop_intro (fun m A' H' => ∃ (l : List Int) (sv : Value), 1 ≤ m ∧ m ≤ N ∧ H'.Wf ∧ Ext H H' ∧ RowB H H' sv l ∧ l.length + m = N ∧ goN N = l ++ goN m ∧ A' 0 = .int .i64 m ∧ A' 3 = sv) N ?_ ?_
  · refine ⟨[], .slice none 0 0, by omega, Nat.le_refl _, hw, .refl _, .inl ⟨rfl, rfl⟩, by simp, by simp, ?_, ?_⟩
    all_goals simp only [uxA, uxB, Nat.reduceBEq]
  · rintro m A' H3 ⟨l, sv, hm1, hmN, hw3, hx3, hrow, hlen, hgo, r0, r3⟩
    simp only [sxA, sxB, Nat.reduceBEq, Nat.reduceEqDiff, reduceCtorEq, mxA, mxB, Nat.reduceAdd, reduceIte, Nat.reduceLeDiff, splice, r0]
    by_cases h9 : 9 < m
    · have e9 : decide ((9 : Int) < m) = true := decide_eq_true (by omega)
      have em : IntKind.i64.wrap ((m : Int) - 9) = ((m - 9 : Nat) : Int) := by rw [w64 (by unfold I64; omega)]; omega
      simp only [sxA, sxB, Nat.reduceBEq, Nat.reduceEqDiff, reduceCtorEq, mxA, mxB, Nat.reduceAdd, reduceIte, Nat.reduceLeDiff, splice, e9, r3]
      refine (q_asm_nop 9 (by decide) (by decide) H3).thenW ?_
      rintro _ H4 hn4 hw4 ⟨b, rfl, hx4, hb4, hg4⟩
      simp only [sxA, sxB, Nat.reduceBEq, Nat.reduceEqDiff, reduceCtorEq, mxA, mxB, Nat.reduceAdd, reduceIte, Nat.reduceLeDiff, splice]
      refine row_app (hrow.ext hw3 hx4) (hx3.trans hx4) hw4 hg4 rfl (by decide) (by omega) fun v' H' hs' hx' hw' => ?_
      simp only [sxA, sxB, Nat.reduceBEq, Nat.reduceEqDiff, reduceCtorEq, mxA, mxB, Nat.reduceAdd, reduceIte, Nat.reduceLeDiff, splice, r0, em]
      refine ⟨m - 9, by omega, l ++ nopB 9, v', by omega, by omega, hw', hx', hs', by rw [List.length_append]; show l.length + 9 + (m - 9) = N; omega, by rw [hgo, goN_more h9, List.append_assoc], ?_, ?_⟩
      all_goals simp only [uxA, uxB, Nat.reduceBEq]
    · have e9 : decide ((9 : Int) < m) = false := decide_eq_false (by omega)
      simp only [sxA, sxB, Nat.reduceBEq, Nat.reduceEqDiff, reduceCtorEq, mxA, mxB, Nat.reduceAdd, reduceIte, Nat.reduceLeDiff, splice, e9, r0, r3]
      refine (q_asm_nop m hm1 (by omega) H3).thenW ?_
      rintro _ H4 hn4 hw4 ⟨b, rfl, hx4, hb4, hg4⟩
      simp only [sxA, sxB, Nat.reduceBEq, Nat.reduceEqDiff, reduceCtorEq, mxA, mxB, Nat.reduceAdd, reduceIte, Nat.reduceLeDiff, splice]
      refine row_app (hrow.ext hw3 hx4) (hx3.trans hx4) hw4 hg4 (nopB_len hm1 (by omega)) hm1 (by omega) fun v' H' hs' hx' hw' => ?_
      simp only [sxA, sxB, Nat.reduceBEq, Nat.reduceEqDiff, reduceCtorEq, mxA, mxB, Nat.reduceAdd, reduceIte, Nat.reduceLeDiff, splice, ret_asm_Nops]
      exact .mk hx'.next ⟨by rw [hgo, goN_last h9]; exact hs', hx'⟩
theorem q_ref28_Nops (n : Int) (H : Heap) : CallQ prog f_linotyperef28_Nops [.int .i64 n] H fun u H' => RowB H H' u (nopsF n) ∧ Ext H H' := by
  refine in_linotyperef28_Nops fun hw => ?_
  simp only [pc_linotyperef28_Nops, sxA, sxB, Nat.reduceBEq, Nat.reduceEqDiff, reduceCtorEq, mxA, mxB, Nat.reduceAdd, reduceIte, Nat.reduceLeDiff, splice]
  have e : nopsF n = if n < 1 ∨ 4095 < n then [] else goN n.toNat := rfl
  by_cases h1 : n < 1
  · simp only [sxA, sxB, Nat.reduceBEq, Nat.reduceEqDiff, reduceCtorEq, mxA, mxB, Nat.reduceAdd, reduceIte, Nat.reduceLeDiff, splice, decide_eq_true h1, ret_linotyperef28_Nops]
    exact .mk (Nat.le_refl _) ⟨.inl ⟨rfl, by rw [e, if_pos (.inl h1)]⟩, .refl _⟩
  by_cases h2 : 4095 < n
  · simp only [sxA, sxB, Nat.reduceBEq, Nat.reduceEqDiff, reduceCtorEq, mxA, mxB, Nat.reduceAdd, reduceIte, Nat.reduceLeDiff, splice, decide_eq_false h1, decide_eq_true h2, ret_linotyperef28_Nops]
    exact .mk (Nat.le_refl _) ⟨.inl ⟨rfl, by rw [e, if_pos (.inr h2)]⟩, .refl _⟩
  rw [if_neg (by omega)] at e
  obtain ⟨N, rfl⟩ : ∃ N : Nat, n = N := ⟨n.toNat, by omega⟩
  rw [Int.toNat_natCast] at e
  rw [e]
  have hN : N ≤ 4095 := by omega
  simp only [sxA, sxB, Nat.reduceBEq, Nat.reduceEqDiff, reduceCtorEq, mxA, mxB, Nat.reduceAdd, reduceIte, Nat.reduceLeDiff, splice, decide_eq_false h1, decide_eq_false h2]
  refine loop_intro (fun m A' H' => ∃ (l : List Int) (sv : Value), 1 ≤ m ∧ m ≤ N ∧ H'.Wf ∧ Ext H H' ∧ RowB H H' sv l ∧ l.length + m = N ∧ goN N = l ++ goN m ∧ A' 0 = .int .i64 m ∧ A' 3 = sv) N ?_ ?_
  · refine ⟨[], .slice none 0 0, by omega, Nat.le_refl _, hw, .refl _, .inl ⟨rfl, rfl⟩, by simp, by simp, ?_, ?_⟩
    all_goals simp only [uxA, uxB, Nat.reduceBEq]
  · rintro m A' H3 ⟨l, sv, hm1, hmN, hw3, hx3, hrow, hlen, hgo, r0, r3⟩
    simp only [sxA, sxB, Nat.reduceBEq, Nat.reduceEqDiff, reduceCtorEq, mxA, mxB, Nat.reduceAdd, reduceIte, Nat.reduceLeDiff, splice, r0]
    by_cases h9 : 9 < m
    · have e9 : decide ((9 : Int) < m) = true := decide_eq_true (by omega)
      have em : IntKind.i64.wrap ((m : Int) - 9) = ((m - 9 : Nat) : Int) := by rw [w64 (by unfold I64; omega)]; omega
      simp only [sxA, sxB, Nat.reduceBEq, Nat.reduceEqDiff, reduceCtorEq, mxA, mxB, Nat.reduceAdd, reduceIte, Nat.reduceLeDiff, splice, e9, r3]
      refine (q_ref28_nop 9 (by decide) (by decide) H3).thenW ?_
      rintro _ H4 hn4 hw4 ⟨b, rfl, hx4, hb4, hg4⟩
      simp only [sxA, sxB, Nat.reduceBEq, Nat.reduceEqDiff, reduceCtorEq, mxA, mxB, Nat.reduceAdd, reduceIte, Nat.reduceLeDiff, splice]
      refine row_app (hrow.ext hw3 hx4) (hx3.trans hx4) hw4 hg4 rfl (by decide) (by omega) fun v' H' hs' hx' hw' => ?_
      simp only [sxA, sxB, Nat.reduceBEq, Nat.reduceEqDiff, reduceCtorEq, mxA, mxB, Nat.reduceAdd, reduceIte, Nat.reduceLeDiff, splice, r0, em]
      refine ⟨m - 9, by omega, l ++ nopB 9, v', by omega, by omega, hw', hx', hs', by rw [List.length_append]; show l.length + 9 + (m - 9) = N; omega, by rw [hgo, goN_more h9, List.append_assoc], ?_, ?_⟩
      all_goals simp only [uxA, uxB, Nat.reduceBEq]
    · have e9 : decide ((9 : Int) < m) = false := decide_eq_false (by omega)
      simp only [sxA, sxB, Nat.reduceBEq, Nat.reduceEqDiff, reduceCtorEq, mxA, mxB, Nat.reduceAdd, reduceIte, Nat.reduceLeDiff, splice, e9, r0, r3]
      refine (q_ref28_nop m hm1 (by omega) H3).thenW ?_
      rintro _ H4 hn4 hw4 ⟨b, rfl, hx4, hb4, hg4⟩
      simp only [sxA, sxB, Nat.reduceBEq, Nat.reduceEqDiff, reduceCtorEq, mxA, mxB, Nat.reduceAdd, reduceIte, Nat.reduceLeDiff, splice]
      refine row_app (hrow.ext hw3 hx4) (hx3.trans hx4) hw4 hg4 (nopB_len hm1 (by omega)) hm1 (by omega) fun v' H' hs' hx' hw' => ?_
      simp only [sxA, sxB, Nat.reduceBEq, Nat.reduceEqDiff, reduceCtorEq, mxA, mxB, Nat.reduceAdd, reduceIte, Nat.reduceLeDiff, splice, ret_linotyperef28_Nops]
      exact .mk hx'.next ⟨by rw [hgo, goN_last h9]; exact hs', hx'⟩
end Go.Proofs.YtbkbdnlfkahaaaaGreatDoor.code
