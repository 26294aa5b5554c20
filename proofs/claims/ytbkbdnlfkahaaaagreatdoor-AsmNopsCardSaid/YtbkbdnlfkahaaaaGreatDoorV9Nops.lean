/- What came in, made plain. -/
import Derived.Test.YtbkbdnlfkahaaaaGreatDoorLibA
import Derived.Test.YtbkbdnlfkahaaaaGreatDoorAbH
import Derived.Test.YtbkbdnlfkahaaaaGreatDoorS1Laid
import Derived.ProofKit
import Derived.OpenShut
import Derived.ChangeOld
import Derived.Deep.Slices
import Derived.Test.YtbkbdnlfkahaaaaGreatDoorLibW
import Derived.Test.YtbkbdnlfkahaaaaGreatDoorC8Nops
import Derived.Test.YtbkbdnlfkahaaaaGreatDoorV4Known
import Derived.Test.YtbkbdnlfkahaaaaGreatDoorNopA
import Derived.Test.YtbkbdnlfkahaaaaGreatDoorNopB
import Derived.Test.YtbkbdnlfkahaaaaGreatDoorNopC
import Derived.Test.YtbkbdnlfkahaaaaGreatDoorNopD
import Derived.Test.YtbkbdnlfkahaaaaGreatDoorNopE
import Derived.Test.YtbkbdnlfkahaaaaGreatDoorNopF
import Derived.Test.YtbkbdnlfkahaaaaGreatDoorNopG
import Derived.Test.YtbkbdnlfkahaaaaGreatDoorNopH
import Derived.Test.YtbkbdnlfkahaaaaGreatDoorNopI
import Derived.Test.YtbkbdnlfkahaaaaGreatDoorNopJ
import Derived.Test.YtbkbdnlfkahaaaaGreatDoorNopK
import Derived.Test.YtbkbdnlfkahaaaaGreatDoorNopL
import Derived.Test.YtbkbdnlfkahaaaaGreatDoorNopM
import Derived.Test.YtbkbdnlfkahaaaaGreatDoorNopN
import Derived.Test.YtbkbdnlfkahaaaaGreatDoorNopO
import Derived.Test.YtbkbdnlfkahaaaaGreatDoorNopP
import Derived.Test.YtbkbdnlfkahaaaaGreatDoorNopQ
import Derived.Test.YtbkbdnlfkahaaaaGreatDoorNopR
set_option linter.unusedVariables false
set_option linter.unusedSimpArgs false
set_option maxRecDepth 100000
namespace Go.Proofs.YtbkbdnlfkahaaaaGreatDoor.code
open Go.Ab Go.ChangeShapes Go.WideShapes Go.ChangeAt Go.RowKit

theorem i64_of_wf {z : Int} (h : (Lit.int .i64 z).wf = true) : I64 z := by
  have := bounds_i64 h
  unfold I64; omega
theorem u8_of_wf {z : Int} (h : (Lit.int .u8 z).wf = true) : 0 ≤ z ∧ z < 256 := by
  have := bounds_u8 h
  omega
theorem tabs_ro : AllRo (tabHeap prog.globals.size tab.tabs) := fun id b h => by
  obtain ⟨t, _, _, rfl⟩ := tabHeap_get h
  rfl
end Go.Proofs.YtbkbdnlfkahaaaaGreatDoor.code
/- linotypelaw28.AsmNops, by what decode.Decode tells of bytes that do nothing. -/
set_option linter.unusedVariables false
set_option linter.unusedSimpArgs false
set_option maxRecDepth 100000
set_option maxHeartbeats 4000000
namespace Go.Proofs.YtbkbdnlfkahaaaaGreatDoor.code
open Go.Ab

def RestAt (H : Heap) (v : Value) (m : Nat) : Prop := (m = 0 ∧ ∃ a cap, v = .slice a 0 cap) ∨ (0 < m ∧ ∃ b o e ro c, v = .slice (some ⟨b, o, none⟩) m (UNK + 1) ∧ H.get b = some (.cells c e ro) ∧ ∀ i, i < m → c[o + i]? = some (.int .u8 ((goN m).getD i 0)))
theorem RestAt.ext {H H' : Heap} {v : Value} {m : Nat} (h : RestAt H v m) (hw : H.Wf) (hx : Ext H H') : RestAt H' v m := by
  rcases h with h | ⟨h0, b, o, e, ro, c, h1, h2, h3⟩
  · exact .inl h
  · exact .inr ⟨h0, b, o, e, ro, c, h1, by rw [hx.get _ (hw.lt h2)]; exact h2, h3⟩
theorem RestAt.len {H : Heap} {v : Value} {m : Nat} (h : RestAt H v m) : ∃ a cap, v = .slice a m cap := by
  rcases h with ⟨rfl, a, cap, rfl⟩ | ⟨h0, b, o, e, ro, c, rfl, h2, h3⟩
  · exact ⟨_, _, rfl⟩
  · exact ⟨_, _, rfl⟩
theorem RestAt.bs {H : Heap} {v : Value} {m : Nat} (h : RestAt H v m) (h0 : 0 < m) : BsAt H v (goN m) := by
  rcases h with ⟨rfl, a, cap, rfl⟩ | ⟨h0, b, o, e, ro, c, rfl, h2, h3⟩
  · omega
  · have hl := goN_pos (m := m) (by omega)
    refine ⟨some ⟨b, o, none⟩, UNK + 1, by rw [hl], fun _ => ⟨b, o, c, e, ro, rfl, h2, fun i hi => h3 i (by omega)⟩⟩
def nxN (m : Nat) : Nat := m - kF m
theorem kF_ok {m : Nat} (h : 0 < m) : 1 ≤ kF m ∧ kF m ≤ 9 ∧ kF m ≤ m := by
  unfold kF
  split
  · omega
  · split <;> omega
theorem goN_drop {m : Nat} (h : 0 < m) (i : Nat) (hi : i < nxN m) : (goN m).getD (kF m + i) 0 = (goN (nxN m)).getD i 0 := by
  unfold nxN kF at *
  by_cases h9 : 9 < m
  · rw [if_pos h9] at hi ⊢
    rw [goN_more h9, List.getD_eq_getElem?_getD, List.getElem?_append_right (by rw [nopB_len (by decide) (by decide)]; omega), nopB_len (by decide) (by decide), List.getD_eq_getElem?_getD, Nat.add_sub_cancel_left]
  · rw [if_neg h9] at hi ⊢
    by_cases h2 : m = 2
    · subst h2
      have : i = 0 := by simp at hi; omega
      subst this
      rw [if_pos rfl, goN_last (by decide), goN_last (by decide)]; rfl
    · rw [if_neg h2] at hi; omega
theorem rest_cut {H : Heap} {v : Value} {m : Nat} (h : RestAt H v m) (h0 : 0 < m) : ∃ v', asliceS 1 v (some (kF m : Int)) none none = some v' ∧ RestAt H v' (nxN m) := by
  obtain ⟨k1, k9, km⟩ := kF_ok h0
  rcases h with ⟨rfl, _⟩ | ⟨_, b, o, e, ro, c, rfl, h2, h3⟩
  · omega
  · refine ⟨.slice (some ⟨b, o + kF m, none⟩) (nxN m) (UNK + 1), ?_, ?_⟩
    · unfold asliceS
      simp only [Option.getD_some, Option.getD_none]
      rw [if_pos (by omega), if_pos ⟨by omega, by omega, by omega, trivial⟩]
      simp [nxN]
    · rcases Nat.eq_zero_or_pos (nxN m) with hz | hz
      · exact .inl ⟨hz, _, _, by rw [hz]⟩
      · refine .inr ⟨hz, b, o + kF m, e, ro, c, rfl, h2, fun i hi => ?_⟩
        rw [Nat.add_assoc, h3 (kF m + i) (by unfold nxN at hi; omega), goN_drop h0 i hi]
def manyB (m : Nat) : Nat := if m = 0 then 0 else if m = 1 then 1 else m / 9 + 2
theorem manyB_step {m : Nat} (h : 0 < m) : manyB (nxN m) + 1 ≤ manyB m := by
  unfold nxN kF manyB
  by_cases h9 : 9 < m
  · rw [if_pos h9, if_neg (by omega), if_neg (show ¬ m = 0 by omega), if_neg (show ¬ m = 1 by omega)]
    split <;> omega
  · rw [if_neg h9]
    by_cases h2 : m = 2
    · subst h2; decide
    · rw [if_neg h2, Nat.sub_self, if_pos rfl, if_neg (by omega)]
      split <;> omega
theorem q_nops {T : Heap → Prop} (hT : ∀ H H', H.Wf → T H → Ext H H' → T H') (hD : ∀ m, 1 ≤ m → m ≤ 300 → NopDec T 50 m) (v : Value) (m0 : Nat) (hm0 : m0 ≤ 300) (H : Heap) (hTH : T H) (hr : RestAt H v m0) : CallQ prog f_linotypelaw28_nops [v] H fun u H' => u = .bool true ∧ Ext H H' := by
  refine in_linotypelaw28_nops fun hw => ?_
  simp only [pc_linotypelaw28_nops, sxA, sxB, Nat.reduceBEq, Nat.reduceEqDiff, reduceCtorEq, mxA, mxB, Nat.reduceAdd, reduceIte, Nat.reduceLeDiff, splice]
  refine loop_intro (fun m A' H' => m ≤ 300 ∧ H'.Wf ∧ Ext H H' ∧ RestAt H' (A' 0) m) m0 ⟨hm0, hw, .refl _, by simp only [uxA, uxB, Nat.reduceBEq]; exact hr⟩ ?_
  rintro m A' H1 ⟨hm, hw1, hx1, hr1⟩
  generalize hv : A' 0 = v1 at hr1
  obtain ⟨a, cap, hvs⟩ := hr1.len
  rcases Nat.eq_zero_or_pos m with h0 | h0
  · subst h0
    have e0 : decide ((0 : Int) < ((0 : Nat) : Int)) = false := rfl
    rw [hvs] at hv
    simp only [pc_linotypelaw28_nops_2, sxA, sxB, Nat.reduceBEq, Nat.reduceEqDiff, reduceCtorEq, mxA, mxB, Nat.reduceAdd, reduceIte, Nat.reduceLeDiff, splice, hv, Zdi, e0, ret_linotypelaw28_nops]
    exact .mk hx1.next ⟨rfl, hx1⟩
  · obtain ⟨k1, k9, km⟩ := kF_ok h0
    have e0 : decide ((0 : Int) < (m : Int)) = true := decide_eq_true (by omega)
    obtain ⟨v2, hcut, hr2⟩ := rest_cut hr1 h0
    have hbs := hr1.bs h0
    rw [hvs] at hv hbs hcut
    simp only [pc_linotypelaw28_nops_2, pc_linotypelaw28_nops_1, sxA, sxB, Nat.reduceBEq, Nat.reduceEqDiff, reduceCtorEq, mxA, mxB, Nat.reduceAdd, reduceIte, Nat.reduceLeDiff, splice, hv, Zdi, e0]
    refine (hD m (by omega) hm _ H1 (hT _ _ hw hTH hx1) hbs).thenW ?_
    rintro _ H2 _ hw2 ⟨s, hs, rfl, hx2⟩
    have f1 : ((0 : Int) == 0) = true := rfl
    have f2 : decide ((kF m : Int) < 1) = false := decide_eq_false (by omega)
    have f3 : decide ((m : Int) < (kF m : Int)) = false := decide_eq_false (by omega)
    have f4 : ((50 : Int) == 50) = true := rfl
    simp only [instV, sxA, sxB, Nat.reduceBEq, Nat.reduceEqDiff, reduceCtorEq, mxA, mxB, Nat.reduceAdd, reduceIte, Nat.reduceLeDiff, splice, hv, hs, Zdi, f1, f2, f3, f4]
    simp only [sxA, sxB, Nat.reduceBEq, Nat.reduceEqDiff, reduceCtorEq, mxA, mxB, Nat.reduceAdd, reduceIte, Nat.reduceLeDiff, splice, hv, hs, Zdi, f1, f2, f3, f4, hcut]
    refine ⟨nxN m, by unfold nxN; omega, by unfold nxN; omega, (hw2.push _).set (i := H2.next) (by rw [Heap.get_push, if_pos rfl]) _, ?_, ?_⟩
    · exact ((hx1.trans hx2).push _).set (by have := (hx1.trans hx2).next; omega) _
    · simp only [uxA, uxB, Nat.reduceBEq]
      exact (hr2.ext hw1 hx2).ext hw2 (((Ext.refl H2).push _).set (Nat.le_refl _) _)
theorem rest_row {H0 H : Heap} {v : Value} {m : Nat} (h : RowB H0 H v (nopsF m)) (hm : m ≤ 300) : RestAt H v m := by
  have e : nopsF (m : Int) = if (m : Int) < 1 ∨ 4095 < (m : Int) then [] else goN (m : Int).toNat := rfl
  rcases Nat.eq_zero_or_pos m with h0 | h0
  · subst h0
    rw [if_pos (.inl (by decide))] at e
    rw [e] at h
    rcases h with ⟨rfl, _⟩ | ⟨b, rfl, _, _⟩
    · exact .inl ⟨rfl, _, _, rfl⟩
    · exact .inl ⟨rfl, _, _, rfl⟩
  · rw [if_neg (by omega), Int.toNat_natCast] at e
    rw [e] at h
    have hl := goN_pos (m := m) (by omega)
    rcases h with ⟨rfl, hnil⟩ | ⟨b, rfl, _, hg⟩
    · rw [hnil] at hl; simp at hl; omega
    · refine .inr ⟨h0, b, 0, 5, false, _, by rw [hl], hg, fun i hi => ?_⟩
      rw [Nat.zero_add]
      simp [u8s, List.getElem?_eq_getElem (show i < (goN m).length by omega), List.getD]
theorem manyB_le (m : Nat) : manyB m ≤ m / 9 + 2 := by
  unfold manyB
  split
  · omega
  · split <;> omega
theorem q_AsmNops {T : Heap → Prop} (hT : ∀ H H', H.Wf → T H → Ext H H' → T H') (hAw : ∀ H, T H → CallQ prog f_linotypelaw28_awake [] H fun u H' => u = .bool true ∧ H' = H) (hD : ∀ m, 1 ≤ m → m ≤ 300 → NopDec T 50 m) (n : Int) (hn : I64 n) (H : Heap) (hTH : T H) :
    CallQ prog f_linotypelaw28_AsmNops [.int .i64 n] H fun u H' => u = .bool true ∧ True := by
  refine in_linotypelaw28_AsmNops fun hw => ?_
  simp only [pc_linotypelaw28_AsmNops, sxA, sxB, Nat.reduceBEq, Nat.reduceEqDiff, reduceCtorEq, mxA, mxB, Nat.reduceAdd, reduceIte, Nat.reduceLeDiff, splice]
  refine (hAw H hTH).thenW ?_
  rintro _ H1 _ hw1 ⟨rfl, rfl⟩
  simp only [sxA, sxB, Nat.reduceBEq, Nat.reduceEqDiff, reduceCtorEq, mxA, mxB, Nat.reduceAdd, reduceIte, Nat.reduceLeDiff, splice]
  refine (q_linotypekit_Pick n 301 hn ⟨by decide, by decide⟩ H1).thenW ?_
  rintro _ H2 _ hw2 ⟨rfl, rfl⟩
  obtain ⟨N, hN, hN3⟩ : ∃ N : Nat, n % 301 = (N : Int) ∧ N ≤ 300 := ⟨(n % 301).toNat, by omega, by omega⟩
  rw [hN]
  simp only [sxA, sxB, Nat.reduceBEq, Nat.reduceEqDiff, reduceCtorEq, mxA, mxB, Nat.reduceAdd, reduceIte, Nat.reduceLeDiff, splice]
  refine (q_asm_Nops N H2).thenW ?_
  rintro bv H3 _ hw3 ⟨hrow, hx3⟩
  have hr0 := rest_row hrow hN3
  obtain ⟨a0, cap0, hbv⟩ := hr0.len
  have hn3 := hx3.next
  simp only [sxA, sxB, Nat.reduceBEq, Nat.reduceEqDiff, reduceCtorEq, mxA, mxB, Nat.reduceAdd, reduceIte, Nat.reduceLeDiff, splice]
  refine loop_intro (fun m A' H' => m ≤ 300 ∧ H'.Wf ∧ Ext H3 H' ∧ RestAt H' (A' 6) m ∧ A' 0 = .int .i64 N ∧ A' 3 = .bool true ∧ A' 4 = bv ∧ ∃ k : Nat, A' 5 = .int .i64 k ∧ k + manyB m ≤ manyB N) N ⟨hN3, hw3, .refl _, ?_, ?_, ?_, ?_, 0, ?_, by omega⟩ ?_
  · simp only [uxA, uxB, Nat.reduceBEq]; exact hr0
  · simp only [uxA, uxB, Nat.reduceBEq]
  · simp only [uxA, uxB, Nat.reduceBEq]
  · simp only [uxA, uxB, Nat.reduceBEq]
  · simp only [uxA, uxB, Nat.reduceBEq]; rfl
  rintro m A' H4 ⟨hm, hw4, hx4, hr4, r0, r3, r4, k, r5, hk⟩
  have hB := manyB_le N
  generalize hv : A' 6 = v1 at hr4
  obtain ⟨a, cap, hvs⟩ := hr4.len
  rcases Nat.eq_zero_or_pos m with h0 | h0
  · subst h0
    have e0 : decide ((0 : Int) < ((0 : Nat) : Int)) = false := rfl
    have eN : ((N : Int) == (N : Int)) = true := by simp
    rw [hvs] at hv
    simp only [pc_linotypelaw28_AsmNops_3, pc_linotypelaw28_AsmNops_1, sxA, sxB, Nat.reduceBEq, Nat.reduceEqDiff, reduceCtorEq, mxA, mxB, Nat.reduceAdd, reduceIte, Nat.reduceLeDiff, splice, hv, Zdi, e0, r0, r3, r4, r5, hbv, eN]
    refine (q_nops hT hD (.slice a0 N cap0) N hN3 H4 (hT _ _ hw2 hTH (hx3.trans hx4)) (by rw [← hbv]; exact hr0.ext hw3 hx4)).thenW ?_
    rintro _ H5 _ hw5 ⟨rfl, hx5⟩
    have hn5 := hx5.next
    have hn4 := hx4.next
    have z9 : ¬ ((9 : Int) = 0) := by decide
    have q1 : IntKind.i64.wrap ((N : Int).tdiv 9) = ((N / 9 : Nat) : Int) := by
      rw [show (N : Int).tdiv 9 = ((N / 9 : Nat) : Int) from rfl, w64 (by unfold I64; omega)]
    have q2 : IntKind.i64.wrap (((N / 9 : Nat) : Int) + 2) = ((N / 9 + 2 : Nat) : Int) := by rw [w64 (by unfold I64; omega)]; omega
    have q3 : decide ((k : Int) ≤ ((N / 9 + 2 : Nat) : Int)) = true := decide_eq_true (by omega)
    simp only [sxA, sxB, Nat.reduceBEq, Nat.reduceEqDiff, reduceCtorEq, mxA, mxB, Nat.reduceAdd, reduceIte, Nat.reduceLeDiff, splice, r0, r5, z9, q1, q2, q3, ret_linotypelaw28_AsmNops]
    first | exact .mk (by omega) rfl | exact .mk (by omega) ⟨rfl, trivial⟩
  · obtain ⟨k1, k9, km⟩ := kF_ok h0
    have e0 : decide ((0 : Int) < (m : Int)) = true := decide_eq_true (by omega)
    obtain ⟨v2, hcut, hr2⟩ := rest_cut hr4 h0
    have hbs := hr4.bs h0
    have hst := manyB_step h0
    rw [hvs] at hv hbs hcut
    simp only [pc_linotypelaw28_AsmNops_3, pc_linotypelaw28_AsmNops_2, sxA, sxB, Nat.reduceBEq, Nat.reduceEqDiff, reduceCtorEq, mxA, mxB, Nat.reduceAdd, reduceIte, Nat.reduceLeDiff, splice, hv, Zdi, e0]
    refine (hD m (by omega) hm _ H4 (hT _ _ hw2 hTH (hx3.trans hx4)) hbs).thenW ?_
    rintro _ H5 _ hw5 ⟨s, hs, rfl, hx5⟩
    have f1 : ((0 : Int) == 0) = true := rfl
    have f2 : decide ((kF m : Int) < 1) = false := decide_eq_false (by omega)
    have f3 : decide ((m : Int) < (kF m : Int)) = false := decide_eq_false (by omega)
    have f5 : decide ((9 : Int) < (kF m : Int)) = false := decide_eq_false (by omega)
    have ek : IntKind.i64.wrap ((k : Int) + 1) = ((k + 1 : Nat) : Int) := by
      have : manyB N ≤ N / 9 + 2 := hB
      rw [w64 (by unfold I64; omega)]; rfl
    simp only [instV, sxA, sxB, Nat.reduceBEq, Nat.reduceEqDiff, reduceCtorEq, mxA, mxB, Nat.reduceAdd, reduceIte, Nat.reduceLeDiff, splice, hv, hs, Zdi, f1, f2, f3, f5]
    simp only [sxA, sxB, Nat.reduceBEq, Nat.reduceEqDiff, reduceCtorEq, mxA, mxB, Nat.reduceAdd, reduceIte, Nat.reduceLeDiff, splice, hv, hs, Zdi, f1, f2, f3, f5, hcut, r5, ek]
    refine ⟨nxN m, by unfold nxN; omega, by unfold nxN; omega, (hw5.push _).set (i := H5.next) (by rw [Heap.get_push, if_pos rfl]) _, ?_, ?_, ?_, ?_, ?_, k + 1, ?_, by omega⟩
    · exact ((hx4.trans hx5).push _).set (by have := (hx4.trans hx5).next; omega) _
    · simp only [uxA, uxB, Nat.reduceBEq]
      exact (hr2.ext hw4 hx5).ext hw5 (((Ext.refl H5).push _).set (Nat.le_refl _) _)
    all_goals simp only [uxA, uxB, Nat.reduceBEq, r0, r3, r4]
end Go.Proofs.YtbkbdnlfkahaaaaGreatDoor.code
/- linotypelaw28.AsmNops, over the laid tables. -/
set_option linter.unusedVariables false
set_option maxRecDepth 100000
namespace Go.Proofs.YtbkbdnlfkahaaaaGreatDoor.code
open Go.Ab
theorem awake28n_ran : isTrue ((run prog more9 100000 5 60).fn f_linotypelaw28_awake [] (tabHeap prog.globals.size tab.tabs)) = true := by kernel_rfl
theorem nop_of {k m : Nat} (h : ((List.range 17).all fun j => nopChk knN tab.tabs 50 (j + k)) = true) (h1 : k ≤ m) (h2 : m < k + 17) : nopChk knN tab.tabs 50 m = true := by
  have := List.all_eq_true.1 h (m - k) (List.mem_range.2 (by omega))
  rwa [show m - k + k = m by omega] at this
theorem nop_all (m : Nat) (h1 : 1 ≤ m) (h2 : m ≤ 300) : nopChk knN tab.tabs 50 m = true := by
  by_cases c0 : m < 18
  · exact nop_of nopA_ok (by omega) c0
  by_cases c1 : m < 35
  · exact nop_of nopB_ok (by omega) c1
  by_cases c2 : m < 52
  · exact nop_of nopC_ok (by omega) c2
  by_cases c3 : m < 69
  · exact nop_of nopD_ok (by omega) c3
  by_cases c4 : m < 86
  · exact nop_of nopE_ok (by omega) c4
  by_cases c5 : m < 103
  · exact nop_of nopF_ok (by omega) c5
  by_cases c6 : m < 120
  · exact nop_of nopG_ok (by omega) c6
  by_cases c7 : m < 137
  · exact nop_of nopH_ok (by omega) c7
  by_cases c8 : m < 154
  · exact nop_of nopI_ok (by omega) c8
  by_cases c9 : m < 171
  · exact nop_of nopJ_ok (by omega) c9
  by_cases c10 : m < 188
  · exact nop_of nopK_ok (by omega) c10
  by_cases c11 : m < 205
  · exact nop_of nopL_ok (by omega) c11
  by_cases c12 : m < 222
  · exact nop_of nopM_ok (by omega) c12
  by_cases c13 : m < 239
  · exact nop_of nopN_ok (by omega) c13
  by_cases c14 : m < 256
  · exact nop_of nopO_ok (by omega) c14
  by_cases c15 : m < 273
  · exact nop_of nopP_ok (by omega) c15
  by_cases c16 : m < 290
  · exact nop_of nopQ_ok (by omega) c16
  exact nop_of nopR_ok (by omega) (by omega)
theorem q_nops28 (n : Int) (hn : I64 n) (H : Heap) (hT : TabT tab.tabs H) : CallQ prog f_linotypelaw28_AsmNops [.int .i64 n] H fun u H' => u = .bool true ∧ True :=
  q_AsmNops (T := TabT tab.tabs) (fun H H' hw h hx => tabT_ext _ _ hw h hx) (fun H hT => closed_q tab.tabs_ok more9_ok (by kernel_rfl) awake28n_ran H hT) (fun m h1 h2 => nopDec_of tab.tabs_ok tab.tabs_low knN_ok (by kernel_rfl) h1 h2 (nop_all m h1 h2)) n hn H hT
end Go.Proofs.YtbkbdnlfkahaaaaGreatDoor.code
