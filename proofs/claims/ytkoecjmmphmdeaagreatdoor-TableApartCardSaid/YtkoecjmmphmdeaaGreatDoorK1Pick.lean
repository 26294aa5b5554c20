/- linotypekit.Pick. -/
import Derived.Test.YtkoecjmmphmdeaaGreatDoorLibA
set_option linter.unusedVariables false
set_option linter.unusedSimpArgs false
set_option maxRecDepth 100000
namespace Go.Proofs.YtkoecjmmphmdeaaGreatDoor.code
open Go.Ab

theorem q_linotypekit_Pick (x n : Int) (hx : I64 x) (hn : 1 ≤ n ∧ n ≤ 4611686018427387904) (H : Heap) : CallQ prog f_linotypekit_Pick [.int .i64 x, .int .i64 n] H fun u H' => u = .int .i64 (x % n) ∧ H' = H := by
  refine in_linotypekit_Pick fun hw => ?_
  have h1 : ¬ n < 1 := by omega
  have h2 : n ≠ 0 := by omega
  simp only [pc_linotypekit_Pick, sxA, Nat.reduceBEq, List.map_cons, List.map_nil, ne_eq, not_false_eq_true, not_true_eq_false, Nat.reduceEqDiff, reduceCtorEq, cond_true, cond_false, Bool.not_true, Bool.not_false, Bool.not_not, h1, decide_false]
  refine ⟨h2, ?_⟩
  have hp := Int.emod_nonneg x h2
  have hp2 := Int.emod_lt_of_pos x (by omega : 0 < n)
  have ht : x.tmod n = if 0 ≤ x then x % n else if x % n = 0 then 0 else x % n - n := by
    rw [Int.tmod_eq_emod]
    have hd : (n ∣ x) ↔ x % n = 0 := ⟨Int.emod_eq_zero_of_dvd, Int.dvd_of_emod_eq_zero⟩
    have hnn : (n.natAbs : Int) = n := Int.natAbs_of_nonneg (by omega)
    by_cases h0 : 0 ≤ x
    · simp [h0]
    · by_cases h3 : x % n = 0
      · simp [h0, hd.2 h3, h3]
      · have hnd : ¬ n ∣ x := fun h => h3 (hd.1 h)
        simp [h0, h3, hnd, hnn]
  refine cB_cases (fun h3 => ?_) (fun h3 => ?_)
  · have h3 : x.tmod n < 0 := of_decide_eq_true h3
    have e : IntKind.i64.wrap (x.tmod n + n) = x % n := by
      rw [w64 (by unfold I64; split at ht <;> (try split at ht) <;> omega)]
      split at ht <;> (try split at ht) <;> omega
    simp only [sxA, Nat.reduceBEq, List.map_cons, List.map_nil, ne_eq, not_false_eq_true, not_true_eq_false, Nat.reduceEqDiff, reduceCtorEq, cond_true, cond_false, Bool.not_true, Bool.not_false, Bool.not_not, ret_linotypekit_Pick, e]
    exact .mk (Nat.le_refl _) ⟨rfl, rfl⟩
  · have h3 : ¬ x.tmod n < 0 := of_decide_eq_false h3
    have e : x.tmod n = x % n := by split at ht <;> (try split at ht) <;> omega
    simp only [sxA, Nat.reduceBEq, List.map_cons, List.map_nil, ne_eq, not_false_eq_true, not_true_eq_false, Nat.reduceEqDiff, reduceCtorEq, cond_true, cond_false, Bool.not_true, Bool.not_false, Bool.not_not, ret_linotypekit_Pick, e]
    exact .mk (Nat.le_refl _) ⟨rfl, rfl⟩

end Go.Proofs.YtkoecjmmphmdeaaGreatDoor.code
