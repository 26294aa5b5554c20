/- What is said of the table's forms and keys. -/
import Derived.Test.YtkoecjmmphmdeaaGreatDoorK9Match
import Derived.Test.YtkoecjmmphmdeaaGreatDoorLibC
set_option linter.unusedVariables false
set_option maxRecDepth 100000
namespace Go.Proofs.YtkoecjmmphmdeaaGreatDoor.code
open Go.Ab
def keyF (f : Fm) : Ky := ⟨f.vex, f.pre, if 0 > f.w then 0 else f.w, f.l, f.map, f.code⟩
theorem own_may : (Lall.all fun f => mayF f (keyF f)) = true := by kernel_rfl
theorem each_has : ((List.range 322).all fun n => Lall.any fun f => f.op == Int.ofNat (n + 1)) = true := by kernel_rfl
theorem may_says {f : Fm} {k : Ky} (hk : I64 k.code) (h : mayF f k = true) : f.vex = k.vex ∧ f.pre = k.pre ∧ f.map = k.map ∧ f.l = k.l ∧ f.code ≤ k.code ∧ k.code ≤ f.code + 7 := by
  unfold mayF beginsF at h
  simp only [Bool.and_eq_true, beq_iff_eq] at h
  obtain ⟨⟨⟨⟨⟨h1, h2⟩, h3⟩, h4⟩, h5⟩, h6⟩ := h
  refine ⟨h1, h2, h3, h4, ?_⟩
  cases hd : decide (0 ≤ idxI f.slots 4) with
  | true =>
    rw [hd, cond_true, clr7_eq _ hk] at h6
    omega
  | false =>
    rw [hd, cond_false] at h6
    omega
end Go.Proofs.YtkoecjmmphmdeaaGreatDoor.code
