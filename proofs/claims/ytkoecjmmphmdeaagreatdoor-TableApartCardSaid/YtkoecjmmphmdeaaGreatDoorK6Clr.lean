/- Opcodes without their lowest three bits. -/
import Derived.Test.YtkoecjmmphmdeaaGreatDoorK5May
set_option linter.unusedVariables false
namespace Go.Proofs.YtkoecjmmphmdeaaGreatDoor.code
open Go.Ab

theorem andNot7 (x : BitVec 64) : x &&& ~~~(BitVec.ofInt 64 7) = (x >>> 3) <<< 3 := by
  have h7 : ∀ i : Fin 64, (BitVec.ofInt 64 7).getLsbD i.1 = decide (i.1 < 3) := by decide
  apply BitVec.eq_of_getLsbD_eq
  intro i hi
  have := h7 ⟨i, hi⟩
  simp only [BitVec.getLsbD_and, BitVec.getLsbD_not, BitVec.getLsbD_shiftLeft, BitVec.getLsbD_ushiftRight, this, hi, decide_true, Bool.true_and]
  by_cases h3 : i < 3
  · simp [h3]
  · simp [h3, show 3 + (i - 3) = i by omega]
theorem clr7_eq (c : Int) (h : I64 c) : clr7 c = c - c % 8 := by
  unfold clr7
  show IntKind.i64.wrap ((BitVec.ofInt 64 c &&& ~~~BitVec.ofInt 64 7).toNat : Nat) = _
  rw [andNot7, IntKind.wrap_i64]
  unfold I64 at h
  simp only [BitVec.toNat_shiftLeft, BitVec.toNat_ushiftRight, BitVec.toNat_ofInt, Nat.shiftLeft_eq, Nat.shiftRight_eq_div_pow]
  omega
end Go.Proofs.YtkoecjmmphmdeaaGreatDoor.code
