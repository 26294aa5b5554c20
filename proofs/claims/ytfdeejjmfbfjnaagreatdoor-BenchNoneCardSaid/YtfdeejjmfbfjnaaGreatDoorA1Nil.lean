/- Slices and pointers held against nil. -/
import Derived.Test.YtfdeejjmfbfjnaaGreatDoorC0Code
set_option linter.unusedVariables false
namespace Go.Proofs.YtfdeejjmfbfjnaaGreatDoor.code
open Go.Ab
variable {P : Program} {A : Env} {H : Heap} {k : Value → Heap → Prop}
theorem gen_nilS {t t' e : TypeId} {x : Operand} {a : Option Addr} {n c : Nat} (h1 : P.underlying t = some (.slice e)) (hx : ev A x = .slice a n c) :
    pr P (.gen (.binOp .eql t x (.const (.slice none 0 0)) t')) false A H k = k (.bool a.isNone) H := by
  have hc : ev A (.const (.slice none 0 0)) = .slice none 0 0 := rfl
  have e : rop P (.gen (.binOp .eql t x (.const (.slice none 0 0)) t')) A H = some (.bool a.isNone, H) := by
    cases a <;> simp [rop, aop, a_binOp, binV, eqBin, pureR, hx, hc, h1, aeq, isCO, notNum, guardOk, isNI, isAg]
  rw [pr_gen]; unfold genK
  rw [e, onS_some]
theorem gen_nilP {t t' e : TypeId} {x : Operand} {a : Option Addr} (h1 : P.underlying t = some (.pointer e)) (hx : ev A x = .pointer a) :
    pr P (.gen (.binOp .eql t x (.const (.pointer none)) t')) false A H k = k (.bool a.isNone) H := by
  have hc : ev A (.const (.pointer none)) = .pointer none := rfl
  have e : rop P (.gen (.binOp .eql t x (.const (.pointer none)) t')) A H = some (.bool a.isNone, H) := by
    cases a <;> simp [rop, aop, a_binOp, binV, eqBin, pureR, hx, hc, h1, aeq, isCO, notNum, guardOk, isNI, isAg]
  rw [pr_gen]; unfold genK
  rw [e, onS_some]
end Go.Proofs.YtfdeejjmfbfjnaaGreatDoor.code
