/- BitsMay. -/
import Derived.Test.YtfdeejmibgpbhaaDoorT4Of
set_option linter.unusedVariables false
set_option linter.unusedSimpArgs false
set_option maxRecDepth 100000
namespace Go.Proofs.YtfdeejmibgpbhaaDoor.bits
open Go.Ab

/-- A form alone in a small heap. -/
noncomputable def small (e : En) : Heap := ((⟨11, .nil⟩ : Heap).push (.cells (ints e.f.shapes) 3 true)).push (.cells (ints e.f.slots) 3 true)
noncomputable def smallArg (e : En) : Value := .agg (Lf.cells ⟨e.f, .slice (some ⟨11, 0, none⟩) e.f.shapes.length e.ca, .slice (some ⟨12, 0, none⟩) e.f.slots.length e.cb⟩).toArray
noncomputable def isZero : Option (Value × Heap) → Bool
  | some (.int .i64 z, _) => decide (z = 0)
  | _ => false
noncomputable def checked_ (e : En) : Bool := isZero (run Tryd.prog (fun _ _ _ => none) 1000 5 20 18 [smallArg e] (small e)) && decide (116 ≤ e.f.op) && decide (e.f.op ≤ 135) && Nat.blt 0 e.f.shapes.length && Nat.blt 0 e.f.slots.length
theorem isZero_some {r : Option (Value × Heap)} (h : isZero r = true) : ∃ H, r = some (.int .i64 0, H) := by
  unfold isZero at h
  split at h
  · rename_i z H; exact ⟨H, by rw [of_decide_eq_true h]⟩
  · cases h
theorem may0 : (tabA.take 10).all checked_ = true := by kernel_rfl
theorem may1 : ((tabA.drop 10).take 10).all checked_ = true := by kernel_rfl
theorem may2 : ((tabA.drop 20).take 10).all checked_ = true := by kernel_rfl
theorem may3 : ((tabA.drop 30).take 10).all checked_ = true := by kernel_rfl
theorem may4 : ((tabA.drop 40).take 10).all checked_ = true := by kernel_rfl
end Go.Proofs.YtfdeejmibgpbhaaDoor.bits
