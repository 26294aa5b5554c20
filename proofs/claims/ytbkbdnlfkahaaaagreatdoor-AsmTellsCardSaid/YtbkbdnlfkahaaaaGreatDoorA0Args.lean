/- What came in, made plain. -/
import Derived.Test.YtbkbdnlfkahaaaaGreatDoorLibA
import Derived.Test.YtbkbdnlfkahaaaaGreatDoorAbH
import Derived.Test.YtbkbdnlfkahaaaaGreatDoorS1Laid
import Derived.ProofKit
import Derived.OpenShut
import Derived.ChangeOld
import Derived.Deep.Slices
set_option linter.unusedVariables false
set_option linter.unusedSimpArgs false
set_option maxRecDepth 100000
namespace Go.Proofs.YtbkbdnlfkahaaaaGreatDoor.code
open Go.Ab Go.ChangeShapes Go.WideShapes Go.ChangeAt Go.RowKit

theorem i64_of_wf {z : Int} (h : (Lit.int .i64 z).wf = true) : I64 z := by
  have := bounds_i64 h
  unfold I64; omega
theorem u8_of_wf {z : Int} (h : (Lit.int .u8 z).wf = true) : 0 ≤ z ∧ z < 256 := by
  have := bounds_u8 h
  omega
theorem tabs_ro : AllRo (tabHeap prog.globals.size tab.tabs) := fun id b h => by
  obtain ⟨t, _, _, rfl⟩ := tabHeap_get h
  rfl
end Go.Proofs.YtbkbdnlfkahaaaaGreatDoor.code
