/- What more closed calls give, seen. -/
import Derived.Test.YtdnngempkifclaaGreatDoorV0P17
import Derived.Test.YtdnngempkifclaaGreatDoorV0P18
namespace Go.Proofs.YtdnngempkifclaaGreatDoor.code
open Go.Ab _root_.Go.Proofs.YtdnngempkifclaaGreatDoor.tab
set_option maxRecDepth 100000
theorem ms2_2_ok : okAllI (more2) ms2_2 = true := by
  have h := List.take_append_drop 3 ms2_2
  unfold okAllI
  rw [← h, List.all_append]
  have h1 := ms2_2_a
  have h2 := ms2_2_b
  unfold okAllI at h1 h2
  rw [h1, h2]
  rfl
end Go.Proofs.YtdnngempkifclaaGreatDoor.code
