/- What more closed calls give, seen. -/
import Derived.Test.YtdnngempkifclaaGreatDoorV0Sums
namespace Go.Proofs.YtdnngempkifclaaGreatDoor.code
open Go.Ab _root_.Go.Proofs.YtdnngempkifclaaGreatDoor.tab
set_option maxRecDepth 100000
theorem ms2_2_a : okAllI (more2) (ms2_2.take 3) = true := by kernel_rfl
end Go.Proofs.YtdnngempkifclaaGreatDoor.code
