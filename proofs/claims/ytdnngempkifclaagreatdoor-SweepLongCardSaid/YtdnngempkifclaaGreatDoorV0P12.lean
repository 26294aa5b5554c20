/- What more closed calls give, seen. -/
import Derived.Test.YtdnngempkifclaaGreatDoorV0Sums
namespace Go.Proofs.YtdnngempkifclaaGreatDoor.code
open Go.Ab _root_.Go.Proofs.YtdnngempkifclaaGreatDoor.tab
set_option maxRecDepth 100000
theorem ms1_47_ok : okAllI (more1) ms1_47 = true := by kernel_rfl
theorem ms2_0_ok : okAllI (more2) ms2_0 = true := by kernel_rfl
end Go.Proofs.YtdnngempkifclaaGreatDoor.code
