/- What more closed calls give, seen. -/
import Derived.Test.YtdnngempkifclaaGreatDoorV0Sums
namespace Go.Proofs.YtdnngempkifclaaGreatDoor.code
open Go.Ab _root_.Go.Proofs.YtdnngempkifclaaGreatDoor.tab
set_option maxRecDepth 100000
theorem ms1_23_ok : okAllI (more1) ms1_23 = true := by kernel_rfl
theorem ms1_24_ok : okAllI (more1) ms1_24 = true := by kernel_rfl
theorem ms1_25_ok : okAllI (more1) ms1_25 = true := by kernel_rfl
theorem ms1_26_ok : okAllI (more1) ms1_26 = true := by kernel_rfl
end Go.Proofs.YtdnngempkifclaaGreatDoor.code
