/- What more closed calls give, seen. -/
import Derived.Test.YtdnngempkifclaaGreatDoorV0Sums
namespace Go.Proofs.YtdnngempkifclaaGreatDoor.code
open Go.Ab _root_.Go.Proofs.YtdnngempkifclaaGreatDoor.tab
set_option maxRecDepth 100000
theorem ms1_15_ok : okAllI (more1) ms1_15 = true := by kernel_rfl
theorem ms1_16_ok : okAllI (more1) ms1_16 = true := by kernel_rfl
theorem ms1_17_ok : okAllI (more1) ms1_17 = true := by kernel_rfl
theorem ms1_18_ok : okAllI (more1) ms1_18 = true := by kernel_rfl
end Go.Proofs.YtdnngempkifclaaGreatDoor.code
