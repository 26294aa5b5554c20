/- What more closed calls give, seen. -/
import Derived.Test.YtdnngempkifclaaGreatDoorV0Sums
namespace Go.Proofs.YtdnngempkifclaaGreatDoor.code
open Go.Ab _root_.Go.Proofs.YtdnngempkifclaaGreatDoor.tab
set_option maxRecDepth 100000
theorem ms1_7_ok : okAllI (more1) ms1_7 = true := by kernel_rfl
theorem ms1_8_ok : okAllI (more1) ms1_8 = true := by kernel_rfl
theorem ms1_9_ok : okAllI (more1) ms1_9 = true := by kernel_rfl
theorem ms1_10_ok : okAllI (more1) ms1_10 = true := by kernel_rfl
end Go.Proofs.YtdnngempkifclaaGreatDoor.code
