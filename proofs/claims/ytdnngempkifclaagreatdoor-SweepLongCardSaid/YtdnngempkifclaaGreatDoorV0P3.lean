/- What more closed calls give, seen. -/
import Derived.Test.YtdnngempkifclaaGreatDoorV0Sums
namespace Go.Proofs.YtdnngempkifclaaGreatDoor.code
open Go.Ab _root_.Go.Proofs.YtdnngempkifclaaGreatDoor.tab
set_option maxRecDepth 100000
theorem ms1_11_ok : okAllI (more1) ms1_11 = true := by kernel_rfl
theorem ms1_12_ok : okAllI (more1) ms1_12 = true := by kernel_rfl
theorem ms1_13_ok : okAllI (more1) ms1_13 = true := by kernel_rfl
theorem ms1_14_ok : okAllI (more1) ms1_14 = true := by kernel_rfl
end Go.Proofs.YtdnngempkifclaaGreatDoor.code
