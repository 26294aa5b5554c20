/- What more closed calls give, seen. -/
import Derived.Test.YtdnngempkifclaaGreatDoorV0Sums
namespace Go.Proofs.YtdnngempkifclaaGreatDoor.code
open Go.Ab _root_.Go.Proofs.YtdnngempkifclaaGreatDoor.tab
set_option maxRecDepth 100000
theorem ms1_19_ok : okAllI (more1) ms1_19 = true := by kernel_rfl
theorem ms1_20_ok : okAllI (more1) ms1_20 = true := by kernel_rfl
theorem ms1_21_ok : okAllI (more1) ms1_21 = true := by kernel_rfl
theorem ms1_22_ok : okAllI (more1) ms1_22 = true := by kernel_rfl
end Go.Proofs.YtdnngempkifclaaGreatDoor.code
