/- What more closed calls give, seen. -/
import Derived.Test.YtdnngempkifclaaGreatDoorV0Sums
namespace Go.Proofs.YtdnngempkifclaaGreatDoor.code
open Go.Ab _root_.Go.Proofs.YtdnngempkifclaaGreatDoor.tab
set_option maxRecDepth 100000
theorem ms1_31_ok : okAllI (more1) ms1_31 = true := by kernel_rfl
theorem ms1_32_ok : okAllI (more1) ms1_32 = true := by kernel_rfl
theorem ms1_33_ok : okAllI (more1) ms1_33 = true := by kernel_rfl
theorem ms1_34_ok : okAllI (more1) ms1_34 = true := by kernel_rfl
end Go.Proofs.YtdnngempkifclaaGreatDoor.code
