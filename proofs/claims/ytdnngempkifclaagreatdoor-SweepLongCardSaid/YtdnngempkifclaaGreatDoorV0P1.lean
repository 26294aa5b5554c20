/- What more closed calls give, seen. -/
import Derived.Test.YtdnngempkifclaaGreatDoorV0Sums
namespace Go.Proofs.YtdnngempkifclaaGreatDoor.code
open Go.Ab _root_.Go.Proofs.YtdnngempkifclaaGreatDoor.tab
set_option maxRecDepth 100000
theorem ms1_3_ok : okAllI (more1) ms1_3 = true := by kernel_rfl
theorem ms1_4_ok : okAllI (more1) ms1_4 = true := by kernel_rfl
theorem ms1_5_ok : okAllI (more1) ms1_5 = true := by kernel_rfl
theorem ms1_6_ok : okAllI (more1) ms1_6 = true := by kernel_rfl
end Go.Proofs.YtdnngempkifclaaGreatDoor.code
