/- What more closed calls give, seen. -/
import Derived.Test.YtdnngempkifclaaGreatDoorV0Sums
namespace Go.Proofs.YtdnngempkifclaaGreatDoor.code
open Go.Ab _root_.Go.Proofs.YtdnngempkifclaaGreatDoor.tab
set_option maxRecDepth 100000
theorem ms0_0_ok : okAllI (knF) ms0_0 = true := by kernel_rfl
theorem ms1_0_ok : okAllI (more1) ms1_0 = true := by kernel_rfl
theorem ms1_1_ok : okAllI (more1) ms1_1 = true := by kernel_rfl
theorem ms1_2_ok : okAllI (more1) ms1_2 = true := by kernel_rfl
end Go.Proofs.YtdnngempkifclaaGreatDoor.code
