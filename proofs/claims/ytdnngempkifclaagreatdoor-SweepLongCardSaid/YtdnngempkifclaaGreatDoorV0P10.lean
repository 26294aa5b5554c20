/- What more closed calls give, seen. -/
import Derived.Test.YtdnngempkifclaaGreatDoorV0Sums
namespace Go.Proofs.YtdnngempkifclaaGreatDoor.code
open Go.Ab _root_.Go.Proofs.YtdnngempkifclaaGreatDoor.tab
set_option maxRecDepth 100000
theorem ms1_39_ok : okAllI (more1) ms1_39 = true := by kernel_rfl
theorem ms1_40_ok : okAllI (more1) ms1_40 = true := by kernel_rfl
theorem ms1_41_ok : okAllI (more1) ms1_41 = true := by kernel_rfl
theorem ms1_42_ok : okAllI (more1) ms1_42 = true := by kernel_rfl
end Go.Proofs.YtdnngempkifclaaGreatDoor.code
