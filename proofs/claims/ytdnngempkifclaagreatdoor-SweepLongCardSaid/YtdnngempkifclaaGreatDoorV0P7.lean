/- What more closed calls give, seen. -/
import Derived.Test.YtdnngempkifclaaGreatDoorV0Sums
namespace Go.Proofs.YtdnngempkifclaaGreatDoor.code
open Go.Ab _root_.Go.Proofs.YtdnngempkifclaaGreatDoor.tab
set_option maxRecDepth 100000
theorem ms1_27_ok : okAllI (more1) ms1_27 = true := by kernel_rfl
theorem ms1_28_ok : okAllI (more1) ms1_28 = true := by kernel_rfl
theorem ms1_29_ok : okAllI (more1) ms1_29 = true := by kernel_rfl
theorem ms1_30_ok : okAllI (more1) ms1_30 = true := by kernel_rfl
end Go.Proofs.YtdnngempkifclaaGreatDoor.code
