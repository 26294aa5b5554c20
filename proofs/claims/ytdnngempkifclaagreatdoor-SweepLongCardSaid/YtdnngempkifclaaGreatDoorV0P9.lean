/- What more closed calls give, seen. -/
import Derived.Test.YtdnngempkifclaaGreatDoorV0Sums
namespace Go.Proofs.YtdnngempkifclaaGreatDoor.code
open Go.Ab _root_.Go.Proofs.YtdnngempkifclaaGreatDoor.tab
set_option maxRecDepth 100000
theorem ms1_35_ok : okAllI (more1) ms1_35 = true := by kernel_rfl
theorem ms1_36_ok : okAllI (more1) ms1_36 = true := by kernel_rfl
theorem ms1_37_ok : okAllI (more1) ms1_37 = true := by kernel_rfl
theorem ms1_38_ok : okAllI (more1) ms1_38 = true := by kernel_rfl
end Go.Proofs.YtdnngempkifclaaGreatDoor.code
