/- What more closed calls give, seen. -/
import Derived.Test.YtdnngempkifclaaGreatDoorV0Sums
namespace Go.Proofs.YtdnngempkifclaaGreatDoor.code
open Go.Ab _root_.Go.Proofs.YtdnngempkifclaaGreatDoor.tab
set_option maxRecDepth 100000
theorem ms1_43_ok : okAllI (more1) ms1_43 = true := by kernel_rfl
theorem ms1_44_ok : okAllI (more1) ms1_44 = true := by kernel_rfl
theorem ms1_45_ok : okAllI (more1) ms1_45 = true := by kernel_rfl
theorem ms1_46_ok : okAllI (more1) ms1_46 = true := by kernel_rfl
end Go.Proofs.YtdnngempkifclaaGreatDoor.code
