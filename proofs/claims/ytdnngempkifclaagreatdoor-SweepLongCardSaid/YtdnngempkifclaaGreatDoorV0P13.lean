/- What more closed calls give, seen. -/
import Derived.Test.YtdnngempkifclaaGreatDoorV0Sums
namespace Go.Proofs.YtdnngempkifclaaGreatDoor.code
open Go.Ab _root_.Go.Proofs.YtdnngempkifclaaGreatDoor.tab
set_option maxRecDepth 100000
theorem ms2_3_ok : okAllI (more2) ms2_3 = true := by kernel_rfl
theorem ms3_0_ok : okAllI (more3) ms3_0 = true := by kernel_rfl
theorem ms4_0_ok : okAllI (more4) ms4_0 = true := by kernel_rfl
theorem ms5_0_ok : okAllI (more5) ms5_0 = true := by kernel_rfl
end Go.Proofs.YtdnngempkifclaaGreatDoor.code
