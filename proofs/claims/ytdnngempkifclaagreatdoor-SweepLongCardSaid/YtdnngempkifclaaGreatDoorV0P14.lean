/- What more closed calls give, seen. -/
import Derived.Test.YtdnngempkifclaaGreatDoorV0Sums
namespace Go.Proofs.YtdnngempkifclaaGreatDoor.code
open Go.Ab _root_.Go.Proofs.YtdnngempkifclaaGreatDoor.tab
set_option maxRecDepth 100000
theorem ms6_0_ok : okAllI (more6) ms6_0 = true := by kernel_rfl
theorem ms6_1_ok : okAllI (more6) ms6_1 = true := by kernel_rfl
theorem ms6_2_ok : okAllI (more6) ms6_2 = true := by kernel_rfl
end Go.Proofs.YtdnngempkifclaaGreatDoor.code
