/- What some closed calls give, seen. -/
import Derived.Test.YtkoecjmmphmdeaaGreatDoorS0Sums
namespace Go.Proofs.YtkoecjmmphmdeaaGreatDoor.tab
open Go.Ab
set_option maxRecDepth 100000
theorem sums9_0_ok : okAllI (kn9) sums9_0 = true := by kernel_rfl
theorem sums9_1_ok : okAllI (kn9) sums9_1 = true := by kernel_rfl
theorem sums9_2_ok : okAllI (kn9) sums9_2 = true := by kernel_rfl
theorem sums9_3_ok : okAllI (kn9) sums9_3 = true := by kernel_rfl
end Go.Proofs.YtkoecjmmphmdeaaGreatDoor.tab
/- What some closed calls give, seen. -/
namespace Go.Proofs.YtkoecjmmphmdeaaGreatDoor.tab
open Go.Ab
set_option maxRecDepth 100000
theorem sums10_0_ok : okAllI (kn10) sums10_0 = true := by kernel_rfl
end Go.Proofs.YtkoecjmmphmdeaaGreatDoor.tab
/- What some closed calls give, seen. -/
namespace Go.Proofs.YtkoecjmmphmdeaaGreatDoor.tab
open Go.Ab
set_option maxRecDepth 100000
theorem sums11_0_ok : okAllI (kn11) sums11_0 = true := by kernel_rfl
end Go.Proofs.YtkoecjmmphmdeaaGreatDoor.tab
