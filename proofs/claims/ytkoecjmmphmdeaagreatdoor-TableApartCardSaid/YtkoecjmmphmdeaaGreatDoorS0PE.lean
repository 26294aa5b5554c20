/- What some closed calls give, seen. -/
import Derived.Test.YtkoecjmmphmdeaaGreatDoorS0Sums
import Derived.Test.YtkoecjmmphmdeaaGreatDoorS0SumsB
namespace Go.Proofs.YtkoecjmmphmdeaaGreatDoor.tab
open Go.Ab
set_option maxRecDepth 100000
theorem sums12_0_ok : okAllI (kn12) sums12_0 = true := by kernel_rfl
end Go.Proofs.YtkoecjmmphmdeaaGreatDoor.tab
/- What some closed calls give, seen. -/
namespace Go.Proofs.YtkoecjmmphmdeaaGreatDoor.tab
open Go.Ab
set_option maxRecDepth 100000
theorem sums13_0_ok : okAllI (kn13) sums13_0 = true := by kernel_rfl
end Go.Proofs.YtkoecjmmphmdeaaGreatDoor.tab
/- What some closed calls give, seen. -/
namespace Go.Proofs.YtkoecjmmphmdeaaGreatDoor.tab
open Go.Ab
set_option maxRecDepth 100000
theorem sums14_0_ok : okAllI (kn14) sums14_0 = true := by kernel_rfl
end Go.Proofs.YtkoecjmmphmdeaaGreatDoor.tab
/- What some closed calls give, seen. -/
namespace Go.Proofs.YtkoecjmmphmdeaaGreatDoor.tab
open Go.Ab
set_option maxRecDepth 100000
theorem sums15_0_ok : okAllI (kn15) sums15_0 = true := by kernel_rfl
end Go.Proofs.YtkoecjmmphmdeaaGreatDoor.tab
