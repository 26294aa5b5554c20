/- What some closed calls give, seen. -/
import Derived.Test.YtbkbdnlfkahaaaaGreatDoorS0Sums
namespace Go.Proofs.YtbkbdnlfkahaaaaGreatDoor.tab
open Go.Ab
set_option maxRecDepth 100000
theorem sums3_0_ok : okAllI (kn3) sums3_0 = true := by kernel_rfl
end Go.Proofs.YtbkbdnlfkahaaaaGreatDoor.tab
/- What some closed calls give, seen. -/
namespace Go.Proofs.YtbkbdnlfkahaaaaGreatDoor.tab
open Go.Ab
set_option maxRecDepth 100000
theorem sums4_0_ok : okAllI (kn4) sums4_0 = true := by kernel_rfl
end Go.Proofs.YtbkbdnlfkahaaaaGreatDoor.tab
/- What some closed calls give, seen. -/
namespace Go.Proofs.YtbkbdnlfkahaaaaGreatDoor.tab
open Go.Ab
set_option maxRecDepth 100000
theorem sums5_0_ok : okAllI (kn5) sums5_0 = true := by kernel_rfl
end Go.Proofs.YtbkbdnlfkahaaaaGreatDoor.tab
/- What some closed calls give, seen. -/
namespace Go.Proofs.YtbkbdnlfkahaaaaGreatDoor.tab
open Go.Ab
set_option maxRecDepth 100000
theorem sums6_0_ok : okAllI (kn6) sums6_0 = true := by kernel_rfl
end Go.Proofs.YtbkbdnlfkahaaaaGreatDoor.tab
