/- What some closed calls give, seen. -/
import Derived.Test.YtbkbdnlfkahaaaaGreatDoorS0Sums
namespace Go.Proofs.YtbkbdnlfkahaaaaGreatDoor.tab
open Go.Ab
set_option maxRecDepth 100000
theorem sums7_0_ok : okAllI (kn7) sums7_0 = true := by kernel_rfl
end Go.Proofs.YtbkbdnlfkahaaaaGreatDoor.tab
/- What some closed calls give, seen. -/
namespace Go.Proofs.YtbkbdnlfkahaaaaGreatDoor.tab
open Go.Ab
set_option maxRecDepth 100000
theorem sums8_0_ok : okAllI (kn8) sums8_0 = true := by kernel_rfl
end Go.Proofs.YtbkbdnlfkahaaaaGreatDoor.tab
