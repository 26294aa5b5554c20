/- What some closed calls give, seen. -/
import Derived.Test.YtfdeejjmfbfjnaaGreatDoorS0Sums
namespace Go.Proofs.YtfdeejjmfbfjnaaGreatDoor.tab
open Go.Ab
set_option maxRecDepth 100000
theorem sums7_0_ok : okAllI (kn7) sums7_0 = true := by kernel_rfl
end Go.Proofs.YtfdeejjmfbfjnaaGreatDoor.tab
/- What some closed calls give, seen. -/
namespace Go.Proofs.YtfdeejjmfbfjnaaGreatDoor.tab
open Go.Ab
set_option maxRecDepth 100000
theorem sums8_0_ok : okAllI (kn8) sums8_0 = true := by kernel_rfl
end Go.Proofs.YtfdeejjmfbfjnaaGreatDoor.tab
