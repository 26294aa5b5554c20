/- What more closed calls give, seen. -/
import Derived.Test.YtfdeejjmfbfjnaaGreatDoorV0Sums
namespace Go.Proofs.YtfdeejjmfbfjnaaGreatDoor.code
open Go.Ab _root_.Go.Proofs.YtfdeejjmfbfjnaaGreatDoor.tab
set_option maxRecDepth 100000
theorem ms6_0_ok : okAllI (more6) ms6_0 = true := by kernel_rfl
theorem ms7_0_ok : okAllI (more7) ms7_0 = true := by kernel_rfl
end Go.Proofs.YtfdeejjmfbfjnaaGreatDoor.code
