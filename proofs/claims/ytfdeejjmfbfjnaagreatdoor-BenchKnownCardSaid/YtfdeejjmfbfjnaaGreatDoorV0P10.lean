/- What more closed calls give, seen. -/
import Derived.Test.YtfdeejjmfbfjnaaGreatDoorV0Sums
namespace Go.Proofs.YtfdeejjmfbfjnaaGreatDoor.code
open Go.Ab _root_.Go.Proofs.YtfdeejjmfbfjnaaGreatDoor.tab
set_option maxRecDepth 100000
theorem ms9_0_ok : okAllI (more9) ms9_0 = true := by kernel_rfl
theorem ms9_1_ok : okAllI (more9) ms9_1 = true := by kernel_rfl
end Go.Proofs.YtfdeejjmfbfjnaaGreatDoor.code
