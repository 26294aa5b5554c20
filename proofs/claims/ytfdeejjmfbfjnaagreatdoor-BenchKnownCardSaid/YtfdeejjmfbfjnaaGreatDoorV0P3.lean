/- What more closed calls give, seen. -/
import Derived.Test.YtfdeejjmfbfjnaaGreatDoorV0Sums
namespace Go.Proofs.YtfdeejjmfbfjnaaGreatDoor.code
open Go.Ab _root_.Go.Proofs.YtfdeejjmfbfjnaaGreatDoor.tab
set_option maxRecDepth 100000
theorem ms2_0_ok : okAllI (more2) ms2_0 = true := by kernel_rfl
theorem ms2_1_ok : okAllI (more2) ms2_1 = true := by kernel_rfl
end Go.Proofs.YtfdeejjmfbfjnaaGreatDoor.code
