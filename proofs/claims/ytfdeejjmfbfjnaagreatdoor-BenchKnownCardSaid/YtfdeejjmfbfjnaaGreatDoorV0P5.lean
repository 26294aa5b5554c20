/- What more closed calls give, seen. -/
import Derived.Test.YtfdeejjmfbfjnaaGreatDoorV0Sums
namespace Go.Proofs.YtfdeejjmfbfjnaaGreatDoor.code
open Go.Ab _root_.Go.Proofs.YtfdeejjmfbfjnaaGreatDoor.tab
set_option maxRecDepth 100000
theorem ms4_1_ok : okAllI (more4) ms4_1 = true := by kernel_rfl
theorem ms4_2_ok : okAllI (more4) ms4_2 = true := by kernel_rfl
end Go.Proofs.YtfdeejjmfbfjnaaGreatDoor.code
