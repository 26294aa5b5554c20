/- What more closed calls give, seen. -/
import Derived.Test.YtfdeejjmfbfjnaaGreatDoorV0Sums
namespace Go.Proofs.YtfdeejjmfbfjnaaGreatDoor.code
open Go.Ab _root_.Go.Proofs.YtfdeejjmfbfjnaaGreatDoor.tab
set_option maxRecDepth 100000
theorem ms4_5_ok : okAllI (more4) ms4_5 = true := by kernel_rfl
theorem ms5_0_ok : okAllI (more5) ms5_0 = true := by kernel_rfl
end Go.Proofs.YtfdeejjmfbfjnaaGreatDoor.code
