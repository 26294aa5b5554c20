/- What more closed calls give, seen. -/
import Derived.Test.YtbkbdnlfkahaaaaGreatDoorV0Sums
namespace Go.Proofs.YtbkbdnlfkahaaaaGreatDoor.code
open Go.Ab _root_.Go.Proofs.YtbkbdnlfkahaaaaGreatDoor.tab
set_option maxRecDepth 100000
theorem ms2_7_ok : okAllI (more2) ms2_7 = true := by kernel_rfl
theorem ms2_8_ok : okAllI (more2) ms2_8 = true := by kernel_rfl
end Go.Proofs.YtbkbdnlfkahaaaaGreatDoor.code
/- What more closed calls give, seen. -/
namespace Go.Proofs.YtbkbdnlfkahaaaaGreatDoor.code
open Go.Ab _root_.Go.Proofs.YtbkbdnlfkahaaaaGreatDoor.tab
set_option maxRecDepth 100000
theorem ms3_0_ok : okAllI (more3) ms3_0 = true := by kernel_rfl
theorem ms4_0_ok : okAllI (more4) ms4_0 = true := by kernel_rfl
end Go.Proofs.YtbkbdnlfkahaaaaGreatDoor.code
