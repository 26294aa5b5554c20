/- What more closed calls give, seen. -/
import Derived.Test.YtbkbdnlfkahaaaaGreatDoorV0Sums
namespace Go.Proofs.YtbkbdnlfkahaaaaGreatDoor.code
open Go.Ab _root_.Go.Proofs.YtbkbdnlfkahaaaaGreatDoor.tab
set_option maxRecDepth 100000
theorem ms2_3_ok : okAllI (more2) ms2_3 = true := by kernel_rfl
theorem ms2_4_ok : okAllI (more2) ms2_4 = true := by kernel_rfl
end Go.Proofs.YtbkbdnlfkahaaaaGreatDoor.code
/- What more closed calls give, seen. -/
namespace Go.Proofs.YtbkbdnlfkahaaaaGreatDoor.code
open Go.Ab _root_.Go.Proofs.YtbkbdnlfkahaaaaGreatDoor.tab
set_option maxRecDepth 100000
theorem ms2_5_ok : okAllI (more2) ms2_5 = true := by kernel_rfl
theorem ms2_6_ok : okAllI (more2) ms2_6 = true := by kernel_rfl
end Go.Proofs.YtbkbdnlfkahaaaaGreatDoor.code
