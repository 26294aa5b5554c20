/- What more closed calls give, seen. -/
import Derived.Test.YtbkbdnlfkahaaaaGreatDoorV0Sums
namespace Go.Proofs.YtbkbdnlfkahaaaaGreatDoor.code
open Go.Ab _root_.Go.Proofs.YtbkbdnlfkahaaaaGreatDoor.tab
set_option maxRecDepth 100000
theorem ms8_0_ok : okAllI (more8) ms8_0 = true := by kernel_rfl
end Go.Proofs.YtbkbdnlfkahaaaaGreatDoor.code
/- What more closed calls give, seen. -/
namespace Go.Proofs.YtbkbdnlfkahaaaaGreatDoor.code
open Go.Ab _root_.Go.Proofs.YtbkbdnlfkahaaaaGreatDoor.tab
set_option maxRecDepth 100000
theorem ms5_0_ok : okAllI (more5) ms5_0 = true := by kernel_rfl
theorem ms6_0_ok : okAllI (more6) ms6_0 = true := by kernel_rfl
end Go.Proofs.YtbkbdnlfkahaaaaGreatDoor.code
/- What more closed calls give, seen. -/
namespace Go.Proofs.YtbkbdnlfkahaaaaGreatDoor.code
open Go.Ab _root_.Go.Proofs.YtbkbdnlfkahaaaaGreatDoor.tab
set_option maxRecDepth 100000
theorem ms6_1_ok : okAllI (more6) ms6_1 = true := by kernel_rfl
theorem ms7_0_ok : okAllI (more7) ms7_0 = true := by kernel_rfl
end Go.Proofs.YtbkbdnlfkahaaaaGreatDoor.code
