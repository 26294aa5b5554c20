/- What some closed calls give, seen. -/
import Derived.Test.YtbkbdnlfkahaaaaGreatDoorS0Sums
namespace Go.Proofs.YtbkbdnlfkahaaaaGreatDoor.tab
open Go.Ab
set_option maxRecDepth 100000
theorem sums0_0_ok : okAllI (xknown xt) sums0_0 = true := by kernel_rfl
theorem sums0_1_ok : okAllI (xknown xt) sums0_1 = true := by kernel_rfl
theorem sums0_2_ok : okAllI (xknown xt) sums0_2 = true := by kernel_rfl
theorem sums0_3_ok : okAllI (xknown xt) sums0_3 = true := by kernel_rfl
end Go.Proofs.YtbkbdnlfkahaaaaGreatDoor.tab
/- What some closed calls give, seen. -/
namespace Go.Proofs.YtbkbdnlfkahaaaaGreatDoor.tab
open Go.Ab
set_option maxRecDepth 100000
theorem sums1_0_ok : okAllI (kn1) sums1_0 = true := by kernel_rfl
end Go.Proofs.YtbkbdnlfkahaaaaGreatDoor.tab
/- What some closed calls give, seen. -/
namespace Go.Proofs.YtbkbdnlfkahaaaaGreatDoor.tab
open Go.Ab
set_option maxRecDepth 100000
theorem sums2_0_ok : okAllI (kn2) sums2_0 = true := by kernel_rfl
theorem sums2_1_ok : okAllI (kn2) sums2_1 = true := by kernel_rfl
theorem sums2_2_ok : okAllI (kn2) sums2_2 = true := by kernel_rfl
theorem sums2_3_ok : okAllI (kn2) sums2_3 = true := by kernel_rfl
theorem sums2_4_ok : okAllI (kn2) sums2_4 = true := by kernel_rfl
theorem sums2_5_ok : okAllI (kn2) sums2_5 = true := by kernel_rfl
theorem sums2_6_ok : okAllI (kn2) sums2_6 = true := by kernel_rfl
theorem sums2_7_ok : okAllI (kn2) sums2_7 = true := by kernel_rfl
end Go.Proofs.YtbkbdnlfkahaaaaGreatDoor.tab
