/- Which forms the layers tell. -/
import Derived.Test.YtgepgbbjfhggfaaGreatDoorS2Known
import Derived.Test.YtgepgbbjfhggfaaGreatDoorLibA
set_option maxRecDepth 100000
namespace Go.Proofs.YtgepgbbjfhggfaaGreatDoor.code
open Go.Ab
theorem Qmz:QeL (QdT tab.tabs) QcH L_alu:=Yr tab.tabs_ok tab.tabs_low tab.all_sums3_0 (by kernel_rfl)
theorem QjA:QeL (QdT tab.tabs) G6 L_unary:=Yr tab.tabs_ok tab.tabs_low tab.all_sums4_0 (by kernel_rfl)
theorem QkH:QeL (QdT tab.tabs) Qao L_flow:=Yr tab.tabs_ok tab.tabs_low tab.all_sums5_0 (by kernel_rfl)
theorem QkI:QeL (QdT tab.tabs) Qap L_bits:=Yr tab.tabs_ok tab.tabs_low tab.all_sums6_0 (by kernel_rfl)
theorem QmA:QeL (QdT tab.tabs) QcI L_sse:=Yr tab.tabs_ok tab.tabs_low tab.all_sums7_0 (by kernel_rfl)
theorem QmB:QeL (QdT tab.tabs) Qgr L_avx:=Yr tab.tabs_ok tab.tabs_low tab.all_sums8_0 (by kernel_rfl)
end Go.Proofs.YtgepgbbjfhggfaaGreatDoor.code
