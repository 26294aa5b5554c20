/- Which forms the layers tell. -/
import Derived.Test.YtgepgbbjfhggfaaGreatDoorS2Known
import Derived.Test.YtgepgbbjfhggfaaGreatDoorLibA
set_option maxRecDepth 100000
namespace Go.Proofs.YtgepgbbjfhggfaaGreatDoor.code
open Go.Ab
theorem Qod:Qgd (Qes tab.tabs) Qd0 L_alu:=Zn tab.tabs_ok tab.tabs_low tab.all_sums3_0 (by kernel_rfl)
theorem Qk7:Qgd (Qes tab.tabs) Qal L_unary:=Zn tab.tabs_ok tab.tabs_low tab.all_sums4_0 (by kernel_rfl)
theorem Qmk:Qgd (Qes tab.tabs) QbJ L_flow:=Zn tab.tabs_ok tab.tabs_low tab.all_sums5_0 (by kernel_rfl)
theorem Qml:Qgd (Qes tab.tabs) QbK L_bits:=Zn tab.tabs_ok tab.tabs_low tab.all_sums6_0 (by kernel_rfl)
theorem Qoe:Qgd (Qes tab.tabs) Qd1 L_sse:=Zn tab.tabs_ok tab.tabs_low tab.all_sums7_0 (by kernel_rfl)
theorem Qof:Qgd (Qes tab.tabs) QhY L_avx:=Zn tab.tabs_ok tab.tabs_low tab.all_sums8_0 (by kernel_rfl)
end Go.Proofs.YtgepgbbjfhggfaaGreatDoor.code
