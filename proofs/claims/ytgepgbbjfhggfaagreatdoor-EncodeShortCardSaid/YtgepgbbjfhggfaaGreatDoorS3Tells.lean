/- Which forms the layers tell. -/
import Derived.Test.YtgepgbbjfhggfaaGreatDoorS2Known
import Derived.Test.YtgepgbbjfhggfaaGreatDoorLibA
set_option maxRecDepth 100000
namespace Go.Proofs.YtgepgbbjfhggfaaGreatDoor.code
open Go.Ab
theorem Qte:J8 (QcL tab.tabs) 97 L_alu:=WR tab.tabs_ok tab.tabs_low tab.all_sums3_0 (by kernel_rfl)
theorem Qgi:J8 (QcL tab.tabs) 91 L_alu:=WR tab.tabs_ok tab.tabs_low tab.all_sums9_0 (by kernel_rfl)
theorem Qp2:J8 (QcL tab.tabs) 98 L_unary:=WR tab.tabs_ok tab.tabs_low tab.all_sums4_0 (by kernel_rfl)
theorem Qgj:J8 (QcL tab.tabs) 92 L_unary:=WR tab.tabs_ok tab.tabs_low tab.all_sums10_0 (by kernel_rfl)
theorem Qrh:J8 (QcL tab.tabs) 99 L_flow:=WR tab.tabs_ok tab.tabs_low tab.all_sums5_0 (by kernel_rfl)
theorem Qgk:J8 (QcL tab.tabs) 93 L_flow:=WR tab.tabs_ok tab.tabs_low tab.all_sums11_0 (by kernel_rfl)
theorem Qri:J8 (QcL tab.tabs) 100 L_bits:=WR tab.tabs_ok tab.tabs_low tab.all_sums6_0 (by kernel_rfl)
theorem Qgl:J8 (QcL tab.tabs) 94 L_bits:=WR tab.tabs_ok tab.tabs_low tab.all_sums12_0 (by kernel_rfl)
theorem Qtf:J8 (QcL tab.tabs) 101 L_sse:=WR tab.tabs_ok tab.tabs_low tab.all_sums7_0 (by kernel_rfl)
theorem Qgm:J8 (QcL tab.tabs) 95 L_sse:=WR tab.tabs_ok tab.tabs_low tab.all_sums13_0 (by kernel_rfl)
theorem Qtg:J8 (QcL tab.tabs) 102 L_avx:=WR tab.tabs_ok tab.tabs_low tab.all_sums8_0 (by kernel_rfl)
theorem Qgn:J8 (QcL tab.tabs) 96 L_avx:=WR tab.tabs_ok tab.tabs_low tab.all_sums14_0 (by kernel_rfl)
end Go.Proofs.YtgepgbbjfhggfaaGreatDoor.code
