/- Which forms the layers tell. -/
import Derived.Test.YtfofbicfabokbaaGreatDoorS2Known
import Derived.Test.YtfofbicfabokbaaGreatDoorLibA
set_option maxRecDepth 100000
namespace Go.Proofs.YtfofbicfabokbaaGreatDoor.code
open Go.Ab
theorem Qrl:KJ (V0 tab.tabs) Qiv L_alu:=W2 tab.tabs_ok tab.tabs_low tab.all_sums3_0 (by kernel_rfl)
theorem Qhe:KJ (V0 tab.tabs) G6 L_alu:=W2 tab.tabs_ok tab.tabs_low tab.all_sums9_0 (by kernel_rfl)
theorem Qon:KJ (V0 tab.tabs) Qfb L_unary:=W2 tab.tabs_ok tab.tabs_low tab.all_sums4_0 (by kernel_rfl)
theorem Qhf:KJ (V0 tab.tabs) G7 L_unary:=W2 tab.tabs_ok tab.tabs_low tab.all_sums10_0 (by kernel_rfl)
theorem QpF:KJ (V0 tab.tabs) QgA L_flow:=W2 tab.tabs_ok tab.tabs_low tab.all_sums5_0 (by kernel_rfl)
theorem Qhg:KJ (V0 tab.tabs) G8 L_flow:=W2 tab.tabs_ok tab.tabs_low tab.all_sums11_0 (by kernel_rfl)
theorem QpG:KJ (V0 tab.tabs) QgB L_bits:=W2 tab.tabs_ok tab.tabs_low tab.all_sums6_0 (by kernel_rfl)
theorem Qhh:KJ (V0 tab.tabs) G9 L_bits:=W2 tab.tabs_ok tab.tabs_low tab.all_sums12_0 (by kernel_rfl)
theorem Qrm:KJ (V0 tab.tabs) Qiw L_sse:=W2 tab.tabs_ok tab.tabs_low tab.all_sums7_0 (by kernel_rfl)
theorem Qhi:KJ (V0 tab.tabs) Va L_sse:=W2 tab.tabs_ok tab.tabs_low tab.all_sums13_0 (by kernel_rfl)
theorem Qrn:KJ (V0 tab.tabs) Qmq L_avx:=W2 tab.tabs_ok tab.tabs_low tab.all_sums8_0 (by kernel_rfl)
theorem Qhj:KJ (V0 tab.tabs) Vb L_avx:=W2 tab.tabs_ok tab.tabs_low tab.all_sums14_0 (by kernel_rfl)
end Go.Proofs.YtfofbicfabokbaaGreatDoor.code
