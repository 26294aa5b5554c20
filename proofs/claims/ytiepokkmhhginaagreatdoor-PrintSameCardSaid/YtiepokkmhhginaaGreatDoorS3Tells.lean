/- Which forms the layers tell. -/
import Derived.Test.YtiepokkmhhginaaGreatDoorS2Known
import Derived.Test.YtiepokkmhhginaaGreatDoorLibA
set_option maxRecDepth 100000
namespace Go.Proofs.YtiepokkmhhginaaGreatDoor.code
open Go.Ab
theorem Qpn:Qg0 (Qf2 tab.tabs) QeD Qux:=Zb tab.tabs_ok tab.tabs_low tab.all_sums3_0 (by kernel_rfl)
theorem QlX:Qg0 (Qf2 tab.tabs) QaL Qk1:=Zb tab.tabs_ok tab.tabs_low tab.all_sums4_0 (by kernel_rfl)
theorem Qnh:Qg0 (Qf2 tab.tabs) Qb8 Qpl:=Zb tab.tabs_ok tab.tabs_low tab.all_sums5_0 (by kernel_rfl)
theorem Qni:Qg0 (Qf2 tab.tabs) Qb9 Qpm:=Zb tab.tabs_ok tab.tabs_low tab.all_sums6_0 (by kernel_rfl)
theorem Qpo:Qg0 (Qf2 tab.tabs) QeE Quy:=Zb tab.tabs_ok tab.tabs_low tab.all_sums7_0 (by kernel_rfl)
theorem Qpp:Qg0 (Qf2 tab.tabs) QiI Quz:=Zb tab.tabs_ok tab.tabs_low tab.all_sums8_0 (by kernel_rfl)
end Go.Proofs.YtiepokkmhhginaaGreatDoor.code
