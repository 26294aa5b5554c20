/- No form reads what is cut at once. -/
import Derived.Test.YtfofbicfabokbaaGreatDoorL9Tab
import Derived.Test.YtfofbicfabokbaaGreatDoorLibD
set_option linter.unusedVariables false
set_option maxRecDepth 100000
namespace Go.Proofs.YtfofbicfabokbaaGreatDoor.code
open Go.Ab
def ef0 (_ : Fm) : Int := 9
def ef15 (f : Fm) : Int := bif f.w == 1 then 4 else 9
noncomputable def F15 : List Fm := findGo [15] true 0 Lall
theorem c0a : (L_alu.all (rdChk (xknown tab.xt) tab.tabs [] ef0)) = true := by kernel_rfl
theorem c0b : (L_unary.all (rdChk (xknown tab.xt) tab.tabs [] ef0)) = true := by kernel_rfl
theorem c0c : (L_flow.all (rdChk (xknown tab.xt) tab.tabs [] ef0)) = true := by kernel_rfl
theorem c0d : (L_bits.all (rdChk (xknown tab.xt) tab.tabs [] ef0)) = true := by kernel_rfl
theorem c0e : (L_sse.all (rdChk (xknown tab.xt) tab.tabs [] ef0)) = true := by kernel_rfl
theorem c0f : (L_avx.all (rdChk (xknown tab.xt) tab.tabs [] ef0)) = true := by kernel_rfl
theorem c15a : ((F15.take 40).all (rdChk (xknown tab.xt) tab.tabs [15] ef15)) = true := by kernel_rfl
theorem c15b : (((F15.drop 40).take 40).all (rdChk (xknown tab.xt) tab.tabs [15] ef15)) = true := by kernel_rfl
theorem c15c : (((F15.drop 80).take 40).all (rdChk (xknown tab.xt) tab.tabs [15] ef15)) = true := by kernel_rfl
theorem c15d : ((F15.drop 120).all (rdChk (xknown tab.xt) tab.tabs [15] ef15)) = true := by kernel_rfl
end Go.Proofs.YtfofbicfabokbaaGreatDoor.code
