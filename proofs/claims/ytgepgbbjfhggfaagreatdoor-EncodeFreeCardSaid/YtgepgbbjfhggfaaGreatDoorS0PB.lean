/- What some closed calls give, seen. -/
import Derived.Test.YtgepgbbjfhggfaaGreatDoorLibF
set_option maxRecDepth 100000
namespace Go.Proofs.YtgepgbbjfhggfaaGreatDoor.tab
open Go.Ab
theorem QuV:YC (kn3) Qro=true:=by kernel_rfl
theorem QuW:YC (kn4) Qrp=true:=by kernel_rfl
theorem QuX:YC (kn5) Qrq=true:=by kernel_rfl
theorem QuY:YC (kn6) Qrr=true:=by kernel_rfl
end Go.Proofs.YtgepgbbjfhggfaaGreatDoor.tab
