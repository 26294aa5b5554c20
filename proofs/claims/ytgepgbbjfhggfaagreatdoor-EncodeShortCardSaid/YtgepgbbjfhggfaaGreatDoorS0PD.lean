/- What some closed calls give, seen. -/
import Derived.Test.YtgepgbbjfhggfaaGreatDoorLibF
set_option maxRecDepth 100000
namespace Go.Proofs.YtgepgbbjfhggfaaGreatDoor.tab
open Go.Ab
theorem Qx6:YH (QJk) Qta=true:=by kernel_rfl
theorem Qx7:YH (QJl) Qtb=true:=by kernel_rfl
end Go.Proofs.YtgepgbbjfhggfaaGreatDoor.tab
