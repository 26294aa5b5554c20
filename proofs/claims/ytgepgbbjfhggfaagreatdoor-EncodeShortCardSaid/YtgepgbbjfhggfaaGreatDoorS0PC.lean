/- What some closed calls give, seen. -/
import Derived.Test.YtgepgbbjfhggfaaGreatDoorLibF
set_option maxRecDepth 100000
namespace Go.Proofs.YtgepgbbjfhggfaaGreatDoor.tab
open Go.Ab
theorem QAe:YH (kn7) Qwr=true:=by kernel_rfl
theorem QAf:YH (kn8) Qws=true:=by kernel_rfl
end Go.Proofs.YtgepgbbjfhggfaaGreatDoor.tab
