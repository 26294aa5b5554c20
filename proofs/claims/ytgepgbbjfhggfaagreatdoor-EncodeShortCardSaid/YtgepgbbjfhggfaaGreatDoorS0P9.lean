/- What some closed calls give, seen. -/
import Derived.Test.YtgepgbbjfhggfaaGreatDoorLibF
set_option maxRecDepth 100000
namespace Go.Proofs.YtgepgbbjfhggfaaGreatDoor.tab
open Go.Ab
theorem QAg:YH (kn9) Qwt=true:=by kernel_rfl
end Go.Proofs.YtgepgbbjfhggfaaGreatDoor.tab
