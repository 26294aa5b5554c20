/- What some closed calls give, seen. -/
import Derived.Test.YtgepgbbjfhggfaaGreatDoorLibF
set_option maxRecDepth 100000
namespace Go.Proofs.YtgepgbbjfhggfaaGreatDoor.tab
open Go.Ab
theorem QAy:YL (kn7) QwI=true:=by kernel_rfl
theorem QAz:YL (kn8) QwJ=true:=by kernel_rfl
theorem QAA:YL (kn9) QwK=true:=by kernel_rfl
end Go.Proofs.YtgepgbbjfhggfaaGreatDoor.tab
