/- What some closed calls give, seen. -/
import Derived.Test.YtgepgbbjfhggfaaGreatDoorLibF
set_option maxRecDepth 100000
namespace Go.Proofs.YtgepgbbjfhggfaaGreatDoor.tab
open Go.Ab
theorem QAu:YL (kn3) QwE=true:=by kernel_rfl
theorem QAv:YL (kn4) QwF=true:=by kernel_rfl
theorem QAw:YL (kn5) QwG=true:=by kernel_rfl
theorem QAx:YL (kn6) QwH=true:=by kernel_rfl
end Go.Proofs.YtgepgbbjfhggfaaGreatDoor.tab
