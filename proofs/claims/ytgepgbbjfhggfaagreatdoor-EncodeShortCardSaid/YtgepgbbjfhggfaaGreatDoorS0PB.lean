/- What some closed calls give, seen. -/
import Derived.Test.YtgepgbbjfhggfaaGreatDoorLibF
set_option maxRecDepth 100000
namespace Go.Proofs.YtgepgbbjfhggfaaGreatDoor.tab
open Go.Ab
theorem QAa:YH (kn3) Qwn=true:=by kernel_rfl
theorem QAb:YH (kn4) Qwo=true:=by kernel_rfl
theorem QAc:YH (kn5) Qwp=true:=by kernel_rfl
theorem QAd:YH (kn6) Qwq=true:=by kernel_rfl
end Go.Proofs.YtgepgbbjfhggfaaGreatDoor.tab
