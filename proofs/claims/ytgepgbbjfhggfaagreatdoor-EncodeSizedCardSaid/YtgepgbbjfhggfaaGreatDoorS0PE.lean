/- What some closed calls give, seen. -/
import Derived.Test.YtgepgbbjfhggfaaGreatDoorLibF
set_option maxRecDepth 100000
namespace Go.Proofs.YtgepgbbjfhggfaaGreatDoor.tab
open Go.Ab
theorem Qyq:YL (QJK) Qtr=true:=by kernel_rfl
theorem Qyr:YL (QJL) Qts=true:=by kernel_rfl
theorem Qys:YL (QJM) Qyn=true:=by kernel_rfl
end Go.Proofs.YtgepgbbjfhggfaaGreatDoor.tab
