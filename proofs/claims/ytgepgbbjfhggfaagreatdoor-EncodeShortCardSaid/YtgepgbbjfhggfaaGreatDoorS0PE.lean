/- What some closed calls give, seen. -/
import Derived.Test.YtgepgbbjfhggfaaGreatDoorLibF
set_option maxRecDepth 100000
namespace Go.Proofs.YtgepgbbjfhggfaaGreatDoor.tab
open Go.Ab
theorem Qx8:YH (QJm) Qtc=true:=by kernel_rfl
theorem Qx9:YH (QJn) Qtd=true:=by kernel_rfl
theorem Qya:YH (QJo) Qx5=true:=by kernel_rfl
end Go.Proofs.YtgepgbbjfhggfaaGreatDoor.tab
