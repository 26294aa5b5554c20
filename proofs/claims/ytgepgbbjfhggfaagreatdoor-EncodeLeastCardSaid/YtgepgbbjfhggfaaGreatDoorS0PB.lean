/- What some closed calls give, seen. -/
import Derived.Test.YtgepgbbjfhggfaaGreatDoorLibF
set_option maxRecDepth 100000
namespace Go.Proofs.YtgepgbbjfhggfaaGreatDoor.tab
open Go.Ab
theorem QsV:X0 (kn3) Qpw=true:=by kernel_rfl
theorem QsW:X0 (kn4) Qpx=true:=by kernel_rfl
theorem QsX:X0 (kn5) Qpy=true:=by kernel_rfl
theorem QsY:X0 (kn6) Qpz=true:=by kernel_rfl
end Go.Proofs.YtgepgbbjfhggfaaGreatDoor.tab
