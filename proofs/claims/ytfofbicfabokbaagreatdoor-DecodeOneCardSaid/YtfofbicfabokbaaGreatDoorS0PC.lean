/- What some closed calls give, seen. -/
import Derived.Test.YtfofbicfabokbaaGreatDoorS0Sums
set_option maxRecDepth 100000
namespace Go.Proofs.YtfofbicfabokbaaGreatDoor.tab
open Go.Ab
theorem QoY:X6 (kn7) QlB=true:=by kernel_rfl
theorem QoZ:X6 (kn8) QpF=true:=by kernel_rfl
end Go.Proofs.YtfofbicfabokbaaGreatDoor.tab
