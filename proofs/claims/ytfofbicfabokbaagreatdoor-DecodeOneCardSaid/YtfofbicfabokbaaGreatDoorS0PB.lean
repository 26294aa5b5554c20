/- What some closed calls give, seen. -/
import Derived.Test.YtfofbicfabokbaaGreatDoorS0Sums
set_option maxRecDepth 100000
namespace Go.Proofs.YtfofbicfabokbaaGreatDoor.tab
open Go.Ab
theorem QoU:X6 (kn3) Qlx=true:=by kernel_rfl
theorem QoV:X6 (kn4) Qly=true:=by kernel_rfl
theorem QoW:X6 (kn5) Qlz=true:=by kernel_rfl
theorem QoX:X6 (kn6) QlA=true:=by kernel_rfl
end Go.Proofs.YtfofbicfabokbaaGreatDoor.tab
