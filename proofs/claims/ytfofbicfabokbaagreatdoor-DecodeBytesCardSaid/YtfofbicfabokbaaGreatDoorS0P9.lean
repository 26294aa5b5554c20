/- What some closed calls give, seen. -/
import Derived.Test.YtfofbicfabokbaaGreatDoorLibS
set_option maxRecDepth 100000
namespace Go.Proofs.YtfofbicfabokbaaGreatDoor.tab
open Go.Ab
theorem QxH:YE (kn9) Qug=true:=by kernel_rfl
end Go.Proofs.YtfofbicfabokbaaGreatDoor.tab
