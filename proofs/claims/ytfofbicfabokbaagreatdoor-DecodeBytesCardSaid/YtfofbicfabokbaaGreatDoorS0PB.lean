/- What some closed calls give, seen. -/
import Derived.Test.YtfofbicfabokbaaGreatDoorLibS
set_option maxRecDepth 100000
namespace Go.Proofs.YtfofbicfabokbaaGreatDoor.tab
open Go.Ab
theorem QxB:YE (kn3) Qua=true:=by kernel_rfl
theorem QxC:YE (kn4) Qub=true:=by kernel_rfl
theorem QxD:YE (kn5) Quc=true:=by kernel_rfl
theorem QxE:YE (kn6) Qud=true:=by kernel_rfl
theorem QxF:YE (kn7) Que=true:=by kernel_rfl
theorem QxG:YE (kn8) Quf=true:=by kernel_rfl
end Go.Proofs.YtfofbicfabokbaaGreatDoor.tab
