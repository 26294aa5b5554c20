/- What some closed calls give, seen. -/
import Derived.Test.YtfofbicfabokbaaGreatDoorLibS
set_option maxRecDepth 100000
namespace Go.Proofs.YtfofbicfabokbaaGreatDoor.tab
open Go.Ab
theorem QvB:YE (QHy) Qrh=true:=by kernel_rfl
theorem QvC:YE (QHz) Qri=true:=by kernel_rfl
theorem QvD:YE (QHA) Qrj=true:=by kernel_rfl
theorem QvE:YE (QHB) Qrk=true:=by kernel_rfl
theorem QvF:YE (QHC) QvA=true:=by kernel_rfl
end Go.Proofs.YtfofbicfabokbaaGreatDoor.tab
