/- What some closed calls give, seen. -/
import Derived.Test.YtfofbicfabokbaaGreatDoorS0Sums
set_option maxRecDepth 100000
namespace Go.Proofs.YtfofbicfabokbaaGreatDoor.tab
open Go.Ab
theorem QoH:X6 (xknown xt) Qlk=true:=by kernel_rfl
theorem QoI:X6 (xknown xt) Qll=true:=by kernel_rfl
theorem QoJ:X6 (xknown xt) Qlm=true:=by kernel_rfl
theorem QoK:X6 (xknown xt) Qln=true:=by kernel_rfl
theorem QoL:X6 (kn1) Qlo=true:=by kernel_rfl
theorem QoM:X6 (kn2) Qlp=true:=by kernel_rfl
theorem QoN:X6 (kn2) Qlq=true:=by kernel_rfl
theorem QoO:X6 (kn2) Qlr=true:=by kernel_rfl
theorem QoP:X6 (kn2) Qls=true:=by kernel_rfl
theorem QoQ:X6 (kn2) Qlt=true:=by kernel_rfl
theorem QoR:X6 (kn2) Qlu=true:=by kernel_rfl
theorem QoS:X6 (kn2) Qlv=true:=by kernel_rfl
theorem QoT:X6 (kn2) Qlw=true:=by kernel_rfl
end Go.Proofs.YtfofbicfabokbaaGreatDoor.tab
