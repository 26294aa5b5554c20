/- What some closed calls give, seen. -/
import Derived.Test.YtgepgbbjfhggfaaGreatDoorLibF
set_option maxRecDepth 100000
namespace Go.Proofs.YtgepgbbjfhggfaaGreatDoor.tab
open Go.Ab
theorem QsI:X0 (xknown xt) Qpj=true:=by kernel_rfl
theorem QsJ:X0 (xknown xt) Qpk=true:=by kernel_rfl
theorem QsK:X0 (xknown xt) Qpl=true:=by kernel_rfl
theorem QsL:X0 (xknown xt) Qpm=true:=by kernel_rfl
theorem QsM:X0 (kn1) Qpn=true:=by kernel_rfl
theorem QsN:X0 (kn2) Qpo=true:=by kernel_rfl
theorem QsO:X0 (kn2) Qpp=true:=by kernel_rfl
theorem QsP:X0 (kn2) Qpq=true:=by kernel_rfl
theorem QsQ:X0 (kn2) Qpr=true:=by kernel_rfl
theorem QsR:X0 (kn2) Qps=true:=by kernel_rfl
theorem QsS:X0 (kn2) Qpt=true:=by kernel_rfl
theorem QsT:X0 (kn2) Qpu=true:=by kernel_rfl
theorem QsU:X0 (kn2) Qpv=true:=by kernel_rfl
end Go.Proofs.YtgepgbbjfhggfaaGreatDoor.tab
