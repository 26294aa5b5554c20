/- What some closed calls give, seen. -/
import Derived.Test.YtgepgbbjfhggfaaGreatDoorLibF
set_option maxRecDepth 100000
namespace Go.Proofs.YtgepgbbjfhggfaaGreatDoor.tab
open Go.Ab
theorem QuI:YC (xknown xt) Qrb=true:=by kernel_rfl
theorem QuJ:YC (xknown xt) Qrc=true:=by kernel_rfl
theorem QuK:YC (xknown xt) Qrd=true:=by kernel_rfl
theorem QuL:YC (xknown xt) Qre=true:=by kernel_rfl
theorem QuM:YC (kn1) Qrf=true:=by kernel_rfl
theorem QuN:YC (kn2) Qrg=true:=by kernel_rfl
theorem QuO:YC (kn2) Qrh=true:=by kernel_rfl
theorem QuP:YC (kn2) Qri=true:=by kernel_rfl
theorem QuQ:YC (kn2) Qrj=true:=by kernel_rfl
theorem QuR:YC (kn2) Qrk=true:=by kernel_rfl
theorem QuS:YC (kn2) Qrl=true:=by kernel_rfl
theorem QuT:YC (kn2) Qrm=true:=by kernel_rfl
theorem QuU:YC (kn2) Qrn=true:=by kernel_rfl
end Go.Proofs.YtgepgbbjfhggfaaGreatDoor.tab
