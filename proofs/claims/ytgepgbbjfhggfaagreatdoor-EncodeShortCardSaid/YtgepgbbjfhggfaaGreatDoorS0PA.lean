/- What some closed calls give, seen. -/
import Derived.Test.YtgepgbbjfhggfaaGreatDoorLibF
set_option maxRecDepth 100000
namespace Go.Proofs.YtgepgbbjfhggfaaGreatDoor.tab
open Go.Ab
theorem QzX:YH (xknown xt) Qwa=true:=by kernel_rfl
theorem QzY:YH (xknown xt) Qwb=true:=by kernel_rfl
theorem QzZ:YH (xknown xt) Qwc=true:=by kernel_rfl
theorem Qz0:YH (xknown xt) Qwd=true:=by kernel_rfl
theorem Qz1:YH (kn1) Qwe=true:=by kernel_rfl
theorem Qz2:YH (kn2) Qwf=true:=by kernel_rfl
theorem Qz3:YH (kn2) Qwg=true:=by kernel_rfl
theorem Qz4:YH (kn2) Qwh=true:=by kernel_rfl
theorem Qz5:YH (kn2) Qwi=true:=by kernel_rfl
theorem Qz6:YH (kn2) Qwj=true:=by kernel_rfl
theorem Qz7:YH (kn2) Qwk=true:=by kernel_rfl
theorem Qz8:YH (kn2) Qwl=true:=by kernel_rfl
theorem Qz9:YH (kn2) Qwm=true:=by kernel_rfl
end Go.Proofs.YtgepgbbjfhggfaaGreatDoor.tab
