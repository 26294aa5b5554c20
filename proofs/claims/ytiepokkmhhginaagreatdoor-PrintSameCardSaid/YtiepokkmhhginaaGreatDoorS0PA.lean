/- What some closed calls give, seen. -/
import Derived.Test.YtiepokkmhhginaaGreatDoorLibS
set_option maxRecDepth 100000
namespace Go.Proofs.YtiepokkmhhginaaGreatDoor.tab
open Go.Ab
theorem Qwc:YH (xknown xt) Qss=true:=by kernel_rfl
theorem Qwd:YH (xknown xt) Qst=true:=by kernel_rfl
theorem Qwe:YH (xknown xt) Qsu=true:=by kernel_rfl
theorem Qwf:YH (xknown xt) Qsv=true:=by kernel_rfl
theorem Qwg:YH (kn1) Qsw=true:=by kernel_rfl
theorem Qwh:YH (kn2) Qsx=true:=by kernel_rfl
theorem Qwi:YH (kn2) Qsy=true:=by kernel_rfl
theorem Qwj:YH (kn2) Qsz=true:=by kernel_rfl
theorem Qwk:YH (kn2) QsA=true:=by kernel_rfl
theorem Qwl:YH (kn2) QsB=true:=by kernel_rfl
theorem Qwm:YH (kn2) QsC=true:=by kernel_rfl
theorem Qwn:YH (kn2) QsD=true:=by kernel_rfl
theorem Qwo:YH (kn2) QsE=true:=by kernel_rfl
end Go.Proofs.YtiepokkmhhginaaGreatDoor.tab
