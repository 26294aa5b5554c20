/- What some closed calls give, seen. -/
import Derived.Test.YtiepokkmhhginaaGreatDoorLibS
set_option maxRecDepth 100000
namespace Go.Proofs.YtiepokkmhhginaaGreatDoor.tab
open Go.Ab
theorem Qwp:YH (kn3) QsF=true:=by kernel_rfl
theorem Qwq:YH (kn4) QsG=true:=by kernel_rfl
theorem Qwr:YH (kn5) QsH=true:=by kernel_rfl
theorem Qws:YH (kn6) QsI=true:=by kernel_rfl
end Go.Proofs.YtiepokkmhhginaaGreatDoor.tab
