/- What some closed calls give, seen. -/
import Derived.Test.YtiepokkmhhginaaGreatDoorLibS
set_option maxRecDepth 100000
namespace Go.Proofs.YtiepokkmhhginaaGreatDoor.tab
open Go.Ab
theorem Qwt:YH (kn7) QsJ=true:=by kernel_rfl
theorem Qwu:YH (kn8) QxA=true:=by kernel_rfl
end Go.Proofs.YtiepokkmhhginaaGreatDoor.tab
