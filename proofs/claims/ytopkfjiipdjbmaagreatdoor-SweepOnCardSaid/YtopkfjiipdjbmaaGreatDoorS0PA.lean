/- What some closed calls give, seen. -/
import Derived.Test.YtopkfjiipdjbmaaGreatDoorLibS
set_option maxRecDepth 100000
namespace Go.Proofs.YtopkfjiipdjbmaaGreatDoor.tab
open Go.Ab
theorem Qz4:YU (xknown xt) Qvy=true:=by kernel_rfl
theorem Qz5:YU (xknown xt) Qvz=true:=by kernel_rfl
theorem Qz6:YU (xknown xt) QvA=true:=by kernel_rfl
theorem Qz7:YU (xknown xt) QvB=true:=by kernel_rfl
theorem Qz8:YU (kn1) QvC=true:=by kernel_rfl
theorem Qz9:YU (kn2) QvD=true:=by kernel_rfl
theorem QAa:YU (kn2) QvE=true:=by kernel_rfl
theorem QAb:YU (kn2) QvF=true:=by kernel_rfl
theorem QAc:YU (kn2) QvG=true:=by kernel_rfl
theorem QAd:YU (kn2) QvH=true:=by kernel_rfl
theorem QAe:YU (kn2) QvI=true:=by kernel_rfl
theorem QAf:YU (kn2) QvJ=true:=by kernel_rfl
theorem QAg:YU (kn2) QvK=true:=by kernel_rfl
end Go.Proofs.YtopkfjiipdjbmaaGreatDoor.tab
