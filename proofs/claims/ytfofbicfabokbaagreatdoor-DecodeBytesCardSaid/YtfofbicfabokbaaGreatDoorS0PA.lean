/- What some closed calls give, seen. -/
import Derived.Test.YtfofbicfabokbaaGreatDoorLibS
set_option maxRecDepth 100000
namespace Go.Proofs.YtfofbicfabokbaaGreatDoor.tab
open Go.Ab
theorem Qxo:YE (xknown xt) QtX=true:=by kernel_rfl
theorem Qxp:YE (xknown xt) QtY=true:=by kernel_rfl
theorem Qxq:YE (xknown xt) QtZ=true:=by kernel_rfl
theorem Qxr:YE (xknown xt) Qt0=true:=by kernel_rfl
theorem Qxs:YE (kn1) Qt1=true:=by kernel_rfl
theorem Qxt:YE (kn2) Qt2=true:=by kernel_rfl
theorem Qxu:YE (kn2) Qt3=true:=by kernel_rfl
theorem Qxv:YE (kn2) Qt4=true:=by kernel_rfl
theorem Qxw:YE (kn2) Qt5=true:=by kernel_rfl
theorem Qxx:YE (kn2) Qt6=true:=by kernel_rfl
theorem Qxy:YE (kn2) Qt7=true:=by kernel_rfl
theorem Qxz:YE (kn2) Qt8=true:=by kernel_rfl
theorem QxA:YE (kn2) Qt9=true:=by kernel_rfl
end Go.Proofs.YtfofbicfabokbaaGreatDoor.tab
