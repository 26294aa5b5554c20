/- What some closed calls give, seen. -/
import Derived.Test.YtgepgbbjfhggfaaGreatDoorLibF
set_option maxRecDepth 100000
namespace Go.Proofs.YtgepgbbjfhggfaaGreatDoor.tab
open Go.Ab
theorem QAh:YL (xknown xt) Qwr=true:=by kernel_rfl
theorem QAi:YL (xknown xt) Qws=true:=by kernel_rfl
theorem QAj:YL (xknown xt) Qwt=true:=by kernel_rfl
theorem QAk:YL (xknown xt) Qwu=true:=by kernel_rfl
theorem QAl:YL (kn1) Qwv=true:=by kernel_rfl
theorem QAm:YL (kn2) Qww=true:=by kernel_rfl
theorem QAn:YL (kn2) Qwx=true:=by kernel_rfl
theorem QAo:YL (kn2) Qwy=true:=by kernel_rfl
theorem QAp:YL (kn2) Qwz=true:=by kernel_rfl
theorem QAq:YL (kn2) QwA=true:=by kernel_rfl
theorem QAr:YL (kn2) QwB=true:=by kernel_rfl
theorem QAs:YL (kn2) QwC=true:=by kernel_rfl
theorem QAt:YL (kn2) QwD=true:=by kernel_rfl
end Go.Proofs.YtgepgbbjfhggfaaGreatDoor.tab
