/- The code of the functions that are reached, resolved. -/
import Derived.Test.YtgepgbbjfhggfaaGreatDoorProg
import Derived.KernelRfl
import Derived.Test.YtgepgbbjfhggfaaGreatDoorC0Code
set_option linter.unusedVariables false
set_option maxRecDepth 100000
set_option maxHeartbeats 4000000
set_option linter.defProp false
noncomputable section
namespace Go.Proofs.YtgepgbbjfhggfaaGreatDoor.code
open Go.Ab
variable (H0 H:Qa) (k:Value->Qa->Prop) (A:Env)
def JE:=rs1 prog Tryz.f3 4 rfl rfl
def Kc:(Nat->PC)->List PC:=eL (cL pg0 Tryz.f3) (λ_=>by cbv)
def Jy:PC:=e1 1 Kc (λ_=>by cbv) .skip
def Kd:PC:=e1 0 Kc (λ_=>by cbv) Jy
def QdG:=@ko2 Kd _ _ _ Tryz.func3 (by kernel_rfl)
def QhC:=rs1 prog Tryz.f7 0 rfl rfl
def QbL:PC:=e0 (cF pg0 Tryz.f7) (by cbv)
def Qiw:=@ko0 QbL _ _ _ Tryz.func7 (by kernel_rfl)
def Qe7:=rs1 prog Tryz.f11 4 rfl rfl
def VE:PC:=e0 (cF pg0 Tryz.f11) (by cbv)
def Qgh:=@ko2 VE _ _ _ Tryz.func11 (by kernel_rfl)
def Qld:=Qvk prog Tryz.f24 true 2 4 24 rfl rfl (by kernel_rfl)
def QdX:PC:=e0 (cF pg0 Tryz.f24) (by cbv)
def QlP:=@ko2 QdX _ _ _ Tryz.func24 (by kernel_rfl)
def Qle:=rs1 prog Tryz.f25 6 rfl rfl
def QdY:PC:=e0 (cF pg0 Tryz.f25) (by cbv)
def QlQ:=@ko3 QdY _ _ _ Tryz.func25 (by kernel_rfl)
def QlR:=Qvk prog Tryz.f26 true 11 4 58 rfl rfl (by kernel_rfl)
def Qe1:PC:=e0 (cF pg0 Tryz.f26) (by cbv)
def Qnm:=@ko2 Qe1 _ _ _ Tryz.func26 (by kernel_rfl)
def QlS:=Qvk prog Tryz.f27 true 11 2 58 rfl rfl (by kernel_rfl)
def Qe2:PC:=e0 (cF pg0 Tryz.f27) (by cbv)
def Qnn:=@ko1 Qe2 _ _ _ Tryz.func27 (by kernel_rfl)
def Qix:=rs1 prog Tryz.f28 2 rfl rfl
def Qcm:PC:=e0 (cF pg0 Tryz.f28) (by cbv)
def QjP:=@ko1 Qcm _ _ _ Tryz.func28 (by kernel_rfl)
end Go.Proofs.YtgepgbbjfhggfaaGreatDoor.code
