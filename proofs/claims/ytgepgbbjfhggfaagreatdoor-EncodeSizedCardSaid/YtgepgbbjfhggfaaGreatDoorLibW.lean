/- The code of the functions that are reached, resolved. -/
import Derived.Test.YtgepgbbjfhggfaaGreatDoorProg
import Derived.KernelRfl
import Derived.Test.YtgepgbbjfhggfaaGreatDoorC0Code
set_option linter.unusedVariables false
set_option maxRecDepth 100000
set_option maxHeartbeats 4000000
set_option linter.defProp false
noncomputable section
namespace Go.Proofs.YtgepgbbjfhggfaaGreatDoor.code
open Go.Ab
variable (H0 H:Qa) (k:Value->Qa->Prop) (A:Env)
def JH:=rs1 prog Tryz.f5 2 rfl rfl
def Kf:(Nat->PC)->List PC:=eL (cL pg0 Tryz.f5) (λ_=>by cbv)
def JA:PC:=e1 1 Kf (λ_=>by cbv) .skip
def Kg:PC:=e1 0 Kf (λ_=>by cbv) JA
def QdK:=@ko1 Kg _ _ _ Tryz.func5 (by kernel_rfl)
def QhH:=rs1 prog Tryz.f7 0 rfl rfl
def QbN:PC:=e0 (cF pg0 Tryz.f7) (by cbv)
def QiH:=@ko0 QbN _ _ _ Tryz.func7 (by kernel_rfl)
def Qfc:=rs1 prog Tryz.f11 4 rfl rfl
def VK:PC:=e0 (cF pg0 Tryz.f11) (by cbv)
def Qgn:=@ko2 VK _ _ _ Tryz.func11 (by kernel_rfl)
def Qgo:=rs0 prog Tryz.f19 rfl
def JB:(Nat->PC)->List PC:=eL (cL pg0 Tryz.f19) (λ_=>by cbv)
def GD:PC:=e1 2 JB (λ_=>by cbv) .skip
def GE:PC:=e1 1 JB (λ_=>by cbv) GD
def QaB:PC:=e1 0 JB (λ_=>by cbv) GE
def QhI:=@ko1 QaB _ _ _ Tryz.func19 (by kernel_rfl)
def Qlk:=QtG prog Tryz.f24 true 2 4 24 rfl rfl (by kernel_rfl)
def Qd0:PC:=e0 (cF pg0 Tryz.f24) (by cbv)
def QlX:=@ko2 Qd0 _ _ _ Tryz.func24 (by kernel_rfl)
def Qll:=rs1 prog Tryz.f25 6 rfl rfl
def Qd1:PC:=e0 (cF pg0 Tryz.f25) (by cbv)
def QlY:=@ko3 Qd1 _ _ _ Tryz.func25 (by kernel_rfl)
def QlZ:=QtG prog Tryz.f26 true 11 4 58 rfl rfl (by kernel_rfl)
def Qe5:PC:=e0 (cF pg0 Tryz.f26) (by cbv)
def Qns:=@ko2 Qe5 _ _ _ Tryz.func26 (by kernel_rfl)
def Ql0:=QtG prog Tryz.f27 true 11 2 58 rfl rfl (by kernel_rfl)
def Qe6:PC:=e0 (cF pg0 Tryz.f27) (by cbv)
def Qnt:=@ko1 Qe6 _ _ _ Tryz.func27 (by kernel_rfl)
def QiI:=rs1 prog Tryz.f28 2 rfl rfl
def Qcr:PC:=e0 (cF pg0 Tryz.f28) (by cbv)
def QjW:=@ko1 Qcr _ _ _ Tryz.func28 (by kernel_rfl)
def Qnu:=rs1 prog Tryz.f39 2 rfl rfl
def Qf8:PC:=e0 (cF pg0 Tryz.f39) (by cbv)
def Qpf:=@ko1 Qf8 _ _ _ Tryz.func39 (by kernel_rfl)
def Qpg:=QtG prog Tryz.f40 true 2 2 24 rfl rfl (by kernel_rfl)
def QhJ:PC:=e0 (cF pg0 Tryz.f40) (by cbv)
def Qqc:=@ko1 QhJ _ _ _ Tryz.func40 (by kernel_rfl)
end Go.Proofs.YtgepgbbjfhggfaaGreatDoor.code
