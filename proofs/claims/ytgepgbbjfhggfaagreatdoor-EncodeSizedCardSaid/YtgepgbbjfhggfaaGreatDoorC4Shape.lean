/- The code of the functions that are reached, resolved. -/
import Derived.Test.YtgepgbbjfhggfaaGreatDoorProg
import Derived.KernelRfl
import Derived.Test.YtgepgbbjfhggfaaGreatDoorC0Code
import Derived.Test.YtgepgbbjfhggfaaGreatDoorC2Code
set_option linter.unusedVariables false
set_option maxRecDepth 100000
set_option maxHeartbeats 4000000
set_option linter.defProp false
noncomputable section
namespace Go.Proofs.YtgepgbbjfhggfaaGreatDoor.code
open Go.Ab
variable (H0 H:Qa) (k:Value->Qa->Prop) (A:Env)
def Qeb:=rs1 prog Tryz.f51 4 rfl rfl
def Gg:PC:=e0 (cF pg0 Tryz.f51) (by cbv)
def QeZ:=@ko2 Gg _ _ _ Tryz.func51 (by kernel_rfl)
def Kd:=rs1 prog Tryz.f110 2 rfl rfl
def Zo:(Nat->PC)->List PC:=eL (cL pg0 Tryz.f110) (λ_=>by cbv)
def Qhw:PC:=e1 6 Zo (λ_=>by cbv) .skip
def Qhx:PC:=e1 5 Zo (λ_=>by cbv) Qhw
def QcL:PC:=e1 4 Zo (λ_=>by cbv) Qhx
def Qhy:PC:=e1 3 Zo (λ_=>by cbv) .skip
def Qhz:PC:=e1 2 Zo (λ_=>by cbv) Qhy
def QhA:PC:=e1 1 Zo (λ_=>by cbv) Qhz
def QkY:PC:=e2 0 Zo (λ_ _=>by cbv) QcL QhA
def QsT:=@ko1 QkY _ _ _ Tryz.func110 (by kernel_rfl)
def Qje:=rs1 prog Tryz.f212 2 rfl rfl
def QkZ:PC:=e0 (cF pg0 Tryz.f212) (by cbv)
def QsU:=@ko1 QkZ _ _ _ Tryz.func212 (by kernel_rfl)
def Qrn:=rs1 prog Tryz.f343 2 rfl rfl
def Qk0:PC:=e0 (cF pg0 Tryz.f343) (by cbv)
def QsV:=@ko1 Qk0 _ _ _ Tryz.func343 (by kernel_rfl)
def Zp:=rs1 prog Tryz.f344 2 rfl rfl
def ZP:(Nat->PC)->List PC:=eL (cL pg0 Tryz.f344) (λ_=>by cbv)
def X1:PC:=e1 4 ZP (λ_=>by cbv) .skip
def X2:PC:=e1 3 ZP (λ_=>by cbv) .skip
def X3:PC:=e2 2 ZP (λ_ _=>by cbv) X1 X2
def X4:PC:=e1 1 ZP (λ_=>by cbv) .skip
def Qf4:PC:=e2 0 ZP (λ_ _=>by cbv) X3 X4
def QoZ:=@ko1 Qf4 _ _ _ Tryz.func344 (by kernel_rfl)
def Qk1:=rs1 prog Tryz.f345 2 rfl rfl
def Qmu:PC:=e0 (cF pg0 Tryz.f345) (by cbv)
def Qt4:=@ko1 Qmu _ _ _ Tryz.func345 (by kernel_rfl)
def QbK:=rs1 prog Tryz.f346 2 rfl rfl
def QhB:PC:=e0 (cF pg0 Tryz.f346) (by cbv)
def QpZ:=@ko1 QhB _ _ _ Tryz.func346 (by kernel_rfl)
def QdI:=rs1 prog Tryz.f347 2 rfl rfl
def Qk2:PC:=e0 (cF pg0 Tryz.f347) (by cbv)
def QsW:=@ko1 Qk2 _ _ _ Tryz.func347 (by kernel_rfl)
def Qe0:=rs1 prog Tryz.f377 4 rfl rfl
def Ki:(Nat->PC)->List PC:=eL (cL pg0 Tryz.f377) (λ_=>by cbv)
def Qjf:PC:=e1 5 Ki (λ_=>by cbv) .skip
def Qjg:PC:=e1 4 Ki (λ_=>by cbv) Qjf
def Qjh:PC:=e1 3 Ki (λ_=>by cbv) .skip
def Qji:PC:=e2 2 Ki (λ_ _=>by cbv) Qjg Qjh
def Qjj:PC:=e1 1 Ki (λ_=>by cbv) Qji
def Qmv:PC:=e1 0 Ki (λ_=>by cbv) Qjj
def Qt5:=@ko2 Qmv _ _ _ Tryz.func377 (by kernel_rfl)
end Go.Proofs.YtgepgbbjfhggfaaGreatDoor.code
