/- The code of the functions that are reached, resolved. -/
import Derived.Test.YtgepgbbjfhggfaaGreatDoorProg
import Derived.KernelRfl
import Derived.Test.YtgepgbbjfhggfaaGreatDoorC0Code
import Derived.Test.YtgepgbbjfhggfaaGreatDoorC2Code
set_option linter.unusedVariables false
set_option maxRecDepth 100000
set_option maxHeartbeats 4000000
set_option linter.defProp false
noncomputable section
namespace Go.Proofs.YtgepgbbjfhggfaaGreatDoor.code
open Go.Ab
variable (H0 H:Qa) (k:Value->Qa->Prop) (A:Env)
def Qd8:=rs1 prog Tryz.f51 4 rfl rfl
def Gf:PC:=e0 (cF pg0 Tryz.f51) (by cbv)
def QeW:=@ko2 Gf _ _ _ Tryz.func51 (by kernel_rfl)
def J9:=rs1 prog Tryz.f110 2 rfl rfl
def Zk:(Nat->PC)->List PC:=eL (cL pg0 Tryz.f110) (λ_=>by cbv)
def Qhr:PC:=e1 6 Zk (λ_=>by cbv) .skip
def Qhs:PC:=e1 5 Zk (λ_=>by cbv) Qhr
def QcD:PC:=e1 4 Zk (λ_=>by cbv) Qhs
def Qht:PC:=e1 3 Zk (λ_=>by cbv) .skip
def Qhu:PC:=e1 2 Zk (λ_=>by cbv) Qht
def Qhv:PC:=e1 1 Zk (λ_=>by cbv) Qhu
def QkS:PC:=e2 0 Zk (λ_ _=>by cbv) QcD Qhv
def QsE:=@ko1 QkS _ _ _ Tryz.func110 (by kernel_rfl)
def Qi3:=rs1 prog Tryz.f212 2 rfl rfl
def QkT:PC:=e0 (cF pg0 Tryz.f212) (by cbv)
def QsF:=@ko1 QkT _ _ _ Tryz.func212 (by kernel_rfl)
def Qrb:=rs1 prog Tryz.f343 2 rfl rfl
def QkU:PC:=e0 (cF pg0 Tryz.f343) (by cbv)
def QsG:=@ko1 QkU _ _ _ Tryz.func343 (by kernel_rfl)
def Zl:=rs1 prog Tryz.f344 2 rfl rfl
def ZO:(Nat->PC)->List PC:=eL (cL pg0 Tryz.f344) (λ_=>by cbv)
def XZ:PC:=e1 4 ZO (λ_=>by cbv) .skip
def X0:PC:=e1 3 ZO (λ_=>by cbv) .skip
def X1:PC:=e2 2 ZO (λ_ _=>by cbv) XZ X0
def X2:PC:=e1 1 ZO (λ_=>by cbv) .skip
def QfY:PC:=e2 0 ZO (λ_ _=>by cbv) X1 X2
def QoP:=@ko1 QfY _ _ _ Tryz.func344 (by kernel_rfl)
def QkV:=rs1 prog Tryz.f345 2 rfl rfl
def Qmm:PC:=e0 (cF pg0 Tryz.f345) (by cbv)
def QtP:=@ko1 Qmm _ _ _ Tryz.func345 (by kernel_rfl)
def QbI:=rs1 prog Tryz.f346 2 rfl rfl
def Qhw:PC:=e0 (cF pg0 Tryz.f346) (by cbv)
def QpN:=@ko1 Qhw _ _ _ Tryz.func346 (by kernel_rfl)
def QdE:=rs1 prog Tryz.f347 2 rfl rfl
def QkW:PC:=e0 (cF pg0 Tryz.f347) (by cbv)
def QsH:=@ko1 QkW _ _ _ Tryz.func347 (by kernel_rfl)
def QeX:=rs1 prog Tryz.f377 4 rfl rfl
def Kf:(Nat->PC)->List PC:=eL (cL pg0 Tryz.f377) (λ_=>by cbv)
def Qi4:PC:=e1 5 Kf (λ_=>by cbv) .skip
def Qi5:PC:=e1 4 Kf (λ_=>by cbv) Qi4
def Qi6:PC:=e1 3 Kf (λ_=>by cbv) .skip
def Qi7:PC:=e2 2 Kf (λ_ _=>by cbv) Qi5 Qi6
def Qi8:PC:=e1 1 Kf (λ_=>by cbv) Qi7
def Qmn:PC:=e1 0 Kf (λ_=>by cbv) Qi8
def QtQ:=@ko2 Qmn _ _ _ Tryz.func377 (by kernel_rfl)
end Go.Proofs.YtgepgbbjfhggfaaGreatDoor.code
