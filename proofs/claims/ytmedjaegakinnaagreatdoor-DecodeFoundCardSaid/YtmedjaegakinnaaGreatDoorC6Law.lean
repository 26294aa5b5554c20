/- The code of the functions that are reached, resolved. -/
import Derived.Test.YtmedjaegakinnaaGreatDoorProg
import Derived.KernelRfl
import Derived.Test.YtmedjaegakinnaaGreatDoorC0Code
set_option linter.unusedVariables false
set_option maxRecDepth 100000
set_option maxHeartbeats 4000000
set_option linter.defProp false
noncomputable section
namespace Go.Proofs.YtmedjaegakinnaaGreatDoor.code
open Go.Ab Tryz
variable (H0 H:Qa) (k:Value->Qa->Prop) (A:Env)
def QI:=rs1 Pg f3 4 rfl rfl
def Qx:(Nat->PC)->List PC:=eL (cL pg0 f3) (λ_=>by cbv)
def YP:PC:=e1 9 Qx (λ_=>by cbv) .skip
def Xi:PC:=e1 8 Qx (λ_=>by cbv) .skip
def YS:PC:=e1 7 Qx (λ_=>by cbv) Xi
def Xj:PC:=e2 6 Qx (λ_ _=>by cbv) YP YS
def YT:PC:=e1 5 Qx (λ_=>by cbv) Xj
def YU:PC:=e1 4 Qx (λ_=>by cbv) .skip
def Xl:PC:=e2 3 Qx (λ_ _=>by cbv) YT YU
def YV:PC:=e1 2 Qx (λ_=>by cbv) .skip
def YW:PC:=e2 1 Qx (λ_ _=>by cbv) Xl YV
def Zp:PC:=e1 0 Qx (λ_=>by cbv) YW
def Qaa:=@ko2 Zp _ _ _ func3 (by kernel_rfl)
def QdZ:=rs1 Pg f5 0 rfl rfl
def GJ:PC:=e0 (cF pg0 f5) (by cbv)
def QeM:=@ko0 GJ _ _ _ func5 (by kernel_rfl)
def Qb4:=rs1 Pg f7 2 rfl rfl
def Ko:PC:=e0 (cF pg0 f7) (by cbv)
def Qc7:=@ko1 Ko _ _ _ func7 (by kernel_rfl)
def Qd0:=rs1 Pg f8 4 rfl rfl
def GL:PC:=e0 (cF pg0 f8) (by cbv)
def QeN:=@ko2 GL _ _ _ func8 (by kernel_rfl)
def Qb5:=rs1 Pg f12 4 rfl rfl
def Kq:PC:=e0 (cF pg0 f12) (by cbv)
def Qc8:=@ko2 Kq _ _ _ func12 (by kernel_rfl)
def VO:=rs1 Pg f15 6 rfl rfl
def QaA:PC:=e0 (cF pg0 f15) (by cbv)
def Qh2:=@ko3 QaA _ _ _ func15 (by kernel_rfl)
def Qhc:=Qvl Pg f16 true 2 4 26 rfl rfl (by kernel_rfl)
def QaB:PC:=e0 (cF pg0 f16) (by cbv)
def Qh3:=@ko2 QaB _ _ _ func16 (by kernel_rfl)
def Qh4:=Qvl Pg f17 true 11 4 50 rfl rfl (by kernel_rfl)
def QbL:PC:=e0 (cF pg0 f17) (by cbv)
def QjK:=@ko2 QbL _ _ _ func17 (by kernel_rfl)
def Qh5:=Qvl Pg f18 true 11 2 50 rfl rfl (by kernel_rfl)
def QbM:PC:=e0 (cF pg0 f18) (by cbv)
def QjL:=@ko1 QbM _ _ _ func18 (by kernel_rfl)
