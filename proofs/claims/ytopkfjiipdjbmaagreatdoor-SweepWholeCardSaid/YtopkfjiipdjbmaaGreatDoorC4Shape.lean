import Derived.Test.YtopkfjiipdjbmaaGreatDoorProg
import Derived.KernelRfl
import Derived.Test.YtopkfjiipdjbmaaGreatDoorC0Code
import Derived.Test.YtopkfjiipdjbmaaGreatDoorC2Code
set_option linter.unusedVariables false
set_option maxRecDepth 100000
set_option maxHeartbeats 4000000
set_option linter.defProp false
noncomputable section
namespace Go.Proofs.YtopkfjiipdjbmaaGreatDoor.code
open Go.Ab Tryz
variable (H0 H:Qa) (k:Value->Qa->Prop) (A:Env)
def Qb6:=rs1 Pg f70 4 rfl rfl
def JA:PC:=e0 (cF pg0 f70) (by cbv)
def Qdq:=@ko2 JA _ _ _ func70 (by kernel_rfl)
def Zw:=rs1 Pg f129 2 rfl rfl
def XO:(Nat->PC)->List PC:=eL (cL pg0 f129) (λ_=>by cbv)
def Qf1:PC:=e1 6 XO (λ_=>by cbv) .skip
def Qf2:PC:=e1 5 XO (λ_=>by cbv) Qf1
def Qan:PC:=e1 4 XO (λ_=>by cbv) Qf2
def Qf3:PC:=e1 3 XO (λ_=>by cbv) .skip
def Qf4:PC:=e1 2 XO (λ_=>by cbv) Qf3
def Qf5:PC:=e1 1 XO (λ_=>by cbv) Qf4
def Qjo:PC:=e2 0 XO (λ_ _=>by cbv) Qan Qf5
def QsA:=@ko1 Qjo _ _ _ func129 (by kernel_rfl)
def QhG:=rs1 Pg f183 2 rfl rfl
def Qjp:PC:=e0 (cF pg0 f183) (by cbv)
def QsB:=@ko1 Qjp _ _ _ func183 (by kernel_rfl)
def Qqp:=rs1 Pg f275 2 rfl rfl
def Qjq:PC:=e0 (cF pg0 f275) (by cbv)
def QsC:=@ko1 Qjq _ _ _ func275 (by kernel_rfl)
def XP:=rs1 Pg f276 2 rfl rfl
def Yr:(Nat->PC)->List PC:=eL (cL pg0 f276) (λ_=>by cbv)
def WS:PC:=e1 4 Yr (λ_=>by cbv) .skip
def WT:PC:=e1 3 Yr (λ_=>by cbv) .skip
def WU:PC:=e2 2 Yr (λ_ _=>by cbv) WS WT
def WV:PC:=e1 1 Yr (λ_=>by cbv) .skip
def Qey:PC:=e2 0 Yr (λ_ _=>by cbv) WU WV
def Qny:=@ko1 Qey _ _ _ func276 (by kernel_rfl)
def Qjr:=rs1 Pg f277 2 rfl rfl
def Qk4:PC:=e0 (cF pg0 f277) (by cbv)
def QtI:=@ko1 Qk4 _ _ _ func277 (by kernel_rfl)
def Vw:=rs1 Pg f278 2 rfl rfl
def Qf6:PC:=e0 (cF pg0 f278) (by cbv)
def QoL:=@ko1 Qf6 _ _ _ func278 (by kernel_rfl)
def Qbd:=rs1 Pg f279 2 rfl rfl
def Qjs:PC:=e0 (cF pg0 f279) (by cbv)
def QsD:=@ko1 Qjs _ _ _ func279 (by kernel_rfl)
def Qdr:=rs1 Pg f303 4 rfl rfl
def ZC:(Nat->PC)->List PC:=eL (cL pg0 f303) (λ_=>by cbv)
def QhH:PC:=e1 5 ZC (λ_=>by cbv) .skip
def QhI:PC:=e1 4 ZC (λ_=>by cbv) QhH
def QhJ:PC:=e1 3 ZC (λ_=>by cbv) .skip
def QhK:PC:=e2 2 ZC (λ_ _=>by cbv) QhI QhJ
def QhL:PC:=e1 1 ZC (λ_=>by cbv) QhK
def Qk5:PC:=e1 0 ZC (λ_=>by cbv) QhL
def QtJ:=@ko2 Qk5 _ _ _ func303 (by kernel_rfl)
