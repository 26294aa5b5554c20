/- The code of the functions that are reached, resolved. -/
import Derived.Test.YtmedjaegakinnaaGreatDoorProg
import Derived.KernelRfl
import Derived.Test.YtmedjaegakinnaaGreatDoorC0Code
import Derived.Test.YtmedjaegakinnaaGreatDoorC2Code
set_option linter.unusedVariables false
set_option maxRecDepth 100000
set_option maxHeartbeats 4000000
set_option linter.defProp false
noncomputable section
namespace Go.Proofs.YtmedjaegakinnaaGreatDoor.code
open Go.Ab Tryz
variable (H0 H:Qa) (k:Value->Qa->Prop) (A:Env)
def KI:=rs1 Pg f90 2 rfl rfl
def X1:(Nat->PC)->List PC:=eL (cL pg0 f90) (λ_=>by cbv)
def Qed:PC:=e1 6 X1 (λ_=>by cbv) .skip
def Qee:PC:=e1 5 X1 (λ_=>by cbv) Qed
def Vo:PC:=e1 4 X1 (λ_=>by cbv) Qee
def Qef:PC:=e1 3 X1 (λ_=>by cbv) .skip
def Qeg:PC:=e1 2 X1 (λ_=>by cbv) Qef
def Qeh:PC:=e1 1 X1 (λ_=>by cbv) Qeg
def Qhq:PC:=e2 0 X1 (λ_ _=>by cbv) Vo Qeh
def QqG:=@ko1 Qhq _ _ _ func90 (by kernel_rfl)
def QfK:=rs1 Pg f105 2 rfl rfl
def Qhr:PC:=e0 (cF pg0 f105) (by cbv)
def QqH:=@ko1 Qhr _ _ _ func105 (by kernel_rfl)
def Qon:=rs1 Pg f185 2 rfl rfl
def Qhs:PC:=e0 (cF pg0 f185) (by cbv)
def QqI:=@ko1 Qhs _ _ _ func185 (by kernel_rfl)
def Zi:=rs1 Pg f186 2 rfl rfl
def Yr:(Nat->PC)->List PC:=eL (cL pg0 f186) (λ_=>by cbv)
def W0:PC:=e1 4 Yr (λ_=>by cbv) .skip
def W1:PC:=e1 3 Yr (λ_=>by cbv) .skip
def W2:PC:=e2 2 Yr (λ_ _=>by cbv) W0 W1
def W3:PC:=e1 1 Yr (λ_=>by cbv) .skip
def QcW:PC:=e2 0 Yr (λ_ _=>by cbv) W2 W3
def QlH:=@ko1 QcW _ _ _ func186 (by kernel_rfl)
def Qht:=rs1 Pg f187 2 rfl rfl
def QiW:PC:=e0 (cF pg0 f187) (by cbv)
def QrJ:=@ko1 QiW _ _ _ func187 (by kernel_rfl)
def GR:=rs1 Pg f188 2 rfl rfl
def Qei:PC:=e0 (cF pg0 f188) (by cbv)
def QmP:=@ko1 Qei _ _ _ func188 (by kernel_rfl)
def QfL:=rs1 Pg f189 2 rfl rfl
def Qhu:PC:=e0 (cF pg0 f189) (by cbv)
def QqJ:=@ko1 Qhu _ _ _ func189 (by kernel_rfl)
def QaO:=rs1 Pg f249 4 rfl rfl
def Jo:PC:=e0 (cF pg0 f249) (by cbv)
def QbV:=@ko2 Jo _ _ _ func249 (by kernel_rfl)
def Qhv:=rs1 Pg f250 4 rfl rfl
def Zt:(Nat->PC)->List PC:=eL (cL pg0 f250) (λ_=>by cbv)
def QfM:PC:=e1 5 Zt (λ_=>by cbv) .skip
def QfN:PC:=e1 4 Zt (λ_=>by cbv) QfM
def QfO:PC:=e1 3 Zt (λ_=>by cbv) .skip
def QfP:PC:=e2 2 Zt (λ_ _=>by cbv) QfN QfO
def QfQ:PC:=e1 1 Zt (λ_=>by cbv) QfP
def QiX:PC:=e1 0 Zt (λ_=>by cbv) QfQ
def QrK:=@ko2 QiX _ _ _ func250 (by kernel_rfl)
