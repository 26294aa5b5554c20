/- The code of the functions that are reached, resolved. -/
import Derived.Test.YtmedjaegakinnaaGreatDoorProg
import Derived.KernelRfl
import Derived.Test.YtmedjaegakinnaaGreatDoorC0Code
set_option linter.unusedVariables false
set_option maxRecDepth 100000
set_option maxHeartbeats 4000000
set_option linter.defProp false
noncomputable section
namespace Go.Proofs.YtmedjaegakinnaaGreatDoor.code
open Go.Ab Tryz
variable (H0 H:Qa) (k:Value->Qa->Prop) (A:Env)
def Xq:=rs1 Pg f9 4 rfl rfl
def K6:PC:=e0 (cF pg0 f9) (by cbv)
def Qea:=@ko2 K6 _ _ _ func9 (by kernel_rfl)
def YC:=rs1 Pg f21 4 rfl rfl
def K7:PC:=e0 (cF pg0 f21) (by cbv)
def Qeb:=@ko2 K7 _ _ _ func21 (by kernel_rfl)
