/- The code of the functions that are reached, resolved. -/
import Derived.Test.YtdjkkoacinpdeaaGreatDoorProg
import Derived.KernelRfl
import Derived.Test.YtdjkkoacinpdeaaGreatDoorE2Name
set_option linter.unusedVariables false
set_option maxRecDepth 100000
noncomputable section
namespace Go.Proofs.YtdjkkoacinpdeaaGreatDoor.code
open Go.Ab
variable (H0 H:Qa) (k:Value→Qa→Prop) (A:Env)
theorem QbM:Rt prog Tryz.f66 H0 k A H=Ret H0 k (A 0) H:=Xv (by kernel_rfl) (by kernel_rfl)
def Qng:List (Nat×Operand):=nmL.zipIdx.map fun p=>(p.2,.const (.string (mkS p.1)))
def Gk:PC:=(.seq (.ops [Om 0 (.const (.slice none 0 0))]) (.seq (.ops [Ow 1 (.bslice 9 1 322 (List.replicate 322 (.string (mkS []))) Qng),Om 0 (t 1)]) .ret))
theorem Qcv:In0 prog ZC Tryz.f66 Gk:=in0 Tryz.func66 (by kernel_rfl) (by kernel_rfl) (by kernel_rfl)
end Go.Proofs.YtdjkkoacinpdeaaGreatDoor.code
