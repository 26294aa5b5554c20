/- The code of the functions that are reached, resolved. -/
import Derived.Test.YtdjkkoacinpdeaaGreatDoorProg
import Derived.KernelRfl
import Derived.Test.YtdjkkoacinpdeaaGreatDoorC0Code
set_option linter.unusedVariables false
set_option maxRecDepth 100000
noncomputable section
namespace Go.Proofs.YtdjkkoacinpdeaaGreatDoor.code
open Go.Ab
variable (H0 H:Qa) (k:Value→Qa→Prop) (A:Env)
theorem Xu:Rt prog Tryz.f10 H0 k A H=Ret H0 k (A 4) H:=Xv (by kernel_rfl) (by kernel_rfl)
def KF:PC:=(.seq (.ops [Ow 2 (.box Qb (t 0)),Ow 3 (.box Qb (t 1)),Om 4 (.const (.bool false))]) (.seq (.ops [Ow 5 (.fldA 0 (t 2)),Ow 6 (.ld false 1 (t 5)),Ow 7 (.fldA 0 (t 3)),Ow 8 (.ld false 1 (t 7)),Ow 9 (.bin .eql (t 6) (t 8)),Om 10 (t 9),Og 11 (.fldA 1 (t 2)) 10 true,Og 12 (.ld false 1 (t 11)) 10 true,Og 13 (.fldA 1 (t 3)) 10 true,Og 14 (.ld false 1 (t 13)) 10 true,Og 15 (.call Zk [(t 12),(t 14)]) 10 true,Ow 16 (.pick (t 10) (t 15) (.const (.bool false))),Om 4 (t 16)]) .ret))
theorem QbN:In2 prog Zh Tryz.f10 KF:=in2 Tryz.func10 (by kernel_rfl) (by kernel_rfl) (by kernel_rfl)
theorem YI:Rt prog Tryz.f34 H0 k A H=Ret H0 k (A 4) H:=Xv (by kernel_rfl) (by kernel_rfl)
def KG:PC:=(.seq (.ops [Om 4 (.const (.bool false))]) (.seq (.seq (.ops [Om 6 (t 0),Ow 7 (.lenS (t 6)),Om 8 (t 1),Ow 9 (.lenS (t 8)),Ow 10 (.bin .neq (t 7) (t 9))]) (.cond (t 10) (.seq (.ops [Om 4 (.const (.bool false))]) .ret) .skip)) (.seq (.seq (.ops [Om 5 (Ci 0)]) (.block 0 (.loop (.seq (.seq (.ops [Om 11 (t 5),Om 12 (t 0),Ow 13 (.lenS (t 12)),Ow 14 (.bin .lss (t 11) (t 13))]) (.cond (t 14) .skip (.exit 0))) (.seq (.block 1 (.seq (.ops [Om 17 (t 0),Om 18 (t 5),Ow 19 (.idxS 11 (t 17) (t 18)),Ow 20 (.ld true 11 (t 19)),Om 21 (t 1),Om 22 (t 5),Ow 23 (.idxS 11 (t 21) (t 22)),Ow 24 (.ld true 11 (t 23)),Ow 25 (.gen (.binOp .neq 39 (t 20) (t 24) 39))]) (.cond (t 25) (.seq (.ops [Om 4 (.const (.bool false))]) .ret) .skip))) (.ops [Om 15 (t 5),Ow 16 (.bin .add (t 15) (Ci 1)),Om 5 (t 16)])))))) (.seq (.ops [Om 4 (.const (.bool true))]) .ret))))
theorem QbO:In2 prog Zk Tryz.f34 KG:=in2 Tryz.func34 (by kernel_rfl) (by kernel_rfl) (by kernel_rfl)
end Go.Proofs.YtdjkkoacinpdeaaGreatDoor.code
