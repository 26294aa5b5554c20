/- The code of the functions that are reached, resolved. -/
import Derived.Test.YtfofbicfabokbaaGreatDoorAbD
import Derived.Test.YtfofbicfabokbaaGreatDoorProg
import Derived.KernelRfl
import Derived.Test.YtfofbicfabokbaaGreatDoorC0Code
set_option linter.unusedVariables false
set_option maxRecDepth 100000
noncomputable section
namespace Go.Proofs.YtfofbicfabokbaaGreatDoor.code
open Go.Ab
variable (H0 H:Qa) (k:Value->Qa->Prop) (A:Env)
theorem Yw:Rt prog Tryz.f11 H0 k A H=Ret H0 k (A 4) H:=Wb (by kernel_rfl)
def Qcn:PC:=So [Gr 2 Qd 0,Gr 3 Qd 1,Ol 4 false] (Sr [Ob 5 0 2,Oc 6 1 5,Ob 7 0 3,Oc 8 1 7,Gp 9 .eql 6 8,Oa 10 9,Gb 11 1 2 10 true,Gc 12 1 11 10 true,Gb 13 1 3 10 true,Gc 14 1 13 10 true,Og 15 (.call Kc [t 12,t 14]) 10 true,Oj 16 10 15,Oa 4 16])
theorem Qh7:In2 prog J9 Tryz.f11 Qcn:=jn2 Tryz.func11 (by kernel_rfl)
theorem Jd:Rt prog Tryz.f29 H0 k A H=Ret H0 k (A 4) H:=Wb (by kernel_rfl)
def Qco:PC:=So [Ol 4 false] (.seq (So [Oa 6 0,Ou 7 6,Oa 8 1,Ou 9 8,Gp 10 .neq 7 9] (Sc 10 (Sr [Ol 4 false]) .skip)) (.seq (So [Oi 5 0] (.block 0 (.loop (.seq (So [Oa 11 5,Oa 12 0,Ou 13 12,Gp 14 .lss 11 13] (Sc 14 .skip (.exit 0))) (.seq (.block 1 (So [Oa 17 0,Oa 18 5,Ox 19 11 17 18,Od 20 11 19,Oa 21 1,Oa 22 5,Ox 23 11 21 22,Od 24 11 23,Ow 25 (.gen (.binOp .neq 47 (t 20) (t 24) 47))] (Sc 25 (Sr [Ol 4 false]) .skip))) (.ops [Oa 15 5,Oe 16 .add 15 1,Oa 5 16])))))) (Sr [Ol 4 true])))
theorem Qh8:In2 prog Kc Tryz.f29 Qco:=jn2 Tryz.func29 (by kernel_rfl)
end Go.Proofs.YtfofbicfabokbaaGreatDoor.code
