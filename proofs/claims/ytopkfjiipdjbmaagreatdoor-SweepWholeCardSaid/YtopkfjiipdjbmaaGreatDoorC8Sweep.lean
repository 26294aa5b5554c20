import Derived.Test.YtopkfjiipdjbmaaGreatDoorProg
import Derived.KernelRfl
import Derived.Test.YtopkfjiipdjbmaaGreatDoorC0Code
set_option linter.unusedVariables false
set_option maxRecDepth 100000
set_option maxHeartbeats 4000000
set_option linter.defProp false
noncomputable section
namespace Go.Proofs.YtopkfjiipdjbmaaGreatDoor.code
open Go.Ab Tryz
variable (H0 H:Qa) (k:Value->Qa->Prop) (A:Env)
def QMO:=rs1 Pg f3 4 rfl rfl
def QMN:(Nat->PC)->List PC:=eL (cL pg0 f3) (λ_=>by cbv)
def QMQ:PC:=e1 6 QMN (λ_=>by cbv) .skip
def QMR:PC:=e1 5 QMN (λ_=>by cbv) QMQ
def QMS:PC:=e1 4 QMN (λ_=>by cbv) QMR
def QMT:PC:=e1 3 QMN (λ_=>by cbv) QMS
def QMU:PC:=e1 2 QMN (λ_=>by cbv) .skip
def QMV:PC:=e2 1 QMN (λ_ _=>by cbv) QMT QMU
def QMX:PC:=e1 0 QMN (λ_=>by cbv) QMV
def QM2:=@ko2 QMX _ _ _ func3 (by kernel_rfl)
def QM0:=rs1 Pg f5 0 rfl rfl
def QMY:(Nat->PC)->List PC:=eL (cL pg0 f5) (λ_=>by cbv)
def QMW:PC:=e1 1 QMY (λ_=>by cbv) .skip
def QMZ:PC:=e1 0 QMY (λ_=>by cbv) QMW
def QM3:=@ko0 QMZ _ _ _ func5 (by kernel_rfl)
def Qqa:=rs2 Pg f6 4 5 rfl rfl
def QcB:(Nat->PC)->List PC:=eL (cL pg0 f6) (λ_=>by cbv)
def Qfp:PC:=e1 2 QcB (λ_=>by cbv) .skip
def Qfq:PC:=e1 1 QcB (λ_=>by cbv) Qfp
def QiK:PC:=e1 0 QcB (λ_=>by cbv) Qfq
def Qr0:=@ko2 QiK _ _ _ func6 (by kernel_rfl)
def Qdx:=rs1 Pg f7 4 rfl rfl
def Kx:PC:=e0 (cF pg0 f7) (by cbv)
def QeG:=@ko2 Kx _ _ _ func7 (by kernel_rfl)
def Qfr:=rs1 Pg f9 0 rfl rfl
def Vf:PC:=e0 (cF pg0 f9) (by cbv)
def QgC:=@ko0 Vf _ _ _ func9 (by kernel_rfl)
def Qhf:=QzL Pg f11 false 1 2 4 rfl rfl (by kernel_rfl)
def Vg:(Nat->PC)->List PC:=eL (cL pg0 f11) (λ_=>by cbv)
def Qfs:PC:=e1 3 Vg (λ_=>by cbv) .skip
def Qft:PC:=e1 2 Vg (λ_=>by cbv) Qfs
def Qfu:PC:=e1 1 Vg (λ_=>by cbv) Qft
def QiL:PC:=e1 0 Vg (λ_=>by cbv) Qfu
def Qr1:=@ko1 QiL _ _ _ func11 (by kernel_rfl)
def KS:=rs1 Pg f12 4 rfl rfl
def QiM:(Nat->PC)->List PC:=eL (cL pg0 f12) (λ_=>by cbv)
def Qfv:PC:=e1 1 QiM (λ_=>by cbv) .skip
def QiN:PC:=e1 0 QiM (λ_=>by cbv) Qfv
def Qr2:=@ko2 QiN _ _ _ func12 (by kernel_rfl)
def Qom:=rs1 Pg f13 4 rfl rfl
def Qhg:PC:=e0 (cF pg0 f13) (by cbv)
def Qqb:=@ko2 Qhg _ _ _ func13 (by kernel_rfl)
def QcC:=rs1 Pg f14 2 rfl rfl
def JK:PC:=e0 (cF pg0 f14) (by cbv)
def Qdy:=@ko1 JK _ _ _ func14 (by kernel_rfl)
def QaH:=rs1 Pg f15 4 rfl rfl
def Qbp:(Nat->PC)->List PC:=eL (cL pg0 f15) (λ_=>by cbv)
def VV:PC:=e1 1 Qbp (λ_=>by cbv) .skip
def Qbq:PC:=e1 0 Qbp (λ_=>by cbv) VV
def Qj1:=@ko2 Qbq _ _ _ func15 (by kernel_rfl)
def Qon:=rs2 Pg f18 4 5 rfl rfl
def QaZ:(Nat->PC)->List PC:=eL (cL pg0 f18) (λ_=>by cbv)
def QdR:PC:=e1 2 QaZ (λ_=>by cbv) .skip
def QdS:PC:=e1 1 QaZ (λ_=>by cbv) QdR
def Qhh:PC:=e1 0 QaZ (λ_=>by cbv) QdS
def Qqc:=@ko2 Qhh _ _ _ func18 (by kernel_rfl)
def QeH:=rs1 Pg f19 6 rfl rfl
def Xd:(Nat->PC)->List PC:=eL (cL pg0 f19) (λ_=>by cbv)
def JL:PC:=e1 3 Xd (λ_=>by cbv) .skip
def JM:PC:=e1 2 Xd (λ_=>by cbv) JL
def JN:PC:=e1 1 Xd (λ_=>by cbv) JM
def GB:PC:=e1 0 Xd (λ_=>by cbv) JN
def Qfw:=@ko3 GB _ _ _ func19 (by kernel_rfl)
def Qqd:=rs1 Pg f22 4 rfl rfl
def QiO:PC:=e0 (cF pg0 f22) (by cbv)
def Qr3:=@ko2 QiO _ _ _ func22 (by kernel_rfl)
def QcD:=rs0 Pg f23 rfl
def ZL:(Nat->PC)->List PC:=eL (cL pg0 f23) (λ_=>by cbv)
def YH:PC:=e1 3 ZL (λ_=>by cbv) .skip
def Qbr:PC:=e1 2 ZL (λ_=>by cbv) YH
def Qbs:PC:=e1 1 ZL (λ_=>by cbv) Qbr
def QdT:PC:=e1 0 ZL (λ_=>by cbv) Qbs
def QmF:=@ko3 QdT _ _ _ func23 (by kernel_rfl)
def QcE:=rs1 Pg f41 4 rfl rfl
def Vh:(Nat->PC)->List PC:=eL (cL pg0 f41) (λ_=>by cbv)
def Qbt:PC:=e1 2 Vh (λ_=>by cbv) .skip
def Qbu:PC:=e1 1 Vh (λ_=>by cbv) Qbt
def QdU:PC:=e1 0 Vh (λ_=>by cbv) Qbu
def QmG:=@ko2 QdU _ _ _ func41 (by kernel_rfl)
def Yl:=rs1 Pg f21 2 rfl rfl
def Qbv:PC:=e0 (cF pg0 f21) (by cbv)
def Qj2:=@ko1 Qbv _ _ _ func21 (by kernel_rfl)
def QgD:=rs1 Pg f40 2 rfl rfl
def VW:PC:=e0 (cF pg0 f40) (by cbv)
def QhY:=@ko1 VW _ _ _ func40 (by kernel_rfl)
