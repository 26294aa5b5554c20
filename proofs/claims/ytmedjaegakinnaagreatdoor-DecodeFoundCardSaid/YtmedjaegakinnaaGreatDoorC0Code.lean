/- The code of the functions that are reached, resolved. -/
import Derived.Test.YtmedjaegakinnaaGreatDoorProg
import Derived.KernelRfl
import Derived.Test.YtmedjaegakinnaaGreatDoorAbD
set_option linter.unusedVariables false
set_option maxRecDepth 100000
set_option maxHeartbeats 4000000
set_option linter.defProp false
noncomputable section
namespace Go.Proofs.YtmedjaegakinnaaGreatDoor.code
open Go.Ab Tryz
variable (H0 H:Qa) (k:Value->Qa->Prop) (A:Env)
noncomputable abbrev Pg:Program:=Tryz.prog
noncomputable abbrev pg0:Program:={toTables:=Tryz.progTables,funcs:=#[]}
theorem Qcf:Rt Pg f6 H0 k A H=ldR true 2 (A 2) H λv=>Ret H0 k (.tuple #[v,A 3,A 4]) H:=Qtb (ty:=26) (by kernel_rfl) (by kernel_rfl) (by kernel_rfl)
def Qdl:PC:=e0 (cF pg0 f6) (by cbv)
def Qmf:=@ko1 Qdl _ _ _ func6 (by kernel_rfl)
def Qe9:=rs1 Pg f19 2 rfl rfl
def Qgr:PC:=e0 (cF pg0 f19) (by cbv)
def Qpp:=@ko1 Qgr _ _ _ func19 (by kernel_rfl)
def Qtd:=rs1 Pg f31 2 rfl rfl
def Qnu:PC:=e0 (cF pg0 f31) (by cbv)
def Qvn:=@ko1 Qnu _ _ _ func31 (by kernel_rfl)
def Qpq:=rs1 Pg f32 0 rfl rfl
def Qie:PC:=e0 (cF pg0 f32) (by cbv)
def Qq7:=@ko0 Qie _ _ _ func32 (by kernel_rfl)
def QnY:=rs1 Pg f34 0 rfl rfl
def Qgs:PC:=e0 (cF pg0 f34) (by cbv)
def Qpr:=@ko0 Qgs _ _ _ func34 (by kernel_rfl)
def ZW:=rs1 Pg f35 2 rfl rfl
def Qad:PC:=e0 (cF pg0 f35) (by cbv)
def QhS:=@ko1 Qad _ _ _ func35 (by kernel_rfl)
def QfZ:=rs1 Pg f36 4 rfl rfl
def VF:PC:=e0 (cF pg0 f36) (by cbv)
def Qgt:=@ko2 VF _ _ _ func36 (by kernel_rfl)
def Qkm:=rs1 Pg f51 6 rfl rfl
def Qdm:PC:=e0 (cF pg0 f51) (by cbv)
def Qmg:=@ko3 Qdm _ _ _ func51 (by kernel_rfl)
def Qps:=rs1 Pg f52 3 rfl rfl
def Qif:PC:=e0 (cF pg0 f52) (by cbv)
def Qq8:=@ko2 Qif _ _ _ func52 (by kernel_rfl)
def Qmh:=rs1 Pg f53 2 rfl rfl
def Qfa:PC:=e0 (cF pg0 f53) (by cbv)
def QnZ:=@ko1 Qfa _ _ _ func53 (by kernel_rfl)
def Qn0:=rs1 Pg f55 2 rfl rfl
def Qgu:PC:=e0 (cF pg0 f55) (by cbv)
def Qpt:=@ko1 Qgu _ _ _ func55 (by kernel_rfl)
def WQ:=rs1 Pg f56 6 rfl rfl
def Qfb:PC:=e0 (cF pg0 f56) (by cbv)
def Qn1:=@ko3 Qfb _ _ _ func56 (by kernel_rfl)
def Qpu:=rs1 Pg f59 4 rfl rfl
def Qig:PC:=e0 (cF pg0 f59) (by cbv)
def Qq9:=@ko2 Qig _ _ _ func59 (by kernel_rfl)
def Qn2:=rs1 Pg f72 0 rfl rfl
def Qgv:PC:=e0 (cF pg0 f72) (by cbv)
def Qpv:=@ko0 Qgv _ _ _ func72 (by kernel_rfl)
def Gh:=rs1 Pg f74 2 rfl rfl
def Qdn:PC:=e0 (cF pg0 f74) (by cbv)
def Qmi:=@ko1 Qdn _ _ _ func74 (by kernel_rfl)
def Xn:=rs1 Pg f78 4 rfl rfl
def YL:PC:=e0 (cF pg0 f78) (by cbv)
def KU:=@ko2 YL _ _ _ func78 (by kernel_rfl)
def Xv:=rs1 Pg f144 4 rfl rfl
def Gi:PC:=e0 (cF pg0 f144) (by cbv)
def QeA:=@ko2 Gi _ _ _ func144 (by kernel_rfl)
