import Derived.Test.YtopkfjiipdjbmaaGreatDoorProg
import Derived.KernelRfl
import Derived.Test.YtopkfjiipdjbmaaGreatDoorC0Code
set_option linter.unusedVariables false
set_option maxRecDepth 100000
set_option maxHeartbeats 4000000
set_option linter.defProp false
noncomputable section
namespace Go.Proofs.YtopkfjiipdjbmaaGreatDoor.code
open Go.Ab Tryz
variable (H0 H:Qa) (k:Value->Qa->Prop) (A:Env)
noncomputable abbrev Yi:Func:=f35
def Wa:=rs1 Pg Yi 2 rfl rfl
def Wc:(Nat->PC)->List PC:=eL (cL pg0 Yi) (λ_=>by cbv)
def X1:PC:=e1 13 Wc (λ_=>by cbv) .skip
def X2:PC:=e1 12 Wc (λ_=>by cbv) X1
def X3:PC:=e1 11 Wc (λ_=>by cbv) X2
def QaU:PC:=e1 10 Wc (λ_=>by cbv) X3
def Qg4:PC:=e1 9 Wc (λ_=>by cbv) .skip
def Qg5:PC:=e1 8 Wc (λ_=>by cbv) Qg4
def Qg6:PC:=e1 7 Wc (λ_=>by cbv) Qg5
def Qg7:PC:=e1 6 Wc (λ_=>by cbv) Qg6
def QaV:PC:=e2 5 Wc (λ_ _=>by cbv) QaU Qg7
def Qfe:PC:=e1 4 Wc (λ_=>by cbv) .skip
def Qff:PC:=e1 3 Wc (λ_=>by cbv) Qfe
def Qab:PC:=e2 2 Wc (λ_ _=>by cbv) QaV Qff
def Qfg:PC:=e1 1 Wc (λ_=>by cbv) Qab
def Qko:PC:=e1 0 Wc (λ_=>by cbv) Qfg
def Qtf:=@ko1 Qko _ _ _ func35 (by kernel_rfl)
def G8:=Qw8 Pg f43 true 2 2 33 3 rfl rfl (by kernel_rfl)
def QU:(Nat->PC)->List PC:=eL (cL pg0 f43) (λ_=>by cbv)
def Qp2:PC:=e1 16 QU (λ_=>by cbv) .skip
def Qp3:PC:=e1 15 QU (λ_=>by cbv) Qp2
def Qp4:PC:=e1 14 QU (λ_=>by cbv) Qp3
def Qg8:PC:=e1 13 QU (λ_=>by cbv) .skip
def QaW:PC:=e1 12 QU (λ_=>by cbv) Qg8
def KO:PC:=e1 11 QU (λ_=>by cbv) QaW
def KQ:PC:=e1 10 QU (λ_=>by cbv) KO
def Qg9:PC:=e1 9 QU (λ_=>by cbv) .skip
def Qha:PC:=e1 8 QU (λ_=>by cbv) Qg9
def Qfh:PC:=e1 7 QU (λ_=>by cbv) Qha
def Qac:PC:=e1 6 QU (λ_=>by cbv) Qfh
def JC:PC:=e2 5 QU (λ_ _=>by cbv) KQ Qac
def Qfi:PC:=e1 4 QU (λ_=>by cbv) .skip
def Qfj:PC:=e1 3 QU (λ_=>by cbv) Qfi
def Qfk:PC:=e2 2 QU (λ_ _=>by cbv) JC Qfj
def Qfl:PC:=e1 1 QU (λ_=>by cbv) Qfk
def Qkp:PC:=e2 0 QU (λ_ _=>by cbv) Qp4 Qfl
def Qtg:=@ko1 Qkp _ _ _ func43 (by kernel_rfl)
def Z0:=rs1 Pg f62 2 rfl rfl
def QeD:PC:=e0 (cF pg0 f62) (by cbv)
def Qkq:=@ko1 QeD _ _ _ func62 (by kernel_rfl)
def Yj:=rs1 Pg f63 2 rfl rfl
def XD:(Nat->PC)->List PC:=eL (cL pg0 f63) (λ_=>by cbv)
def Y8:PC:=e1 5 XD (λ_=>by cbv) .skip
def Y9:PC:=e1 4 XD (λ_=>by cbv) .skip
def Za:PC:=e1 3 XD (λ_=>by cbv) Y9
def Zb:PC:=e1 2 XD (λ_=>by cbv) Za
def Zc:PC:=e1 1 XD (λ_=>by cbv) Zb
def Qfm:PC:=e2 0 XD (λ_ _=>by cbv) Y8 Zc
def Qoe:=@ko1 Qfm _ _ _ func63 (by kernel_rfl)
def Wy:=rs2 Pg f64 2 3 rfl rfl
def Qgu:PC:=e0 (cF pg0 f64) (by cbv)
def Qvi:=@ko1 Qgu _ _ _ func64 (by kernel_rfl)
def Q3:=rs2 Pg f65 6 7 rfl rfl
def G9:(Nat->PC)->List PC:=eL (cL pg0 f65) (λ_=>by cbv)
def QN:PC:=e1 3 G9 (λ_=>by cbv) .skip
def QO:PC:=e1 2 G9 (λ_=>by cbv) QN
def QP:PC:=e1 1 G9 (λ_=>by cbv) .skip
def YS:PC:=e2 0 G9 (λ_ _=>by cbv) QO QP
def QiB:=@ko3 YS _ _ _ func65 (by kernel_rfl)
def WP:=rs1 Pg f74 2 rfl rfl
def YE:PC:=e0 (cF pg0 f74) (by cbv)
def VN:=@ko1 YE _ _ _ func74 (by kernel_rfl)
def Yk:=Qw8 Pg f75 true 11 2 95 3 rfl rfl (by kernel_rfl)
def JD:(Nat->PC)->List PC:=eL (cL pg0 f75) (λ_=>by cbv)
def W5:PC:=e1 3 JD (λ_=>by cbv) .skip
def W6:PC:=e1 2 JD (λ_=>by cbv) W5
def W7:PC:=e1 1 JD (λ_=>by cbv) W6
def Qfn:PC:=e1 0 JD (λ_=>by cbv) W7
def Qof:=@ko1 Qfn _ _ _ func75 (by kernel_rfl)
def Wr:=rs1 Pg f76 2 rfl rfl
def VT:PC:=e0 (cF pg0 f76) (by cbv)
def QhW:=@ko1 VT _ _ _ func76 (by kernel_rfl)
def W0:=rs1 Pg f77 2 rfl rfl
def QaG:PC:=e0 (cF pg0 f77) (by cbv)
def QiC:=@ko1 QaG _ _ _ func77 (by kernel_rfl)
def QX:=rs1 Pg f78 2 rfl rfl
def Z1:PC:=e0 (cF pg0 f78) (by cbv)
def QiD:=@ko1 Z1 _ _ _ func78 (by kernel_rfl)
def Qas:=Qw8 Pg f91 true 7 2 70 3 rfl rfl (by kernel_rfl)
def Va:(Nat->PC)->List PC:=eL (cL pg0 f91) (λ_=>by cbv)
def Z2:PC:=e1 4 Va (λ_=>by cbv) .skip
def Z3:PC:=e1 3 Va (λ_=>by cbv) .skip
def Z4:PC:=e2 2 Va (λ_ _=>by cbv) Z2 Z3
def Z5:PC:=e1 1 Va (λ_=>by cbv) Z4
def Qmu:PC:=e1 0 Va (λ_=>by cbv) Z5
def Qvj:=@ko1 Qmu _ _ _ func91 (by kernel_rfl)
def Qkr:=rs1 Pg f97 2 rfl rfl
def Qmv:PC:=e0 (cF pg0 f97) (by cbv)
def Qvk:=@ko1 Qmv _ _ _ func97 (by kernel_rfl)
noncomputable abbrev Y1:Func:=f98
def Qi:=rs1 Pg Y1 2 rfl rfl
def Zd:(Nat->PC)->List PC:=eL (cL pg0 Y1) (λ_=>by cbv)
def Qcq:PC:=e1 6 Zd (λ_=>by cbv) .skip
def Qcr:PC:=e1 5 Zd (λ_=>by cbv) Qcq
def Qcs:PC:=e1 4 Zd (λ_=>by cbv) Qcr
def Qct:PC:=e1 3 Zd (λ_=>by cbv) Qcs
def Qcu:PC:=e1 2 Zd (λ_=>by cbv) Qct
def Qcv:PC:=e1 1 Zd (λ_=>by cbv) Qcu
def Qmw:PC:=e1 0 Zd (λ_=>by cbv) Qcv
def Qvl:=@ko1 Qmw _ _ _ func98 (by kernel_rfl)
def QbZ:=rs2 Pg f99 2 3 rfl rfl
def WW:(Nat->PC)->List PC:=eL (cL pg0 f99) (λ_=>by cbv)
def Ki:PC:=e1 11 WW (λ_=>by cbv) .skip
def Kj:PC:=e1 10 WW (λ_=>by cbv) Ki
def Kk:PC:=e1 9 WW (λ_=>by cbv) .skip
def Kl:PC:=e1 8 WW (λ_=>by cbv) Kk
def Km:PC:=e1 7 WW (λ_=>by cbv) Kl
def Kn:PC:=e1 6 WW (λ_=>by cbv) Km
def Ko:PC:=e1 5 WW (λ_=>by cbv) Kn
def Kq:PC:=e1 4 WW (λ_=>by cbv) Ko
def Kr:PC:=e1 3 WW (λ_=>by cbv) Kq
def Z6:PC:=e1 2 WW (λ_=>by cbv) Kr
def Z7:PC:=e2 1 WW (λ_ _=>by cbv) Kj Z6
def Qpx:PC:=e1 0 WW (λ_=>by cbv) Z7
def Qxi:=@ko1 Qpx _ _ _ func99 (by kernel_rfl)
def YT:=rs1 Pg f100 2 rfl rfl
def Qhb:PC:=e0 (cF pg0 f100) (by cbv)
def Qp5:=@ko1 Qhb _ _ _ func100 (by kernel_rfl)
def WH:=rs1 Pg f102 2 rfl rfl
def J8:PC:=e0 (cF pg0 f102) (by cbv)
def QjX:=@ko1 J8 _ _ _ func102 (by kernel_rfl)
def QjY:=rs0 Pg f103 rfl
def Qcw:PC:=e0 (cF pg0 f103) (by cbv)
def Qlt:=@ko1 Qcw _ _ _ func103 (by kernel_rfl)
def K7:=rs1 Pg f110 6 rfl rfl
def Vb:PC:=e0 (cF pg0 f110) (by cbv)
def Qmx:=@ko3 Vb _ _ _ func110 (by kernel_rfl)
def QaX:=rs2 Pg f112 2 3 rfl rfl
def QiE:PC:=e0 (cF pg0 f112) (by cbv)
def QrG:=@ko1 QiE _ _ _ func112 (by kernel_rfl)
def QeE:=rs1 Pg f119 2 rfl rfl
def Qmy:PC:=e0 (cF pg0 f119) (by cbv)
def Qvm:=@ko1 Qmy _ _ _ func119 (by kernel_rfl)
def Qgv:=rs1 Pg f120 2 rfl rfl
def Qpy:PC:=e0 (cF pg0 f120) (by cbv)
def Qxj:=@ko1 Qpy _ _ _ func120 (by kernel_rfl)
def XI:=rs1 Pg f121 2 rfl rfl
def Qks:PC:=e0 (cF pg0 f121) (by cbv)
def Qth:=@ko1 Qks _ _ _ func121 (by kernel_rfl)
def Qb0:=rs1 Pg f122 2 rfl rfl
def QdO:(Nat->PC)->List PC:=eL (cL pg0 f122) (λ_=>by cbv)
def Kt:PC:=e1 3 QdO (λ_=>by cbv) .skip
def Ku:PC:=e1 2 QdO (λ_=>by cbv) Kt
def Kv:PC:=e1 1 QdO (λ_=>by cbv) Ku
def Qpz:PC:=e1 0 QdO (λ_=>by cbv) Kv
def Qxk:=@ko1 Qpz _ _ _ func122 (by kernel_rfl)
