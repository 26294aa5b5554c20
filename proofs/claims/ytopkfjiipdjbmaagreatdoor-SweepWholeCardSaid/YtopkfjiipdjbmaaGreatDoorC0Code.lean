import Derived.Test.YtopkfjiipdjbmaaGreatDoorAbD
import Derived.Test.YtopkfjiipdjbmaaGreatDoorProg
import Derived.KernelRfl
set_option linter.unusedVariables false
set_option maxRecDepth 100000
set_option maxHeartbeats 4000000
set_option linter.defProp false
noncomputable section
namespace Go.Proofs.YtopkfjiipdjbmaaGreatDoor.code
open Go.Ab Tryz
variable (H0 H:Qa) (k:Value->Qa->Prop) (A:Env)
noncomputable abbrev Pg:Program:=Tryz.prog
noncomputable abbrev pg0:Program:={toTables:=Tryz.progTables,funcs:=#[]}
def QgQ:=rs1 Pg f24 2 rfl rfl
def Qck:PC:=e0 (cF pg0 f24) (by cbv)
def Qro:=@ko1 Qck _ _ _ func24 (by kernel_rfl)
def Qcl:=rs2 Pg f25 6 7 rfl rfl
def QgR:PC:=.seq (.block 2 (So [Oa 51 49,Ox 52 11 47 49,Od 53 11 52,Cd 11 95 QMc,Oa 10 51,Gu 11 11 53] (.ops [Oa 54 9,Oa 55 10,Oe 56 .eql 55 0,⟨some 57,.callG 46 [(t 54),t 56,(.const (.string (mkS [32]))),(.const (.string (mkS [44,32])))] [t 11],none,true⟩,⟨some 58,.ld true 11 (t 11),none,true⟩,Oa 59 2,Cc 60 47 57 58 59]))) (.ops [Oe 61 .add 49 1,Oa 49 61])
def QgS:PC:=So [Gp 50 .lss 49 48] (.seq (Sc 50 .skip (.exit 1)) QgR)
def KN:PC:=.seq (So [Ob 46 1 3,Oc 47 1 46,Ou 48 47,Oi 49 0] (.block 1 (.loop QgS))) (Sr [Oa 62 9,Oq 63 62,Ob 64 0 63,Ca 65 34 64,Oa 6 65,Oi 7 0])
def QgT:PC:=So [Oe 42 .eql 28 3,Oa 41 42] (Sc 41 (.ops [Oa 43 9,Ow 44 (.bslice 9 1 1 [.string (mkS [])] [(0,(.const (.string (mkS [32,115,116,114,105,99,116]))))]),Cb 45 44 43 44]) (Sr [Om 6 (.const (.string (mkS []))),Oi 7 2]))
def QgU:PC:=So [Oe 37 .eql 28 2,Oa 36 37] (Sc 36 (.ops [Oa 38 9,Ow 39 (.bslice 9 1 1 [.string (mkS [])] [(0,(.const (.string (mkS [32,110,101,97,114]))))]),Cb 40 44 38 39]) QgT)
def QgV:PC:=So [Oe 32 .eql 28 1,Oa 31 32] (Sc 31 (.ops [Oa 33 9,Ow 34 (.bslice 9 1 1 [.string (mkS [])] [(0,(.const (.string (mkS [32,115,104,111,114,116]))))]),Cb 35 44 33 34]) QgU)
def QgW:PC:=So [Ow 20 (.build [.pointer none,.slice none 0 0] []),Gr 21 104 20,Oa 9 21] (So [Oa 22 9,Ob 23 0 3,Oc 24 1 23,Ca 25 45 24,Ow 26 (.bslice 9 1 1 [.string (mkS [])] [(0,(t 25))]),Cb 27 44 22 26] (.seq (So [Oa 28 1] (.block 0 (So [Oe 30 .eql 28 0,Oa 29 30] (Sc 29 .skip QgV)))) KN))
def Qkh:PC:=So [Gr 3 33 0,Om 6 (.const (.string (mkS []))),Oi 7 0] (So [Od 13 2 3,Ca 14 43 13,Oa 12 14,Ot 15 12 0,Ot 16 12 1,Gu 2 3 15,Oa 8 16] (.seq (So [Oa 17 8,Oe 18 .neq 17 0] (Sc 18 (Sr [Oa 19 8,Om 6 (.const (.string (mkS []))),Oa 7 19]) .skip)) QgW))
def Qs6:=@ko3 Qkh _ _ _ func25 (by kernel_rfl)
def VA:=rs2 Pg f33 4 5 rfl rfl
def YL:PC:=e0 (cF pg0 f33) (by cbv)
def V7:=@ko2 YL _ _ _ func33 (by kernel_rfl)
def Qcm:=rs1 Pg f34 2 rfl rfl
def JJ:PC:=e0 (cF pg0 f34) (by cbv)
def Qdw:=@ko1 JJ _ _ _ func34 (by kernel_rfl)
def Qgo:=rs1 Pg f42 4 rfl rfl
def VP:PC:=e0 (cF pg0 f42) (by cbv)
def QhR:=@ko2 VP _ _ _ func42 (by kernel_rfl)
def Qlp:=rs1 Pg f44 4 rfl rfl
def GS:(Nat->PC)->List PC:=eL (cL pg0 f44) (λ_=>by cbv)
def Qbg:PC:=e1 2 GS (λ_=>by cbv) .skip
def Qbh:PC:=e1 1 GS (λ_=>by cbv) Qbg
def QdL:PC:=e1 0 GS (λ_=>by cbv) Qbh
def Qmm:=@ko2 QdL _ _ _ func44 (by kernel_rfl)
def Qki:=QzL Pg f45 false 1 2 9 rfl rfl (by kernel_rfl)
def Qgp:(Nat->PC)->List PC:=eL (cL pg0 f45) (λ_=>by cbv)
def Qcn:PC:=e1 2 Qgp (λ_=>by cbv) .skip
def Qip:PC:=e1 1 Qgp (λ_=>by cbv) Qcn
def Qmn:PC:=e1 0 Qgp (λ_=>by cbv) Qip
def Qvb:=@ko1 Qmn _ _ _ func45 (by kernel_rfl)
def Qbi:=rs1 Pg f46 8 rfl rfl
def K4:PC:=e0 (cF pg0 f46) (by cbv)
def Qlq:=@ko4 K4 _ _ _ func46 (by kernel_rfl)
def Xr:=rs1 Pg f47 6 rfl rfl
def ZF:(Nat->PC)->List PC:=eL (cL pg0 f47) (λ_=>by cbv)
def Gk:PC:=e1 2 ZF (λ_=>by cbv) .skip
def Gl:PC:=e1 1 ZF (λ_=>by cbv) Gk
def VQ:PC:=e1 0 ZF (λ_=>by cbv) Gl
def QhS:=@ko3 VQ _ _ _ func47 (by kernel_rfl)
def YZ:=rs0 Pg f61 rfl
def Zp:PC:=e0 (cF pg0 f61) (by cbv)
def QaT:=@ko1 Zp _ _ _ func61 (by kernel_rfl)
def VB:=rs1 Pg f73 4 rfl rfl
def W4:(Nat->PC)->List PC:=eL (cL pg0 f73) (λ_=>by cbv)
def GT:PC:=e1 2 W4 (λ_=>by cbv) .skip
def GU:PC:=e1 1 W4 (λ_=>by cbv) GT
def YM:PC:=e1 0 W4 (λ_=>by cbv) GU
def V8:=@ko2 YM _ _ _ func73 (by kernel_rfl)
def Qiq:=rs1 Pg f79 4 rfl rfl
def Qbj:PC:=e0 (cF pg0 f79) (by cbv)
def QjS:=@ko2 Qbj _ _ _ func79 (by kernel_rfl)
def QaC:=rs1 Pg f81 4 rfl rfl
def ZG:PC:=So [Ob 56 5 3,Oc 57 1 56,Oe 58 .lss 57 0,Oa 55 58] (Sc 55 (.ops [Oa 59 0,Ob 60 5 3,Oc 61 1 60,Ow 62 (.gen (.unOp .neg 3 (t 61))),Ca 63 24 62,Ow 64 (.bslice 9 1 2 [.string (mkS []),.string (mkS [])] [(0,(.const (.string (mkS [32,45,32])))),(1,(t 63))]),Cb 65 44 59 64]) .skip)
def XQ:PC:=So [Ob 46 5 3,Oc 47 1 46,Oe 48 .gtr 47 0,Oa 45 48] (Sc 45 (.ops [Oa 49 0,Ob 50 5 3,Oc 51 1 50,Ca 52 24 51,Ow 53 (.bslice 9 1 2 [.string (mkS []),.string (mkS [])] [(0,(.const (.string (mkS [32,43,32])))),(1,(t 52))]),Cb 54 44 49 53]) ZG)
def ZH:PC:=.seq (.block 0 (So [Oa 38 5,Oa 37 38] (Sc 37 (.ops [Oa 39 0,Ob 40 5 3,Oc 41 1 40,Ca 42 24 41,Ow 43 (.bslice 9 1 1 [.string (mkS [])] [(0,(t 42))]),Cb 44 44 39 43]) XQ))) (Sr [Oa 66 0,Ow 67 (.bslice 9 1 1 [.string (mkS [])] [(0,(.const (.string (mkS [93]))))]),Cb 68 44 66 67,Oa 4 68])
def VR:PC:=So [Oa 26 0,Oa 27 5,⟨some 28,.callG 46 [(t 26),t 27,(.const (.string (mkS []))),(.const (.string (mkS [32,43,32])))] [t 3,t 3],none,true⟩,Ob 29 2 3,⟨some 30,.ld true 2 (t 29),none,true⟩,⟨some 31,.callF 80 [t 30] [t 3],none,true⟩,Ob 32 4 3,⟨some 33,.ld false 1 (t 32),none,true⟩,Ca 34 115 33,Ow 35 (.bslice 9 1 3 [.string (mkS []),.string (mkS []),.string (mkS [])] [(0,(t 31)),(1,(.const (.string (mkS [42])))),(2,(t 34))]),Cb 36 44 28 35] (.ops [Ol 5 false])
def ZI:PC:=.seq (So [Ob 22 2 3,Od 23 2 22,Ow 24 (.build Ze2 []),Ow 25 (.eqs true [.i,.i] (t 23) (t 24))] (Sc 25 VR .skip)) ZH
def Qbk:PC:=So [Gr 3 70 1,Om 4 (.const (.pointer none))] (So [Oa 6 0,Ob 7 6 3,Oc 8 1 7,Ca 9 114 8,Ow 10 (.bslice 9 1 2 [.string (mkS []),.string (mkS [])] [(0,(t 9)),(1,(.const (.string (mkS [91]))))]),Cb 11 44 6 10] (So [Ol 5 true] (.seq (So [Ob 12 0 3,Od 13 2 12,Ow 14 (.build Ze2 []),Ow 15 (.eqs true [.i,.i] (t 13) (t 14))] (Sc 15 (So [Oa 16 0,Ob 17 0 3,Od 18 2 17,Ca 19 80 18,Ow 20 (.bslice 9 1 1 [.string (mkS [])] [(0,(t 19))]),Cb 21 44 16 20] (.ops [Ol 5 false])) .skip)) ZI)))
def QjT:=@ko2 Qbk _ _ _ func81 (by kernel_rfl)
def VC:=rs2 Pg f109 10 11 rfl rfl
def Qq:(Nat->PC)->List PC:=eL (cL pg0 f109) (λ_=>by cbv)
def Yb:PC:=e1 10 Qq (λ_=>by cbv) .skip
def Yc:PC:=e1 9 Qq (λ_=>by cbv) Yb
def Yd:PC:=e1 8 Qq (λ_=>by cbv) .skip
def WO:PC:=e1 7 Qq (λ_=>by cbv) Yd
def Ye:PC:=e1 6 Qq (λ_=>by cbv) WO
def GV:PC:=e1 5 Qq (λ_=>by cbv) .skip
def GW:PC:=e1 4 Qq (λ_=>by cbv) GV
def GY:PC:=e1 3 Qq (λ_=>by cbv) GW
def Yf:PC:=e3 2 Qq (λ_ _ _=>by cbv) Yc Ye GY
def XR:PC:=e1 1 Qq (λ_=>by cbv) Yf
def YN:PC:=e1 0 Qq (λ_=>by cbv) XR
def V9:=@ko5 YN _ _ _ func109 (by kernel_rfl)
def Qir:=rs1 Pg f111 6 rfl rfl
def Qbl:PC:=e0 (cF pg0 f111) (by cbv)
def QjU:=@ko3 Qbl _ _ _ func111 (by kernel_rfl)
def Qrp:=rs1 Pg f114 2 rfl rfl
def Kg:(Nat->PC)->List PC:=eL (cL pg0 f114) (λ_=>by cbv)
def QgX:PC:=e1 4 Kg (λ_=>by cbv) .skip
def QgY:PC:=e1 3 Kg (λ_=>by cbv) QgX
def QgZ:PC:=e1 2 Kg (λ_=>by cbv) QgY
def Qg0:PC:=e1 1 Kg (λ_=>by cbv) QgZ
def Qkj:PC:=e1 0 Kg (λ_=>by cbv) Qg0
def Qs7:=@ko1 Qkj _ _ _ func114 (by kernel_rfl)
def GZ:=rs0 Pg f140 rfl
def Wh:(Nat->PC)->List PC:=eL (cL pg0 f140) (λ_=>by cbv)
def Gm:PC:=e1 6 Wh (λ_=>by cbv) .skip
def Gn:PC:=e1 5 Wh (λ_=>by cbv) Gm
def Gq:PC:=e1 4 Wh (λ_=>by cbv) Gn
def Qe3:PC:=e1 3 Wh (λ_=>by cbv) .skip
def Qe4:PC:=e1 2 Wh (λ_=>by cbv) Qe3
def Qe5:PC:=e1 1 Wh (λ_=>by cbv) Qe4
def VS:PC:=e2 0 Wh (λ_ _=>by cbv) Gq Qe5
def QhT:=@ko4 VS _ _ _ func140 (by kernel_rfl)
def Qmo:=rs1 Pg f142 4 rfl rfl
def Qe6:PC:=e0 (cF pg0 f142) (by cbv)
def Qn7:=@ko2 Qe6 _ _ _ func142 (by kernel_rfl)
def YO:=rs1 Pg f227 4 rfl rfl
def Qn:(Nat->PC)->List PC:=eL (cL pg0 f227) (λ_=>by cbv)
def VD:PC:=e1 12 Qn (λ_=>by cbv) .skip
def VE:PC:=e1 11 Qn (λ_=>by cbv) .skip
def VF:PC:=e1 10 Qn (λ_=>by cbv) VE
def VG:PC:=e2 9 Qn (λ_ _=>by cbv) VD VF
def VH:PC:=e1 8 Qn (λ_=>by cbv) VG
def VI:PC:=e1 7 Qn (λ_=>by cbv) .skip
def VJ:PC:=e2 6 Qn (λ_ _=>by cbv) VH VI
def VK:PC:=e1 5 Qn (λ_=>by cbv) VJ
def VM:PC:=e1 4 Qn (λ_=>by cbv) VK
def G0:PC:=e1 3 Qn (λ_=>by cbv) .skip
def G3:PC:=e1 2 Qn (λ_=>by cbv) G0
def Yg:PC:=e1 1 Qn (λ_=>by cbv) G3
def Y0:PC:=e2 0 Qn (λ_ _=>by cbv) VM Yg
def QaD:=@ko2 Y0 _ _ _ func227 (by kernel_rfl)
def K5:=rs1 Pg f292 4 rfl rfl
def XS:PC:=e0 (cF pg0 f292) (by cbv)
def GL:=@ko2 XS _ _ _ func292 (by kernel_rfl)
def Qvc:=rs1 Pg f36 2 rfl rfl
def Qpt:PC:=e0 (cF pg0 f36) (by cbv)
def Qw9:=@ko1 Qpt _ _ _ func36 (by kernel_rfl)
def Qrq:=rs1 Pg f48 0 rfl rfl
def Qkk:PC:=e0 (cF pg0 f48) (by cbv)
def Qs8:=@ko0 Qkk _ _ _ func48 (by kernel_rfl)
def Qrr:=rs1 Pg f53 4 rfl rfl
def Qkl:PC:=e0 (cF pg0 f53) (by cbv)
def Qs9:=@ko2 Qkl _ _ _ func53 (by kernel_rfl)
def Qmp:=rs1 Pg f66 6 rfl rfl
def Qe7:PC:=e0 (cF pg0 f66) (by cbv)
def Qn8:=@ko3 Qe7 _ _ _ func66 (by kernel_rfl)
def Qrs:=rs1 Pg f67 3 rfl rfl
def Qkm:PC:=e0 (cF pg0 f67) (by cbv)
def Qta:=@ko2 Qkm _ _ _ func67 (by kernel_rfl)
def Qn9:=rs1 Pg f82 2 rfl rfl
def Qg1:PC:=e0 (cF pg0 f82) (by cbv)
def QpW:=@ko1 Qg1 _ _ _ func82 (by kernel_rfl)
def W9:=rs1 Pg f87 4 rfl rfl
def YP:PC:=e0 (cF pg0 f87) (by cbv)
def Gt:=@ko2 YP _ _ _ func87 (by kernel_rfl)
def QpX:=rs1 Pg f101 0 rfl rfl
def Qis:PC:=e0 (cF pg0 f101) (by cbv)
def Qrt:=@ko0 Qis _ _ _ func101 (by kernel_rfl)
def Xc:=rs1 Pg f222 4 rfl rfl
def G4:PC:=e0 (cF pg0 f222) (by cbv)
def Qgq:=@ko2 G4 _ _ _ func222 (by kernel_rfl)
theorem QdM:Rt Pg f8 H0 k A H=ldR true 2 (A 2) H λv=>Ret H0 k (.tuple #[v,A 3,A 4]) H:=Qva (ty:=33) (by kernel_rfl) (by kernel_rfl) (by kernel_rfl)
def Qe8:PC:=e0 (cF pg0 f8) (by cbv)
def Qoa:=@ko1 Qe8 _ _ _ func8 (by kernel_rfl)
def Qg2:=rs1 Pg f16 2 rfl rfl
def Qit:PC:=e0 (cF pg0 f16) (by cbv)
def Qru:=@ko1 Qit _ _ _ func16 (by kernel_rfl)
def QpY:=rs1 Pg f26 0 rfl rfl
def Qiu:PC:=e0 (cF pg0 f26) (by cbv)
def Qrv:=@ko0 Qiu _ _ _ func26 (by kernel_rfl)
def ZX:=rs1 Pg f27 2 rfl rfl
def Qbn:PC:=e0 (cF pg0 f27) (by cbv)
def QjW:=@ko1 Qbn _ _ _ func27 (by kernel_rfl)
def QhU:=rs1 Pg f28 4 rfl rfl
def QaF:PC:=e0 (cF pg0 f28) (by cbv)
def Qiv:=@ko2 QaF _ _ _ func28 (by kernel_rfl)
def QpZ:=rs1 Pg f49 2 rfl rfl
def Qiw:PC:=e0 (cF pg0 f49) (by cbv)
def Qrw:=@ko1 Qiw _ _ _ func49 (by kernel_rfl)
def WG:=rs1 Pg f50 6 rfl rfl
def Qg3:PC:=e0 (cF pg0 f50) (by cbv)
def Qp0:=@ko3 Qg3 _ _ _ func50 (by kernel_rfl)
def G5:=rs1 Pg f83 2 rfl rfl
def Qe9:PC:=e0 (cF pg0 f83) (by cbv)
def Qob:=@ko1 Qe9 _ _ _ func83 (by kernel_rfl)
