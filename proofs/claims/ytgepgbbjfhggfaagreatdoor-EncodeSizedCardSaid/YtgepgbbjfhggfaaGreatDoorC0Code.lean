/- The code of the functions that are reached, resolved. -/
import Derived.Test.YtgepgbbjfhggfaaGreatDoorProg
import Derived.KernelRfl
import Derived.Test.YtgepgbbjfhggfaaGreatDoorAbD
set_option linter.unusedVariables false
set_option maxRecDepth 100000
set_option maxHeartbeats 4000000
set_option linter.defProp false
noncomputable section
namespace Go.Proofs.YtgepgbbjfhggfaaGreatDoor.code
open Go.Ab
variable (H0 H:Qa) (k:Value->Qa->Prop) (A:Env)
noncomputable abbrev prog:Program:=Tryz.prog
noncomputable abbrev pg0:Program:={toTables:=Tryz.progTables,funcs:=#[]}
def Qga:=QtG prog Tryz.f8 true 2 2 24 rfl rfl (by kernel_rfl)
def V6:PC:=e0 (cF pg0 Tryz.f8) (by cbv)
def QgG:=@ko1 V6 _ _ _ Tryz.func8 (by kernel_rfl)
def Ys:=rs1 prog Tryz.f12 4 rfl rfl
def V7:PC:=e0 (cF pg0 Tryz.f12) (by cbv)
def QgH:=@ko2 V7 _ _ _ Tryz.func12 (by kernel_rfl)
def QvE:=rs1 prog Tryz.f15 2 rfl rfl
def QqI:PC:=e0 (cF pg0 Tryz.f15) (by cbv)
def Qxo:=@ko1 QqI _ _ _ Tryz.func15 (by kernel_rfl)
def Yo:=QqH prog Tryz.f17 true 2 2 24 3 rfl rfl (by kernel_rfl)
def QiM:PC:=e0 (cF pg0 Tryz.f17) (by cbv)
def Qq8:=@ko1 QiM _ _ _ Tryz.func17 (by kernel_rfl)
def ZU:=rs1 prog Tryz.f35 4 rfl rfl
def V8:PC:=e0 (cF pg0 Tryz.f35) (by cbv)
def QgI:=@ko2 V8 _ _ _ Tryz.func35 (by kernel_rfl)
def Qn2:=rs1 prog Tryz.f36 6 rfl rfl
def QgJ:PC:=e0 (cF pg0 Tryz.f36) (by cbv)
def QpC:=@ko3 QgJ _ _ _ Tryz.func36 (by kernel_rfl)
def Qso:=rs1 prog Tryz.f37 3 rfl rfl
def Ql8:PC:=e0 (cF pg0 Tryz.f37) (by cbv)
def QtH:=@ko2 Ql8 _ _ _ Tryz.func37 (by kernel_rfl)
def Qq9:=rs1 prog Tryz.f61 0 rfl rfl
def Qkc:PC:=e0 (cF pg0 Tryz.f61) (by cbv)
def Qsp:=@ko0 Qkc _ _ _ Tryz.func61 (by kernel_rfl)
def Yt:=rs1 prog Tryz.f75 4 rfl rfl
def Jl:PC:=e0 (cF pg0 Tryz.f75) (by cbv)
def V9:=@ko2 Jl _ _ _ Tryz.func75 (by kernel_rfl)
def QaF:=rs1 prog Tryz.f124 4 rfl rfl
def QbS:PC:=e0 (cF pg0 Tryz.f124) (by cbv)
def Qjq:=@ko2 QbS _ _ _ Tryz.func124 (by kernel_rfl)
def Qsq:=rs1 prog Tryz.f248 4 rfl rfl
def Ql9:PC:=e0 (cF pg0 Tryz.f248) (by cbv)
def QtI:=@ko2 Ql9 _ _ _ Tryz.func248 (by kernel_rfl)
def YO:=rs1 prog Tryz.f253 4 rfl rfl
def QaG:PC:=e0 (cF pg0 Tryz.f253) (by cbv)
def Qh0:=@ko2 QaG _ _ _ Tryz.func253 (by kernel_rfl)
def WN:=rs1 prog Tryz.f31 2 rfl rfl
def QY:(Nat->PC)->List PC:=eL (cL pg0 Tryz.f31) (λ_=>by cbv)
def GT:PC:=e1 9 QY (λ_=>by cbv) .skip
def GU:PC:=e1 8 QY (λ_=>by cbv) GT
def GV:PC:=e1 7 QY (λ_=>by cbv) GU
def ZV:PC:=e1 6 QY (λ_=>by cbv) GV
def ZW:PC:=e1 5 QY (λ_=>by cbv) ZV
def GW:PC:=e1 4 QY (λ_=>by cbv) .skip
def GY:PC:=e1 3 QY (λ_=>by cbv) GW
def GZ:PC:=e2 2 QY (λ_ _=>by cbv) ZW GY
def G0:PC:=e1 1 QY (λ_=>by cbv) GZ
def QaH:PC:=e1 0 QY (λ_=>by cbv) G0
def Qh1:=@ko1 QaH _ _ _ Tryz.func31 (by kernel_rfl)
def QgK:=rs1 prog Tryz.f52 2 rfl rfl
def QaI:PC:=e0 (cF pg0 Tryz.f52) (by cbv)
def Qh2:=@ko1 QaI _ _ _ Tryz.func52 (by kernel_rfl)
def Xi:=rs1 prog Tryz.f53 2 rfl rfl
def WX:(Nat->PC)->List PC:=eL (cL pg0 Tryz.f53) (λ_=>by cbv)
def Wy:PC:=e1 5 WX (λ_=>by cbv) .skip
def Wz:PC:=e1 4 WX (λ_=>by cbv) .skip
def WA:PC:=e1 3 WX (λ_=>by cbv) Wz
def WB:PC:=e1 2 WX (λ_=>by cbv) WA
def WC:PC:=e1 1 WX (λ_=>by cbv) WB
def QaJ:PC:=e2 0 WX (λ_ _=>by cbv) Wy WC
def Qh3:=@ko1 QaJ _ _ _ Tryz.func53 (by kernel_rfl)
def Qh4:=rs1 prog Tryz.f54 4 rfl rfl
def Km:(Nat->PC)->List PC:=eL (cL pg0 Tryz.f54) (λ_=>by cbv)
def Qaa:PC:=e1 2 Km (λ_=>by cbv) .skip
def Qab:PC:=e1 1 Km (λ_=>by cbv) Qaa
def QbT:PC:=e1 0 Km (λ_=>by cbv) Qab
def Qjr:=@ko2 QbT _ _ _ Tryz.func54 (by kernel_rfl)
def QV:=rs2 prog Tryz.f55 2 3 rfl rfl
def Kn:(Nat->PC)->List PC:=eL (cL pg0 Tryz.f55) (λ_=>by cbv)
def QB:PC:=e1 2 Kn (λ_=>by cbv) .skip
def QC:PC:=e1 1 Kn (λ_=>by cbv) QB
def Ko:PC:=e1 0 Kn (λ_=>by cbv) QC
def Qjs:=@ko1 Ko _ _ _ Tryz.func55 (by kernel_rfl)
def Qz:=rs2 prog Tryz.f56 6 7 rfl rfl
def YI:(Nat->PC)->List PC:=eL (cL pg0 Tryz.f56) (λ_=>by cbv)
def QE:PC:=e1 4 YI (λ_=>by cbv) .skip
def QF:PC:=e1 3 YI (λ_=>by cbv) QE
def QG:PC:=e1 2 YI (λ_=>by cbv) QF
def QH:PC:=e1 1 YI (λ_=>by cbv) QG
def Xj:PC:=e1 0 YI (λ_=>by cbv) QH
def Qkd:=@ko3 Xj _ _ _ Tryz.func56 (by kernel_rfl)
def Jm:=rs1 prog Tryz.f76 2 rfl rfl
def WY:(Nat->PC)->List PC:=eL (cL pg0 Tryz.f76) (λ_=>by cbv)
def Yu:PC:=e1 5 WY (λ_=>by cbv) .skip
def Yv:PC:=e1 4 WY (λ_=>by cbv) Yu
def Yw:PC:=e1 3 WY (λ_=>by cbv) .skip
def Yx:PC:=e1 2 WY (λ_=>by cbv) Yw
def Yy:PC:=e1 1 WY (λ_=>by cbv) Yx
def QaK:PC:=e2 0 WY (λ_ _=>by cbv) Yv Yy
def Qh5:=@ko1 QaK _ _ _ Tryz.func76 (by kernel_rfl)
def Q0:=rs1 prog Tryz.f77 2 rfl rfl
def Wu:(Nat->PC)->List PC:=eL (cL pg0 Tryz.f77) (λ_=>by cbv)
def QP:PC:=e1 6 Wu (λ_=>by cbv) .skip
def QQ:PC:=e1 5 Wu (λ_=>by cbv) .skip
def QR:PC:=e1 4 Wu (λ_=>by cbv) QQ
def QS:PC:=e2 3 Wu (λ_ _=>by cbv) QP QR
def QT:PC:=e1 2 Wu (λ_=>by cbv) QS
def QU:PC:=e1 1 Wu (λ_=>by cbv) QT
def QaL:PC:=e1 0 Wu (λ_=>by cbv) QU
def Qh6:=@ko1 QaL _ _ _ Tryz.func77 (by kernel_rfl)
def Zq:=rs2 prog Tryz.f78 2 3 rfl rfl
def KL:(Nat->PC)->List PC:=eL (cL pg0 Tryz.f78) (λ_=>by cbv)
def XJ:PC:=e1 2 KL (λ_=>by cbv) .skip
def XK:PC:=e1 1 KL (λ_=>by cbv) XJ
def Qc4:PC:=e1 0 KL (λ_=>by cbv) XK
def Qke:=@ko1 Qc4 _ _ _ Tryz.func78 (by kernel_rfl)
def XL:=rs1 prog Tryz.f79 2 rfl rfl
def Kq:(Nat->PC)->List PC:=eL (cL pg0 Tryz.f79) (λ_=>by cbv)
def WO:PC:=e1 2 Kq (λ_=>by cbv) .skip
def WP:PC:=e1 1 Kq (λ_=>by cbv) WO
def QbU:PC:=e1 0 Kq (λ_=>by cbv) WP
def Qjt:=@ko1 QbU _ _ _ Tryz.func79 (by kernel_rfl)
def Qac:=QqH prog Tryz.f80 true 2 2 24 3 rfl rfl (by kernel_rfl)
def QZ:(Nat->PC)->List PC:=eL (cL pg0 Tryz.f80) (λ_=>by cbv)
def ZX:PC:=e1 9 QZ (λ_=>by cbv) .skip
def G3:PC:=e1 8 QZ (λ_=>by cbv) .skip
def ZY:PC:=e1 7 QZ (λ_=>by cbv) G3
def WD:PC:=e1 6 QZ (λ_=>by cbv) ZY
def WE:PC:=e2 5 QZ (λ_ _=>by cbv) ZX WD
def ZZ:PC:=e1 4 QZ (λ_=>by cbv) .skip
def G4:PC:=e1 3 QZ (λ_=>by cbv) ZZ
def Z0:PC:=e1 2 QZ (λ_=>by cbv) G4
def G5:PC:=e2 1 QZ (λ_ _=>by cbv) WE Z0
def QaM:PC:=e1 0 QZ (λ_=>by cbv) G5
def Qh7:=@ko1 QaM _ _ _ Tryz.func80 (by kernel_rfl)
def KM:=rs1 prog Tryz.f81 6 rfl rfl
def GJ:PC:=e0 (cF pg0 Tryz.f81) (by cbv)
def QlI:=@ko3 GJ _ _ _ Tryz.func81 (by kernel_rfl)
def Qh8:=QtG prog Tryz.f82 true 2 2 24 rfl rfl (by kernel_rfl)
def QbV:PC:=e0 (cF pg0 Tryz.f82) (by cbv)
def Qju:=@ko1 QbV _ _ _ Tryz.func82 (by kernel_rfl)
def Qc5:=rs1 prog Tryz.f116 4 rfl rfl
def GL:(Nat->PC)->List PC:=eL (cL pg0 Tryz.f116) (λ_=>by cbv)
def QbW:PC:=e1 2 GL (λ_=>by cbv) .skip
def Kr:PC:=e1 1 GL (λ_=>by cbv) QbW
def QdM:PC:=e1 0 GL (λ_=>by cbv) Kr
def QlJ:=@ko2 QdM _ _ _ Tryz.func116 (by kernel_rfl)
def JM:=rs1 prog Tryz.f117 2 rfl rfl
def QbX:PC:=e0 (cF pg0 Tryz.f117) (by cbv)
def Qjv:=@ko1 QbX _ _ _ Tryz.func117 (by kernel_rfl)
def Y6:=rs1 prog Tryz.f118 2 rfl rfl
def QbY:PC:=e0 (cF pg0 Tryz.f118) (by cbv)
def Qjw:=@ko1 QbY _ _ _ Tryz.func118 (by kernel_rfl)
def Y7:=rs1 prog Tryz.f119 2 rfl rfl
def W6:(Nat->PC)->List PC:=eL (cL pg0 Tryz.f119) (λ_=>by cbv)
def Xl:PC:=e1 5 W6 (λ_=>by cbv) .skip
def Xm:PC:=e1 4 W6 (λ_=>by cbv) Xl
def Xn:PC:=e1 3 W6 (λ_=>by cbv) Xm
def Xo:PC:=e1 2 W6 (λ_=>by cbv) Xn
def Xp:PC:=e1 1 W6 (λ_=>by cbv) Xo
def QbZ:PC:=e1 0 W6 (λ_=>by cbv) Xp
def Qjx:=@ko1 QbZ _ _ _ Tryz.func119 (by kernel_rfl)
def Xq:=QqH prog Tryz.f120 true 11 2 58 3 rfl rfl (by kernel_rfl)
def JN:(Nat->PC)->List PC:=eL (cL pg0 Tryz.f120) (λ_=>by cbv)
def WF:PC:=e1 2 JN (λ_=>by cbv) .skip
def WG:PC:=e1 1 JN (λ_=>by cbv) WF
def QaN:PC:=e1 0 JN (λ_=>by cbv) WG
def Qh9:=@ko1 QaN _ _ _ Tryz.func120 (by kernel_rfl)
def Xr:=QqH prog Tryz.f255 true 7 2 56 3 rfl rfl (by kernel_rfl)
def XM:(Nat->PC)->List PC:=eL (cL pg0 Tryz.f255) (λ_=>by cbv)
def WH:PC:=e1 4 XM (λ_=>by cbv) .skip
def WI:PC:=e1 3 XM (λ_=>by cbv) WH
def WJ:PC:=e1 2 XM (λ_=>by cbv) .skip
def WK:PC:=e2 1 XM (λ_ _=>by cbv) WI WJ
def QaO:PC:=e1 0 XM (λ_=>by cbv) WK
def Qia:=@ko1 QaO _ _ _ Tryz.func255 (by kernel_rfl)
end Go.Proofs.YtgepgbbjfhggfaaGreatDoor.code
