/- The code of the functions that are reached, resolved. -/
import Derived.Test.YtgepgbbjfhggfaaGreatDoorProg
import Derived.KernelRfl
import Derived.Test.YtgepgbbjfhggfaaGreatDoorC0Code
set_option linter.unusedVariables false
set_option maxRecDepth 100000
set_option maxHeartbeats 4000000
set_option linter.defProp false
noncomputable section
namespace Go.Proofs.YtgepgbbjfhggfaaGreatDoor.code
open Go.Ab
variable (H0 H:Qa) (k:Value->Qa->Prop) (A:Env)
noncomputable abbrev ZG:Func:=Tryz.f21
def Wp:=rs1 prog ZG 2 rfl rfl
def Wr:(Nat->PC)->List PC:=eL (cL pg0 ZG) (λ_=>by cbv)
def Zz:PC:=e1 13 Wr (λ_=>by cbv) .skip
def ZA:PC:=e1 12 Wr (λ_=>by cbv) Zz
def ZB:PC:=e1 11 Wr (λ_=>by cbv) ZA
def Qdw:PC:=e1 10 Wr (λ_=>by cbv) ZB
def QiN:PC:=e1 9 Wr (λ_=>by cbv) .skip
def QiO:PC:=e1 8 Wr (λ_=>by cbv) QiN
def QiP:PC:=e1 7 Wr (λ_=>by cbv) QiO
def QiQ:PC:=e1 6 Wr (λ_=>by cbv) QiP
def Qdx:PC:=e2 5 Wr (λ_ _=>by cbv) Qdw QiQ
def QgL:PC:=e1 4 Wr (λ_=>by cbv) .skip
def QgM:PC:=e1 3 Wr (λ_=>by cbv) QgL
def QcE:PC:=e2 2 Wr (λ_ _=>by cbv) Qdx QgM
def QgN:PC:=e1 1 Wr (λ_=>by cbv) QcE
def Qma:PC:=e1 0 Wr (λ_=>by cbv) QgN
def QtJ:=@ko1 Qma _ _ _ Tryz.func21 (by kernel_rfl)
def KN:=rs1 prog Tryz.f42 2 rfl rfl
def Qgb:PC:=e0 (cF pg0 Tryz.f42) (by cbv)
def Qmb:=@ko1 Qgb _ _ _ Tryz.func42 (by kernel_rfl)
def ZH:=rs1 prog Tryz.f43 2 rfl rfl
def Zh:(Nat->PC)->List PC:=eL (cL pg0 Tryz.f43) (λ_=>by cbv)
def JO:PC:=e1 5 Zh (λ_=>by cbv) .skip
def JP:PC:=e1 4 Zh (λ_=>by cbv) .skip
def JQ:PC:=e1 3 Zh (λ_=>by cbv) JP
def JR:PC:=e1 2 Zh (λ_=>by cbv) JQ
def JS:PC:=e1 1 Zh (λ_=>by cbv) JR
def QgO:PC:=e2 0 Zh (λ_ _=>by cbv) JO JS
def QpD:=@ko1 QgO _ _ _ Tryz.func43 (by kernel_rfl)
def Xc:=rs2 prog Tryz.f44 2 3 rfl rfl
def Qib:PC:=e0 (cF pg0 Tryz.f44) (by cbv)
def QvF:=@ko1 Qib _ _ _ Tryz.func44 (by kernel_rfl)
def Wd:=rs2 prog Tryz.f45 6 7 rfl rfl
def QaP:(Nat->PC)->List PC:=eL (cL pg0 Tryz.f45) (λ_=>by cbv)
def Q3:PC:=e1 3 QaP (λ_=>by cbv) .skip
def Q4:PC:=e1 2 QaP (λ_=>by cbv) Q3
def Q5:PC:=e1 1 QaP (λ_=>by cbv) .skip
def Jn:PC:=e2 0 QaP (λ_ _=>by cbv) Q4 Q5
def Qkf:=@ko3 Jn _ _ _ Tryz.func45 (by kernel_rfl)
def QaQ:=QqH prog Tryz.f46 true 2 2 24 3 rfl rfl (by kernel_rfl)
def Q8:(Nat->PC)->List PC:=eL (cL pg0 Tryz.f46) (λ_=>by cbv)
def Qra:PC:=e1 16 Q8 (λ_=>by cbv) .skip
def Qrb:PC:=e1 15 Q8 (λ_=>by cbv) Qra
def Qrc:PC:=e1 14 Q8 (λ_=>by cbv) Qrb
def QiR:PC:=e1 13 Q8 (λ_=>by cbv) .skip
def Qdy:PC:=e1 12 Q8 (λ_=>by cbv) QiR
def VO:PC:=e1 11 Q8 (λ_=>by cbv) Qdy
def VP:PC:=e1 10 Q8 (λ_=>by cbv) VO
def QiS:PC:=e1 9 Q8 (λ_=>by cbv) .skip
def QiT:PC:=e1 8 Q8 (λ_=>by cbv) QiS
def QgP:PC:=e1 7 Q8 (λ_=>by cbv) QiT
def QcF:PC:=e1 6 Q8 (λ_=>by cbv) QgP
def Gm:PC:=e2 5 Q8 (λ_ _=>by cbv) VP QcF
def QgQ:PC:=e1 4 Q8 (λ_=>by cbv) .skip
def QgR:PC:=e1 3 Q8 (λ_=>by cbv) QgQ
def QgS:PC:=e2 2 Q8 (λ_ _=>by cbv) Gm QgR
def QgT:PC:=e1 1 Q8 (λ_=>by cbv) QgS
def Qmc:PC:=e2 0 Q8 (λ_ _=>by cbv) Qrc QgT
def QtK:=@ko1 Qmc _ _ _ Tryz.func46 (by kernel_rfl)
def Qmd:=rs1 prog Tryz.f62 2 rfl rfl
def Qn3:PC:=e0 (cF pg0 Tryz.f62) (by cbv)
def QvG:=@ko1 Qn3 _ _ _ Tryz.func62 (by kernel_rfl)
noncomputable abbrev JD:Func:=Tryz.f63
def Qj:=rs1 prog JD 2 rfl rfl
def JT:(Nat->PC)->List PC:=eL (cL pg0 JD) (λ_=>by cbv)
def Qeq:PC:=e1 6 JT (λ_=>by cbv) .skip
def Qer:PC:=e1 5 JT (λ_=>by cbv) Qeq
def Qes:PC:=e1 4 JT (λ_=>by cbv) Qer
def Qet:PC:=e1 3 JT (λ_=>by cbv) Qes
def Qeu:PC:=e1 2 JT (λ_=>by cbv) Qet
def Qev:PC:=e1 1 JT (λ_=>by cbv) Qeu
def Qn4:PC:=e1 0 JT (λ_=>by cbv) Qev
def QvH:=@ko1 Qn4 _ _ _ Tryz.func63 (by kernel_rfl)
def Qd7:=rs2 prog Tryz.f64 2 3 rfl rfl
def X5:(Nat->PC)->List PC:=eL (cL pg0 Tryz.f64) (λ_=>by cbv)
def G6:PC:=e1 11 X5 (λ_=>by cbv) .skip
def G7:PC:=e1 10 X5 (λ_=>by cbv) G6
def G8:PC:=e1 9 X5 (λ_=>by cbv) .skip
def G9:PC:=e1 8 X5 (λ_=>by cbv) G8
def Va:PC:=e1 7 X5 (λ_=>by cbv) G9
def Vb:PC:=e1 6 X5 (λ_=>by cbv) Va
def Vc:PC:=e1 5 X5 (λ_=>by cbv) Vb
def Vd:PC:=e1 4 X5 (λ_=>by cbv) Vc
def Ve:PC:=e1 3 X5 (λ_=>by cbv) Vd
def KO:PC:=e1 2 X5 (λ_=>by cbv) Ve
def KQ:PC:=e2 1 X5 (λ_ _=>by cbv) G7 KO
def QqJ:PC:=e1 0 X5 (λ_=>by cbv) KQ
def Qxp:=@ko1 QqJ _ _ _ Tryz.func64 (by kernel_rfl)
def Jo:=rs1 prog Tryz.f65 2 rfl rfl
def QiU:PC:=e0 (cF pg0 Tryz.f65) (by cbv)
def Qrd:=@ko1 QiU _ _ _ Tryz.func65 (by kernel_rfl)
def XN:=rs1 prog Tryz.f66 2 rfl rfl
def Jc:PC:=e0 (cF pg0 Tryz.f66) (by cbv)
def QbQ:=@ko1 Jc _ _ _ Tryz.func66 (by kernel_rfl)
def ZI:=QqH prog Tryz.f67 true 11 2 58 3 rfl rfl (by kernel_rfl)
def Gn:(Nat->PC)->List PC:=eL (cL pg0 Tryz.f67) (λ_=>by cbv)
def Yp:PC:=e1 3 Gn (λ_=>by cbv) .skip
def Yq:PC:=e1 2 Gn (λ_=>by cbv) Yp
def Yr:PC:=e1 1 Gn (λ_=>by cbv) Yq
def QgU:PC:=e1 0 Gn (λ_=>by cbv) Yr
def QpE:=@ko1 QgU _ _ _ Tryz.func67 (by kernel_rfl)
def WZ:=rs1 prog Tryz.f68 2 rfl rfl
def Qb0:PC:=e0 (cF pg0 Tryz.f68) (by cbv)
def Qjy:=@ko1 Qb0 _ _ _ Tryz.func68 (by kernel_rfl)
def Yg:=rs1 prog Tryz.f69 2 rfl rfl
def Qc6:PC:=e0 (cF pg0 Tryz.f69) (by cbv)
def Qkg:=@ko1 Qc6 _ _ _ Tryz.func69 (by kernel_rfl)
def Wb:=rs1 prog Tryz.f70 2 rfl rfl
def KS:PC:=e0 (cF pg0 Tryz.f70) (by cbv)
def Qkh:=@ko1 KS _ _ _ Tryz.func70 (by kernel_rfl)
def Xs:=rs1 prog Tryz.f71 2 rfl rfl
def GM:PC:=e0 (cF pg0 Tryz.f71) (by cbv)
def QlK:=@ko1 GM _ _ _ Tryz.func71 (by kernel_rfl)
def QlL:=rs0 prog Tryz.f72 rfl
def Qew:PC:=e0 (cF pg0 Tryz.f72) (by cbv)
def QmR:=@ko1 Qew _ _ _ Tryz.func72 (by kernel_rfl)
def Qdz:=rs2 prog Tryz.f103 2 3 rfl rfl
def Qki:PC:=e0 (cF pg0 Tryz.f103) (by cbv)
def Qsr:=@ko1 Qki _ _ _ Tryz.func103 (by kernel_rfl)
def Qgc:=rs1 prog Tryz.f104 2 rfl rfl
def Qn5:PC:=e0 (cF pg0 Tryz.f104) (by cbv)
def QvI:=@ko1 Qn5 _ _ _ Tryz.func104 (by kernel_rfl)
def Qic:=rs1 prog Tryz.f105 2 rfl rfl
def QqK:PC:=e0 (cF pg0 Tryz.f105) (by cbv)
def Qxq:=@ko1 QqK _ _ _ Tryz.func105 (by kernel_rfl)
def Zl:=rs1 prog Tryz.f106 2 rfl rfl
def Qme:PC:=e0 (cF pg0 Tryz.f106) (by cbv)
def QtL:=@ko1 Qme _ _ _ Tryz.func106 (by kernel_rfl)
def Qd8:=rs1 prog Tryz.f107 2 rfl rfl
def Qfq:(Nat->PC)->List PC:=eL (cL pg0 Tryz.f107) (λ_=>by cbv)
def Vf:PC:=e1 3 Qfq (λ_=>by cbv) .skip
def Vg:PC:=e1 2 Qfq (λ_=>by cbv) Vf
def Vh:PC:=e1 1 Qfq (λ_=>by cbv) Vg
def QqL:PC:=e1 0 Qfq (λ_=>by cbv) Vh
def Qxr:=@ko1 QqL _ _ _ Tryz.func107 (by kernel_rfl)
def QcV:=QqH prog Tryz.f108 true 7 2 56 3 rfl rfl (by kernel_rfl)
def QaR:(Nat->PC)->List PC:=eL (cL pg0 Tryz.f108) (λ_=>by cbv)
def KU:PC:=e1 4 QaR (λ_=>by cbv) .skip
def KW:PC:=e1 3 QaR (λ_=>by cbv) .skip
def KX:PC:=e2 2 QaR (λ_ _=>by cbv) KU KW
def KY:PC:=e1 1 QaR (λ_=>by cbv) KX
def Qn6:PC:=e1 0 QaR (λ_=>by cbv) KY
def QvJ:=@ko1 Qn6 _ _ _ Tryz.func108 (by kernel_rfl)
def VT:=rs1 prog Tryz.f109 6 rfl rfl
def QaS:PC:=e0 (cF pg0 Tryz.f109) (by cbv)
def Qn7:=@ko3 QaS _ _ _ Tryz.func109 (by kernel_rfl)
end Go.Proofs.YtgepgbbjfhggfaaGreatDoor.code
