/- The code of the functions that are reached, resolved. -/
import Derived.Test.YtgepgbbjfhggfaaGreatDoorProg
import Derived.KernelRfl
import Derived.Test.YtgepgbbjfhggfaaGreatDoorC0Code
set_option linter.unusedVariables false
set_option maxRecDepth 100000
set_option maxHeartbeats 4000000
set_option linter.defProp false
noncomputable section
namespace Go.Proofs.YtgepgbbjfhggfaaGreatDoor.code
open Go.Ab
variable (H0 H:Qa) (k:Value->Qa->Prop) (A:Env)
noncomputable abbrev ZG:Func:=Tryz.f21
def Wm:=rs1 prog ZG 2 rfl rfl
def Wo:(Nat->PC)->List PC:=eL (cL pg0 ZG) (λ_=>by cbv)
def Zy:PC:=e1 13 Wo (λ_=>by cbv) .skip
def Zz:PC:=e1 12 Wo (λ_=>by cbv) Zy
def ZA:PC:=e1 11 Wo (λ_=>by cbv) Zz
def Qds:PC:=e1 10 Wo (λ_=>by cbv) ZA
def QiB:PC:=e1 9 Wo (λ_=>by cbv) .skip
def QiC:PC:=e1 8 Wo (λ_=>by cbv) QiB
def QiD:PC:=e1 7 Wo (λ_=>by cbv) QiC
def QiE:PC:=e1 6 Wo (λ_=>by cbv) QiD
def Qdt:PC:=e2 5 Wo (λ_ _=>by cbv) Qds QiE
def QgE:PC:=e1 4 Wo (λ_=>by cbv) .skip
def QgF:PC:=e1 3 Wo (λ_=>by cbv) QgE
def Qcx:PC:=e2 2 Wo (λ_ _=>by cbv) Qdt QgF
def QgG:PC:=e1 1 Wo (λ_=>by cbv) Qcx
def Ql2:PC:=e1 0 Wo (λ_=>by cbv) QgG
def Qtt:=@ko1 Ql2 _ _ _ Tryz.func21 (by kernel_rfl)
def KL:=rs1 prog Tryz.f42 2 rfl rfl
def Qf5:PC:=e0 (cF pg0 Tryz.f42) (by cbv)
def Ql3:=@ko1 Qf5 _ _ _ Tryz.func42 (by kernel_rfl)
def ZH:=rs1 prog Tryz.f43 2 rfl rfl
def Zc:(Nat->PC)->List PC:=eL (cL pg0 Tryz.f43) (λ_=>by cbv)
def JL:PC:=e1 5 Zc (λ_=>by cbv) .skip
def JM:PC:=e1 4 Zc (λ_=>by cbv) .skip
def JN:PC:=e1 3 Zc (λ_=>by cbv) JM
def JO:PC:=e1 2 Zc (λ_=>by cbv) JN
def JP:PC:=e1 1 Zc (λ_=>by cbv) JO
def QgH:PC:=e2 0 Zc (λ_ _=>by cbv) JL JP
def Qps:=@ko1 QgH _ _ _ Tryz.func43 (by kernel_rfl)
def Xb:=rs2 prog Tryz.f44 2 3 rfl rfl
def Qh4:PC:=e0 (cF pg0 Tryz.f44) (by cbv)
def Qvm:=@ko1 Qh4 _ _ _ Tryz.func44 (by kernel_rfl)
def Wb:=rs2 prog Tryz.f45 6 7 rfl rfl
def QaN:(Nat->PC)->List PC:=eL (cL pg0 Tryz.f45) (λ_=>by cbv)
def QZ:PC:=e1 3 QaN (λ_=>by cbv) .skip
def Q0:PC:=e1 2 QaN (λ_=>by cbv) QZ
def Q3:PC:=e1 1 QaN (λ_=>by cbv) .skip
def Jl:PC:=e2 0 QaN (λ_ _=>by cbv) Q0 Q3
def Qj8:=@ko3 Jl _ _ _ Tryz.func45 (by kernel_rfl)
def QaO:=Qut prog Tryz.f46 true 2 2 24 3 rfl rfl (by kernel_rfl)
def Q5:(Nat->PC)->List PC:=eL (cL pg0 Tryz.f46) (λ_=>by cbv)
def QqY:PC:=e1 16 Q5 (λ_=>by cbv) .skip
def QqZ:PC:=e1 15 Q5 (λ_=>by cbv) QqY
def Qq0:PC:=e1 14 Q5 (λ_=>by cbv) QqZ
def QiF:PC:=e1 13 Q5 (λ_=>by cbv) .skip
def Qdu:PC:=e1 12 Q5 (λ_=>by cbv) QiF
def VH:PC:=e1 11 Q5 (λ_=>by cbv) Qdu
def VI:PC:=e1 10 Q5 (λ_=>by cbv) VH
def QiG:PC:=e1 9 Q5 (λ_=>by cbv) .skip
def QiH:PC:=e1 8 Q5 (λ_=>by cbv) QiG
def QgI:PC:=e1 7 Q5 (λ_=>by cbv) QiH
def Qcy:PC:=e1 6 Q5 (λ_=>by cbv) QgI
def Gk:PC:=e2 5 Q5 (λ_ _=>by cbv) VI Qcy
def QgJ:PC:=e1 4 Q5 (λ_=>by cbv) .skip
def QgK:PC:=e1 3 Q5 (λ_=>by cbv) QgJ
def QgL:PC:=e2 2 Q5 (λ_ _=>by cbv) Gk QgK
def QgM:PC:=e1 1 Q5 (λ_=>by cbv) QgL
def Ql4:PC:=e2 0 Q5 (λ_ _=>by cbv) Qq0 QgM
def Qtu:=@ko1 Ql4 _ _ _ Tryz.func46 (by kernel_rfl)
def Ql5:=rs1 prog Tryz.f62 2 rfl rfl
def QnV:PC:=e0 (cF pg0 Tryz.f62) (by cbv)
def Qvn:=@ko1 QnV _ _ _ Tryz.func62 (by kernel_rfl)
noncomputable abbrev JA:Func:=Tryz.f63
def Qj:=rs1 prog JA 2 rfl rfl
def JQ:(Nat->PC)->List PC:=eL (cL pg0 JA) (λ_=>by cbv)
def Qen:PC:=e1 6 JQ (λ_=>by cbv) .skip
def Qeo:PC:=e1 5 JQ (λ_=>by cbv) Qen
def Qep:PC:=e1 4 JQ (λ_=>by cbv) Qeo
def Qeq:PC:=e1 3 JQ (λ_=>by cbv) Qep
def Qer:PC:=e1 2 JQ (λ_=>by cbv) Qeq
def Qes:PC:=e1 1 JQ (λ_=>by cbv) Qer
def QnW:PC:=e1 0 JQ (λ_=>by cbv) Qes
def Qvo:=@ko1 QnW _ _ _ Tryz.func63 (by kernel_rfl)
def Qd4:=rs2 prog Tryz.f64 2 3 rfl rfl
def X3:(Nat->PC)->List PC:=eL (cL pg0 Tryz.f64) (λ_=>by cbv)
def G5:PC:=e1 11 X3 (λ_=>by cbv) .skip
def G6:PC:=e1 10 X3 (λ_=>by cbv) G5
def G7:PC:=e1 9 X3 (λ_=>by cbv) .skip
def G8:PC:=e1 8 X3 (λ_=>by cbv) G7
def G9:PC:=e1 7 X3 (λ_=>by cbv) G8
def Va:PC:=e1 6 X3 (λ_=>by cbv) G9
def Vb:PC:=e1 5 X3 (λ_=>by cbv) Va
def Vc:PC:=e1 4 X3 (λ_=>by cbv) Vb
def Vd:PC:=e1 3 X3 (λ_=>by cbv) Vc
def KM:PC:=e1 2 X3 (λ_=>by cbv) Vd
def KN:PC:=e2 1 X3 (λ_ _=>by cbv) G6 KM
def Qqx:PC:=e1 0 X3 (λ_=>by cbv) KN
def Qw8:=@ko1 Qqx _ _ _ Tryz.func64 (by kernel_rfl)
def Jm:=rs1 prog Tryz.f65 2 rfl rfl
def QiI:PC:=e0 (cF pg0 Tryz.f65) (by cbv)
def Qq1:=@ko1 QiI _ _ _ Tryz.func65 (by kernel_rfl)
def XL:=rs1 prog Tryz.f66 2 rfl rfl
def Ja:PC:=e0 (cF pg0 Tryz.f66) (by cbv)
def QbN:=@ko1 Ja _ _ _ Tryz.func66 (by kernel_rfl)
def ZI:=Qut prog Tryz.f67 true 11 2 58 3 rfl rfl (by kernel_rfl)
def Gl:(Nat->PC)->List PC:=eL (cL pg0 Tryz.f67) (λ_=>by cbv)
def Yl:PC:=e1 3 Gl (λ_=>by cbv) .skip
def Ym:PC:=e1 2 Gl (λ_=>by cbv) Yl
def Yn:PC:=e1 1 Gl (λ_=>by cbv) Ym
def QgN:PC:=e1 0 Gl (λ_=>by cbv) Yn
def Qpt:=@ko1 QgN _ _ _ Tryz.func67 (by kernel_rfl)
def WW:=rs1 prog Tryz.f68 2 rfl rfl
def QbW:PC:=e0 (cF pg0 Tryz.f68) (by cbv)
def Qjo:=@ko1 QbW _ _ _ Tryz.func68 (by kernel_rfl)
def Ye:=rs1 prog Tryz.f69 2 rfl rfl
def QcZ:PC:=e0 (cF pg0 Tryz.f69) (by cbv)
def Qj9:=@ko1 QcZ _ _ _ Tryz.func69 (by kernel_rfl)
def Q9:=rs1 prog Tryz.f70 2 rfl rfl
def KO:PC:=e0 (cF pg0 Tryz.f70) (by cbv)
def Qka:=@ko1 KO _ _ _ Tryz.func70 (by kernel_rfl)
def Xr:=rs1 prog Tryz.f71 2 rfl rfl
def GL:PC:=e0 (cF pg0 Tryz.f71) (by cbv)
def QlC:=@ko1 GL _ _ _ Tryz.func71 (by kernel_rfl)
def QlD:=rs0 prog Tryz.f72 rfl
def Qet:PC:=e0 (cF pg0 Tryz.f72) (by cbv)
def QmJ:=@ko1 Qet _ _ _ Tryz.func72 (by kernel_rfl)
def Qdv:=rs2 prog Tryz.f103 2 3 rfl rfl
def Qkb:PC:=e0 (cF pg0 Tryz.f103) (by cbv)
def Qsc:=@ko1 Qkb _ _ _ Tryz.func103 (by kernel_rfl)
def Qf6:=rs1 prog Tryz.f104 2 rfl rfl
def QnX:PC:=e0 (cF pg0 Tryz.f104) (by cbv)
def Qvp:=@ko1 QnX _ _ _ Tryz.func104 (by kernel_rfl)
def Qh5:=rs1 prog Tryz.f105 2 rfl rfl
def Qqy:PC:=e0 (cF pg0 Tryz.f105) (by cbv)
def Qw9:=@ko1 Qqy _ _ _ Tryz.func105 (by kernel_rfl)
def Zg:=rs1 prog Tryz.f106 2 rfl rfl
def Ql6:PC:=e0 (cF pg0 Tryz.f106) (by cbv)
def Qtv:=@ko1 Ql6 _ _ _ Tryz.func106 (by kernel_rfl)
def Qd5:=rs1 prog Tryz.f107 2 rfl rfl
def Qfk:(Nat->PC)->List PC:=eL (cL pg0 Tryz.f107) (λ_=>by cbv)
def Ve:PC:=e1 3 Qfk (λ_=>by cbv) .skip
def Vf:PC:=e1 2 Qfk (λ_=>by cbv) Ve
def Vg:PC:=e1 1 Qfk (λ_=>by cbv) Vf
def Qqz:PC:=e1 0 Qfk (λ_=>by cbv) Vg
def Qxa:=@ko1 Qqz _ _ _ Tryz.func107 (by kernel_rfl)
def QcN:=Qut prog Tryz.f108 true 7 2 56 3 rfl rfl (by kernel_rfl)
def QaP:(Nat->PC)->List PC:=eL (cL pg0 Tryz.f108) (λ_=>by cbv)
def KQ:PC:=e1 4 QaP (λ_=>by cbv) .skip
def KS:PC:=e1 3 QaP (λ_=>by cbv) .skip
def KU:PC:=e2 2 QaP (λ_ _=>by cbv) KQ KS
def KW:PC:=e1 1 QaP (λ_=>by cbv) KU
def QnY:PC:=e1 0 QaP (λ_=>by cbv) KW
def Qvq:=@ko1 QnY _ _ _ Tryz.func108 (by kernel_rfl)
def VP:=rs1 prog Tryz.f109 6 rfl rfl
def QaQ:PC:=e0 (cF pg0 Tryz.f109) (by cbv)
def QnZ:=@ko3 QaQ _ _ _ Tryz.func109 (by kernel_rfl)
end Go.Proofs.YtgepgbbjfhggfaaGreatDoor.code
