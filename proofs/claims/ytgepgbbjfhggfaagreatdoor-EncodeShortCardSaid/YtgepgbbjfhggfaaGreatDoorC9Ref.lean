/- The code of the functions that are reached, resolved. -/
import Derived.Test.YtgepgbbjfhggfaaGreatDoorProg
import Derived.KernelRfl
import Derived.Test.YtgepgbbjfhggfaaGreatDoorC0Code
set_option linter.unusedVariables false
set_option maxRecDepth 100000
set_option maxHeartbeats 4000000
set_option linter.defProp false
noncomputable section
namespace Go.Proofs.YtgepgbbjfhggfaaGreatDoor.code
open Go.Ab
variable (H0 H:Qa) (k:Value->Qa->Prop) (A:Env)
def Vl:=rs2 prog Tryz.f10 4 5 rfl rfl
def WO:(Nat->PC)->List PC:=eL (cL pg0 Tryz.f10) (λ_=>by cbv)
def Zr:PC:=e1 5 WO (λ_=>by cbv) .skip
def Gy:PC:=e1 4 WO (λ_=>by cbv) .skip
def Zs:PC:=e1 3 WO (λ_=>by cbv) Gy
def Zt:PC:=e2 2 WO (λ_ _=>by cbv) Zr Zs
def Gz:PC:=e1 1 WO (λ_=>by cbv) Zt
def Qad:PC:=e1 0 WO (λ_=>by cbv) Gz
def Qhd:=@ko2 Qad _ _ _ Tryz.func10 (by kernel_rfl)
def Kt:=rs2 prog Tryz.f32 2 3 rfl rfl
def Wd:(Nat->PC)->List PC:=eL (cL pg0 Tryz.f32) (λ_=>by cbv)
def Qa6:PC:=e1 8 Wd (λ_=>by cbv) .skip
def Qa7:PC:=e1 7 Wd (λ_=>by cbv) .skip
def JU:PC:=e1 6 Wd (λ_=>by cbv) Qa7
def Qa8:PC:=e1 5 Wd (λ_=>by cbv) JU
def JV:PC:=e1 4 Wd (λ_=>by cbv) Qa8
def Qa9:PC:=e1 3 Wd (λ_=>by cbv) JV
def Qba:PC:=e1 2 Wd (λ_=>by cbv) Qa9
def Qbb:PC:=e2 1 Wd (λ_ _=>by cbv) Qa6 Qba
def Qc4:PC:=e1 0 Wd (λ_=>by cbv) Qbb
def QkD:=@ko1 Qc4 _ _ _ Tryz.func32 (by kernel_rfl)
def QkE:=rs1 prog Tryz.f33 2 rfl rfl
def GN:(Nat->PC)->List PC:=eL (cL pg0 Tryz.f33) (λ_=>by cbv)
def Qjt:PC:=e1 2 GN (λ_=>by cbv) .skip
def Qju:PC:=e1 1 GN (λ_=>by cbv) Qjt
def QdR:PC:=e1 0 GN (λ_=>by cbv) Qju
def QlL:=@ko1 QdR _ _ _ Tryz.func33 (by kernel_rfl)
def Wh:=rs1 prog Tryz.f34 6 rfl rfl
def YO:(Nat->PC)->List PC:=eL (cL pg0 Tryz.f34) (λ_=>by cbv)
def GA:PC:=e1 3 YO (λ_=>by cbv) .skip
def GB:PC:=e1 2 YO (λ_=>by cbv) GA
def GC:PC:=e1 1 YO (λ_=>by cbv) GB
def Qae:PC:=e1 0 YO (λ_=>by cbv) GC
def Qhe:=@ko3 Qae _ _ _ Tryz.func34 (by kernel_rfl)
def Wi:=rs1 prog Tryz.f57 2 rfl rfl
def K2:(Nat->PC)->List PC:=eL (cL pg0 Tryz.f57) (λ_=>by cbv)
def YZ:PC:=e1 1 K2 (λ_=>by cbv) .skip
def K3:PC:=e1 0 K2 (λ_=>by cbv) YZ
def QeV:=@ko1 K3 _ _ _ Tryz.func57 (by kernel_rfl)
def QbY:=rs2 prog Tryz.f58 4 5 rfl rfl
def Xs:(Nat->PC)->List PC:=eL (cL pg0 Tryz.f58) (λ_=>by cbv)
def JW:PC:=e1 5 Xs (λ_=>by cbv) .skip
def Qbc:PC:=e1 4 Xs (λ_=>by cbv) JW
def Qbd:PC:=e1 3 Xs (λ_=>by cbv) Qbc
def JX:PC:=e1 2 Xs (λ_=>by cbv) Qbd
def Qbe:PC:=e1 1 Xs (λ_=>by cbv) JX
def Qc5:PC:=e1 0 Xs (λ_=>by cbv) Qbe
def QkF:=@ko2 Qc5 _ _ _ Tryz.func58 (by kernel_rfl)
def Qic:=rs1 prog Tryz.f59 0 rfl rfl
def QbZ:PC:=e0 (cF pg0 Tryz.f59) (by cbv)
def Qjv:=@ko0 QbZ _ _ _ Tryz.func59 (by kernel_rfl)
def Qb0:=rs1 prog Tryz.f60 4 rfl rfl
def K4:(Nat->PC)->List PC:=eL (cL pg0 Tryz.f60) (λ_=>by cbv)
def Qbf:PC:=e1 2 K4 (λ_=>by cbv) .skip
def Qbg:PC:=e1 1 K4 (λ_=>by cbv) Qbf
def Qc6:PC:=e1 0 K4 (λ_=>by cbv) Qbg
def QkG:=@ko2 Qc6 _ _ _ Tryz.func60 (by kernel_rfl)
def WX:=rs1 prog Tryz.f83 4 rfl rfl
def W7:(Nat->PC)->List PC:=eL (cL pg0 Tryz.f83) (λ_=>by cbv)
def Qaf:PC:=e1 5 W7 (λ_=>by cbv) .skip
def Qag:PC:=e1 4 W7 (λ_=>by cbv) .skip
def Qah:PC:=e2 3 W7 (λ_ _=>by cbv) Qaf Qag
def Qai:PC:=e1 2 W7 (λ_=>by cbv) Qah
def Jq:PC:=e1 1 W7 (λ_=>by cbv) Qai
def Qb1:PC:=e1 0 W7 (λ_=>by cbv) Jq
def Qjw:=@ko2 Qb1 _ _ _ Tryz.func83 (by kernel_rfl)
def Qbh:=rs1 prog Tryz.f84 2 rfl rfl
def Qb2:PC:=e0 (cF pg0 Tryz.f84) (by cbv)
def Qjx:=@ko1 Qb2 _ _ _ Tryz.func84 (by kernel_rfl)
def Qc7:=Qvk prog Tryz.f85 true 11 6 58 rfl rfl (by kernel_rfl)
def QdS:PC:=e0 (cF pg0 Tryz.f85) (by cbv)
def QlM:=@ko3 QdS _ _ _ Tryz.func85 (by kernel_rfl)
def Qbi:=rs1 prog Tryz.f86 4 rfl rfl
def Wk:(Nat->PC)->List PC:=eL (cL pg0 Tryz.f86) (λ_=>by cbv)
def Qaj:PC:=e1 7 Wk (λ_=>by cbv) .skip
def YP:PC:=e1 6 Wk (λ_=>by cbv) Qaj
def Qak:PC:=e1 5 Wk (λ_=>by cbv) .skip
def Qal:PC:=e1 4 Wk (λ_=>by cbv) Qak
def Jr:PC:=e1 3 Wk (λ_=>by cbv) Qal
def Qam:PC:=e1 2 Wk (λ_=>by cbv) .skip
def Qan:PC:=e2 1 Wk (λ_ _=>by cbv) Jr Qam
def Qb3:PC:=e2 0 Wk (λ_ _=>by cbv) YP Qan
def Qjy:=@ko2 Qb3 _ _ _ Tryz.func86 (by kernel_rfl)
def Qbj:=rs1 prog Tryz.f87 4 rfl rfl
def Ku:(Nat->PC)->List PC:=eL (cL pg0 Tryz.f87) (λ_=>by cbv)
def Js:PC:=e1 2 Ku (λ_=>by cbv) .skip
def Qao:PC:=e1 1 Ku (λ_=>by cbv) Js
def Qb4:PC:=e1 0 Ku (λ_=>by cbv) Qao
def Qjz:=@ko2 Qb4 _ _ _ Tryz.func87 (by kernel_rfl)
def Jt:=rs1 prog Tryz.f88 10 rfl rfl
def QH:(Nat->PC)->List PC:=eL (cL pg0 Tryz.f88) (λ_=>by cbv)
def Vm:PC:=e1 11 QH (λ_=>by cbv) .skip
def Vn:PC:=e1 10 QH (λ_=>by cbv) Vm
def Z2:PC:=e1 9 QH (λ_=>by cbv) Vn
def Z3:PC:=e1 8 QH (λ_=>by cbv) Z2
def Z4:PC:=e1 7 QH (λ_=>by cbv) Z3
def Yv:PC:=e1 6 QH (λ_=>by cbv) Z4
def Yw:PC:=e1 5 QH (λ_=>by cbv) .skip
def Vo:PC:=e1 4 QH (λ_=>by cbv) Yw
def Vp:PC:=e1 3 QH (λ_=>by cbv) Vo
def Zu:PC:=e2 2 QH (λ_ _=>by cbv) Yv Vp
def Zv:PC:=e1 1 QH (λ_=>by cbv) .skip
def Qbk:PC:=e2 0 QH (λ_ _=>by cbv) Zu Zv
def Qid:=@ko5 Qbk _ _ _ Tryz.func88 (by kernel_rfl)
def Qb5:=rs1 prog Tryz.f89 2 rfl rfl
def Qc8:PC:=e0 (cF pg0 Tryz.f89) (by cbv)
def QkH:=@ko1 Qc8 _ _ _ Tryz.func89 (by kernel_rfl)
def Yx:=rs1 prog Tryz.f90 2 rfl rfl
def Qap:(Nat->PC)->List PC:=eL (cL pg0 Tryz.f90) (λ_=>by cbv)
def GD:PC:=e1 1 Qap (λ_=>by cbv) .skip
def Qaq:PC:=e1 0 Qap (λ_=>by cbv) GD
def Qhf:=@ko1 Qaq _ _ _ Tryz.func90 (by kernel_rfl)
def Qhg:=rs1 prog Tryz.f121 2 rfl rfl
def Y6:(Nat->PC)->List PC:=eL (cL pg0 Tryz.f121) (λ_=>by cbv)
def Vq:PC:=e1 3 Y6 (λ_=>by cbv) .skip
def Vr:PC:=e1 2 Y6 (λ_=>by cbv) Vq
def Vs:PC:=e1 1 Y6 (λ_=>by cbv) Vr
def Qbl:PC:=e1 0 Y6 (λ_=>by cbv) Vs
def Qie:=@ko1 Qbl _ _ _ Tryz.func121 (by kernel_rfl)
def Q6:=rs1 prog Tryz.f122 4 rfl rfl
def Qs:(Nat->PC)->List PC:=eL (cL pg0 Tryz.f122) (λ_=>by cbv)
def X4:PC:=e1 13 Qs (λ_=>by cbv) .skip
def X5:PC:=e1 12 Qs (λ_=>by cbv) X4
def X6:PC:=e1 11 Qs (λ_=>by cbv) X5
def X7:PC:=e1 10 Qs (λ_=>by cbv) X6
def X8:PC:=e1 9 Qs (λ_=>by cbv) X7
def X9:PC:=e1 8 Qs (λ_=>by cbv) X8
def Ya:PC:=e1 7 Qs (λ_=>by cbv) X9
def Yb:PC:=e1 6 Qs (λ_=>by cbv) Ya
def Yc:PC:=e1 5 Qs (λ_=>by cbv) Yb
def XM:PC:=e1 4 Qs (λ_=>by cbv) Yc
def XN:PC:=e1 3 Qs (λ_=>by cbv) XM
def XO:PC:=e1 2 Qs (λ_=>by cbv) XN
def XP:PC:=e1 1 Qs (λ_=>by cbv) XO
def YS:PC:=e1 0 Qs (λ_=>by cbv) XP
def Ju:=@ko2 YS _ _ _ Tryz.func122 (by kernel_rfl)
def Zn:=rs1 prog Tryz.f123 6 rfl rfl
def Xt:(Nat->PC)->List PC:=eL (cL pg0 Tryz.f123) (λ_=>by cbv)
def XQ:PC:=e1 5 Xt (λ_=>by cbv) .skip
def XR:PC:=e1 4 Xt (λ_=>by cbv) XQ
def XS:PC:=e1 3 Xt (λ_=>by cbv) XR
def XT:PC:=e1 2 Xt (λ_=>by cbv) XS
def XU:PC:=e1 1 Xt (λ_=>by cbv) XT
def Qc9:PC:=e1 0 Xt (λ_=>by cbv) XU
def QkI:=@ko3 Qc9 _ _ _ Tryz.func123 (by kernel_rfl)
def Qbm:=rs1 prog Tryz.f125 2 rfl rfl
def Qb6:(Nat->PC)->List PC:=eL (cL pg0 Tryz.f125) (λ_=>by cbv)
def Jv:PC:=e1 1 Qb6 (λ_=>by cbv) .skip
def Qb7:PC:=e1 0 Qb6 (λ_=>by cbv) Jv
def QjA:=@ko1 Qb7 _ _ _ Tryz.func125 (by kernel_rfl)
def QjB:=rs1 prog Tryz.f126 2 rfl rfl
def Qda:PC:=e0 (cF pg0 Tryz.f126) (by cbv)
def QkJ:=@ko1 Qda _ _ _ Tryz.func126 (by kernel_rfl)
def Qhh:=rs1 prog Tryz.f127 2 rfl rfl
def Qbn:PC:=e0 (cF pg0 Tryz.f127) (by cbv)
def Qif:=@ko1 Qbn _ _ _ Tryz.func127 (by kernel_rfl)
def Yg:=rs2 prog Tryz.f128 4 5 rfl rfl
def Xu:(Nat->PC)->List PC:=eL (cL pg0 Tryz.f128) (λ_=>by cbv)
def Qbo:PC:=e1 5 Xu (λ_=>by cbv) .skip
def Qbp:PC:=e1 4 Xu (λ_=>by cbv) .skip
def Qbq:PC:=e1 3 Xu (λ_=>by cbv) Qbp
def Qbr:PC:=e2 2 Xu (λ_ _=>by cbv) Qbo Qbq
def JY:PC:=e1 1 Xu (λ_=>by cbv) Qbr
def Qdb:PC:=e1 0 Xu (λ_=>by cbv) JY
def QkK:=@ko2 Qdb _ _ _ Tryz.func128 (by kernel_rfl)
def Qb8:=rs2 prog Tryz.f129 4 5 rfl rfl
def YG:(Nat->PC)->List PC:=eL (cL pg0 Tryz.f129) (λ_=>by cbv)
def XV:PC:=e1 4 YG (λ_=>by cbv) .skip
def Qbs:PC:=e1 3 YG (λ_=>by cbv) .skip
def JZ:PC:=e2 2 YG (λ_ _=>by cbv) XV Qbs
def J1:PC:=e1 1 YG (λ_=>by cbv) JZ
def Qdc:PC:=e1 0 YG (λ_=>by cbv) J1
def QkL:=@ko2 Qdc _ _ _ Tryz.func129 (by kernel_rfl)
def Qhi:=rs1 prog Tryz.f130 2 rfl rfl
def Qbt:PC:=e0 (cF pg0 Tryz.f130) (by cbv)
def Qig:=@ko1 Qbt _ _ _ Tryz.func130 (by kernel_rfl)
def Qbu:=rs1 prog Tryz.f131 2 rfl rfl
def Qb9:PC:=e0 (cF pg0 Tryz.f131) (by cbv)
def QjC:=@ko1 Qb9 _ _ _ Tryz.func131 (by kernel_rfl)
def Yy:=rs1 prog Tryz.f134 2 rfl rfl
def Qar:(Nat->PC)->List PC:=eL (cL pg0 Tryz.f134) (λ_=>by cbv)
def Q4:PC:=e1 1 Qar (λ_=>by cbv) .skip
def Qas:PC:=e1 0 Qar (λ_=>by cbv) Q4
def Qhj:=@ko1 Qas _ _ _ Tryz.func134 (by kernel_rfl)
def Qga:=rs1 prog Tryz.f256 6 rfl rfl
def Qat:PC:=e0 (cF pg0 Tryz.f256) (by cbv)
def Qhk:=@ko3 Qat _ _ _ Tryz.func256 (by kernel_rfl)
def Qhl:=rs1 prog Tryz.f257 2 rfl rfl
def J2:(Nat->PC)->List PC:=eL (cL pg0 Tryz.f257) (λ_=>by cbv)
def Vt:PC:=e1 2 J2 (λ_=>by cbv) .skip
def Vu:PC:=e1 1 J2 (λ_=>by cbv) Vt
def Qbv:PC:=e1 0 J2 (λ_=>by cbv) Vu
def Qih:=@ko1 Qbv _ _ _ Tryz.func257 (by kernel_rfl)
def Qca:=rs1 prog Tryz.f258 2 rfl rfl
def K5:(Nat->PC)->List PC:=eL (cL pg0 Tryz.f258) (λ_=>by cbv)
def Qbw:PC:=e1 2 K5 (λ_=>by cbv) .skip
def Qbx:PC:=e1 1 K5 (λ_=>by cbv) .skip
def Qdd:PC:=e2 0 K5 (λ_ _=>by cbv) Qbw Qbx
def QkM:=@ko1 Qdd _ _ _ Tryz.func258 (by kernel_rfl)
def Z5:=rs1 prog Tryz.f259 2 rfl rfl
def Qau:(Nat->PC)->List PC:=eL (cL pg0 Tryz.f259) (λ_=>by cbv)
def Yd:PC:=e1 1 Qau (λ_=>by cbv) .skip
def Qav:PC:=e1 0 Qau (λ_=>by cbv) Yd
def Qhm:=@ko1 Qav _ _ _ Tryz.func259 (by kernel_rfl)
def Qby:=rs1 prog Tryz.f260 2 rfl rfl
def Qcb:(Nat->PC)->List PC:=eL (cL pg0 Tryz.f260) (λ_=>by cbv)
def YT:PC:=e1 1 Qcb (λ_=>by cbv) .skip
def Qcc:PC:=e1 0 Qcb (λ_=>by cbv) YT
def QjD:=@ko1 Qcc _ _ _ Tryz.func260 (by kernel_rfl)
def QjE:=rs1 prog Tryz.f261 4 rfl rfl
def Qde:PC:=e0 (cF pg0 Tryz.f261) (by cbv)
def QkN:=@ko2 Qde _ _ _ Tryz.func261 (by kernel_rfl)
def QjF:=rs1 prog Tryz.f262 4 rfl rfl
def Qdf:PC:=e0 (cF pg0 Tryz.f262) (by cbv)
def QkO:=@ko2 Qdf _ _ _ Tryz.func262 (by kernel_rfl)
def W1:=rs1 prog Tryz.f263 4 rfl rfl
def Qx:(Nat->PC)->List PC:=eL (cL pg0 Tryz.f263) (λ_=>by cbv)
def K6:PC:=e1 11 Qx (λ_=>by cbv) .skip
def K7:PC:=e1 10 Qx (λ_=>by cbv) K6
def K8:PC:=e1 9 Qx (λ_=>by cbv) K7
def K9:PC:=e1 8 Qx (λ_=>by cbv) K8
def Ga:PC:=e1 7 Qx (λ_=>by cbv) K9
def Gb:PC:=e1 6 Qx (λ_=>by cbv) Ga
def Gc:PC:=e1 5 Qx (λ_=>by cbv) Gb
def Gd:PC:=e1 4 Qx (λ_=>by cbv) Gc
def Ge:PC:=e1 3 Qx (λ_=>by cbv) Gd
def Kw:PC:=e1 2 Qx (λ_=>by cbv) Ge
def Kx:PC:=e1 1 Qx (λ_=>by cbv) Kw
def Vv:PC:=e1 0 Qx (λ_=>by cbv) Kx
def Qgb:=@ko2 Vv _ _ _ Tryz.func263 (by kernel_rfl)
def Jw:=rs1 prog Tryz.f264 2 rfl rfl
def XW:(Nat->PC)->List PC:=eL (cL pg0 Tryz.f264) (λ_=>by cbv)
def Yz:PC:=e1 4 XW (λ_=>by cbv) .skip
def YA:PC:=e1 3 XW (λ_=>by cbv) Yz
def YB:PC:=e1 2 XW (λ_=>by cbv) YA
def YC:PC:=e1 1 XW (λ_=>by cbv) YB
def Qbz:PC:=e1 0 XW (λ_=>by cbv) YC
def Qii:=@ko1 Qbz _ _ _ Tryz.func264 (by kernel_rfl)
def QjG:=rs1 prog Tryz.f265 4 rfl rfl
def Qdg:PC:=e0 (cF pg0 Tryz.f265) (by cbv)
def QkP:=@ko2 Qdg _ _ _ Tryz.func265 (by kernel_rfl)
def QbA:=rs1 prog Tryz.f266 8 rfl rfl
def Qcd:PC:=e0 (cF pg0 Tryz.f266) (by cbv)
def QjH:=@ko4 Qcd _ _ _ Tryz.func266 (by kernel_rfl)
def Xv:=rs1 prog Tryz.f267 4 rfl rfl
def WY:(Nat->PC)->List PC:=eL (cL pg0 Tryz.f267) (λ_=>by cbv)
def Z6:PC:=e1 5 WY (λ_=>by cbv) .skip
def Z7:PC:=e1 4 WY (λ_=>by cbv) Z6
def Vw:PC:=e1 3 WY (λ_=>by cbv) .skip
def Vy:PC:=e1 2 WY (λ_=>by cbv) Vw
def Vz:PC:=e1 1 WY (λ_=>by cbv) Vy
def QbB:PC:=e2 0 WY (λ_ _=>by cbv) Z7 Vz
def Qij:=@ko2 QbB _ _ _ Tryz.func267 (by kernel_rfl)
def Qhn:=rs1 prog Tryz.f268 2 rfl rfl
def QbC:(Nat->PC)->List PC:=eL (cL pg0 Tryz.f268) (λ_=>by cbv)
def VA:PC:=e1 1 QbC (λ_=>by cbv) .skip
def QbD:PC:=e1 0 QbC (λ_=>by cbv) VA
def Qik:=@ko1 QbD _ _ _ Tryz.func268 (by kernel_rfl)
def ZN:=rs1 prog Tryz.f269 2 rfl rfl
def QdT:(Nat->PC)->List PC:=eL (cL pg0 Tryz.f269) (λ_=>by cbv)
def Qce:PC:=e1 1 QdT (λ_=>by cbv) .skip
def QdU:PC:=e1 0 QdT (λ_=>by cbv) Qce
def QlN:=@ko1 QdU _ _ _ Tryz.func269 (by kernel_rfl)
def Qho:=rs1 prog Tryz.f270 4 rfl rfl
def QbE:PC:=e0 (cF pg0 Tryz.f270) (by cbv)
def Qil:=@ko2 QbE _ _ _ Tryz.func270 (by kernel_rfl)
def Y7:=rs1 prog Tryz.f362 4 rfl rfl
def W8:(Nat->PC)->List PC:=eL (cL pg0 Tryz.f362) (λ_=>by cbv)
def Xw:PC:=e1 5 W8 (λ_=>by cbv) .skip
def Xx:PC:=e1 4 W8 (λ_=>by cbv) Xw
def Xy:PC:=e1 3 W8 (λ_=>by cbv) .skip
def Xz:PC:=e2 2 W8 (λ_ _=>by cbv) Xx Xy
def XA:PC:=e1 1 W8 (λ_=>by cbv) Xz
def Qcf:PC:=e1 0 W8 (λ_=>by cbv) XA
def QjI:=@ko2 Qcf _ _ _ Tryz.func362 (by kernel_rfl)
def QjJ:=rs1 prog Tryz.f363 6 rfl rfl
def Qdh:PC:=e0 (cF pg0 Tryz.f363) (by cbv)
def QkQ:=@ko3 Qdh _ _ _ Tryz.func363 (by kernel_rfl)
def Qim:=rs1 prog Tryz.f364 2 rfl rfl
def Qcg:PC:=e0 (cF pg0 Tryz.f364) (by cbv)
def QjK:=@ko1 Qcg _ _ _ Tryz.func364 (by kernel_rfl)
def Qin:=Qvk prog Tryz.f365 true 3 8 120 rfl rfl (by kernel_rfl)
def Qch:(Nat->PC)->List PC:=eL (cL pg0 Tryz.f365) (λ_=>by cbv)
def Jx:PC:=e1 1 Qch (λ_=>by cbv) .skip
def Qci:PC:=e1 0 Qch (λ_=>by cbv) Jx
def QjL:=@ko4 Qci _ _ _ Tryz.func365 (by kernel_rfl)
def YU:=rs1 prog Tryz.f366 2 rfl rfl
def QbF:(Nat->PC)->List PC:=eL (cL pg0 Tryz.f366) (λ_=>by cbv)
def VB:PC:=e1 1 QbF (λ_=>by cbv) .skip
def QbG:PC:=e1 0 QbF (λ_=>by cbv) VB
def Qio:=@ko1 QbG _ _ _ Tryz.func366 (by kernel_rfl)
def Qhp:=rs1 prog Tryz.f367 14 rfl rfl
def Y8:(Nat->PC)->List PC:=eL (cL pg0 Tryz.f367) (λ_=>by cbv)
def YD:PC:=e1 3 Y8 (λ_=>by cbv) .skip
def VC:PC:=e1 2 Y8 (λ_=>by cbv) .skip
def Z8:PC:=e2 1 Y8 (λ_ _=>by cbv) YD VC
def QbH:PC:=e1 0 Y8 (λ_=>by cbv) Z8
def Qip:=@ko7 QbH _ _ _ Tryz.func367 (by kernel_rfl)
def Qcj:=rs1 prog Tryz.f368 2 rfl rfl
def Qdi:PC:=e0 (cF pg0 Tryz.f368) (by cbv)
def QkR:=@ko1 Qdi _ _ _ Tryz.func368 (by kernel_rfl)
end Go.Proofs.YtgepgbbjfhggfaaGreatDoor.code
