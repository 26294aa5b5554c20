/- The code of the functions that are reached, resolved. -/
import Derived.Test.YtgepgbbjfhggfaaGreatDoorProg
import Derived.KernelRfl
import Derived.Test.YtgepgbbjfhggfaaGreatDoorC0Code
set_option linter.unusedVariables false
set_option maxRecDepth 100000
set_option maxHeartbeats 4000000
set_option linter.defProp false
noncomputable section
namespace Go.Proofs.YtgepgbbjfhggfaaGreatDoor.code
open Go.Ab
variable (H0 H:Qa) (k:Value->Qa->Prop) (A:Env)
def Wq:=QqH prog Tryz.f18 true 2 2 24 3 rfl rfl (by kernel_rfl)
def Wg:(Nat->PC)->List PC:=eL (cL pg0 Tryz.f18) (λ_=>by cbv)
def Vl:PC:=e1 7 Wg (λ_=>by cbv) .skip
def Z3:PC:=e1 6 Wg (λ_=>by cbv) Vl
def Vm:PC:=e1 5 Wg (λ_=>by cbv) Z3
def Vn:PC:=e1 4 Wg (λ_=>by cbv) .skip
def Vo:PC:=e1 3 Wg (λ_=>by cbv) Vn
def Vp:PC:=e2 2 Wg (λ_ _=>by cbv) Vm Vo
def Z4:PC:=e1 1 Wg (λ_=>by cbv) Vp
def Qa8:PC:=e1 0 Wg (λ_=>by cbv) Z4
def Qij:=@ko1 Qa8 _ _ _ Tryz.func18 (by kernel_rfl)
def Kw:=rs2 prog Tryz.f32 2 3 rfl rfl
def Wh:(Nat->PC)->List PC:=eL (cL pg0 Tryz.f32) (λ_=>by cbv)
def Qa9:PC:=e1 8 Wh (λ_=>by cbv) .skip
def Qba:PC:=e1 7 Wh (λ_=>by cbv) .skip
def JX:PC:=e1 6 Wh (λ_=>by cbv) Qba
def Qbb:PC:=e1 5 Wh (λ_=>by cbv) JX
def JY:PC:=e1 4 Wh (λ_=>by cbv) Qbb
def Qbc:PC:=e1 3 Wh (λ_=>by cbv) JY
def Qbd:PC:=e1 2 Wh (λ_=>by cbv) Qbc
def Qbe:PC:=e2 1 Wh (λ_ _=>by cbv) Qa9 Qbd
def Qdb:PC:=e1 0 Wh (λ_=>by cbv) Qbe
def QkJ:=@ko1 Qdb _ _ _ Tryz.func32 (by kernel_rfl)
def QkK:=rs1 prog Tryz.f33 2 rfl rfl
def GO:(Nat->PC)->List PC:=eL (cL pg0 Tryz.f33) (λ_=>by cbv)
def Qb2:PC:=e1 2 GO (λ_=>by cbv) .skip
def Qb3:PC:=e1 1 GO (λ_=>by cbv) Qb2
def QdV:PC:=e1 0 GO (λ_=>by cbv) Qb3
def QlT:=@ko1 QdV _ _ _ Tryz.func33 (by kernel_rfl)
def Qag:=rs1 prog Tryz.f41 2 rfl rfl
def JZ:(Nat->PC)->List PC:=eL (cL pg0 Tryz.f41) (λ_=>by cbv)
def Vq:PC:=e1 2 JZ (λ_=>by cbv) .skip
def Vr:PC:=e1 1 JZ (λ_=>by cbv) Vq
def Qbf:PC:=e1 0 JZ (λ_=>by cbv) Vr
def Qik:=@ko1 Qbf _ _ _ Tryz.func41 (by kernel_rfl)
def Wl:=rs1 prog Tryz.f57 2 rfl rfl
def K4:(Nat->PC)->List PC:=eL (cL pg0 Tryz.f57) (λ_=>by cbv)
def Y2:PC:=e1 1 K4 (λ_=>by cbv) .skip
def K5:PC:=e1 0 K4 (λ_=>by cbv) Y2
def QeY:=@ko1 K5 _ _ _ Tryz.func57 (by kernel_rfl)
def Qb4:=rs2 prog Tryz.f58 4 5 rfl rfl
def Xt:(Nat->PC)->List PC:=eL (cL pg0 Tryz.f58) (λ_=>by cbv)
def J1:PC:=e1 5 Xt (λ_=>by cbv) .skip
def Qbg:PC:=e1 4 Xt (λ_=>by cbv) J1
def Qbh:PC:=e1 3 Xt (λ_=>by cbv) Qbg
def J2:PC:=e1 2 Xt (λ_=>by cbv) Qbh
def Qbi:PC:=e1 1 Xt (λ_=>by cbv) J2
def Qdc:PC:=e1 0 Xt (λ_=>by cbv) Qbi
def QkL:=@ko2 Qdc _ _ _ Tryz.func58 (by kernel_rfl)
def Qil:=rs1 prog Tryz.f59 0 rfl rfl
def Qb5:PC:=e0 (cF pg0 Tryz.f59) (by cbv)
def QjD:=@ko0 Qb5 _ _ _ Tryz.func59 (by kernel_rfl)
def W0:=rs1 prog Tryz.f83 4 rfl rfl
def W8:(Nat->PC)->List PC:=eL (cL pg0 Tryz.f83) (λ_=>by cbv)
def Qah:PC:=e1 5 W8 (λ_=>by cbv) .skip
def Qai:PC:=e1 4 W8 (λ_=>by cbv) .skip
def Qaj:PC:=e2 3 W8 (λ_ _=>by cbv) Qah Qai
def Qak:PC:=e1 2 W8 (λ_=>by cbv) Qaj
def Js:PC:=e1 1 W8 (λ_=>by cbv) Qak
def Qb6:PC:=e1 0 W8 (λ_=>by cbv) Js
def QjE:=@ko2 Qb6 _ _ _ Tryz.func83 (by kernel_rfl)
def Qbj:=rs1 prog Tryz.f84 2 rfl rfl
def Qb7:PC:=e0 (cF pg0 Tryz.f84) (by cbv)
def QjF:=@ko1 Qb7 _ _ _ Tryz.func84 (by kernel_rfl)
def Qdd:=QtG prog Tryz.f85 true 11 6 58 rfl rfl (by kernel_rfl)
def QdW:PC:=e0 (cF pg0 Tryz.f85) (by cbv)
def QlU:=@ko3 QdW _ _ _ Tryz.func85 (by kernel_rfl)
def Qbk:=rs1 prog Tryz.f86 4 rfl rfl
def Wm:(Nat->PC)->List PC:=eL (cL pg0 Tryz.f86) (λ_=>by cbv)
def Qal:PC:=e1 7 Wm (λ_=>by cbv) .skip
def YU:PC:=e1 6 Wm (λ_=>by cbv) Qal
def Qam:PC:=e1 5 Wm (λ_=>by cbv) .skip
def Qan:PC:=e1 4 Wm (λ_=>by cbv) Qam
def Jt:PC:=e1 3 Wm (λ_=>by cbv) Qan
def Qao:PC:=e1 2 Wm (λ_=>by cbv) .skip
def Qap:PC:=e2 1 Wm (λ_ _=>by cbv) Jt Qao
def Qb8:PC:=e2 0 Wm (λ_ _=>by cbv) YU Qap
def QjG:=@ko2 Qb8 _ _ _ Tryz.func86 (by kernel_rfl)
def Qbl:=rs1 prog Tryz.f87 4 rfl rfl
def Kx:(Nat->PC)->List PC:=eL (cL pg0 Tryz.f87) (λ_=>by cbv)
def Ju:PC:=e1 2 Kx (λ_=>by cbv) .skip
def Qaq:PC:=e1 1 Kx (λ_=>by cbv) Ju
def Qb9:PC:=e1 0 Kx (λ_=>by cbv) Qaq
def QjH:=@ko2 Qb9 _ _ _ Tryz.func87 (by kernel_rfl)
def Jv:=rs1 prog Tryz.f88 10 rfl rfl
def QI:(Nat->PC)->List PC:=eL (cL pg0 Tryz.f88) (λ_=>by cbv)
def Vs:PC:=e1 11 QI (λ_=>by cbv) .skip
def Vt:PC:=e1 10 QI (λ_=>by cbv) Vs
def Z5:PC:=e1 9 QI (λ_=>by cbv) Vt
def Z6:PC:=e1 8 QI (λ_=>by cbv) Z5
def Z7:PC:=e1 7 QI (λ_=>by cbv) Z6
def Yz:PC:=e1 6 QI (λ_=>by cbv) Z7
def YA:PC:=e1 5 QI (λ_=>by cbv) .skip
def Vu:PC:=e1 4 QI (λ_=>by cbv) YA
def Vv:PC:=e1 3 QI (λ_=>by cbv) Vu
def Zv:PC:=e2 2 QI (λ_ _=>by cbv) Yz Vv
def Zw:PC:=e1 1 QI (λ_=>by cbv) .skip
def Qbm:PC:=e2 0 QI (λ_ _=>by cbv) Zv Zw
def Qim:=@ko5 Qbm _ _ _ Tryz.func88 (by kernel_rfl)
def Qca:=rs1 prog Tryz.f89 2 rfl rfl
def Qde:PC:=e0 (cF pg0 Tryz.f89) (by cbv)
def QkM:=@ko1 Qde _ _ _ Tryz.func89 (by kernel_rfl)
def YB:=rs1 prog Tryz.f90 2 rfl rfl
def Qar:(Nat->PC)->List PC:=eL (cL pg0 Tryz.f90) (λ_=>by cbv)
def GC:PC:=e1 1 Qar (λ_=>by cbv) .skip
def Qas:PC:=e1 0 Qar (λ_=>by cbv) GC
def Qhk:=@ko1 Qas _ _ _ Tryz.func90 (by kernel_rfl)
def Qhl:=rs1 prog Tryz.f121 2 rfl rfl
def Zb:(Nat->PC)->List PC:=eL (cL pg0 Tryz.f121) (λ_=>by cbv)
def Vw:PC:=e1 3 Zb (λ_=>by cbv) .skip
def Vy:PC:=e1 2 Zb (λ_=>by cbv) Vw
def Vz:PC:=e1 1 Zb (λ_=>by cbv) Vy
def Qbn:PC:=e1 0 Zb (λ_=>by cbv) Vz
def Qin:=@ko1 Qbn _ _ _ Tryz.func121 (by kernel_rfl)
def Q9:=rs1 prog Tryz.f122 4 rfl rfl
def Qw:(Nat->PC)->List PC:=eL (cL pg0 Tryz.f122) (λ_=>by cbv)
def X6:PC:=e1 13 Qw (λ_=>by cbv) .skip
def X7:PC:=e1 12 Qw (λ_=>by cbv) X6
def X8:PC:=e1 11 Qw (λ_=>by cbv) X7
def X9:PC:=e1 10 Qw (λ_=>by cbv) X8
def Ya:PC:=e1 9 Qw (λ_=>by cbv) X9
def Yb:PC:=e1 8 Qw (λ_=>by cbv) Ya
def Yc:PC:=e1 7 Qw (λ_=>by cbv) Yb
def Yd:PC:=e1 6 Qw (λ_=>by cbv) Yc
def Ye:PC:=e1 5 Qw (λ_=>by cbv) Yd
def XO:PC:=e1 4 Qw (λ_=>by cbv) Ye
def XP:PC:=e1 3 Qw (λ_=>by cbv) XO
def XQ:PC:=e1 2 Qw (λ_=>by cbv) XP
def XR:PC:=e1 1 Qw (λ_=>by cbv) XQ
def YV:PC:=e1 0 Qw (λ_=>by cbv) XR
def Jw:=@ko2 YV _ _ _ Tryz.func122 (by kernel_rfl)
def Zr:=rs1 prog Tryz.f123 6 rfl rfl
def Xu:(Nat->PC)->List PC:=eL (cL pg0 Tryz.f123) (λ_=>by cbv)
def XS:PC:=e1 5 Xu (λ_=>by cbv) .skip
def XT:PC:=e1 4 Xu (λ_=>by cbv) XS
def XU:PC:=e1 3 Xu (λ_=>by cbv) XT
def XV:PC:=e1 2 Xu (λ_=>by cbv) XU
def XW:PC:=e1 1 Xu (λ_=>by cbv) XV
def Qdf:PC:=e1 0 Xu (λ_=>by cbv) XW
def QkN:=@ko3 Qdf _ _ _ Tryz.func123 (by kernel_rfl)
def Qbo:=rs1 prog Tryz.f125 2 rfl rfl
def Qcb:(Nat->PC)->List PC:=eL (cL pg0 Tryz.f125) (λ_=>by cbv)
def Jx:PC:=e1 1 Qcb (λ_=>by cbv) .skip
def Qcc:PC:=e1 0 Qcb (λ_=>by cbv) Jx
def QjI:=@ko1 Qcc _ _ _ Tryz.func125 (by kernel_rfl)
def QjJ:=rs1 prog Tryz.f126 2 rfl rfl
def Qdg:PC:=e0 (cF pg0 Tryz.f126) (by cbv)
def QkO:=@ko1 Qdg _ _ _ Tryz.func126 (by kernel_rfl)
def Qhm:=rs1 prog Tryz.f127 2 rfl rfl
def Qbp:PC:=e0 (cF pg0 Tryz.f127) (by cbv)
def Qio:=@ko1 Qbp _ _ _ Tryz.func127 (by kernel_rfl)
def Yi:=rs2 prog Tryz.f128 4 5 rfl rfl
def Xv:(Nat->PC)->List PC:=eL (cL pg0 Tryz.f128) (λ_=>by cbv)
def Qbq:PC:=e1 5 Xv (λ_=>by cbv) .skip
def Qbr:PC:=e1 4 Xv (λ_=>by cbv) .skip
def Qbs:PC:=e1 3 Xv (λ_=>by cbv) Qbr
def Qbt:PC:=e2 2 Xv (λ_ _=>by cbv) Qbq Qbs
def J3:PC:=e1 1 Xv (λ_=>by cbv) Qbt
def Qdh:PC:=e1 0 Xv (λ_=>by cbv) J3
def QkP:=@ko2 Qdh _ _ _ Tryz.func128 (by kernel_rfl)
def Qcd:=rs2 prog Tryz.f129 4 5 rfl rfl
def YK:(Nat->PC)->List PC:=eL (cL pg0 Tryz.f129) (λ_=>by cbv)
def XX:PC:=e1 4 YK (λ_=>by cbv) .skip
def Qbu:PC:=e1 3 YK (λ_=>by cbv) .skip
def J4:PC:=e2 2 YK (λ_ _=>by cbv) XX Qbu
def J5:PC:=e1 1 YK (λ_=>by cbv) J4
def Qdi:PC:=e1 0 YK (λ_=>by cbv) J5
def QkQ:=@ko2 Qdi _ _ _ Tryz.func129 (by kernel_rfl)
def Qhn:=rs1 prog Tryz.f130 2 rfl rfl
def Qbv:PC:=e0 (cF pg0 Tryz.f130) (by cbv)
def Qip:=@ko1 Qbv _ _ _ Tryz.func130 (by kernel_rfl)
def Qbw:=rs1 prog Tryz.f131 2 rfl rfl
def Qce:PC:=e0 (cF pg0 Tryz.f131) (by cbv)
def QjK:=@ko1 Qce _ _ _ Tryz.func131 (by kernel_rfl)
def YC:=rs1 prog Tryz.f134 2 rfl rfl
def Qat:(Nat->PC)->List PC:=eL (cL pg0 Tryz.f134) (λ_=>by cbv)
def Q6:PC:=e1 1 Qat (λ_=>by cbv) .skip
def Qau:PC:=e1 0 Qat (λ_=>by cbv) Q6
def Qho:=@ko1 Qau _ _ _ Tryz.func134 (by kernel_rfl)
def Qgg:=rs1 prog Tryz.f256 6 rfl rfl
def Qav:PC:=e0 (cF pg0 Tryz.f256) (by cbv)
def Qhp:=@ko3 Qav _ _ _ Tryz.func256 (by kernel_rfl)
def Qhq:=rs1 prog Tryz.f257 2 rfl rfl
def J6:(Nat->PC)->List PC:=eL (cL pg0 Tryz.f257) (λ_=>by cbv)
def VA:PC:=e1 2 J6 (λ_=>by cbv) .skip
def VB:PC:=e1 1 J6 (λ_=>by cbv) VA
def Qbx:PC:=e1 0 J6 (λ_=>by cbv) VB
def Qiq:=@ko1 Qbx _ _ _ Tryz.func257 (by kernel_rfl)
def Qcf:=rs1 prog Tryz.f258 2 rfl rfl
def K6:(Nat->PC)->List PC:=eL (cL pg0 Tryz.f258) (λ_=>by cbv)
def Qby:PC:=e1 2 K6 (λ_=>by cbv) .skip
def Qbz:PC:=e1 1 K6 (λ_=>by cbv) .skip
def Qdj:PC:=e2 0 K6 (λ_ _=>by cbv) Qby Qbz
def QkR:=@ko1 Qdj _ _ _ Tryz.func258 (by kernel_rfl)
def Z8:=rs1 prog Tryz.f259 2 rfl rfl
def Qaw:(Nat->PC)->List PC:=eL (cL pg0 Tryz.f259) (λ_=>by cbv)
def Yf:PC:=e1 1 Qaw (λ_=>by cbv) .skip
def Qax:PC:=e1 0 Qaw (λ_=>by cbv) Yf
def Qhr:=@ko1 Qax _ _ _ Tryz.func259 (by kernel_rfl)
def QbA:=rs1 prog Tryz.f260 2 rfl rfl
def Qcg:(Nat->PC)->List PC:=eL (cL pg0 Tryz.f260) (λ_=>by cbv)
def YW:PC:=e1 1 Qcg (λ_=>by cbv) .skip
def Qch:PC:=e1 0 Qcg (λ_=>by cbv) YW
def QjL:=@ko1 Qch _ _ _ Tryz.func260 (by kernel_rfl)
def QjM:=rs1 prog Tryz.f261 4 rfl rfl
def Qdk:PC:=e0 (cF pg0 Tryz.f261) (by cbv)
def QkS:=@ko2 Qdk _ _ _ Tryz.func261 (by kernel_rfl)
def QjN:=rs1 prog Tryz.f262 4 rfl rfl
def Qdl:PC:=e0 (cF pg0 Tryz.f262) (by cbv)
def QkT:=@ko2 Qdl _ _ _ Tryz.func262 (by kernel_rfl)
def W3:=rs1 prog Tryz.f263 4 rfl rfl
def Qy:(Nat->PC)->List PC:=eL (cL pg0 Tryz.f263) (λ_=>by cbv)
def K7:PC:=e1 11 Qy (λ_=>by cbv) .skip
def K8:PC:=e1 10 Qy (λ_=>by cbv) K7
def K9:PC:=e1 9 Qy (λ_=>by cbv) K8
def Ga:PC:=e1 8 Qy (λ_=>by cbv) K9
def Gb:PC:=e1 7 Qy (λ_=>by cbv) Ga
def Gc:PC:=e1 6 Qy (λ_=>by cbv) Gb
def Gd:PC:=e1 5 Qy (λ_=>by cbv) Gc
def Ge:PC:=e1 4 Qy (λ_=>by cbv) Gd
def Gf:PC:=e1 3 Qy (λ_=>by cbv) Ge
def KA:PC:=e1 2 Qy (λ_=>by cbv) Gf
def KB:PC:=e1 1 Qy (λ_=>by cbv) KA
def VC:PC:=e1 0 Qy (λ_=>by cbv) KB
def Qgh:=@ko2 VC _ _ _ Tryz.func263 (by kernel_rfl)
def Jy:=rs1 prog Tryz.f264 2 rfl rfl
def XY:(Nat->PC)->List PC:=eL (cL pg0 Tryz.f264) (λ_=>by cbv)
def YD:PC:=e1 4 XY (λ_=>by cbv) .skip
def YE:PC:=e1 3 XY (λ_=>by cbv) YD
def YF:PC:=e1 2 XY (λ_=>by cbv) YE
def YG:PC:=e1 1 XY (λ_=>by cbv) YF
def QbB:PC:=e1 0 XY (λ_=>by cbv) YG
def Qir:=@ko1 QbB _ _ _ Tryz.func264 (by kernel_rfl)
def QjO:=rs1 prog Tryz.f265 4 rfl rfl
def Qdm:PC:=e0 (cF pg0 Tryz.f265) (by cbv)
def QkU:=@ko2 Qdm _ _ _ Tryz.func265 (by kernel_rfl)
def QbC:=rs1 prog Tryz.f266 8 rfl rfl
def Qci:PC:=e0 (cF pg0 Tryz.f266) (by cbv)
def QjP:=@ko4 Qci _ _ _ Tryz.func266 (by kernel_rfl)
def Xw:=rs1 prog Tryz.f267 4 rfl rfl
def W1:(Nat->PC)->List PC:=eL (cL pg0 Tryz.f267) (λ_=>by cbv)
def Z9:PC:=e1 5 W1 (λ_=>by cbv) .skip
def Ja:PC:=e1 4 W1 (λ_=>by cbv) Z9
def VD:PC:=e1 3 W1 (λ_=>by cbv) .skip
def VE:PC:=e1 2 W1 (λ_=>by cbv) VD
def VF:PC:=e1 1 W1 (λ_=>by cbv) VE
def QbD:PC:=e2 0 W1 (λ_ _=>by cbv) Ja VF
def Qis:=@ko2 QbD _ _ _ Tryz.func267 (by kernel_rfl)
def Qhs:=rs1 prog Tryz.f268 2 rfl rfl
def QbE:(Nat->PC)->List PC:=eL (cL pg0 Tryz.f268) (λ_=>by cbv)
def VG:PC:=e1 1 QbE (λ_=>by cbv) .skip
def QbF:PC:=e1 0 QbE (λ_=>by cbv) VG
def Qit:=@ko1 QbF _ _ _ Tryz.func268 (by kernel_rfl)
def ZO:=rs1 prog Tryz.f269 2 rfl rfl
def QdX:(Nat->PC)->List PC:=eL (cL pg0 Tryz.f269) (λ_=>by cbv)
def Qcj:PC:=e1 1 QdX (λ_=>by cbv) .skip
def QdY:PC:=e1 0 QdX (λ_=>by cbv) Qcj
def QlV:=@ko1 QdY _ _ _ Tryz.func269 (by kernel_rfl)
def Qht:=rs1 prog Tryz.f270 4 rfl rfl
def QbG:PC:=e0 (cF pg0 Tryz.f270) (by cbv)
def Qiu:=@ko2 QbG _ _ _ Tryz.func270 (by kernel_rfl)
def Zc:=rs1 prog Tryz.f362 4 rfl rfl
def W9:(Nat->PC)->List PC:=eL (cL pg0 Tryz.f362) (λ_=>by cbv)
def Xx:PC:=e1 5 W9 (λ_=>by cbv) .skip
def Xy:PC:=e1 4 W9 (λ_=>by cbv) Xx
def Xz:PC:=e1 3 W9 (λ_=>by cbv) .skip
def XA:PC:=e2 2 W9 (λ_ _=>by cbv) Xy Xz
def XB:PC:=e1 1 W9 (λ_=>by cbv) XA
def Qck:PC:=e1 0 W9 (λ_=>by cbv) XB
def QjQ:=@ko2 Qck _ _ _ Tryz.func362 (by kernel_rfl)
def QjR:=rs1 prog Tryz.f363 6 rfl rfl
def Qdn:PC:=e0 (cF pg0 Tryz.f363) (by cbv)
def QkV:=@ko3 Qdn _ _ _ Tryz.func363 (by kernel_rfl)
def Qiv:=rs1 prog Tryz.f364 2 rfl rfl
def Qcl:PC:=e0 (cF pg0 Tryz.f364) (by cbv)
def QjS:=@ko1 Qcl _ _ _ Tryz.func364 (by kernel_rfl)
def Qiw:=QtG prog Tryz.f365 true 3 8 120 rfl rfl (by kernel_rfl)
def Qcm:(Nat->PC)->List PC:=eL (cL pg0 Tryz.f365) (λ_=>by cbv)
def Jz:PC:=e1 1 Qcm (λ_=>by cbv) .skip
def Qcn:PC:=e1 0 Qcm (λ_=>by cbv) Jz
def QjT:=@ko4 Qcn _ _ _ Tryz.func365 (by kernel_rfl)
def YX:=rs1 prog Tryz.f366 2 rfl rfl
def QbH:(Nat->PC)->List PC:=eL (cL pg0 Tryz.f366) (λ_=>by cbv)
def VH:PC:=e1 1 QbH (λ_=>by cbv) .skip
def QbI:PC:=e1 0 QbH (λ_=>by cbv) VH
def Qix:=@ko1 QbI _ _ _ Tryz.func366 (by kernel_rfl)
def Qhu:=rs1 prog Tryz.f367 14 rfl rfl
def Zd:(Nat->PC)->List PC:=eL (cL pg0 Tryz.f367) (λ_=>by cbv)
def YH:PC:=e1 3 Zd (λ_=>by cbv) .skip
def VI:PC:=e1 2 Zd (λ_=>by cbv) .skip
def Jb:PC:=e2 1 Zd (λ_ _=>by cbv) YH VI
def QbJ:PC:=e1 0 Zd (λ_=>by cbv) Jb
def Qiy:=@ko7 QbJ _ _ _ Tryz.func367 (by kernel_rfl)
def Qco:=rs1 prog Tryz.f368 2 rfl rfl
def Qdo:PC:=e0 (cF pg0 Tryz.f368) (by cbv)
def QkW:=@ko1 Qdo _ _ _ Tryz.func368 (by kernel_rfl)
end Go.Proofs.YtgepgbbjfhggfaaGreatDoor.code
