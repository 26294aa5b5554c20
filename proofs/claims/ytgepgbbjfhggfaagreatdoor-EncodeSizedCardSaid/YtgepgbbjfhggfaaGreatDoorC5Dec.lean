/- The code of the functions that are reached, resolved. -/
import Derived.Test.YtgepgbbjfhggfaaGreatDoorProg
import Derived.KernelRfl
import Derived.Test.YtgepgbbjfhggfaaGreatDoorC0Code
set_option linter.unusedVariables false
set_option maxRecDepth 100000
set_option maxHeartbeats 4000000
set_option linter.defProp false
noncomputable section
namespace Go.Proofs.YtgepgbbjfhggfaaGreatDoor.code
open Go.Ab
variable (H0 H:Qa) (k:Value->Qa->Prop) (A:Env)
def ZL:=rs2 prog Tryz.f9 4 5 rfl rfl
def Zi:(Nat->PC)->List PC:=eL (cL pg0 Tryz.f9) (λ_=>by cbv)
def Qey:PC:=e1 5 Zi (λ_=>by cbv) .skip
def Qez:PC:=e1 4 Zi (λ_=>by cbv) .skip
def QeA:PC:=e1 3 Zi (λ_=>by cbv) Qez
def VU:PC:=e2 2 Zi (λ_ _=>by cbv) Qey QeA
def QeB:PC:=e1 1 Zi (λ_=>by cbv) VU
def QgZ:PC:=e1 0 Zi (λ_=>by cbv) QeB
def QpH:=@ko2 QgZ _ _ _ Tryz.func9 (by kernel_rfl)
def QeC:=rs2 prog Tryz.f14 2 3 rfl rfl
def Qmf:PC:=e0 (cF pg0 Tryz.f14) (by cbv)
def QtP:=@ko1 Qmf _ _ _ Tryz.func14 (by kernel_rfl)
def QsA:=rs1 prog Tryz.f29 4 rfl rfl
def Ze:(Nat->PC)->List PC:=eL (cL pg0 Tryz.f29) (λ_=>by cbv)
def QiV:PC:=e1 7 Ze (λ_=>by cbv) .skip
def QiW:PC:=e1 6 Ze (λ_=>by cbv) QiV
def QdB:PC:=e1 5 Ze (λ_=>by cbv) QiW
def QiX:PC:=e1 4 Ze (λ_=>by cbv) QdB
def QdC:PC:=e1 3 Ze (λ_=>by cbv) QiX
def QiY:PC:=e1 2 Ze (λ_=>by cbv) QdC
def QiZ:PC:=e1 1 Ze (λ_=>by cbv) QiY
def Qmg:PC:=e1 0 Ze (λ_=>by cbv) QiZ
def QtQ:=@ko2 Qmg _ _ _ Tryz.func29 (by kernel_rfl)
def Xh:=rs1 prog Tryz.f30 6 rfl rfl
def Qfs:PC:=e0 (cF pg0 Tryz.f30) (by cbv)
def Qob:=@ko3 Qfs _ _ _ Tryz.func30 (by kernel_rfl)
def Wn:=rs1 prog Tryz.f38 4 rfl rfl
def Xd:PC:=e0 (cF pg0 Tryz.f38) (by cbv)
def Zf:=@ko2 Xd _ _ _ Tryz.func38 (by kernel_rfl)
def Zm:=rs1 prog Tryz.f49 2 rfl rfl
def QaU:(Nat->PC)->List PC:=eL (cL pg0 Tryz.f49) (λ_=>by cbv)
def QdP:PC:=e1 2 QaU (λ_=>by cbv) .skip
def GN:PC:=e1 1 QaU (λ_=>by cbv) QdP
def Qft:PC:=e1 0 QaU (λ_=>by cbv) GN
def Qoc:=@ko1 Qft _ _ _ Tryz.func49 (by kernel_rfl)
def Qkk:=rs2 prog Tryz.f50 4 5 rfl rfl
def Qmh:PC:=e0 (cF pg0 Tryz.f50) (by cbv)
def QtR:=@ko2 Qmh _ _ _ Tryz.func50 (by kernel_rfl)
def Zn:=rs1 prog Tryz.f73 4 rfl rfl
def Z1:(Nat->PC)->List PC:=eL (cL pg0 Tryz.f73) (λ_=>by cbv)
def QdD:PC:=e1 6 Z1 (λ_=>by cbv) .skip
def Qi0:PC:=e1 5 Z1 (λ_=>by cbv) .skip
def Qi1:PC:=e2 4 Z1 (λ_ _=>by cbv) QdD Qi0
def Qi2:PC:=e1 3 Z1 (λ_=>by cbv) Qi1
def QdE:PC:=e1 2 Z1 (λ_=>by cbv) Qi2
def QdF:PC:=e1 1 Z1 (λ_=>by cbv) QdE
def Qmi:PC:=e1 0 Z1 (λ_=>by cbv) QdF
def QtS:=@ko2 Qmi _ _ _ Tryz.func73 (by kernel_rfl)
def Qrf:=rs1 prog Tryz.f74 4 rfl rfl
def Qkl:PC:=e0 (cF pg0 Tryz.f74) (by cbv)
def QsB:=@ko2 Qkl _ _ _ Tryz.func74 (by kernel_rfl)
def Qrg:=rs1 prog Tryz.f111 0 rfl rfl
def Qkm:PC:=e0 (cF pg0 Tryz.f111) (by cbv)
def QsC:=@ko0 Qkm _ _ _ Tryz.func111 (by kernel_rfl)
def Qod:=rs0 prog Tryz.f112 rfl
def Qg0:PC:=e0 (cF pg0 Tryz.f112) (by cbv)
def QpI:=@ko3 Qg0 _ _ _ Tryz.func112 (by kernel_rfl)
def Qi3:=rs1 prog Tryz.f113 4 rfl rfl
def Jp:(Nat->PC)->List PC:=eL (cL pg0 Tryz.f113) (λ_=>by cbv)
def Qg1:PC:=e1 5 Jp (λ_=>by cbv) .skip
def Gp:PC:=e1 4 Jp (λ_=>by cbv) Qg1
def Qg2:PC:=e1 3 Jp (λ_=>by cbv) .skip
def Qg3:PC:=e1 2 Jp (λ_=>by cbv) Qg2
def QcH:PC:=e2 1 Jp (λ_ _=>by cbv) Gp Qg3
def Qkn:PC:=e1 0 Jp (λ_=>by cbv) QcH
def QsD:=@ko2 Qkn _ _ _ Tryz.func113 (by kernel_rfl)
def QaV:=rs1 prog Tryz.f114 4 rfl rfl
def QcI:(Nat->PC)->List PC:=eL (cL pg0 Tryz.f114) (λ_=>by cbv)
def VV:PC:=e1 2 QcI (λ_=>by cbv) .skip
def VW:PC:=e1 1 QcI (λ_=>by cbv) VV
def Qg4:PC:=e1 0 QcI (λ_=>by cbv) VW
def QpJ:=@ko2 Qg4 _ _ _ Tryz.func114 (by kernel_rfl)
def QlM:=rs1 prog Tryz.f115 8 rfl rfl
def QeD:PC:=e0 (cF pg0 Tryz.f115) (by cbv)
def QmV:=@ko4 QeD _ _ _ Tryz.func115 (by kernel_rfl)
def Qoe:=QtG prog Tryz.f213 true 1 4 134 rfl rfl (by kernel_rfl)
def Qg5:PC:=e0 (cF pg0 Tryz.f213) (by cbv)
def QpK:=@ko2 Qg5 _ _ _ Tryz.func213 (by kernel_rfl)
def QdQ:=rs1 prog Tryz.f214 4 rfl rfl
def QeE:PC:=e0 (cF pg0 Tryz.f214) (by cbv)
def QmW:=@ko3 QeE _ _ _ Tryz.func214 (by kernel_rfl)
def QjA:=rs1 prog Tryz.f215 4 rfl rfl
def Qc7:PC:=e0 (cF pg0 Tryz.f215) (by cbv)
def Qko:=@ko2 Qc7 _ _ _ Tryz.func215 (by kernel_rfl)
def Qof:=rs1 prog Tryz.f216 2 rfl rfl
def Qg6:PC:=e0 (cF pg0 Tryz.f216) (by cbv)
def QpL:=@ko1 Qg6 _ _ _ Tryz.func216 (by kernel_rfl)
def Qfu:=rs1 prog Tryz.f217 2 rfl rfl
def Qg7:PC:=e0 (cF pg0 Tryz.f217) (by cbv)
def QpM:=@ko1 Qg7 _ _ _ Tryz.func217 (by kernel_rfl)
def Qog:=rs1 prog Tryz.f218 2 rfl rfl
def Qg8:PC:=e0 (cF pg0 Tryz.f218) (by cbv)
def QpN:=@ko1 Qg8 _ _ _ Tryz.func218 (by kernel_rfl)
def Qoh:=rs1 prog Tryz.f219 2 rfl rfl
def Qg9:PC:=e0 (cF pg0 Tryz.f219) (by cbv)
def QpO:=@ko1 Qg9 _ _ _ Tryz.func219 (by kernel_rfl)
def Qoi:=rs1 prog Tryz.f220 2 rfl rfl
def Qha:PC:=e0 (cF pg0 Tryz.f220) (by cbv)
def QpP:=@ko1 Qha _ _ _ Tryz.func220 (by kernel_rfl)
def Qoj:=rs1 prog Tryz.f221 2 rfl rfl
def Qhb:PC:=e0 (cF pg0 Tryz.f221) (by cbv)
def QpQ:=@ko1 Qhb _ _ _ Tryz.func221 (by kernel_rfl)
def Qok:=rs1 prog Tryz.f222 2 rfl rfl
def Qhc:PC:=e0 (cF pg0 Tryz.f222) (by cbv)
def QpR:=@ko1 Qhc _ _ _ Tryz.func222 (by kernel_rfl)
def QaW:=rs1 prog Tryz.f223 2 rfl rfl
def Qhd:PC:=e0 (cF pg0 Tryz.f223) (by cbv)
def QpS:=@ko1 Qhd _ _ _ Tryz.func223 (by kernel_rfl)
def QjB:=rs1 prog Tryz.f224 4 rfl rfl
def Qc8:PC:=e0 (cF pg0 Tryz.f224) (by cbv)
def Qkp:=@ko2 Qc8 _ _ _ Tryz.func224 (by kernel_rfl)
def QeF:=rs1 prog Tryz.f225 2 rfl rfl
def Qfv:PC:=e0 (cF pg0 Tryz.f225) (by cbv)
def Qol:=@ko1 Qfv _ _ _ Tryz.func225 (by kernel_rfl)
def QeG:=rs1 prog Tryz.f226 2 rfl rfl
def Qfw:PC:=e0 (cF pg0 Tryz.f226) (by cbv)
def Qom:=@ko1 Qfw _ _ _ Tryz.func226 (by kernel_rfl)
def QeH:=rs1 prog Tryz.f227 2 rfl rfl
def Qfx:PC:=e0 (cF pg0 Tryz.f227) (by cbv)
def Qon:=@ko1 Qfx _ _ _ Tryz.func227 (by kernel_rfl)
def QeI:=rs1 prog Tryz.f228 2 rfl rfl
def Qfy:PC:=e0 (cF pg0 Tryz.f228) (by cbv)
def Qoo:=@ko1 Qfy _ _ _ Tryz.func228 (by kernel_rfl)
def QeJ:=rs1 prog Tryz.f229 2 rfl rfl
def Qfz:PC:=e0 (cF pg0 Tryz.f229) (by cbv)
def Qop:=@ko1 Qfz _ _ _ Tryz.func229 (by kernel_rfl)
def QeK:=rs1 prog Tryz.f230 2 rfl rfl
def QfA:PC:=e0 (cF pg0 Tryz.f230) (by cbv)
def Qoq:=@ko1 QfA _ _ _ Tryz.func230 (by kernel_rfl)
def QeL:=rs1 prog Tryz.f231 2 rfl rfl
def QfB:PC:=e0 (cF pg0 Tryz.f231) (by cbv)
def Qor:=@ko1 QfB _ _ _ Tryz.func231 (by kernel_rfl)
def QmX:=rs1 prog Tryz.f232 2 rfl rfl
def QfC:PC:=e0 (cF pg0 Tryz.f232) (by cbv)
def Qos:=@ko1 QfC _ _ _ Tryz.func232 (by kernel_rfl)
def QmY:=rs1 prog Tryz.f233 2 rfl rfl
def QfD:PC:=e0 (cF pg0 Tryz.f233) (by cbv)
def Qot:=@ko1 QfD _ _ _ Tryz.func233 (by kernel_rfl)
def QmZ:=rs1 prog Tryz.f234 2 rfl rfl
def QfE:PC:=e0 (cF pg0 Tryz.f234) (by cbv)
def Qou:=@ko1 QfE _ _ _ Tryz.func234 (by kernel_rfl)
def Qm0:=rs1 prog Tryz.f235 2 rfl rfl
def QfF:PC:=e0 (cF pg0 Tryz.f235) (by cbv)
def Qov:=@ko1 QfF _ _ _ Tryz.func235 (by kernel_rfl)
def Qm1:=rs1 prog Tryz.f236 2 rfl rfl
def QfG:PC:=e0 (cF pg0 Tryz.f236) (by cbv)
def Qow:=@ko1 QfG _ _ _ Tryz.func236 (by kernel_rfl)
def Qm2:=rs1 prog Tryz.f237 2 rfl rfl
def QfH:PC:=e0 (cF pg0 Tryz.f237) (by cbv)
def Qox:=@ko1 QfH _ _ _ Tryz.func237 (by kernel_rfl)
def Qm3:=rs1 prog Tryz.f238 2 rfl rfl
def QfI:PC:=e0 (cF pg0 Tryz.f238) (by cbv)
def Qoy:=@ko1 QfI _ _ _ Tryz.func238 (by kernel_rfl)
def Qm4:=rs1 prog Tryz.f239 2 rfl rfl
def QfJ:PC:=e0 (cF pg0 Tryz.f239) (by cbv)
def Qoz:=@ko1 QfJ _ _ _ Tryz.func239 (by kernel_rfl)
def Qm5:=rs1 prog Tryz.f240 2 rfl rfl
def QfK:PC:=e0 (cF pg0 Tryz.f240) (by cbv)
def QoA:=@ko1 QfK _ _ _ Tryz.func240 (by kernel_rfl)
def Qm6:=rs1 prog Tryz.f241 2 rfl rfl
def QfL:PC:=e0 (cF pg0 Tryz.f241) (by cbv)
def QoB:=@ko1 QfL _ _ _ Tryz.func241 (by kernel_rfl)
def Qm7:=rs1 prog Tryz.f242 2 rfl rfl
def QfM:PC:=e0 (cF pg0 Tryz.f242) (by cbv)
def QoC:=@ko1 QfM _ _ _ Tryz.func242 (by kernel_rfl)
def Qm8:=rs1 prog Tryz.f243 2 rfl rfl
def QfN:PC:=e0 (cF pg0 Tryz.f243) (by cbv)
def QoD:=@ko1 QfN _ _ _ Tryz.func243 (by kernel_rfl)
def Qm9:=rs1 prog Tryz.f244 2 rfl rfl
def QfO:PC:=e0 (cF pg0 Tryz.f244) (by cbv)
def QoE:=@ko1 QfO _ _ _ Tryz.func244 (by kernel_rfl)
def Qna:=rs1 prog Tryz.f245 2 rfl rfl
def QfP:PC:=e0 (cF pg0 Tryz.f245) (by cbv)
def QoF:=@ko1 QfP _ _ _ Tryz.func245 (by kernel_rfl)
def Qnb:=rs1 prog Tryz.f246 2 rfl rfl
def QfQ:PC:=e0 (cF pg0 Tryz.f246) (by cbv)
def QoG:=@ko1 QfQ _ _ _ Tryz.func246 (by kernel_rfl)
def Qkq:=rs1 prog Tryz.f247 2 rfl rfl
def Z2:(Nat->PC)->List PC:=eL (cL pg0 Tryz.f247) (λ_=>by cbv)
def QdG:PC:=e1 6 Z2 (λ_=>by cbv) .skip
def Qi4:PC:=e1 5 Z2 (λ_=>by cbv) .skip
def Qi5:PC:=e1 4 Z2 (λ_=>by cbv) Qi4
def Qi6:PC:=e1 3 Z2 (λ_=>by cbv) Qi5
def Qi7:PC:=e1 2 Z2 (λ_=>by cbv) Qi6
def Qi8:PC:=e1 1 Z2 (λ_=>by cbv) Qi7
def Qmj:PC:=e2 0 Z2 (λ_ _=>by cbv) QdG Qi8
def QtT:=@ko1 Qmj _ _ _ Tryz.func247 (by kernel_rfl)
def Qgd:=rs2 prog Tryz.f249 4 5 rfl rfl
def QoH:PC:=e0 (cF pg0 Tryz.f249) (by cbv)
def QvO:=@ko2 QoH _ _ _ Tryz.func249 (by kernel_rfl)
def QqO:=rs1 prog Tryz.f250 2 rfl rfl
def QsE:PC:=e0 (cF pg0 Tryz.f250) (by cbv)
def QzA:=@ko1 QsE _ _ _ Tryz.func250 (by kernel_rfl)
def Vi:=rs2 prog Tryz.f251 4 5 rfl rfl
def Gq:(Nat->PC)->List PC:=eL (cL pg0 Tryz.f251) (λ_=>by cbv)
def Qkr:PC:=e1 5 Gq (λ_=>by cbv) .skip
def Qks:PC:=e1 4 Gq (λ_=>by cbv) .skip
def Qkt:PC:=e1 3 Gq (λ_=>by cbv) Qks
def Qku:PC:=e2 2 Gq (λ_ _=>by cbv) Qkr Qkt
def QeM:PC:=e1 1 Gq (λ_=>by cbv) Qku
def QoI:PC:=e1 0 Gq (λ_=>by cbv) QeM
def QvP:=@ko2 QoI _ _ _ Tryz.func251 (by kernel_rfl)
def QjC:=rs0 prog Tryz.f252 rfl
def ZM:(Nat->PC)->List PC:=eL (cL pg0 Tryz.f252) (λ_=>by cbv)
def QaX:PC:=e1 3 ZM (λ_=>by cbv) .skip
def QaY:PC:=e1 2 ZM (λ_=>by cbv) QaX
def JV:PC:=e1 1 ZM (λ_=>by cbv) QaY
def Qc9:PC:=e1 0 ZM (λ_=>by cbv) JV
def Qkv:=@ko5 Qc9 _ _ _ Tryz.func252 (by kernel_rfl)
def Qhe:=rs1 prog Tryz.f254 6 rfl rfl
def Y0:(Nat->PC)->List PC:=eL (cL pg0 Tryz.f254) (λ_=>by cbv)
def QfR:PC:=e1 6 Y0 (λ_=>by cbv) .skip
def QfS:PC:=e1 5 Y0 (λ_=>by cbv) QfR
def QaZ:PC:=e1 4 Y0 (λ_=>by cbv) QfS
def Qa0:PC:=e1 3 Y0 (λ_=>by cbv) .skip
def Qa1:PC:=e1 2 Y0 (λ_=>by cbv) Qa0
def Qa2:PC:=e2 1 Y0 (λ_ _=>by cbv) QaZ Qa1
def Qi9:PC:=e1 0 Y0 (λ_=>by cbv) Qa2
def Qrh:=@ko3 Qi9 _ _ _ Tryz.func254 (by kernel_rfl)
def Qja:=rs1 prog Tryz.f348 2 rfl rfl
def Qkw:PC:=e0 (cF pg0 Tryz.f348) (by cbv)
def QsF:=@ko1 Qkw _ _ _ Tryz.func348 (by kernel_rfl)
def QeN:=rs1 prog Tryz.f349 4 rfl rfl
def Qmk:PC:=e0 (cF pg0 Tryz.f349) (by cbv)
def QtU:=@ko2 Qmk _ _ _ Tryz.func349 (by kernel_rfl)
def QsG:=rs1 prog Tryz.f350 6 rfl rfl
def Qml:PC:=e0 (cF pg0 Tryz.f350) (by cbv)
def QtV:=@ko3 Qml _ _ _ Tryz.func350 (by kernel_rfl)
def QoJ:=rs1 prog Tryz.f351 2 rfl rfl
def QqP:PC:=e0 (cF pg0 Tryz.f351) (by cbv)
def Qxy:=@ko1 QqP _ _ _ Tryz.func351 (by kernel_rfl)
def Qd9:=rs1 prog Tryz.f352 2 rfl rfl
def KZ:PC:=e0 (cF pg0 Tryz.f352) (by cbv)
def QeO:=@ko1 KZ _ _ _ Tryz.func352 (by kernel_rfl)
def QsH:=rs1 prog Tryz.f353 4 rfl rfl
def Qmm:PC:=e0 (cF pg0 Tryz.f353) (by cbv)
def QtW:=@ko2 Qmm _ _ _ Tryz.func353 (by kernel_rfl)
def KG:=rs1 prog Tryz.f354 4 rfl rfl
def YJ:PC:=e0 (cF pg0 Tryz.f354) (by cbv)
def K1:=@ko2 YJ _ _ _ Tryz.func354 (by kernel_rfl)
def Qe9:=rs1 prog Tryz.f355 2 rfl rfl
def Vj:PC:=e0 (cF pg0 Tryz.f355) (by cbv)
def Qge:=@ko1 Vj _ _ _ Tryz.func355 (by kernel_rfl)
def Qjb:=rs1 prog Tryz.f356 6 rfl rfl
def Qkx:PC:=e0 (cF pg0 Tryz.f356) (by cbv)
def QsI:=@ko3 Qkx _ _ _ Tryz.func356 (by kernel_rfl)
def QqQ:=rs2 prog Tryz.f357 4 5 rfl rfl
def QeP:(Nat->PC)->List PC:=eL (cL pg0 Tryz.f357) (λ_=>by cbv)
def Qa3:PC:=e1 4 QeP (λ_=>by cbv) .skip
def QoK:PC:=e1 3 QeP (λ_=>by cbv) .skip
def Qif:PC:=e2 2 QeP (λ_ _=>by cbv) Qa3 QoK
def Qig:PC:=e1 1 QeP (λ_=>by cbv) Qif
def QsJ:PC:=e1 0 QeP (λ_=>by cbv) Qig
def QzB:=@ko2 QsJ _ _ _ Tryz.func357 (by kernel_rfl)
def Qnc:=rs1 prog Tryz.f358 4 rfl rfl
def YP:(Nat->PC)->List PC:=eL (cL pg0 Tryz.f358) (λ_=>by cbv)
def QdR:PC:=e1 5 YP (λ_=>by cbv) .skip
def QdS:PC:=e1 4 YP (λ_=>by cbv) QdR
def Jh:PC:=e1 3 YP (λ_=>by cbv) .skip
def QdT:PC:=e1 2 YP (λ_=>by cbv) Jh
def QdU:PC:=e1 1 YP (λ_=>by cbv) QdT
def QfT:PC:=e2 0 YP (λ_ _=>by cbv) QdS QdU
def QoL:=@ko2 QfT _ _ _ Tryz.func358 (by kernel_rfl)
def Kz:=rs1 prog Tryz.f361 2 rfl rfl
def Qhf:PC:=e0 (cF pg0 Tryz.f361) (by cbv)
def QpT:=@ko1 Qhf _ _ _ Tryz.func361 (by kernel_rfl)
def QfU:=rs1 prog Tryz.f378 2 rfl rfl
def Qhg:PC:=e0 (cF pg0 Tryz.f378) (by cbv)
def QpU:=@ko1 Qhg _ _ _ Tryz.func378 (by kernel_rfl)
def Qky:=rs1 prog Tryz.f379 4 rfl rfl
def Qmn:PC:=e0 (cF pg0 Tryz.f379) (by cbv)
def QtX:=@ko2 Qmn _ _ _ Tryz.func379 (by kernel_rfl)
def Qmo:=rs1 prog Tryz.f380 4 rfl rfl
def QoM:PC:=e0 (cF pg0 Tryz.f380) (by cbv)
def QvQ:=@ko2 QoM _ _ _ Tryz.func380 (by kernel_rfl)
def K2:=rs1 prog Tryz.f381 4 rfl rfl
def YS:PC:=e0 (cF pg0 Tryz.f381) (by cbv)
def Gr:=@ko2 YS _ _ _ Tryz.func381 (by kernel_rfl)
def Jq:=rs0 prog Tryz.f382 rfl
def Y1:(Nat->PC)->List PC:=eL (cL pg0 Tryz.f382) (λ_=>by cbv)
def QfV:PC:=e1 6 Y1 (λ_=>by cbv) .skip
def QfW:PC:=e1 5 Y1 (λ_=>by cbv) .skip
def Qa4:PC:=e1 4 Y1 (λ_=>by cbv) QfW
def QfX:PC:=e1 3 Y1 (λ_=>by cbv) Qa4
def QfY:PC:=e2 2 Y1 (λ_ _=>by cbv) QfV QfX
def QfZ:PC:=e1 1 Y1 (λ_=>by cbv) QfY
def Qjc:PC:=e1 0 Y1 (λ_=>by cbv) QfZ
def Qri:=@ko3 Qjc _ _ _ Tryz.func382 (by kernel_rfl)
def QtY:=rs1 prog Tryz.f383 4 rfl rfl
def QoN:PC:=e0 (cF pg0 Tryz.f383) (by cbv)
def QvR:=@ko2 QoN _ _ _ Tryz.func383 (by kernel_rfl)
def Qrj:=QtG prog Tryz.f384 true 3 8 120 rfl rfl (by kernel_rfl)
def Qkz:PC:=e0 (cF pg0 Tryz.f384) (by cbv)
def QsK:=@ko4 Qkz _ _ _ Tryz.func384 (by kernel_rfl)
def Qgf:=rs1 prog Tryz.f386 10 rfl rfl
def YT:(Nat->PC)->List PC:=eL (cL pg0 Tryz.f386) (λ_=>by cbv)
def Gz:PC:=e1 3 YT (λ_=>by cbv) .skip
def GA:PC:=e1 2 YT (λ_=>by cbv) Gz
def GB:PC:=e1 1 YT (λ_=>by cbv) GA
def Qae:PC:=e1 0 YT (λ_=>by cbv) GB
def Qhh:=@ko5 Qae _ _ _ Tryz.func386 (by kernel_rfl)
def QtZ:=rs1 prog Tryz.f387 2 rfl rfl
def Gt:(Nat->PC)->List PC:=eL (cL pg0 Tryz.f387) (λ_=>by cbv)
def QkA:PC:=e1 5 Gt (λ_=>by cbv) .skip
def QkB:PC:=e1 4 Gt (λ_=>by cbv) QkA
def QkC:PC:=e1 3 Gt (λ_=>by cbv) QkB
def QkD:PC:=e1 2 Gt (λ_=>by cbv) .skip
def QkE:PC:=e1 1 Gt (λ_=>by cbv) QkD
def QoO:PC:=e2 0 Gt (λ_ _=>by cbv) QkC QkE
def QvS:=@ko1 QoO _ _ _ Tryz.func387 (by kernel_rfl)
def Qxz:=rs1 prog Tryz.f388 2 rfl rfl
def QsL:PC:=e0 (cF pg0 Tryz.f388) (by cbv)
def QzC:=@ko1 QsL _ _ _ Tryz.func388 (by kernel_rfl)
def QsM:=rs1 prog Tryz.f389 2 rfl rfl
def Qmp:PC:=e0 (cF pg0 Tryz.f389) (by cbv)
def Qt0:=@ko1 Qmp _ _ _ Tryz.func389 (by kernel_rfl)
def QvT:=rs1 prog Tryz.f390 2 rfl rfl
def QqR:PC:=e0 (cF pg0 Tryz.f390) (by cbv)
def QxA:=@ko1 QqR _ _ _ Tryz.func390 (by kernel_rfl)
def Qt1:=rs1 prog Tryz.f391 2 rfl rfl
def QoP:PC:=e0 (cF pg0 Tryz.f391) (by cbv)
def QvU:=@ko1 QoP _ _ _ Tryz.func391 (by kernel_rfl)
def QoQ:=rs1 prog Tryz.f392 2 rfl rfl
def QqS:PC:=e0 (cF pg0 Tryz.f392) (by cbv)
def QxB:=@ko1 QqS _ _ _ Tryz.func392 (by kernel_rfl)
def QoR:=rs1 prog Tryz.f403 0 rfl rfl
def Qhi:PC:=e0 (cF pg0 Tryz.f403) (by cbv)
def QpV:=@ko0 Qhi _ _ _ Tryz.func403 (by kernel_rfl)
def QlN:=rs1 prog Tryz.f414 4 rfl rfl
def QeQ:PC:=e0 (cF pg0 Tryz.f414) (by cbv)
def Qnd:=@ko2 QeQ _ _ _ Tryz.func414 (by kernel_rfl)
def QlO:=rs1 prog Tryz.f415 2 rfl rfl
def QeR:PC:=e0 (cF pg0 Tryz.f415) (by cbv)
def Qne:=@ko1 QeR _ _ _ Tryz.func415 (by kernel_rfl)
def QlP:=rs1 prog Tryz.f416 4 rfl rfl
def QeS:PC:=e0 (cF pg0 Tryz.f416) (by cbv)
def Qnf:=@ko2 QeS _ _ _ Tryz.func416 (by kernel_rfl)
def QkF:=rs1 prog Tryz.f417 4 rfl rfl
def Qmq:PC:=e0 (cF pg0 Tryz.f417) (by cbv)
def Qt2:=@ko2 Qmq _ _ _ Tryz.func417 (by kernel_rfl)
def QlQ:=rs1 prog Tryz.f418 2 rfl rfl
def QeT:PC:=e0 (cF pg0 Tryz.f418) (by cbv)
def Qng:=@ko1 QeT _ _ _ Tryz.func418 (by kernel_rfl)
def QlR:=rs1 prog Tryz.f419 4 rfl rfl
def QeU:PC:=e0 (cF pg0 Tryz.f419) (by cbv)
def Qnh:=@ko2 QeU _ _ _ Tryz.func419 (by kernel_rfl)
def QlS:=rs1 prog Tryz.f420 2 rfl rfl
def QeV:PC:=e0 (cF pg0 Tryz.f420) (by cbv)
def Qni:=@ko1 QeV _ _ _ Tryz.func420 (by kernel_rfl)
end Go.Proofs.YtgepgbbjfhggfaaGreatDoor.code
