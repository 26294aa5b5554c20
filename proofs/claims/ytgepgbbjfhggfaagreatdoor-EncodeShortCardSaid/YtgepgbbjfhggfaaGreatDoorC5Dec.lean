/- The code of the functions that are reached, resolved. -/
import Derived.Test.YtgepgbbjfhggfaaGreatDoorProg
import Derived.KernelRfl
import Derived.Test.YtgepgbbjfhggfaaGreatDoorC0Code
set_option linter.unusedVariables false
set_option maxRecDepth 100000
set_option maxHeartbeats 4000000
set_option linter.defProp false
noncomputable section
namespace Go.Proofs.YtgepgbbjfhggfaaGreatDoor.code
open Go.Ab
variable (H0 H:Qa) (k:Value->Qa->Prop) (A:Env)
def ZK:=rs2 prog Tryz.f9 4 5 rfl rfl
def Zd:(Nat->PC)->List PC:=eL (cL pg0 Tryz.f9) (λ_=>by cbv)
def Qev:PC:=e1 5 Zd (λ_=>by cbv) .skip
def Qew:PC:=e1 4 Zd (λ_=>by cbv) .skip
def Qex:PC:=e1 3 Zd (λ_=>by cbv) Qew
def VQ:PC:=e2 2 Zd (λ_ _=>by cbv) Qev Qex
def Qey:PC:=e1 1 Zd (λ_=>by cbv) VQ
def QgS:PC:=e1 0 Zd (λ_=>by cbv) Qey
def Qpw:=@ko2 QgS _ _ _ Tryz.func9 (by kernel_rfl)
def Qez:=rs2 prog Tryz.f14 2 3 rfl rfl
def Ql7:PC:=e0 (cF pg0 Tryz.f14) (by cbv)
def QtA:=@ko1 Ql7 _ _ _ Tryz.func14 (by kernel_rfl)
def Qsl:=rs1 prog Tryz.f29 4 rfl rfl
def Y9:(Nat->PC)->List PC:=eL (cL pg0 Tryz.f29) (λ_=>by cbv)
def QiK:PC:=e1 7 Y9 (λ_=>by cbv) .skip
def QiL:PC:=e1 6 Y9 (λ_=>by cbv) QiK
def Qdx:PC:=e1 5 Y9 (λ_=>by cbv) QiL
def QiM:PC:=e1 4 Y9 (λ_=>by cbv) Qdx
def Qdy:PC:=e1 3 Y9 (λ_=>by cbv) QiM
def QiN:PC:=e1 2 Y9 (λ_=>by cbv) Qdy
def QiO:PC:=e1 1 Y9 (λ_=>by cbv) QiN
def Ql8:PC:=e1 0 Y9 (λ_=>by cbv) QiO
def QtB:=@ko2 Ql8 _ _ _ Tryz.func29 (by kernel_rfl)
def Xg:=rs1 prog Tryz.f30 6 rfl rfl
def Qfm:PC:=e0 (cF pg0 Tryz.f30) (by cbv)
def Qn1:=@ko3 Qfm _ _ _ Tryz.func30 (by kernel_rfl)
def Y1:=rs1 prog Tryz.f38 4 rfl rfl
def Za:PC:=e0 (cF pg0 Tryz.f38) (by cbv)
def Vh:=@ko2 Za _ _ _ Tryz.func38 (by kernel_rfl)
def Zi:=rs1 prog Tryz.f49 2 rfl rfl
def QaS:(Nat->PC)->List PC:=eL (cL pg0 Tryz.f49) (λ_=>by cbv)
def QdL:PC:=e1 2 QaS (λ_=>by cbv) .skip
def GM:PC:=e1 1 QaS (λ_=>by cbv) QdL
def Qfn:PC:=e1 0 QaS (λ_=>by cbv) GM
def Qn2:=@ko1 Qfn _ _ _ Tryz.func49 (by kernel_rfl)
def Qke:=rs2 prog Tryz.f50 4 5 rfl rfl
def Ql9:PC:=e0 (cF pg0 Tryz.f50) (by cbv)
def QtC:=@ko2 Ql9 _ _ _ Tryz.func50 (by kernel_rfl)
def Zj:=rs1 prog Tryz.f73 4 rfl rfl
def Z0:(Nat->PC)->List PC:=eL (cL pg0 Tryz.f73) (λ_=>by cbv)
def Qdz:PC:=e1 6 Z0 (λ_=>by cbv) .skip
def QiP:PC:=e1 5 Z0 (λ_=>by cbv) .skip
def QiQ:PC:=e2 4 Z0 (λ_ _=>by cbv) Qdz QiP
def QiR:PC:=e1 3 Z0 (λ_=>by cbv) QiQ
def QdA:PC:=e1 2 Z0 (λ_=>by cbv) QiR
def QdB:PC:=e1 1 Z0 (λ_=>by cbv) QdA
def Qma:PC:=e1 0 Z0 (λ_=>by cbv) QdB
def QtD:=@ko2 Qma _ _ _ Tryz.func73 (by kernel_rfl)
def Qq3:=rs1 prog Tryz.f74 4 rfl rfl
def Qkf:PC:=e0 (cF pg0 Tryz.f74) (by cbv)
def Qsm:=@ko2 Qkf _ _ _ Tryz.func74 (by kernel_rfl)
def Qq4:=rs1 prog Tryz.f111 0 rfl rfl
def Qkg:PC:=e0 (cF pg0 Tryz.f111) (by cbv)
def Qsn:=@ko0 Qkg _ _ _ Tryz.func111 (by kernel_rfl)
def Qn3:=rs0 prog Tryz.f112 rfl
def QgT:PC:=e0 (cF pg0 Tryz.f112) (by cbv)
def Qpx:=@ko3 QgT _ _ _ Tryz.func112 (by kernel_rfl)
def QiS:=rs1 prog Tryz.f113 4 rfl rfl
def Jn:(Nat->PC)->List PC:=eL (cL pg0 Tryz.f113) (λ_=>by cbv)
def QgU:PC:=e1 5 Jn (λ_=>by cbv) .skip
def Gm:PC:=e1 4 Jn (λ_=>by cbv) QgU
def QgV:PC:=e1 3 Jn (λ_=>by cbv) .skip
def QgW:PC:=e1 2 Jn (λ_=>by cbv) QgV
def Qcz:PC:=e2 1 Jn (λ_ _=>by cbv) Gm QgW
def Qkh:PC:=e1 0 Jn (λ_=>by cbv) Qcz
def Qso:=@ko2 Qkh _ _ _ Tryz.func113 (by kernel_rfl)
def QaT:=rs1 prog Tryz.f114 4 rfl rfl
def QcA:(Nat->PC)->List PC:=eL (cL pg0 Tryz.f114) (λ_=>by cbv)
def VR:PC:=e1 2 QcA (λ_=>by cbv) .skip
def VS:PC:=e1 1 QcA (λ_=>by cbv) VR
def QgX:PC:=e1 0 QcA (λ_=>by cbv) VS
def Qpy:=@ko2 QgX _ _ _ Tryz.func114 (by kernel_rfl)
def QlE:=rs1 prog Tryz.f115 8 rfl rfl
def QeA:PC:=e0 (cF pg0 Tryz.f115) (by cbv)
def QmN:=@ko4 QeA _ _ _ Tryz.func115 (by kernel_rfl)
def Qn4:=Qvk prog Tryz.f213 true 1 4 134 rfl rfl (by kernel_rfl)
def QgY:PC:=e0 (cF pg0 Tryz.f213) (by cbv)
def Qpz:=@ko2 QgY _ _ _ Tryz.func213 (by kernel_rfl)
def QdM:=rs1 prog Tryz.f214 4 rfl rfl
def QeB:PC:=e0 (cF pg0 Tryz.f214) (by cbv)
def QmO:=@ko3 QeB _ _ _ Tryz.func214 (by kernel_rfl)
def Qjq:=rs1 prog Tryz.f215 4 rfl rfl
def Qc0:PC:=e0 (cF pg0 Tryz.f215) (by cbv)
def Qki:=@ko2 Qc0 _ _ _ Tryz.func215 (by kernel_rfl)
def Qn5:=rs1 prog Tryz.f216 2 rfl rfl
def QgZ:PC:=e0 (cF pg0 Tryz.f216) (by cbv)
def QpA:=@ko1 QgZ _ _ _ Tryz.func216 (by kernel_rfl)
def Qfo:=rs1 prog Tryz.f217 2 rfl rfl
def Qg0:PC:=e0 (cF pg0 Tryz.f217) (by cbv)
def QpB:=@ko1 Qg0 _ _ _ Tryz.func217 (by kernel_rfl)
def Qn6:=rs1 prog Tryz.f218 2 rfl rfl
def Qg1:PC:=e0 (cF pg0 Tryz.f218) (by cbv)
def QpC:=@ko1 Qg1 _ _ _ Tryz.func218 (by kernel_rfl)
def Qn7:=rs1 prog Tryz.f219 2 rfl rfl
def Qg2:PC:=e0 (cF pg0 Tryz.f219) (by cbv)
def QpD:=@ko1 Qg2 _ _ _ Tryz.func219 (by kernel_rfl)
def Qn8:=rs1 prog Tryz.f220 2 rfl rfl
def Qg3:PC:=e0 (cF pg0 Tryz.f220) (by cbv)
def QpE:=@ko1 Qg3 _ _ _ Tryz.func220 (by kernel_rfl)
def Qn9:=rs1 prog Tryz.f221 2 rfl rfl
def Qg4:PC:=e0 (cF pg0 Tryz.f221) (by cbv)
def QpF:=@ko1 Qg4 _ _ _ Tryz.func221 (by kernel_rfl)
def Qoa:=rs1 prog Tryz.f222 2 rfl rfl
def Qg5:PC:=e0 (cF pg0 Tryz.f222) (by cbv)
def QpG:=@ko1 Qg5 _ _ _ Tryz.func222 (by kernel_rfl)
def QaU:=rs1 prog Tryz.f223 2 rfl rfl
def Qg6:PC:=e0 (cF pg0 Tryz.f223) (by cbv)
def QpH:=@ko1 Qg6 _ _ _ Tryz.func223 (by kernel_rfl)
def Qjr:=rs1 prog Tryz.f224 4 rfl rfl
def Qc1:PC:=e0 (cF pg0 Tryz.f224) (by cbv)
def Qkj:=@ko2 Qc1 _ _ _ Tryz.func224 (by kernel_rfl)
def QeC:=rs1 prog Tryz.f225 2 rfl rfl
def Qfp:PC:=e0 (cF pg0 Tryz.f225) (by cbv)
def Qob:=@ko1 Qfp _ _ _ Tryz.func225 (by kernel_rfl)
def QeD:=rs1 prog Tryz.f226 2 rfl rfl
def Qfq:PC:=e0 (cF pg0 Tryz.f226) (by cbv)
def Qoc:=@ko1 Qfq _ _ _ Tryz.func226 (by kernel_rfl)
def QeE:=rs1 prog Tryz.f227 2 rfl rfl
def Qfr:PC:=e0 (cF pg0 Tryz.f227) (by cbv)
def Qod:=@ko1 Qfr _ _ _ Tryz.func227 (by kernel_rfl)
def QeF:=rs1 prog Tryz.f228 2 rfl rfl
def Qfs:PC:=e0 (cF pg0 Tryz.f228) (by cbv)
def Qoe:=@ko1 Qfs _ _ _ Tryz.func228 (by kernel_rfl)
def QeG:=rs1 prog Tryz.f229 2 rfl rfl
def Qft:PC:=e0 (cF pg0 Tryz.f229) (by cbv)
def Qof:=@ko1 Qft _ _ _ Tryz.func229 (by kernel_rfl)
def QeH:=rs1 prog Tryz.f230 2 rfl rfl
def Qfu:PC:=e0 (cF pg0 Tryz.f230) (by cbv)
def Qog:=@ko1 Qfu _ _ _ Tryz.func230 (by kernel_rfl)
def QeI:=rs1 prog Tryz.f231 2 rfl rfl
def Qfv:PC:=e0 (cF pg0 Tryz.f231) (by cbv)
def Qoh:=@ko1 Qfv _ _ _ Tryz.func231 (by kernel_rfl)
def QmP:=rs1 prog Tryz.f232 2 rfl rfl
def Qfw:PC:=e0 (cF pg0 Tryz.f232) (by cbv)
def Qoi:=@ko1 Qfw _ _ _ Tryz.func232 (by kernel_rfl)
def QmQ:=rs1 prog Tryz.f233 2 rfl rfl
def Qfx:PC:=e0 (cF pg0 Tryz.f233) (by cbv)
def Qoj:=@ko1 Qfx _ _ _ Tryz.func233 (by kernel_rfl)
def QmR:=rs1 prog Tryz.f234 2 rfl rfl
def Qfy:PC:=e0 (cF pg0 Tryz.f234) (by cbv)
def Qok:=@ko1 Qfy _ _ _ Tryz.func234 (by kernel_rfl)
def QmS:=rs1 prog Tryz.f235 2 rfl rfl
def Qfz:PC:=e0 (cF pg0 Tryz.f235) (by cbv)
def Qol:=@ko1 Qfz _ _ _ Tryz.func235 (by kernel_rfl)
def QmT:=rs1 prog Tryz.f236 2 rfl rfl
def QfA:PC:=e0 (cF pg0 Tryz.f236) (by cbv)
def Qom:=@ko1 QfA _ _ _ Tryz.func236 (by kernel_rfl)
def QmU:=rs1 prog Tryz.f237 2 rfl rfl
def QfB:PC:=e0 (cF pg0 Tryz.f237) (by cbv)
def Qon:=@ko1 QfB _ _ _ Tryz.func237 (by kernel_rfl)
def QmV:=rs1 prog Tryz.f238 2 rfl rfl
def QfC:PC:=e0 (cF pg0 Tryz.f238) (by cbv)
def Qoo:=@ko1 QfC _ _ _ Tryz.func238 (by kernel_rfl)
def QmW:=rs1 prog Tryz.f239 2 rfl rfl
def QfD:PC:=e0 (cF pg0 Tryz.f239) (by cbv)
def Qop:=@ko1 QfD _ _ _ Tryz.func239 (by kernel_rfl)
def QmX:=rs1 prog Tryz.f240 2 rfl rfl
def QfE:PC:=e0 (cF pg0 Tryz.f240) (by cbv)
def Qoq:=@ko1 QfE _ _ _ Tryz.func240 (by kernel_rfl)
def QmY:=rs1 prog Tryz.f241 2 rfl rfl
def QfF:PC:=e0 (cF pg0 Tryz.f241) (by cbv)
def Qor:=@ko1 QfF _ _ _ Tryz.func241 (by kernel_rfl)
def QmZ:=rs1 prog Tryz.f242 2 rfl rfl
def QfG:PC:=e0 (cF pg0 Tryz.f242) (by cbv)
def Qos:=@ko1 QfG _ _ _ Tryz.func242 (by kernel_rfl)
def Qm0:=rs1 prog Tryz.f243 2 rfl rfl
def QfH:PC:=e0 (cF pg0 Tryz.f243) (by cbv)
def Qot:=@ko1 QfH _ _ _ Tryz.func243 (by kernel_rfl)
def Qm1:=rs1 prog Tryz.f244 2 rfl rfl
def QfI:PC:=e0 (cF pg0 Tryz.f244) (by cbv)
def Qou:=@ko1 QfI _ _ _ Tryz.func244 (by kernel_rfl)
def Qm2:=rs1 prog Tryz.f245 2 rfl rfl
def QfJ:PC:=e0 (cF pg0 Tryz.f245) (by cbv)
def Qov:=@ko1 QfJ _ _ _ Tryz.func245 (by kernel_rfl)
def Qm3:=rs1 prog Tryz.f246 2 rfl rfl
def QfK:PC:=e0 (cF pg0 Tryz.f246) (by cbv)
def Qow:=@ko1 QfK _ _ _ Tryz.func246 (by kernel_rfl)
def Qkk:=rs1 prog Tryz.f247 2 rfl rfl
def Z1:(Nat->PC)->List PC:=eL (cL pg0 Tryz.f247) (λ_=>by cbv)
def QdC:PC:=e1 6 Z1 (λ_=>by cbv) .skip
def QiT:PC:=e1 5 Z1 (λ_=>by cbv) .skip
def QiU:PC:=e1 4 Z1 (λ_=>by cbv) QiT
def QiV:PC:=e1 3 Z1 (λ_=>by cbv) QiU
def QiW:PC:=e1 2 Z1 (λ_=>by cbv) QiV
def QiX:PC:=e1 1 Z1 (λ_=>by cbv) QiW
def Qmb:PC:=e2 0 Z1 (λ_ _=>by cbv) QdC QiX
def QtE:=@ko1 Qmb _ _ _ Tryz.func247 (by kernel_rfl)
def Qf7:=rs2 prog Tryz.f249 4 5 rfl rfl
def Qox:PC:=e0 (cF pg0 Tryz.f249) (by cbv)
def Qvv:=@ko2 Qox _ _ _ Tryz.func249 (by kernel_rfl)
def QqC:=rs1 prog Tryz.f250 2 rfl rfl
def Qsp:PC:=e0 (cF pg0 Tryz.f250) (by cbv)
def Qzl:=@ko1 Qsp _ _ _ Tryz.func250 (by kernel_rfl)
def Vi:=rs2 prog Tryz.f251 4 5 rfl rfl
def Gn:(Nat->PC)->List PC:=eL (cL pg0 Tryz.f251) (λ_=>by cbv)
def Qkl:PC:=e1 5 Gn (λ_=>by cbv) .skip
def Qkm:PC:=e1 4 Gn (λ_=>by cbv) .skip
def Qkn:PC:=e1 3 Gn (λ_=>by cbv) Qkm
def Qko:PC:=e2 2 Gn (λ_ _=>by cbv) Qkl Qkn
def QeJ:PC:=e1 1 Gn (λ_=>by cbv) Qko
def Qoy:PC:=e1 0 Gn (λ_=>by cbv) QeJ
def Qvw:=@ko2 Qoy _ _ _ Tryz.func251 (by kernel_rfl)
def Qjs:=rs0 prog Tryz.f252 rfl
def ZL:(Nat->PC)->List PC:=eL (cL pg0 Tryz.f252) (λ_=>by cbv)
def QaV:PC:=e1 3 ZL (λ_=>by cbv) .skip
def QaW:PC:=e1 2 ZL (λ_=>by cbv) QaV
def JS:PC:=e1 1 ZL (λ_=>by cbv) QaW
def Qc2:PC:=e1 0 ZL (λ_=>by cbv) JS
def Qkp:=@ko5 Qc2 _ _ _ Tryz.func252 (by kernel_rfl)
def Qg7:=rs1 prog Tryz.f254 6 rfl rfl
def YX:(Nat->PC)->List PC:=eL (cL pg0 Tryz.f254) (λ_=>by cbv)
def QfL:PC:=e1 6 YX (λ_=>by cbv) .skip
def QfM:PC:=e1 5 YX (λ_=>by cbv) QfL
def QaX:PC:=e1 4 YX (λ_=>by cbv) QfM
def QaY:PC:=e1 3 YX (λ_=>by cbv) .skip
def QaZ:PC:=e1 2 YX (λ_=>by cbv) QaY
def Qa0:PC:=e2 1 YX (λ_ _=>by cbv) QaX QaZ
def QiY:PC:=e1 0 YX (λ_=>by cbv) Qa0
def Qq5:=@ko3 QiY _ _ _ Tryz.func254 (by kernel_rfl)
def QiZ:=rs1 prog Tryz.f348 2 rfl rfl
def Qkq:PC:=e0 (cF pg0 Tryz.f348) (by cbv)
def Qsq:=@ko1 Qkq _ _ _ Tryz.func348 (by kernel_rfl)
def QeK:=rs1 prog Tryz.f349 4 rfl rfl
def Qmc:PC:=e0 (cF pg0 Tryz.f349) (by cbv)
def QtF:=@ko2 Qmc _ _ _ Tryz.func349 (by kernel_rfl)
def Qsr:=rs1 prog Tryz.f350 6 rfl rfl
def Qmd:PC:=e0 (cF pg0 Tryz.f350) (by cbv)
def QtG:=@ko3 Qmd _ _ _ Tryz.func350 (by kernel_rfl)
def Qoz:=rs1 prog Tryz.f351 2 rfl rfl
def QqD:PC:=e0 (cF pg0 Tryz.f351) (by cbv)
def Qxi:=@ko1 QqD _ _ _ Tryz.func351 (by kernel_rfl)
def Qd6:=rs1 prog Tryz.f352 2 rfl rfl
def KX:PC:=e0 (cF pg0 Tryz.f352) (by cbv)
def QeL:=@ko1 KX _ _ _ Tryz.func352 (by kernel_rfl)
def Qss:=rs1 prog Tryz.f353 4 rfl rfl
def Qme:PC:=e0 (cF pg0 Tryz.f353) (by cbv)
def QtH:=@ko2 Qme _ _ _ Tryz.func353 (by kernel_rfl)
def KA:=rs1 prog Tryz.f354 4 rfl rfl
def YF:PC:=e0 (cF pg0 Tryz.f354) (by cbv)
def KY:=@ko2 YF _ _ _ Tryz.func354 (by kernel_rfl)
def Qe4:=rs1 prog Tryz.f355 2 rfl rfl
def Vj:PC:=e0 (cF pg0 Tryz.f355) (by cbv)
def Qf8:=@ko1 Vj _ _ _ Tryz.func355 (by kernel_rfl)
def Qi0:=rs1 prog Tryz.f356 6 rfl rfl
def Qkr:PC:=e0 (cF pg0 Tryz.f356) (by cbv)
def Qst:=@ko3 Qkr _ _ _ Tryz.func356 (by kernel_rfl)
def QqE:=rs2 prog Tryz.f357 4 5 rfl rfl
def QeM:(Nat->PC)->List PC:=eL (cL pg0 Tryz.f357) (λ_=>by cbv)
def Qa1:PC:=e1 4 QeM (λ_=>by cbv) .skip
def QoA:PC:=e1 3 QeM (λ_=>by cbv) .skip
def Qh8:PC:=e2 2 QeM (λ_ _=>by cbv) Qa1 QoA
def Qh9:PC:=e1 1 QeM (λ_=>by cbv) Qh8
def Qsu:PC:=e1 0 QeM (λ_=>by cbv) Qh9
def Qzm:=@ko2 Qsu _ _ _ Tryz.func357 (by kernel_rfl)
def Qm4:=rs1 prog Tryz.f358 4 rfl rfl
def YL:(Nat->PC)->List PC:=eL (cL pg0 Tryz.f358) (λ_=>by cbv)
def QdN:PC:=e1 5 YL (λ_=>by cbv) .skip
def QdO:PC:=e1 4 YL (λ_=>by cbv) QdN
def Jf:PC:=e1 3 YL (λ_=>by cbv) .skip
def QdP:PC:=e1 2 YL (λ_=>by cbv) Jf
def QdQ:PC:=e1 1 YL (λ_=>by cbv) QdP
def QfN:PC:=e2 0 YL (λ_ _=>by cbv) QdO QdQ
def QoB:=@ko2 QfN _ _ _ Tryz.func358 (by kernel_rfl)
def Kv:=rs1 prog Tryz.f361 2 rfl rfl
def Qg8:PC:=e0 (cF pg0 Tryz.f361) (by cbv)
def QpI:=@ko1 Qg8 _ _ _ Tryz.func361 (by kernel_rfl)
def QfO:=rs1 prog Tryz.f378 2 rfl rfl
def Qg9:PC:=e0 (cF pg0 Tryz.f378) (by cbv)
def QpJ:=@ko1 Qg9 _ _ _ Tryz.func378 (by kernel_rfl)
def Qks:=rs1 prog Tryz.f379 4 rfl rfl
def Qmf:PC:=e0 (cF pg0 Tryz.f379) (by cbv)
def QtI:=@ko2 Qmf _ _ _ Tryz.func379 (by kernel_rfl)
def Qmg:=rs1 prog Tryz.f380 4 rfl rfl
def QoC:PC:=e0 (cF pg0 Tryz.f380) (by cbv)
def Qvx:=@ko2 QoC _ _ _ Tryz.func380 (by kernel_rfl)
def KZ:=rs1 prog Tryz.f381 4 rfl rfl
def YM:PC:=e0 (cF pg0 Tryz.f381) (by cbv)
def Gp:=@ko2 YM _ _ _ Tryz.func381 (by kernel_rfl)
def Jo:=rs0 prog Tryz.f382 rfl
def YY:(Nat->PC)->List PC:=eL (cL pg0 Tryz.f382) (λ_=>by cbv)
def QfP:PC:=e1 6 YY (λ_=>by cbv) .skip
def QfQ:PC:=e1 5 YY (λ_=>by cbv) .skip
def Qa2:PC:=e1 4 YY (λ_=>by cbv) QfQ
def QfR:PC:=e1 3 YY (λ_=>by cbv) Qa2
def QfS:PC:=e2 2 YY (λ_ _=>by cbv) QfP QfR
def QfT:PC:=e1 1 YY (λ_=>by cbv) QfS
def Qi1:PC:=e1 0 YY (λ_=>by cbv) QfT
def Qq6:=@ko3 Qi1 _ _ _ Tryz.func382 (by kernel_rfl)
def QtJ:=rs1 prog Tryz.f383 4 rfl rfl
def QoD:PC:=e0 (cF pg0 Tryz.f383) (by cbv)
def Qvy:=@ko2 QoD _ _ _ Tryz.func383 (by kernel_rfl)
def Qq7:=Qvk prog Tryz.f384 true 3 8 120 rfl rfl (by kernel_rfl)
def Qkt:PC:=e0 (cF pg0 Tryz.f384) (by cbv)
def Qsv:=@ko4 Qkt _ _ _ Tryz.func384 (by kernel_rfl)
def Qf9:=rs1 prog Tryz.f386 10 rfl rfl
def YN:(Nat->PC)->List PC:=eL (cL pg0 Tryz.f386) (λ_=>by cbv)
def Gt:PC:=e1 3 YN (λ_=>by cbv) .skip
def Gu:PC:=e1 2 YN (λ_=>by cbv) Gt
def Gw:PC:=e1 1 YN (λ_=>by cbv) Gu
def Qab:PC:=e1 0 YN (λ_=>by cbv) Gw
def Qha:=@ko5 Qab _ _ _ Tryz.func386 (by kernel_rfl)
def QtK:=rs1 prog Tryz.f387 2 rfl rfl
def Gq:(Nat->PC)->List PC:=eL (cL pg0 Tryz.f387) (λ_=>by cbv)
def Qku:PC:=e1 5 Gq (λ_=>by cbv) .skip
def Qkv:PC:=e1 4 Gq (λ_=>by cbv) Qku
def Qkw:PC:=e1 3 Gq (λ_=>by cbv) Qkv
def Qkx:PC:=e1 2 Gq (λ_=>by cbv) .skip
def Qky:PC:=e1 1 Gq (λ_=>by cbv) Qkx
def QoE:PC:=e2 0 Gq (λ_ _=>by cbv) Qkw Qky
def Qvz:=@ko1 QoE _ _ _ Tryz.func387 (by kernel_rfl)
def Qxj:=rs1 prog Tryz.f388 2 rfl rfl
def Qsw:PC:=e0 (cF pg0 Tryz.f388) (by cbv)
def Qzn:=@ko1 Qsw _ _ _ Tryz.func388 (by kernel_rfl)
def Qsx:=rs1 prog Tryz.f389 2 rfl rfl
def Qmh:PC:=e0 (cF pg0 Tryz.f389) (by cbv)
def QtL:=@ko1 Qmh _ _ _ Tryz.func389 (by kernel_rfl)
def QvA:=rs1 prog Tryz.f390 2 rfl rfl
def QqF:PC:=e0 (cF pg0 Tryz.f390) (by cbv)
def Qxk:=@ko1 QqF _ _ _ Tryz.func390 (by kernel_rfl)
def QtM:=rs1 prog Tryz.f391 2 rfl rfl
def QoF:PC:=e0 (cF pg0 Tryz.f391) (by cbv)
def QvB:=@ko1 QoF _ _ _ Tryz.func391 (by kernel_rfl)
def QoG:=rs1 prog Tryz.f392 2 rfl rfl
def QqG:PC:=e0 (cF pg0 Tryz.f392) (by cbv)
def Qxl:=@ko1 QqG _ _ _ Tryz.func392 (by kernel_rfl)
def QoH:=rs1 prog Tryz.f403 0 rfl rfl
def Qhb:PC:=e0 (cF pg0 Tryz.f403) (by cbv)
def QpK:=@ko0 Qhb _ _ _ Tryz.func403 (by kernel_rfl)
def QlF:=rs1 prog Tryz.f414 4 rfl rfl
def QeN:PC:=e0 (cF pg0 Tryz.f414) (by cbv)
def Qm5:=@ko2 QeN _ _ _ Tryz.func414 (by kernel_rfl)
def QlG:=rs1 prog Tryz.f415 2 rfl rfl
def QeO:PC:=e0 (cF pg0 Tryz.f415) (by cbv)
def Qm6:=@ko1 QeO _ _ _ Tryz.func415 (by kernel_rfl)
def QlH:=rs1 prog Tryz.f416 4 rfl rfl
def QeP:PC:=e0 (cF pg0 Tryz.f416) (by cbv)
def Qm7:=@ko2 QeP _ _ _ Tryz.func416 (by kernel_rfl)
def Qkz:=rs1 prog Tryz.f417 4 rfl rfl
def Qmi:PC:=e0 (cF pg0 Tryz.f417) (by cbv)
def QtN:=@ko2 Qmi _ _ _ Tryz.func417 (by kernel_rfl)
def QlI:=rs1 prog Tryz.f418 2 rfl rfl
def QeQ:PC:=e0 (cF pg0 Tryz.f418) (by cbv)
def Qm8:=@ko1 QeQ _ _ _ Tryz.func418 (by kernel_rfl)
def QlJ:=rs1 prog Tryz.f419 4 rfl rfl
def QeR:PC:=e0 (cF pg0 Tryz.f419) (by cbv)
def Qm9:=@ko2 QeR _ _ _ Tryz.func419 (by kernel_rfl)
def QlK:=rs1 prog Tryz.f420 2 rfl rfl
def QeS:PC:=e0 (cF pg0 Tryz.f420) (by cbv)
def Qna:=@ko1 QeS _ _ _ Tryz.func420 (by kernel_rfl)
end Go.Proofs.YtgepgbbjfhggfaaGreatDoor.code
