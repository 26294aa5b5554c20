import Derived.Test.YtopkfjiipdjbmaaGreatDoorProg
import Derived.KernelRfl
import Derived.Test.YtopkfjiipdjbmaaGreatDoorC0Code
set_option linter.unusedVariables false
set_option maxRecDepth 100000
set_option maxHeartbeats 4000000
set_option linter.defProp false
noncomputable section
namespace Go.Proofs.YtopkfjiipdjbmaaGreatDoor.code
open Go.Ab Tryz
variable (H0 H:Qa) (k:Value->Qa->Prop) (A:Env)
def Ym:=rs2 Pg f20 4 5 rfl rfl
def XE:(Nat->PC)->List PC:=eL (cL pg0 f20) (λ_=>by cbv)
def QcF:PC:=e1 5 XE (λ_=>by cbv) .skip
def QcG:PC:=e1 4 XE (λ_=>by cbv) .skip
def QcH:PC:=e1 3 XE (λ_=>by cbv) QcG
def K9:PC:=e2 2 XE (λ_ _=>by cbv) QcF QcH
def QcI:PC:=e1 1 XE (λ_=>by cbv) K9
def Qfx:PC:=e1 0 XE (λ_=>by cbv) QcI
def Qoo:=@ko2 Qfx _ _ _ func20 (by kernel_rfl)
def Qr4:=rs1 Pg f37 4 rfl rfl
def XB:(Nat->PC)->List PC:=eL (cL pg0 f37) (λ_=>by cbv)
def Qhi:PC:=e1 7 XB (λ_=>by cbv) .skip
def Qhj:PC:=e1 6 XB (λ_=>by cbv) Qhi
def Qa0:PC:=e1 5 XB (λ_=>by cbv) Qhj
def Qhk:PC:=e1 4 XB (λ_=>by cbv) Qa0
def Qa1:PC:=e1 3 XB (λ_=>by cbv) Qhk
def Qhl:PC:=e1 2 XB (λ_=>by cbv) Qa1
def Qhm:PC:=e1 1 XB (λ_=>by cbv) Qhl
def Qkw:PC:=e1 0 XB (λ_=>by cbv) Qhm
def Qtm:=@ko2 Qkw _ _ _ func37 (by kernel_rfl)
def WE:=rs1 Pg f38 6 rfl rfl
def QdV:PC:=e0 (cF pg0 f38) (by cbv)
def QmH:=@ko3 QdV _ _ _ func38 (by kernel_rfl)
def ZU:=rs1 Pg f39 4 rfl rfl
def Xb:PC:=e0 (cF pg0 f39) (by cbv)
def Jh:=@ko2 Xb _ _ _ func39 (by kernel_rfl)
def QiP:=rs1 Pg f58 2 rfl rfl
def Yw:(Nat->PC)->List PC:=eL (cL pg0 f58) (λ_=>by cbv)
def Qa2:PC:=e1 6 Yw (λ_=>by cbv) .skip
def Qhn:PC:=e1 5 Yw (λ_=>by cbv) .skip
def Qho:PC:=e1 4 Yw (λ_=>by cbv) Qhn
def Qhp:PC:=e1 3 Yw (λ_=>by cbv) Qho
def Qhq:PC:=e1 2 Yw (λ_=>by cbv) Qhp
def Qhr:PC:=e1 1 Yw (λ_=>by cbv) Qhq
def Qkx:PC:=e2 0 Yw (λ_ _=>by cbv) Qa2 Qhr
def Qtn:=@ko1 Qkx _ _ _ func58 (by kernel_rfl)
def XK:=rs1 Pg f68 2 rfl rfl
def Vi:(Nat->PC)->List PC:=eL (cL pg0 f68) (λ_=>by cbv)
def Qbw:PC:=e1 2 Vi (λ_=>by cbv) .skip
def Ka:PC:=e1 1 Vi (λ_=>by cbv) Qbw
def QdW:PC:=e1 0 Vi (λ_=>by cbv) Ka
def QmI:=@ko1 QdW _ _ _ func68 (by kernel_rfl)
def QiQ:=rs2 Pg f69 4 5 rfl rfl
def Qky:PC:=e0 (cF pg0 f69) (by cbv)
def Qto:=@ko2 Qky _ _ _ func69 (by kernel_rfl)
def Xp:=rs1 Pg f71 4 rfl rfl
def XC:PC:=e0 (cF pg0 f71) (by cbv)
def Ky:=@ko2 XC _ _ _ func71 (by kernel_rfl)
def QcJ:=rs2 Pg f72 2 3 rfl rfl
def Qkz:PC:=e0 (cF pg0 f72) (by cbv)
def Qtp:=@ko1 Qkz _ _ _ func72 (by kernel_rfl)
def Qhs:=rs1 Pg f92 2 rfl rfl
def QiR:PC:=e0 (cF pg0 f92) (by cbv)
def Qr5:=@ko1 QiR _ _ _ func92 (by kernel_rfl)
def QiS:=rs1 Pg f93 4 rfl rfl
def QkA:PC:=e0 (cF pg0 f93) (by cbv)
def Qtq:=@ko2 QkA _ _ _ func93 (by kernel_rfl)
def XL:=rs1 Pg f104 4 rfl rfl
def Yx:(Nat->PC)->List PC:=eL (cL pg0 f104) (λ_=>by cbv)
def Qa3:PC:=e1 6 Yx (λ_=>by cbv) .skip
def Qht:PC:=e1 5 Yx (λ_=>by cbv) .skip
def Qhu:PC:=e2 4 Yx (λ_ _=>by cbv) Qa3 Qht
def Qhv:PC:=e1 3 Yx (λ_=>by cbv) Qhu
def Qa4:PC:=e1 2 Yx (λ_=>by cbv) Qhv
def Qa5:PC:=e1 1 Yx (λ_=>by cbv) Qa4
def QkB:PC:=e1 0 Yx (λ_=>by cbv) Qa5
def Qtr:=@ko2 QkB _ _ _ func104 (by kernel_rfl)
def Qqe:=rs1 Pg f105 4 rfl rfl
def QiT:PC:=e0 (cF pg0 f105) (by cbv)
def Qr6:=@ko2 QiT _ _ _ func105 (by kernel_rfl)
def QdX:=rs1 Pg f118 2 rfl rfl
def Qfy:PC:=e0 (cF pg0 f118) (by cbv)
def Qop:=@ko1 Qfy _ _ _ func118 (by kernel_rfl)
def Qqf:=rs1 Pg f130 0 rfl rfl
def QiU:PC:=e0 (cF pg0 f130) (by cbv)
def Qr7:=@ko0 QiU _ _ _ func130 (by kernel_rfl)
def QmJ:=rs0 Pg f131 rfl
def Qfz:PC:=e0 (cF pg0 f131) (by cbv)
def Qoq:=@ko3 Qfz _ _ _ func131 (by kernel_rfl)
def Qhw:=rs1 Pg f132 4 rfl rfl
def YV:(Nat->PC)->List PC:=eL (cL pg0 f132) (λ_=>by cbv)
def QfA:PC:=e1 5 YV (λ_=>by cbv) .skip
def JE:PC:=e1 4 YV (λ_=>by cbv) QfA
def QfB:PC:=e1 3 YV (λ_=>by cbv) .skip
def QfC:PC:=e1 2 YV (λ_=>by cbv) QfB
def Qaf:PC:=e2 1 YV (λ_ _=>by cbv) JE QfC
def QiV:PC:=e1 0 YV (λ_=>by cbv) Qaf
def Qr8:=@ko2 QiV _ _ _ func132 (by kernel_rfl)
def Vj:=rs1 Pg f133 4 rfl rfl
def Qag:(Nat->PC)->List PC:=eL (cL pg0 f133) (λ_=>by cbv)
def Ga:PC:=e1 2 Qag (λ_=>by cbv) .skip
def Gb:PC:=e1 1 Qag (λ_=>by cbv) Ga
def QfD:PC:=e1 0 Qag (λ_=>by cbv) Gb
def Qor:=@ko2 QfD _ _ _ func133 (by kernel_rfl)
def Qj3:=rs1 Pg f134 8 rfl rfl
def QcK:PC:=e0 (cF pg0 f134) (by cbv)
def Qly:=@ko4 QcK _ _ _ func134 (by kernel_rfl)
def QmK:=QzL Pg f184 true 1 4 204 rfl rfl (by kernel_rfl)
def QfE:PC:=e0 (cF pg0 f184) (by cbv)
def Qos:=@ko2 QfE _ _ _ func184 (by kernel_rfl)
def Qbx:=rs1 Pg f185 4 rfl rfl
def QcL:PC:=e0 (cF pg0 f185) (by cbv)
def Qlz:=@ko3 QcL _ _ _ func185 (by kernel_rfl)
def QhZ:=rs1 Pg f186 4 rfl rfl
def QaI:PC:=e0 (cF pg0 f186) (by cbv)
def QiW:=@ko2 QaI _ _ _ func186 (by kernel_rfl)
def QmL:=rs1 Pg f187 2 rfl rfl
def QfF:PC:=e0 (cF pg0 f187) (by cbv)
def Qot:=@ko1 QfF _ _ _ func187 (by kernel_rfl)
def QdY:=rs1 Pg f188 2 rfl rfl
def QfG:PC:=e0 (cF pg0 f188) (by cbv)
def Qou:=@ko1 QfG _ _ _ func188 (by kernel_rfl)
def QmM:=rs1 Pg f189 2 rfl rfl
def QfH:PC:=e0 (cF pg0 f189) (by cbv)
def Qov:=@ko1 QfH _ _ _ func189 (by kernel_rfl)
def QmN:=rs1 Pg f190 2 rfl rfl
def QfI:PC:=e0 (cF pg0 f190) (by cbv)
def Qow:=@ko1 QfI _ _ _ func190 (by kernel_rfl)
def QmO:=rs1 Pg f191 2 rfl rfl
def QfJ:PC:=e0 (cF pg0 f191) (by cbv)
def Qox:=@ko1 QfJ _ _ _ func191 (by kernel_rfl)
def QmP:=rs1 Pg f192 2 rfl rfl
def QfK:PC:=e0 (cF pg0 f192) (by cbv)
def Qoy:=@ko1 QfK _ _ _ func192 (by kernel_rfl)
def QmQ:=rs1 Pg f193 2 rfl rfl
def QfL:PC:=e0 (cF pg0 f193) (by cbv)
def Qoz:=@ko1 QfL _ _ _ func193 (by kernel_rfl)
def Vk:=rs1 Pg f194 2 rfl rfl
def QfM:PC:=e0 (cF pg0 f194) (by cbv)
def QoA:=@ko1 QfM _ _ _ func194 (by kernel_rfl)
def Qh0:=rs1 Pg f195 4 rfl rfl
def QaJ:PC:=e0 (cF pg0 f195) (by cbv)
def QiX:=@ko2 QaJ _ _ _ func195 (by kernel_rfl)
def QcM:=rs1 Pg f196 2 rfl rfl
def QdZ:PC:=e0 (cF pg0 f196) (by cbv)
def QmR:=@ko1 QdZ _ _ _ func196 (by kernel_rfl)
def QcN:=rs1 Pg f197 2 rfl rfl
def Qd0:PC:=e0 (cF pg0 f197) (by cbv)
def QmS:=@ko1 Qd0 _ _ _ func197 (by kernel_rfl)
def QcO:=rs1 Pg f198 2 rfl rfl
def Qd1:PC:=e0 (cF pg0 f198) (by cbv)
def QmT:=@ko1 Qd1 _ _ _ func198 (by kernel_rfl)
def QcP:=rs1 Pg f199 2 rfl rfl
def Qd2:PC:=e0 (cF pg0 f199) (by cbv)
def QmU:=@ko1 Qd2 _ _ _ func199 (by kernel_rfl)
def QcQ:=rs1 Pg f200 2 rfl rfl
def Qd3:PC:=e0 (cF pg0 f200) (by cbv)
def QmV:=@ko1 Qd3 _ _ _ func200 (by kernel_rfl)
def QcR:=rs1 Pg f201 2 rfl rfl
def Qd4:PC:=e0 (cF pg0 f201) (by cbv)
def QmW:=@ko1 Qd4 _ _ _ func201 (by kernel_rfl)
def QcS:=rs1 Pg f202 2 rfl rfl
def Qd5:PC:=e0 (cF pg0 f202) (by cbv)
def QmX:=@ko1 Qd5 _ _ _ func202 (by kernel_rfl)
def QlA:=rs1 Pg f203 2 rfl rfl
def Qd6:PC:=e0 (cF pg0 f203) (by cbv)
def QmY:=@ko1 Qd6 _ _ _ func203 (by kernel_rfl)
def QlB:=rs1 Pg f204 2 rfl rfl
def Qd7:PC:=e0 (cF pg0 f204) (by cbv)
def QmZ:=@ko1 Qd7 _ _ _ func204 (by kernel_rfl)
def QlC:=rs1 Pg f205 2 rfl rfl
def Qd8:PC:=e0 (cF pg0 f205) (by cbv)
def Qm0:=@ko1 Qd8 _ _ _ func205 (by kernel_rfl)
def QlD:=rs1 Pg f206 2 rfl rfl
def Qd9:PC:=e0 (cF pg0 f206) (by cbv)
def Qm1:=@ko1 Qd9 _ _ _ func206 (by kernel_rfl)
def QlE:=rs1 Pg f207 2 rfl rfl
def Qea:PC:=e0 (cF pg0 f207) (by cbv)
def Qm2:=@ko1 Qea _ _ _ func207 (by kernel_rfl)
def QlF:=rs1 Pg f208 2 rfl rfl
def Qeb:PC:=e0 (cF pg0 f208) (by cbv)
def Qm3:=@ko1 Qeb _ _ _ func208 (by kernel_rfl)
def QlG:=rs1 Pg f209 2 rfl rfl
def Qec:PC:=e0 (cF pg0 f209) (by cbv)
def Qm4:=@ko1 Qec _ _ _ func209 (by kernel_rfl)
def QlH:=rs1 Pg f210 2 rfl rfl
def Qed:PC:=e0 (cF pg0 f210) (by cbv)
def Qm5:=@ko1 Qed _ _ _ func210 (by kernel_rfl)
def QlI:=rs1 Pg f211 2 rfl rfl
def Qee:PC:=e0 (cF pg0 f211) (by cbv)
def Qm6:=@ko1 Qee _ _ _ func211 (by kernel_rfl)
def QlJ:=rs1 Pg f212 2 rfl rfl
def Qef:PC:=e0 (cF pg0 f212) (by cbv)
def Qm7:=@ko1 Qef _ _ _ func212 (by kernel_rfl)
def QlK:=rs1 Pg f213 2 rfl rfl
def Qeg:PC:=e0 (cF pg0 f213) (by cbv)
def Qm8:=@ko1 Qeg _ _ _ func213 (by kernel_rfl)
def QlL:=rs1 Pg f214 2 rfl rfl
def Qeh:PC:=e0 (cF pg0 f214) (by cbv)
def Qm9:=@ko1 Qeh _ _ _ func214 (by kernel_rfl)
def QlM:=rs1 Pg f215 2 rfl rfl
def Qei:PC:=e0 (cF pg0 f215) (by cbv)
def Qna:=@ko1 Qei _ _ _ func215 (by kernel_rfl)
def QlN:=rs1 Pg f216 2 rfl rfl
def Qej:PC:=e0 (cF pg0 f216) (by cbv)
def Qnb:=@ko1 Qej _ _ _ func216 (by kernel_rfl)
def QlO:=rs1 Pg f217 2 rfl rfl
def Qek:PC:=e0 (cF pg0 f217) (by cbv)
def Qnc:=@ko1 Qek _ _ _ func217 (by kernel_rfl)
def QeI:=rs2 Pg f218 4 5 rfl rfl
def Qnd:PC:=e0 (cF pg0 f218) (by cbv)
def QvT:=@ko2 Qnd _ _ _ func218 (by kernel_rfl)
def QpG:=rs1 Pg f219 2 rfl rfl
def Qr9:PC:=e0 (cF pg0 f219) (by cbv)
def QAq:=@ko1 Qr9 _ _ _ func219 (by kernel_rfl)
def Kz:=rs2 Pg f220 4 5 rfl rfl
def JF:(Nat->PC)->List PC:=eL (cL pg0 f220) (λ_=>by cbv)
def QiY:PC:=e1 5 JF (λ_=>by cbv) .skip
def QiZ:PC:=e1 4 JF (λ_=>by cbv) .skip
def Qi0:PC:=e1 3 JF (λ_=>by cbv) QiZ
def Qi1:PC:=e2 2 JF (λ_ _=>by cbv) QiY Qi0
def QcT:PC:=e1 1 JF (λ_=>by cbv) Qi1
def Qne:PC:=e1 0 JF (λ_=>by cbv) QcT
def QvU:=@ko2 Qne _ _ _ func220 (by kernel_rfl)
def Qh1:=rs0 Pg f221 rfl
def Yn:(Nat->PC)->List PC:=eL (cL pg0 f221) (λ_=>by cbv)
def Vl:PC:=e1 3 Yn (λ_=>by cbv) .skip
def Vm:PC:=e1 2 Yn (λ_=>by cbv) Vl
def Zh:PC:=e1 1 Yn (λ_=>by cbv) Vm
def QaK:PC:=e1 0 Yn (λ_=>by cbv) Zh
def Qi2:=@ko5 QaK _ _ _ func221 (by kernel_rfl)
def QfN:=rs1 Pg f223 6 rfl rfl
def Xj:(Nat->PC)->List PC:=eL (cL pg0 f223) (λ_=>by cbv)
def Qel:PC:=e1 6 Xj (λ_=>by cbv) .skip
def Qem:PC:=e1 5 Xj (λ_=>by cbv) Qel
def Vn:PC:=e1 4 Xj (λ_=>by cbv) Qem
def Vo:PC:=e1 3 Xj (λ_=>by cbv) .skip
def Vp:PC:=e1 2 Xj (λ_=>by cbv) Vo
def Vq:PC:=e2 1 Xj (λ_ _=>by cbv) Vn Vp
def Qhx:PC:=e1 0 Xj (λ_=>by cbv) Vq
def Qqg:=@ko3 Qhx _ _ _ func223 (by kernel_rfl)
def QcU:=rs1 Pg f280 4 rfl rfl
def QkC:PC:=e0 (cF pg0 f280) (by cbv)
def Qts:=@ko2 QkC _ _ _ func280 (by kernel_rfl)
def Qsa:=rs1 Pg f281 6 rfl rfl
def QkD:PC:=e0 (cF pg0 f281) (by cbv)
def Qtt:=@ko3 QkD _ _ _ func281 (by kernel_rfl)
def Qnf:=rs1 Pg f282 2 rfl rfl
def QpH:PC:=e0 (cF pg0 f282) (by cbv)
def Qx0:=@ko1 QpH _ _ _ func282 (by kernel_rfl)
def Qb3:=rs1 Pg f283 2 rfl rfl
def Ji:PC:=e0 (cF pg0 f283) (by cbv)
def QcV:=@ko1 Ji _ _ _ func283 (by kernel_rfl)
def Qsb:=rs1 Pg f284 4 rfl rfl
def QkE:PC:=e0 (cF pg0 f284) (by cbv)
def Qtu:=@ko2 QkE _ _ _ func284 (by kernel_rfl)
def Qdz:=rs1 Pg f285 2 rfl rfl
def KA:PC:=e0 (cF pg0 f285) (by cbv)
def QeJ:=@ko1 KA _ _ _ func285 (by kernel_rfl)
def Qhy:=rs1 Pg f286 6 rfl rfl
def Qi3:PC:=e0 (cF pg0 f286) (by cbv)
def Qsc:=@ko3 Qi3 _ _ _ func286 (by kernel_rfl)
def QpI:=rs2 Pg f287 4 5 rfl rfl
def QcW:(Nat->PC)->List PC:=eL (cL pg0 f287) (λ_=>by cbv)
def Vr:PC:=e1 4 QcW (λ_=>by cbv) .skip
def Qng:PC:=e1 3 QcW (λ_=>by cbv) .skip
def QgE:PC:=e2 2 QcW (λ_ _=>by cbv) Vr Qng
def QgF:PC:=e1 1 QcW (λ_=>by cbv) QgE
def Qsd:PC:=e1 0 QcW (λ_=>by cbv) QgF
def QAr:=@ko2 Qsd _ _ _ func287 (by kernel_rfl)
def QlP:=rs1 Pg f288 4 rfl rfl
def Xe:(Nat->PC)->List PC:=eL (cL pg0 f288) (λ_=>by cbv)
def Qby:PC:=e1 5 Xe (λ_=>by cbv) .skip
def Qbz:PC:=e1 4 Xe (λ_=>by cbv) Qby
def YI:PC:=e1 3 Xe (λ_=>by cbv) .skip
def QbA:PC:=e1 2 Xe (λ_=>by cbv) YI
def QbB:PC:=e1 1 Xe (λ_=>by cbv) QbA
def Qen:PC:=e2 0 Xe (λ_ _=>by cbv) Qbz QbB
def Qnh:=@ko2 Qen _ _ _ func288 (by kernel_rfl)
def ZM:=rs1 Pg f291 2 rfl rfl
def QfO:PC:=e0 (cF pg0 f291) (by cbv)
def QoB:=@ko1 QfO _ _ _ func291 (by kernel_rfl)
def QkF:=rs1 Pg f304 4 rfl rfl
def Qni:PC:=e0 (cF pg0 f304) (by cbv)
def QvV:=@ko2 Qni _ _ _ func304 (by kernel_rfl)
def Jj:=rs1 Pg f305 4 rfl rfl
def Xf:PC:=e0 (cF pg0 f305) (by cbv)
def JG:=@ko2 Xf _ _ _ func305 (by kernel_rfl)
def YW:=rs0 Pg f306 rfl
def Xl:(Nat->PC)->List PC:=eL (cL pg0 f306) (λ_=>by cbv)
def Qeo:PC:=e1 6 Xl (λ_=>by cbv) .skip
def Qep:PC:=e1 5 Xl (λ_=>by cbv) .skip
def Vs:PC:=e1 4 Xl (λ_=>by cbv) Qep
def Qeq:PC:=e1 3 Xl (λ_=>by cbv) Vs
def Qer:PC:=e2 2 Xl (λ_ _=>by cbv) Qeo Qeq
def Qes:PC:=e1 1 Xl (λ_=>by cbv) Qer
def Qhz:PC:=e1 0 Xl (λ_=>by cbv) Qes
def Qqh:=@ko3 Qhz _ _ _ func306 (by kernel_rfl)
def Qtv:=rs1 Pg f307 4 rfl rfl
def Qnj:PC:=e0 (cF pg0 f307) (by cbv)
def QvW:=@ko2 Qnj _ _ _ func307 (by kernel_rfl)
def Qqi:=QzL Pg f308 true 3 8 210 rfl rfl (by kernel_rfl)
def Qi4:PC:=e0 (cF pg0 f308) (by cbv)
def Qse:=@ko4 Qi4 _ _ _ func308 (by kernel_rfl)
def QeK:=rs1 Pg f310 10 rfl rfl
def Xg:(Nat->PC)->List PC:=eL (cL pg0 f310) (λ_=>by cbv)
def JO:PC:=e1 3 Xg (λ_=>by cbv) .skip
def JP:PC:=e1 2 Xg (λ_=>by cbv) JO
def JQ:PC:=e1 1 Xg (λ_=>by cbv) JP
def GC:PC:=e1 0 Xg (λ_=>by cbv) JQ
def QfP:=@ko5 GC _ _ _ func310 (by kernel_rfl)
def Qtw:=rs1 Pg f311 2 rfl rfl
def JH:(Nat->PC)->List PC:=eL (cL pg0 f311) (λ_=>by cbv)
def Qi5:PC:=e1 5 JH (λ_=>by cbv) .skip
def Qi6:PC:=e1 4 JH (λ_=>by cbv) Qi5
def Qi7:PC:=e1 3 JH (λ_=>by cbv) Qi6
def Qi8:PC:=e1 2 JH (λ_=>by cbv) .skip
def Qi9:PC:=e1 1 JH (λ_=>by cbv) Qi8
def Qnk:PC:=e2 0 JH (λ_ _=>by cbv) Qi7 Qi9
def QvX:=@ko1 Qnk _ _ _ func311 (by kernel_rfl)
def Qx1:=rs1 Pg f312 2 rfl rfl
def Qsf:PC:=e0 (cF pg0 f312) (by cbv)
def QAs:=@ko1 Qsf _ _ _ func312 (by kernel_rfl)
def Qsg:=rs1 Pg f313 2 rfl rfl
def QkG:PC:=e0 (cF pg0 f313) (by cbv)
def Qtx:=@ko1 QkG _ _ _ func313 (by kernel_rfl)
def QvY:=rs1 Pg f314 2 rfl rfl
def QpJ:PC:=e0 (cF pg0 f314) (by cbv)
def Qx2:=@ko1 QpJ _ _ _ func314 (by kernel_rfl)
def Qty:=rs1 Pg f315 2 rfl rfl
def Qnl:PC:=e0 (cF pg0 f315) (by cbv)
def QvZ:=@ko1 Qnl _ _ _ func315 (by kernel_rfl)
def Qnm:=rs1 Pg f316 2 rfl rfl
def QpK:PC:=e0 (cF pg0 f316) (by cbv)
def Qx3:=@ko1 QpK _ _ _ func316 (by kernel_rfl)
def Qnn:=rs1 Pg f327 0 rfl rfl
def QfQ:PC:=e0 (cF pg0 f327) (by cbv)
def QoC:=@ko0 QfQ _ _ _ func327 (by kernel_rfl)
def Qj4:=rs1 Pg f333 4 rfl rfl
def QcX:PC:=e0 (cF pg0 f333) (by cbv)
def QlQ:=@ko2 QcX _ _ _ func333 (by kernel_rfl)
def Qj5:=rs1 Pg f334 2 rfl rfl
def QcY:PC:=e0 (cF pg0 f334) (by cbv)
def QlR:=@ko1 QcY _ _ _ func334 (by kernel_rfl)
def Qj6:=rs1 Pg f335 4 rfl rfl
def QcZ:PC:=e0 (cF pg0 f335) (by cbv)
def QlS:=@ko2 QcZ _ _ _ func335 (by kernel_rfl)
def Qja:=rs1 Pg f336 4 rfl rfl
def QkH:PC:=e0 (cF pg0 f336) (by cbv)
def Qtz:=@ko2 QkH _ _ _ func336 (by kernel_rfl)
def Qj7:=rs1 Pg f337 2 rfl rfl
def Qc0:PC:=e0 (cF pg0 f337) (by cbv)
def QlT:=@ko1 Qc0 _ _ _ func337 (by kernel_rfl)
def Qj8:=rs1 Pg f338 4 rfl rfl
def Qc1:PC:=e0 (cF pg0 f338) (by cbv)
def QlU:=@ko2 Qc1 _ _ _ func338 (by kernel_rfl)
def Qj9:=rs1 Pg f339 2 rfl rfl
def Qc2:PC:=e0 (cF pg0 f339) (by cbv)
def QlV:=@ko1 Qc2 _ _ _ func339 (by kernel_rfl)
theorem QhA:Rt Pg f17 H0 k A H=ldR true 2 (A 4) H λv=>Ret H0 k (.tuple #[v,A 5,A 6]) H:=Qva (ty:=33) (by kernel_rfl) (by kernel_rfl) (by kernel_rfl)
def Qjb:PC:=e0 (cF pg0 f17) (by cbv)
def Qsh:=@ko2 Qjb _ _ _ func17 (by kernel_rfl)
def Vt:=rs1 Pg f29 2 rfl rfl
def VX:PC:=e0 (cF pg0 f29) (by cbv)
def Qh2:=@ko1 VX _ _ _ func29 (by kernel_rfl)
def Yy:=rs1 Pg f30 2 rfl rfl
def GD:PC:=e0 (cF pg0 f30) (by cbv)
def QfR:=@ko1 GD _ _ _ func30 (by kernel_rfl)
def QY:=rs1 Pg f31 2 rfl rfl
def Ws:(Nat->PC)->List PC:=eL (cL pg0 f31) (λ_=>by cbv)
def KB:PC:=e1 5 Ws (λ_=>by cbv) .skip
def Yz:PC:=e1 4 Ws (λ_=>by cbv) KB
def YA:PC:=e1 3 Ws (λ_=>by cbv) Yz
def KD:PC:=e1 2 Ws (λ_=>by cbv) YA
def KE:PC:=e1 1 Ws (λ_=>by cbv) KD
def Vu:PC:=e1 0 Ws (λ_=>by cbv) KE
def QgG:=@ko1 Vu _ _ _ func31 (by kernel_rfl)
noncomputable abbrev QM:Func:=f32
theorem Wn:Rt Pg f32 H0 k A H=ldR true 2 (A 2) H λv=>Ret H0 k (.tuple #[v,A 3,A 4]) H:=Qva (ty:=33) (by kernel_rfl) (by kernel_rfl) (by kernel_rfl)
def QA:(Nat->PC)->List PC:=eL (cL pg0 QM) (λ_=>by cbv)
def WK:PC:=e1 10 QA (λ_=>by cbv) .skip
def ZN:PC:=e1 9 QA (λ_=>by cbv) .skip
def Xu:PC:=e1 8 QA (λ_=>by cbv) ZN
def Wi:PC:=e2 7 QA (λ_ _=>by cbv) WK Xu
def ZO:PC:=e1 6 QA (λ_=>by cbv) .skip
def ZP:PC:=e1 5 QA (λ_=>by cbv) ZO
def Xv:PC:=e1 4 QA (λ_=>by cbv) ZP
def Wj:PC:=e2 3 QA (λ_ _=>by cbv) Wi Xv
def Xw:PC:=e1 2 QA (λ_=>by cbv) .skip
def WA:PC:=e2 1 QA (λ_ _=>by cbv) Wj Xw
def JR:PC:=e1 0 QA (λ_=>by cbv) WA
def QdA:=@ko1 JR _ _ _ func32 (by kernel_rfl)
def QC:=rs1 Pg f51 2 rfl rfl
def QZ:(Nat->PC)->List PC:=eL (cL pg0 f51) (λ_=>by cbv)
def XV:PC:=e1 7 QZ (λ_=>by cbv) .skip
def JS:PC:=e1 6 QZ (λ_=>by cbv) XV
def XW:PC:=e1 5 QZ (λ_=>by cbv) JS
def JT:PC:=e1 4 QZ (λ_=>by cbv) .skip
def JU:PC:=e1 3 QZ (λ_=>by cbv) JT
def XX:PC:=e1 2 QZ (λ_=>by cbv) JU
def JV:PC:=e2 1 QZ (λ_ _=>by cbv) XW XX
def GE:PC:=e1 0 QZ (λ_=>by cbv) JV
def QfS:=@ko1 GE _ _ _ func51 (by kernel_rfl)
def Xa:=rs1 Pg f52 2 rfl rfl
def Ql:(Nat->PC)->List PC:=eL (cL pg0 f52) (λ_=>by cbv)
def JW:PC:=e1 17 Ql (λ_=>by cbv) .skip
def JX:PC:=e1 16 Ql (λ_=>by cbv) JW
def JY:PC:=e1 15 Ql (λ_=>by cbv) JX
def XY:PC:=e1 14 Ql (λ_=>by cbv) JY
def JZ:PC:=e1 13 Ql (λ_=>by cbv) .skip
def J1:PC:=e1 12 Ql (λ_=>by cbv) JZ
def J2:PC:=e1 11 Ql (λ_=>by cbv) J1
def WZ:PC:=e2 10 Ql (λ_ _=>by cbv) XY J2
def QdB:PC:=e1 9 Ql (λ_=>by cbv) .skip
def Qc3:PC:=e1 8 Ql (λ_=>by cbv) QdB
def Qc4:PC:=e1 7 Ql (λ_=>by cbv) Qc3
def Qc5:PC:=e1 6 Ql (λ_=>by cbv) Qc4
def Qc6:PC:=e1 5 Ql (λ_=>by cbv) .skip
def Qc7:PC:=e1 4 Ql (λ_=>by cbv) Qc6
def Qc8:PC:=e1 3 Ql (λ_=>by cbv) Qc7
def Jk:PC:=e2 2 Ql (λ_ _=>by cbv) Qc5 Qc8
def Jl:PC:=e1 1 Ql (λ_=>by cbv) Jk
def GF:PC:=e2 0 Ql (λ_ _=>by cbv) WZ Jl
def QfT:=@ko1 GF _ _ _ func52 (by kernel_rfl)
def YB:=rs1 Pg f54 4 rfl rfl
def GG:PC:=e0 (cF pg0 f54) (by cbv)
def QfU:=@ko2 GG _ _ _ func54 (by kernel_rfl)
def Qc9:=rs1 Pg f55 2 rfl rfl
def QW:(Nat->PC)->List PC:=eL (cL pg0 f55) (λ_=>by cbv)
def QbC:PC:=e1 11 QW (λ_=>by cbv) .skip
def QbD:PC:=e1 10 QW (λ_=>by cbv) QbC
def QbE:PC:=e1 9 QW (λ_=>by cbv) .skip
def QbF:PC:=e2 8 QW (λ_ _=>by cbv) QbD QbE
def QbG:PC:=e1 7 QW (λ_=>by cbv) QbF
def QbH:PC:=e1 6 QW (λ_=>by cbv) QbG
def QbI:PC:=e1 5 QW (λ_=>by cbv) QbH
def QbJ:PC:=e1 4 QW (λ_=>by cbv) QbI
def QbK:PC:=e1 3 QW (λ_=>by cbv) QbJ
def QaL:PC:=e1 2 QW (λ_=>by cbv) QbK
def QaM:PC:=e1 1 QW (λ_=>by cbv) QaL
def Qet:PC:=e1 0 QW (λ_=>by cbv) QaM
def Qno:=@ko1 Qet _ _ _ func55 (by kernel_rfl)
def Qeu:=rs1 Pg f56 2 rfl rfl
def Wb:(Nat->PC)->List PC:=eL (cL pg0 f56) (λ_=>by cbv)
def Qda:PC:=e1 10 Wb (λ_=>by cbv) .skip
def Qdb:PC:=e1 9 Wb (λ_=>by cbv) Qda
def Qdc:PC:=e1 8 Wb (λ_=>by cbv) Qdb
def Qdd:PC:=e1 7 Wb (λ_=>by cbv) Qdc
def Qde:PC:=e1 6 Wb (λ_=>by cbv) Qdd
def Qdf:PC:=e1 5 Wb (λ_=>by cbv) Qde
def Qdg:PC:=e1 4 Wb (λ_=>by cbv) Qdf
def Qdh:PC:=e1 3 Wb (λ_=>by cbv) Qdg
def Qdi:PC:=e1 2 Wb (λ_=>by cbv) Qdh
def QbL:PC:=e1 1 Wb (λ_=>by cbv) Qdi
def QfV:PC:=e1 0 Wb (λ_=>by cbv) QbL
def QoD:=@ko1 QfV _ _ _ func56 (by kernel_rfl)
def Wo:=Qw8 Pg f57 true 10 8 72 9 rfl rfl (by kernel_rfl)
def Wp:(Nat->PC)->List PC:=eL (cL pg0 f57) (λ_=>by cbv)
def Zq:PC:=e1 11 Wp (λ_=>by cbv) .skip
def Qa6:PC:=e1 10 Wp (λ_=>by cbv) .skip
def Zr:PC:=e2 9 Wp (λ_ _=>by cbv) Zq Qa6
def QhB:PC:=e1 8 Wp (λ_=>by cbv) .skip
def Qa7:PC:=e1 7 Wp (λ_=>by cbv) QhB
def QhC:PC:=e1 6 Wp (λ_=>by cbv) .skip
def QhD:PC:=e1 5 Wp (λ_=>by cbv) QhC
def Qa8:PC:=e2 4 Wp (λ_ _=>by cbv) Qa7 QhD
def Qa9:PC:=e2 3 Wp (λ_ _=>by cbv) Zr Qa8
def Qah:PC:=e1 2 Wp (λ_=>by cbv) Qa9
def Qai:PC:=e1 1 Wp (λ_=>by cbv) Qah
def QkI:PC:=e1 0 Wp (λ_=>by cbv) Qai
def QtA:=@ko4 QkI _ _ _ func57 (by kernel_rfl)
def ZB:=rs2 Pg f59 8 9 rfl rfl
def Zi:(Nat->PC)->List PC:=eL (cL pg0 f59) (λ_=>by cbv)
def Qjc:PC:=e1 6 Zi (λ_=>by cbv) .skip
def Qjd:PC:=e1 5 Zi (λ_=>by cbv) .skip
def Qje:PC:=e1 4 Zi (λ_=>by cbv) Qjd
def Qjf:PC:=e2 3 Zi (λ_ _=>by cbv) Qjc Qje
def Qjg:PC:=e1 2 Zi (λ_=>by cbv) Qjf
def Qjh:PC:=e1 1 Zi (λ_=>by cbv) Qjg
def Qnp:PC:=e1 0 Zi (λ_=>by cbv) Qjh
def Qv0:=@ko4 Qnp _ _ _ func59 (by kernel_rfl)
def QL:=QzL Pg f60 true 11 10 95 rfl rfl (by kernel_rfl)
def QD:(Nat->PC)->List PC:=eL (cL pg0 f60) (λ_=>by cbv)
def Jm:PC:=e1 10 QD (λ_=>by cbv) .skip
def Jn:PC:=e1 9 QD (λ_=>by cbv) .skip
def Jo:PC:=e1 8 QD (λ_=>by cbv) .skip
def Jp:PC:=e1 7 QD (λ_=>by cbv) .skip
def Jq:PC:=e1 6 QD (λ_=>by cbv) Jp
def Jr:PC:=e1 5 QD (λ_=>by cbv) Jq
def Js:PC:=e1 4 QD (λ_=>by cbv) Jr
def Jt:PC:=e1 3 QD (λ_=>by cbv) Js
def Ju:PC:=e2 2 QD (λ_ _=>by cbv) Jo Jt
def ZQ:PC:=e1 1 QD (λ_=>by cbv) Ju
def KG:PC:=e3 0 QD (λ_ _ _=>by cbv) Jm Jn ZQ
def QeL:=@ko5 KG _ _ _ func60 (by kernel_rfl)
def QB:=rs1 Pg f84 2 rfl rfl
def YC:(Nat->PC)->List PC:=eL (cL pg0 f84) (λ_=>by cbv)
def Qt:PC:=e1 2 YC (λ_=>by cbv) .skip
def Qu:PC:=e1 1 YC (λ_=>by cbv) Qt
def YD:PC:=e1 0 YC (λ_=>by cbv) Qu
def QeM:=@ko1 YD _ _ _ func84 (by kernel_rfl)
theorem Xx:Rt Pg f85 H0 k A H=ldR true 8 (A 2) H λv=>Ret H0 k (.tuple #[v,A 3,A 4]) H:=Qva (ty:=154) (by kernel_rfl) (by kernel_rfl) (by kernel_rfl)
def Yo:(Nat->PC)->List PC:=eL (cL pg0 f85) (λ_=>by cbv)
def QkJ:PC:=e1 8 Yo (λ_=>by cbv) .skip
def Qav:PC:=e1 7 Yo (λ_=>by cbv) QkJ
def QkK:PC:=e1 6 Yo (λ_=>by cbv) Qav
def QkL:PC:=e1 5 Yo (λ_=>by cbv) .skip
def QeN:PC:=e1 4 Yo (λ_=>by cbv) QkL
def QeO:PC:=e1 3 Yo (λ_=>by cbv) .skip
def QkM:PC:=e1 2 Yo (λ_=>by cbv) QeO
def QkN:PC:=e2 1 Yo (λ_ _=>by cbv) QeN QkM
def QpL:PC:=e2 0 Yo (λ_ _=>by cbv) QkK QkN
def Qx4:=@ko1 QpL _ _ _ func85 (by kernel_rfl)
def WL:=rs1 Pg f86 2 rfl rfl
def WQ:(Nat->PC)->List PC:=eL (cL pg0 f86) (λ_=>by cbv)
def Xm:PC:=e1 3 WQ (λ_=>by cbv) .skip
def Zs:PC:=e1 2 WQ (λ_=>by cbv) .skip
def Zt:PC:=e2 1 WQ (λ_ _=>by cbv) Xm Zs
def Jv:PC:=e1 0 WQ (λ_=>by cbv) Zt
def Qdj:=@ko1 Jv _ _ _ func86 (by kernel_rfl)
def Qqj:=rs3 Pg f88 2 3 4 rfl rfl
def Qji:PC:=e0 (cF pg0 f88) (by cbv)
def Qsi:=@ko1 Qji _ _ _ func88 (by kernel_rfl)
def Zj:=Qw8 Pg f89 true 7 8 70 9 rfl rfl (by kernel_rfl)
def Yp:(Nat->PC)->List PC:=eL (cL pg0 f89) (λ_=>by cbv)
def QbM:PC:=e1 4 Yp (λ_=>by cbv) .skip
def QbN:PC:=e1 3 Yp (λ_=>by cbv) QbM
def QbO:PC:=e1 2 Yp (λ_=>by cbv) .skip
def QbP:PC:=e1 1 Yp (λ_=>by cbv) .skip
def Qev:PC:=e3 0 Yp (λ_ _ _=>by cbv) QbN QbO QbP
def Qnq:=@ko4 Qev _ _ _ func89 (by kernel_rfl)
def Qba:=rs1 Pg f90 4 rfl rfl
def Qjj:PC:=e0 (cF pg0 f90) (by cbv)
def Qsj:=@ko2 Qjj _ _ _ func90 (by kernel_rfl)
def Jw:=QzL Pg f94 true 11 6 95 rfl rfl (by kernel_rfl)
def J3:PC:=e0 (cF pg0 f94) (by cbv)
def QdC:=@ko3 J3 _ _ _ func94 (by kernel_rfl)
def QfW:=QzL Pg f95 true 11 2 95 rfl rfl (by kernel_rfl)
def QhE:PC:=e0 (cF pg0 f95) (by cbv)
def Qqk:=@ko1 QhE _ _ _ func95 (by kernel_rfl)
def Qjk:=rs1 Pg f116 2 rfl rfl
def QkO:PC:=e0 (cF pg0 f116) (by cbv)
def QtB:=@ko1 QkO _ _ _ func116 (by kernel_rfl)
def GH:(Nat->PC)->List PC:=eL (cL pg0 f117) (λ_=>by cbv)
def QkP:PC:=e1 5 GH (λ_=>by cbv) .skip
def QkQ:PC:=e1 4 GH (λ_=>by cbv) QkP
def QkR:PC:=e1 3 GH (λ_=>by cbv) QkQ
def QkS:PC:=e1 2 GH (λ_=>by cbv) QkR
def QkT:PC:=e1 1 GH (λ_=>by cbv) QkS
def QpM:PC:=e1 0 GH (λ_=>by cbv) QkT
def Qx5:=@ko1 QpM _ _ _ func117 (by kernel_rfl)
