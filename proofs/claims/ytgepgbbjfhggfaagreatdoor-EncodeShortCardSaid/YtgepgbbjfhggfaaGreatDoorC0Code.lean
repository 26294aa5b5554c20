/- The code of the functions that are reached, resolved. -/
import Derived.Test.YtgepgbbjfhggfaaGreatDoorProg
import Derived.KernelRfl
import Derived.Test.YtgepgbbjfhggfaaGreatDoorAbD
set_option linter.unusedVariables false
set_option maxRecDepth 100000
set_option maxHeartbeats 4000000
set_option linter.defProp false
noncomputable section
namespace Go.Proofs.YtgepgbbjfhggfaaGreatDoor.code
open Go.Ab
variable (H0 H:Qa) (k:Value->Qa->Prop) (A:Env)
noncomputable abbrev prog:Program:=Tryz.prog
noncomputable abbrev pg0:Program:={toTables:=Tryz.progTables,funcs:=#[]}
def Qf4:=Qvk prog Tryz.f8 true 2 2 24 rfl rfl (by kernel_rfl)
def V2:PC:=e0 (cF pg0 Tryz.f8) (by cbv)
def Qgz:=@ko1 V2 _ _ _ Tryz.func8 (by kernel_rfl)
def Yo:=rs1 prog Tryz.f12 4 rfl rfl
def V3:PC:=e0 (cF pg0 Tryz.f12) (by cbv)
def QgA:=@ko2 V3 _ _ _ Tryz.func12 (by kernel_rfl)
def Qvl:=rs1 prog Tryz.f15 2 rfl rfl
def Qqw:PC:=e0 (cF pg0 Tryz.f15) (by cbv)
def Qw7:=@ko1 Qqw _ _ _ Tryz.func15 (by kernel_rfl)
def ZT:=rs1 prog Tryz.f35 4 rfl rfl
def V4:PC:=e0 (cF pg0 Tryz.f35) (by cbv)
def QgB:=@ko2 V4 _ _ _ Tryz.func35 (by kernel_rfl)
def QnU:=rs1 prog Tryz.f36 6 rfl rfl
def QgC:PC:=e0 (cF pg0 Tryz.f36) (by cbv)
def Qpr:=@ko3 QgC _ _ _ Tryz.func36 (by kernel_rfl)
def Qr9:=rs1 prog Tryz.f37 3 rfl rfl
def Ql0:PC:=e0 (cF pg0 Tryz.f37) (by cbv)
def Qtr:=@ko2 Ql0 _ _ _ Tryz.func37 (by kernel_rfl)
def QqX:=rs1 prog Tryz.f61 0 rfl rfl
def Qj5:PC:=e0 (cF pg0 Tryz.f61) (by cbv)
def Qsa:=@ko0 Qj5 _ _ _ Tryz.func61 (by kernel_rfl)
def Yp:=rs1 prog Tryz.f75 4 rfl rfl
def Jj:PC:=e0 (cF pg0 Tryz.f75) (by cbv)
def V5:=@ko2 Jj _ _ _ Tryz.func75 (by kernel_rfl)
def QaD:=rs1 prog Tryz.f124 4 rfl rfl
def QbO:PC:=e0 (cF pg0 Tryz.f124) (by cbv)
def Qjg:=@ko2 QbO _ _ _ Tryz.func124 (by kernel_rfl)
def Qsb:=rs1 prog Tryz.f248 4 rfl rfl
def Ql1:PC:=e0 (cF pg0 Tryz.f248) (by cbv)
def Qts:=@ko2 Ql1 _ _ _ Tryz.func248 (by kernel_rfl)
def YK:=rs1 prog Tryz.f253 4 rfl rfl
def QaE:PC:=e0 (cF pg0 Tryz.f253) (by cbv)
def QhT:=@ko2 QaE _ _ _ Tryz.func253 (by kernel_rfl)
def WL:=rs1 prog Tryz.f31 2 rfl rfl
def QW:(Nat->PC)->List PC:=eL (cL pg0 Tryz.f31) (λ_=>by cbv)
def GS:PC:=e1 9 QW (λ_=>by cbv) .skip
def GT:PC:=e1 8 QW (λ_=>by cbv) GS
def GU:PC:=e1 7 QW (λ_=>by cbv) GT
def ZU:PC:=e1 6 QW (λ_=>by cbv) GU
def ZV:PC:=e1 5 QW (λ_=>by cbv) ZU
def GV:PC:=e1 4 QW (λ_=>by cbv) .skip
def GW:PC:=e1 3 QW (λ_=>by cbv) GV
def GY:PC:=e2 2 QW (λ_ _=>by cbv) ZV GW
def GZ:PC:=e1 1 QW (λ_=>by cbv) GY
def QaF:PC:=e1 0 QW (λ_=>by cbv) GZ
def QhU:=@ko1 QaF _ _ _ Tryz.func31 (by kernel_rfl)
def QgD:=rs1 prog Tryz.f52 2 rfl rfl
def QaG:PC:=e0 (cF pg0 Tryz.f52) (by cbv)
def QhV:=@ko1 QaG _ _ _ Tryz.func52 (by kernel_rfl)
def Xh:=rs1 prog Tryz.f53 2 rfl rfl
def WU:(Nat->PC)->List PC:=eL (cL pg0 Tryz.f53) (λ_=>by cbv)
def Wv:PC:=e1 5 WU (λ_=>by cbv) .skip
def Ww:PC:=e1 4 WU (λ_=>by cbv) .skip
def Wx:PC:=e1 3 WU (λ_=>by cbv) Ww
def Wy:PC:=e1 2 WU (λ_=>by cbv) Wx
def Wz:PC:=e1 1 WU (λ_=>by cbv) Wy
def QaH:PC:=e2 0 WU (λ_ _=>by cbv) Wv Wz
def QhW:=@ko1 QaH _ _ _ Tryz.func53 (by kernel_rfl)
def QhX:=rs1 prog Tryz.f54 4 rfl rfl
def Kj:(Nat->PC)->List PC:=eL (cL pg0 Tryz.f54) (λ_=>by cbv)
def V6:PC:=e1 2 Kj (λ_=>by cbv) .skip
def V7:PC:=e1 1 Kj (λ_=>by cbv) V6
def QbP:PC:=e1 0 Kj (λ_=>by cbv) V7
def Qjh:=@ko2 QbP _ _ _ Tryz.func54 (by kernel_rfl)
def QT:=rs2 prog Tryz.f55 2 3 rfl rfl
def Kk:(Nat->PC)->List PC:=eL (cL pg0 Tryz.f55) (λ_=>by cbv)
def QA:PC:=e1 2 Kk (λ_=>by cbv) .skip
def QB:PC:=e1 1 Kk (λ_=>by cbv) QA
def Kl:PC:=e1 0 Kk (λ_=>by cbv) QB
def Qji:=@ko1 Kl _ _ _ Tryz.func55 (by kernel_rfl)
def Qy:=rs2 prog Tryz.f56 6 7 rfl rfl
def YE:(Nat->PC)->List PC:=eL (cL pg0 Tryz.f56) (λ_=>by cbv)
def QD:PC:=e1 4 YE (λ_=>by cbv) .skip
def QE:PC:=e1 3 YE (λ_=>by cbv) QD
def QF:PC:=e1 2 YE (λ_=>by cbv) QE
def QG:PC:=e1 1 YE (λ_=>by cbv) QF
def Xi:PC:=e1 0 YE (λ_=>by cbv) QG
def Qj6:=@ko3 Xi _ _ _ Tryz.func56 (by kernel_rfl)
def Jk:=rs1 prog Tryz.f76 2 rfl rfl
def WV:(Nat->PC)->List PC:=eL (cL pg0 Tryz.f76) (λ_=>by cbv)
def Yq:PC:=e1 5 WV (λ_=>by cbv) .skip
def Yr:PC:=e1 4 WV (λ_=>by cbv) Yq
def Ys:PC:=e1 3 WV (λ_=>by cbv) .skip
def Yt:PC:=e1 2 WV (λ_=>by cbv) Ys
def Yu:PC:=e1 1 WV (λ_=>by cbv) Yt
def QaI:PC:=e2 0 WV (λ_ _=>by cbv) Yr Yu
def QhY:=@ko1 QaI _ _ _ Tryz.func76 (by kernel_rfl)
def QY:=rs1 prog Tryz.f77 2 rfl rfl
def Wr:(Nat->PC)->List PC:=eL (cL pg0 Tryz.f77) (λ_=>by cbv)
def QN:PC:=e1 6 Wr (λ_=>by cbv) .skip
def QO:PC:=e1 5 Wr (λ_=>by cbv) .skip
def QP:PC:=e1 4 Wr (λ_=>by cbv) QO
def QQ:PC:=e2 3 Wr (λ_ _=>by cbv) QN QP
def QR:PC:=e1 2 Wr (λ_=>by cbv) QQ
def QS:PC:=e1 1 Wr (λ_=>by cbv) QR
def QaJ:PC:=e1 0 Wr (λ_=>by cbv) QS
def QhZ:=@ko1 QaJ _ _ _ Tryz.func77 (by kernel_rfl)
def Zm:=rs2 prog Tryz.f78 2 3 rfl rfl
def KI:(Nat->PC)->List PC:=eL (cL pg0 Tryz.f78) (λ_=>by cbv)
def XH:PC:=e1 2 KI (λ_=>by cbv) .skip
def XI:PC:=e1 1 KI (λ_=>by cbv) XH
def QcX:PC:=e1 0 KI (λ_=>by cbv) XI
def Qj7:=@ko1 QcX _ _ _ Tryz.func78 (by kernel_rfl)
def XJ:=rs1 prog Tryz.f79 2 rfl rfl
def Km:(Nat->PC)->List PC:=eL (cL pg0 Tryz.f79) (λ_=>by cbv)
def WM:PC:=e1 2 Km (λ_=>by cbv) .skip
def WN:PC:=e1 1 Km (λ_=>by cbv) WM
def QbQ:PC:=e1 0 Km (λ_=>by cbv) WN
def Qjj:=@ko1 QbQ _ _ _ Tryz.func79 (by kernel_rfl)
def V8:=Qut prog Tryz.f80 true 2 2 24 3 rfl rfl (by kernel_rfl)
def QX:(Nat->PC)->List PC:=eL (cL pg0 Tryz.f80) (λ_=>by cbv)
def ZW:PC:=e1 9 QX (λ_=>by cbv) .skip
def G0:PC:=e1 8 QX (λ_=>by cbv) .skip
def ZX:PC:=e1 7 QX (λ_=>by cbv) G0
def WA:PC:=e1 6 QX (λ_=>by cbv) ZX
def WB:PC:=e2 5 QX (λ_ _=>by cbv) ZW WA
def ZY:PC:=e1 4 QX (λ_=>by cbv) .skip
def G3:PC:=e1 3 QX (λ_=>by cbv) ZY
def ZZ:PC:=e1 2 QX (λ_=>by cbv) G3
def G4:PC:=e2 1 QX (λ_ _=>by cbv) WB ZZ
def QaK:PC:=e1 0 QX (λ_=>by cbv) G4
def Qh0:=@ko1 QaK _ _ _ Tryz.func80 (by kernel_rfl)
def KJ:=rs1 prog Tryz.f81 6 rfl rfl
def GI:PC:=e0 (cF pg0 Tryz.f81) (by cbv)
def QlA:=@ko3 GI _ _ _ Tryz.func81 (by kernel_rfl)
def Qh1:=Qvk prog Tryz.f82 true 2 2 24 rfl rfl (by kernel_rfl)
def QbR:PC:=e0 (cF pg0 Tryz.f82) (by cbv)
def Qjk:=@ko1 QbR _ _ _ Tryz.func82 (by kernel_rfl)
def QcY:=rs1 prog Tryz.f116 4 rfl rfl
def GJ:(Nat->PC)->List PC:=eL (cL pg0 Tryz.f116) (λ_=>by cbv)
def QbS:PC:=e1 2 GJ (λ_=>by cbv) .skip
def Kn:PC:=e1 1 GJ (λ_=>by cbv) QbS
def QdI:PC:=e1 0 GJ (λ_=>by cbv) Kn
def QlB:=@ko2 QdI _ _ _ Tryz.func116 (by kernel_rfl)
def JJ:=rs1 prog Tryz.f117 2 rfl rfl
def QbT:PC:=e0 (cF pg0 Tryz.f117) (by cbv)
def Qjl:=@ko1 QbT _ _ _ Tryz.func117 (by kernel_rfl)
def Y2:=rs1 prog Tryz.f118 2 rfl rfl
def QbU:PC:=e0 (cF pg0 Tryz.f118) (by cbv)
def Qjm:=@ko1 QbU _ _ _ Tryz.func118 (by kernel_rfl)
def Y3:=rs1 prog Tryz.f119 2 rfl rfl
def W5:(Nat->PC)->List PC:=eL (cL pg0 Tryz.f119) (λ_=>by cbv)
def Xj:PC:=e1 5 W5 (λ_=>by cbv) .skip
def Xl:PC:=e1 4 W5 (λ_=>by cbv) Xj
def Xm:PC:=e1 3 W5 (λ_=>by cbv) Xl
def Xn:PC:=e1 2 W5 (λ_=>by cbv) Xm
def Xo:PC:=e1 1 W5 (λ_=>by cbv) Xn
def QbV:PC:=e1 0 W5 (λ_=>by cbv) Xo
def Qjn:=@ko1 QbV _ _ _ Tryz.func119 (by kernel_rfl)
def Xp:=Qut prog Tryz.f120 true 11 2 58 3 rfl rfl (by kernel_rfl)
def JK:(Nat->PC)->List PC:=eL (cL pg0 Tryz.f120) (λ_=>by cbv)
def WC:PC:=e1 2 JK (λ_=>by cbv) .skip
def WD:PC:=e1 1 JK (λ_=>by cbv) WC
def QaL:PC:=e1 0 JK (λ_=>by cbv) WD
def Qh2:=@ko1 QaL _ _ _ Tryz.func120 (by kernel_rfl)
def Xq:=Qut prog Tryz.f255 true 7 2 56 3 rfl rfl (by kernel_rfl)
def XK:(Nat->PC)->List PC:=eL (cL pg0 Tryz.f255) (λ_=>by cbv)
def WE:PC:=e1 4 XK (λ_=>by cbv) .skip
def WF:PC:=e1 3 XK (λ_=>by cbv) WE
def WG:PC:=e1 2 XK (λ_=>by cbv) .skip
def WH:PC:=e2 1 XK (λ_ _=>by cbv) WF WG
def QaM:PC:=e1 0 XK (λ_=>by cbv) WH
def Qh3:=@ko1 QaM _ _ _ Tryz.func255 (by kernel_rfl)
end Go.Proofs.YtgepgbbjfhggfaaGreatDoor.code
