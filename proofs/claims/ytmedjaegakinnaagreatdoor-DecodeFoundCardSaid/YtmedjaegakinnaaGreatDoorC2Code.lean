/- The code of the functions that are reached, resolved. -/
import Derived.Test.YtmedjaegakinnaaGreatDoorProg
import Derived.KernelRfl
import Derived.Test.YtmedjaegakinnaaGreatDoorC0Code
set_option linter.unusedVariables false
set_option maxRecDepth 100000
set_option maxHeartbeats 4000000
set_option linter.defProp false
noncomputable section
namespace Go.Proofs.YtmedjaegakinnaaGreatDoor.code
open Go.Ab Tryz
variable (H0 H:Qa) (k:Value->Qa->Prop) (A:Env)
def GB:=Qvm Pg f10 true 2 2 26 3 rfl rfl (by kernel_rfl)
def Q0:(Nat->PC)->List PC:=eL (cL pg0 f10) (λ_=>by cbv)
def Qoc:PC:=e1 16 Q0 (λ_=>by cbv) .skip
def Qod:PC:=e1 15 Q0 (λ_=>by cbv) Qoc
def Qoe:PC:=e1 14 Q0 (λ_=>by cbv) Qod
def Qfz:PC:=e1 13 Q0 (λ_=>by cbv) .skip
def V7:PC:=e1 12 Q0 (λ_=>by cbv) Qfz
def KA:PC:=e1 11 Q0 (λ_=>by cbv) V7
def KB:PC:=e1 10 Q0 (λ_=>by cbv) KA
def QfA:PC:=e1 9 Q0 (λ_=>by cbv) .skip
def QfB:PC:=e1 8 Q0 (λ_=>by cbv) QfA
def QdO:PC:=e1 7 Q0 (λ_=>by cbv) QfB
def Vh:PC:=e1 6 Q0 (λ_=>by cbv) QdO
def Jw:PC:=e2 5 Q0 (λ_ _=>by cbv) KB Vh
def QdP:PC:=e1 4 Q0 (λ_=>by cbv) .skip
def QdQ:PC:=e1 3 Q0 (λ_=>by cbv) QdP
def QdR:PC:=e2 2 Q0 (λ_ _=>by cbv) Jw QdQ
def QdS:PC:=e1 1 Q0 (λ_=>by cbv) QdR
def QiG:PC:=e2 0 Q0 (λ_ _=>by cbv) Qoe QdS
def Qrs:=@ko1 QiG _ _ _ func10 (by kernel_rfl)
noncomputable abbrev Yo:Func:=f22
def XZ:=rs1 Pg Yo 2 rfl rfl
def Wn:(Nat->PC)->List PC:=eL (cL pg0 Yo) (λ_=>by cbv)
def Yd:PC:=e1 13 Wn (λ_=>by cbv) .skip
def Ye:PC:=e1 12 Wn (λ_=>by cbv) Yd
def Yf:PC:=e1 11 Wn (λ_=>by cbv) Ye
def V8:PC:=e1 10 Wn (λ_=>by cbv) Yf
def QfC:PC:=e1 9 Wn (λ_=>by cbv) .skip
def QfD:PC:=e1 8 Wn (λ_=>by cbv) QfC
def QfE:PC:=e1 7 Wn (λ_=>by cbv) QfD
def QfF:PC:=e1 6 Wn (λ_=>by cbv) QfE
def V9:PC:=e2 5 Wn (λ_ _=>by cbv) V8 QfF
def QdT:PC:=e1 4 Wn (λ_=>by cbv) .skip
def QdU:PC:=e1 3 Wn (λ_=>by cbv) QdT
def Vi:PC:=e2 2 Wn (λ_ _=>by cbv) V9 QdU
def QdV:PC:=e1 1 Wn (λ_=>by cbv) Vi
def QiH:PC:=e1 0 Wn (λ_=>by cbv) QdV
def Qrt:=@ko1 QiH _ _ _ func22 (by kernel_rfl)
def Xp:=rs2 Pg f23 2 3 rfl rfl
def QeH:PC:=e0 (cF pg0 f23) (by cbv)
def Qto:=@ko1 QeH _ _ _ func23 (by kernel_rfl)
def WW:=rs1 Pg f24 2 rfl rfl
def YD:PC:=e0 (cF pg0 f24) (by cbv)
def GV:=@ko1 YD _ _ _ func24 (by kernel_rfl)
def ZN:=Qvm Pg f25 true 11 2 50 3 rfl rfl (by kernel_rfl)
def Jx:(Nat->PC)->List PC:=eL (cL pg0 f25) (λ_=>by cbv)
def Xf:PC:=e1 3 Jx (λ_=>by cbv) .skip
def Xg:PC:=e1 2 Jx (λ_=>by cbv) Xf
def Xh:PC:=e1 1 Jx (λ_=>by cbv) Xg
def QdW:PC:=e1 0 Jx (λ_=>by cbv) Xh
def QmB:=@ko1 QdW _ _ _ func25 (by kernel_rfl)
def WM:=rs2 Pg f26 6 7 rfl rfl
def GC:(Nat->PC)->List PC:=eL (cL pg0 f26) (λ_=>by cbv)
def QW:PC:=e1 3 GC (λ_=>by cbv) .skip
def QX:PC:=e1 2 GC (λ_=>by cbv) QW
def QY:PC:=e1 1 GC (λ_=>by cbv) .skip
def YO:PC:=e2 0 GC (λ_ _=>by cbv) QX QY
def Qg2:=@ko3 YO _ _ _ func26 (by kernel_rfl)
def XN:=rs1 Pg f27 2 rfl rfl
def G0:PC:=e0 (cF pg0 f27) (by cbv)
def Qf5:=@ko1 G0 _ _ _ func27 (by kernel_rfl)
def X3:=rs1 Pg f28 2 rfl rfl
def VN:PC:=e0 (cF pg0 f28) (by cbv)
def Qg3:=@ko1 VN _ _ _ func28 (by kernel_rfl)
def Ws:=rs1 Pg f29 2 rfl rfl
def Je:PC:=e0 (cF pg0 f29) (by cbv)
def Qg4:=@ko1 Je _ _ _ func29 (by kernel_rfl)
def QbC:=rs1 Pg f41 2 rfl rfl
def Qc6:PC:=e0 (cF pg0 f41) (by cbv)
def QiI:=@ko1 Qc6 _ _ _ func41 (by kernel_rfl)
def ZO:=rs1 Pg f42 2 rfl rfl
def XT:(Nat->PC)->List PC:=eL (cL pg0 f42) (λ_=>by cbv)
def Y9:PC:=e1 5 XT (λ_=>by cbv) .skip
def Za:PC:=e1 4 XT (λ_=>by cbv) .skip
def Zb:PC:=e1 3 XT (λ_=>by cbv) Za
def Zc:PC:=e1 2 XT (λ_=>by cbv) Zb
def Zd:PC:=e1 1 XT (λ_=>by cbv) Zc
def QdX:PC:=e2 0 XT (λ_ _=>by cbv) Y9 Zd
def QmC:=@ko1 QdX _ _ _ func42 (by kernel_rfl)
def QeI:=rs2 Pg f43 2 3 rfl rfl
def W7:(Nat->PC)->List PC:=eL (cL pg0 f43) (λ_=>by cbv)
def Kf:PC:=e1 11 W7 (λ_=>by cbv) .skip
def Kg:PC:=e1 10 W7 (λ_=>by cbv) Kf
def Kh:PC:=e1 9 W7 (λ_=>by cbv) .skip
def Ki:PC:=e1 8 W7 (λ_=>by cbv) Kh
def Kj:PC:=e1 7 W7 (λ_=>by cbv) Ki
def Kk:PC:=e1 6 W7 (λ_=>by cbv) Kj
def Kl:PC:=e1 5 W7 (λ_=>by cbv) Kk
def Km:PC:=e1 4 W7 (λ_=>by cbv) Kl
def Kn:PC:=e1 3 W7 (λ_=>by cbv) Km
def Jf:PC:=e1 2 W7 (λ_=>by cbv) Kn
def Jg:PC:=e2 1 W7 (λ_ _=>by cbv) Kg Jf
def QnE:PC:=e1 0 W7 (λ_=>by cbv) Jg
def Qvw:=@ko1 QnE _ _ _ func43 (by kernel_rfl)
def Jy:=rs1 Pg f44 2 rfl rfl
def QfG:PC:=e0 (cF pg0 f44) (by cbv)
def Qof:=@ko1 QfG _ _ _ func44 (by kernel_rfl)
def QiJ:=Qvm Pg f45 true 7 2 48 3 rfl rfl (by kernel_rfl)
def GD:(Nat->PC)->List PC:=eL (cL pg0 f45) (λ_=>by cbv)
def GE:PC:=e1 4 GD (λ_=>by cbv) .skip
def GF:PC:=e1 3 GD (λ_=>by cbv) .skip
def GG:PC:=e2 2 GD (λ_ _=>by cbv) GE GF
def GH:PC:=e1 1 GD (λ_=>by cbv) GG
def Qlb:PC:=e1 0 GD (λ_=>by cbv) GH
def Qtp:=@ko1 Qlb _ _ _ func45 (by kernel_rfl)
def QbD:=rs1 Pg f46 6 rfl rfl
def GI:PC:=e0 (cF pg0 f46) (by cbv)
def Qlc:=@ko3 GI _ _ _ func46 (by kernel_rfl)
def Qh0:=rs0 Pg f47 rfl
def QbE:PC:=e0 (cF pg0 f47) (by cbv)
def QjI:=@ko1 QbE _ _ _ func47 (by kernel_rfl)
def Jh:=rs1 Pg f48 2 rfl rfl
def JU:PC:=e0 (cF pg0 f48) (by cbv)
def Qh1:=@ko1 JU _ _ _ func48 (by kernel_rfl)
def Qru:=rs1 Pg f67 2 rfl rfl
def Qld:PC:=e0 (cF pg0 f67) (by cbv)
def Qtq:=@ko1 Qld _ _ _ func67 (by kernel_rfl)
noncomputable abbrev Y2:Func:=f68
def Qi:=rs1 Pg Y2 2 rfl rfl
def Ze:(Nat->PC)->List PC:=eL (cL pg0 Y2) (λ_=>by cbv)
def QbF:PC:=e1 6 Ze (λ_=>by cbv) .skip
def QbG:PC:=e1 5 Ze (λ_=>by cbv) QbF
def QbH:PC:=e1 4 Ze (λ_=>by cbv) QbG
def QbI:PC:=e1 3 Ze (λ_=>by cbv) QbH
def QbJ:PC:=e1 2 Ze (λ_=>by cbv) QbI
def QbK:PC:=e1 1 Ze (λ_=>by cbv) QbJ
def Qle:PC:=e1 0 Ze (λ_=>by cbv) QbK
def Qtr:=@ko1 Qle _ _ _ func68 (by kernel_rfl)
def QeJ:=rs1 Pg f69 2 rfl rfl
def QcP:(Nat->PC)->List PC:=eL (cL pg0 f69) (λ_=>by cbv)
def Vv:PC:=e1 3 QcP (λ_=>by cbv) .skip
def Vw:PC:=e1 2 QcP (λ_=>by cbv) Vv
def Vy:PC:=e1 1 QcP (λ_=>by cbv) Vw
def QnF:PC:=e1 0 QcP (λ_=>by cbv) Vy
def Qvx:=@ko1 QnF _ _ _ func69 (by kernel_rfl)
def QfH:=rs2 Pg f86 2 3 rfl rfl
def Qg5:PC:=e0 (cF pg0 f86) (by cbv)
def QpV:=@ko1 Qg5 _ _ _ func86 (by kernel_rfl)
def QiK:=rs1 Pg f87 2 rfl rfl
def Qlf:PC:=e0 (cF pg0 f87) (by cbv)
def Qts:=@ko1 Qlf _ _ _ func87 (by kernel_rfl)
def Qlg:=rs1 Pg f88 2 rfl rfl
def QnG:PC:=e0 (cF pg0 f88) (by cbv)
def Qvy:=@ko1 QnG _ _ _ func88 (by kernel_rfl)
def Qg6:=rs1 Pg f89 2 rfl rfl
def QiL:PC:=e0 (cF pg0 f89) (by cbv)
def Qrv:=@ko1 QiL _ _ _ func89 (by kernel_rfl)
