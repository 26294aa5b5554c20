/- The code of the functions that are reached, resolved. -/
import Derived.Test.YtmedjaegakinnaaGreatDoorProg
import Derived.KernelRfl
import Derived.Test.YtmedjaegakinnaaGreatDoorC0Code
set_option linter.unusedVariables false
set_option maxRecDepth 100000
set_option maxHeartbeats 4000000
set_option linter.defProp false
noncomputable section
namespace Go.Proofs.YtmedjaegakinnaaGreatDoor.code
open Go.Ab Tryz
variable (H0 H:Qa) (k:Value->Qa->Prop) (A:Env)
def Qa0:=rs2 Pg f11 2 3 rfl rfl
def Qih:PC:=e0 (cF pg0 f11) (by cbv)
def Qra:=@ko1 Qih _ _ _ func11 (by kernel_rfl)
theorem Qfc:Rt Pg f20 H0 k A H=ldR true 2 (A 4) H λv=>Ret H0 k (.tuple #[v,A 5,A 6]) H:=Qtb (ty:=26) (by kernel_rfl) (by kernel_rfl) (by kernel_rfl)
def Qgw:PC:=e0 (cF pg0 f20) (by cbv)
def Qpw:=@ko2 Qgw _ _ _ func20 (by kernel_rfl)
def Qpx:=rs1 Pg f30 4 rfl rfl
def XP:(Nat->PC)->List PC:=eL (cL pg0 f30) (λ_=>by cbv)
def Qfd:PC:=e1 7 XP (λ_=>by cbv) .skip
def Qfe:PC:=e1 6 XP (λ_=>by cbv) Qfd
def VW:PC:=e1 5 XP (λ_=>by cbv) Qfe
def Qff:PC:=e1 4 XP (λ_=>by cbv) VW
def VX:PC:=e1 3 XP (λ_=>by cbv) Qff
def Qfg:PC:=e1 2 XP (λ_=>by cbv) VX
def Qfh:PC:=e1 1 XP (λ_=>by cbv) Qfg
def Qii:PC:=e1 0 XP (λ_=>by cbv) Qfh
def Qrb:=@ko2 Qii _ _ _ func30 (by kernel_rfl)
def Gj:=rs1 Pg f37 2 rfl rfl
def GZ:PC:=e0 (cF pg0 f37) (by cbv)
def Qf0:=@ko1 GZ _ _ _ func37 (by kernel_rfl)
def Yu:=rs1 Pg f38 2 rfl rfl
def KW:PC:=e0 (cF pg0 f38) (by cbv)
def Qdo:=@ko1 KW _ _ _ func38 (by kernel_rfl)
def Wl:=rs1 Pg f39 2 rfl rfl
def WB:(Nat->PC)->List PC:=eL (cL pg0 f39) (λ_=>by cbv)
def J4:PC:=e1 5 WB (λ_=>by cbv) .skip
def Yv:PC:=e1 4 WB (λ_=>by cbv) J4
def Yw:PC:=e1 3 WB (λ_=>by cbv) Yv
def J5:PC:=e1 2 WB (λ_=>by cbv) Yw
def J6:PC:=e1 1 WB (λ_=>by cbv) J5
def Gk:PC:=e1 0 WB (λ_=>by cbv) J6
def QeB:=@ko1 Gk _ _ _ func39 (by kernel_rfl)
noncomputable abbrev QV:Func:=f40
theorem Wy:Rt Pg f40 H0 k A H=ldR true 2 (A 2) H λv=>Ret H0 k (.tuple #[v,A 3,A 4]) H:=Qtb (ty:=26) (by kernel_rfl) (by kernel_rfl) (by kernel_rfl)
def QA:(Nat->PC)->List PC:=eL (cL pg0 QV) (λ_=>by cbv)
def WR:PC:=e1 10 QA (λ_=>by cbv) .skip
def ZI:PC:=e1 9 QA (λ_=>by cbv) .skip
def XJ:PC:=e1 8 QA (λ_=>by cbv) ZI
def Wt:PC:=e2 7 QA (λ_ _=>by cbv) WR XJ
def ZJ:PC:=e1 6 QA (λ_=>by cbv) .skip
def ZK:PC:=e1 5 QA (λ_=>by cbv) ZJ
def XK:PC:=e1 4 QA (λ_=>by cbv) ZK
def Wu:PC:=e2 3 QA (λ_ _=>by cbv) Wt XK
def XL:PC:=e1 2 QA (λ_=>by cbv) .skip
def WL:PC:=e2 1 QA (λ_ _=>by cbv) Wu XL
def JA:PC:=e1 0 QA (λ_=>by cbv) WL
def Qb0:=@ko1 JA _ _ _ func40 (by kernel_rfl)
def XX:=rs1 Pg f49 2 rfl rfl
def Gl:(Nat->PC)->List PC:=eL (cL pg0 f49) (λ_=>by cbv)
def Qae:PC:=e1 2 Gl (λ_=>by cbv) .skip
def JT:PC:=e1 1 Gl (λ_=>by cbv) Qae
def Qcg:PC:=e1 0 Gl (λ_=>by cbv) JT
def Qkn:=@ko1 Qcg _ _ _ func49 (by kernel_rfl)
def Qgx:=rs2 Pg f50 4 5 rfl rfl
def Qij:PC:=e0 (cF pg0 f50) (by cbv)
def Qrc:=@ko2 Qij _ _ _ func50 (by kernel_rfl)
def QB:=rs1 Pg f57 2 rfl rfl
def Q9:(Nat->PC)->List PC:=eL (cL pg0 f57) (λ_=>by cbv)
def X6:PC:=e1 7 Q9 (λ_=>by cbv) .skip
def JB:PC:=e1 6 Q9 (λ_=>by cbv) X6
def X7:PC:=e1 5 Q9 (λ_=>by cbv) JB
def JC:PC:=e1 4 Q9 (λ_=>by cbv) .skip
def JD:PC:=e1 3 Q9 (λ_=>by cbv) JC
def X8:PC:=e1 2 Q9 (λ_=>by cbv) JD
def JE:PC:=e2 1 Q9 (λ_ _=>by cbv) X7 X8
def KX:PC:=e1 0 Q9 (λ_=>by cbv) JE
def Qdp:=@ko1 KX _ _ _ func57 (by kernel_rfl)
def Xo:=rs1 Pg f58 2 rfl rfl
def Qk:(Nat->PC)->List PC:=eL (cL pg0 f58) (λ_=>by cbv)
def JF:PC:=e1 17 Qk (λ_=>by cbv) .skip
def JG:PC:=e1 16 Qk (λ_=>by cbv) JF
def JH:PC:=e1 15 Qk (λ_=>by cbv) JG
def X9:PC:=e1 14 Qk (λ_=>by cbv) JH
def JI:PC:=e1 13 Qk (λ_=>by cbv) .skip
def JJ:PC:=e1 12 Qk (λ_=>by cbv) JI
def JK:PC:=e1 11 Qk (λ_=>by cbv) JJ
def W9:PC:=e2 10 Qk (λ_ _=>by cbv) X9 JK
def Qb1:PC:=e1 9 Qk (λ_=>by cbv) .skip
def Qa1:PC:=e1 8 Qk (λ_=>by cbv) Qb1
def Qa2:PC:=e1 7 Qk (λ_=>by cbv) Qa1
def Qa3:PC:=e1 6 Qk (λ_=>by cbv) Qa2
def Qa4:PC:=e1 5 Qk (λ_=>by cbv) .skip
def Qa5:PC:=e1 4 Qk (λ_=>by cbv) Qa4
def Qa6:PC:=e1 3 Qk (λ_=>by cbv) Qa5
def ZX:PC:=e2 2 Qk (λ_ _=>by cbv) Qa3 Qa6
def ZY:PC:=e1 1 Qk (λ_=>by cbv) ZX
def KY:PC:=e2 0 Qk (λ_ _=>by cbv) W9 ZY
def Qdq:=@ko1 KY _ _ _ func58 (by kernel_rfl)
def Yx:=rs1 Pg f60 4 rfl rfl
def KZ:PC:=e0 (cF pg0 f60) (by cbv)
def Qdr:=@ko2 KZ _ _ _ func60 (by kernel_rfl)
def Qjh:=rs1 Pg f61 2 rfl rfl
def Q5:(Nat->PC)->List PC:=eL (cL pg0 f61) (λ_=>by cbv)
def Qaf:PC:=e1 11 Q5 (λ_=>by cbv) .skip
def Qag:PC:=e1 10 Q5 (λ_=>by cbv) Qaf
def Qah:PC:=e1 9 Q5 (λ_=>by cbv) .skip
def Qai:PC:=e2 8 Q5 (λ_ _=>by cbv) Qag Qah
def Qaj:PC:=e1 7 Q5 (λ_=>by cbv) Qai
def Qak:PC:=e1 6 Q5 (λ_=>by cbv) Qaj
def Qal:PC:=e1 5 Q5 (λ_=>by cbv) Qak
def Qam:PC:=e1 4 Q5 (λ_=>by cbv) Qal
def Qan:PC:=e1 3 Q5 (λ_=>by cbv) Qam
def VG:PC:=e1 2 Q5 (λ_=>by cbv) Qan
def VH:PC:=e1 1 Q5 (λ_=>by cbv) VG
def Qch:PC:=e1 0 Q5 (λ_=>by cbv) VH
def Qko:=@ko1 Qch _ _ _ func61 (by kernel_rfl)
def Qkp:=rs1 Pg f62 2 rfl rfl
def Wm:(Nat->PC)->List PC:=eL (cL pg0 f62) (λ_=>by cbv)
def Qa7:PC:=e1 10 Wm (λ_=>by cbv) .skip
def Qa8:PC:=e1 9 Wm (λ_=>by cbv) Qa7
def Qa9:PC:=e1 8 Wm (λ_=>by cbv) Qa8
def Qba:PC:=e1 7 Wm (λ_=>by cbv) Qa9
def Qbb:PC:=e1 6 Wm (λ_=>by cbv) Qba
def Qbc:PC:=e1 5 Wm (λ_=>by cbv) Qbb
def Qbd:PC:=e1 4 Wm (λ_=>by cbv) Qbc
def Qbe:PC:=e1 3 Wm (λ_=>by cbv) Qbd
def Qbf:PC:=e1 2 Wm (λ_=>by cbv) Qbe
def Qao:PC:=e1 1 Wm (λ_=>by cbv) Qbf
def Qds:PC:=e1 0 Wm (λ_=>by cbv) Qao
def Qmj:=@ko1 Qds _ _ _ func62 (by kernel_rfl)
def Wz:=Qvm Pg f63 true 10 8 85 9 rfl rfl (by kernel_rfl)
def WA:(Nat->PC)->List PC:=eL (cL pg0 f63) (λ_=>by cbv)
def Zl:PC:=e1 11 WA (λ_=>by cbv) .skip
def VY:PC:=e1 10 WA (λ_=>by cbv) .skip
def Zm:PC:=e2 9 WA (λ_ _=>by cbv) Zl VY
def Qfi:PC:=e1 8 WA (λ_=>by cbv) .skip
def VZ:PC:=e1 7 WA (λ_=>by cbv) Qfi
def Qfj:PC:=e1 6 WA (λ_=>by cbv) .skip
def Qfk:PC:=e1 5 WA (λ_=>by cbv) Qfj
def V0:PC:=e2 4 WA (λ_ _=>by cbv) VZ Qfk
def V1:PC:=e2 3 WA (λ_ _=>by cbv) Zm V0
def Vc:PC:=e1 2 WA (λ_=>by cbv) V1
def Ve:PC:=e1 1 WA (λ_=>by cbv) Vc
def Qik:PC:=e1 0 WA (λ_=>by cbv) Ve
def Qrd:=@ko4 Qik _ _ _ func63 (by kernel_rfl)
def Qgy:=rs1 Pg f64 2 rfl rfl
def Yy:(Nat->PC)->List PC:=eL (cL pg0 f64) (λ_=>by cbv)
def V2:PC:=e1 6 Yy (λ_=>by cbv) .skip
def Qfl:PC:=e1 5 Yy (λ_=>by cbv) .skip
def Qfm:PC:=e1 4 Yy (λ_=>by cbv) Qfl
def Qfn:PC:=e1 3 Yy (λ_=>by cbv) Qfm
def Qfo:PC:=e1 2 Yy (λ_=>by cbv) Qfn
def Qfp:PC:=e1 1 Yy (λ_=>by cbv) Qfo
def Qil:PC:=e2 0 Yy (λ_ _=>by cbv) V2 Qfp
def Qre:=@ko1 Qil _ _ _ func64 (by kernel_rfl)
def Zs:=rs2 Pg f65 8 9 rfl rfl
def Y5:(Nat->PC)->List PC:=eL (cL pg0 f65) (λ_=>by cbv)
def Qgz:PC:=e1 6 Y5 (λ_=>by cbv) .skip
def QgA:PC:=e1 5 Y5 (λ_=>by cbv) .skip
def QgB:PC:=e1 4 Y5 (λ_=>by cbv) QgA
def QgC:PC:=e2 3 Y5 (λ_ _=>by cbv) Qgz QgB
def QgD:PC:=e1 2 Y5 (λ_=>by cbv) QgC
def QgE:PC:=e1 1 Y5 (λ_=>by cbv) QgD
def Qkq:PC:=e1 0 Y5 (λ_=>by cbv) QgE
def Qte:=@ko4 Qkq _ _ _ func65 (by kernel_rfl)
def QM:=Qvl Pg f66 true 11 10 50 rfl rfl (by kernel_rfl)
def QC:(Nat->PC)->List PC:=eL (cL pg0 f66) (λ_=>by cbv)
def ZZ:PC:=e1 10 QC (λ_=>by cbv) .skip
def Z0:PC:=e1 9 QC (λ_=>by cbv) .skip
def Z1:PC:=e1 8 QC (λ_=>by cbv) .skip
def Z2:PC:=e1 7 QC (λ_=>by cbv) .skip
def Z3:PC:=e1 6 QC (λ_=>by cbv) Z2
def Z4:PC:=e1 5 QC (λ_=>by cbv) Z3
def Z5:PC:=e1 4 QC (λ_=>by cbv) Z4
def Z6:PC:=e1 3 QC (λ_=>by cbv) Z5
def Z7:PC:=e2 2 QC (λ_ _=>by cbv) Z1 Z6
def ZL:PC:=e1 1 QC (λ_=>by cbv) Z7
def J7:PC:=e3 0 QC (λ_ _ _=>by cbv) ZZ Z0 ZL
def QcZ:=@ko5 J7 _ _ _ func66 (by kernel_rfl)
def XY:=rs1 Pg f70 4 rfl rfl
def Yz:(Nat->PC)->List PC:=eL (cL pg0 f70) (λ_=>by cbv)
def V3:PC:=e1 6 Yz (λ_=>by cbv) .skip
def Qfq:PC:=e1 5 Yz (λ_=>by cbv) .skip
def Qfr:PC:=e2 4 Yz (λ_ _=>by cbv) V3 Qfq
def Qfs:PC:=e1 3 Yz (λ_=>by cbv) Qfr
def V4:PC:=e1 2 Yz (λ_=>by cbv) Qfs
def V5:PC:=e1 1 Yz (λ_=>by cbv) V4
def Qim:PC:=e1 0 Yz (λ_=>by cbv) V5
def Qrf:=@ko2 Qim _ _ _ func70 (by kernel_rfl)
def Qn3:=rs1 Pg f71 4 rfl rfl
def QgF:PC:=e0 (cF pg0 f71) (by cbv)
def Qpy:=@ko2 QgF _ _ _ func71 (by kernel_rfl)
def QN:=rs1 Pg f75 2 rfl rfl
def YA:(Nat->PC)->List PC:=eL (cL pg0 f75) (λ_=>by cbv)
def Qq:PC:=e1 2 YA (λ_=>by cbv) .skip
def Qr:PC:=e1 1 YA (λ_=>by cbv) Qq
def YB:PC:=e1 0 YA (λ_=>by cbv) Qr
def Qc0:=@ko1 YB _ _ _ func75 (by kernel_rfl)
theorem XM:Rt Pg f76 H0 k A H=ldR true 8 (A 2) H λv=>Ret H0 k (.tuple #[v,A 3,A 4]) H:=Qtb (ty:=134) (by kernel_rfl) (by kernel_rfl) (by kernel_rfl)
def Yk:(Nat->PC)->List PC:=eL (cL pg0 f76) (λ_=>by cbv)
def Qin:PC:=e1 8 Yk (λ_=>by cbv) .skip
def Vs:PC:=e1 7 Yk (λ_=>by cbv) Qin
def Qio:PC:=e1 6 Yk (λ_=>by cbv) Vs
def Qip:PC:=e1 5 Yk (λ_=>by cbv) .skip
def Qc1:PC:=e1 4 Yk (λ_=>by cbv) Qip
def Qc2:PC:=e1 3 Yk (λ_=>by cbv) .skip
def Qiq:PC:=e1 2 Yk (λ_=>by cbv) Qc2
def Qir:PC:=e2 1 Yk (λ_ _=>by cbv) Qc1 Qiq
def Qnv:PC:=e2 0 Yk (λ_ _=>by cbv) Qio Qir
def Qvo:=@ko1 Qnv _ _ _ func76 (by kernel_rfl)
def WS:=rs1 Pg f77 2 rfl rfl
def WV:(Nat->PC)->List PC:=eL (cL pg0 f77) (λ_=>by cbv)
def XC:PC:=e1 3 WV (λ_=>by cbv) .skip
def Zn:PC:=e1 2 WV (λ_=>by cbv) .skip
def Zo:PC:=e2 1 WV (λ_ _=>by cbv) XC Zn
def Z8:PC:=e1 0 WV (λ_=>by cbv) Zo
def Qbg:=@ko1 Z8 _ _ _ func77 (by kernel_rfl)
def Qn4:=rs3 Pg f79 2 3 4 rfl rfl
def QgG:PC:=e0 (cF pg0 f79) (by cbv)
def Qpz:=@ko1 QgG _ _ _ func79 (by kernel_rfl)
def Qbh:=Qvm Pg f80 true 7 8 48 9 rfl rfl (by kernel_rfl)
def Yl:(Nat->PC)->List PC:=eL (cL pg0 f80) (λ_=>by cbv)
def Qap:PC:=e1 4 Yl (λ_=>by cbv) .skip
def Qaq:PC:=e1 3 Yl (λ_=>by cbv) Qap
def Qar:PC:=e1 2 Yl (λ_=>by cbv) .skip
def Qas:PC:=e1 1 Yl (λ_=>by cbv) .skip
def Qci:PC:=e3 0 Yl (λ_ _ _=>by cbv) Qaq Qar Qas
def Qkr:=@ko4 Qci _ _ _ func80 (by kernel_rfl)
def Qft:=rs1 Pg f81 4 rfl rfl
def QgH:PC:=e0 (cF pg0 f81) (by cbv)
def QpA:=@ko2 QgH _ _ _ func81 (by kernel_rfl)
def Qn5:=rs1 Pg f82 2 rfl rfl
def QgI:PC:=e0 (cF pg0 f82) (by cbv)
def QpB:=@ko1 QgI _ _ _ func82 (by kernel_rfl)
def QgJ:=rs1 Pg f83 4 rfl rfl
def Qis:PC:=e0 (cF pg0 f83) (by cbv)
def Qrg:=@ko2 Qis _ _ _ func83 (by kernel_rfl)
def Qbi:=Qvl Pg f84 true 11 6 50 rfl rfl (by kernel_rfl)
def JL:PC:=e0 (cF pg0 f84) (by cbv)
def Qb2:=@ko3 JL _ _ _ func84 (by kernel_rfl)
def Qmk:=Qvl Pg f85 true 11 2 50 rfl rfl (by kernel_rfl)
def Qfu:PC:=e0 (cF pg0 f85) (by cbv)
def Qn6:=@ko1 Qfu _ _ _ func85 (by kernel_rfl)
def Qn7:=rs1 Pg f91 0 rfl rfl
def QgK:PC:=e0 (cF pg0 f91) (by cbv)
def QpC:=@ko0 QgK _ _ _ func91 (by kernel_rfl)
def Qks:=rs0 Pg f92 rfl
def Qdt:PC:=e0 (cF pg0 f92) (by cbv)
def Qml:=@ko3 Qdt _ _ _ func92 (by kernel_rfl)
def Qfv:=rs1 Pg f93 4 rfl rfl
def YM:(Nat->PC)->List PC:=eL (cL pg0 f93) (λ_=>by cbv)
def Qdu:PC:=e1 5 YM (λ_=>by cbv) .skip
def Js:PC:=e1 4 YM (λ_=>by cbv) Qdu
def Qdv:PC:=e1 3 YM (λ_=>by cbv) .skip
def Qdw:PC:=e1 2 YM (λ_=>by cbv) Qdv
def Vf:PC:=e2 1 YM (λ_ _=>by cbv) Js Qdw
def QgL:PC:=e1 0 YM (λ_=>by cbv) Vf
def QpD:=@ko2 QgL _ _ _ func93 (by kernel_rfl)
def Gm:=rs1 Pg f94 4 rfl rfl
def Vg:(Nat->PC)->List PC:=eL (cL pg0 f94) (λ_=>by cbv)
def KL:PC:=e1 2 Vg (λ_=>by cbv) .skip
def KM:PC:=e1 1 Vg (λ_=>by cbv) KL
def Qdx:PC:=e1 0 Vg (λ_=>by cbv) KM
def Qmm:=@ko2 Qdx _ _ _ func94 (by kernel_rfl)
def QhT:=rs1 Pg f95 8 rfl rfl
def Qbj:PC:=e0 (cF pg0 f95) (by cbv)
def Qji:=@ko4 Qbj _ _ _ func95 (by kernel_rfl)
def QpE:=rs1 Pg f102 2 rfl rfl
def Qit:PC:=e0 (cF pg0 f102) (by cbv)
def Qrh:=@ko1 Qit _ _ _ func102 (by kernel_rfl)
def K1:(Nat->PC)->List PC:=eL (cL pg0 f103) (λ_=>by cbv)
def Qiu:PC:=e1 5 K1 (λ_=>by cbv) .skip
def Qiv:PC:=e1 4 K1 (λ_=>by cbv) Qiu
def Qiw:PC:=e1 3 K1 (λ_=>by cbv) Qiv
def Qix:PC:=e1 2 K1 (λ_=>by cbv) Qiw
def Qiy:PC:=e1 1 K1 (λ_=>by cbv) Qix
def Qnw:PC:=e1 0 K1 (λ_=>by cbv) Qiy
def Qvp:=@ko1 Qnw _ _ _ func103 (by kernel_rfl)
def Qkt:=rs1 Pg f104 2 rfl rfl
def Qdy:PC:=e0 (cF pg0 f104) (by cbv)
def Qmn:=@ko1 Qdy _ _ _ func104 (by kernel_rfl)
def Qku:=Qvl Pg f106 true 1 4 153 rfl rfl (by kernel_rfl)
def Qdz:PC:=e0 (cF pg0 f106) (by cbv)
def Qmo:=@ko2 Qdz _ _ _ func106 (by kernel_rfl)
def Qat:=rs1 Pg f107 4 rfl rfl
def Qbk:PC:=e0 (cF pg0 f107) (by cbv)
def Qjj:=@ko3 Qbk _ _ _ func107 (by kernel_rfl)
def Qf1:=rs1 Pg f108 4 rfl rfl
def VI:PC:=e0 (cF pg0 f108) (by cbv)
def QgM:=@ko2 VI _ _ _ func108 (by kernel_rfl)
def Qkv:=rs1 Pg f109 2 rfl rfl
def QdA:PC:=e0 (cF pg0 f109) (by cbv)
def Qmp:=@ko1 QdA _ _ _ func109 (by kernel_rfl)
def Qcj:=rs1 Pg f110 2 rfl rfl
def QdB:PC:=e0 (cF pg0 f110) (by cbv)
def Qmq:=@ko1 QdB _ _ _ func110 (by kernel_rfl)
def Qkw:=rs1 Pg f111 2 rfl rfl
def QdC:PC:=e0 (cF pg0 f111) (by cbv)
def Qmr:=@ko1 QdC _ _ _ func111 (by kernel_rfl)
def Qkx:=rs1 Pg f112 2 rfl rfl
def QdD:PC:=e0 (cF pg0 f112) (by cbv)
def Qms:=@ko1 QdD _ _ _ func112 (by kernel_rfl)
def Qky:=rs1 Pg f113 2 rfl rfl
def QdE:PC:=e0 (cF pg0 f113) (by cbv)
def Qmt:=@ko1 QdE _ _ _ func113 (by kernel_rfl)
def Qkz:=rs1 Pg f114 2 rfl rfl
def QdF:PC:=e0 (cF pg0 f114) (by cbv)
def Qmu:=@ko1 QdF _ _ _ func114 (by kernel_rfl)
def QkA:=rs1 Pg f115 2 rfl rfl
def QdG:PC:=e0 (cF pg0 f115) (by cbv)
def Qmv:=@ko1 QdG _ _ _ func115 (by kernel_rfl)
def Gn:=rs1 Pg f116 2 rfl rfl
def QdH:PC:=e0 (cF pg0 f116) (by cbv)
def Qmw:=@ko1 QdH _ _ _ func116 (by kernel_rfl)
def Qf2:=rs1 Pg f117 4 rfl rfl
def VJ:PC:=e0 (cF pg0 f117) (by cbv)
def QgN:=@ko2 VJ _ _ _ func117 (by kernel_rfl)
def Qbl:=rs1 Pg f118 2 rfl rfl
def Qck:PC:=e0 (cF pg0 f118) (by cbv)
def QkB:=@ko1 Qck _ _ _ func118 (by kernel_rfl)
def Qbm:=rs1 Pg f119 2 rfl rfl
def Qcl:PC:=e0 (cF pg0 f119) (by cbv)
def QkC:=@ko1 Qcl _ _ _ func119 (by kernel_rfl)
def Qbn:=rs1 Pg f120 2 rfl rfl
def Qcm:PC:=e0 (cF pg0 f120) (by cbv)
def QkD:=@ko1 Qcm _ _ _ func120 (by kernel_rfl)
def Qbo:=rs1 Pg f121 2 rfl rfl
def Qcn:PC:=e0 (cF pg0 f121) (by cbv)
def QkE:=@ko1 Qcn _ _ _ func121 (by kernel_rfl)
def Qbp:=rs1 Pg f122 2 rfl rfl
def Qco:PC:=e0 (cF pg0 f122) (by cbv)
def QkF:=@ko1 Qco _ _ _ func122 (by kernel_rfl)
def Qbq:=rs1 Pg f123 2 rfl rfl
def Qcp:PC:=e0 (cF pg0 f123) (by cbv)
def QkG:=@ko1 Qcp _ _ _ func123 (by kernel_rfl)
def Qbr:=rs1 Pg f124 2 rfl rfl
def Qcq:PC:=e0 (cF pg0 f124) (by cbv)
def QkH:=@ko1 Qcq _ _ _ func124 (by kernel_rfl)
def Qjk:=rs1 Pg f125 2 rfl rfl
def Qcr:PC:=e0 (cF pg0 f125) (by cbv)
def QkI:=@ko1 Qcr _ _ _ func125 (by kernel_rfl)
def Qjl:=rs1 Pg f126 2 rfl rfl
def Qcs:PC:=e0 (cF pg0 f126) (by cbv)
def QkJ:=@ko1 Qcs _ _ _ func126 (by kernel_rfl)
def Qjm:=rs1 Pg f127 2 rfl rfl
def Qct:PC:=e0 (cF pg0 f127) (by cbv)
def QkK:=@ko1 Qct _ _ _ func127 (by kernel_rfl)
def Qjn:=rs1 Pg f128 2 rfl rfl
def Qcu:PC:=e0 (cF pg0 f128) (by cbv)
def QkL:=@ko1 Qcu _ _ _ func128 (by kernel_rfl)
def Qjo:=rs1 Pg f129 2 rfl rfl
def Qcv:PC:=e0 (cF pg0 f129) (by cbv)
def QkM:=@ko1 Qcv _ _ _ func129 (by kernel_rfl)
def Qjp:=rs1 Pg f130 2 rfl rfl
def Qcw:PC:=e0 (cF pg0 f130) (by cbv)
def QkN:=@ko1 Qcw _ _ _ func130 (by kernel_rfl)
def Qjq:=rs1 Pg f131 2 rfl rfl
def Qcx:PC:=e0 (cF pg0 f131) (by cbv)
def QkO:=@ko1 Qcx _ _ _ func131 (by kernel_rfl)
def Qjr:=rs1 Pg f132 2 rfl rfl
def Qcy:PC:=e0 (cF pg0 f132) (by cbv)
def QkP:=@ko1 Qcy _ _ _ func132 (by kernel_rfl)
def Qjs:=rs1 Pg f133 2 rfl rfl
def Qcz:PC:=e0 (cF pg0 f133) (by cbv)
def QkQ:=@ko1 Qcz _ _ _ func133 (by kernel_rfl)
def Qjt:=rs1 Pg f134 2 rfl rfl
def QcA:PC:=e0 (cF pg0 f134) (by cbv)
def QkR:=@ko1 QcA _ _ _ func134 (by kernel_rfl)
def Qju:=rs1 Pg f135 2 rfl rfl
def QcB:PC:=e0 (cF pg0 f135) (by cbv)
def QkS:=@ko1 QcB _ _ _ func135 (by kernel_rfl)
def Qjv:=rs1 Pg f136 2 rfl rfl
def QcC:PC:=e0 (cF pg0 f136) (by cbv)
def QkT:=@ko1 QcC _ _ _ func136 (by kernel_rfl)
def Qjw:=rs1 Pg f137 2 rfl rfl
def QcD:PC:=e0 (cF pg0 f137) (by cbv)
def QkU:=@ko1 QcD _ _ _ func137 (by kernel_rfl)
def Qjx:=rs1 Pg f138 2 rfl rfl
def QcE:PC:=e0 (cF pg0 f138) (by cbv)
def QkV:=@ko1 QcE _ _ _ func138 (by kernel_rfl)
def Qjy:=rs1 Pg f139 2 rfl rfl
def QcF:PC:=e0 (cF pg0 f139) (by cbv)
def QkW:=@ko1 QcF _ _ _ func139 (by kernel_rfl)
def Qc3:=rs2 Pg f140 4 5 rfl rfl
def QkX:PC:=e0 (cF pg0 f140) (by cbv)
def Qtf:=@ko2 QkX _ _ _ func140 (by kernel_rfl)
def Qnx:=rs1 Pg f141 2 rfl rfl
def QpF:PC:=e0 (cF pg0 f141) (by cbv)
def QxL:=@ko1 QpF _ _ _ func141 (by kernel_rfl)
def J8:=rs2 Pg f142 4 5 rfl rfl
def Jt:(Nat->PC)->List PC:=eL (cL pg0 f142) (λ_=>by cbv)
def QgO:PC:=e1 5 Jt (λ_=>by cbv) .skip
def QgP:PC:=e1 4 Jt (λ_=>by cbv) .skip
def QgQ:PC:=e1 3 Jt (λ_=>by cbv) QgP
def QgR:PC:=e2 2 Jt (λ_ _=>by cbv) QgO QgQ
def Qbs:PC:=e1 1 Jt (λ_=>by cbv) QgR
def QkY:PC:=e1 0 Jt (λ_=>by cbv) Qbs
def Qtg:=@ko2 QkY _ _ _ func142 (by kernel_rfl)
def Qf3:=rs0 Pg f143 rfl
def Ym:(Nat->PC)->List PC:=eL (cL pg0 f143) (λ_=>by cbv)
def Gp:PC:=e1 3 Ym (λ_=>by cbv) .skip
def Gq:PC:=e1 2 Ym (λ_=>by cbv) Gp
def Y6:PC:=e1 1 Ym (λ_=>by cbv) Gq
def VK:PC:=e1 0 Ym (λ_=>by cbv) Y6
def QgS:=@ko5 VK _ _ _ func143 (by kernel_rfl)
def QdI:=rs1 Pg f145 6 rfl rfl
def XD:(Nat->PC)->List PC:=eL (cL pg0 f145) (λ_=>by cbv)
def QcG:PC:=e1 6 XD (λ_=>by cbv) .skip
def QcH:PC:=e1 5 XD (λ_=>by cbv) QcG
def Gr:PC:=e1 4 XD (λ_=>by cbv) QcH
def Gs:PC:=e1 3 XD (λ_=>by cbv) .skip
def Gt:PC:=e1 2 XD (λ_=>by cbv) Gs
def Gu:PC:=e2 1 XD (λ_ _=>by cbv) Gr Gt
def Qfw:PC:=e1 0 XD (λ_=>by cbv) Gu
def Qn8:=@ko3 Qfw _ _ _ func145 (by kernel_rfl)
def Qbt:=rs1 Pg f190 4 rfl rfl
def Qiz:PC:=e0 (cF pg0 f190) (by cbv)
def Qri:=@ko2 Qiz _ _ _ func190 (by kernel_rfl)
def QpG:=rs1 Pg f191 6 rfl rfl
def QiA:PC:=e0 (cF pg0 f191) (by cbv)
def Qrj:=@ko3 QiA _ _ _ func191 (by kernel_rfl)
def QkZ:=rs1 Pg f192 2 rfl rfl
def Qny:PC:=e0 (cF pg0 f192) (by cbv)
def Qvq:=@ko1 Qny _ _ _ func192 (by kernel_rfl)
def QaI:=rs1 Pg f193 2 rfl rfl
def Z9:PC:=e0 (cF pg0 f193) (by cbv)
def Qbu:=@ko1 Z9 _ _ _ func193 (by kernel_rfl)
def QpH:=rs1 Pg f194 4 rfl rfl
def QiB:PC:=e0 (cF pg0 f194) (by cbv)
def Qrk:=@ko2 QiB _ _ _ func194 (by kernel_rfl)
def ZR:=rs1 Pg f195 4 rfl rfl
def Xs:PC:=e0 (cF pg0 f195) (by cbv)
def Jc:=@ko2 Xs _ _ _ func195 (by kernel_rfl)
def Qb3:=rs1 Pg f196 2 rfl rfl
def J9:PC:=e0 (cF pg0 f196) (by cbv)
def Qc4:=@ko1 J9 _ _ _ func196 (by kernel_rfl)
def Qfx:=rs1 Pg f197 6 rfl rfl
def QgT:PC:=e0 (cF pg0 f197) (by cbv)
def QpI:=@ko3 QgT _ _ _ func197 (by kernel_rfl)
def Qnz:=rs2 Pg f198 4 5 rfl rfl
def Qbv:(Nat->PC)->List PC:=eL (cL pg0 f198) (λ_=>by cbv)
def Gw:PC:=e1 4 Qbv (λ_=>by cbv) .skip
def Qk0:PC:=e1 3 Qbv (λ_=>by cbv) .skip
def QeC:PC:=e2 2 Qbv (λ_ _=>by cbv) Gw Qk0
def QeD:PC:=e1 1 Qbv (λ_=>by cbv) QeC
def QpJ:PC:=e1 0 Qbv (λ_=>by cbv) QeD
def QxM:=@ko2 QpJ _ _ _ func198 (by kernel_rfl)
def Qjz:=rs1 Pg f199 4 rfl rfl
def Xw:(Nat->PC)->List PC:=eL (cL pg0 f199) (λ_=>by cbv)
def Qau:PC:=e1 5 Xw (λ_=>by cbv) .skip
def Qav:PC:=e1 4 Xw (λ_=>by cbv) Qau
def YI:PC:=e1 3 Xw (λ_=>by cbv) .skip
def Qaw:PC:=e1 2 Xw (λ_=>by cbv) YI
def Qax:PC:=e1 1 Xw (λ_=>by cbv) Qaw
def QcI:PC:=e2 0 Xw (λ_ _=>by cbv) Qav Qax
def Qk1:=@ko2 QcI _ _ _ func199 (by kernel_rfl)
def ZM:=rs1 Pg f202 2 rfl rfl
def QdJ:PC:=e0 (cF pg0 f202) (by cbv)
def Qmx:=@ko1 QdJ _ _ _ func202 (by kernel_rfl)
def QiC:=rs1 Pg f251 4 rfl rfl
def Qk2:PC:=e0 (cF pg0 f251) (by cbv)
def Qth:=@ko2 Qk2 _ _ _ func251 (by kernel_rfl)
def Jd:=rs1 Pg f252 4 rfl rfl
def Xx:PC:=e0 (cF pg0 f252) (by cbv)
def Ju:=@ko2 Xx _ _ _ func252 (by kernel_rfl)
def YN:=rs0 Pg f253 rfl
def XE:(Nat->PC)->List PC:=eL (cL pg0 f253) (λ_=>by cbv)
def QcJ:PC:=e1 6 XE (λ_=>by cbv) .skip
def QcK:PC:=e1 5 XE (λ_=>by cbv) .skip
def Gy:PC:=e1 4 XE (λ_=>by cbv) QcK
def QcL:PC:=e1 3 XE (λ_=>by cbv) Gy
def QcM:PC:=e2 2 XE (λ_ _=>by cbv) QcJ QcL
def QcN:PC:=e1 1 XE (λ_=>by cbv) QcM
def Qfy:PC:=e1 0 XE (λ_=>by cbv) QcN
def Qn9:=@ko3 Qfy _ _ _ func253 (by kernel_rfl)
def Qrl:=rs1 Pg f254 4 rfl rfl
def Qk3:PC:=e0 (cF pg0 f254) (by cbv)
def Qti:=@ko2 Qk3 _ _ _ func254 (by kernel_rfl)
def Qoa:=Qvl Pg f255 true 3 8 159 rfl rfl (by kernel_rfl)
def QgU:PC:=e0 (cF pg0 f255) (by cbv)
def QpK:=@ko4 QgU _ _ _ func255 (by kernel_rfl)
def Qc5:=rs1 Pg f257 10 rfl rfl
def Xy:(Nat->PC)->List PC:=eL (cL pg0 f257) (λ_=>by cbv)
def JM:PC:=e1 3 Xy (λ_=>by cbv) .skip
def JN:PC:=e1 2 Xy (λ_=>by cbv) JM
def JO:PC:=e1 1 Xy (λ_=>by cbv) JN
def K2:PC:=e1 0 Xy (λ_=>by cbv) JO
def QdK:=@ko5 K2 _ _ _ func257 (by kernel_rfl)
def XH:=rs1 Pg f258 4 rfl rfl
def XQ:PC:=e0 (cF pg0 f258) (by cbv)
def Kc:=@ko2 XQ _ _ _ func258 (by kernel_rfl)
def Qrm:=rs1 Pg f259 2 rfl rfl
def Jv:(Nat->PC)->List PC:=eL (cL pg0 f259) (λ_=>by cbv)
def QgV:PC:=e1 5 Jv (λ_=>by cbv) .skip
def QgW:PC:=e1 4 Jv (λ_=>by cbv) QgV
def QgX:PC:=e1 3 Jv (λ_=>by cbv) QgW
def QgY:PC:=e1 2 Jv (λ_=>by cbv) .skip
def QgZ:PC:=e1 1 Jv (λ_=>by cbv) QgY
def Qk4:PC:=e2 0 Jv (λ_ _=>by cbv) QgX QgZ
def Qtj:=@ko1 Qk4 _ _ _ func259 (by kernel_rfl)
def Qvr:=rs1 Pg f260 2 rfl rfl
def QpL:PC:=e0 (cF pg0 f260) (by cbv)
def QxN:=@ko1 QpL _ _ _ func260 (by kernel_rfl)
def QpM:=rs1 Pg f261 2 rfl rfl
def QiD:PC:=e0 (cF pg0 f261) (by cbv)
def Qrn:=@ko1 QiD _ _ _ func261 (by kernel_rfl)
def Qtk:=rs1 Pg f262 2 rfl rfl
def QnA:PC:=e0 (cF pg0 f262) (by cbv)
def Qvs:=@ko1 QnA _ _ _ func262 (by kernel_rfl)
def Qro:=rs1 Pg f263 2 rfl rfl
def Qk5:PC:=e0 (cF pg0 f263) (by cbv)
def Qtl:=@ko1 Qk5 _ _ _ func263 (by kernel_rfl)
def Qk6:=rs1 Pg f264 2 rfl rfl
def QnB:PC:=e0 (cF pg0 f264) (by cbv)
def Qvt:=@ko1 QnB _ _ _ func264 (by kernel_rfl)
def Qk7:=rs1 Pg f274 0 rfl rfl
def QdL:PC:=e0 (cF pg0 f274) (by cbv)
def Qmy:=@ko0 QdL _ _ _ func274 (by kernel_rfl)
def QhU:=rs1 Pg f283 4 rfl rfl
def Qbw:PC:=e0 (cF pg0 f283) (by cbv)
def QjA:=@ko2 Qbw _ _ _ func283 (by kernel_rfl)
def QhV:=rs1 Pg f284 2 rfl rfl
def Qbx:PC:=e0 (cF pg0 f284) (by cbv)
def QjB:=@ko1 Qbx _ _ _ func284 (by kernel_rfl)
def QhW:=rs1 Pg f285 4 rfl rfl
def Qby:PC:=e0 (cF pg0 f285) (by cbv)
def QjC:=@ko2 Qby _ _ _ func285 (by kernel_rfl)
def Qg0:=rs1 Pg f286 4 rfl rfl
def QiE:PC:=e0 (cF pg0 f286) (by cbv)
def Qrp:=@ko2 QiE _ _ _ func286 (by kernel_rfl)
def QhX:=rs1 Pg f287 2 rfl rfl
def Qbz:PC:=e0 (cF pg0 f287) (by cbv)
def QjD:=@ko1 Qbz _ _ _ func287 (by kernel_rfl)
def QhY:=rs1 Pg f288 4 rfl rfl
def QbA:PC:=e0 (cF pg0 f288) (by cbv)
def QjE:=@ko2 QbA _ _ _ func288 (by kernel_rfl)
def QhZ:=rs1 Pg f289 2 rfl rfl
def QbB:PC:=e0 (cF pg0 f289) (by cbv)
def QjF:=@ko1 QbB _ _ _ func289 (by kernel_rfl)
