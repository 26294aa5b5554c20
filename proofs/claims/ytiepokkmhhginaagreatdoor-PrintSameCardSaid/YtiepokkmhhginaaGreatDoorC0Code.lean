/- The code of the functions that are reached, resolved. -/
import Derived.Test.YtiepokkmhhginaaGreatDoorAbD
import Derived.Test.YtiepokkmhhginaaGreatDoorProg
import Derived.KernelRfl
set_option linter.unusedVariables false
set_option maxRecDepth 100000
noncomputable section
namespace Go.Proofs.YtiepokkmhhginaaGreatDoor.code
open Go.Ab
variable (H0 H:Qa) (k:Value->Qa->Prop) (A:Env)
noncomputable abbrev prog:Program:=Tryz.prog
abbrev XJ:FuncId:=3
abbrev XB:FuncId:=4
abbrev QaJ:FuncId:=5
abbrev YP:FuncId:=6
abbrev Qgj:FuncId:=7
abbrev QaK:FuncId:=8
abbrev ZU:FuncId:=15
abbrev Qr:FuncId:=16
abbrev Qgk:FuncId:=17
abbrev Zl:FuncId:=18
abbrev Zz:FuncId:=19
abbrev Yh:FuncId:=20
abbrev X0:FuncId:=21
abbrev XR:FuncId:=22
abbrev JY:FuncId:=23
abbrev Yi:FuncId:=24
abbrev W0:FuncId:=25
abbrev Qex:FuncId:=26
abbrev JJ:FuncId:=27
abbrev Wk:FuncId:=29
abbrev VS:FuncId:=30
abbrev Wz:FuncId:=31
abbrev WP:FuncId:=32
abbrev WQ:FuncId:=33
abbrev W5:FuncId:=34
abbrev YS:FuncId:=35
abbrev GH:FuncId:=36
abbrev JK:FuncId:=37
abbrev Xr:FuncId:=38
abbrev YI:FuncId:=39
abbrev Qb6:FuncId:=40
abbrev QiG:FuncId:=41
abbrev Qbb:FuncId:=42
abbrev GI:FuncId:=43
abbrev Qey:FuncId:=44
abbrev VT:FuncId:=45
abbrev Ko:FuncId:=46
abbrev Qb7:FuncId:=47
abbrev Yv:FuncId:=48
abbrev X1:FuncId:=49
abbrev YT:FuncId:=50
abbrev Xn:FuncId:=51
abbrev JL:FuncId:=52
abbrev QcV:FuncId:=53
abbrev Qez:FuncId:=55
abbrev QcW:FuncId:=56
abbrev X2:FuncId:=57
abbrev Qgl:FuncId:=58
abbrev QeA:FuncId:=59
abbrev QeB:FuncId:=60
abbrev QiH:FuncId:=61
abbrev QeC:FuncId:=62
abbrev QcX:FuncId:=63
abbrev QcY:FuncId:=64
abbrev W9:FuncId:=65
abbrev WA:FuncId:=66
abbrev Ke:FuncId:=67
abbrev VU:FuncId:=68
abbrev Qlm:FuncId:=69
abbrev W6:FuncId:=71
abbrev QcZ:FuncId:=72
abbrev Qc0:FuncId:=73
abbrev Y3:FuncId:=74
abbrev Qc1:FuncId:=75
abbrev VV:FuncId:=76
abbrev Kq:FuncId:=77
abbrev QeD:FuncId:=78
abbrev QaL:FuncId:=79
abbrev Qb8:FuncId:=80
abbrev Qb9:FuncId:=81
abbrev QeE:FuncId:=82
abbrev QiI:FuncId:=83
abbrev Xg:FuncId:=85
abbrev Qc2:FuncId:=89
abbrev VW:FuncId:=90
abbrev K1:FuncId:=91
abbrev W7:FuncId:=92
abbrev Qc3:FuncId:=93
abbrev VX:FuncId:=94
abbrev Xa:FuncId:=95
abbrev Qp:FuncId:=96
abbrev VY:FuncId:=97
abbrev VZ:FuncId:=98
abbrev V0:FuncId:=99
abbrev V1:FuncId:=100
abbrev V2:FuncId:=101
abbrev V3:FuncId:=102
abbrev V4:FuncId:=103
abbrev V5:FuncId:=104
abbrev Qv:FuncId:=105
abbrev GJ:FuncId:=106
abbrev GL:FuncId:=107
abbrev GM:FuncId:=108
abbrev GN:FuncId:=109
abbrev GO:FuncId:=110
abbrev GP:FuncId:=111
abbrev GQ:FuncId:=112
abbrev GR:FuncId:=113
abbrev GS:FuncId:=114
abbrev GT:FuncId:=115
abbrev GU:FuncId:=116
abbrev GV:FuncId:=117
abbrev GW:FuncId:=118
abbrev GY:FuncId:=119
abbrev GZ:FuncId:=120
abbrev G0:FuncId:=121
abbrev G3:FuncId:=122
abbrev G4:FuncId:=123
abbrev G5:FuncId:=124
abbrev G6:FuncId:=125
abbrev G7:FuncId:=126
abbrev G8:FuncId:=127
abbrev QeF:FuncId:=128
abbrev QZ:FuncId:=129
abbrev VD:FuncId:=130
abbrev ZV:FuncId:=131
abbrev Qgm:FuncId:=132
abbrev WR:FuncId:=133
abbrev Ze:FuncId:=134
abbrev Qbc:FuncId:=135
abbrev Wb:FuncId:=174
abbrev Yw:FuncId:=175
abbrev Qbd:FuncId:=176
abbrev Zf:FuncId:=177
abbrev Ym:FuncId:=183
abbrev XK:FuncId:=184
abbrev Qc4:FuncId:=185
abbrev G9:FuncId:=186
abbrev QeG:FuncId:=187
abbrev V6:FuncId:=188
abbrev Qc5:FuncId:=189
abbrev WG:FuncId:=190
abbrev Qc6:FuncId:=191
abbrev QeH:FuncId:=192
abbrev WH:FuncId:=193
abbrev ZA:FuncId:=194
abbrev XL:FuncId:=195
abbrev QeI:FuncId:=196
abbrev Wl:FuncId:=197
abbrev Wg:FuncId:=198
abbrev Vq:FuncId:=199
abbrev Qln:FuncId:=200
abbrev Va:FuncId:=201
abbrev Qlo:FuncId:=202
abbrev Qho:FuncId:=203
abbrev V7:FuncId:=204
abbrev Q5:FuncId:=249
abbrev XM:FuncId:=255
abbrev QeJ:FuncId:=256
abbrev XS:FuncId:=257
abbrev QaM:FuncId:=258
abbrev Qgn:FuncId:=259
abbrev Wn:FuncId:=260
abbrev ZB:FuncId:=261
abbrev ZC:FuncId:=262
abbrev Vr:FuncId:=263
abbrev Vs:FuncId:=264
abbrev WI:FuncId:=265
abbrev Wy:FuncId:=266
abbrev Qgo:FuncId:=267
abbrev Qdo:FuncId:=268
abbrev QaN:FuncId:=269
abbrev QeK:FuncId:=270
abbrev Qgp:FuncId:=271
abbrev QiJ:FuncId:=272
abbrev V8:FuncId:=280
abbrev Zm:FuncId:=285
abbrev Zn:FuncId:=286
abbrev Zo:FuncId:=287
abbrev QeL:FuncId:=288
abbrev Zp:FuncId:=289
abbrev Zq:FuncId:=290
abbrev Zr:FuncId:=291
abbrev XN:TypeId:=3
abbrev Qc:TypeId:=24
abbrev QL:TypeId:=36
abbrev Qx:TypeId:=39
abbrev Qh:TypeId:=41
abbrev X3:TypeId:=55
abbrev QI:TypeId:=75
abbrev Qf:TypeId:=102
abbrev Qw:TypeId:=106
abbrev Ww:TypeId:=128
abbrev Qk:TypeId:=141
abbrev YU:TypeId:=144
abbrev Qq:TypeId:=150
abbrev Wh:TypeId:=220
abbrev YJ:TypeId:=302
abbrev WJ:TypeId:=321
abbrev Qtr:TypeId:=136
abbrev Qns:TypeId:=3
noncomputable abbrev Qrz:Func:=Tryz.f5
theorem Qbe:Rt prog Tryz.f5 H0 k A H=Ret H0 k (.tuple #[A 6,A 7]) H:=QmT (by kernel_rfl)
def Qe8:PC:=.seq (.block 2 (So [Oa 51 49,Ox 52 11 47 49,Od 53 11 52,Cd 11 Qh QmU,Oa 10 51,Gu 11 11 53] (.ops [Oa 54 9,Oa 55 10,Oe 56 .eql 55 0,⟨some 57,.callG Zl [(t 54),t 56,(.const (.string (mkS [32]))),(.const (.string (mkS [44,32])))] [t 11],none,true⟩,⟨some 58,.ld true 11 (t 11),none,true⟩,Oa 59 2,Cc 60 Zz 57 58 59]))) (.ops [Oe 61 .add 49 1,Oa 49 61])
def Qe9:PC:=So [Gp 50 .lss 49 48] (.seq (Sc 50 .skip (.exit 1)) Qe8)
def Jy:PC:=.seq (So [Ob 46 1 3,Oc 47 1 46,Ou 48 47,Oi 49 0] (.block 1 (.loop Qe9))) (Sr [Oa 62 9,Oq 63 62,Ob 64 0 63,Ca 65 Yh 64,Oa 6 65,Oi 7 0])
def Qfa:PC:=So [Oe 42 .eql 28 3,Oa 41 42] (Sc 41 (.ops [Oa 43 9,Ow 44 (.bslice 9 1 1 [.string (mkS [])] [(0,(.const (.string (mkS [32,115,116,114,105,99,116]))))]),Cb 45 Qr 43 44]) (Sr [Om 6 (.const (.string (mkS []))),Oi 7 2]))
def Qfb:PC:=So [Oe 37 .eql 28 2,Oa 36 37] (Sc 36 (.ops [Oa 38 9,Ow 39 (.bslice 9 1 1 [.string (mkS [])] [(0,(.const (.string (mkS [32,110,101,97,114]))))]),Cb 40 Qr 38 39]) Qfa)
def Qfc:PC:=So [Oe 32 .eql 28 1,Oa 31 32] (Sc 31 (.ops [Oa 33 9,Ow 34 (.bslice 9 1 1 [.string (mkS [])] [(0,(.const (.string (mkS [32,115,104,111,114,116]))))]),Cb 35 Qr 33 34]) Qfb)
def Qfd:PC:=So [Ow 20 (.build [.pointer none,.slice none 0 0] []),Gr 21 X3 20,Oa 9 21] (So [Oa 22 9,Ob 23 0 3,Oc 24 1 23,Ca 25 Qgk 24,Ow 26 (.bslice 9 1 1 [.string (mkS [])] [(0,(t 25))]),Cb 27 Qr 22 26] (.seq (So [Oa 28 1] (.block 0 (So [Oe 30 .eql 28 0,Oa 29 30] (Sc 29 .skip Qfc)))) Jy))
def QhT:PC:=So [Gr 3 Qc 0,Om 6 (.const (.string (mkS []))),Oi 7 0] (So [Od 13 2 3,Ca 14 ZU 13,Oa 12 14,Ot 15 12 0,Ot 16 12 1,Gu 2 3 15,Oa 8 16] (.seq (So [Oa 17 8,Oe 18 .neq 17 0] (Sc 18 (Sr [Oa 19 8,Om 6 (.const (.string (mkS []))),Oa 7 19]) .skip)) Qfd))
theorem QpD:In3 prog QaJ Tryz.f5 QhT:=jn3 Tryz.func5 (by kernel_rfl)
theorem QiK:Rt prog Tryz.f16 H0 k A H=Ret H0 k (A 4) H:=QA (by kernel_rfl)
def Qam:PC:=.seq (.block 1 (So [Ox 11 1 7 9,Oc 12 1 11,Oa 6 12] (.ops [Oa 13 0,Oq 14 13,Ob 15 0 14,Oa 16 6,Cb 17 W5 15 16]))) (.ops [Oe 18 .add 9 1,Oa 9 18])
def Qan:PC:=So [Gp 10 .lss 9 8] (.seq (Sc 10 .skip (.exit 0)) Qam)
def Qca:PC:=So [Om 4 (.const (.pointer none))] (.seq (So [Oa 7 1,Ou 8 7,Oi 9 0] (.block 0 (.loop Qan))) (Sr [Oa 19 0,Oa 4 19]))
theorem QjO:In2 prog Qr Tryz.f16 Qca:=jn2 Tryz.func16 (by kernel_rfl)
theorem QhU:Rt prog Tryz.f17 H0 k A H=ldR false 1 (A 2) H λv=>Ret H0 k v H:=QD5 (ty:=9) (by kernel_rfl) (by kernel_rfl) (by kernel_rfl)
def Qbf:PC:=.block 1 (So [Oc 10 1 3,Oe 11 .add 10 1,Gu 1 3 11] (So [Oc 12 1 3,Oc 13 1 1,Gp 14 .eql 12 13] (Sc 14 (Sr [Oa 15 4,Gu 1 2 15]) .skip)))
def Qgq:PC:=So [Cd 3 3 [.int .i64 0],Ov (.st 1 (t 3) (Ci 0))] (.seq (So [Ow 8 (.call YS [(.const (.string (mkS [97,100,100,32,111,114,32,97,100,99,32,115,98,98,32,97,110,100,32,115,117,98,32,120,111,114,32,99,109,112,32,109,111,118,32,116,101,115,116,32,120,99,104,103,32,108,101,97,32,109,111,118,122,120,32,109,111,118,115,120,32,109,111,118,115,120,100,32,105,109,117,108,32,105,110,99,32,100,101,99,32,110,101,103,32,110,111,116,32,109,117,108,32,100,105,118,32,105,100,105,118,32,114,111,108,32,114,111,114,32,114,99,108,32,114,99,114,32,115,104,108,32,115,104,114,32,115,97,114,32,115,104,108,100,32,115,104,114,100,32,98,115,119,97,112,32,120,97,100,100,32,99,109,112,120,99,104,103,32,98,116,32,98,116,115,32,98,116,114,32,98,116,99,32,98,115,102,32,98,115,114,32,99,98,119,32,99,119,100,101,32,99,100,113,101,32,99,119,100,32,99,100,113,32,99,113,111,32,112,117,115,104,32,112,111,112,32,110,111,112,32,114,101,116,32,108,101,97,118,101,32,99,97,108,108,32,106,109,112,32,105,110,116,51,32,115,121,115,99,97,108,108,32,117,100,50,32,104,108,116,32,99,108,99,32,115,116,99,32,99,109,99,32,99,108,100,32,115,116,100,32,108,97,104,102,32,115,97,104,102,32,99,112,117,105,100,32,114,100,116,115,99,32,106,111,32,106,110,111,32,106,98,32,106,97,101,32,106,101,32,106,110,101,32,106,98,101,32,106,97,32,106,115,32,106,110,115,32,106,112,32,106,110,112,32,106,108,32,106,103,101,32,106,108,101,32,106,103,32,115,101,116,111,32,115,101,116,110,111,32,115,101,116,98,32,115,101,116,97,101,32,115,101,116,101,32,115,101,116,110,101,32,115,101,116,98,101,32,115,101,116,97,32,115,101,116,115,32,115,101,116,110,115,32,115,101,116,112,32,115,101,116,110,112,32,115,101,116,108,32,115,101,116,103,101,32,115,101,116,108,101,32,115,101,116,103,32,99,109,111,118,111,32,99,109,111,118,110,111,32,99,109,111,118,98,32,99,109,111,118,97,101,32,99,109,111,118,101,32,99,109,111,118,110,101,32,99,109,111,118,98,101,32,99,109,111,118,97,32,99,109,111,118,115,32,99,109,111,118,110,115,32,99,109,111,118,112,32,99,109,111,118,110,112,32,99,109,111,118,108,32,99,109,111,118,103,101,32,99,109,111,118,108,101,32,99,109,111,118,103,32,112,111,112,99,110,116,32,108,122,99,110,116,32,116,122,99,110,116,32,97,110,100,110,32,98,101,120,116,114,32,98,108,115,105,32,98,108,115,109,115,107,32,98,108,115,114,32,98,122,104,105,32,112,100,101,112,32,112,101,120,116,32,109,117,108,120,32,114,111,114,120,32,115,97,114,120,32,115,104,108,120,32,115,104,114,120,32,97,100,99,120,32,97,100,111,120,32,109,111,118,98,101,32,99,114,99,51,50,32,109,111,118,97,112,115,32,109,111,118,117,112,115,32,109,111,118,97,112,100,32,109,111,118,117,112,100,32,109,111,118,100,113,97,32,109,111,118,100,113,117,32,109,111,118,115,115,32,109,111,118,115,100,32,109,111,118,100,32,109,111,118,113,32,97,100,100,112,115,32,97,100,100,112,100,32,97,100,100,115,115,32,97,100,100,115,100,32,115,117,98,112,115,32,115,117,98,112,100,32,115,117,98,115,115,32,115,117,98,115,100,32,109,117,108,112,115,32,109,117,108,112,100,32,109,117,108,115,115,32,109,117,108,115,100,32,100,105,118,112,115,32,100,105,118,112,100,32,100,105,118,115,115,32,100,105,118,115,100,32,109,105,110,112,115,32,109,105,110,112,100,32,109,105,110,115,115,32,109,105,110,115,100,32,109,97,120,112,115,32,109,97,120,112,100,32,109,97,120,115,115,32,109,97,120,115,100,32,115,113,114,116,112,115,32,115,113,114,116,112,100,32,115,113,114,116,115,115,32,115,113,114,116,115,100,32,97,110,100,112,115,32,97,110,100,112,100,32,97,110,100,110,112,115,32,97,110,100,110,112,100,32,111,114,112,115,32,111,114,112,100,32,120,111,114,112,115,32,120,111,114,112,100,32,117,99,111,109,105,115,115,32,117,99,111,109,105,115,100,32,99,111,109,105,115,115,32,99,111,109,105,115,100,32,99,118,116,115,105,50,115,115,32,99,118,116,115,105,50,115,100,32,99,118,116,116,115,115,50,115,105,32,99,118,116,116,115,100,50,115,105,32,99,118,116,115,115,50,115,100,32,99,118,116,115,100,50,115,115,32,115,104,117,102,112,115,32,115,104,117,102,112,100,32,117,110,112,99,107,108,112,115,32,117,110,112,99,107,108,112,100,32,117,110,112,99,107,104,112,115,32,117,110,112,99,107,104,112,100,32,112,97,100,100,98,32,112,97,100,100,119,32,112,97,100,100,100,32,112,97,100,100,113,32,112,115,117,98,98,32,112,115,117,98,119,32,112,115,117,98,100,32,112,115,117,98,113,32,112,109,117,108,108,119,32,112,109,117,108,108,100,32,112,109,117,108,117,100,113,32,112,97,110,100,32,112,97,110,100,110,32,112,111,114,32,112,120,111,114,32,112,99,109,112,101,113,98,32,112,99,109,112,101,113,119,32,112,99,109,112,101,113,100,32,112,99,109,112,103,116,98,32,112,99,109,112,103,116,119,32,112,99,109,112,103,116,100,32,112,109,105,110,117,98,32,112,109,97,120,117,98,32,112,109,105,110,115,119,32,112,109,97,120,115,119,32,112,97,118,103,98,32,112,97,118,103,119,32,112,115,97,100,98,119,32,112,117,110,112,99,107,108,98,119,32,112,117,110,112,99,107,108,119,100,32,112,117,110,112,99,107,108,100,113,32,112,117,110,112,99,107,108,113,100,113,32,112,117,110,112,99,107,104,98,119,32,112,117,110,112,99,107,104,119,100,32,112,117,110,112,99,107,104,100,113,32,112,117,110,112,99,107,104,113,100,113,32,112,97,99,107,115,115,119,98,32,112,97,99,107,117,115,119,98,32,112,97,99,107,115,115,100,119,32,112,97,99,107,117,115,100,119,32,112,115,104,117,102,98,32,112,104,97,100,100,119,32,112,104,97,100,100,100,32,112,97,98,115,98,32,112,97,98,115,119,32,112,97,98,115,100,32,112,115,108,108,119,32,112,115,108,108,100,32,112,115,108,108,113,32,112,115,114,108,119,32,112,115,114,108,100,32,112,115,114,108,113,32,112,115,114,97,119,32,112,115,114,97,100,32,112,115,108,108,100,113,32,112,115,114,108,100,113,32,112,115,104,117,102,100,32,112,115,104,117,102,108,119,32,112,115,104,117,102,104,119,32,112,97,108,105,103,110,114,32,112,98,108,101,110,100,119,32,112,109,111,118,109,115,107,98,32,112,116,101,115,116,32,114,111,117,110,100,115,115,32,114,111,117,110,100,115,100,32,118,109,111,118,97,112,115,32,118,109,111,118,117,112,115,32,118,109,111,118,97,112,100,32,118,109,111,118,117,112,100,32,118,109,111,118,100,113,97,32,118,109,111,118,100,113,117,32,118,97,100,100,112,115,32,118,97,100,100,112,100,32,118,97,100,100,115,115,32,118,97,100,100,115,100,32,118,115,117,98,112,115,32,118,115,117,98,112,100,32,118,115,117,98,115,115,32,118,115,117,98,115,100,32,118,109,117,108,112,115,32,118,109,117,108,112,100,32,118,109,117,108,115,115,32,118,109,117,108,115,100,32,118,100,105,118,112,115,32,118,100,105,118,112,100,32,118,100,105,118,115,115,32,118,100,105,118,115,100,32,118,109,105,110,112,115,32,118,109,105,110,112,100,32,118,109,97,120,112,115,32,118,109,97,120,112,100,32,118,97,110,100,112,115,32,118,97,110,100,112,100,32,118,111,114,112,115,32,118,111,114,112,100,32,118,120,111,114,112,115,32,118,120,111,114,112,100,32,118,112,97,100,100,98,32,118,112,97,100,100,119,32,118,112,97,100,100,100,32,118,112,97,100,100,113,32,118,112,115,117,98,98,32,118,112,115,117,98,119,32,118,112,115,117,98,100,32,118,112,115,117,98,113,32,118,112,97,110,100,32,118,112,97,110,100,110,32,118,112,111,114,32,118,112,120,111,114,32,118,112,99,109,112,101,113,98,32,118,112,99,109,112,101,113,119,32,118,112,99,109,112,101,113,100,32,118,112,115,104,117,102,98,32,118,112,115,104,117,102,100,32,118,112,97,108,105,103,110,114,32,118,112,98,108,101,110,100,118,98,32,118,122,101,114,111,117,112,112,101,114,32,118,122,101,114,111,97,108,108,32,118,112,116,101,115,116,32,118,102,109,97,100,100,49,51,50,112,115,32,118,102,109,97,100,100,50,49,51,112,115,32,118,102,109,97,100,100,50,51,49,112,115,32,118,102,109,97,100,100,49,51,50,112,100,32,118,102,109,97,100,100,50,49,51,112,100,32,118,102,109,97,100,100,50,51,49,112,100]))),(.const (.string (mkS [32])))])] (.block 0 (.rangeF (t 8) [9] (.ops [Oa 4 9]) Qbf))) (Sr [Ov (.st 1 (t 2) (.const (.string (mkS []))))]))
def QjP:PC:=So [Gr 1 3 0,Ow 2 (.alloc 9 [.string (mkS [])])] (.seq (So [Oc 5 1 1,Ca 6 X0 5,Oh 7 6] (Sc 7 (Sr [Ov (.st 1 (t 2) (.const (.string (mkS []))))]) .skip)) Qgq)
theorem QrA:In1 prog Qgk Tryz.f17 QjP:=jn1 Tryz.func17 (by kernel_rfl)
theorem Qao:Rt prog Tryz.f18 H0 k A H=Ret H0 k (A 8) H:=QA (by kernel_rfl)
def JM:PC:=So [Om 8 (.const (.pointer none))] (.seq (So [Oa 9 1] (Sc 9 (Sr [Oa 10 0,Oa 11 2,Ow 12 (.bslice 9 1 1 [.string (mkS [])] [(0,(t 11))]),Cb 13 Qr 10 12,Oa 8 13]) .skip)) (Sr [Oa 14 0,Oa 15 3,Ow 16 (.bslice 9 1 1 [.string (mkS [])] [(0,(t 15))]),Cb 17 Qr 14 16,Oa 8 17]))
theorem QiL:In4 prog Zl Tryz.f18 JM:=jn4 Tryz.func18 (by kernel_rfl)
theorem Xo:Rt prog Tryz.f19 H0 k A H=Ret H0 k (A 6) H:=QA (by kernel_rfl)
def JZ:PC:=So [Oe 24 .eql 8 3,Oa 23 24] (Sc 23 (Sr [Oa 25 0,Ob 26 10 4,Oc 27 1 26,Ca 28 Xr 27,Ow 29 (.bslice 9 1 1 [.string (mkS [])] [(0,(t 28))]),Cb 30 Qr 25 29,Oa 6 30]) .skip)
def J1:PC:=So [Oe 18 .eql 8 2,Oa 17 18] (Sc 17 (Sr [Oa 19 0,Ob 20 3 4,Od 21 7 20,Cb 22 JK 19 21,Oa 6 22]) JZ)
def Gn:PC:=So [Gr 4 Qh 1,Om 6 (.const (.pointer none))] (.seq (So [Ob 7 0 4,Oc 8 1 7] (.block 0 (So [Oe 10 .eql 8 1,Oa 9 10] (Sc 9 (Sr [Oa 11 0,Ob 12 1 4,Od 13 2 12,Ca 14 GH 13,Ow 15 (.bslice 9 1 1 [.string (mkS [])] [(0,(t 14))]),Cb 16 Qr 11 15,Oa 6 16]) J1)))) (Sr [Oa 31 0,Ob 32 10 4,Oc 33 1 32,Oa 34 2,Gp 35 .add 33 34,Ca 36 Xr 35,Ow 37 (.bslice 9 1 1 [.string (mkS [])] [(0,(t 36))]),Cb 38 Qr 31 37,Oa 6 38]))
theorem QfU:In3 prog Zz Tryz.f19 Gn:=jn3 Tryz.func19 (by kernel_rfl)
theorem Qbg:Rt prog Tryz.f20 H0 k A H=Ret H0 k (A 2) H:=QA (by kernel_rfl)
def Z1:PC:=So [Om 2 (.const (.string (mkS [])))] (Sr [Oa 3 0,Oq 4 3,Ob 5 1 4,Oc 6 1 5,Ow 7 (.gen (.call ⟨(.builtin .unsafeSliceData),#[t 6],#[51]⟩)),Oa 8 0,Oq 9 8,Ob 10 1 9,Oc 11 1 10,Ou 12 11,Ow 13 (.gen (.call ⟨(.builtin .unsafeString),#[t 7,t 12],#[92,3]⟩)),Oa 2 13])
theorem QbU:In1 prog Yh Tryz.f20 Z1:=jn1 Tryz.func20 (by kernel_rfl)
theorem K2:Rt prog Tryz.f34 H0 k A H=Ret H0 k (.tuple #[A 4,A 5]) H:=QmT (by kernel_rfl)
def Yx:PC:=So [Oi 4 0,Om 5 (.const (.nilIface))] (So [Oa 6 0,Ca 7 Xn 6] (So [Oa 8 0,Oa 9 0,Oq 10 9,Ob 11 1 10,Oc 12 1 11,Oa 13 1,Ow 14 (.app 5 1 1 (t 12) (t 13)),Oq 15 8,Ob 16 1 15,Gu 1 16 14] (Sr [Oa 17 1,Ow 18 (.lenT (t 17)),Oa 4 18,Om 5 (.const (.nilIface))])))
theorem Vb:In2 prog W5 Tryz.f34 Yx:=jn2 Tryz.func34 (by kernel_rfl)
theorem Qgr:Rt prog Tryz.f35 H0 k A H=Ret H0 k (A 4) H:=QA (by kernel_rfl)
def Qap:PC:=So [Om 4 (.const (.nilFunc))] (Sr [Oa 5 0,Oa 6 1,Ow 7 (.call JL [t 5,t 6,(Ci 0)]),Oa 4 7])
theorem Qhz:In2 prog YS Tryz.f35 Qap:=jn2 Tryz.func35 (by kernel_rfl)
noncomputable abbrev QiM:Func:=Tryz.f37
theorem VE:Rt prog Tryz.f37 H0 k A H=Ret H0 k (A 4) H:=QA (by kernel_rfl)
def Zg:PC:=So [Ob 56 5 3,Oc 57 1 56,Oe 58 .lss 57 0,Oa 55 58] (Sc 55 (.ops [Oa 59 0,Ob 60 5 3,Oc 61 1 60,Ow 62 (.gen (.unOp .neg 3 (t 61))),Ca 63 Xr 62,Ow 64 (.bslice 9 1 2 [.string (mkS []),.string (mkS [])] [(0,(.const (.string (mkS [32,45,32])))),(1,(t 63))]),Cb 65 Qr 59 64]) .skip)
def XC:PC:=So [Ob 46 5 3,Oc 47 1 46,Oe 48 .gtr 47 0,Oa 45 48] (Sc 45 (.ops [Oa 49 0,Ob 50 5 3,Oc 51 1 50,Ca 52 Xr 51,Ow 53 (.bslice 9 1 2 [.string (mkS []),.string (mkS [])] [(0,(.const (.string (mkS [32,43,32])))),(1,(t 52))]),Cb 54 Qr 49 53]) Zg)
def Zh:PC:=.seq (.block 0 (So [Oa 38 5,Oa 37 38] (Sc 37 (.ops [Oa 39 0,Ob 40 5 3,Oc 41 1 40,Ca 42 Xr 41,Ow 43 (.bslice 9 1 1 [.string (mkS [])] [(0,(t 42))]),Cb 44 Qr 39 43]) XC))) (Sr [Oa 66 0,Ow 67 (.bslice 9 1 1 [.string (mkS [])] [(0,(.const (.string (mkS [93]))))]),Cb 68 Qr 66 67,Oa 4 68])
def Gq:PC:=So [Oa 26 0,Oa 27 5,⟨some 28,.callG Zl [(t 26),t 27,(.const (.string (mkS []))),(.const (.string (mkS [32,43,32])))] [t 3,t 3],none,true⟩,Ob 29 2 3,⟨some 30,.ld true 2 (t 29),none,true⟩,⟨some 31,.callF GH [t 30] [t 3],none,true⟩,Ob 32 4 3,⟨some 33,.ld false 1 (t 32),none,true⟩,Ca 34 QcW 33,Ow 35 (.bslice 9 1 3 [.string (mkS []),.string (mkS []),.string (mkS [])] [(0,(t 31)),(1,(.const (.string (mkS [42])))),(2,(t 34))]),Cb 36 Qr 28 35] (.ops [Ol 5 false])
def Zi:PC:=.seq (So [Ob 22 2 3,Od 23 2 22,Ow 24 (.build Ze2 []),Ow 25 (.eqs true [.i,.i] (t 23) (t 24))] (Sc 25 Gq .skip)) Zh
def Qaq:PC:=So [Gr 3 Qx 1,Om 4 (.const (.pointer none))] (So [Oa 6 0,Ob 7 6 3,Oc 8 1 7,Ca 9 Qez 8,Ow 10 (.bslice 9 1 2 [.string (mkS []),.string (mkS [])] [(0,(t 9)),(1,(.const (.string (mkS [91]))))]),Cb 11 Qr 6 10] (So [Ol 5 true] (.seq (So [Ob 12 0 3,Od 13 2 12,Ow 14 (.build Ze2 []),Ow 15 (.eqs true [.i,.i] (t 13) (t 14))] (Sc 15 (So [Oa 16 0,Ob 17 0 3,Od 18 2 17,Ca 19 GH 18,Ow 20 (.bslice 9 1 1 [.string (mkS [])] [(0,(t 19))]),Cb 21 Qr 16 20] (.ops [Ol 5 false])) .skip)) Zi)))
theorem QhA:In2 prog JK Tryz.f37 Qaq:=jn2 Tryz.func37 (by kernel_rfl)
theorem Qfe:Rt prog Tryz.f38 H0 k A H=Ret H0 k (A 2) H:=QA (by kernel_rfl)
def Qbh:PC:=So [Om 2 (.const (.string (mkS [])))] (.seq (So [Oa 3 0,Oe 4 .lss 3 0] (Sc 4 (Sr [Oa 5 0,Ow 6 (.toInt .u64 (t 5)),Ow 7 (.gen (.unOp .neg 97 (t 6))),Ow 8 (.call X2 [t 7,(Ci 16)]),Ow 9 (.bin .add (.const (.string (mkS [45,48,120]))) (t 8)),Oa 2 9]) .skip)) (Sr [Oa 10 0,Ow 11 (.toInt .u64 (t 10)),Ow 12 (.call X2 [t 11,(Ci 16)]),Ow 13 (.bin .add (.const (.string (mkS [48,120]))) (t 12)),Oa 2 13]))
theorem Qob:In1 prog Xr Tryz.f38 Qbh:=jn1 Tryz.func38 (by kernel_rfl)
theorem YK:Rt prog Tryz.f51 H0 k A H=Ret H0 k (.tuple #[]) H:=Qyp (by kernel_rfl)
def Y4:PC:=So [Oa 2 0,Oq 3 2,Ob 4 0 3,Oc 5 1 4,Ow 6 (.gen (.binOp .eql 50 (t 5) (.const (.pointer none)) 50))] (Sc 6 (.ops [Oa 7 0,Oa 8 0,Ow 9 (.gen (.convert 50 129 (t 8))),Ca 10 W9 9,Ow 11 (.gen (.convert 129 50 (t 10))),Oq 12 7,Ob 13 0 12,Gu 1 13 11]) (So [Oa 14 0,Oq 15 14,Ob 16 0 15,Oc 17 1 16,Oa 18 0,Ow 19 (.gen (.binOp .neq 50 (t 17) (t 18) 50))] (Sc 19 .bad .skip)))
theorem V9:In1 prog Xn Tryz.f51 Y4:=jn1 Tryz.func51 (by kernel_rfl)
theorem Qgs:Rt prog Tryz.f52 H0 k A H=Ret H0 k (A 6) H:=QA (by kernel_rfl)
def Qar:PC:=So [Gr 3 9 0,Gr 4 9 1,Gr 5 3 2,Om 6 (.const (.nilFunc))] (Sr [Ow 7 (.gen (.makeFunc (.func WA) #[] #[t 4,t 3,t 5])),Oa 6 7])
theorem QhB:In3 prog JL Tryz.f52 Qar:=jn3 Tryz.func52 (by kernel_rfl)
theorem Qoc:Rt prog Tryz.f55 H0 k A H=Ret H0 k (A 2) H:=QA (by kernel_rfl)
def Qff:PC:=So [Oe 13 .eql 3 16,Oa 12 13] (Sc 12 (Sr [Om 2 (.const (.string (mkS [111,119,111,114,100,32])))]) (So [Oe 15 .eql 3 32,Oa 14 15] (Sc 14 (Sr [Om 2 (.const (.string (mkS [121,119,111,114,100,32])))]) .skip)))
def Qfg:PC:=So [Oe 11 .eql 3 8,Oa 10 11] (Sc 10 (Sr [Om 2 (.const (.string (mkS [113,119,111,114,100,32])))]) Qff)
def Qfh:PC:=So [Oe 9 .eql 3 4,Oa 8 9] (Sc 8 (Sr [Om 2 (.const (.string (mkS [100,119,111,114,100,32])))]) Qfg)
def Qfi:PC:=So [Oe 7 .eql 3 2,Oa 6 7] (Sc 6 (Sr [Om 2 (.const (.string (mkS [119,111,114,100,32])))]) Qfh)
def QhV:PC:=So [Om 2 (.const (.string (mkS [])))] (.seq (So [Oa 3 0] (.block 0 (So [Oe 5 .eql 3 1,Oa 4 5] (Sc 4 (Sr [Om 2 (.const (.string (mkS [98,121,116,101,32])))]) Qfi)))) (Sr [Om 2 (.const (.string (mkS [])))]))
theorem QpE:In1 prog Qez Tryz.f55 QhV:=jn1 Tryz.func55 (by kernel_rfl)
theorem QeM:Rt prog Tryz.f57 H0 k A H=Ret H0 k (A 4) H:=QA (by kernel_rfl)
def Gt:PC:=So [Om 4 (.const (.string (mkS [])))] (Sr [Oa 5 0,Oa 6 1,Cb 7 W6 5 6,Oa 4 7])
theorem QfV:In2 prog X2 Tryz.f57 Gt:=jn2 Tryz.func57 (by kernel_rfl)
theorem Kr:Rt prog Tryz.f66 H0 k A H=Ret H0 k (.tuple #[]) H:=Qyp (by kernel_rfl)
def J2:PC:=So [Oc 34 1 2,Oa 35 7,Oc 36 1 3,Gp 37 .add 35 36,Ow 38 (.gen (.slice 9 (t 34) none (some (t 37)) none)),Oa 8 38] (.seq (So [Oa 39 0,Oa 40 8,Ow 41 (.callv (t 39) [t 40]),Oh 42 41] (Sc 42 .ret .skip)) (.ops [Oc 43 1 2,Oa 44 7,Oc 45 1 1,Ow 46 (.lenT (t 45)),Gp 47 .add 44 46,Ow 48 (.gen (.slice 9 (t 43) (some (t 47)) none none)),Gu 1 2 48]))
def J3:PC:=.block 3 (So [Oc 29 1 2,Oc 30 1 1,Cb 31 VU 29 30,Oa 7 31] (.seq (So [Oa 32 7,Oe 33 .lss 32 0] (Sc 33 (.exit 2) .skip)) J2))
def J4:PC:=.seq (.block 2 (.loop J3)) (.ops [Oa 49 0,Oc 50 1 2,Ow 51 (.callv (t 49) [t 50])])
def Qdp:PC:=.block 1 (So [Oc 16 1 2,Ca 17 Ke 16,Oa 15 17,Ot 18 15 0,Ot 19 15 1,Oa 5 18,Oa 6 19] (.seq (So [Oa 20 0,Oc 21 1 2,Oa 22 6,Ow 23 (.gen (.slice 9 (t 21) none (some (t 22)) none)),Ow 24 (.callv (t 20) [t 23]),Oh 25 24] (Sc 25 .ret .skip)) (.ops [Oc 26 1 2,Oa 27 6,Ow 28 (.gen (.slice 9 (t 26) (some (t 27)) none none)),Gu 1 2 28])))
def Qdq:PC:=.seq (So [Oc 12 1 2,Ow 13 (.lenT (t 12)),Oe 14 .gtr 13 0] (Sc 14 .skip (.exit 0))) Qdp
def Qdr:PC:=.seq (.block 0 (.loop Qdq)) .ret
def Gw:PC:=.seq (So [Oc 9 1 1,Ow 10 (.lenT (t 9)),Oe 11 .eql 10 0] (Sc 11 Qdr .skip)) J4
theorem QfW:In4 prog WA Tryz.f66 Gw:=jn4 Tryz.func66 (by kernel_rfl)
theorem QjQ:Rt prog Tryz.f68 H0 k A H=Ret H0 k (A 4) H:=QA (by kernel_rfl)
def Qds:PC:=So [Oi 4 0] (Sr [Oa 5 0,Oa 6 1,Cb 7 Xg 5 6,Oa 4 7])
theorem Qlp:In2 prog VU Tryz.f68 Qds:=jn2 Tryz.func68 (by kernel_rfl)
theorem K3:Rt prog Tryz.f71 H0 k A H=Ret H0 k (A 4) H:=QA (by kernel_rfl)
def Kt:PC:=So [Cd 5 155 [.int .u8 0,.int .u8 0,.int .u8 0,.int .u8 0,.int .u8 0,.int .u8 0,.int .u8 0,.int .u8 0,.int .u8 0,.int .u8 0,.int .u8 0,.int .u8 0,.int .u8 0,.int .u8 0,.int .u8 0,.int .u8 0,.int .u8 0,.int .u8 0,.int .u8 0,.int .u8 0,.int .u8 0,.int .u8 0,.int .u8 0,.int .u8 0]] (So [Oa 16 0,Ca 17 VW 16,Oa 6 17] (So [Oa 18 6,Ow 19 (.gen (.slice 155 (t 5) none (some (t 18)) none)),Oa 20 0,Cb 21 K1 19 20] (Sr [Oa 22 6,Ow 23 (.gen (.slice 155 (t 5) none (some (t 22)) none)),Ow 24 (.gen (.convert 51 9 (t 23))),Oa 4 24])))
def Ku:PC:=.seq (So [Oa 11 0,Ow 12 (.bin .lss (t 11) (.const (.int .u64 100)))] (Sc 12 (Sr [Oa 13 0,Ow 14 (.toInt .i64 (t 13)),Ca 15 Qc2 14,Oa 4 15]) .skip)) Kt
def Yy:PC:=So [Om 4 (.const (.string (mkS [])))] (.seq (So [Oa 9 1,Oe 10 .eql 9 10] (Sc 10 Ku .skip)) (So [Oa 26 0,Oa 27 1,Ow 28 (.call W7 [(.const (.slice none 0 0)),t 26,t 27,(.const (.bool false)),(.const (.bool false))]),Oa 25 28,Ot 29 25 0,Ot 30 25 1,Oa 7 29,Oa 8 30] (Sr [Oa 31 8,Oa 4 31])))
theorem Vc:In2 prog W6 Tryz.f71 Yy:=jn2 Tryz.func71 (by kernel_rfl)
theorem Yz:Rt prog Tryz.f85 H0 k A H=Ret H0 k (A 4) H:=QA (by kernel_rfl)
def K4:PC:=So [Oa 108 0,Oa 109 8,Ow 110 (.gen (.slice 9 (t 108) (some (t 109)) none none)),Oa 111 1,Cb 112 Yw 110 111,Oa 12 112] (.seq (So [Oa 113 12,Oe 114 .geq 113 0] (Sc 114 (Sr [Oa 115 12,Oa 116 8,Gp 117 .add 115 116,Oa 4 117]) .skip)) (Sr [Oi 4 (-1)]))
def K5:PC:=So [Oa 133 0,Oa 134 8,Ow 135 (.gen (.slice 9 (t 133) (some (t 134)) none none)),Oa 136 1,Cb 137 Zf 135 136,Oa 13 137] (.seq (So [Oa 138 13,Oe 139 .lss 138 0] (Sc 139 (Sr [Oi 4 (-1)]) .skip)) (Sr [Oa 140 8,Oa 141 13,Gp 142 .add 140 141,Oa 4 142]))
def K6:PC:=So [Oa 118 5,Ow 119 (.ld false 1 (.global XN)),Gp 120 .gtr 118 119,Oa 121 120,Oo 122 10 121 true,Oo 123 8 121 true,Og 124 (.bin .shr (t 123) (.const (.int .u64 4))) 121 true,Og 125 (.bin .add (Ci 4) (t 124)) 121 true,Gf 126 .geq 122 125 121 true,Oj 127 121 126,Oa 128 127,Oo 129 8 128 true,Oo 130 9 128 true,Gf 131 .lss 129 130 128 true,Oj 132 128 131] (Sc 132 K5 .skip)
def K7:PC:=So [Oa 95 8,Oe 96 .add 95 1,Oa 8 96] (So [Oa 97 10,Oe 98 .add 97 1,Oa 10 98] (So [Oa 99 5,Ow 100 (.ld false 1 (.global XN)),Gp 101 .leq 99 100,Oa 102 101,Oo 103 10 102 true,Oo 104 8 102 true,Og 105 (.call Qbd [t 104]) 102 true,Gf 106 .gtr 103 105 102 true,Oj 107 102 106] (Sc 107 K4 K6)))
def K8:PC:=.seq (So [Oa 78 0,Oa 79 8,Oe 80 .add 79 1,Ow 81 (.chr (t 78) (t 80)),Oa 82 7,Gp 83 .eql 81 82,Oa 84 83,Oo 85 0 84 true,Oo 86 8 84 true,Oo 87 8 84 true,Oo 88 5 84 true,Gf 89 .add 87 88 84 true,Og 90 (.gen (.slice 9 (t 85) (some (t 86)) (some (t 89)) none)) 84 true,Oo 91 1 84 true,Gf 92 .eql 90 91 84 true,Oj 93 84 92] (Sc 93 (Sr [Oa 94 8,Oa 4 94]) .skip)) K7
def K9:PC:=So [Oa 65 0,Oa 66 8,Oe 67 .add 66 1,Oa 68 9,Ow 69 (.gen (.slice 9 (t 65) (some (t 67)) (some (t 68)) none)),Oa 70 6,Cb 71 Wb 69 70,Oa 11 71] (.seq (So [Oa 72 11,Oe 73 .lss 72 0] (Sc 73 (Sr [Oi 4 (-1)]) .skip)) (.ops [Oa 74 8,Oa 75 11,Oe 76 .add 75 1,Gp 77 .add 74 76,Oa 8 77]))
def Ga:PC:=.block 2 (.seq (So [Oa 60 0,Oa 61 8,Ow 62 (.chr (t 60) (t 61)),Oa 63 6,Gp 64 .neq 62 63] (Sc 64 K9 .skip)) K8)
def Gg:PC:=.seq (So [Oa 57 8,Oa 58 9,Gp 59 .lss 57 58] (Sc 59 .skip (.exit 1))) Ga
def Gh:PC:=So [Oa 48 1,Ow 49 (.chr (t 48) (Ci 0)),Oa 6 49] (So [Oa 50 1,Ow 51 (.chr (t 50) (Ci 1)),Oa 7 51] (So [Oi 8 0] (So [Oa 52 0,Ow 53 (.lenT (t 52)),Oa 54 5,Gp 55 .sub 53 54,Oe 56 .add 55 1,Oa 9 56] (So [Oi 10 0] (.seq (.block 1 (.loop Gg)) (Sr [Oi 4 (-1)]))))))
def Kv:PC:=So [Oa 37 5,Ow 38 (.ld false 1 (.global XN)),Gp 39 .leq 37 38,Oa 40 39,Oo 41 0 40 true,Og 42 (.lenT (t 41)) 40 true,Ge 43 .leq 42 64 40 true,Oj 44 40 43,Oa 36 44] (Sc 36 (Sr [Oa 45 0,Oa 46 1,Cb 47 Yw 45 46,Oa 4 47]) .skip)
def Kw:PC:=So [Oa 32 5,Oa 33 0,Ow 34 (.lenT (t 33)),Gp 35 .geq 32 34,Oa 31 35] (Sc 31 (Sr [Oi 4 (-1)]) Kv)
def X4:PC:=So [Oa 25 5,Oe 26 .eql 25 1,Oa 24 26] (Sc 24 (Sr [Oa 27 0,Oa 28 1,Ow 29 (.chr (t 28) (Ci 0)),Cb 30 Wb 27 29,Oa 4 30]) Kw)
def YL:PC:=So [Oi 4 0] (So [Oa 14 1,Ow 15 (.lenT (t 14)),Oa 5 15] (.seq (.block 0 (So [Oa 17 5,Oe 18 .eql 17 0,Oa 19 18,Oo 20 1 19 false,Oo 21 0 19 false,Gf 22 .eql 20 21 19 false,Gk 23 19 22,Oa 16 23] (Sc 16 (Sr [Oi 4 0]) X4))) Gh))
theorem VF:In2 prog Xg Tryz.f85 YL:=jn2 Tryz.func85 (by kernel_rfl)
theorem Gi:Rt prog Tryz.f92 H0 k A H=Ret H0 k (.tuple #[A 10,A 11]) H:=QmT (by kernel_rfl)
def X5:PC:=.seq (So [Oa 94 4] (Sc 94 (Sr [Oa 95 0,Oa 96 13,Ow 97 (.gen (.slice 207 (t 12) (some (t 96)) none none)),Ow 98 (.app 5 1 1 (t 95) (t 97)),Oa 10 98]) .skip)) (Sr [Oa 99 13,Ow 100 (.gen (.slice 207 (t 12) (some (t 99)) none none)),Ow 101 (.gen (.convert 51 9 (t 100))),Oa 11 101])
def X6:PC:=.seq (So [Oa 89 3] (Sc 89 (So [Oa 90 13,Oe 91 .sub 90 1,Oa 13 91] (.ops [Oa 92 13,Ow 93 (.gen (.indexAddr 207 (t 12) (t 92))),Ov (.st 1 (t 93) (.const (.int .u8 45)))])) .skip)) X5
def X7:PC:=.block 1 (So [Oa 47 13,Oe 48 .sub 47 1,Oa 13 48] (So [Oa 49 13,Oa 50 1,Oa 51 16,Gp 52 .and 50 51,Ow 53 (.chr (.const (.string (mkS [48,49,50,51,52,53,54,55,56,57,97,98,99,100,101,102,103,104,105,106,107,108,109,110,111,112,113,114,115,116,117,118,119,120,121,122]))) (t 52)),Ow 54 (.gen (.indexAddr 207 (t 12) (t 49))),Gu 1 54 53] (.ops [Oa 55 1,Oa 56 14,Gp 57 .shr 55 56,Oa 1 57])))
def WK:PC:=.seq (So [Oa 44 1,Oa 45 15,Gp 46 .geq 44 45] (Sc 46 .skip (.exit 0))) X7
def X8:PC:=So [Oa 35 2,Ow 36 (.toInt .u64 (t 35)),Ca 37 XK 36,Ow 38 (.toInt .u64 (t 37)),Oa 14 38] (So [Oa 39 2,Ow 40 (.toInt .u64 (t 39)),Oa 15 40] (So [Oa 41 2,Ow 42 (.toInt .u64 (t 41)),Ow 43 (.bin .sub (t 42) (.const (.int .u64 1))),Oa 16 43] (.seq (.block 0 (.loop WK)) (So [Oa 58 13,Oe 59 .sub 58 1,Oa 13 59] (.ops [Oa 60 13,Oa 61 1,Ow 62 (.chr (.const (.string (mkS [48,49,50,51,52,53,54,55,56,57,97,98,99,100,101,102,103,104,105,106,107,108,109,110,111,112,113,114,115,116,117,118,119,120,121,122]))) (t 61)),Ow 63 (.gen (.indexAddr 207 (t 12) (t 60))),Gu 1 63 62])))))
def Kx:PC:=.block 3 (So [Oa 69 13,Oe 70 .sub 69 1,Oa 13 70] (So [Oa 71 1,Oa 72 17,Gp 73 .quo 71 72,Oa 18 73] (So [Oa 74 13,Oa 75 1,Oa 76 18,Oa 77 17,Gp 78 .mul 76 77,Gp 79 .sub 75 78,Ow 80 (.chr (.const (.string (mkS [48,49,50,51,52,53,54,55,56,57,97,98,99,100,101,102,103,104,105,106,107,108,109,110,111,112,113,114,115,116,117,118,119,120,121,122]))) (t 79)),Ow 81 (.gen (.indexAddr 207 (t 12) (t 74))),Gu 1 81 80] (.ops [Oa 82 18,Oa 1 82]))))
def Ky:PC:=.seq (So [Oa 66 1,Oa 67 17,Gp 68 .geq 66 67] (Sc 68 .skip (.exit 2))) Kx
def Kz:PC:=So [Oa 64 2,Ow 65 (.toInt .u64 (t 64)),Oa 17 65] (.seq (.block 2 (.loop Ky)) (So [Oa 83 13,Oe 84 .sub 83 1,Oa 13 84] (.ops [Oa 85 13,Oa 86 1,Ow 87 (.chr (.const (.string (mkS [48,49,50,51,52,53,54,55,56,57,97,98,99,100,101,102,103,104,105,106,107,108,109,110,111,112,113,114,115,116,117,118,119,120,121,122]))) (t 86)),Ow 88 (.gen (.indexAddr 207 (t 12) (t 85))),Gu 1 88 87])))
def X9:PC:=.seq (So [Oa 33 2,Ca 34 Ym 33] (Sc 34 X8 Kz)) X6
def XE:PC:=So [Cd 12 207 [.int .u8 0,.int .u8 0,.int .u8 0,.int .u8 0,.int .u8 0,.int .u8 0,.int .u8 0,.int .u8 0,.int .u8 0,.int .u8 0,.int .u8 0,.int .u8 0,.int .u8 0,.int .u8 0,.int .u8 0,.int .u8 0,.int .u8 0,.int .u8 0,.int .u8 0,.int .u8 0,.int .u8 0,.int .u8 0,.int .u8 0,.int .u8 0,.int .u8 0,.int .u8 0,.int .u8 0,.int .u8 0,.int .u8 0,.int .u8 0,.int .u8 0,.int .u8 0,.int .u8 0,.int .u8 0,.int .u8 0,.int .u8 0,.int .u8 0,.int .u8 0,.int .u8 0,.int .u8 0,.int .u8 0,.int .u8 0,.int .u8 0,.int .u8 0,.int .u8 0,.int .u8 0,.int .u8 0,.int .u8 0,.int .u8 0,.int .u8 0,.int .u8 0,.int .u8 0,.int .u8 0,.int .u8 0,.int .u8 0,.int .u8 0,.int .u8 0,.int .u8 0,.int .u8 0,.int .u8 0,.int .u8 0,.int .u8 0,.int .u8 0,.int .u8 0,.int .u8 0]] (So [Oi 13 65] (.seq (So [Oa 30 3] (Sc 30 (.ops [Oa 31 1,Ow 32 (.gen (.unOp .neg 97 (t 31))),Oa 1 32]) .skip)) X9))
def YA:PC:=So [Oz 10,Om 11 (.const (.string (mkS [])))] (.seq (So [Oa 19 2,Oe 20 .lss 19 2,Oa 21 20,Oo 22 2 21 false,Ge 23 .eql 22 10 21 false,Gk 24 21 23,Oa 25 24,Oo 26 2 25 false,Ge 27 .gtr 26 36 25 false,Gk 28 25 27] (Sc 28 (.ops [Ow 29 (.mkIf 9 (.const (.string (mkS [115,116,114,99,111,110,118,58,32,105,108,108,101,103,97,108,32,65,112,112,101,110,100,73,110,116,47,70,111,114,109,97,116,73,110,116,32,98,97,115,101])))),Ov (.gen (.panic (t 29)))]) .skip)) XE)
theorem Vd:In5 prog W7 Tryz.f92 YA:=jn5 Tryz.func92 (by kernel_rfl)
theorem JN:Rt prog Tryz.f174 H0 k A H=Ret H0 k (A 4) H:=QA (by kernel_rfl)
def XF:PC:=So [Oi 4 0] (Sr [Oa 5 0,Oa 6 1,Cb 7 Q5 5 6,Oa 4 7])
theorem Kf:In2 prog Wb Tryz.f174 XF:=jn2 Tryz.func174 (by kernel_rfl)
theorem QrB:Rt prog Tryz.f27 H0 k A H=Ret H0 k (A 2) H:=QA (by kernel_rfl)
def Qmt:PC:=So [Gr 1 3 0,Oz 2] (Sr [Oc 3 1 1,Oc 4 1 1,Ow 5 (.gen (.makeFunc (.func Ko) #[] #[t 1])),Cc 6 VT 3 4 5,Oa 2 6])
theorem Qts:In1 prog JJ Tryz.f27 Qmt:=jn1 Tryz.func27 (by kernel_rfl)
theorem QjR:Rt prog Tryz.f45 H0 k A H=Ret H0 k (A 6) H:=QA (by kernel_rfl)
def Qdt:PC:=So [Oz 6] (So [Oz 7] (.seq (So [Ow 12 (.call QcY []),Ou 13 12,Oi 14 0] (.block 0 (.loop (So [Gp 15 .lss 14 13] (.seq (Sc 15 .skip (.exit 0)) (.seq (.block 1 (So [Ox 16 3 12 14,Od 17 3 16,Cd 9 Ww [.int .i64 0,.int .i64 0,.nilFunc],Gu 3 9 17] (.seq (So [Oa 18 1,Ob 19 0 9,Oc 20 1 19,Gp 21 .lss 18 20,Oa 22 21,Oo 23 0 22 false,Gb 24 1 9 22 false,Gc 25 1 24 22 false,Gf 26 .gtr 23 25 22 false,Gk 27 22 26] (Sc 27 (.exit 1) .skip)) (So [Ob 28 2 9,Oc 29 1 28,Ow 30 (.callv (t 29) []),Ou 31 30,Oi 32 0] (.block 2 (.loop (So [Gp 33 .lss 32 31] (.seq (Sc 33 .skip (.exit 2)) (.seq (.block 3 (So [Ox 34 10 30 32,Od 35 10 34,Cd 11 Qf [.int .i64 0,.slice none 0 0,.slice none 0 0,.int .i64 0,.int .i64 0,.int .i64 0,.int .i64 0,.int .i64 0,.bool false,.int .i64 0],Gu 10 11 35] (So [Oa 36 2,Od 37 10 11,Ow 38 (.callv (t 36) [t 37])] (Sc 38 (.ops [Oa 39 7,Od 40 10 11,Ow 41 (.bslice Qf 10 1 [.int .i64 0,.slice none 0 0,.slice none 0 0,.int .i64 0,.int .i64 0,.int .i64 0,.int .i64 0,.int .i64 0,.bool false,.int .i64 0] [(0,(t 40))]),Ow 42 (.app Qf 10 112 (t 39) (t 41)),Oa 7 42]) .skip)))) (.ops [Oe 43 .add 32 1,Oa 32 43])))))))))) (.ops [Oe 44 .add 14 1,Oa 14 44]))))))) (Sr [Oa 45 7,Oa 6 45])))
theorem Qlq:In3 prog VT Tryz.f45 Qdt:=jn3 Tryz.func45 (by kernel_rfl)
theorem Qod:Rt prog Tryz.f46 H0 k A H=Ret H0 k (A 3) H:=QA (by kernel_rfl)
def QhW:PC:=So [Gr 2 Qf 0,Ol 3 false] (Sr [Ob 4 0 2,Oc 5 1 4,Oc 6 1 1,Gp 7 .eql 5 6,Oa 3 7])
theorem QpF:In2 prog Ko Tryz.f46 QhW:=jn2 Tryz.func46 (by kernel_rfl)
theorem QmV:Rt prog Tryz.f64 H0 k A H=Ret H0 k (A 0) H:=QA (by kernel_rfl)
def Qgt:PC:=So [Oz 0] (Sr [Ow 1 (.build [.int .i64 0,.int .i64 0,.nilFunc] [(0,1,(Ci 1)),(1,1,(Ci 16)),(2,1,(.func QeD))]),Ow 2 (.build [.int .i64 0,.int .i64 0,.nilFunc] [(0,1,(Ci 16)),(1,1,(Ci 47)),(2,1,(.func QaL))]),Ow 3 (.build [.int .i64 0,.int .i64 0,.nilFunc] [(0,1,(Ci 48)),(1,1,(Ci 115)),(2,1,(.func Qb8))]),Ow 4 (.build [.int .i64 0,.int .i64 0,.nilFunc] [(0,1,(Ci 116)),(1,1,(Ci 135)),(2,1,(.func Qb9))]),Ow 5 (.build [.int .i64 0,.int .i64 0,.nilFunc] [(0,1,(Ci 136)),(1,1,(Ci 262)),(2,1,(.func QeE))]),Ow 6 (.build [.int .i64 0,.int .i64 0,.nilFunc] [(0,1,(Ci 263)),(1,1,(Ci 322)),(2,1,(.func QiI))]),Ow 7 (.bslice Ww 3 6 [.int .i64 0,.int .i64 0,.nilFunc,.int .i64 0,.int .i64 0,.nilFunc,.int .i64 0,.int .i64 0,.nilFunc,.int .i64 0,.int .i64 0,.nilFunc,.int .i64 0,.int .i64 0,.nilFunc,.int .i64 0,.int .i64 0,.nilFunc] [(0,(t 1)),(1,(t 2)),(2,(t 3)),(3,(t 4)),(4,(t 5)),(5,(t 6))]),Oa 0 7])
theorem Qoe:In0 prog QcY Tryz.f64 Qgt:=jn0 Tryz.func64 (by kernel_rfl)
theorem Qof:Rt prog Tryz.f129 H0 k A H=Ret H0 k (A 4) H:=QA (by kernel_rfl)
def QhX:PC:=So [Gr 2 Qf 0,Oi 4 0] (Sr [Ob 5 2 2,Oc 6 1 5,Oa 7 1,Cb 8 WG 6 7,Oa 4 8])
theorem QpG:In2 prog QZ Tryz.f129 QhX:=jn2 Tryz.func129 (by kernel_rfl)
theorem Xb:Rt prog Tryz.f134 H0 k A H=Ret H0 k (A 4) H:=QA (by kernel_rfl)
def KA:PC:=So [Gr 2 Qc 0,Gr 3 Qq 1,Oi 4 0] (.seq (So [Ob 5 1 2,Oc 6 1 5,Ow 7 (.call Wl [t 6,(.func Wg)]),Oh 8 7,Oa 9 8,Gb 10 0 3 9 false,Gc 11 1 10 9 false,Og 12 (.lenS (t 11)) 9 false,Ge 13 .eql 12 0 9 false,Gk 14 9 13] (Sc 14 (Sr [Oi 4 (-1)]) .skip)) (.seq (So [Ob 15 0 3,Oc 16 1 15,Oy 17 1 16 0,Oc 18 1 17,Ow 19 (.bin .and (t 18) (.const (.int .u8 7))),Ow 20 (.bin .eql (t 19) (.const (.int .u8 4)))] (Sc 20 (Sr [Ob 21 0 3,Oc 22 1 21,Ou 23 22,Oe 24 .sub 23 2,Oa 4 24]) .skip)) (Sr [Ob 25 0 3,Oc 26 1 25,Ou 27 26,Oe 28 .sub 27 1,Oa 4 28])))
theorem QeN:In2 prog Ze Tryz.f134 KA:=jn2 Tryz.func134 (by kernel_rfl)
theorem W4:Rt prog Tryz.f190 H0 k A H=Ret H0 k (A 4) H:=QA (by kernel_rfl)
def YB:PC:=So [Oi 4 0] (.seq (So [Oa 6 0,Ou 7 6,Oi 8 0] (.block 0 (.loop (So [Gp 9 .lss 8 7] (.seq (Sc 9 .skip (.exit 0)) (.seq (.block 1 (So [Oa 10 8,Oa 5 10] (So [Oa 11 1,Oa 12 0,Oa 13 5,Ox 14 1 12 13,Oc 15 1 14,Gp 16 .eql 11 15] (Sc 16 (Sr [Oa 17 5,Oa 4 17]) .skip)))) (.ops [Oe 18 .add 8 1,Oa 8 18]))))))) (Sr [Oi 4 (-1)]))
theorem J5:In2 prog WG Tryz.f190 YB:=jn2 Tryz.func190 (by kernel_rfl)
end Go.Proofs.YtiepokkmhhginaaGreatDoor.code
