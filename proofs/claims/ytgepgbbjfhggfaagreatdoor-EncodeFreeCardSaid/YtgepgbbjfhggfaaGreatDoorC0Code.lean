/- The code of the functions that are reached, resolved. -/
import Derived.Test.YtgepgbbjfhggfaaGreatDoorAbD
import Derived.Test.YtgepgbbjfhggfaaGreatDoorProg
import Derived.KernelRfl
set_option linter.unusedVariables false
set_option maxRecDepth 100000
noncomputable section
namespace Go.Proofs.YtgepgbbjfhggfaaGreatDoor.code
open Go.Ab
variable (H0 H:Qa) (k:Value->Qa->Prop) (A:Env)
noncomputable abbrev prog:Program:=Tryz.prog
abbrev Xz:FuncId:=6
abbrev XG:FuncId:=7
abbrev JL:FuncId:=9
abbrev Wb:FuncId:=11
abbrev YY:FuncId:=12
abbrev Kn:FuncId:=14
abbrev WY:FuncId:=15
abbrev ZI:FuncId:=17
abbrev Wz:FuncId:=20
abbrev Xt:FuncId:=21
abbrev QfC:FuncId:=22
abbrev ZJ:FuncId:=23
abbrev Qv:FuncId:=24
abbrev QU:FuncId:=25
abbrev Qr:FuncId:=26
abbrev Xj:FuncId:=27
abbrev XW:FuncId:=28
abbrev Z6:FuncId:=29
abbrev Gg:FuncId:=30
abbrev YZ:FuncId:=35
abbrev Vy:FuncId:=36
abbrev Ko:FuncId:=37
abbrev QV:FuncId:=38
abbrev Yw:FuncId:=39
abbrev Zg:FuncId:=40
abbrev Y0:FuncId:=42
abbrev XN:FuncId:=43
abbrev J6:FuncId:=44
abbrev Yi:FuncId:=45
abbrev Kq:FuncId:=46
abbrev WZ:FuncId:=47
abbrev Xl:FuncId:=48
abbrev Gh:FuncId:=49
abbrev QdY:FuncId:=50
abbrev QX:FuncId:=51
abbrev Qcx:FuncId:=61
abbrev YH:FuncId:=62
abbrev QbI:FuncId:=63
abbrev QhX:FuncId:=64
abbrev QaG:FuncId:=65
abbrev Wj:FuncId:=66
abbrev Vz:FuncId:=67
abbrev Wv:FuncId:=68
abbrev WK:FuncId:=69
abbrev WL:FuncId:=70
abbrev Y1:FuncId:=71
abbrev XX:FuncId:=72
abbrev QdZ:FuncId:=73
abbrev Qcy:FuncId:=74
abbrev WC:FuncId:=75
abbrev Qd0:FuncId:=97
abbrev Qal:FuncId:=98
abbrev QbJ:FuncId:=99
abbrev QbK:FuncId:=100
abbrev Qd1:FuncId:=101
abbrev QhY:FuncId:=102
abbrev Qcz:FuncId:=103
abbrev QfD:FuncId:=104
abbrev Qd2:FuncId:=105
abbrev Qd3:FuncId:=106
abbrev QhZ:FuncId:=107
abbrev QbL:FuncId:=108
abbrev Yx:FuncId:=109
abbrev QcA:FuncId:=110
abbrev QcB:FuncId:=111
abbrev Zh:FuncId:=112
abbrev QcC:FuncId:=113
abbrev VA:FuncId:=114
abbrev Kr:FuncId:=115
abbrev QcD:FuncId:=212
abbrev VB:FuncId:=213
abbrev Xm:FuncId:=214
abbrev Qn:FuncId:=215
abbrev VC:FuncId:=216
abbrev VD:FuncId:=217
abbrev VE:FuncId:=218
abbrev VF:FuncId:=219
abbrev VG:FuncId:=220
abbrev VH:FuncId:=221
abbrev VI:FuncId:=222
abbrev VJ:FuncId:=223
abbrev Qs:FuncId:=224
abbrev Gi:FuncId:=225
abbrev Gj:FuncId:=226
abbrev Gl:FuncId:=227
abbrev Gm:FuncId:=228
abbrev Gn:FuncId:=229
abbrev Gq:FuncId:=230
abbrev Gs:FuncId:=231
abbrev Gt:FuncId:=232
abbrev Gw:FuncId:=233
abbrev Gz:FuncId:=234
abbrev GA:FuncId:=235
abbrev GB:FuncId:=236
abbrev GC:FuncId:=237
abbrev GD:FuncId:=238
abbrev GE:FuncId:=239
abbrev GF:FuncId:=240
abbrev GG:FuncId:=241
abbrev GH:FuncId:=242
abbrev GI:FuncId:=243
abbrev GJ:FuncId:=244
abbrev GL:FuncId:=245
abbrev GM:FuncId:=246
abbrev Qd4:FuncId:=247
abbrev QZ:FuncId:=248
abbrev Vm:FuncId:=249
abbrev Z7:FuncId:=250
abbrev QfE:FuncId:=251
abbrev WM:FuncId:=252
abbrev Zo:FuncId:=253
abbrev QaH:FuncId:=254
abbrev QcE:FuncId:=343
abbrev GN:FuncId:=344
abbrev Qd5:FuncId:=345
abbrev VK:FuncId:=346
abbrev QcF:FuncId:=347
abbrev QcG:FuncId:=348
abbrev Qd6:FuncId:=349
abbrev WD:FuncId:=350
abbrev ZK:FuncId:=351
abbrev XM:FuncId:=352
abbrev Qd7:FuncId:=353
abbrev Wk:FuncId:=354
abbrev Wc:FuncId:=355
abbrev G7:FuncId:=356
abbrev Qkz:FuncId:=357
abbrev GO:FuncId:=358
abbrev QkA:FuncId:=359
abbrev QgB:FuncId:=360
abbrev VM:FuncId:=361
abbrev Qd8:FuncId:=377
abbrev XO:FuncId:=378
abbrev Qam:FuncId:=379
abbrev QfF:FuncId:=380
abbrev Wn:FuncId:=381
abbrev ZL:FuncId:=382
abbrev ZM:FuncId:=383
abbrev G8:FuncId:=384
abbrev Va:FuncId:=385
abbrev WE:FuncId:=386
abbrev QfG:FuncId:=387
abbrev Qc0:FuncId:=388
abbrev Qan:FuncId:=389
abbrev Qd9:FuncId:=390
abbrev QfH:FuncId:=391
abbrev Qh0:FuncId:=392
abbrev VN:FuncId:=403
abbrev Zr:FuncId:=414
abbrev Zs:FuncId:=415
abbrev Zt:FuncId:=416
abbrev Qea:FuncId:=417
abbrev Zu:FuncId:=418
abbrev Zv:FuncId:=419
abbrev Zw:FuncId:=420
abbrev Qb:TypeId:=24
abbrev Ql:TypeId:=41
abbrev Qe:TypeId:=45
abbrev QJ:TypeId:=54
abbrev QK:TypeId:=56
abbrev Qd:TypeId:=58
abbrev Wt:TypeId:=88
abbrev QH:TypeId:=97
abbrev Qo:TypeId:=120
abbrev Qk:TypeId:=131
abbrev Y2:TypeId:=134
abbrev Wd:TypeId:=146
abbrev YI:TypeId:=294
abbrev WF:TypeId:=320
abbrev Qsh:TypeId:=188
abbrev Qmy:TypeId:=3
theorem W7:Rt prog Tryz.f12 H0 k A H=Ret H0 k (A 4) H:=QC (by kernel_rfl)
def J7:PC:=So [Gr 2 Qb 0,Gr 3 Qb 1,Ol 4 false] (Sr [Ob 5 0 2,Oc 6 1 5,Ob 7 0 3,Oc 8 1 7,Gp 9 .eql 6 8,Oa 10 9,Gb 11 1 2 10 true,Gc 12 1 11 10 true,Gb 13 1 3 10 true,Gc 14 1 13 10 true,Og 15 (.call YZ [t 12,t 14]) 10 true,Oj 16 10 15,Oa 4 16])
theorem Qc1:In2 prog YY Tryz.f12 J7:=jn2 Tryz.func12 (by kernel_rfl)
theorem Qqx:Rt prog Tryz.f15 H0 k A H=Ret H0 k (A 2) H:=QC (by kernel_rfl)
def QlD:PC:=So [Gr 1 3 0,Oz 2] (Sr [Oc 3 1 1,Oc 4 1 1,Ow 5 (.gen (.makeFunc (.func Ko) #[] #[t 1])),Cc 6 Vy 3 4 5,Oa 2 6])
theorem Qsi:In1 prog WY Tryz.f15 QlD:=jn1 Tryz.func15 (by kernel_rfl)
theorem W0:Rt prog Tryz.f17 H0 k A H=ldR true 2 (A 2) H λv=>Ret H0 k (.tuple #[v,A 3]) H:=Qvy (ty:=24) (by kernel_rfl) (by kernel_rfl) (by kernel_rfl)
def Qex:PC:=So [Gr 1 Qb 0,Cd 2 Qb [.int .i64 0,.slice none 0 0],Oi 3 0] (.seq (So [Od 11 2 1,Ca 12 Xt 11,Oa 4 12] (So [Oa 13 4,Oe 14 .neq 13 0] (Sc 14 (Sr [Ow 15 (.build [.int .i64 0,.slice none 0 0] []),Oa 16 4,Gu 2 2 15,Oa 3 16]) .skip))) (So [Ob 17 0 1,Oc 18 1 17,Ca 19 WY 18,Oa 5 19] (So [Ob 20 1 1,Oc 21 1 20,Ow 22 (.call QV [t 21,(.func Yw)]),Oa 6 22] (.seq (So [Oa 23 6,Oe 24 .lss 23 0,Oa 25 24,Gb 26 1 1 25 false,Gc 27 1 26 25 false,Oo 28 6 25 false,Gy 29 11 27 28 25 false,Gb 30 3 29 25 false,Gb 31 6 30 25 false,Gc 32 1 31 25 false,Ge 33 .neq 32 0 25 false,Gk 34 25 33,Oa 35 34,Gd 36 2 1 35 false,Oo 37 5 35 false,Og 38 (.call Z6 [t 36,t 37]) 35 false,Og 39 (.lenS (t 38)) 35 false,Ge 40 .gtr 39 0 35 false,Gk 41 35 40] (Sc 41 (Sr [Od 42 2 1,Ca 43 Zg 42,Gu 2 2 43,Oi 3 0]) .skip)) (So [Oz 7] (.seq (So [Ow 44 (.bslice 3 1 6 Ze6 [(0,(Ci 1)),(1,(Ci 2)),(2,(Ci 4)),(3,(Ci 8)),(4,(Ci 16)),(5,(Ci 32))]),Ou 45 44,Oi 46 0] (.block 0 (.loop (So [Gp 47 .lss 46 45] (.seq (Sc 47 .skip (.exit 0)) (.seq (.block 1 (So [Ox 48 1 44 46,Oc 49 1 48,Oa 9 49] (So [Od 50 2 1,Ca 51 Zg 50,Cd 10 Qb [.int .i64 0,.slice none 0 0],Gu 2 10 51] (So [Ob 52 1 10,Oc 53 1 52,Oa 54 6,Oa 55 9,Ox 56 11 53 54,Ob 57 3 56,Ob 58 6 57,Gu 1 58 55] (So [Od 59 2 10,Ca 60 Xt 59,Oe 61 .eql 60 0,Oa 62 61,Gd 63 2 10 62 true,Oo 64 5 62 true,Og 65 (.call Z6 [t 63,t 64]) 62 true,Og 66 (.lenS (t 65)) 62 true,Ge 67 .gtr 66 0 62 true,Oj 68 62 67] (Sc 68 (.ops [Oa 69 7,Od 70 2 10,Ow 71 (.bslice Qb 2 1 [.int .i64 0,.slice none 0 0] [(0,(t 70))]),Ow 72 (.app Qb 2 32 (t 69) (t 71)),Oa 7 72]) .skip)))))) (.ops [Oe 73 .add 46 1,Oa 46 73]))))))) (.seq (So [Oa 74 7,Ou 75 74] (.block 2 (So [Oe 77 .eql 75 0,Oa 76 77] (Sc 76 (Sr [Ow 78 (.build [.int .i64 0,.slice none 0 0] []),Gu 2 2 78,Oi 3 8]) (So [Oe 80 .eql 75 1,Oa 79 80] (Sc 79 (Sr [Oa 81 7,Oy 82 2 81 0,Od 83 2 82,Gu 2 2 83,Oi 3 0]) .skip)))))) (Sr [Ow 84 (.build [.int .i64 0,.slice none 0 0] []),Gu 2 2 84,Oi 3 2]))))))))
theorem QlY:In1 prog ZI Tryz.f17 Qex:=jn1 Tryz.func17 (by kernel_rfl)
theorem Yj:Rt prog Tryz.f35 H0 k A H=Ret H0 k (A 4) H:=QC (by kernel_rfl)
def J8:PC:=So [Ol 4 false] (.seq (So [Oa 6 0,Ou 7 6,Oa 8 1,Ou 9 8,Gp 10 .neq 7 9] (Sc 10 (Sr [Ol 4 false]) .skip)) (.seq (So [Oi 5 0] (.block 0 (.loop (.seq (So [Oa 11 5,Oa 12 0,Ou 13 12,Gp 14 .lss 11 13] (Sc 14 .skip (.exit 0))) (.seq (.block 1 (So [Oa 17 0,Oa 18 5,Ox 19 11 17 18,Od 20 11 19,Oa 21 1,Oa 22 5,Ox 23 11 21 22,Od 24 11 23,Ow 25 (.gen (.binOp .neq 58 (t 20) (t 24) 58))] (Sc 25 (Sr [Ol 4 false]) .skip))) (.ops [Oa 15 5,Oe 16 .add 15 1,Oa 5 16])))))) (Sr [Ol 4 true])))
theorem Qc2:In2 prog YZ Tryz.f35 J8:=jn2 Tryz.func35 (by kernel_rfl)
theorem Qi3:Rt prog Tryz.f36 H0 k A H=Ret H0 k (A 6) H:=QC (by kernel_rfl)
def Qc3:PC:=So [Oz 6] (So [Oz 7] (.seq (So [Ow 12 (.call Qcx []),Ou 13 12,Oi 14 0] (.block 0 (.loop (So [Gp 15 .lss 14 13] (.seq (Sc 15 .skip (.exit 0)) (.seq (.block 1 (So [Ox 16 3 12 14,Od 17 3 16,Cd 9 Wt [.int .i64 0,.int .i64 0,.nilFunc],Gu 3 9 17] (.seq (So [Oa 18 1,Ob 19 0 9,Oc 20 1 19,Gp 21 .lss 18 20,Oa 22 21,Oo 23 0 22 false,Gb 24 1 9 22 false,Gc 25 1 24 22 false,Gf 26 .gtr 23 25 22 false,Gk 27 22 26] (Sc 27 (.exit 1) .skip)) (So [Ob 28 2 9,Oc 29 1 28,Ow 30 (.callv (t 29) []),Ou 31 30,Oi 32 0] (.block 2 (.loop (So [Gp 33 .lss 32 31] (.seq (Sc 33 .skip (.exit 2)) (.seq (.block 3 (So [Ox 34 10 30 32,Od 35 10 34,Cd 11 Qe [.int .i64 0,.slice none 0 0,.slice none 0 0,.int .i64 0,.int .i64 0,.int .i64 0,.int .i64 0,.int .i64 0,.bool false,.int .i64 0],Gu 10 11 35] (So [Oa 36 2,Od 37 10 11,Ow 38 (.callv (t 36) [t 37])] (Sc 38 (.ops [Oa 39 7,Od 40 10 11,Ow 41 (.bslice Qe 10 1 [.int .i64 0,.slice none 0 0,.slice none 0 0,.int .i64 0,.int .i64 0,.int .i64 0,.int .i64 0,.int .i64 0,.bool false,.int .i64 0] [(0,(t 40))]),Ow 42 (.app Qe 10 112 (t 39) (t 41)),Oa 7 42]) .skip)))) (.ops [Oe 43 .add 32 1,Oa 32 43])))))))))) (.ops [Oe 44 .add 14 1,Oa 14 44]))))))) (Sr [Oa 45 7,Oa 6 45])))
theorem QkB:In3 prog Vy Tryz.f36 Qc3:=jn3 Tryz.func36 (by kernel_rfl)
theorem Qnn:Rt prog Tryz.f37 H0 k A H=Ret H0 k (A 3) H:=QC (by kernel_rfl)
def Qhc:PC:=So [Gr 2 Qe 0,Ol 3 false] (Sr [Ob 4 0 2,Oc 5 1 4,Oc 6 1 1,Gp 7 .eql 5 6,Oa 3 7])
theorem QoC:In2 prog Ko Tryz.f37 Qhc:=jn2 Tryz.func37 (by kernel_rfl)
theorem QlZ:Rt prog Tryz.f61 H0 k A H=Ret H0 k (A 0) H:=QC (by kernel_rfl)
def QfI:PC:=So [Oz 0] (Sr [Ow 1 (.build [.int .i64 0,.int .i64 0,.nilFunc] [(0,1,(Ci 1)),(1,1,(Ci 16)),(2,1,(.func Qd0))]),Ow 2 (.build [.int .i64 0,.int .i64 0,.nilFunc] [(0,1,(Ci 16)),(1,1,(Ci 47)),(2,1,(.func Qal))]),Ow 3 (.build [.int .i64 0,.int .i64 0,.nilFunc] [(0,1,(Ci 48)),(1,1,(Ci 115)),(2,1,(.func QbJ))]),Ow 4 (.build [.int .i64 0,.int .i64 0,.nilFunc] [(0,1,(Ci 116)),(1,1,(Ci 135)),(2,1,(.func QbK))]),Ow 5 (.build [.int .i64 0,.int .i64 0,.nilFunc] [(0,1,(Ci 136)),(1,1,(Ci 262)),(2,1,(.func Qd1))]),Ow 6 (.build [.int .i64 0,.int .i64 0,.nilFunc] [(0,1,(Ci 263)),(1,1,(Ci 322)),(2,1,(.func QhY))]),Ow 7 (.bslice Wt 3 6 [.int .i64 0,.int .i64 0,.nilFunc,.int .i64 0,.int .i64 0,.nilFunc,.int .i64 0,.int .i64 0,.nilFunc,.int .i64 0,.int .i64 0,.nilFunc,.int .i64 0,.int .i64 0,.nilFunc,.int .i64 0,.int .i64 0,.nilFunc] [(0,(t 1)),(1,(t 2)),(2,(t 3)),(3,(t 4)),(4,(t 5)),(5,(t 6))]),Oa 0 7])
theorem Qno:In0 prog Qcx Tryz.f61 QfI:=jn0 Tryz.func61 (by kernel_rfl)
theorem W8:Rt prog Tryz.f75 H0 k A H=Ret H0 k (A 4) H:=QC (by kernel_rfl)
def Yy:PC:=So [Oi 4 0] (.seq (So [Oa 6 0,Ou 7 6,Oi 8 0] (.block 0 (.loop (So [Gp 9 .lss 8 7] (.seq (Sc 9 .skip (.exit 0)) (.seq (.block 1 (So [Oa 10 8,Oa 5 10] (So [Oa 11 1,Oa 12 0,Oa 13 5,Ox 14 1 12 13,Oc 15 1 14,Gp 16 .eql 11 15] (Sc 16 (Sr [Oa 17 5,Oa 4 17]) .skip)))) (.ops [Oe 18 .add 8 1,Oa 8 18]))))))) (Sr [Oi 4 (-1)]))
theorem J9:In2 prog WC Tryz.f75 Yy:=jn2 Tryz.func75 (by kernel_rfl)
theorem Qnp:Rt prog Tryz.f248 H0 k A H=Ret H0 k (A 4) H:=QC (by kernel_rfl)
def Qhd:PC:=So [Gr 2 Qe 0,Oi 4 0] (Sr [Ob 5 2 2,Oc 6 1 5,Oa 7 1,Cb 8 WC 6 7,Oa 4 8])
theorem QoD:In2 prog QZ Tryz.f248 Qhd:=jn2 Tryz.func248 (by kernel_rfl)
theorem Xn:Rt prog Tryz.f253 H0 k A H=Ret H0 k (A 4) H:=QC (by kernel_rfl)
def Kt:PC:=So [Gr 2 Qb 0,Gr 3 Qo 1,Oi 4 0] (.seq (So [Ob 5 1 2,Oc 6 1 5,Ow 7 (.call Wk [t 6,(.func Wc)]),Oh 8 7,Oa 9 8,Gb 10 0 3 9 false,Gc 11 1 10 9 false,Og 12 (.lenS (t 11)) 9 false,Ge 13 .eql 12 0 9 false,Gk 14 9 13] (Sc 14 (Sr [Oi 4 (-1)]) .skip)) (.seq (So [Ob 15 0 3,Oc 16 1 15,Oy 17 1 16 0,Oc 18 1 17,Ow 19 (.bin .and (t 18) (.const (.int .u8 7))),Ow 20 (.bin .eql (t 19) (.const (.int .u8 4)))] (Sc 20 (Sr [Ob 21 0 3,Oc 22 1 21,Ou 23 22,Oe 24 .sub 23 2,Oa 4 24]) .skip)) (Sr [Ob 25 0 3,Oc 26 1 25,Ou 27 26,Oe 28 .sub 27 1,Oa 4 28])))
theorem Qeb:In2 prog Zo Tryz.f253 Kt:=jn2 Tryz.func253 (by kernel_rfl)
end Go.Proofs.YtgepgbbjfhggfaaGreatDoor.code
