/- The code of the functions that are reached, resolved. -/
import Derived.Test.YtfofbicfabokbaaGreatDoorAbD
import Derived.Test.YtfofbicfabokbaaGreatDoorProg
import Derived.KernelRfl
set_option linter.unusedVariables false
set_option maxRecDepth 100000
noncomputable section
namespace Go.Proofs.YtfofbicfabokbaaGreatDoor.code
open Go.Ab
variable (H0 H:Qa) (k:Value->Qa->Prop) (A:Env)
noncomputable abbrev prog:Program:=Tryz.prog
abbrev QIj:FuncId:=3
abbrev W9:FuncId:=7
abbrev YF:FuncId:=8
abbrev QIz:FuncId:=9
abbrev QIo:FuncId:=10
abbrev J9:FuncId:=11
abbrev Jr:FuncId:=12
abbrev QIp:FuncId:=13
abbrev XL:FuncId:=22
abbrev QaA:FuncId:=25
abbrev QaB:FuncId:=26
abbrev Wt:FuncId:=27
abbrev Qbx:FuncId:=28
abbrev Kc:FuncId:=29
abbrev Js:FuncId:=30
abbrev Kd:FuncId:=31
abbrev Qbr:FuncId:=35
abbrev Qcx:FuncId:=36
abbrev QgT:FuncId:=37
abbrev Qby:FuncId:=38
abbrev Qap:FuncId:=39
abbrev ZL:FuncId:=40
abbrev YQ:FuncId:=41
abbrev Zj:FuncId:=42
abbrev Yj:FuncId:=43
abbrev G6:FuncId:=44
abbrev G7:FuncId:=45
abbrev G8:FuncId:=46
abbrev G9:FuncId:=47
abbrev Va:FuncId:=48
abbrev Vb:FuncId:=49
abbrev Zt:FuncId:=50
abbrev YG:FuncId:=51
abbrev Zc:FuncId:=52
abbrev YR:FuncId:=53
abbrev Vc:FuncId:=54
abbrev QL:FuncId:=55
abbrev Gj:FuncId:=56
abbrev Zd:FuncId:=57
abbrev Qcy:FuncId:=58
abbrev QgU:FuncId:=61
abbrev QdM:FuncId:=62
abbrev Qfx:FuncId:=63
abbrev Ke:FuncId:=64
abbrev Kf:FuncId:=65
abbrev WM:FuncId:=66
abbrev Wo:FuncId:=67
abbrev VU:FuncId:=68
abbrev KA:FuncId:=69
abbrev Qis:FuncId:=70
abbrev Qit:FuncId:=71
abbrev QbK:FuncId:=72
abbrev Jt:FuncId:=73
abbrev Qiu:FuncId:=74
abbrev Zu:FuncId:=113
abbrev YT:FuncId:=114
abbrev W7:FuncId:=115
abbrev YU:FuncId:=116
abbrev WW:FuncId:=117
abbrev YV:FuncId:=118
abbrev Gl:FuncId:=119
abbrev Ze:FuncId:=120
abbrev XD:FuncId:=121
abbrev Vd:FuncId:=122
abbrev Xm:FuncId:=123
abbrev Gm:FuncId:=124
abbrev Jn:FuncId:=125
abbrev Gn:FuncId:=126
abbrev Zk:FuncId:=127
abbrev ZN:FuncId:=128
abbrev Jo:FuncId:=129
abbrev Xj:FuncId:=130
abbrev Xn:FuncId:=131
abbrev Zv:FuncId:=132
abbrev Qiv:FuncId:=133
abbrev Qfb:FuncId:=134
abbrev QgA:FuncId:=135
abbrev QgB:FuncId:=136
abbrev Qiw:FuncId:=137
abbrev Qmq:FuncId:=138
abbrev KB:FuncId:=139
abbrev Xo:FuncId:=140
abbrev Qmr:FuncId:=141
abbrev X0:FuncId:=142
abbrev Kg:FuncId:=143
abbrev QdN:FuncId:=144
abbrev QdC:FuncId:=145
abbrev QdO:FuncId:=146
abbrev QgC:FuncId:=147
abbrev QgV:FuncId:=148
abbrev Qix:FuncId:=149
abbrev Wq:FuncId:=150
abbrev Qfy:FuncId:=151
abbrev Qiy:FuncId:=152
abbrev QgD:FuncId:=153
abbrev Ya:FuncId:=154
abbrev Qen:FuncId:=155
abbrev QaC:FuncId:=156
abbrev Xp:FuncId:=157
abbrev XW:FuncId:=158
abbrev XX:FuncId:=159
abbrev XM:FuncId:=185
abbrev ZY:FuncId:=186
abbrev Xb:FuncId:=187
abbrev Qaq:FuncId:=188
abbrev Xq:FuncId:=189
abbrev Zl:FuncId:=190
abbrev YL:FuncId:=191
abbrev X3:FuncId:=192
abbrev X4:FuncId:=193
abbrev Yx:FuncId:=194
abbrev Zm:FuncId:=195
abbrev Qar:FuncId:=196
abbrev ZO:FuncId:=197
abbrev Gq:FuncId:=198
abbrev QZ:FuncId:=199
abbrev WL:FuncId:=200
abbrev Ve:FuncId:=201
abbrev YW:FuncId:=202
abbrev Qfc:FuncId:=242
abbrev Qms:FuncId:=243
abbrev QgE:FuncId:=244
abbrev Qeo:FuncId:=245
abbrev Qcz:FuncId:=246
abbrev KE:FuncId:=247
abbrev Qmt:FuncId:=248
abbrev Qfz:FuncId:=249
abbrev Ju:FuncId:=250
abbrev GI:FuncId:=251
abbrev Qbz:FuncId:=252
abbrev QbA:FuncId:=254
abbrev Vf:FuncId:=255
abbrev X5:FuncId:=256
abbrev Zn:FuncId:=257
abbrev Yy:FuncId:=258
abbrev Vg:FuncId:=259
abbrev Qku:FuncId:=306
abbrev Qiz:FuncId:=307
abbrev QiA:FuncId:=308
abbrev QdW:FuncId:=309
abbrev Qmu:FuncId:=310
abbrev Yb:FuncId:=311
abbrev ZP:FuncId:=312
abbrev QgW:FuncId:=320
abbrev Qd:TypeId:=27
abbrev Qc:TypeId:=37
abbrev Q5:TypeId:=43
abbrev Qq:TypeId:=45
abbrev Qe:TypeId:=47
abbrev Wc:TypeId:=68
abbrev QM:TypeId:=70
abbrev We:TypeId:=72
abbrev Qc6:TypeId:=77
abbrev Xe:TypeId:=88
abbrev QbL:TypeId:=130
abbrev Wa:TypeId:=146
abbrev Yc:TypeId:=66
abbrev QuT:TypeId:=263
abbrev QpT:TypeId:=3
theorem QIB:Rt prog Tryz.f9 H0 k A H=ldR true 2 (A 2) H λv=>Ret H0 k (.tuple #[v,A 3,A 4]) H:=QnT (ty:=27) (by kernel_rfl) (by kernel_rfl) (by kernel_rfl)
def QIE:PC:=So [Cd 2 Qd [.int .i64 0,.slice none 0 0],Oi 3 0,Oi 4 0] (So [Oi 5 4] (.seq (So [Oa 11 0,Ca 12 QaA 11,Ou 13 12,Oi 14 0] (.block 0 (.loop (So [Gp 15 .lss 14 13] (.seq (Sc 15 .skip (.exit 0)) (.seq (.block 1 (So [Ox 16 10 12 14,Od 17 10 16,Cd 7 Qc [.int .i64 0,.slice none 0 0,.slice none 0 0,.int .i64 0,.int .i64 0,.int .i64 0,.int .i64 0,.int .i64 0,.bool false,.int .i64 0],Gu 10 7 17] (So [Od 19 10 7,Oa 20 0,Cb 21 QaB 19 20,Oa 18 21,Ot 22 18 0,Ot 23 18 1,Ot 24 18 2,Cd 8 Qd [.int .i64 0,.slice none 0 0],Gu 2 8 22,Oa 9 23,Oa 10 24] (So [Oa 25 10] (.block 2 (So [Oe 27 .eql 25 0,Oa 26 27] (Sc 26 (Sr [Od 28 2 8,Oa 29 9,Gu 2 2 28,Oa 3 29,Oi 4 0]) (So [Oe 31 .eql 25 9,Oa 30 31] (Sc 30 (.ops [Oi 5 9]) .skip))))))))) (.ops [Oe 32 .add 14 1,Oa 14 32]))))))) (Sr [Ow 33 (.build [.int .i64 0,.slice none 0 0] []),Oa 34 5,Gu 2 2 33,Oi 3 0,Oa 4 34])))
theorem QIT:In1 prog QIz Tryz.f9 QIE:=jn1 Tryz.func9 (by kernel_rfl)
theorem Qqs:Rt prog Tryz.f22 H0 k A H=Ret H0 k (A 0) H:=Wb (by kernel_rfl)
def QlF:PC:=So [Oz 0] (Sr [Ow 1 (.call Qbr [(Ci 1),(Ci 322),(.func Qcx)]),Oa 0 1])
theorem QrI:In0 prog XL Tryz.f22 QlF:=jn0 Tryz.func22 (by kernel_rfl)
theorem Qje:Rt prog Tryz.f25 H0 k A H=Ret H0 k (A 2) H:=Wb (by kernel_rfl)
def Qkv:PC:=So [Oz 2] (So [Ow 7 (.call QgT []),Oa 3 7,Ol 4 true] (.seq (So [Oa 8 0,Ou 9 8,Oi 10 0] (.block 0 (.loop (So [Gp 11 .lss 10 9] (.seq (Sc 11 .skip (.exit 0)) (.seq (.block 1 (So [Ox 12 1 8 10,Oc 13 1 12,Oa 6 13] (.seq (So [Oa 14 3,Ca 15 Qby 14,Oh 16 15] (Sc 16 (.exit 0) .skip)) (.seq (So [Oa 17 4,Oa 18 17,Oo 19 6 18 true,Og 20 (.bin .and (t 19) (.const (.int .u8 240))) 18 true,Og 21 (.bin .eql (t 20) (.const (.int .u8 64))) 18 true,Oj 22 18 21] (Sc 22 (So [Ol 4 false] (.exit 1)) .skip)) (So [Oa 23 4,Oa 24 23,Oo 25 6 24 true,Og 26 (.bin .eql (t 25) (.const (.int .u8 102))) 24 true,Oo 27 26 24 true,Oo 28 6 27 false,Og 29 (.bin .eql (t 28) (.const (.int .u8 242))) 27 false,Og 30 (.pick (t 27) (.const (.bool true)) (t 29)) 24 true,Oo 31 30 24 true,Oo 32 6 31 false,Og 33 (.bin .eql (t 32) (.const (.int .u8 243))) 31 false,Og 34 (.pick (t 31) (.const (.bool true)) (t 33)) 24 true,Oj 35 24 34,Oa 4 35] (.ops [Oa 36 3,Oa 37 6,Cb 38 Qap 36 37,Oa 3 38])))))) (.ops [Oe 39 .add 10 1,Oa 10 39]))))))) (Sr [Oa 40 3,Oq 41 40,Ob 42 1 41,Oc 43 1 42,Oa 2 43])))
theorem Qqt:In1 prog QaA Tryz.f25 Qkv:=jn1 Tryz.func25 (by kernel_rfl)
theorem Qte:Rt prog Tryz.f31 H0 k A H=Ret H0 k (A 2) H:=Wb (by kernel_rfl)
def QoR:PC:=So [Gr 1 3 0,Oz 2] (Sr [Oc 3 1 1,Oc 4 1 1,Ow 5 (.gen (.makeFunc (.func Qcy) #[] #[t 1])),Cc 6 Qbr 3 4 5,Oa 2 6])
theorem QuU:In1 prog Kd Tryz.f31 QoR:=jn1 Tryz.func31 (by kernel_rfl)
theorem Qm5:Rt prog Tryz.f35 H0 k A H=Ret H0 k (A 6) H:=Wb (by kernel_rfl)
def Qhy:PC:=So [Oz 6] (So [Oz 7] (.seq (So [Ow 12 (.call QgU []),Ou 13 12,Oi 14 0] (.block 0 (.loop (So [Gp 15 .lss 14 13] (.seq (Sc 15 .skip (.exit 0)) (.seq (.block 1 (So [Ox 16 3 12 14,Od 17 3 16,Cd 9 Xe [.int .i64 0,.int .i64 0,.nilFunc],Gu 3 9 17] (.seq (So [Oa 18 1,Ob 19 0 9,Oc 20 1 19,Gp 21 .lss 18 20,Oa 22 21,Oo 23 0 22 false,Gb 24 1 9 22 false,Gc 25 1 24 22 false,Gf 26 .gtr 23 25 22 false,Gk 27 22 26] (Sc 27 (.exit 1) .skip)) (So [Ob 28 2 9,Oc 29 1 28,Ow 30 (.callv (t 29) []),Ou 31 30,Oi 32 0] (.block 2 (.loop (So [Gp 33 .lss 32 31] (.seq (Sc 33 .skip (.exit 2)) (.seq (.block 3 (So [Ox 34 10 30 32,Od 35 10 34,Cd 11 Qc [.int .i64 0,.slice none 0 0,.slice none 0 0,.int .i64 0,.int .i64 0,.int .i64 0,.int .i64 0,.int .i64 0,.bool false,.int .i64 0],Gu 10 11 35] (So [Oa 36 2,Od 37 10 11,Ow 38 (.callv (t 36) [t 37])] (Sc 38 (.ops [Oa 39 7,Od 40 10 11,Ow 41 (.bslice Qc 10 1 [.int .i64 0,.slice none 0 0,.slice none 0 0,.int .i64 0,.int .i64 0,.int .i64 0,.int .i64 0,.int .i64 0,.bool false,.int .i64 0] [(0,(t 40))]),Ow 42 (.app Qc 10 112 (t 39) (t 41)),Oa 7 42]) .skip)))) (.ops [Oe 43 .add 32 1,Oa 32 43])))))))))) (.ops [Oe 44 .add 14 1,Oa 14 44]))))))) (Sr [Oa 45 7,Oa 6 45])))
theorem QnW:In3 prog Qbr Tryz.f35 Qhy:=jn3 Tryz.func35 (by kernel_rfl)
theorem QnX:Rt prog Tryz.f36 H0 k A H=Ret H0 k (A 2) H:=Wb (by kernel_rfl)
def Qjf:PC:=So [Gr 1 Qc 0,Ol 2 false] (Sr [Ol 2 true])
theorem Qpj:In1 prog Qcx Tryz.f36 Qjf:=jn1 Tryz.func36 (by kernel_rfl)
theorem Qpk:Rt prog Tryz.f37 H0 k A H=Ret H0 k (A 0) H:=Wb (by kernel_rfl)
def Qkw:PC:=So [Om 0 (.const (.pointer none))] (Sr [Ow 1 (.call XL []),Ow 2 (.gen (.makeMap 66 none)),Ow 3 (.build [.int .i64 0,.slice none 0 0,.map none] [(1,1,(t 1)),(2,1,(t 2))]),Gr 4 Wc 3,Oa 0 4])
theorem Qqu:In0 prog QgT Tryz.f37 Qkw:=jn0 Tryz.func37 (by kernel_rfl)
theorem Vh:Rt prog Tryz.f38 H0 k A H=Ret H0 k (A 2) H:=Wb (by kernel_rfl)
def QeK:PC:=So [Ol 2 false] (.seq (So [Oa 4 0,Oq 5 4,Ob 6 1 5,Oc 7 1 6,Ou 8 7,Oe 9 .eql 8 0] (Sc 9 (Sr [Ol 2 false]) .skip)) (.seq (So [Oa 10 0,Oq 11 10,Ob 12 1 11,Oc 13 1 12,Oy 14 10 13 0,Od 15 10 14,Cd 3 Qc [.int .i64 0,.slice none 0 0,.slice none 0 0,.int .i64 0,.int .i64 0,.int .i64 0,.int .i64 0,.int .i64 0,.bool false,.int .i64 0],Gu 10 3 15] (So [Ob 16 8 3,Oc 17 1 16,Oh 18 17] (Sc 18 (Sr [Oa 19 0,Oq 20 19,Ob 21 0 20,⟨some 22,.ld false 1 (t 21),none,true⟩,Od 23 10 3,⟨some 24,.callF QdM [t 23] [],none,true⟩,Ow 25 (.lenT (t 24)),Gp 26 .leq 22 25,Oa 2 26]) .skip))) (Sr [Oa 27 0,Oq 28 27,Ob 29 0 28,Oc 30 1 29,Oe 31 .eql 30 0,Oa 2 31])))
theorem Qlo:In1 prog Qby Tryz.f38 QeK:=jn1 Tryz.func38 (by kernel_rfl)
theorem QjJ:Rt prog Tryz.f39 H0 k A H=Ret H0 k (A 4) H:=Wb (by kernel_rfl)
def QdX:PC:=So [Om 4 (.const (.pointer none))] (.seq (So [Oa 11 0,Oq 12 11,Ob 13 2 12,Oc 14 1 13,Oa 15 1,Ow 16 (.gen (.lookup 66 (t 14) (t 15) true)),Oa 10 16,Ot 17 10 0,Ot 18 10 1,Oa 5 17,Oa 6 18] (So [Oa 19 6] (Sc 19 (Sr [Oa 20 5,Oa 4 20]) .skip))) (So [Oa 21 0,Oq 22 21,Ob 23 0 22,Oc 24 1 23,Oe 25 .add 24 1,Ow 26 (.gen (.makeMap 66 none)),Ow 27 (.build [.int .i64 0,.slice none 0 0,.map none] [(0,1,(t 25)),(2,1,(t 26))]),Gr 28 Wc 27,Oa 7 28] (.seq (So [Oa 29 0,Oq 30 29,Ob 31 1 30,Oc 32 1 31,Ou 33 32,Oi 34 0] (.block 0 (.loop (So [Gp 35 .lss 34 33] (.seq (Sc 35 .skip (.exit 0)) (.seq (.block 1 (So [Ox 36 10 32 34,Od 37 10 36,Cd 9 Qc [.int .i64 0,.slice none 0 0,.slice none 0 0,.int .i64 0,.int .i64 0,.int .i64 0,.int .i64 0,.int .i64 0,.bool false,.int .i64 0],Gu 10 9 37] (So [Od 38 10 9,Oa 39 0,Oq 40 39,Ob 41 0 40,Oc 42 1 41,Oa 43 1,Cc 44 Qfx 38 42 43] (Sc 44 (.ops [Oa 45 7,Oa 46 7,Oq 47 46,Ob 48 1 47,Oc 49 1 48,Od 50 10 9,Ow 51 (.bslice Qc 10 1 [.int .i64 0,.slice none 0 0,.slice none 0 0,.int .i64 0,.int .i64 0,.int .i64 0,.int .i64 0,.int .i64 0,.bool false,.int .i64 0] [(0,(t 50))]),Ow 52 (.app Qc 10 112 (t 49) (t 51)),Oq 53 45,Ob 54 1 53,Gu 1 54 52]) .skip)))) (.ops [Oe 55 .add 34 1,Oa 34 55]))))))) (So [Oa 56 0,Oq 57 56,Ob 58 2 57,Oc 59 1 58,Oa 60 1,Oa 61 7,Ov (.gen (.mapUpdate 66 (t 59) (t 60) (t 61)))] (Sr [Oa 62 7,Oa 4 62])))))
theorem Qkx:In2 prog Qap Tryz.f39 QdX:=jn2 Tryz.func39 (by kernel_rfl)
theorem Qqv:Rt prog Tryz.f58 H0 k A H=Ret H0 k (A 3) H:=Wb (by kernel_rfl)
def QlG:PC:=So [Gr 2 Qc 0,Ol 3 false] (Sr [Ob 4 0 2,Oc 5 1 4,Oc 6 1 1,Gp 7 .eql 5 6,Oa 3 7])
theorem QrJ:In2 prog Qcy Tryz.f58 QlG:=jn2 Tryz.func58 (by kernel_rfl)
theorem Qpl:Rt prog Tryz.f61 H0 k A H=Ret H0 k (A 0) H:=Wb (by kernel_rfl)
def Qky:PC:=So [Oz 0] (Sr [Ow 1 (.build [.int .i64 0,.int .i64 0,.nilFunc] [(0,1,(Ci 1)),(1,1,(Ci 16)),(2,1,(.func Qiv))]),Ow 2 (.build [.int .i64 0,.int .i64 0,.nilFunc] [(0,1,(Ci 16)),(1,1,(Ci 47)),(2,1,(.func Qfb))]),Ow 3 (.build [.int .i64 0,.int .i64 0,.nilFunc] [(0,1,(Ci 48)),(1,1,(Ci 115)),(2,1,(.func QgA))]),Ow 4 (.build [.int .i64 0,.int .i64 0,.nilFunc] [(0,1,(Ci 116)),(1,1,(Ci 135)),(2,1,(.func QgB))]),Ow 5 (.build [.int .i64 0,.int .i64 0,.nilFunc] [(0,1,(Ci 136)),(1,1,(Ci 262)),(2,1,(.func Qiw))]),Ow 6 (.build [.int .i64 0,.int .i64 0,.nilFunc] [(0,1,(Ci 263)),(1,1,(Ci 322)),(2,1,(.func Qmq))]),Ow 7 (.bslice Xe 3 6 [.int .i64 0,.int .i64 0,.nilFunc,.int .i64 0,.int .i64 0,.nilFunc,.int .i64 0,.int .i64 0,.nilFunc,.int .i64 0,.int .i64 0,.nilFunc,.int .i64 0,.int .i64 0,.nilFunc,.int .i64 0,.int .i64 0,.nilFunc] [(0,(t 1)),(1,(t 2)),(2,(t 3)),(3,(t 4)),(4,(t 5)),(5,(t 6))]),Oa 0 7])
theorem Qqw:In0 prog QgU Tryz.f61 Qky:=jn0 Tryz.func61 (by kernel_rfl)
theorem Qpm:Rt prog Tryz.f62 H0 k A H=Ret H0 k (A 2) H:=Wb (by kernel_rfl)
def Qkz:PC:=So [Gr 1 Qc 0,Om 2 (.const (.string (mkS [])))] (So [Om 3 (.const (.string (mkS [])))] (.seq (So [Ob 4 3 1,Oc 5 1 4,Oe 6 .and 5 1,Oe 7 .neq 6 0] (Sc 7 (.ops [Oa 8 3,Ow 9 (.bin .add (t 8) (.const (.string (mkS [102])))),Oa 3 9]) .skip)) (.seq (So [Ob 10 3 1,Oc 11 1 10,Oe 12 .and 11 2,Oe 13 .neq 12 0] (Sc 13 (.ops [Oa 14 3,Ow 15 (.bin .add (t 14) (.const (.string (mkS [242])))),Oa 3 15]) .skip)) (.seq (So [Ob 16 3 1,Oc 17 1 16,Oe 18 .and 17 4,Oe 19 .neq 18 0] (Sc 19 (.ops [Oa 20 3,Ow 21 (.bin .add (t 20) (.const (.string (mkS [243])))),Oa 3 21]) .skip)) (Sr [Oa 22 3,Ob 23 4 1,Oc 24 1 23,Ca 25 KB 24,Gp 26 .add 22 25,Oa 2 26])))))
theorem Qqx:In1 prog QdM Tryz.f62 Qkz:=jn1 Tryz.func62 (by kernel_rfl)
theorem Xr:Rt prog Tryz.f63 H0 k A H=Ret H0 k (A 6) H:=Wb (by kernel_rfl)
def Qjg:PC:=So [Gr 3 Qc 0,Ol 6 false] (.seq (So [Ob 8 8 3,Oc 9 1 8] (Sc 9 (Sr [Oa 10 1,Oe 11 .eql 10 0,Oa 12 11,Oo 13 2 12 true,Og 14 (.bin .eql (t 13) (.const (.int .u8 196))) 12 true,Oo 15 14 12 true,Oo 16 2 15 false,Og 17 (.bin .eql (t 16) (.const (.int .u8 197))) 15 false,Oo 18 17 15 false,Gb 19 4 3 18 true,Gc 20 1 19 18 true,Ge 21 .eql 20 1 18 true,Og 22 (.pick (t 18) (t 21) (.const (.bool false))) 15 false,Oo 23 22 15 false,Gb 24 7 3 23 true,Gc 25 1 24 23 true,Ge 26 .neq 25 1 23 true,Og 27 (.pick (t 23) (t 26) (.const (.bool false))) 15 false,Og 28 (.pick (t 15) (.const (.bool true)) (t 27)) 12 true,Oj 29 12 28,Oa 6 29]) .skip)) (So [Od 30 10 3,Ca 31 QdM 30,Oa 7 31] (.seq (.block 0 (So [Oa 33 1,Oa 34 7,Ow 35 (.lenT (t 34)),Gp 36 .lss 33 35,Oa 32 36] (Sc 32 (Sr [Oa 37 2,Oa 38 7,Oa 39 1,Ow 40 (.chr (t 38) (t 39)),Gp 41 .eql 37 40,Oa 6 41]) (So [Oa 43 1,Oa 44 7,Ow 45 (.lenT (t 44)),Gp 46 .gtr 43 45,Oa 42 46] (Sc 42 (Sr [Ol 6 false]) (So [Od 48 10 3,Ow 49 (.call WM [t 48,(Ci 4)]),Oe 50 .geq 49 0,Oa 47 50] (Sc 47 (Sr [Oa 51 2,Ow 52 (.bin .andNot (t 51) (.const (.int .u8 7))),Ow 53 (.toInt .i64 (t 52)),Ob 54 5 3,Oc 55 1 54,Gp 56 .eql 53 55,Oa 6 56]) .skip))))))) (Sr [Oa 57 2,Ow 58 (.toInt .i64 (t 57)),Ob 59 5 3,Oc 60 1 59,Gp 61 .eql 58 60,Oa 6 61]))))
theorem Qpn:In3 prog Qfx Tryz.f63 Qjg:=jn3 Tryz.func63 (by kernel_rfl)
theorem Qqy:Rt prog Tryz.f66 H0 k A H=Ret H0 k (A 4) H:=Wb (by kernel_rfl)
def QlH:PC:=So [Gr 2 Qc 0,Oi 4 0] (Sr [Ob 5 2 2,Oc 6 1 5,Oa 7 1,Cb 8 Kg 6 7,Oa 4 8])
theorem QrK:In2 prog WM Tryz.f66 QlH:=jn2 Tryz.func66 (by kernel_rfl)
theorem QcA:Rt prog Tryz.f123 H0 k A H=Ret H0 k (A 4) H:=Wb (by kernel_rfl)
def Qc7:PC:=So [Gr 2 Qc 0,Oi 4 0] (.seq (So [Oi 5 0] (.block 0 (.loop (.seq (So [Oa 6 5,Ob 7 2 2,Oc 8 1 7,Ou 9 8,Gp 10 .lss 6 9] (Sc 10 .skip (.exit 0))) (.seq (.block 1 (So [Ob 13 2 2,Oc 14 1 13,Oa 15 5,Ox 16 1 14 15,Oc 17 1 16,Oa 18 1,Gp 19 .eql 17 18] (Sc 19 (Sr [Oa 20 5,Oa 4 20]) .skip))) (.ops [Oa 11 5,Oe 12 .add 11 1,Oa 5 12])))))) (Sr [Oi 4 (-1)]))
theorem QjK:In2 prog Xm Tryz.f123 Qc7:=jn2 Tryz.func123 (by kernel_rfl)
theorem QcB:Rt prog Tryz.f139 H0 k A H=Ret H0 k (A 2) H:=Wb (by kernel_rfl)
def Qhz:PC:=So [Om 2 (.const (.string (mkS [])))] (.seq (So [Oa 3 0] (.block 0 (So [Oe 5 .eql 3 1,Oa 4 5] (Sc 4 (Sr [Om 2 (.const (.string (mkS [15])))]) (So [Oe 7 .eql 3 2,Oa 6 7] (Sc 6 (Sr [Om 2 (.const (.string (mkS [15,56])))]) (So [Oe 9 .eql 3 3,Oa 8 9] (Sc 8 (Sr [Om 2 (.const (.string (mkS [15,58])))]) .skip)))))))) (Sr [Om 2 (.const (.string (mkS [])))]))
theorem QnY:In1 prog KB Tryz.f139 Qhz:=jn1 Tryz.func139 (by kernel_rfl)
theorem QaD:Rt prog Tryz.f143 H0 k A H=Ret H0 k (A 4) H:=Wb (by kernel_rfl)
def QbO:PC:=So [Oi 4 0] (.seq (So [Oa 6 0,Ou 7 6,Oi 8 0] (.block 0 (.loop (So [Gp 9 .lss 8 7] (.seq (Sc 9 .skip (.exit 0)) (.seq (.block 1 (So [Oa 10 8,Oa 5 10] (So [Oa 11 1,Oa 12 0,Oa 13 5,Ox 14 1 12 13,Oc 15 1 14,Gp 16 .eql 11 15] (Sc 16 (Sr [Oa 17 5,Oa 4 17]) .skip)))) (.ops [Oe 18 .add 8 1,Oa 8 18]))))))) (Sr [Oi 4 (-1)]))
theorem QhA:In2 prog Kg Tryz.f143 QbO:=jn2 Tryz.func143 (by kernel_rfl)
noncomputable abbrev QjL:Func:=Tryz.f56
theorem QbP:Rt prog Tryz.f56 H0 k A H=ldR true 2 (A 2) H λv=>Ret H0 k (.tuple #[v,A 3]) H:=Qkr (ty:=27) (by kernel_rfl) (by kernel_rfl) (by kernel_rfl)
def Z0:PC:=.ops [Ob 67 1 5,Oc 68 1 67,Oy 69 11 68 0,Od 70 11 69,Ob 71 1 5,Oc 72 1 71,Oy 73 11 72 0,Od 74 11 73,Ob 75 1 5,Oc 76 1 75,Oy 77 11 76 1,Od 78 11 77,Ow 79 (.bslice Qe 11 3 QG6 [(0,(t 70)),(1,(t 74)),(2,(t 78))]),Ob 80 1 5,Gu 1 80 79]
def QaE:PC:=So [Ob 104 1 5,Oc 105 1 104,Oy 106 11 105 0,Ob 107 1 106,Ob 108 0 107,Oc 109 1 108,Ob 110 1 5,Oc 111 1 110,Oy 112 11 111 1,Ob 113 1 112,Ob 114 0 113,Oc 115 1 114,Gp 116 .eql 109 115,Oa 117 116,Gb 118 1 5 117 true,Gc 119 1 118 117 true,Og 120 (.idxS 11 (t 119) (Ci 0)) 117 true,Gb 121 1 120 117 true,Gb 122 1 121 117 true,Gc 123 1 122 117 true,Gb 124 1 5 117 true,Gc 125 1 124 117 true,Og 126 (.idxS 11 (t 125) (Ci 1)) 117 true,Gb 127 1 126 117 true,Gb 128 1 127 117 true,Gc 129 1 128 117 true,Gf 130 .gtr 123 129 117 true,Oj 131 117 130] (Sc 131 (.ops [Od 132 2 5,Ca 133 Xn 132,Gu 2 5 133]) .skip)
def Z1:PC:=So [Ob 97 0 1,Oc 98 1 97,Oe 99 .eql 98 11,Oa 100 99,Gd 101 2 5 100 true,Og 102 (.call Xj [t 101,(Ci 1),(Ci 1)]) 100 true,Oj 103 100 102,Oa 96 103] (Sc 96 QaE .skip)
def Ww:PC:=So [Ob 82 0 1,Oc 83 1 82,Oe 84 .eql 83 10,Oa 85 84,Gb 86 0 1 85 false,Gc 87 1 86 85 false,Ge 88 .eql 87 11 85 false,Gk 89 85 88,Oa 90 89,Gd 91 2 5 90 true,Og 92 (.call Xj [t 91,(Ci 1),(Ci 2)]) 90 true,Oj 93 90 92,Oa 81 93] (Sc 81 (.ops [Od 94 2 5,Ca 95 Xn 94,Gu 2 5 95]) Z1)
def Wx:PC:=.seq (.block 2 (So [Ob 60 0 1,Oc 61 1 60,Oe 62 .eql 61 16,Oa 63 62,Gd 64 2 5 63 true,Og 65 (.call Xj [t 64,(Ci 1),(Ci 3)]) 63 true,Oj 66 63 65,Oa 59 66] (Sc 59 Z0 Ww))) (Sr [Od 134 2 5,Gu 2 2 134,Oi 3 0])
def Z2:PC:=So [Od 40 2 1,Ca 41 ZN 40,Oa 39 41,Ot 42 39 0,Ot 43 39 1,Oa 9 42,Oa 10 43] (.ops [Ob 45 10 7,Oc 46 1 45,Oa 47 9,Oa 48 10,Cc 49 Jo 46 47 48,Oa 44 49,Ot 50 44 0,Ot 51 44 1,Ob 52 10 7,Gu 1 52 50])
def QaF:PC:=.seq (.block 1 (So [Ob 28 1 1,Oc 29 1 28,Oa 30 6,Ox 31 11 29 30,Od 32 11 31,Ca 33 Zk 32,Oa 27 33,Ot 34 27 0,Ot 35 27 1,Cd 7 Qe Kz,Gu 11 7 34,Oa 8 35] (.seq (So [Ob 36 0 7,Oc 37 1 36,Oe 38 .eql 37 3] (Sc 38 Z2 .skip)) (.ops [Ob 53 1 5,Oc 54 1 53,Od 55 11 7,Ow 56 (.bslice Qe 11 1 Kz [(0,(t 55))]),Ow 57 (.app Qe 11 88 (t 54) (t 56)),Ob 58 1 5,Gu 1 58 57])))) (.ops [Oa 25 6,Oe 26 .add 25 1,Oa 6 26])
def Z3:PC:=.seq (So [Oa 20 6,Ob 21 1 1,Oc 22 1 21,Ou 23 22,Gp 24 .lss 20 23] (Sc 24 .skip (.exit 0))) QaF
def QaG:PC:=So [Ob 17 0 1,Oc 18 1 17,Ow 19 (.build [.int .i64 0,.slice none 0 0] [(0,1,(t 18))]),Cd 5 Qd [.int .i64 0,.slice none 0 0],Gu 2 5 19] (.seq (So [Oi 6 0] (.block 0 (.loop Z3))) Wx)
def QcC:PC:=So [Gr 1 Qd 0,Cd 2 Qd [.int .i64 0,.slice none 0 0],Oi 3 0] (So [Od 11 2 1,Ca 12 Gn 11,Oa 4 12] (.seq (So [Oa 13 4,Oe 14 .neq 13 0] (Sc 14 (Sr [Ow 15 (.build [.int .i64 0,.slice none 0 0] []),Oa 16 4,Gu 2 2 15,Oa 3 16]) .skip)) QaG))
theorem QiB:In1 prog Gj Tryz.f56 QcC:=jn1 Tryz.func56 (by kernel_rfl)
noncomputable abbrev QjM:Func:=Tryz.f126
theorem WQ:Rt prog Tryz.f126 H0 k A H=Ret H0 k (A 2) H:=Wb (by kernel_rfl)
def QaH:PC:=So [Od 62 2 1,Ca 63 ZN 62,Oa 61 63,Ot 64 61 0,Ot 65 61 1,Oa 6 64,Oa 7 65] (So [Ob 67 1 1,Oc 68 1 67,Oa 69 5,Ox 70 11 68 69,Ob 71 10 70,Oc 72 1 71,Oa 73 6,Oa 74 7,Cc 75 Jo 72 73 74,Oa 66 75,Ot 76 66 0,Ot 77 66 1,Oa 8 76,Oa 9 77] (So [Oa 78 9,Oe 79 .neq 78 0] (Sc 79 (Sr [Oa 80 9,Oa 2 80]) .skip)))
def QaI:PC:=.seq (.block 3 (.seq (So [Ob 54 1 1,Oc 55 1 54,Oa 56 5,Ox 57 11 55 56,Ob 58 0 57,Oc 59 1 58,Oe 60 .neq 59 3] (Sc 60 (.exit 3) .skip)) QaH)) (.ops [Oa 52 5,Oe 53 .add 52 1,Oa 5 53])
def QaJ:PC:=.seq (So [Oa 47 5,Ob 48 1 1,Oc 49 1 48,Ou 50 49,Gp 51 .lss 47 50] (Sc 51 .skip (.exit 2))) QaI
def Z4:PC:=.seq (So [Oi 5 0] (.block 2 (.loop QaJ))) (Sr [Oi 2 0])
def Z5:PC:=.seq (So [Od 34 2 1,Ow 35 (.call Yx [t 34,(Ci 2)]),Oe 36 .gtr 35 1,Oa 37 36,Gd 38 2 1 37 false,Og 39 (.call Yx [t 38,(Ci 3)]) 37 false,Ge 40 .gtr 39 1 37 false,Gk 41 37 40,Oa 42 41,Gd 43 2 1 42 false,Og 44 (.call Yx [t 43,(Ci 4)]) 42 false,Ge 45 .gtr 44 1 42 false,Gk 46 42 45] (Sc 46 (Sr [Oi 2 2]) .skip)) Z4
def QaK:PC:=.seq (.block 1 (So [Ob 25 1 1,Oc 26 1 25,Oa 27 3,Ox 28 11 26 27,Od 29 11 28,Ca 30 X4 29,Oa 4 30] (So [Oa 31 4,Oe 32 .neq 31 0] (Sc 32 (Sr [Oa 33 4,Oa 2 33]) .skip)))) (.ops [Oa 23 3,Oe 24 .add 23 1,Oa 3 24])
def QaL:PC:=.seq (So [Oa 18 3,Ob 19 1 1,Oc 20 1 19,Ou 21 20,Gp 22 .lss 18 21] (Sc 22 .skip (.exit 0))) QaK
def QaM:PC:=.seq (So [Oi 3 0] (.block 0 (.loop QaL))) Z5
def QaN:PC:=.seq (So [Ob 14 1 1,Oc 15 1 14,Ou 16 15,Oe 17 .gtr 16 4] (Sc 17 (Sr [Oi 2 3]) .skip)) QaM
def QcD:PC:=So [Gr 1 Qd 0,Oi 2 0] (.seq (So [Ob 10 0 1,Oc 11 1 10,Ca 12 X3 11,Oh 13 12] (Sc 13 (Sr [Oi 2 6]) .skip)) QaN)
theorem QiC:In1 prog Gn Tryz.f126 QcD:=jn1 Tryz.func126 (by kernel_rfl)
theorem Xs:Rt prog Tryz.f127 H0 k A H=ldR true 11 (A 2) H λv=>Ret H0 k (.tuple #[v,A 3]) H:=Qkr (ty:=47) (by kernel_rfl) (by kernel_rfl) (by kernel_rfl)
def Wy:PC:=So [Oe 26 .eql 16 2,Oa 25 26] (Sc 25 (.ops [Ob 28 3 1,Od 29 7 28,Ca 30 Zm 29,Oa 27 30,Ot 31 27 0,Ot 32 27 1,Ob 33 3 5,Gu 7 33 31]) (.ops [Ob 17 10 1,Oc 18 1 17,Ob 19 10 5,Gu 1 19 18]))
def Wz:PC:=So [Ob 12 0 1,Oc 13 1 12,Ow 14 (.build Kz [(0,1,(t 13))]),Cd 5 Qe Kz,Gu 11 5 14] (.seq (So [Ob 15 0 1,Oc 16 1 15] (.block 0 (So [Oe 21 .eql 16 1,Oa 20 21] (Sc 20 (.ops [Ob 22 1 1,Od 23 2 22,Ob 24 1 5,Gu 2 24 23]) Wy)))) (Sr [Od 34 11 5,Gu 11 2 34,Oi 3 0]))
def QcE:PC:=So [Gr 1 Qe 0,Cd 2 Qe Kz,Oi 3 0] (So [Od 6 11 1,Ca 7 X4 6,Oa 4 7] (.seq (So [Oa 8 4,Oe 9 .neq 8 0] (Sc 9 (Sr [Ow 10 (.build Kz []),Oa 11 4,Gu 11 2 10,Oa 3 11]) .skip)) Wz))
theorem QiD:In1 prog Zk Tryz.f127 QcE:=jn1 Tryz.func127 (by kernel_rfl)
theorem QU:Rt prog Tryz.f128 H0 k A H=Ret H0 k (.tuple #[A 2,A 3]) H:=Qtd (by kernel_rfl)
def QA:PC:=.seq (So [Ob 20 1 1,Oc 21 1 20,Ou 22 21,Oe 23 .eql 22 0,Oa 24 23,Gb 25 1 1 24 false,Gc 26 1 25 24 false,Og 27 (.idxS 11 (t 26) (Ci 0)) 24 false,Gd 28 11 27 24 false,Og 29 (.call ZO [t 28]) 24 false,Ge 30 .eql 29 0 24 false,Gk 31 24 30] (Sc 31 (Sr [Oi 2 0,Ol 3 false]) .skip)) (Sr [Ob 32 1 1,Oc 33 1 32,Oy 34 11 33 0,Od 35 11 34,Ca 36 ZO 35,Ow 37 (.bin .mul (Ci 8) (t 36)),Oa 38 5,Oa 2 37,Oa 3 38])
def QB:PC:=.seq (So [Oa 16 4,Oe 17 .gtr 16 0] (Sc 17 (Sr [Oa 18 4,Oa 19 5,Oa 2 18,Oa 3 19]) .skip)) QA
def Gt:PC:=So [Gr 1 Qd 0,Oi 2 0,Ol 3 false] (So [Ob 7 0 1,Oc 8 1 7,Ca 9 Qar 8,Oa 6 9,Ot 10 6 0,Ot 11 6 1,Oa 4 10,Oa 5 11] (.seq (So [Ob 12 0 1,Oc 13 1 12,Ca 14 X3 13,Oh 15 14] (Sc 15 (Sr [Oi 2 0,Ol 3 false]) .skip)) QB))
theorem QjN:In1 prog ZN Tryz.f128 Gt:=jn1 Tryz.func128 (by kernel_rfl)
theorem Qx:Rt prog Tryz.f129 H0 k A H=Ret H0 k (.tuple #[A 6,A 7]) H:=Qtd (by kernel_rfl)
def QH:PC:=.seq (So [Oa 48 2,Oh 49 48,Oa 50 49,Oo 51 0 50 true,Ge 52 .lss 51 0 50 true,Oj 53 50 52] (Sc 53 (Sr [Oa 54 0,Oa 55 8,Gp 56 .add 54 55,Oa 6 56,Oi 7 0]) .skip)) (Sr [Oa 57 0,Oa 6 57,Oi 7 0])
def QI:PC:=.seq (So [Oa 38 2,Oa 39 38,Oo 40 0 39 true,Oo 41 8 39 true,Ge 42 .quo 41 2 39 true,Gf 43 .geq 40 42 39 true,Oj 44 39 43] (Sc 44 (Sr [Oa 45 0,Oa 46 8,Gp 47 .sub 45 46,Oa 6 47,Oi 7 0]) .skip)) QH
def QJ:PC:=So [Oa 26 1,Ow 27 (.bin .shl (Ci 1) (t 26)),Oa 8 27] (.seq (So [Oa 28 0,Oa 29 8,Ow 30 (.gen (.unOp .neg 3 (t 29))),Oe 31 .quo 30 2,Gp 32 .lss 28 31,Oa 33 32,Oo 34 0 33 false,Oo 35 8 33 false,Gf 36 .geq 34 35 33 false,Gk 37 33 36] (Sc 37 (Sr [Oi 6 0,Oi 7 5]) .skip)) QI)
def QK:PC:=.seq (So [Oa 23 1,Oe 24 .eql 23 64] (Sc 24 (Sr [Oa 25 0,Oa 6 25,Oi 7 0]) .skip)) QJ
def Xt:PC:=So [Oi 6 0,Oi 7 0] (.seq (So [Oa 9 1,Oe 10 .neq 9 8,Oa 11 10,Oo 12 1 11 true,Ge 13 .neq 12 16 11 true,Oj 14 11 13,Oa 15 14,Oo 16 1 15 true,Ge 17 .neq 16 32 15 true,Oj 18 15 17,Oa 19 18,Oo 20 1 19 true,Ge 21 .neq 20 64 19 true,Oj 22 19 21] (Sc 22 (Sr [Oi 6 0,Oi 7 2]) .skip)) QK)
theorem QkA:In3 prog Jo Tryz.f129 Xt:=jn3 Tryz.func129 (by kernel_rfl)
theorem Vi:Rt prog Tryz.f130 H0 k A H=Ret H0 k (A 6) H:=Wb (by kernel_rfl)
def Qas:PC:=So [Gr 3 Qd 0,Ol 6 false] (Sr [Ob 7 1 3,Oc 8 1 7,Ou 9 8,Oe 10 .eql 9 2,Oa 11 10,Gb 12 1 3 11 true,Gc 13 1 12 11 true,Og 14 (.idxS 11 (t 13) (Ci 0)) 11 true,Gb 15 0 14 11 true,Gc 16 1 15 11 true,Oo 17 1 11 true,Gf 18 .eql 16 17 11 true,Oj 19 11 18,Oa 20 19,Gb 21 1 3 20 true,Gc 22 1 21 20 true,Og 23 (.idxS 11 (t 22) (Ci 1)) 20 true,Gb 24 0 23 20 true,Gc 25 1 24 20 true,Oo 26 2 20 true,Gf 27 .eql 25 26 20 true,Oj 28 20 27,Oa 6 28])
theorem Qlp:In3 prog Xj Tryz.f130 Qas:=jn3 Tryz.func130 (by kernel_rfl)
theorem QiE:Rt prog Tryz.f131 H0 k A H=ldR true 2 (A 2) H λv=>Ret H0 k v H:=QrH (ty:=27) (by kernel_rfl) (by kernel_rfl) (by kernel_rfl)
def Qc8:PC:=So [Gr 1 Qd 0,Cd 2 Qd [.int .i64 0,.slice none 0 0]] (Sr [Ob 3 0 1,Oc 4 1 3,Ob 5 1 1,Oc 6 1 5,Oy 7 11 6 1,Od 8 11 7,Ob 9 1 1,Oc 10 1 9,Oy 11 11 10 0,Od 12 11 11,Ow 13 (.bslice Qe 11 2 QHU [(0,(t 8)),(1,(t 12))]),Ow 14 (.build [.int .i64 0,.slice none 0 0] [(0,1,(t 4)),(1,1,(t 13))]),Gu 2 2 14])
theorem QjO:In1 prog Xn Tryz.f131 Qc8:=jn1 Tryz.func131 (by kernel_rfl)
theorem QhB:Rt prog Tryz.f192 H0 k A H=Ret H0 k (A 2) H:=Wb (by kernel_rfl)
def QcF:PC:=So [Ol 2 false] (Sr [Oa 3 0,Oe 4 .geq 3 1,Oa 5 4,Oo 6 0 5 true,Ge 7 .leq 6 322 5 true,Oj 8 5 7,Oa 2 8])
theorem QiF:In1 prog X3 Tryz.f192 QcF:=jn1 Tryz.func192 (by kernel_rfl)
theorem Xu:Rt prog Tryz.f193 H0 k A H=Ret H0 k (A 2) H:=Wb (by kernel_rfl)
def WA:PC:=So [Ob 7 1 1,Od 8 2 7,Ca 9 X5 8,Oh 10 9,Oa 11 10,Gb 12 1 1 11 false,Gb 13 0 12 11 false,Gc 14 1 13 11 false,Ge 15 .eql 14 8 11 false,Gk 16 11 15] (Sc 16 (Sr [Oi 2 2]) .skip)
def WB:PC:=So [Ob 26 10 1,Oc 27 1 26,Oe 28 .lss 27 (-2147483648),Oa 29 28,Gb 30 10 1 29 false,Gc 31 1 30 29 false,Ge 32 .gtr 31 2147483647 29 false,Gk 33 29 32] (Sc 33 (Sr [Oi 2 5]) .skip)
def WC:PC:=So [Oe 25 .eql 4 4,Oa 24 25] (Sc 24 WB (Sr [Oi 2 2]))
def WD:PC:=So [Oe 23 .eql 4 3,Oa 22 23] (Sc 22 (Sr [Oi 2 0]) WC)
def WE:PC:=So [Oe 18 .eql 4 2,Oa 17 18] (Sc 17 (Sr [Ob 19 3 1,Od 20 7 19,Ca 21 Zn 20,Oa 2 21]) WD)
def QcG:PC:=So [Gr 1 Qe 0,Oi 2 0] (.seq (So [Ob 3 0 1,Oc 4 1 3] (.block 0 (So [Oe 6 .eql 4 1,Oa 5 6] (Sc 5 WA WE)))) (Sr [Oi 2 0]))
theorem QiG:In1 prog X4 Tryz.f193 QcG:=jn1 Tryz.func193 (by kernel_rfl)
theorem QiH:Rt prog Tryz.f194 H0 k A H=Ret H0 k (A 4) H:=Wb (by kernel_rfl)
def QbQ:PC:=.seq (.block 1 (So [Ob 14 1 2,Oc 15 1 14,Oa 16 6,Ox 17 11 15 16,Ob 18 0 17,Oc 19 1 18,Oa 20 1,Gp 21 .eql 19 20] (Sc 21 (.ops [Oa 22 5,Oe 23 .add 22 1,Oa 5 23]) .skip))) (.ops [Oa 12 6,Oe 13 .add 12 1,Oa 6 13])
def QbR:PC:=.seq (So [Oa 7 6,Ob 8 1 2,Oc 9 1 8,Ou 10 9,Gp 11 .lss 7 10] (Sc 11 .skip (.exit 0))) QbQ
def Qc9:PC:=So [Gr 2 Qd 0,Oi 4 0] (So [Oi 5 0] (.seq (So [Oi 6 0] (.block 0 (.loop QbR))) (Sr [Oa 24 5,Oa 4 24])))
theorem QjP:In2 prog Yx Tryz.f194 Qc9:=jn2 Tryz.func194 (by kernel_rfl)
theorem Xv:Rt prog Tryz.f195 H0 k A H=ldR true 7 (A 2) H λv=>Ret H0 k (.tuple #[v,A 3]) H:=Qkr (ty:=45) (by kernel_rfl) (by kernel_rfl) (by kernel_rfl)
def WF:PC:=So [Ob 35 0 1,Od 36 2 35,Cd 5 Q5 Ze2,Gu 2 5 36] (So [Ob 37 2 1,Od 38 2 37,Ob 39 0 1,Gu 2 39 38] (.ops [Od 40 2 5,Ob 41 2 1,Gu 2 41 40]))
def WG:PC:=.seq (So [Ob 26 4 1,Oc 27 1 26,Oe 28 .eql 27 1,Oa 29 28,Gb 30 2 1 29 true,Gb 31 1 30 29 true,Gc 32 1 31 29 true,Ge 33 .eql 32 4 29 true,Oj 34 29 33] (Sc 34 WF .skip)) (Sr [Od 42 7 1,Gu 7 2 42,Oi 3 0])
def WH:PC:=So [Ob 20 2 1,Od 21 2 20,Ob 22 0 1,Gu 2 22 21] (So [Ow 23 (.build Ze2 []),Ob 24 2 1,Gu 2 24 23] (.ops [Ob 25 4 1,Ov (.st 1 (t 25) (Ci 0))]))
def WI:PC:=.seq (So [Ob 12 4 1,Oc 13 1 12,Oe 14 .eql 13 1,Oa 15 14,Gb 16 0 1 15 true,Gd 17 2 16 15 true,Og 18 (.call Yy [t 17]) 15 true,Oj 19 15 18] (Sc 19 WH .skip)) WG
def QcH:PC:=So [Gr 1 Qq 0,Cd 2 Qq Ze7,Oi 3 0] (So [Od 6 7 1,Ca 7 Zn 6,Oa 4 7] (.seq (So [Oa 8 4,Oe 9 .neq 8 0] (Sc 9 (Sr [Ow 10 (.build Ze7 []),Oa 11 4,Gu 7 2 10,Oa 3 11]) .skip)) WI))
theorem QiI:In1 prog Zm Tryz.f195 QcH:=jn1 Tryz.func195 (by kernel_rfl)
theorem Zo:Rt prog Tryz.f196 H0 k A H=Ret H0 k (.tuple #[A 2,A 3]) H:=Qtd (by kernel_rfl)
def XN:PC:=So [Oa 20 0,Oe 21 .eql 20 48,Oa 19 21] (Sc 19 (Sr [Oi 2 64,Ol 3 true]) (So [Oa 23 0,Oe 24 .eql 23 51,Oa 22 24] (Sc 22 (Sr [Oi 2 16,Ol 3 false]) .skip)))
def XO:PC:=So [Oa 9 0,Oe 10 .geq 9 1,Oa 11 10,Oo 12 0 11 true,Ge 13 .leq 12 10 11 true,Oj 14 11 13,Oa 15 14,Oo 16 0 15 false,Ge 17 .eql 16 16 15 false,Gk 18 15 17,Oa 8 18] (Sc 8 (Sr [Oi 2 0,Ol 3 true]) XN)
def QdY:PC:=So [Oi 2 0,Ol 3 false] (.seq (.block 0 (So [Oa 5 0,Ca 6 X3 5,Oh 7 6,Oa 4 7] (Sc 4 (Sr [Oi 2 0,Ol 3 false]) XO))) (Sr [Oi 2 8,Ol 3 false]))
theorem QkB:In1 prog Qar Tryz.f196 QdY:=jn1 Tryz.func196 (by kernel_rfl)
theorem XP:Rt prog Tryz.f197 H0 k A H=Ret H0 k (A 2) H:=Wb (by kernel_rfl)
def WR:PC:=.seq (So [Ob 12 0 1,Oc 13 1 12,Oe 14 .eql 13 2] (Sc 14 (Sr [Ob 15 3 1,Ob 16 6 15,Oc 17 1 16,Oa 2 17]) .skip)) (Sr [Oi 2 0])
def WS:PC:=.seq (So [Ob 6 0 1,Oc 7 1 6,Oe 8 .eql 7 1] (Sc 8 (Sr [Ob 9 1 1,Od 10 2 9,Ca 11 Vg 10,Oa 2 11]) .skip)) WR
def Qda:PC:=So [Gr 1 Qe 0,Oi 2 0] (.seq (So [Od 3 11 1,Ca 4 X4 3,Oe 5 .neq 4 0] (Sc 5 (Sr [Oi 2 0]) .skip)) WS)
theorem QjQ:In1 prog ZO Tryz.f197 Qda:=jn1 Tryz.func197 (by kernel_rfl)
theorem Jv:Rt prog Tryz.f256 H0 k A H=Ret H0 k (A 2) H:=Wb (by kernel_rfl)
def Yk:PC:=So [Oe 21 .eql 4 2,Oa 20 21] (Sc 20 (Sr [Ob 22 1 1,Oc 23 1 22,Oe 24 .geq 23 4,Oa 25 24,Gb 26 1 1 25 true,Gc 27 1 26 25 true,Ge 28 .leq 27 7 25 true,Oj 29 25 28,Oa 2 29]) .skip)
def Yl:PC:=Sc 5 (Sr [Ob 12 1 1,Oc 13 1 12,Oe 14 .geq 13 0,Oa 15 14,Gb 16 1 1 15 true,Gc 17 1 16 15 true,Ge 18 .leq 17 15 15 true,Oj 19 15 18,Oa 2 19]) Yk
def Ym:PC:=So [Oe 9 .eql 4 5,Oa 5 9] (Sc 5 .skip (So [Oe 10 .eql 4 6,Oa 5 10] (Sc 5 .skip (.ops [Oe 11 .eql 4 7,Oa 5 11]))))
def Yn:PC:=So [Oe 8 .eql 4 4,Oa 5 8] (Sc 5 .skip Ym)
def Yo:PC:=So [Oe 7 .eql 4 3,Oa 5 7] (Sc 5 .skip Yn)
def QcI:PC:=So [Gr 1 Q5 0,Ol 2 false] (.seq (So [Ob 3 0 1,Oc 4 1 3] (.block 0 (.seq (So [Oe 6 .eql 4 1,Oa 5 6] (Sc 5 .skip Yo)) Yl))) (Sr [Ob 30 0 1,Oc 31 1 30,Oe 32 .eql 31 8,Oa 33 32,Gb 34 1 1 33 true,Gc 35 1 34 33 true,Ge 36 .eql 35 0 33 true,Oj 37 33 36,Oa 2 37]))
theorem QiJ:In1 prog X5 Tryz.f256 QcI:=jn1 Tryz.func256 (by kernel_rfl)
theorem Q6:Rt prog Tryz.f257 H0 k A H=Ret H0 k (A 2) H:=Wb (by kernel_rfl)
def QO:PC:=.seq (So [Ob 42 4 1,Oc 43 1 42,Oe 44 .neq 43 0,Oa 45 44,Gb 46 2 1 45 false,Gd 47 2 46 45 false,Og 48 (.build Ze2 []) 45 false,Og 49 (.eqs true [.i,.i] (t 47) (t 48)) 45 false,Gk 50 45 49] (Sc 50 (Sr [Oi 2 2]) .skip)) (Sr [Oi 2 0])
def QP:PC:=So [Ob 70 2 1,Od 71 2 70,Od 72 2 4,Ow 73 (.eqs false [.i,.i] (t 71) (t 72)),Oa 74 73,Gb 75 4 1 74 true,Gc 76 1 75 74 true,Ge 77 .neq 76 1 74 true,Oo 78 77 74 true,Gb 79 0 1 78 false,Gd 80 2 79 78 false,Gd 81 2 4 78 false,Og 82 (.eqs false [.i,.i] (t 80) (t 81)) 78 false,Og 83 (.pick (t 78) (.const (.bool true)) (t 82)) 74 true,Oj 84 74 83,Oa 69 84] (Sc 69 (Sr [Oi 2 2]) .skip)
def QQ:PC:=So [Ob 52 2 1,Od 53 2 52,Ca 54 ZP 53,Oh 55 54,Oa 56 55,Gb 57 4 1 56 false,Gc 58 1 57 56 false,Og 59 (.bslice 3 1 4 Ze4 [(0,(Ci 1)),(1,(Ci 2)),(2,(Ci 4)),(3,(Ci 8))]) 56 false,Og 60 (.call Yb [t 58,t 59]) 56 false,Og 61 (.not (t 60)) 56 false,Gk 62 56 61,Oa 63 62,Gb 64 0 1 63 false,Gd 65 2 64 63 false,Gd 66 2 3 63 false,Og 67 (.eqs false [.i,.i] (t 65) (t 66)) 63 false,Gk 68 63 67,Oa 51 68] (Sc 51 (Sr [Oi 2 2]) QP)
def QR:PC:=So [Ob 39 2 1,Od 40 2 39,Ca 41 Yy 40,Oa 38 41] (Sc 38 QO QQ)
def QS:PC:=So [Ob 22 0 1,Od 23 2 22,Ca 24 Yy 23,Oh 25 24,Oa 26 25,Gb 27 0 1 26 true,Gd 28 2 27 26 true,Og 29 (.call ZP [t 28]) 26 true,Og 30 (.not (t 29)) 26 true,Oj 31 26 30,Oa 32 31,Gb 33 0 1 32 true,Gd 34 2 33 32 true,Gd 35 2 3 32 true,Og 36 (.eqs true [.i,.i] (t 34) (t 35)) 32 true,Oj 37 32 36,Oa 21 37] (Sc 21 (Sr [Oi 2 2]) QR)
def QT:PC:=So [Ow 13 (.build Ze2 [(0,1,(Ci 8))]),Ow 14 (.build Ze2 [(0,1,(Ci 5)),(1,1,(Ci 4))]),Cd 3 Q5 Ze2,Cd 4 Q5 Ze2,Gu 2 3 13,Gu 2 4 14] (.seq (.block 0 (So [Ob 16 6 1,Oc 17 1 16,Ow 18 (.bslice 3 1 7 Ze7 [(0,(Ci 0)),(1,(Ci 1)),(2,(Ci 2)),(3,(Ci 4)),(4,(Ci 8)),(5,(Ci 16)),(6,(Ci 32))]),Cb 19 Yb 17 18,Oh 20 19,Oa 15 20] (Sc 15 (Sr [Oi 2 2]) QS))) (Sr [Oi 2 0]))
def QcJ:PC:=So [Gr 1 Qq 0,Oi 2 0] (.seq (So [Ob 5 5 1,Oc 6 1 5,Oe 7 .lss 6 (-2147483648),Oa 8 7,Gb 9 5 1 8 false,Gc 10 1 9 8 false,Ge 11 .gtr 10 2147483647 8 false,Gk 12 8 11] (Sc 12 (Sr [Oi 2 5]) .skip)) QT)
theorem QiK:In1 prog Zn Tryz.f257 QcJ:=jn1 Tryz.func257 (by kernel_rfl)
theorem Kh:Rt prog Tryz.f258 H0 k A H=Ret H0 k (A 2) H:=Wb (by kernel_rfl)
def Qdb:PC:=So [Gr 1 Q5 0,Ol 2 false] (Sr [Od 3 2 1,Ow 4 (.build Ze2 []),Ow 5 (.eqs false [.i,.i] (t 3) (t 4)),Oa 2 5])
theorem QjR:In1 prog Yy Tryz.f258 Qdb:=jn1 Tryz.func258 (by kernel_rfl)
theorem YX:Rt prog Tryz.f259 H0 k A H=Ret H0 k (A 2) H:=Wb (by kernel_rfl)
def Xw:PC:=So [Oe 16 .eql 7 6,Oa 15 16] (Sc 15 (Sr [Oi 2 16]) (So [Oe 18 .eql 7 7,Oa 17 18] (Sc 17 (Sr [Oi 2 32]) .skip)))
def Xx:PC:=Sc 12 (Sr [Oi 2 8]) Xw
def Xy:PC:=.seq (So [Oe 13 .eql 7 5,Oa 12 13] (Sc 12 .skip (.ops [Oe 14 .eql 7 8,Oa 12 14]))) Xx
def Xz:PC:=So [Oe 11 .eql 7 4,Oa 10 11] (Sc 10 (Sr [Oi 2 4]) Xy)
def XA:PC:=.seq (So [Ob 6 0 1,Oc 7 1 6] (.block 0 (So [Oe 9 .eql 7 3,Oa 8 9] (Sc 8 (Sr [Oi 2 2]) Xz)))) (Sr [Oi 2 1])
def Qdc:PC:=So [Gr 1 Q5 0,Oi 2 0] (.seq (So [Od 3 2 1,Ca 4 X5 3,Oh 5 4] (Sc 5 (Sr [Oi 2 0]) .skip)) XA)
theorem QjS:In1 prog Vg Tryz.f259 Qdc:=jn1 Tryz.func259 (by kernel_rfl)
theorem QdZ:Rt prog Tryz.f311 H0 k A H=Ret H0 k (A 4) H:=Wb (by kernel_rfl)
def Qdd:PC:=.seq (.block 1 (So [Oa 12 1,Oa 13 5,Ox 14 1 12 13,Oc 15 1 14,Oa 16 0,Gp 17 .eql 15 16] (Sc 17 (Sr [Ol 4 true]) .skip))) (.ops [Oa 10 5,Oe 11 .add 10 1,Oa 5 11])
def Gv:PC:=.seq (So [Oa 6 5,Oa 7 1,Ou 8 7,Gp 9 .lss 6 8] (Sc 9 .skip (.exit 0))) Qdd
def QeL:PC:=So [Ol 4 false] (.seq (So [Oi 5 0] (.block 0 (.loop Gv))) (Sr [Ol 4 false]))
theorem Qlq:In2 prog Yb Tryz.f311 QeL:=jn2 Tryz.func311 (by kernel_rfl)
theorem YY:Rt prog Tryz.f312 H0 k A H=Ret H0 k (A 2) H:=Wb (by kernel_rfl)
def Qde:PC:=So [Gr 1 Q5 0,Ol 2 false] (Sr [Ob 3 0 1,Oc 4 1 3,Oe 5 .eql 4 5,Oa 6 5,Gd 7 2 1 6 true,Og 8 (.call X5 [t 7]) 6 true,Oj 9 6 8,Oa 2 9])
theorem QjT:In1 prog ZP Tryz.f312 Qde:=jn1 Tryz.func312 (by kernel_rfl)
end Go.Proofs.YtfofbicfabokbaaGreatDoor.code
