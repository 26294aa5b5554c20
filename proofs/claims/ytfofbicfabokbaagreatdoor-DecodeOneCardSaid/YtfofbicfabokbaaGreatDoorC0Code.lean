/- The code of the functions that are reached, resolved. -/
import Derived.Test.YtfofbicfabokbaaGreatDoorProg
import Derived.KernelRfl
import Derived.Test.YtfofbicfabokbaaGreatDoorAbD
set_option linter.unusedVariables false
set_option maxRecDepth 100000
noncomputable section
namespace Go.Proofs.YtfofbicfabokbaaGreatDoor.code
open Go.Ab
variable (H0 H:Qa) (k:Value→Qa→Prop) (A:Env)
abbrev prog:Program:=Tryz.prog
abbrev Xr:FuncId:=6
abbrev Xn:FuncId:=7
abbrev KN:FuncId:=9
abbrev X8:FuncId:=11
abbrev VB:FuncId:=15
abbrev Wg:FuncId:=22
abbrev X9:FuncId:=24
abbrev Yy:FuncId:=25
abbrev ZO:FuncId:=26
abbrev Ya:FuncId:=29
abbrev Yb:FuncId:=31
abbrev GK:FuncId:=32
abbrev Jc:FuncId:=35
abbrev JN:FuncId:=36
abbrev VZ:FuncId:=37
abbrev Jl:FuncId:=38
abbrev ZG:FuncId:=39
abbrev XC:FuncId:=40
abbrev W7:FuncId:=41
abbrev Xo:FuncId:=42
abbrev WW:FuncId:=43
abbrev JO:FuncId:=58
abbrev W8:FuncId:=59
abbrev V0:FuncId:=61
abbrev Ko:FuncId:=62
abbrev GL:FuncId:=63
abbrev Yc:FuncId:=64
abbrev Yd:FuncId:=65
abbrev Q6:FuncId:=66
abbrev QM:FuncId:=67
abbrev Zn:FuncId:=68
abbrev Yo:FuncId:=69
abbrev Qa2:FuncId:=70
abbrev Qa3:FuncId:=71
abbrev Ju:FuncId:=72
abbrev XY:FuncId:=73
abbrev Qa4:FuncId:=74
abbrev Qa5:FuncId:=133
abbrev Gx:FuncId:=134
abbrev VC:FuncId:=135
abbrev VD:FuncId:=136
abbrev Qa6:FuncId:=137
abbrev Qee:FuncId:=138
abbrev Yp:FuncId:=139
abbrev Wq:FuncId:=140
abbrev Qef:FuncId:=141
abbrev WG:FuncId:=142
abbrev Ye:FuncId:=143
abbrev Kq:FuncId:=144
abbrev Kb:FuncId:=145
abbrev Kr:FuncId:=146
abbrev VE:FuncId:=147
abbrev V1:FuncId:=148
abbrev Qa7:FuncId:=149
abbrev QQ:FuncId:=150
abbrev GM:FuncId:=151
abbrev Qa8:FuncId:=152
abbrev VF:FuncId:=153
abbrev WR:FuncId:=154
abbrev KO:FuncId:=155
abbrev ZP:FuncId:=156
abbrev Wr:FuncId:=157
abbrev WE:FuncId:=158
abbrev WF:FuncId:=159
abbrev Gy:FuncId:=242
abbrev Qeg:FuncId:=243
abbrev VG:FuncId:=244
abbrev KP:FuncId:=245
abbrev JP:FuncId:=246
abbrev Yq:FuncId:=247
abbrev Qeh:FuncId:=248
abbrev GN:FuncId:=249
abbrev XZ:FuncId:=250
abbrev YF:FuncId:=251
abbrev Jm:FuncId:=252
abbrev Qco:FuncId:=306
abbrev Qa9:FuncId:=307
abbrev Qba:FuncId:=308
abbrev KA:FuncId:=309
abbrev Qei:FuncId:=310
abbrev V2:FuncId:=320
abbrev Qb:TypeId:=27
abbrev Qc:TypeId:=37
abbrev Q3:TypeId:=43
abbrev Qv:TypeId:=45
abbrev Qe:TypeId:=47
abbrev QC:TypeId:=68
abbrev XK:TypeId:=70
abbrev QG:TypeId:=72
abbrev Wl:TypeId:=88
abbrev Jv:TypeId:=130
abbrev QB:TypeId:=146
abbrev Ws:TypeId:=66
abbrev Qmh:TypeId:=263
abbrev Qhm:TypeId:=3
theorem VH:Rt prog Tryz.f9 H0 k A H=ldR true 2 (A 2) H fun v=>Ret H0 k (.tuple #[v,A 3,A 4]) H:=Qh2 (ty:=27) (by kernel_rfl) (by kernel_rfl) (by kernel_rfl)
def Qan:PC:=(.seq (.ops [Ow 2 (.alloc Qb [.int .i64 0,.slice none 0 0]),Om 3 (Ci 0),Om 4 (Ci 0)]) (.seq (.ops [Om 5 (Ci 4)]) (.seq (.seq (.ops [Om 11 (t 0),Ow 12 (.call Yy [(t 11)]),Ow 13 (.lenS (t 12)),Om 14 (Ci 0)]) (.block 0 (.loop (.seq (.ops [Ow 15 (.bin .lss (t 14) (t 13))]) (.seq (.cond (t 15) .skip (.exit 0)) (.seq (.block 1 (.seq (.ops [Ow 16 (.idxS 10 (t 12) (t 14)),Ow 17 (.ld true 10 (t 16)),Ow 7 (.alloc Qc [.int .i64 0,.slice none 0 0,.slice none 0 0,.int .i64 0,.int .i64 0,.int .i64 0,.int .i64 0,.int .i64 0,.bool false,.int .i64 0]),Ov (.st 10 (t 7) (t 17))]) (.seq (.ops [Ow 19 (.ld true 10 (t 7)),Om 20 (t 0),Ow 21 (.call ZO [(t 19),(t 20)]),Om 18 (t 21),Ow 22 (.ext (t 18) 0),Ow 23 (.ext (t 18) 1),Ow 24 (.ext (t 18) 2),Ow 8 (.alloc Qb [.int .i64 0,.slice none 0 0]),Ov (.st 2 (t 8) (t 22)),Om 9 (t 23),Om 10 (t 24)]) (.seq (.ops [Om 25 (t 10)]) (.block 2 (.seq (.ops [Ow 27 (.bin .eql (t 25) (Ci 0)),Om 26 (t 27)]) (.cond (t 26) (.seq (.ops [Ow 28 (.ld true 2 (t 8)),Om 29 (t 9),Ov (.st 2 (t 2) (t 28)),Om 3 (t 29),Om 4 (Ci 0)]) .ret) (.seq (.ops [Ow 31 (.bin .eql (t 25) (Ci 9)),Om 30 (t 31)]) (.cond (t 30) (.ops [Om 5 (Ci 9)]) .skip))))))))) (.ops [Ow 32 (.bin .add (t 14) (Ci 1)),Om 14 (t 32)]))))))) (.seq (.ops [Ow 33 (.build [.int .i64 0,.slice none 0 0] []),Om 34 (t 5),Ov (.st 2 (t 2) (t 33)),Om 3 (Ci 0),Om 4 (t 34)]) .ret))))
theorem QfI:In1 prog KN Tryz.f9 Qan:=in1 Tryz.func9 (by kernel_rfl) (by kernel_rfl) (by kernel_rfl)
theorem Qh7:Rt prog Tryz.f22 H0 k A H=Ret H0 k (A 0) H:=W1 (by kernel_rfl) (by kernel_rfl)
def Qdp:PC:=(.seq (.ops [Om 0 (.const (.slice none 0 0))]) (.seq (.ops [Ow 1 (.call Jc [(Ci 1),(Ci 322),(.func JN)]),Om 0 (t 1)]) .ret))
theorem Qjf:In0 prog Wg Tryz.f22 Qdp:=in0 Tryz.func22 (by kernel_rfl) (by kernel_rfl) (by kernel_rfl)
theorem KB:Rt prog Tryz.f24 H0 k A H=Ret H0 k (A 4) H:=W1 (by kernel_rfl) (by kernel_rfl)
def K9:PC:=(.seq (.ops [Om 4 (Ci 0)]) (.seq (.seq (.ops [Om 5 (t 1),Ow 6 (.bin .lss (t 5) (Ci 1))]) (.cond (t 6) (.seq (.ops [Om 4 (Ci 0)]) .ret) .skip)) (.seq (.ops [Om 7 (t 0),Om 8 (t 1),Ow 9 (.bin .rem (t 7) (t 8)),Om 0 (t 9)]) (.seq (.seq (.ops [Om 10 (t 0),Ow 11 (.bin .lss (t 10) (Ci 0))]) (.cond (t 11) (.ops [Om 12 (t 0),Om 13 (t 1),Ow 14 (.bin .add (t 12) (t 13)),Om 0 (t 14)]) .skip)) (.seq (.ops [Om 15 (t 0),Om 4 (t 15)]) .ret)))))
theorem Qde:In2 prog X9 Tryz.f24 K9:=in2 Tryz.func24 (by kernel_rfl) (by kernel_rfl) (by kernel_rfl)
theorem Qbq:Rt prog Tryz.f25 H0 k A H=Ret H0 k (A 2) H:=W1 (by kernel_rfl) (by kernel_rfl)
def Qcp:PC:=(.seq (.ops [Om 2 (.const (.slice none 0 0))]) (.seq (.ops [Ow 7 (.call VZ []),Om 3 (t 7),Om 4 (.const (.bool true))]) (.seq (.seq (.ops [Om 8 (t 0),Ow 9 (.lenS (t 8)),Om 10 (Ci 0)]) (.block 0 (.loop (.seq (.ops [Ow 11 (.bin .lss (t 10) (t 9))]) (.seq (.cond (t 11) .skip (.exit 0)) (.seq (.block 1 (.seq (.ops [Ow 12 (.idxS 1 (t 8) (t 10)),Ow 13 (.ld false 1 (t 12)),Om 6 (t 13)]) (.seq (.seq (.ops [Om 14 (t 3),Ow 15 (.call Jl [(t 14)]),Ow 16 (.not (t 15))]) (.cond (t 16) (.exit 0) .skip)) (.seq (.seq (.ops [Om 17 (t 4),Om 18 (t 17),On 19 (t 6) 18 true,Og 20 (.bin .and (t 19) (.const (.int .u8 240))) 18 true,Og 21 (.bin .eql (t 20) (.const (.int .u8 64))) 18 true,Ow 22 (.pick (t 18) (t 21) (.const (.bool false)))]) (.cond (t 22) (.seq (.ops [Om 4 (.const (.bool false))]) (.exit 1)) .skip)) (.seq (.ops [Om 23 (t 4),Om 24 (t 23),On 25 (t 6) 24 true,Og 26 (.bin .eql (t 25) (.const (.int .u8 102))) 24 true,On 27 (t 26) 24 true,On 28 (t 6) 27 false,Og 29 (.bin .eql (t 28) (.const (.int .u8 242))) 27 false,Og 30 (.pick (t 27) (.const (.bool true)) (t 29)) 24 true,On 31 (t 30) 24 true,On 32 (t 6) 31 false,Og 33 (.bin .eql (t 32) (.const (.int .u8 243))) 31 false,Og 34 (.pick (t 31) (.const (.bool true)) (t 33)) 24 true,Ow 35 (.pick (t 24) (t 34) (.const (.bool false))),Om 4 (t 35)]) (.ops [Om 36 (t 3),Om 37 (t 6),Ow 38 (.call ZG [(t 36),(t 37)]),Om 3 (t 38)])))))) (.ops [Ow 39 (.bin .add (t 10) (Ci 1)),Om 10 (t 39)]))))))) (.seq (.ops [Om 40 (t 3),Ow 41 (.gen (.nilCheck (t 40))),Ow 42 (.fldA 1 (t 41)),Ow 43 (.ld false 1 (t 42)),Om 2 (t 43)]) .ret))))
theorem Qh8:In1 prog Yy Tryz.f25 Qcp:=in1 Tryz.func25 (by kernel_rfl) (by kernel_rfl) (by kernel_rfl)
theorem QkK:Rt prog Tryz.f31 H0 k A H=Ret H0 k (A 2) H:=W1 (by kernel_rfl) (by kernel_rfl)
def Qgr:PC:=(.seq (.ops [Ow 1 (.box 3 (t 0)),Om 2 (.const (.slice none 0 0))]) (.seq (.ops [Ow 3 (.ld false 1 (t 1)),Ow 4 (.ld false 1 (t 1)),Ow 5 (.gen (.makeFunc (.func JO) #[] #[(t 1)])),Ow 6 (.call Jc [(t 3),(t 4),(t 5)]),Om 2 (t 6)]) .ret))
theorem Qmi:In1 prog Yb Tryz.f31 Qgr:=in1 Tryz.func31 (by kernel_rfl) (by kernel_rfl) (by kernel_rfl)
theorem QeV:Rt prog Tryz.f35 H0 k A H=Ret H0 k (A 6) H:=W1 (by kernel_rfl) (by kernel_rfl)
def Qao:PC:=(.seq (.ops [Om 6 (.const (.slice none 0 0))]) (.seq (.ops [Om 7 (.const (.slice none 0 0))]) (.seq (.seq (.ops [Ow 12 (.call V0 []),Ow 13 (.lenS (t 12)),Om 14 (Ci 0)]) (.block 0 (.loop (.seq (.ops [Ow 15 (.bin .lss (t 14) (t 13))]) (.seq (.cond (t 15) .skip (.exit 0)) (.seq (.block 1 (.seq (.ops [Ow 16 (.idxS 3 (t 12) (t 14)),Ow 17 (.ld true 3 (t 16)),Ow 9 (.alloc Wl [.int .i64 0,.int .i64 0,.nilFunc]),Ov (.st 3 (t 9) (t 17))]) (.seq (.seq (.ops [Om 18 (t 1),Ow 19 (.fldA 0 (t 9)),Ow 20 (.ld false 1 (t 19)),Ow 21 (.bin .lss (t 18) (t 20)),Om 22 (t 21),On 23 (t 0) 22 false,Og 24 (.fldA 1 (t 9)) 22 false,Og 25 (.ld false 1 (t 24)) 22 false,Og 26 (.bin .gtr (t 23) (t 25)) 22 false,Ow 27 (.pick (t 22) (.const (.bool true)) (t 26))]) (.cond (t 27) (.exit 1) .skip)) (.seq (.ops [Ow 28 (.fldA 2 (t 9)),Ow 29 (.ld false 1 (t 28)),Ow 30 (.callv (t 29) []),Ow 31 (.lenS (t 30)),Om 32 (Ci 0)]) (.block 2 (.loop (.seq (.ops [Ow 33 (.bin .lss (t 32) (t 31))]) (.seq (.cond (t 33) .skip (.exit 2)) (.seq (.block 3 (.seq (.ops [Ow 34 (.idxS 10 (t 30) (t 32)),Ow 35 (.ld true 10 (t 34)),Ow 11 (.alloc Qc [.int .i64 0,.slice none 0 0,.slice none 0 0,.int .i64 0,.int .i64 0,.int .i64 0,.int .i64 0,.int .i64 0,.bool false,.int .i64 0]),Ov (.st 10 (t 11) (t 35))]) (.seq (.ops [Om 36 (t 2),Ow 37 (.ld true 10 (t 11)),Ow 38 (.callv (t 36) [(t 37)])]) (.cond (t 38) (.ops [Om 39 (t 7),Ow 40 (.ld true 10 (t 11)),Ow 41 (.bslice Qc 10 1 [.int .i64 0,.slice none 0 0,.slice none 0 0,.int .i64 0,.int .i64 0,.int .i64 0,.int .i64 0,.int .i64 0,.bool false,.int .i64 0] [(0,(t 40))]),Ow 42 (.app Qc 10 112 (t 39) (t 41)),Om 7 (t 42)]) .skip)))) (.ops [Ow 43 (.bin .add (t 32) (Ci 1)),Om 32 (t 43)])))))))))) (.ops [Ow 44 (.bin .add (t 14) (Ci 1)),Om 14 (t 44)]))))))) (.seq (.ops [Om 45 (t 7),Om 6 (t 45)]) .ret))))
theorem QfJ:In3 prog Jc Tryz.f35 Qao:=in3 Tryz.func35 (by kernel_rfl) (by kernel_rfl) (by kernel_rfl)
theorem QfK:Rt prog Tryz.f36 H0 k A H=Ret H0 k (A 2) H:=W1 (by kernel_rfl) (by kernel_rfl)
def Qbr:PC:=(.seq (.ops [Ow 1 (.box Qc (t 0)),Om 2 (.const (.bool false))]) (.seq (.ops [Om 2 (.const (.bool true))]) .ret))
theorem QgM:In1 prog JN Tryz.f36 Qbr:=in1 Tryz.func36 (by kernel_rfl) (by kernel_rfl) (by kernel_rfl)
theorem QgN:Rt prog Tryz.f37 H0 k A H=Ret H0 k (A 0) H:=W1 (by kernel_rfl) (by kernel_rfl)
def Qcq:PC:=(.seq (.ops [Om 0 (.const (.pointer none))]) (.seq (.ops [Ow 1 (.call Wg []),Ow 2 (.gen (.makeMap 66 none)),Ow 3 (.build [.int .i64 0,.slice none 0 0,.map none] [(1,1,(t 1)),(2,1,(t 2))]),Ow 4 (.box QC (t 3)),Om 0 (t 4)]) .ret))
theorem Qh9:In0 prog VZ Tryz.f37 Qcq:=in0 Tryz.func37 (by kernel_rfl) (by kernel_rfl) (by kernel_rfl)
theorem YT:Rt prog Tryz.f38 H0 k A H=Ret H0 k (A 2) H:=W1 (by kernel_rfl) (by kernel_rfl)
def Ga:PC:=(.seq (.ops [Om 2 (.const (.bool false))]) (.seq (.seq (.ops [Om 4 (t 0),Ow 5 (.gen (.nilCheck (t 4))),Ow 6 (.fldA 1 (t 5)),Ow 7 (.ld false 1 (t 6)),Ow 8 (.lenS (t 7)),Ow 9 (.bin .eql (t 8) (Ci 0))]) (.cond (t 9) (.seq (.ops [Om 2 (.const (.bool false))]) .ret) .skip)) (.seq (.seq (.ops [Om 10 (t 0),Ow 11 (.gen (.nilCheck (t 10))),Ow 12 (.fldA 1 (t 11)),Ow 13 (.ld false 1 (t 12)),Ow 14 (.idxS 10 (t 13) (Ci 0)),Ow 15 (.ld true 10 (t 14)),Ow 3 (.alloc Qc [.int .i64 0,.slice none 0 0,.slice none 0 0,.int .i64 0,.int .i64 0,.int .i64 0,.int .i64 0,.int .i64 0,.bool false,.int .i64 0]),Ov (.st 10 (t 3) (t 15))]) (.seq (.ops [Ow 16 (.fldA 8 (t 3)),Ow 17 (.ld false 1 (t 16)),Ow 18 (.not (t 17))]) (.cond (t 18) (.seq (.ops [Om 19 (t 0),Ow 20 (.gen (.nilCheck (t 19))),Ow 21 (.fldA 0 (t 20)),⟨some 22,.ld false 1 (t 21),none,true⟩,Ow 23 (.ld true 10 (t 3)),⟨some 24,.callF Ko [(t 23)] [],none,true⟩,Ow 25 (.lenT (t 24)),Ow 26 (.bin .leq (t 22) (t 25)),Om 2 (t 26)]) .ret) .skip))) (.seq (.ops [Om 27 (t 0),Ow 28 (.gen (.nilCheck (t 27))),Ow 29 (.fldA 0 (t 28)),Ow 30 (.ld false 1 (t 29)),Ow 31 (.bin .eql (t 30) (Ci 0)),Om 2 (t 31)]) .ret))))
theorem Qdf:In1 prog Jl Tryz.f38 Ga:=in1 Tryz.func38 (by kernel_rfl) (by kernel_rfl) (by kernel_rfl)
theorem QbW:Rt prog Tryz.f39 H0 k A H=Ret H0 k (A 4) H:=W1 (by kernel_rfl) (by kernel_rfl)
def KD:PC:=(.seq (.ops [Om 4 (.const (.pointer none))]) (.seq (.seq (.ops [Om 11 (t 0),Ow 12 (.gen (.nilCheck (t 11))),Ow 13 (.fldA 2 (t 12)),Ow 14 (.ld false 1 (t 13)),Om 15 (t 1),Ow 16 (.gen (.lookup 66 (t 14) (t 15) true)),Om 10 (t 16),Ow 17 (.ext (t 10) 0),Ow 18 (.ext (t 10) 1),Om 5 (t 17),Om 6 (t 18)]) (.seq (.ops [Om 19 (t 6)]) (.cond (t 19) (.seq (.ops [Om 20 (t 5),Om 4 (t 20)]) .ret) .skip))) (.seq (.ops [Om 21 (t 0),Ow 22 (.gen (.nilCheck (t 21))),Ow 23 (.fldA 0 (t 22)),Ow 24 (.ld false 1 (t 23)),Ow 25 (.bin .add (t 24) (Ci 1)),Ow 26 (.gen (.makeMap 66 none)),Ow 27 (.build [.int .i64 0,.slice none 0 0,.map none] [(0,1,(t 25)),(2,1,(t 26))]),Ow 28 (.box QC (t 27)),Om 7 (t 28)]) (.seq (.seq (.ops [Om 29 (t 0),Ow 30 (.gen (.nilCheck (t 29))),Ow 31 (.fldA 1 (t 30)),Ow 32 (.ld false 1 (t 31)),Ow 33 (.lenS (t 32)),Om 34 (Ci 0)]) (.block 0 (.loop (.seq (.ops [Ow 35 (.bin .lss (t 34) (t 33))]) (.seq (.cond (t 35) .skip (.exit 0)) (.seq (.block 1 (.seq (.ops [Ow 36 (.idxS 10 (t 32) (t 34)),Ow 37 (.ld true 10 (t 36)),Ow 9 (.alloc Qc [.int .i64 0,.slice none 0 0,.slice none 0 0,.int .i64 0,.int .i64 0,.int .i64 0,.int .i64 0,.int .i64 0,.bool false,.int .i64 0]),Ov (.st 10 (t 9) (t 37))]) (.seq (.ops [Ow 38 (.ld true 10 (t 9)),Om 39 (t 0),Ow 40 (.gen (.nilCheck (t 39))),Ow 41 (.fldA 0 (t 40)),Ow 42 (.ld false 1 (t 41)),Om 43 (t 1),Ow 44 (.call GL [(t 38),(t 42),(t 43)])]) (.cond (t 44) (.ops [Om 45 (t 7),Om 46 (t 7),Ow 47 (.gen (.nilCheck (t 46))),Ow 48 (.fldA 1 (t 47)),Ow 49 (.ld false 1 (t 48)),Ow 50 (.ld true 10 (t 9)),Ow 51 (.bslice Qc 10 1 [.int .i64 0,.slice none 0 0,.slice none 0 0,.int .i64 0,.int .i64 0,.int .i64 0,.int .i64 0,.int .i64 0,.bool false,.int .i64 0] [(0,(t 50))]),Ow 52 (.app Qc 10 112 (t 49) (t 51)),Ow 53 (.gen (.nilCheck (t 45))),Ow 54 (.fldA 1 (t 53)),Ov (.st 1 (t 54) (t 52))]) .skip)))) (.ops [Ow 55 (.bin .add (t 34) (Ci 1)),Om 34 (t 55)]))))))) (.seq (.ops [Om 56 (t 0),Ow 57 (.gen (.nilCheck (t 56))),Ow 58 (.fldA 2 (t 57)),Ow 59 (.ld false 1 (t 58)),Om 60 (t 1),Om 61 (t 7),Ov (.gen (.mapUpdate 66 (t 59) (t 60) (t 61)))]) (.seq (.ops [Om 62 (t 7),Om 4 (t 62)]) .ret))))))
theorem Qcr:In2 prog ZG Tryz.f39 KD:=in2 Tryz.func39 (by kernel_rfl) (by kernel_rfl) (by kernel_rfl)
theorem Qia:Rt prog Tryz.f58 H0 k A H=Ret H0 k (A 3) H:=W1 (by kernel_rfl) (by kernel_rfl)
def Qdq:PC:=(.seq (.ops [Ow 2 (.box Qc (t 0)),Om 3 (.const (.bool false))]) (.seq (.ops [Ow 4 (.fldA 0 (t 2)),Ow 5 (.ld false 1 (t 4)),Ow 6 (.ld false 1 (t 1)),Ow 7 (.bin .eql (t 5) (t 6)),Om 3 (t 7)]) .ret))
theorem Qjg:In2 prog JO Tryz.f58 Qdq:=in2 Tryz.func58 (by kernel_rfl) (by kernel_rfl) (by kernel_rfl)
theorem QgO:Rt prog Tryz.f61 H0 k A H=Ret H0 k (A 0) H:=W1 (by kernel_rfl) (by kernel_rfl)
def Qcs:PC:=(.seq (.ops [Om 0 (.const (.slice none 0 0))]) (.seq (.ops [Ow 1 (.build [.int .i64 0,.int .i64 0,.nilFunc] [(0,1,(Ci 1)),(1,1,(Ci 16)),(2,1,(.func Qa5))]),Ow 2 (.build [.int .i64 0,.int .i64 0,.nilFunc] [(0,1,(Ci 16)),(1,1,(Ci 47)),(2,1,(.func Gx))]),Ow 3 (.build [.int .i64 0,.int .i64 0,.nilFunc] [(0,1,(Ci 48)),(1,1,(Ci 115)),(2,1,(.func VC))]),Ow 4 (.build [.int .i64 0,.int .i64 0,.nilFunc] [(0,1,(Ci 116)),(1,1,(Ci 135)),(2,1,(.func VD))]),Ow 5 (.build [.int .i64 0,.int .i64 0,.nilFunc] [(0,1,(Ci 136)),(1,1,(Ci 262)),(2,1,(.func Qa6))]),Ow 6 (.build [.int .i64 0,.int .i64 0,.nilFunc] [(0,1,(Ci 263)),(1,1,(Ci 322)),(2,1,(.func Qee))]),Ow 7 (.bslice Wl 3 6 [.int .i64 0,.int .i64 0,.nilFunc,.int .i64 0,.int .i64 0,.nilFunc,.int .i64 0,.int .i64 0,.nilFunc,.int .i64 0,.int .i64 0,.nilFunc,.int .i64 0,.int .i64 0,.nilFunc,.int .i64 0,.int .i64 0,.nilFunc] [(0,(t 1)),(1,(t 2)),(2,(t 3)),(3,(t 4)),(4,(t 5)),(5,(t 6))]),Om 0 (t 7)]) .ret))
theorem Qib:In0 prog V0 Tryz.f61 Qcs:=in0 Tryz.func61 (by kernel_rfl) (by kernel_rfl) (by kernel_rfl)
theorem QgP:Rt prog Tryz.f62 H0 k A H=Ret H0 k (A 2) H:=W1 (by kernel_rfl) (by kernel_rfl)
def Qct:PC:=(.seq (.ops [Ow 1 (.box Qc (t 0)),Om 2 (.const (.string (mkS [])))]) (.seq (.ops [Om 3 (.const (.string (mkS [])))]) (.seq (.seq (.ops [Ow 4 (.fldA 3 (t 1)),Ow 5 (.ld false 1 (t 4)),Ow 6 (.bin .and (t 5) (Ci 1)),Ow 7 (.bin .neq (t 6) (Ci 0))]) (.cond (t 7) (.ops [Om 8 (t 3),Ow 9 (.bin .add (t 8) (.const (.string (mkS [102])))),Om 3 (t 9)]) .skip)) (.seq (.seq (.ops [Ow 10 (.fldA 3 (t 1)),Ow 11 (.ld false 1 (t 10)),Ow 12 (.bin .and (t 11) (Ci 2)),Ow 13 (.bin .neq (t 12) (Ci 0))]) (.cond (t 13) (.ops [Om 14 (t 3),Ow 15 (.bin .add (t 14) (.const (.string (mkS [242])))),Om 3 (t 15)]) .skip)) (.seq (.seq (.ops [Ow 16 (.fldA 3 (t 1)),Ow 17 (.ld false 1 (t 16)),Ow 18 (.bin .and (t 17) (Ci 4)),Ow 19 (.bin .neq (t 18) (Ci 0))]) (.cond (t 19) (.ops [Om 20 (t 3),Ow 21 (.bin .add (t 20) (.const (.string (mkS [243])))),Om 3 (t 21)]) .skip)) (.seq (.ops [Om 22 (t 3),Ow 23 (.fldA 4 (t 1)),Ow 24 (.ld false 1 (t 23)),Ow 25 (.call Yp [(t 24)]),Ow 26 (.bin .add (t 22) (t 25)),Om 2 (t 26)]) .ret))))))
theorem Qic:In1 prog Ko Tryz.f62 Qct:=in1 Tryz.func62 (by kernel_rfl) (by kernel_rfl) (by kernel_rfl)
theorem Wt:Rt prog Tryz.f63 H0 k A H=Ret H0 k (A 6) H:=W1 (by kernel_rfl) (by kernel_rfl)
def Qbs:PC:=(.seq (.ops [Ow 3 (.box Qc (t 0)),Om 6 (.const (.bool false))]) (.seq (.seq (.ops [Ow 8 (.fldA 8 (t 3)),Ow 9 (.ld false 1 (t 8))]) (.cond (t 9) (.seq (.ops [Om 10 (t 1),Ow 11 (.bin .eql (t 10) (Ci 0)),Om 12 (t 11),On 13 (t 2) 12 true,Og 14 (.bin .eql (t 13) (.const (.int .u8 196))) 12 true,On 15 (t 14) 12 true,On 16 (t 2) 15 false,Og 17 (.bin .eql (t 16) (.const (.int .u8 197))) 15 false,On 18 (t 17) 15 false,Og 19 (.fldA 4 (t 3)) 18 true,Og 20 (.ld false 1 (t 19)) 18 true,Og 21 (.bin .eql (t 20) (Ci 1)) 18 true,Og 22 (.pick (t 18) (t 21) (.const (.bool false))) 15 false,On 23 (t 22) 15 false,Og 24 (.fldA 7 (t 3)) 23 true,Og 25 (.ld false 1 (t 24)) 23 true,Og 26 (.bin .neq (t 25) (Ci 1)) 23 true,Og 27 (.pick (t 23) (t 26) (.const (.bool false))) 15 false,Og 28 (.pick (t 15) (.const (.bool true)) (t 27)) 12 true,Ow 29 (.pick (t 12) (t 28) (.const (.bool false))),Om 6 (t 29)]) .ret) .skip)) (.seq (.ops [Ow 30 (.ld true 10 (t 3)),Ow 31 (.call Ko [(t 30)]),Om 7 (t 31)]) (.seq (.block 0 (.seq (.ops [Om 33 (t 1),Om 34 (t 7),Ow 35 (.lenT (t 34)),Ow 36 (.bin .lss (t 33) (t 35)),Om 32 (t 36)]) (.cond (t 32) (.seq (.ops [Om 37 (t 2),Om 38 (t 7),Om 39 (t 1),Ow 40 (.chr (t 38) (t 39)),Ow 41 (.bin .eql (t 37) (t 40)),Om 6 (t 41)]) .ret) (.seq (.ops [Om 43 (t 1),Om 44 (t 7),Ow 45 (.lenT (t 44)),Ow 46 (.bin .gtr (t 43) (t 45)),Om 42 (t 46)]) (.cond (t 42) (.seq (.ops [Om 6 (.const (.bool false))]) .ret) (.seq (.ops [Ow 48 (.ld true 10 (t 3)),Ow 49 (.call Q6 [(t 48),(Ci 4)]),Ow 50 (.bin .geq (t 49) (Ci 0)),Om 47 (t 50)]) (.cond (t 47) (.seq (.ops [Om 51 (t 2),Ow 52 (.bin .andNot (t 51) (.const (.int .u8 7))),Ow 53 (.toInt .i64 (t 52)),Ow 54 (.fldA 5 (t 3)),Ow 55 (.ld false 1 (t 54)),Ow 56 (.bin .eql (t 53) (t 55)),Om 6 (t 56)]) .ret) .skip))))))) (.seq (.ops [Om 57 (t 2),Ow 58 (.toInt .i64 (t 57)),Ow 59 (.fldA 5 (t 3)),Ow 60 (.ld false 1 (t 59)),Ow 61 (.bin .eql (t 58) (t 60)),Om 6 (t 61)]) .ret)))))
theorem QgQ:In3 prog GL Tryz.f63 Qbs:=in3 Tryz.func63 (by kernel_rfl) (by kernel_rfl) (by kernel_rfl)
theorem Qid:Rt prog Tryz.f66 H0 k A H=Ret H0 k (A 4) H:=W1 (by kernel_rfl) (by kernel_rfl)
def Qdr:PC:=(.seq (.ops [Ow 2 (.box Qc (t 0)),Om 4 (Ci 0)]) (.seq (.ops [Ow 5 (.fldA 2 (t 2)),Ow 6 (.ld false 1 (t 5)),Om 7 (t 1),Ow 8 (.call Ye [(t 6),(t 7)]),Om 4 (t 8)]) .ret))
theorem Qjh:In2 prog Q6 Tryz.f66 Qdr:=in2 Tryz.func66 (by kernel_rfl) (by kernel_rfl) (by kernel_rfl)
theorem JQ:Rt prog Tryz.f139 H0 k A H=Ret H0 k (A 2) H:=W1 (by kernel_rfl) (by kernel_rfl)
def Qap:PC:=(.seq (.ops [Om 2 (.const (.string (mkS [])))]) (.seq (.seq (.ops [Om 3 (t 0)]) (.block 0 (.seq (.ops [Ow 5 (.bin .eql (t 3) (Ci 1)),Om 4 (t 5)]) (.cond (t 4) (.seq (.ops [Om 2 (.const (.string (mkS [15])))]) .ret) (.seq (.ops [Ow 7 (.bin .eql (t 3) (Ci 2)),Om 6 (t 7)]) (.cond (t 6) (.seq (.ops [Om 2 (.const (.string (mkS [15,56])))]) .ret) (.seq (.ops [Ow 9 (.bin .eql (t 3) (Ci 3)),Om 8 (t 9)]) (.cond (t 8) (.seq (.ops [Om 2 (.const (.string (mkS [15,58])))]) .ret) .skip)))))))) (.seq (.ops [Om 2 (.const (.string (mkS [])))]) .ret)))
theorem QfL:In1 prog Yp Tryz.f139 Qap:=in1 Tryz.func139 (by kernel_rfl) (by kernel_rfl) (by kernel_rfl)
theorem ZQ:Rt prog Tryz.f143 H0 k A H=Ret H0 k (A 4) H:=W1 (by kernel_rfl) (by kernel_rfl)
def Jw:PC:=(.seq (.ops [Om 4 (Ci 0)]) (.seq (.seq (.ops [Om 6 (t 0),Ow 7 (.lenS (t 6)),Om 8 (Ci 0)]) (.block 0 (.loop (.seq (.ops [Ow 9 (.bin .lss (t 8) (t 7))]) (.seq (.cond (t 9) .skip (.exit 0)) (.seq (.block 1 (.seq (.ops [Om 10 (t 8),Om 5 (t 10)]) (.seq (.ops [Om 11 (t 1),Om 12 (t 0),Om 13 (t 5),Ow 14 (.idxS 1 (t 12) (t 13)),Ow 15 (.ld false 1 (t 14)),Ow 16 (.bin .eql (t 11) (t 15))]) (.cond (t 16) (.seq (.ops [Om 17 (t 5),Om 4 (t 17)]) .ret) .skip)))) (.ops [Ow 18 (.bin .add (t 8) (Ci 1)),Om 8 (t 18)]))))))) (.seq (.ops [Om 4 (Ci (-1))]) .ret)))
theorem Qaq:In2 prog Ye Tryz.f143 Jw:=in2 Tryz.func143 (by kernel_rfl) (by kernel_rfl) (by kernel_rfl)
end Go.Proofs.YtfofbicfabokbaaGreatDoor.code
