/- The code of the functions that are reached, resolved. -/
import Derived.Test.YtbkbdnlfkahaaaaGreatDoorAbD
import Derived.Test.YtbkbdnlfkahaaaaGreatDoorProg
import Derived.KernelRfl
set_option linter.unusedVariables false
set_option maxRecDepth 100000
noncomputable section
namespace Go.Proofs.YtbkbdnlfkahaaaaGreatDoor.code
open Go.Ab
variable (H0 H:Qa) (k:Value->Qa->Prop) (A:Env)
noncomputable abbrev prog:Program:=Tryz.prog
abbrev Ww:FuncId:=28
abbrev X5:FuncId:=43
abbrev WF:FuncId:=44
abbrev Wt:FuncId:=45
abbrev QJ:FuncId:=68
abbrev W7:FuncId:=69
abbrev XI:FuncId:=70
abbrev YE:FuncId:=73
abbrev WA:FuncId:=118
abbrev WS:FuncId:=119
abbrev Xj:FuncId:=120
abbrev Q9:FuncId:=124
abbrev XJ:FuncId:=173
abbrev X6:FuncId:=190
abbrev WT:FuncId:=226
abbrev YF:FuncId:=235
abbrev Xt:FuncId:=236
abbrev XX:FuncId:=237
abbrev XY:FuncId:=238
abbrev YG:FuncId:=239
abbrev Z0:FuncId:=240
abbrev Qb:TypeId:=64
abbrev Qj:TypeId:=101
abbrev Qt:TypeId:=296
abbrev QL:TypeId:=99
theorem YK:Rt prog Tryz.f28 H0 k A H=Ret H0 k (A 2) H:=ZZ (by kernel_rfl)
def Zg:PC:=So [Oz 2] (So [Ow 7 (.call X5 []),Oa 3 7,Ol 4 true] (.seq (So [Oa 8 0,Ou 9 8,Oi 10 0] (.block 0 (.loop (So [Gp 11 .lss 10 9] (.seq (Sc 11 .skip (.exit 0)) (.seq (.block 1 (So [Ox 12 1 8 10,Oc 13 1 12,Oa 6 13] (.seq (So [Oa 14 3,Ca 15 WF 14,Oh 16 15] (Sc 16 (.exit 0) .skip)) (.seq (So [Oa 17 4,Oa 18 17,Oo 19 6 18 true,Og 20 (.bin .and (t 19) (.const (.int .u8 240))) 18 true,Og 21 (.bin .eql (t 20) (.const (.int .u8 64))) 18 true,Oj 22 18 21] (Sc 22 (So [Ol 4 false] (.exit 1)) .skip)) (So [Oa 23 4,Oa 24 23,Oo 25 6 24 true,Og 26 (.bin .eql (t 25) (.const (.int .u8 102))) 24 true,Oo 27 26 24 true,Oo 28 6 27 false,Og 29 (.bin .eql (t 28) (.const (.int .u8 242))) 27 false,Og 30 (.pick (t 27) (.const (.bool true)) (t 29)) 24 true,Oo 31 30 24 true,Oo 32 6 31 false,Og 33 (.bin .eql (t 32) (.const (.int .u8 243))) 31 false,Og 34 (.pick (t 31) (.const (.bool true)) (t 33)) 24 true,Oj 35 24 34,Oa 4 35] (.ops [Oa 36 3,Oa 37 6,Cb 38 Wt 36 37,Oa 3 38])))))) (.ops [Oe 39 .add 10 1,Oa 10 39]))))))) (Sr [Oa 40 3,Oq 41 40,Ob 42 1 41,Oc 43 1 42,Oa 2 43])))
theorem Gz:In1 prog Ww Tryz.f28 Zg:=jn1 Tryz.func28 (by kernel_rfl)
theorem Kq:Rt prog Tryz.f43 H0 k A H=Ret H0 k (A 0) H:=ZZ (by kernel_rfl)
def Zh:PC:=So [Om 0 (.const (.pointer none))] (Sr [Ow 1 (.call QJ []),Ow 2 (.gen (.makeMap 99 none)),Ow 3 (.build [.int .i64 0,.slice none 0 0,.map none] [(1,1,(t 1)),(2,1,(t 2))]),Gr 4 Qj 3,Oa 0 4])
theorem GA:In0 prog X5 Tryz.f43 Zh:=jn0 Tryz.func43 (by kernel_rfl)
theorem Wm:Rt prog Tryz.f44 H0 k A H=Ret H0 k (A 2) H:=ZZ (by kernel_rfl)
def Xl:PC:=So [Ol 2 false] (.seq (So [Oa 4 0,Oq 5 4,Ob 6 1 5,Oc 7 1 6,Ou 8 7,Oe 9 .eql 8 0] (Sc 9 (Sr [Ol 2 false]) .skip)) (.seq (So [Oa 10 0,Oq 11 10,Ob 12 1 11,Oc 13 1 12,Oy 14 10 13 0,Od 15 10 14,Cd 3 Qb [.int .i64 0,.slice none 0 0,.slice none 0 0,.int .i64 0,.int .i64 0,.int .i64 0,.int .i64 0,.int .i64 0,.bool false,.int .i64 0],Gu 10 3 15] (So [Ob 16 8 3,Oc 17 1 16,Oh 18 17] (Sc 18 (Sr [Oa 19 0,Oq 20 19,Ob 21 0 20,⟨some 22,.ld false 1 (t 21),none,true⟩,Od 23 10 3,⟨some 24,.callF W7 [t 23] [],none,true⟩,Ow 25 (.lenT (t 24)),Gp 26 .leq 22 25,Oa 2 26]) .skip))) (Sr [Oa 27 0,Oq 28 27,Ob 29 0 28,Oc 30 1 29,Oe 31 .eql 30 0,Oa 2 31])))
theorem Zx:In1 prog WF Tryz.f44 Xl:=jn1 Tryz.func44 (by kernel_rfl)
theorem YT:Rt prog Tryz.f45 H0 k A H=Ret H0 k (A 4) H:=ZZ (by kernel_rfl)
def Xc:PC:=So [Om 4 (.const (.pointer none))] (.seq (So [Oa 11 0,Oq 12 11,Ob 13 2 12,Oc 14 1 13,Oa 15 1,Ow 16 (.gen (.lookup 99 (t 14) (t 15) true)),Oa 10 16,Ot 17 10 0,Ot 18 10 1,Oa 5 17,Oa 6 18] (So [Oa 19 6] (Sc 19 (Sr [Oa 20 5,Oa 4 20]) .skip))) (So [Oa 21 0,Oq 22 21,Ob 23 0 22,Oc 24 1 23,Oe 25 .add 24 1,Ow 26 (.gen (.makeMap 99 none)),Ow 27 (.build [.int .i64 0,.slice none 0 0,.map none] [(0,1,(t 25)),(2,1,(t 26))]),Gr 28 Qj 27,Oa 7 28] (.seq (So [Oa 29 0,Oq 30 29,Ob 31 1 30,Oc 32 1 31,Ou 33 32,Oi 34 0] (.block 0 (.loop (So [Gp 35 .lss 34 33] (.seq (Sc 35 .skip (.exit 0)) (.seq (.block 1 (So [Ox 36 10 32 34,Od 37 10 36,Cd 9 Qb [.int .i64 0,.slice none 0 0,.slice none 0 0,.int .i64 0,.int .i64 0,.int .i64 0,.int .i64 0,.int .i64 0,.bool false,.int .i64 0],Gu 10 9 37] (So [Od 38 10 9,Oa 39 0,Oq 40 39,Ob 41 0 40,Oc 42 1 41,Oa 43 1,Cc 44 XI 38 42 43] (Sc 44 (.ops [Oa 45 7,Oa 46 7,Oq 47 46,Ob 48 1 47,Oc 49 1 48,Od 50 10 9,Ow 51 (.bslice Qb 10 1 [.int .i64 0,.slice none 0 0,.slice none 0 0,.int .i64 0,.int .i64 0,.int .i64 0,.int .i64 0,.int .i64 0,.bool false,.int .i64 0] [(0,(t 50))]),Ow 52 (.app Qb 10 112 (t 49) (t 51)),Oq 53 45,Ob 54 1 53,Gu 1 54 52]) .skip)))) (.ops [Oe 55 .add 34 1,Oa 34 55]))))))) (So [Oa 56 0,Oq 57 56,Ob 58 2 57,Oc 59 1 58,Oa 60 1,Oa 61 7,Ov (.gen (.mapUpdate 99 (t 59) (t 60) (t 61)))] (Sr [Oa 62 7,Oa 4 62])))))
theorem Zi:In2 prog Wt Tryz.f45 Xc:=jn2 Tryz.func45 (by kernel_rfl)
theorem GB:Rt prog Tryz.f68 H0 k A H=Ret H0 k (A 0) H:=ZZ (by kernel_rfl)
def ZG:PC:=So [Oz 0] (Sr [Ow 1 (.call WA [(Ci 1),(Ci 322),(.func WS)]),Oa 0 1])
theorem Vc:In0 prog QJ Tryz.f68 ZG:=jn0 Tryz.func68 (by kernel_rfl)
theorem Kr:Rt prog Tryz.f69 H0 k A H=Ret H0 k (A 2) H:=ZZ (by kernel_rfl)
def Zj:PC:=So [Gr 1 Qb 0,Om 2 (.const (.string (mkS [])))] (So [Om 3 (.const (.string (mkS [])))] (.seq (So [Ob 4 3 1,Oc 5 1 4,Oe 6 .and 5 1,Oe 7 .neq 6 0] (Sc 7 (.ops [Oa 8 3,Ow 9 (.bin .add (t 8) (.const (.string (mkS [102])))),Oa 3 9]) .skip)) (.seq (So [Ob 10 3 1,Oc 11 1 10,Oe 12 .and 11 2,Oe 13 .neq 12 0] (Sc 13 (.ops [Oa 14 3,Ow 15 (.bin .add (t 14) (.const (.string (mkS [242])))),Oa 3 15]) .skip)) (.seq (So [Ob 16 3 1,Oc 17 1 16,Oe 18 .and 17 4,Oe 19 .neq 18 0] (Sc 19 (.ops [Oa 20 3,Ow 21 (.bin .add (t 20) (.const (.string (mkS [243])))),Oa 3 21]) .skip)) (Sr [Oa 22 3,Ob 23 4 1,Oc 24 1 23,Ca 25 Xj 24,Gp 26 .add 22 25,Oa 2 26])))))
theorem GC:In1 prog W7 Tryz.f69 Zj:=jn1 Tryz.func69 (by kernel_rfl)
theorem Qv:Rt prog Tryz.f70 H0 k A H=Ret H0 k (A 6) H:=ZZ (by kernel_rfl)
def YL:PC:=So [Gr 3 Qb 0,Ol 6 false] (.seq (So [Ob 8 8 3,Oc 9 1 8] (Sc 9 (Sr [Oa 10 1,Oe 11 .eql 10 0,Oa 12 11,Oo 13 2 12 true,Og 14 (.bin .eql (t 13) (.const (.int .u8 196))) 12 true,Oo 15 14 12 true,Oo 16 2 15 false,Og 17 (.bin .eql (t 16) (.const (.int .u8 197))) 15 false,Oo 18 17 15 false,Gb 19 4 3 18 true,Gc 20 1 19 18 true,Ge 21 .eql 20 1 18 true,Og 22 (.pick (t 18) (t 21) (.const (.bool false))) 15 false,Oo 23 22 15 false,Gb 24 7 3 23 true,Gc 25 1 24 23 true,Ge 26 .neq 25 1 23 true,Og 27 (.pick (t 23) (t 26) (.const (.bool false))) 15 false,Og 28 (.pick (t 15) (.const (.bool true)) (t 27)) 12 true,Oj 29 12 28,Oa 6 29]) .skip)) (So [Od 30 10 3,Ca 31 W7 30,Oa 7 31] (.seq (.block 0 (So [Oa 33 1,Oa 34 7,Ow 35 (.lenT (t 34)),Gp 36 .lss 33 35,Oa 32 36] (Sc 32 (Sr [Oa 37 2,Oa 38 7,Oa 39 1,Ow 40 (.chr (t 38) (t 39)),Gp 41 .eql 37 40,Oa 6 41]) (So [Oa 43 1,Oa 44 7,Ow 45 (.lenT (t 44)),Gp 46 .gtr 43 45,Oa 42 46] (Sc 42 (Sr [Ol 6 false]) (So [Od 48 10 3,Ow 49 (.call YE [t 48,(Ci 4)]),Oe 50 .geq 49 0,Oa 47 50] (Sc 47 (Sr [Oa 51 2,Ow 52 (.bin .andNot (t 51) (.const (.int .u8 7))),Ow 53 (.toInt .i64 (t 52)),Ob 54 5 3,Oc 55 1 54,Gp 56 .eql 53 55,Oa 6 56]) .skip))))))) (Sr [Oa 57 2,Ow 58 (.toInt .i64 (t 57)),Ob 59 5 3,Oc 60 1 59,Gp 61 .eql 58 60,Oa 6 61]))))
theorem Kt:In3 prog XI Tryz.f70 YL:=jn3 Tryz.func70 (by kernel_rfl)
theorem GD:Rt prog Tryz.f73 H0 k A H=Ret H0 k (A 4) H:=ZZ (by kernel_rfl)
def ZH:PC:=So [Gr 2 Qb 0,Oi 4 0] (Sr [Ob 5 2 2,Oc 6 1 5,Oa 7 1,Cb 8 Q9 6 7,Oa 4 8])
theorem Vd:In2 prog YE Tryz.f73 ZH:=jn2 Tryz.func73 (by kernel_rfl)
theorem Jr:Rt prog Tryz.f118 H0 k A H=Ret H0 k (A 6) H:=ZZ (by kernel_rfl)
def Yl:PC:=So [Oz 6] (So [Oz 7] (.seq (So [Ow 12 (.call X6 []),Ou 13 12,Oi 14 0] (.block 0 (.loop (So [Gp 15 .lss 14 13] (.seq (Sc 15 .skip (.exit 0)) (.seq (.block 1 (So [Ox 16 3 12 14,Od 17 3 16,Cd 9 Qt [.int .i64 0,.int .i64 0,.nilFunc],Gu 3 9 17] (.seq (So [Oa 18 1,Ob 19 0 9,Oc 20 1 19,Gp 21 .lss 18 20,Oa 22 21,Oo 23 0 22 false,Gb 24 1 9 22 false,Gc 25 1 24 22 false,Gf 26 .gtr 23 25 22 false,Gk 27 22 26] (Sc 27 (.exit 1) .skip)) (So [Ob 28 2 9,Oc 29 1 28,Ow 30 (.callv (t 29) []),Ou 31 30,Oi 32 0] (.block 2 (.loop (So [Gp 33 .lss 32 31] (.seq (Sc 33 .skip (.exit 2)) (.seq (.block 3 (So [Ox 34 10 30 32,Od 35 10 34,Cd 11 Qb [.int .i64 0,.slice none 0 0,.slice none 0 0,.int .i64 0,.int .i64 0,.int .i64 0,.int .i64 0,.int .i64 0,.bool false,.int .i64 0],Gu 10 11 35] (So [Oa 36 2,Od 37 10 11,Ow 38 (.callv (t 36) [t 37])] (Sc 38 (.ops [Oa 39 7,Od 40 10 11,Ow 41 (.bslice Qb 10 1 [.int .i64 0,.slice none 0 0,.slice none 0 0,.int .i64 0,.int .i64 0,.int .i64 0,.int .i64 0,.int .i64 0,.bool false,.int .i64 0] [(0,(t 40))]),Ow 42 (.app Qb 10 112 (t 39) (t 41)),Oa 7 42]) .skip)))) (.ops [Oe 43 .add 32 1,Oa 32 43])))))))))) (.ops [Oe 44 .add 14 1,Oa 14 44]))))))) (Sr [Oa 45 7,Oa 6 45])))
theorem JN:In3 prog WA Tryz.f118 Yl:=jn3 Tryz.func118 (by kernel_rfl)
theorem JO:Rt prog Tryz.f119 H0 k A H=Ret H0 k (A 2) H:=ZZ (by kernel_rfl)
def YM:PC:=So [Gr 1 Qb 0,Ol 2 false] (Sr [Ol 2 true])
theorem Ku:In1 prog WS Tryz.f119 YM:=jn1 Tryz.func119 (by kernel_rfl)
theorem WU:Rt prog Tryz.f120 H0 k A H=Ret H0 k (A 2) H:=ZZ (by kernel_rfl)
def Ym:PC:=So [Om 2 (.const (.string (mkS [])))] (.seq (So [Oa 3 0] (.block 0 (So [Oe 5 .eql 3 1,Oa 4 5] (Sc 4 (Sr [Om 2 (.const (.string (mkS [15])))]) (So [Oe 7 .eql 3 2,Oa 6 7] (Sc 6 (Sr [Om 2 (.const (.string (mkS [15,56])))]) (So [Oe 9 .eql 3 3,Oa 8 9] (Sc 8 (Sr [Om 2 (.const (.string (mkS [15,58])))]) .skip)))))))) (Sr [Om 2 (.const (.string (mkS [])))]))
theorem JP:In1 prog Xj Tryz.f120 Ym:=jn1 Tryz.func120 (by kernel_rfl)
theorem Wx:Rt prog Tryz.f124 H0 k A H=Ret H0 k (A 4) H:=ZZ (by kernel_rfl)
def WM:PC:=So [Oi 4 0] (.seq (So [Oa 6 0,Ou 7 6,Oi 8 0] (.block 0 (.loop (So [Gp 9 .lss 8 7] (.seq (Sc 9 .skip (.exit 0)) (.seq (.block 1 (So [Oa 10 8,Oa 5 10] (So [Oa 11 1,Oa 12 0,Oa 13 5,Ox 14 1 12 13,Oc 15 1 14,Gp 16 .eql 11 15] (Sc 16 (Sr [Oa 17 5,Oa 4 17]) .skip)))) (.ops [Oe 18 .add 8 1,Oa 8 18]))))))) (Sr [Oi 4 (-1)]))
theorem Yn:In2 prog Q9 Tryz.f124 WM:=jn2 Tryz.func124 (by kernel_rfl)
theorem QaA:Rt prog Tryz.f173 H0 k A H=Ret H0 k (A 2) H:=ZZ (by kernel_rfl)
def Kf:PC:=So [Gr 1 3 0,Oz 2] (Sr [Oc 3 1 1,Oc 4 1 1,Ow 5 (.gen (.makeFunc (.func WT) #[] #[t 1])),Cc 6 WA 3 4 5,Oa 2 6])
theorem QbC:In1 prog XJ Tryz.f173 Kf:=jn1 Tryz.func173 (by kernel_rfl)
theorem Kv:Rt prog Tryz.f190 H0 k A H=Ret H0 k (A 0) H:=ZZ (by kernel_rfl)
def Zk:PC:=So [Oz 0] (Sr [Ow 1 (.build [.int .i64 0,.int .i64 0,.nilFunc] [(0,1,(Ci 1)),(1,1,(Ci 16)),(2,1,(.func YF))]),Ow 2 (.build [.int .i64 0,.int .i64 0,.nilFunc] [(0,1,(Ci 16)),(1,1,(Ci 47)),(2,1,(.func Xt))]),Ow 3 (.build [.int .i64 0,.int .i64 0,.nilFunc] [(0,1,(Ci 48)),(1,1,(Ci 115)),(2,1,(.func XX))]),Ow 4 (.build [.int .i64 0,.int .i64 0,.nilFunc] [(0,1,(Ci 116)),(1,1,(Ci 135)),(2,1,(.func XY))]),Ow 5 (.build [.int .i64 0,.int .i64 0,.nilFunc] [(0,1,(Ci 136)),(1,1,(Ci 262)),(2,1,(.func YG))]),Ow 6 (.build [.int .i64 0,.int .i64 0,.nilFunc] [(0,1,(Ci 263)),(1,1,(Ci 322)),(2,1,(.func Z0))]),Ow 7 (.bslice Qt 3 6 [.int .i64 0,.int .i64 0,.nilFunc,.int .i64 0,.int .i64 0,.nilFunc,.int .i64 0,.int .i64 0,.nilFunc,.int .i64 0,.int .i64 0,.nilFunc,.int .i64 0,.int .i64 0,.nilFunc,.int .i64 0,.int .i64 0,.nilFunc] [(0,(t 1)),(1,(t 2)),(2,(t 3)),(3,(t 4)),(4,(t 5)),(5,(t 6))]),Oa 0 7])
theorem GE:In0 prog X6 Tryz.f190 Zk:=jn0 Tryz.func190 (by kernel_rfl)
theorem GF:Rt prog Tryz.f226 H0 k A H=Ret H0 k (A 3) H:=ZZ (by kernel_rfl)
def ZI:PC:=So [Gr 2 Qb 0,Ol 3 false] (Sr [Ob 4 0 2,Oc 5 1 4,Oc 6 1 1,Gp 7 .eql 5 6,Oa 3 7])
theorem Ve:In2 prog WT Tryz.f226 ZI:=jn2 Tryz.func226 (by kernel_rfl)
end Go.Proofs.YtbkbdnlfkahaaaaGreatDoor.code
