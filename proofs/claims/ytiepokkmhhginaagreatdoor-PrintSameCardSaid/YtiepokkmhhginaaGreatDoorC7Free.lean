/- The code of the functions that are reached, resolved. -/
import Derived.Test.YtiepokkmhhginaaGreatDoorAbD
import Derived.Test.YtiepokkmhhginaaGreatDoorProg
import Derived.KernelRfl
import Derived.Test.YtiepokkmhhginaaGreatDoorC0Code
set_option linter.unusedVariables false
set_option maxRecDepth 100000
noncomputable section
namespace Go.Proofs.YtiepokkmhhginaaGreatDoor.code
open Go.Ab
variable (H0 H:Qa) (k:Value->Qa->Prop) (A:Env)
noncomputable abbrev QbX:Func:=Tryz.f3
theorem QT:Rt prog Tryz.f3 H0 k A H=Ret H0 k (A 6) H:=QA (by kernel_rfl)
def Y7:PC:=So [Od 73 2 3,Ca 74 QaK 73,Oa 72 74,Ot 75 72 0,Ot 76 72 1,Oa 12 75,Oa 13 76] (So [Od 78 2 4,Ca 79 QaK 78,Oa 77 79,Ot 80 77 0,Ot 81 77 1,Oa 14 80,Oa 15 81] (Sr [Oa 82 7,Oa 83 82,Oo 84 13 83 true,Ge 85 .neq 84 0 83 true,Oo 86 85 83 true,Oo 87 15 86 false,Ge 88 .neq 87 0 86 false,Og 89 (.pick (t 86) (.const (.bool true)) (t 88)) 83 true,Oo 90 89 83 true,Oo 91 8 90 false,Oo 92 10 90 false,Gf 93 .neq 91 92 90 false,Og 94 (.pick (t 90) (.const (.bool true)) (t 93)) 83 true,Oj 95 83 94,Oa 6 95]))
def Y8:PC:=.seq (So [Od 63 2 3,Od 64 2 4,Cb 65 Qgj 63 64] (Sc 65 (Sr [Oa 66 7,Oa 67 66,Oo 68 8 67 true,Oo 69 10 67 true,Gf 70 .eql 68 69 67 true,Oj 71 67 70,Oa 6 71]) .skip)) Y7
def Xj:PC:=Sr [Oa 46 7,Oa 47 46,Oo 48 9 47 true,Ge 49 .eql 48 0 47 true,Gd 50 2 3 47 true,Og 51 (.call YP [t 50]) 47 true,Ge 52 .eql 51 0 47 true,Og 53 (.beq false (t 49) (t 52)) 47 true,Oj 54 47 53,Oa 55 54,Oo 56 11 55 true,Ge 57 .eql 56 0 55 true,Gd 58 2 4 55 true,Og 59 (.call YP [t 58]) 55 true,Ge 60 .eql 59 0 55 true,Og 61 (.beq false (t 57) (t 60)) 55 true,Oj 62 55 61,Oa 6 62]
def Y9:PC:=So [Od 29 2 3,Oa 30 2,Ow 31 (.call QaJ [t 29,(Ci 0),t 30]),Oa 28 31,Ot 32 28 0,Ot 33 28 1,Oa 8 32,Oa 9 33] (So [Od 35 2 4,Oa 36 2,Ow 37 (.call QaJ [t 35,(Ci 0),t 36]),Oa 34 37,Ot 38 34 0,Ot 39 34 1,Oa 10 38,Oa 11 39] (.seq (So [Oa 40 9,Oe 41 .neq 40 0,Oa 42 41,Oo 43 11 42 false,Ge 44 .neq 43 0 42 false,Gk 45 42 44] (Sc 45 Xj .skip)) Y8))
def ZP:PC:=So [Gr 3 Qc 0,Gr 4 Qc 1,Ol 6 false] (So [Ow 16 (.call XB []),Oa 7 16] (.seq (So [Ob 17 1 3,Oc 18 1 17,Ou 19 18,Oe 20 .gtr 19 9,Oa 21 20,Gb 22 1 4 21 false,Gc 23 1 22 21 false,Og 24 (.lenS (t 23)) 21 false,Ge 25 .gtr 24 9 21 false,Gk 26 21 25] (Sc 26 (Sr [Oa 27 7,Oa 6 27]) .skip)) Y9))
theorem QbS:In3 prog XJ Tryz.f3 ZP:=jn3 Tryz.func3 (by kernel_rfl)
theorem Vw:Rt prog Tryz.f7 H0 k A H=Ret H0 k (A 4) H:=QA (by kernel_rfl)
def QkZ:PC:=So [Gr 2 Qc 0,Gr 3 Qc 1,Ol 4 false] (So [Od 10 2 2,Ca 11 ZU 10,Oa 9 11,Ot 12 9 0,Ot 13 9 1,Cd 5 Qc [.int .i64 0,.slice none 0 0],Gu 2 5 12,Oa 6 13] (So [Od 15 2 3,Ca 16 ZU 15,Oa 14 16,Ot 17 14 0,Ot 18 14 1,Cd 7 Qc [.int .i64 0,.slice none 0 0],Gu 2 7 17,Oa 8 18] (Sr [Oa 19 6,Oe 20 .eql 19 0,Oa 21 20,Oo 22 8 21 true,Ge 23 .eql 22 0 21 true,Oj 24 21 23,Oa 25 24,Gb 26 0 5 25 true,Gc 27 1 26 25 true,Gb 28 0 7 25 true,Gc 29 1 28 25 true,Gf 30 .eql 27 29 25 true,Oj 31 25 30,Oa 32 31,Gb 33 1 5 32 true,Gc 34 1 33 32 true,Gb 35 1 7 32 true,Gc 36 1 35 32 true,Og 37 (.call W0 [t 34,t 36]) 32 true,Oj 38 32 37,Oa 4 38])))
theorem Qso:In2 prog Qgj Tryz.f7 QkZ:=jn2 Tryz.func7 (by kernel_rfl)
theorem WN:Rt prog Tryz.f25 H0 k A H=Ret H0 k (A 4) H:=QA (by kernel_rfl)
def XG:PC:=.seq (.block 1 (So [Oa 15 13,Oa 5 15] (So [Oa 16 0,Oa 17 5,Ox 18 11 16 17,Od 19 11 18,Oa 20 1,Oa 21 5,Ox 22 11 20 21,Od 23 11 22,Ow 24 (.gen (.binOp .neq 41 (t 19) (t 23) 41))] (Sc 24 (Sr [Ol 4 false]) .skip)))) (.ops [Oe 25 .add 13 1,Oa 13 25])
def XH:PC:=So [Gp 14 .lss 13 12] (.seq (Sc 14 .skip (.exit 0)) XG)
def XI:PC:=.seq (So [Oa 11 0,Ou 12 11,Oi 13 0] (.block 0 (.loop XH))) (Sr [Ol 4 true])
def Yo:PC:=So [Ol 4 false] (.seq (So [Oa 6 0,Ou 7 6,Oa 8 1,Ou 9 8,Gp 10 .neq 7 9] (Sc 10 (Sr [Ol 4 false]) .skip)) XI)
theorem Gm:In2 prog W0 Tryz.f25 Yo:=jn2 Tryz.func25 (by kernel_rfl)
end Go.Proofs.YtiepokkmhhginaaGreatDoor.code
