/- The code of the functions that are reached, resolved. -/
import Derived.Test.YtiepokkmhhginaaGreatDoorAbD
import Derived.Test.YtiepokkmhhginaaGreatDoorProg
import Derived.KernelRfl
import Derived.Test.YtiepokkmhhginaaGreatDoorC0Code
import Derived.Test.YtiepokkmhhginaaGreatDoorC2Code
set_option linter.unusedVariables false
set_option maxRecDepth 100000
noncomputable section
namespace Go.Proofs.YtiepokkmhhginaaGreatDoor.code
open Go.Ab
variable (H0 H:Qa) (k:Value->Qa->Prop) (A:Env)
noncomputable abbrev Qin:Func:=Tryz.f72
theorem Y6:Rt prog Tryz.f72 H0 k A H=Ret H0 k (A 2) H:=QA (by kernel_rfl)
def Qd8:PC:=.seq (.block 2 (So [Ox 64 1 60 62,Oc 65 1 64,Oa 4 65] (So [Oa 66 4,Oh 67 66] (Sc 67 (Sr [Oi 2 2]) .skip)))) (.ops [Oe 68 .add 62 1,Oa 62 68])
def Qd9:PC:=So [Gp 63 .lss 62 61] (.seq (Sc 63 .skip (.exit 1)) Qd8)
def Vn:PC:=.seq (So [Od 59 10 1,Ca 60 Qc3 59,Ou 61 60,Oi 62 0] (.block 1 (.loop Qd9))) (Sr [Oi 2 0])
def Qea:PC:=So [Ob 41 5 1,Oc 42 1 41,Oe 43 .lss 42 0,Oa 44 43,Gb 45 5 1 44 false,Gc 46 1 45 44 false,Ge 47 .gtr 46 255 44 false,Gk 48 44 47,Oa 49 48,Gb 50 6 1 49 false,Gc 51 1 50 49 false,Ge 52 .lss 51 (-1) 49 false,Gk 53 49 52,Oa 54 53,Gb 55 6 1 54 false,Gc 56 1 55 54 false,Ge 57 .gtr 56 7 54 false,Gk 58 54 57,Oa 40 58] (Sc 40 (Sr [Oi 2 5]) .skip)
def Qeb:PC:=So [Ob 22 3 1,Oc 23 1 22,Oe 24 .lss 23 0,Oa 25 24,Gb 26 3 1 25 false,Gc 27 1 26 25 false,Ge 28 .gtr 27 5 25 false,Gk 29 25 28,Oa 30 29,Gb 31 4 1 30 false,Gc 32 1 31 30 false,Ge 33 .lss 32 0 30 false,Gk 34 30 33,Oa 35 34,Gb 36 4 1 35 false,Gc 37 1 36 35 false,Ge 38 .gtr 37 3 35 false,Gk 39 35 38,Oa 21 39] (Sc 21 (Sr [Oi 2 5]) Qea)
def Qec:PC:=So [Ob 11 1 1,Oc 12 1 11,Ou 13 12,Oe 14 .gtr 13 4,Oa 15 14,Gb 16 2 1 15 false,Gc 17 1 16 15 false,Og 18 (.lenS (t 17)) 15 false,Ge 19 .gtr 18 4 15 false,Gk 20 15 19,Oa 10 20] (Sc 10 (Sr [Oi 2 3]) Qeb)
def Qg2:PC:=So [Gr 1 Qf 0,Oi 2 0] (.seq (.block 0 (So [Ob 6 0 1,Oc 7 1 6,Ca 8 X0 7,Oh 9 8,Oa 5 9] (Sc 5 (Sr [Oi 2 6]) Qec))) Vn)
theorem Qo3:In1 prog QcZ Tryz.f72 Qg2:=jn1 Tryz.func72 (by kernel_rfl)
theorem QfJ:Rt prog Tryz.f93 H0 k A H=Ret H0 k (A 2) H:=QA (by kernel_rfl)
def Qg3:PC:=So [Gr 1 Qf 0,Oz 2] (So [Od 7 10 1,⟨some 8,.callF QZ [t 7,(Ci 1)] [t 1,t 1],none,true⟩,Oe 9 .geq 8 0,⟨some 10,.ld true 10 (t 1),none,true⟩,⟨some 11,.callF Qc4 [t 10] [t 1],none,true⟩,⟨some 12,.ld true 10 (t 1),none,true⟩,Ow 13 (.call QZ [t 12,(Ci 4)]),Oe 14 .geq 13 0,Oa 3 9,Oa 4 11,Oa 5 14] (So [Ob 15 6 1,Oc 16 1 15,Oe 17 .geq 16 0,Oa 6 17] (Sr [Ob 18 1 1,⟨some 19,.ld false 1 (t 18),none,true⟩,Ou 20 19,Ob 21 2 1,⟨some 22,.ld false 1 (t 21),none,true⟩,Ou 23 22,Gp 24 .eql 20 23,Od 25 10 1,⟨some 26,.callF G9 [t 25] [t 1,t 1,t 1],none,true⟩,Ob 27 2 1,⟨some 28,.ld false 1 (t 27),none,true⟩,⟨some 29,.callF QeG [t 28] [t 1,t 1],none,true⟩,⟨some 30,.ld true 10 (t 1),none,true⟩,⟨some 31,.callF V6 [t 30] [t 1],none,true⟩,Oa 32 5,Oh 33 32,Oa 34 33,Gb 35 5 1 34 false,Gc 36 1 35 34 false,Ge 37 .and 36 7 34 false,Ge 38 .eql 37 0 34 false,Oo 39 38 34 false,Oo 40 3 39 true,Og 41 (.not (t 40)) 39 true,Og 42 (.pick (t 39) (t 41) (.const (.bool false))) 34 false,Oo 43 42 34 false,Oo 44 4 43 true,Og 45 (.not (t 44)) 43 true,Og 46 (.pick (t 43) (t 45) (.const (.bool false))) 34 false,Oo 47 46 34 false,Oo 48 6 47 true,Og 49 (.not (t 48)) 47 true,Og 50 (.pick (t 47) (t 49) (.const (.bool false))) 34 false,Gk 51 34 50,Oa 52 3,Oh 53 52,Oa 54 53,Oo 55 6 54 false,Og 56 (.not (t 55)) 54 false,Gk 57 54 56,Oa 58 4,Oh 59 58,Oa 60 59,Oo 61 3 60 false,Gk 62 60 61,Oa 63 62,Oo 64 6 63 false,Gk 65 63 64,Oa 66 4,Oa 67 66,Oo 68 3 67 false,Og 69 (.not (t 68)) 67 false,Oo 70 69 67 false,Oo 71 6 70 true,Og 72 (.not (t 71)) 70 true,Og 73 (.pick (t 70) (t 72) (.const (.bool false))) 67 false,Gk 74 67 73,Ob 75 4 1,⟨some 76,.ld false 1 (t 75),none,true⟩,Oe 77 .neq 76 0,Oa 78 77,Gb 79 5 1 78 false,Gc 80 1 79 78 false,⟨some 81,.callF Qc5 [t 80] [],some (78,false),true⟩,Og 82 (.not (t 81)) 78 false,Gk 83 78 82,Ow 84 (.bslice 4 1 9 [.bool false,.bool false,.bool false,.bool false,.bool false,.bool false,.bool false,.bool false,.bool false] [(0,(t 24)),(1,(t 26)),(2,(t 29)),(3,(t 31)),(4,(t 51)),(5,(t 57)),(6,(t 65)),(7,(t 74)),(8,(t 83))]),Oa 2 84])))
theorem Qo4:In1 prog Qc3 Tryz.f93 Qg3:=jn1 Tryz.func93 (by kernel_rfl)
theorem Qm9:Rt prog Tryz.f185 H0 k A H=Ret H0 k (A 2) H:=QA (by kernel_rfl)
def Qg4:PC:=So [Gr 1 Qf 0,Ol 2 false] (Sr [Od 3 10 1,Ow 4 (.call QZ [t 3,(Ci 2)]),Oe 5 .geq 4 0,Oa 2 5])
theorem Qo5:In1 prog Qc4 Tryz.f185 Qg4:=jn1 Tryz.func185 (by kernel_rfl)
theorem Xz:Rt prog Tryz.f186 H0 k A H=Ret H0 k (A 2) H:=QA (by kernel_rfl)
def WS:PC:=Sr [Ob 36 4 1,Oc 37 1 36,Oe 38 .neq 37 0,Oa 39 38,Gb 40 7 1 39 true,Gc 41 1 40 39 true,Ge 42 .geq 41 (-1) 39 true,Oj 43 39 42,Oa 44 43,Gb 45 7 1 44 true,Gc 46 1 45 44 true,Ge 47 .leq 46 1 44 true,Oj 48 44 47,Oa 49 48,Gb 50 9 1 49 true,Gc 51 1 50 49 true,Ge 52 .eql 51 0 49 true,Oo 53 52 49 true,Gb 54 9 1 53 false,Gc 55 1 54 53 false,Ge 56 .eql 55 1 53 false,Og 57 (.pick (t 53) (.const (.bool true)) (t 56)) 49 true,Oj 58 49 57,Oa 2 58]
def WT:PC:=So [Oe 33 .eql 30 1,Oa 31 33] (Sc 31 .skip (So [Oe 34 .eql 30 2,Oa 31 34] (Sc 31 .skip (.ops [Oe 35 .eql 30 4,Oa 31 35]))))
def WU:PC:=.seq (So [Ob 29 3 1,Oc 30 1 29] (.block 0 (.seq (So [Oe 32 .eql 30 0,Oa 31 32] (Sc 31 .skip WT)) (Sc 31 .skip (Sr [Ol 2 false]))))) WS
def WV:PC:=Sr [Ob 6 7 1,Oc 7 1 6,Oe 8 .eql 7 0,Oa 9 8,Gb 10 7 1 9 false,Gc 11 1 10 9 false,Ge 12 .eql 11 1 9 false,Gk 13 9 12,Oa 14 13,Gb 15 9 1 14 true,Gc 16 1 15 14 true,Ge 17 .eql 16 0 14 true,Oj 18 14 17,Oa 19 18,Gd 20 10 1 19 true,Og 21 (.call QZ [t 20,(Ci 3)]) 19 true,Ge 22 .lss 21 0 19 true,Oj 23 19 22,Oa 24 23,Gd 25 10 1 24 true,Og 26 (.call QZ [t 25,(Ci 7)]) 24 true,Ge 27 .lss 26 0 24 true,Oj 28 24 27,Oa 2 28]
def QcR:PC:=So [Gr 1 Qf 0,Ol 2 false] (.seq (So [Ob 3 8 1,Oc 4 1 3,Oh 5 4] (Sc 5 WV .skip)) WU)
theorem QkS:In1 prog G9 Tryz.f186 QcR:=jn1 Tryz.func186 (by kernel_rfl)
theorem Qg5:Rt prog Tryz.f187 H0 k A H=Ret H0 k (A 2) H:=QA (by kernel_rfl)
def Qio:PC:=So [Ol 2 false] (.seq (So [Oa 5 0,Ou 6 5,Oi 7 0] (.block 0 (.loop (So [Gp 8 .lss 7 6] (.seq (Sc 8 .skip (.exit 0)) (.seq (.block 1 (So [Oa 9 7,Ox 10 1 5 7,Oc 11 1 10,Oa 3 9,Oa 4 11] (So [Oa 12 4,Oe 13 .neq 12 6,Oa 14 13,Oo 15 0 14 true,Oo 16 3 14 true,Og 17 (.slS 1 (t 15) none (some (t 16))) 14 true,Oo 18 4 14 true,Og 19 (.call XM [t 17,t 18]) 14 true,Oj 20 14 19] (Sc 20 (Sr [Ol 2 false]) .skip)))) (.ops [Oe 21 .add 7 1,Oa 7 21]))))))) (Sr [Ol 2 true]))
theorem Qp9:In1 prog QeG Tryz.f187 Qio:=jn1 Tryz.func187 (by kernel_rfl)
theorem KY:Rt prog Tryz.f188 H0 k A H=Ret H0 k (A 2) H:=QA (by kernel_rfl)
def Qed:PC:=So [Gr 1 Qf 0,Ol 2 false] (.seq (So [Ob 5 1 1,Oc 6 1 5,Ou 7 6,Ob 8 2 1,Oc 9 1 8,Ou 10 9,Gp 11 .neq 7 10] (Sc 11 (Sr [Ol 2 false]) .skip)) (.seq (So [Ob 12 2 1,Oc 13 1 12,Ou 14 13,Oi 15 0] (.block 0 (.loop (So [Gp 16 .lss 15 14] (.seq (Sc 16 .skip (.exit 0)) (.seq (.block 1 (So [Oa 17 15,Ox 18 1 13 15,Oc 19 1 18,Oa 3 17,Oa 4 19] (So [Ob 20 1 1,Oc 21 1 20,Oa 22 3,Ox 23 1 21 22,Oc 24 1 23,Oa 25 4,Cb 26 QeJ 24 25,Oh 27 26] (Sc 27 (Sr [Ol 2 false]) .skip)))) (.ops [Oe 28 .add 15 1,Oa 15 28]))))))) (Sr [Ol 2 true])))
theorem QlP:In1 prog V6 Tryz.f188 Qed:=jn1 Tryz.func188 (by kernel_rfl)
theorem Qal:Rt prog Tryz.f189 H0 k A H=Ret H0 k (A 2) H:=QA (by kernel_rfl)
def Qg6:PC:=So [Ol 2 false] (.seq (.block 0 (So [Oa 4 0,Oe 5 .geq 4 64,Oa 6 5,Oo 7 0 6 true,Ge 8 .leq 7 79 6 true,Oj 9 6 8,Oa 3 9] (Sc 3 (Sr [Ol 2 true]) (So [Oa 11 0,Oe 12 .eql 11 15,Oa 13 12,Oo 14 0 13 false,Ge 15 .eql 14 102 13 false,Gk 16 13 15,Oa 17 16,Oo 18 0 17 false,Ge 19 .eql 18 196 17 false,Gk 20 17 19,Oa 21 20,Oo 22 0 21 false,Ge 23 .eql 22 197 21 false,Gk 24 21 23,Oa 25 24,Oo 26 0 25 false,Ge 27 .eql 26 242 25 false,Gk 28 25 27,Oa 29 28,Oo 30 0 29 false,Ge 31 .eql 30 243 29 false,Gk 32 29 31,Oa 10 32] (Sc 10 (Sr [Ol 2 true]) .skip))))) (Sr [Ol 2 false]))
theorem Qo6:In1 prog Qc5 Tryz.f189 Qg6:=jn1 Tryz.func189 (by kernel_rfl)
theorem QaU:Rt prog Tryz.f255 H0 k A H=Ret H0 k (A 4) H:=QA (by kernel_rfl)
def ZO:PC:=So [Ol 4 false] (Sr [Oa 5 0,Oa 6 1,Cb 7 WG 5 6,Oe 8 .geq 7 0,Oa 4 8])
theorem QbQ:In2 prog XM Tryz.f255 ZO:=jn2 Tryz.func255 (by kernel_rfl)
theorem QbR:Rt prog Tryz.f256 H0 k A H=Ret H0 k (A 4) H:=QA (by kernel_rfl)
def QfK:PC:=So [Oe 34 .eql 5 2,Oa 33 34] (Sc 33 (Sr [Oa 35 0,Oe 36 .geq 35 1,Oa 37 36,Oo 38 0 37 true,Ge 39 .leq 38 19 37 true,Oj 40 37 39,Oa 41 40,Oo 42 0 41 false,Ge 43 .eql 42 34 41 false,Gk 44 41 43,Oa 4 44]) .skip)
def QfL:PC:=Sc 22 (Sr [Oa 27 0,Oe 28 .geq 27 1,Oa 29 28,Oo 30 0 29 true,Ge 31 .leq 30 6 29 true,Oj 32 29 31,Oa 4 32]) QfK
def QfM:PC:=So [Oe 24 .eql 5 3,Oa 22 24] (Sc 22 .skip (So [Oe 25 .eql 5 4,Oa 22 25] (Sc 22 .skip (.ops [Oe 26 .eql 5 7,Oa 22 26]))))
def QfN:PC:=.seq (So [Oe 23 .eql 5 1,Oa 22 23] (Sc 22 .skip QfM)) QfL
def QfO:PC:=So [Oe 15 .eql 5 5,Oa 14 15] (Sc 14 (Sr [Oa 16 0,Oe 17 .geq 16 20,Oa 18 17,Oo 19 0 18 true,Ge 20 .leq 19 27 18 true,Oj 21 18 20,Oa 4 21]) QfN)
def Qip:PC:=So [Ol 4 false] (.seq (So [Oa 5 1] (.block 0 (So [Oe 7 .eql 5 6,Oa 6 7] (Sc 6 (Sr [Oa 8 0,Oe 9 .geq 8 28,Oa 10 9,Oo 11 0 10 true,Ge 12 .leq 11 33 10 true,Oj 13 10 12,Oa 4 13]) QfO)))) (Sr [Ol 4 false]))
theorem Qqa:In2 prog QeJ Tryz.f256 Qip:=jn2 Tryz.func256 (by kernel_rfl)
end Go.Proofs.YtiepokkmhhginaaGreatDoor.code
