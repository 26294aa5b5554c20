/- The code of the functions that are reached, resolved. -/
import Derived.Test.YtfofbicfabokbaaGreatDoorAbD
import Derived.Test.YtfofbicfabokbaaGreatDoorProg
import Derived.KernelRfl
import Derived.Test.YtfofbicfabokbaaGreatDoorC0Code
set_option linter.unusedVariables false
set_option maxRecDepth 100000
noncomputable section
namespace Go.Proofs.YtfofbicfabokbaaGreatDoor.code
open Go.Ab
variable (H0 H:Qa) (k:Value->Qa->Prop) (A:Env)
theorem QIl:Rt prog Tryz.f10 H0 k A H=ldR true 2 (A 2) H λv=>Ret H0 k (.tuple #[v,A 3,A 4]) H:=QnT (ty:=27) (by kernel_rfl) (by kernel_rfl) (by kernel_rfl)
def QIk:PC:=.seq (So [Oa 38 5] (Sc 38 (Sr [Ow 39 (.build [.int .i64 0,.slice none 0 0] []),Gu 2 2 39,Oi 3 0,Oi 4 9]) .skip)) (Sr [Ow 40 (.build [.int .i64 0,.slice none 0 0] []),Gu 2 2 40,Oi 3 0,Oi 4 4])
def QIu:PC:=.seq (.block 1 (So [Oa 19 6,Oa 20 7,Ox 21 10 19 20,Od 22 10 21,Oa 23 0,Cb 24 Qbx 22 23,Oa 18 24,Ot 25 18 0,Ot 26 18 1,Ot 27 18 2,Cd 8 Qd [.int .i64 0,.slice none 0 0],Gu 2 8 25,Oa 9 26,Oa 10 27] (.seq (So [Oa 28 10,Oe 29 .eql 28 0] (Sc 29 (Sr [Od 30 2 8,Oa 31 9,Oa 32 10,Gu 2 2 30,Oa 3 31,Oa 4 32]) .skip)) (.ops [Oa 33 5,Oa 34 33,Oo 35 10 34 false,Ge 36 .eql 35 9 34 false,Gk 37 34 36,Oa 5 37])))) (.ops [Oa 16 7,Oe 17 .add 16 1,Oa 7 17])
def QIv:PC:=.seq (So [Oa 12 7,Oa 13 6,Ou 14 13,Gp 15 .lss 12 14] (Sc 15 .skip (.exit 0))) QIu
def QIy:PC:=So [Cd 2 Qd [.int .i64 0,.slice none 0 0],Oi 3 0,Oi 4 0] (So [Ol 5 false] (So [Ow 11 (.call Wt []),Oa 6 11] (.seq (So [Oi 7 0] (.block 0 (.loop QIv))) QIk)))
theorem QII:In1 prog QIo Tryz.f10 QIy:=jn1 Tryz.func10 (by kernel_rfl)
theorem QiY:Rt prog Tryz.f27 H0 k A H=Ret H0 k (A 0) H:=Wb (by kernel_rfl)
def Qdi:PC:=So [Oz 0] (So [Ow 2 (.call G6 []),Ow 3 (.call G7 []),Ow 4 (.app Qc 10 112 (t 2) (t 3)),Oa 1 4] (So [Oa 5 1,Ow 6 (.call G8 []),Ow 7 (.app Qc 10 112 (t 5) (t 6)),Oa 1 7] (So [Oa 8 1,Ow 9 (.call G9 []),Ow 10 (.app Qc 10 112 (t 8) (t 9)),Oa 1 10] (So [Oa 11 1,Ow 12 (.call Va []),Ow 13 (.app Qc 10 112 (t 11) (t 12)),Oa 1 13] (Sr [Oa 14 1,Ow 15 (.call Vb []),Ow 16 (.app Qc 10 112 (t 14) (t 15)),Oa 0 16])))))
theorem QjZ:In0 prog Wt Tryz.f27 Qdi:=jn0 Tryz.func27 (by kernel_rfl)
noncomputable abbrev Wi:Func:=Tryz.f28
theorem Qd6:Rt prog Tryz.f28 H0 k A H=ldR true 2 (A 4) H λv=>Ret H0 k (.tuple #[v,A 5,A 6]) H:=QnT (ty:=27) (by kernel_rfl) (by kernel_rfl) (by kernel_rfl)
def GA:PC:=So [Oa 67 7,Oa 68 9,Oa 69 1,Oa 70 7,Oq 71 70,Ob 72 11 71,Oc 73 1 72,Oa 74 7,Oq 75 74,Ob 76 11 75,Oc 77 1 76,Oa 78 10,Gp 79 .add 77 78,Ow 80 (.slS 1 (t 69) (some (t 73)) (some (t 79))),Cc 81 Zd 67 68 80,Ca 82 Gj 81,Oa 66 82,Ot 83 66 0,Ot 84 66 1,Cd 11 Qd [.int .i64 0,.slice none 0 0],Gu 2 11 83,Oa 8 84] (.seq (So [Oa 85 8,Oe 86 .neq 85 0] (Sc 86 (Sr [Ow 87 (.build [.int .i64 0,.slice none 0 0] []),Gu 2 4 87,Oi 5 0,Oi 6 4]) .skip)) (Sr [Od 88 2 11,Oa 89 7,Oq 90 89,Ob 91 11 90,⟨some 92,.ld false 1 (t 91),none,true⟩,Oa 93 10,Gp 94 .add 92 93,⟨none,.stf 2 (t 4) (t 88) [t 91],none,true⟩,Oa 5 94,Oi 6 0]))
def Qdj:PC:=.seq (So [Oa 49 7,Ow 50 (.call QL [t 49,(Ci 7)]),Oa 51 50,Oo 52 1 51 true,Oo 53 7 51 true,Og 54 (.gen (.nilCheck (t 53))) 51 true,Gb 55 11 54 51 true,Gc 56 1 55 51 true,Oo 57 10 51 true,Gf 58 .add 56 57 51 true,Ge 59 .sub 58 1 51 true,Gy 60 1 52 59 51 true,Gc 61 1 60 51 true,Og 62 (.bin .rem (t 61) (.const (.int .u8 16))) 51 true,Og 63 (.bin .neq (t 62) (.const (.int .u8 0))) 51 true,Oj 64 51 63] (Sc 64 (Sr [Ow 65 (.build [.int .i64 0,.slice none 0 0] []),Gu 2 4 65,Oi 5 0,Oi 6 4]) .skip)) GA
def GB:PC:=So [Od 37 10 2,Ca 38 Vc 37,Oa 10 38] (.seq (So [Oa 39 7,Oq 40 39,Ob 41 11 40,Oc 42 1 41,Oa 43 10,Gp 44 .add 42 43,Oa 45 1,Ou 46 45,Gp 47 .gtr 44 46] (Sc 47 (Sr [Ow 48 (.build [.int .i64 0,.slice none 0 0] []),Gu 2 4 48,Oi 5 0,Oi 6 9]) .skip)) Qdj)
def GC:PC:=.seq (So [Oa 33 8,Oe 34 .neq 33 0] (Sc 34 (Sr [Ow 35 (.build [.int .i64 0,.slice none 0 0] []),Oa 36 8,Gu 2 4 35,Oi 5 0,Oa 6 36]) .skip)) GB
def GD:PC:=.seq (So [Oa 29 8,Oe 30 .eql 29 0] (Sc 30 (.ops [Oa 31 7,Ca 32 YR 31,Oa 8 32]) .skip)) GC
def GE:PC:=So [Oi 9 0] (.seq (So [Oa 22 8,Oe 23 .eql 22 0] (Sc 23 (.ops [Oa 25 7,Ca 26 Zc 25,Oa 24 26,Ot 27 24 0,Ot 28 24 1,Oa 9 27,Oa 8 28]) .skip)) GD)
def Qe3:PC:=So [Gr 2 Qc 0,Cd 4 Qd [.int .i64 0,.slice none 0 0],Oi 5 0,Oi 6 0] (So [Od 12 10 2,Oa 13 1,Ow 14 (.build [.int .i64 0,.slice none 0 0,.slice none 0 0,.int .i64 0,.int .i64 0,.int .i64 0,.int .i64 0,.int .i64 0,.bool false,.int .i64 0,.slice none 0 0,.int .i64 0,.int .i64 0,.int .i64 0,.int .i64 0,.bool false,.int .i64 0,.int .i64 0,.int .i64 0,.int .i64 0,.int .i64 0,.int .i64 0,.int .i64 0,.int .i64 0,.int .i64 0,.int .i64 0,.int .i64 0] [(0,10,(t 12)),(10,1,(t 13))]),Gr 15 Qc6 14,Oa 7 15] (So [Oi 8 0] (.seq (So [Ob 16 8 2,Oc 17 1 16] (Sc 17 (.ops [Oa 18 7,Ca 19 Zt 18,Oa 8 19]) (.ops [Oa 20 7,Ca 21 YG 20,Oa 8 21]))) GE)))
theorem Qlw:In2 prog Qbx Tryz.f28 Qe3:=jn2 Tryz.func28 (by kernel_rfl)
theorem XH:Rt prog Tryz.f50 H0 k A H=Ret H0 k (A 2) H:=Wb (by kernel_rfl)
def KL:PC:=So [Oa 14 0,Oq 15 14,Ob 16 10 15,Oc 17 1 16,Oa 18 0,Oq 19 18,Ob 20 11 19,Oc 21 1 20,Ox 22 1 17 21,Oc 23 1 22,Oa 3 23] (So [Oa 24 0,Oq 25 24,Ob 26 11 25,Oc 27 1 26,Oe 28 .add 27 1,Oq 29 24,Ob 30 11 29,Gu 1 30 28] (.seq (So [Oa 31 3] (.block 0 (So [Ow 33 (.bin .eql (t 31) (.const (.int .u8 197))),Oa 32 33] (Sc 32 (Sr [Oa 34 0,Ca 35 Zu 34,Oa 2 35]) (So [Ow 37 (.bin .eql (t 31) (.const (.int .u8 196))),Oa 36 37] (Sc 36 (Sr [Oa 38 0,Ca 39 YT 38,Oa 2 39]) .skip)))))) (Sr [Oi 2 4])))
def VK:PC:=So [Oi 2 0] (.seq (So [Oa 4 0,Oq 5 4,Ob 6 11 5,Oc 7 1 6,Oa 8 0,Oq 9 8,Ob 10 10 9,Oc 11 1 10,Ou 12 11,Gp 13 .eql 7 12] (Sc 13 (Sr [Oi 2 9]) .skip)) KL)
theorem Qf6:In1 prog Zt Tryz.f50 VK:=jn1 Tryz.func50 (by kernel_rfl)
noncomputable abbrev Xg:Func:=Tryz.f51
theorem W5:Rt prog Tryz.f51 H0 k A H=Ret H0 k (A 2) H:=Wb (by kernel_rfl)
def Ji:PC:=So [Oa 46 0,Oq 47 46,Ob 48 11 47,Oc 49 1 48,Oe 50 .add 49 1,Oq 51 46,Ob 52 11 51,Gu 1 52 50] (So [Oa 53 0,Oa 54 4,Oe 55 .quo 54 4,Oe 56 .rem 55 2,Oa 57 4,Oe 58 .quo 57 2,Oe 59 .rem 58 2,Oa 60 4,Oe 61 .rem 60 2,Ow 62 (.call WW [t 53,t 56,t 59,t 61]),Oa 3 62] (So [Oa 63 3,Oe 64 .neq 63 0,Oa 65 64,Oo 66 4 65 false,Ge 67 .quo 66 8 65 false,Ge 68 .rem 67 2 65 false,Oo 69 0 65 false,Og 70 (.gen (.nilCheck (t 69))) 65 false,Gb 71 0 70 65 false,Gb 72 7 71 65 false,Gc 73 1 72 65 false,Gf 74 .neq 68 73 65 false,Gk 75 65 74] (Sc 75 (Sr [Oi 2 4]) .skip)))
def XY:PC:=So [Oa 76 0,Oq 77 76,Ob 78 0 77,Ob 79 7 78,Oc 80 1 79,Oe 81 .eql 80 1] (Sc 81 (Sr [Oi 2 4]) .skip)
def Jj:PC:=So [Oa 22 0,Oq 23 22,Ob 24 10 23,Oc 25 1 24,Oa 26 0,Oq 27 26,Ob 28 11 27,Oc 29 1 28,Ox 30 1 25 29,Oc 31 1 30,Ow 32 (.toInt .i64 (t 31)),Oa 4 32] (So [Oa 33 0,Oa 34 4,Oe 35 .geq 34 64,Oa 36 35,Oo 37 4 36 true,Ge 38 .leq 37 79 36 true,Oj 39 36 38,Oq 40 33,Ob 41 15 40,Gu 1 41 39] (.seq (So [Oa 42 0,Oq 43 42,Ob 44 15 43,Oc 45 1 44] (Sc 45 Ji XY)) (Sr [Oa 82 0,Oa 83 0,Oq 84 83,Ob 85 0 84,Ob 86 4 85,Oc 87 1 86,Ca 88 YV 87,Cb 89 W7 82 88,Oa 2 89])))
def Jk:PC:=.seq (So [Oa 12 0,Oq 13 12,Ob 14 11 13,Oc 15 1 14,Oa 16 0,Oq 17 16,Ob 18 10 17,Oc 19 1 18,Ou 20 19,Gp 21 .eql 15 20] (Sc 21 (Sr [Oi 2 9]) .skip)) Jj
def JU:PC:=So [Oi 2 0] (So [Oa 5 0,Oa 6 0,Ca 7 YU 6,Cb 8 W7 5 7,Oa 3 8] (.seq (So [Oa 9 3,Oe 10 .neq 9 0] (Sc 10 (Sr [Oa 11 3,Oa 2 11]) .skip)) Jk))
theorem Qd7:In1 prog YG Tryz.f51 JU:=jn1 Tryz.func51 (by kernel_rfl)
noncomputable abbrev Qf7:Func:=Tryz.f52
theorem QeB:Rt prog Tryz.f52 H0 k A H=Ret H0 k (.tuple #[A 2,A 3]) H:=Qtd (by kernel_rfl)
def YA:PC:=.seq (So [Oa 48 0,Ow 49 (.call QL [t 48,(Ci 4)]),Oa 50 49,Oo 51 4 50 false,Oo 52 0 50 false,Og 53 (.gen (.nilCheck (t 52))) 50 false,Gb 54 0 53 50 false,Gb 55 5 54 50 false,Gc 56 1 55 50 false,Gf 57 .neq 51 56 50 false,Gk 58 50 57] (Sc 58 (Sr [Oi 2 0,Oi 3 4]) .skip)) (Sr [Oi 2 0,Oi 3 0])
def JV:PC:=So [Oa 15 0,Oq 16 15,Ob 17 10 16,Oc 18 1 17,Oa 19 0,Oq 20 19,Ob 21 11 20,Oc 22 1 21,Ox 23 1 18 22,Oc 24 1 23,Ow 25 (.toInt .i64 (t 24)),Oa 4 25] (So [Oa 26 0,Oq 27 26,Ob 28 11 27,Oc 29 1 28,Oe 30 .add 29 1,Oq 31 26,Ob 32 11 31,Gu 1 32 30] (.seq (So [Oa 33 0,Ow 34 (.call QL [t 33,(Ci 4)]),Oa 35 34,Oo 36 4 35 true,Ge 37 .quo 36 8 35 true,Ge 38 .mul 37 8 35 true,Oo 39 0 35 true,Og 40 (.gen (.nilCheck (t 39))) 35 true,Gb 41 0 40 35 true,Gb 42 5 41 35 true,Gc 43 1 42 35 true,Gf 44 .eql 38 43 35 true,Oj 45 35 44] (Sc 45 (Sr [Oa 46 4,Oe 47 .rem 46 8,Oa 2 47,Oi 3 0]) .skip)) YA))
def GP:PC:=So [Oi 2 0,Oi 3 0] (.seq (So [Oa 5 0,Oq 6 5,Ob 7 11 6,Oc 8 1 7,Oa 9 0,Oq 10 9,Ob 11 10 10,Oc 12 1 11,Ou 13 12,Gp 14 .eql 8 13] (Sc 14 (Sr [Oi 2 0,Oi 3 9]) .skip)) JV)
theorem Qfh:In1 prog Zc Tryz.f52 GP:=jn1 Tryz.func52 (by kernel_rfl)
noncomputable abbrev Y7:Func:=Tryz.f53
theorem Qd8:Rt prog Tryz.f53 H0 k A H=Ret H0 k (A 2) H:=Wb (by kernel_rfl)
def Jz:PC:=So [Oa 93 0,Od 94 10 4,Oq 95 93,Ob 96 17 95,Gu 10 96 94] (So [Oa 97 0,Ob 98 9 4,Oc 99 1 98,Oq 100 97,Ob 101 11 100,Gu 1 101 99] (Sr [Oi 2 0]))
def Yh:PC:=So [Oa 71 0,Oq 72 71,Ob 73 10 72,Oc 74 1 73,Oa 75 0,Oq 76 75,Ob 77 11 76,Oc 78 1 77,Oa 79 0,Oq 80 79,Ob 81 13 80,Oc 82 1 81,Oa 83 0,Oq 84 83,Ob 85 14 84,Oc 86 1 85,Ow 87 (.call Vd [t 74,t 78,t 82,t 86]),Oa 70 87,Ot 88 70 0,Ot 89 70 1,Cd 4 QM Qfa,Gu 10 4 88,Oa 5 89] (.seq (So [Oa 90 5,Oe 91 .neq 90 0] (Sc 91 (Sr [Oa 92 5,Oa 2 92]) .skip)) Jz)
def JA:PC:=So [Oa 22 0,Oq 23 22,Ob 24 10 23,Oc 25 1 24,Oa 26 0,Oq 27 26,Ob 28 11 27,Oc 29 1 28,Ox 30 1 25 29,Oc 31 1 30,Ow 32 (.toInt .i64 (t 31)),Oa 3 32] (.seq (So [Oa 33 0,Oq 34 33,Ob 35 0 34,Ob 36 6 35,Oc 37 1 36,Oe 38 .geq 37 0,Oa 39 38,Oo 40 3 39 true,Ge 41 .quo 40 8 39 true,Ge 42 .rem 41 8 39 true,Oo 43 0 39 true,Og 44 (.gen (.nilCheck (t 43))) 39 true,Gb 45 0 44 39 true,Gb 46 6 45 39 true,Gc 47 1 46 39 true,Gf 48 .neq 42 47 39 true,Oj 49 39 48,Oa 50 49,Oo 51 3 50 false,Ge 52 .quo 51 64 50 false,Ge 53 .eql 52 3 50 false,Oo 54 53 50 false,Oo 55 0 54 true,Og 56 (.call Ze [t 55]) 54 true,Og 57 (.not (t 56)) 54 true,Og 58 (.pick (t 54) (t 57) (.const (.bool false))) 50 false,Gk 59 50 58,Oa 60 59,Oo 61 3 60 false,Ge 62 .quo 61 64 60 false,Ge 63 .neq 62 3 60 false,Oo 64 63 60 false,Oo 65 0 64 true,Og 66 (.call XD [t 65]) 64 true,Og 67 (.not (t 66)) 64 true,Og 68 (.pick (t 64) (t 67) (.const (.bool false))) 60 false,Gk 69 60 68] (Sc 69 (Sr [Oi 2 4]) .skip)) Yh)
def JB:PC:=.seq (So [Oa 12 0,Oq 13 12,Ob 14 11 13,Oc 15 1 14,Oa 16 0,Oq 17 16,Ob 18 10 17,Oc 19 1 18,Ou 20 19,Gp 21 .eql 15 20] (Sc 21 (Sr [Oi 2 9]) .skip)) JA
def KM:PC:=So [Oi 2 0] (.seq (So [Oa 6 0,Oq 7 6,Ob 8 0 7,Od 9 10 8,Ca 10 Gl 9,Oh 11 10] (Sc 11 (Sr [Oi 2 0]) .skip)) JB)
theorem QeC:In1 prog YR Tryz.f53 KM:=jn1 Tryz.func53 (by kernel_rfl)
noncomputable abbrev Qd9:Func:=Tryz.f54
theorem QcS:Rt prog Tryz.f54 H0 k A H=Ret H0 k (A 2) H:=Wb (by kernel_rfl)
def JC:PC:=.seq (So [Od 22 10 1,Ow 23 (.call Jn [t 22,(Ci 7)])] (Sc 23 (.ops [Oa 24 3,Oe 25 .add 24 1,Oa 3 25]) .skip)) (Sr [Oa 26 3,Oa 2 26])
def Qdk:PC:=So [Gr 1 Qc 0,Oi 2 0] (So [Oi 3 0] (So [Od 5 10 1,Ow 6 (.call Xm [t 5,(Ci 5)]),Oa 4 6] (.seq (So [Oa 7 4,Oe 8 .geq 7 0,Oa 9 8,Oo 10 4 9 true,Gb 11 1 1 9 true,Gc 12 1 11 9 true,Og 13 (.lenS (t 12)) 9 true,Gf 14 .lss 10 13 9 true,Oj 15 9 14] (Sc 15 (.ops [Ob 16 1 1,Oc 17 1 16,Oa 18 4,Ox 19 1 17 18,Oc 20 1 19,Ca 21 Gm 20,Oa 3 21]) .skip)) JC)))
theorem Qj0:In1 prog Vc Tryz.f54 Qdk:=jn1 Tryz.func54 (by kernel_rfl)
theorem Qfi:Rt prog Tryz.f55 H0 k A H=Ret H0 k (A 4) H:=Wb (by kernel_rfl)
def VM:PC:=So [Ol 4 false] (Sr [Oa 5 0,Oq 6 5,Ob 7 0 6,Od 8 10 7,Oa 9 1,Cb 10 Xm 8 9,Oe 11 .geq 10 0,Oa 4 11])
theorem Qf8:In2 prog QL Tryz.f55 VM:=jn2 Tryz.func55 (by kernel_rfl)
theorem QeD:Rt prog Tryz.f57 H0 k A H=ldR true 2 (A 6) H λv=>Ret H0 k v H:=QrH (ty:=27) (by kernel_rfl) (by kernel_rfl) (by kernel_rfl)
def JW:PC:=.seq (.block 1 (.ops [Ob 25 1 7,⟨some 26,.ld false 1 (t 25),none,true⟩,Oa 27 0,Oa 28 0,Oq 29 28,Ob 30 0 29,Ob 31 1 30,Oc 32 1 31,Oa 33 8,Ox 34 1 32 33,Oc 35 1 34,Oa 36 0,Oq 37 36,Ob 38 0 37,Ob 39 2 38,Oc 40 1 39,Oa 41 8,Ox 42 1 40 41,Oc 43 1 42,Oa 44 1,Oa 45 2,⟨some 46,.callF Zv [t 27,t 35,t 43,t 44,t 45] [],none,true⟩,Ow 47 (.bslice Qe 11 1 Kz [(0,(t 46))]),Ow 48 (.app Qe 11 88 (t 26) (t 47)),Ob 49 1 7,Gu 1 49 48])) (.ops [Oa 23 8,Oe 24 .add 23 1,Oa 8 24])
def JX:PC:=.seq (So [Oa 15 8,Oa 16 0,Oq 17 16,Ob 18 0 17,Ob 19 1 18,Oc 20 1 19,Ou 21 20,Gp 22 .lss 15 21] (Sc 22 .skip (.exit 0))) JW
def GQ:PC:=So [Cd 6 Qd [.int .i64 0,.slice none 0 0]] (So [Oa 9 0,Oq 10 9,Ob 11 0 10,Ob 12 0 11,Oc 13 1 12,Ow 14 (.build [.int .i64 0,.slice none 0 0] [(0,1,(t 13))]),Cd 7 Qd [.int .i64 0,.slice none 0 0],Gu 2 7 14] (.seq (So [Oi 8 0] (.block 0 (.loop JX))) (Sr [Od 50 2 7,Gu 2 6 50])))
theorem Qfj:In3 prog Zd Tryz.f57 GQ:=jn3 Tryz.func57 (by kernel_rfl)
noncomputable abbrev ZD:Func:=Tryz.f113
theorem GR:Rt prog Tryz.f113 H0 k A H=Ret H0 k (A 2) H:=Wb (by kernel_rfl)
def KN:PC:=So [Oa 29 0,Oq 30 29,Ob 31 10 30,Oc 32 1 31,Oa 33 0,Oq 34 33,Ob 35 11 34,Oc 36 1 35,Ox 37 1 32 36,Oc 38 1 37,Ow 39 (.toInt .i64 (t 38)),Oa 3 39] (So [Oa 40 0,Oq 41 40,Ob 42 11 41,Oc 43 1 42,Oe 44 .add 43 1,Oq 45 40,Ob 46 11 45,Gu 1 46 44] (So [Oa 47 0,Oa 48 3,Oe 49 .quo 48 128,Ow 50 (.bin .sub (Ci 1) (t 49)),Ow 51 (.call WW [t 47,t 50,(Ci 0),(Ci 0)]),Oa 4 51] (.seq (So [Oa 52 4,Oe 53 .neq 52 0] (Sc 53 (Sr [Oa 54 4,Oa 2 54]) .skip)) (Sr [Oa 55 0,Oa 56 3,Cb 57 XM 55 56,Oa 2 57]))))
def YJ:PC:=.seq (So [Oa 19 0,Oq 20 19,Ob 21 11 20,Oc 22 1 21,Oa 23 0,Oq 24 23,Ob 25 10 24,Oc 26 1 25,Ou 27 26,Gp 28 .eql 22 27] (Sc 28 (Sr [Oi 2 9]) .skip)) KN
def VN:PC:=So [Oi 2 0] (.seq (So [Oa 5 0,Oq 6 5,Ob 7 0 6,Ob 8 4 7,Oc 9 1 8,Oe 10 .neq 9 1,Oa 11 10,Oo 12 0 11 false,Og 13 (.gen (.nilCheck (t 12))) 11 false,Gb 14 0 13 11 false,Gb 15 7 14 11 false,Gc 16 1 15 11 false,Ge 17 .eql 16 1 11 false,Gk 18 11 17] (Sc 18 (Sr [Oi 2 4]) .skip)) YJ)
theorem Qf9:In1 prog Zu Tryz.f113 VN:=jn1 Tryz.func113 (by kernel_rfl)
noncomputable abbrev Qfk:Func:=Tryz.f114
theorem YB:Rt prog Tryz.f114 H0 k A H=Ret H0 k (A 2) H:=Wb (by kernel_rfl)
def JD:PC:=So [Oa 68 0,Oq 69 68,Ob 70 10 69,Oc 71 1 70,Oa 72 0,Oq 73 72,Ob 74 11 73,Oc 75 1 74,Ox 76 1 71 75,Oc 77 1 76,Ow 78 (.toInt .i64 (t 77)),Oa 3 78] (So [Oa 79 0,Oq 80 79,Ob 81 11 80,Oc 82 1 81,Oe 83 .add 82 1,Oq 84 79,Ob 85 11 84,Gu 1 85 83] (.seq (So [Oa 86 0,Oq 87 86,Ob 88 0 87,Ob 89 7 88,Oc 90 1 89,Oe 91 .geq 90 0,Oa 92 91,Oo 93 3 92 true,Ge 94 .quo 93 128 92 true,Oo 95 0 92 true,Og 96 (.gen (.nilCheck (t 95))) 92 true,Gb 97 0 96 92 true,Gb 98 7 97 92 true,Gc 99 1 98 92 true,Gf 100 .neq 94 99 92 true,Oj 101 92 100] (Sc 101 (Sr [Oi 2 4]) .skip)) (Sr [Oa 102 0,Oa 103 3,Cb 104 XM 102 103,Oa 2 104])))
def JE:PC:=.seq (So [Oa 58 0,Oq 59 58,Ob 60 11 59,Oc 61 1 60,Oa 62 0,Oq 63 62,Ob 64 10 63,Oc 65 1 64,Ou 66 65,Gp 67 .eql 61 66] (Sc 67 (Sr [Oi 2 9]) .skip)) JD
def JF:PC:=So [Oa 15 0,Oq 16 15,Ob 17 10 16,Oc 18 1 17,Oa 19 0,Oq 20 19,Ob 21 11 20,Oc 22 1 21,Ox 23 1 18 22,Oc 24 1 23,Ow 25 (.toInt .i64 (t 24)),Oa 3 25] (So [Oa 26 0,Oq 27 26,Ob 28 11 27,Oc 29 1 28,Oe 30 .add 29 1,Oq 31 26,Ob 32 11 31,Gu 1 32 30] (So [Oa 33 0,Oa 34 3,Oe 35 .quo 34 128,Ow 36 (.bin .sub (Ci 1) (t 35)),Oa 37 3,Oe 38 .quo 37 64,Oe 39 .rem 38 2,Ow 40 (.bin .sub (Ci 1) (t 39)),Oa 41 3,Oe 42 .quo 41 32,Oe 43 .rem 42 2,Ow 44 (.bin .sub (Ci 1) (t 43)),Ow 45 (.call WW [t 33,t 36,t 40,t 44]),Oa 4 45] (.seq (So [Oa 46 4,Oe 47 .neq 46 0,Oa 48 47,Oo 49 3 48 false,Ge 50 .rem 49 32 48 false,Oo 51 0 48 false,Og 52 (.gen (.nilCheck (t 51))) 48 false,Gb 53 0 52 48 false,Gb 54 4 53 48 false,Gc 55 1 54 48 false,Gf 56 .neq 50 55 48 false,Gk 57 48 56] (Sc 57 (Sr [Oi 2 4]) .skip)) JE)))
def KO:PC:=So [Oi 2 0] (.seq (So [Oa 5 0,Oq 6 5,Ob 7 11 6,Oc 8 1 7,Oa 9 0,Oq 10 9,Ob 11 10 10,Oc 12 1 11,Ou 13 12,Gp 14 .eql 8 13] (Sc 14 (Sr [Oi 2 9]) .skip)) JF)
theorem QeE:In1 prog YT Tryz.f114 KO:=jn1 Tryz.func114 (by kernel_rfl)
theorem GS:Rt prog Tryz.f115 H0 k A H=Ret H0 k (A 4) H:=Wb (by kernel_rfl)
def KP:PC:=.seq (.block 1 (So [Oa 13 0,Oa 14 1,Oa 15 5,Ox 16 1 14 15,Oc 17 1 16,Cb 18 ZY 13 17,Oa 6 18] (So [Oa 19 6,Oe 20 .neq 19 0] (Sc 20 (Sr [Oa 21 6,Oa 4 21]) .skip)))) (.ops [Oa 11 5,Oe 12 .add 11 1,Oa 5 12])
def KQ:PC:=.seq (So [Oa 7 5,Oa 8 1,Ou 9 8,Gp 10 .lss 7 9] (Sc 10 .skip (.exit 0))) KP
def VO:PC:=So [Oi 4 0] (.seq (So [Oi 5 0] (.block 0 (.loop KQ))) (Sr [Oi 4 0]))
theorem Qga:In2 prog W7 Tryz.f115 VO:=jn2 Tryz.func115 (by kernel_rfl)
noncomputable abbrev GT:Func:=Tryz.f116
theorem YC:Rt prog Tryz.f116 H0 k A H=Ret H0 k (A 2) H:=Wb (by kernel_rfl)
def JG:PC:=.seq (So [Oa 23 0,Oq 24 23,Ob 25 0 24,Ob 26 3 25,Oc 27 1 26,Oe 28 .geq 27 2] (Sc 28 (.ops [Oa 29 3,Ow 30 (.bslice 3 1 1 [.int .i64 0] [(0,(Ci 242))]),Ow 31 (.app 3 1 8 (t 29) (t 30)),Oa 3 31]) .skip)) (Sr [Oa 32 3,Oa 2 32])
def Yi:PC:=.seq (So [Oa 14 0,Oq 15 14,Ob 16 0 15,Ob 17 3 16,Oc 18 1 17,Oe 19 .geq 18 4] (Sc 19 (Sr [Oa 20 3,Ow 21 (.bslice 3 1 1 [.int .i64 0] [(0,(Ci 243))]),Ow 22 (.app 3 1 8 (t 20) (t 21)),Oa 2 22]) .skip)) JG
def KS:PC:=So [Oz 2] (So [Oz 3] (.seq (So [Oa 4 0,Oq 5 4,Ob 6 0 5,Ob 7 3 6,Oc 8 1 7,Oe 9 .rem 8 2,Oe 10 .eql 9 1] (Sc 10 (.ops [Oa 11 3,Ow 12 (.bslice 3 1 1 [.int .i64 0] [(0,(Ci 102))]),Ow 13 (.app 3 1 8 (t 11) (t 12)),Oa 3 13]) .skip)) Yi))
theorem QeF:In1 prog YU Tryz.f116 KS:=jn1 Tryz.func116 (by kernel_rfl)
noncomputable abbrev Zh:Func:=Tryz.f117
theorem KU:Rt prog Tryz.f117 H0 k A H=Ret H0 k (A 8) H:=Wb (by kernel_rfl)
def YD:PC:=So [Oa 39 0,Oa 40 1,Oq 41 39,Ob 42 12 41,Gu 1 42 40] (So [Oa 43 0,Oa 44 2,Oq 45 43,Ob 46 13 45,Gu 1 46 44] (So [Oa 47 0,Oa 48 3,Oq 49 47,Ob 50 14 49,Gu 1 50 48] (Sr [Oi 8 0])))
def GU:PC:=So [Oi 8 0] (.seq (So [Oa 9 1,Oe 10 .eql 9 1,Oa 11 10,Oo 12 0 11 true,Og 13 (.call QL [t 12,(Ci 1)]) 11 true,Og 14 (.not (t 13)) 11 true,Oj 15 11 14,Oa 16 15,Oo 17 2 16 false,Ge 18 .eql 17 1 16 false,Oo 19 18 16 false,Oo 20 0 19 true,Og 21 (.call XD [t 20]) 19 true,Og 22 (.not (t 21)) 19 true,Og 23 (.pick (t 19) (t 22) (.const (.bool false))) 16 false,Gk 24 16 23,Oa 25 24,Oo 26 3 25 false,Ge 27 .eql 26 1 25 false,Oo 28 27 25 false,Oo 29 0 28 true,Og 30 (.call QL [t 29,(Ci 2)]) 28 true,Og 31 (.not (t 30)) 28 true,Og 32 (.pick (t 28) (t 31) (.const (.bool false))) 25 false,Oo 33 32 25 false,Oo 34 0 33 true,Og 35 (.call QL [t 34,(Ci 4)]) 33 true,Og 36 (.not (t 35)) 33 true,Og 37 (.pick (t 33) (t 36) (.const (.bool false))) 25 false,Gk 38 25 37] (Sc 38 (Sr [Oi 8 4]) .skip)) YD)
theorem Qfl:In4 prog WW Tryz.f117 GU:=jn4 Tryz.func117 (by kernel_rfl)
theorem Yq:Rt prog Tryz.f118 H0 k A H=Ret H0 k (A 2) H:=Wb (by kernel_rfl)
def Qaf:PC:=So [Oe 8 .eql 3 2,Oa 7 8] (Sc 7 (Sr [Ow 9 (.bslice 3 1 2 Ze2 [(0,(Ci 15)),(1,(Ci 56))]),Oa 2 9]) (So [Oe 11 .eql 3 3,Oa 10 11] (Sc 10 (Sr [Ow 12 (.bslice 3 1 2 Ze2 [(0,(Ci 15)),(1,(Ci 58))]),Oa 2 12]) .skip)))
def Qb5:PC:=So [Oz 2] (.seq (So [Oa 3 0] (.block 0 (So [Oe 5 .eql 3 1,Oa 4 5] (Sc 4 (Sr [Ow 6 (.bslice 3 1 1 [.int .i64 0] [(0,(Ci 15))]),Oa 2 6]) Qaf)))) (Sr [Oz 2]))
theorem Qh2:In1 prog YV Tryz.f118 Qb5:=jn1 Tryz.func118 (by kernel_rfl)
theorem Qh3:Rt prog Tryz.f119 H0 k A H=Ret H0 k (A 2) H:=Wb (by kernel_rfl)
def QcT:PC:=So [Gr 1 Qc 0,Ol 2 false] (Sr [Od 3 10 1,Ow 4 (.call Jn [t 3,(Ci 2)]),Oa 2 4])
theorem Qi0:In1 prog Gl Tryz.f119 QcT:=jn1 Tryz.func119 (by kernel_rfl)
theorem KV:Rt prog Tryz.f120 H0 k A H=Ret H0 k (A 2) H:=Wb (by kernel_rfl)
def GV:PC:=So [Ol 2 false] (Sr [Oa 3 0,Ca 4 Xb 3,Oe 5 .geq 4 1,Oa 6 5,Oo 7 0 6 true,Og 8 (.call Xb [t 7]) 6 true,Ge 9 .leq 8 14 6 true,Oj 10 6 9,Oa 2 10])
theorem Qfm:In1 prog Ze Tryz.f120 GV:=jn1 Tryz.func120 (by kernel_rfl)
theorem Qea:Rt prog Tryz.f121 H0 k A H=Ret H0 k (A 2) H:=Wb (by kernel_rfl)
def KW:PC:=So [Ol 2 false] (Sr [Oa 3 0,Ca 4 Xb 3,Oe 5 .geq 4 7,Oa 2 5])
theorem QeG:In1 prog XD Tryz.f121 KW:=jn1 Tryz.func121 (by kernel_rfl)
noncomputable abbrev Qeb:Func:=Tryz.f122
theorem Qi1:Rt prog Tryz.f122 H0 k A H=ldR true 10 (A 8) H λv=>Ret H0 k (.tuple #[v,A 9]) H:=Qkr (ty:=70) (by kernel_rfl) (by kernel_rfl) (by kernel_rfl)
def JH:PC:=Sr [Oa 116 0,Oa 117 1,Oe 118 .add 117 1,Oa 119 11,Ca 120 Zl 119,Oa 121 12,Oa 122 13,Oa 123 3,Ow 124 (.bin .mul (Ci 8) (t 123)),Gp 125 .add 122 124,Ca 126 YL 125,Ow 127 (.build Ze7 [(0,2,(t 126))]),Ow 128 (.call Xq [t 116,t 118,t 120,t 121,t 127]),Ot 129 128 0,Ot 130 128 1,Gu 10 8 129,Oa 9 130]
def JI:PC:=Sr [Oa 63 0,Oa 64 1,Oe 65 .add 64 1,Oa 66 11,Oa 67 12,Oa 68 2,Oa 69 3,Ow 70 (.call Qaq [t 63,t 65,t 66,t 67,t 68,t 69]),Ot 71 70 0,Ot 72 70 1,Gu 10 8 71,Oa 9 72]
def JJ:PC:=So [Oa 101 11,Oe 102 .eql 101 0,Oa 103 102,Oo 104 13 103 true,Ge 105 .eql 104 5 103 true,Oj 106 103 105,Oa 100 106] (Sc 100 (Sr [Oa 107 0,Oa 108 1,Oe 109 .add 108 1,Oa 110 12,Ow 111 (.build Ze2 [(0,1,(Ci 8))]),Ow 112 (.build Ze7 [(0,2,(t 111))]),Ow 113 (.call Xq [t 107,t 109,(Ci 4),t 110,t 112]),Ot 114 113 0,Ot 115 113 1,Gu 10 8 114,Oa 9 115]) .skip)
def JK:PC:=So [Oa 90 11,Oe 91 .eql 90 3,Oa 89 91] (Sc 89 (Sr [Oa 92 12,Oa 93 13,Oa 94 3,Ow 95 (.bin .mul (Ci 8) (t 94)),Gp 96 .add 93 95,Oa 97 1,Oe 98 .add 97 1,Ow 99 (.build Qfa [(0,1,(t 92)),(1,1,(t 96)),(9,1,(t 98))]),Gu 10 8 99,Oi 9 0]) JJ)
def JL:PC:=So [Oa 74 2,Oe 75 .eql 74 1,Oa 76 75,Oo 77 11 76 false,Ge 78 .eql 77 0 76 false,Oo 79 78 76 false,Oo 80 13 79 true,Ge 81 .eql 80 5 79 true,Og 82 (.pick (t 79) (t 81) (.const (.bool false))) 76 false,Oo 83 82 76 false,Oo 84 3 83 true,Ge 85 .eql 84 1 83 true,Og 86 (.pick (t 83) (t 85) (.const (.bool false))) 76 false,Gk 87 76 86,Oa 73 87] (Sc 73 (Sr [Ow 88 (.build Qfa []),Gu 10 8 88,Oi 9 4]) JK)
def Qb6:PC:=So [Oa 44 0,Oa 45 1,Ox 46 1 44 45,Oc 47 1 46,Ow 48 (.toInt .i64 (t 47)),Oa 10 48] (So [Oa 49 10,Oe 50 .quo 49 64,Oa 51 10,Oe 52 .quo 51 8,Oe 53 .rem 52 8,Oa 54 10,Oe 55 .rem 54 8,Oa 11 50,Oa 12 53,Oa 13 55] (.seq (.block 0 (So [Oa 57 11,Oe 58 .neq 57 3,Oa 59 58,Oo 60 13 59 true,Ge 61 .eql 60 4 59 true,Oj 62 59 61,Oa 56 62] (Sc 56 JI JL))) JH))
def Qb7:PC:=.seq (So [Oa 39 1,Oa 40 0,Ou 41 40,Gp 42 .eql 39 41] (Sc 42 (Sr [Ow 43 (.build Qfa []),Gu 10 8 43,Oi 9 9]) .skip)) Qb6
def Qdm:PC:=So [Cd 8 QM Qfa,Oi 9 0] (.seq (So [Oa 14 1,Oe 15 .lss 14 0,Oa 16 15,Oo 17 1 16 false,Oo 18 0 16 false,Og 19 (.lenS (t 18)) 16 false,Gf 20 .gtr 17 19 16 false,Gk 21 16 20,Oa 22 21,Oo 23 2 22 false,Ge 24 .lss 23 0 22 false,Gk 25 22 24,Oa 26 25,Oo 27 2 26 false,Ge 28 .gtr 27 1 26 false,Gk 29 26 28,Oa 30 29,Oo 31 3 30 false,Ge 32 .lss 31 0 30 false,Gk 33 30 32,Oa 34 33,Oo 35 3 34 false,Ge 36 .gtr 35 1 34 false,Gk 37 34 36] (Sc 37 (Sr [Ow 38 (.build Qfa []),Gu 10 8 38,Oi 9 5]) .skip)) Qb7)
theorem Qj2:In4 prog Vd Tryz.f122 Qdm:=jn4 Tryz.func122 (by kernel_rfl)
theorem JM:Rt prog Tryz.f124 H0 k A H=Ret H0 k (A 2) H:=Wb (by kernel_rfl)
def Yr:PC:=Sc 10 (Sr [Oi 2 4]) (So [Oe 15 .eql 3 25,Oa 14 15] (Sc 14 (Sr [Oi 2 8]) .skip))
def Ys:PC:=.seq (So [Oe 11 .eql 3 23,Oa 10 11] (Sc 10 .skip (So [Oe 12 .eql 3 24,Oa 10 12] (Sc 10 .skip (.ops [Oe 13 .eql 3 27,Oa 10 13]))))) Yr
def Yt:PC:=So [Oe 9 .eql 3 22,Oa 8 9] (Sc 8 (Sr [Oi 2 2]) Ys)
def Yu:PC:=Sc 4 (Sr [Oi 2 1]) Yt
def QcU:PC:=So [Oi 2 0] (.seq (So [Oa 3 0] (.block 0 (.seq (So [Oe 5 .eql 3 20,Oa 4 5] (Sc 4 .skip (So [Oe 6 .eql 3 21,Oa 4 6] (Sc 4 .skip (.ops [Oe 7 .eql 3 26,Oa 4 7]))))) Yu))) (Sr [Oi 2 0]))
theorem Qi2:In1 prog Gm Tryz.f124 QcU:=jn1 Tryz.func124 (by kernel_rfl)
theorem Qj3:Rt prog Tryz.f125 H0 k A H=Ret H0 k (A 4) H:=Wb (by kernel_rfl)
def Qec:PC:=So [Gr 2 Qc 0,Ol 4 false] (Sr [Od 5 10 2,Oa 6 1,Cb 7 Xm 5 6,Oe 8 .geq 7 0,Oa 4 8])
theorem Qk2:In2 prog Jn Tryz.f125 Qec:=jn2 Tryz.func125 (by kernel_rfl)
noncomputable abbrev Qag:Func:=Tryz.f132
theorem Qz:Rt prog Tryz.f132 H0 k A H=ldR true 11 (A 10) H λv=>Ret H0 k v H:=QrH (ty:=47) (by kernel_rfl) (by kernel_rfl) (by kernel_rfl)
def YK:PC:=.seq (So [Oa 130 1,Oe 131 .eql 130 26,Oa 132 131,Oo 133 1 132 false,Ge 134 .eql 133 27 132 false,Gk 135 132 134] (Sc 135 (Sr [Oa 136 4,Ca 137 YW 136,Ow 138 (.build Kz [(0,1,(Ci 4)),(10,1,(t 137))]),Gu 11 10 138]) .skip)) (Sr [Oa 139 4,Ca 140 YW 139,Ow 141 (.build Kz [(0,1,(Ci 3)),(10,1,(t 140))]),Gu 11 10 141])
def KX:PC:=.seq (So [Oa 123 0,Ow 124 (.call QL [t 123,(Ci 7)])] (Sc 124 (.ops [Oa 125 4,Oa 126 4,Ou 127 126,Oe 128 .sub 127 1,Ow 129 (.slS 1 (t 125) none (some (t 128))),Oa 4 129]) .skip)) YK
def KY:PC:=So [Oa 22 0,Oq 23 22,Ob 24 17 23,Ob 25 0 24,Oc 26 1 25,Oa 27 0,Oq 28 27,Ob 29 12 28,Oc 30 1 29,Ow 31 (.bin .mul (Ci 8) (t 30)),Gp 32 .add 26 31,Oa 11 32] (Sr [Oa 33 1,Oa 34 11,Oa 35 0,Oq 36 35,Ob 37 15 36,Oc 38 1 37,Cc 39 WL 33 34 38,Oa 40 11,Cb 41 QZ 39 40,Gu 11 10 41])
def KZ:PC:=Sr [Oa 44 1,Oa 45 0,Oq 46 45,Ob 47 16 46,Oc 48 1 47,⟨some 49,.callF WL [(t 44),t 48,(.const (.bool true))] [t 0],none,true⟩,Oa 50 0,Oq 51 50,Ob 52 16 51,⟨some 53,.ld false 1 (t 52),none,true⟩,Cb 54 QZ 49 53,Gu 11 10 54]
def K1:PC:=So [Oa 57 3,Oa 58 0,Oq 59 58,Ob 60 14 59,Oc 61 1 60,Ow 62 (.bin .mul (Ci 8) (t 61)),Gp 63 .add 57 62,Oa 12 63] (Sr [Oa 64 1,Oa 65 12,Oa 66 0,Oq 67 66,Ob 68 15 67,Oc 69 1 68,Cc 70 WL 64 65 69,Oa 71 12,Cb 72 QZ 70 71,Gu 11 10 72])
def K2:PC:=So [Oa 75 4,Oa 76 4,Ou 77 76,Oe 78 .sub 77 1,Ox 79 1 75 78,Oc 80 1 79,Ow 81 (.toInt .i64 (t 80)),Oe 82 .quo 81 16,Oa 13 82] (Sr [Oa 83 1,Oa 84 13,Ow 85 (.call WL [(t 83),t 84,(.const (.bool true))]),Oa 86 13,Cb 87 QZ 85 86,Gu 11 10 87])
def K3:PC:=So [Oa 113 0,Oq 114 113,Ob 115 17 114,Ob 116 2 115,Od 117 7 116,Cd 14 Qq Ze7,Gu 7 14 117] (So [Oa 118 1,Ca 119 Ve 118,Ob 120 6 14,Gu 1 120 119] (Sr [Od 121 7 14,Ow 122 (.build Kz [(0,1,(Ci 2)),(3,7,(t 121))]),Gu 11 10 122]))
def K4:PC:=Sr [Oa 96 1,Oa 97 0,Oq 98 97,Ob 99 17 98,Ob 100 1 99,Oc 101 1 100,Oa 102 0,Oq 103 102,Ob 104 15 103,Oc 105 1 104,⟨some 106,.callF WL [t 96,t 101,t 105] [t 0],none,true⟩,Oa 107 0,Oq 108 107,Ob 109 17 108,Ob 110 1 109,⟨some 111,.ld false 1 (t 110),none,true⟩,Cb 112 QZ 106 111,Gu 11 10 112]
def K5:PC:=.seq (So [Oa 90 0,Oq 91 90,Ob 92 17 91,Ob 93 1 92,Oc 94 1 93,Oe 95 .geq 94 0] (Sc 95 K4 .skip)) K3
def JY:PC:=So [Oe 89 .eql 15 2,Oa 88 89] (Sc 88 K5 .skip)
def JZ:PC:=So [Oe 74 .eql 15 7,Oa 73 74] (Sc 73 K2 JY)
def J1:PC:=So [Oe 56 .eql 15 4,Oa 55 56] (Sc 55 K1 JZ)
def J2:PC:=So [Oe 43 .eql 15 3,Oa 42 43] (Sc 42 KZ J1)
def J3:PC:=So [Oe 21 .eql 15 1,Oa 20 21] (Sc 20 KY J2)
def VP:PC:=So [Cd 10 Qe Kz] (.seq (So [Oa 15 2] (.block 0 (So [Oe 17 .eql 15 6,Oa 16 17] (Sc 16 (Sr [Oa 18 1,Ca 19 Gq 18,Gu 11 10 19]) J3)))) KX)
theorem Qgb:In5 prog Zv Tryz.f132 VP:=jn5 Tryz.func132 (by kernel_rfl)
noncomputable abbrev VQ:Func:=Tryz.f185
theorem K6:Rt prog Tryz.f185 H0 k A H=Ret H0 k (A 4) H:=Wb (by kernel_rfl)
def GW:PC:=So [Oi 4 0] (So [Oa 5 0,Oa 6 1,Oe 7 .quo 6 8,Oe 8 .rem 7 16,Ow 9 (.bin .sub (Ci 15) (t 8)),Oq 10 5,Ob 11 16 10,Gu 1 11 9] (.seq (So [Oa 12 1,Oe 13 .quo 12 4,Oe 14 .rem 13 2,Oa 15 0,Oq 16 15,Ob 17 0 16,Ob 18 9 17,Oc 19 1 18,Gp 20 .neq 14 19,Oa 21 20,Oo 22 1 21 false,Ge 23 .rem 22 4 21 false,Oo 24 0 21 false,Og 25 (.gen (.nilCheck (t 24))) 21 false,Gb 26 0 25 21 false,Gb 27 3 26 21 false,Gc 28 1 27 21 false,Og 29 (.call QbA [t 28]) 21 false,Gf 30 .neq 23 29 21 false,Gk 31 21 30,Oa 32 31,Oo 33 0 32 false,Og 34 (.gen (.nilCheck (t 33))) 32 false,Gb 35 16 34 32 false,Gc 36 1 35 32 false,Ge 37 .neq 36 0 32 false,Oo 38 37 32 false,Oo 39 0 38 true,Og 40 (.call QL [t 39,(Ci 3)]) 38 true,Og 41 (.not (t 40)) 38 true,Og 42 (.pick (t 38) (t 41) (.const (.bool false))) 32 false,Gk 43 32 42] (Sc 43 (Sr [Oi 4 4]) .skip)) (Sr [Oi 4 0])))
theorem Qfn:In2 prog XM Tryz.f185 GW:=jn2 Tryz.func185 (by kernel_rfl)
theorem Zi:Rt prog Tryz.f186 H0 k A H=Ret H0 k (A 4) H:=Wb (by kernel_rfl)
def GX:PC:=.seq (So [Oa 15 0,Oq 16 15,Ob 17 10 16,Oc 18 1 17,Oa 19 0,Oq 20 19,Ob 21 11 20,Oc 22 1 21,Ox 23 1 18 22,Oc 24 1 23,Ow 25 (.toInt .i64 (t 24)),Oa 26 1,Gp 27 .neq 25 26] (Sc 27 (Sr [Oi 4 4]) .skip)) (So [Oa 28 0,Oq 29 28,Ob 30 11 29,Oc 31 1 30,Oe 32 .add 31 1,Oq 33 28,Ob 34 11 33,Gu 1 34 32] (Sr [Oi 4 0]))
def Qah:PC:=So [Oi 4 0] (.seq (So [Oa 5 0,Oq 6 5,Ob 7 11 6,Oc 8 1 7,Oa 9 0,Oq 10 9,Ob 11 10 10,Oc 12 1 11,Ou 13 12,Gp 14 .eql 8 13] (Sc 14 (Sr [Oi 4 9]) .skip)) GX)
theorem Qgn:In2 prog ZY Tryz.f186 Qah:=jn2 Tryz.func186 (by kernel_rfl)
theorem VR:Rt prog Tryz.f187 H0 k A H=Ret H0 k (A 2) H:=Wb (by kernel_rfl)
def Qai:PC:=So [Oi 2 0] (So [Oa 4 0,Oq 5 4,Ob 6 0 5,Od 7 10 6,Ow 8 (.call Xm [t 7,(Ci 2)]),Oa 3 8] (.seq (So [Oa 9 3,Oe 10 .lss 9 0] (Sc 10 (Sr [Oi 2 0]) .skip)) (Sr [Oa 11 0,Oq 12 11,Ob 13 0 12,Ob 14 1 13,Oc 15 1 14,Oa 16 3,Ox 17 1 15 16,Oc 18 1 17,Oa 2 18])))
theorem Qgo:In1 prog Xb Tryz.f187 Qai:=jn1 Tryz.func187 (by kernel_rfl)
noncomputable abbrev WK:Func:=Tryz.f188
theorem Qdn:Rt prog Tryz.f188 H0 k A H=ldR true 10 (A 12) H λv=>Ret H0 k (.tuple #[v,A 13]) H:=Qkr (ty:=70) (by kernel_rfl) (by kernel_rfl) (by kernel_rfl)
def Kt:PC:=So [Oa 79 16,Oa 80 5,Ow 81 (.bin .mul (Ci 8) (t 80)),Gp 82 .add 79 81,Ca 83 YL 82,Ob 84 0 17,Gu 2 84 83] (Sr [Oa 85 0,Oa 86 1,Oe 87 .add 86 1,Oa 88 2,⟨some 89,.callF Zl [t 88] [t 17],none,true⟩,Oa 90 3,⟨some 91,.ld true 7 (t 17),none,true⟩,Ow 92 (.call Xq [t 85,t 87,t 89,t 90,t 91]),Ot 93 92 0,Ot 94 92 1,Gu 10 12 93,Oa 13 94])
def Ku:PC:=.seq (So [Oa 65 2,Oe 66 .eql 65 0,Oa 67 66,Oo 68 16 67 true,Ge 69 .eql 68 5 67 true,Oj 70 67 69] (Sc 70 (Sr [Oa 71 0,Oa 72 1,Oe 73 .add 72 1,Oa 74 3,Od 75 7 17,Ow 76 (.call Xq [t 71,t 73,(Ci 4),t 74,t 75]),Ot 77 76 0,Ot 78 76 1,Gu 10 12 77,Oa 13 78]) .skip)) Kt
def Kv:PC:=.seq (So [Oa 45 15,Oe 46 .eql 45 4,Oa 47 46,Oo 48 14 47 true,Ge 49 .quo 48 64 47 true,Ge 50 .neq 49 0 47 true,Oj 51 47 50,Oa 52 51,Oo 53 2 52 false,Ge 54 .eql 53 0 52 false,Oo 55 54 52 false,Oo 56 16 55 true,Ge 57 .eql 56 5 55 true,Og 58 (.pick (t 55) (t 57) (.const (.bool false))) 52 false,Oo 59 58 52 false,Oo 60 5 59 true,Ge 61 .eql 60 1 59 true,Og 62 (.pick (t 59) (t 61) (.const (.bool false))) 52 false,Gk 63 52 62] (Sc 63 (Sr [Ow 64 (.build Qfa []),Gu 10 12 64,Oi 13 4]) .skip)) Ku
def QcV:PC:=So [Oa 23 0,Oa 24 1,Ox 25 1 23 24,Oc 26 1 25,Ow 27 (.toInt .i64 (t 26)),Oa 14 27] (So [Oa 28 14,Oe 29 .quo 28 8,Oe 30 .rem 29 8,Oa 31 4,Ow 32 (.bin .mul (Ci 8) (t 31)),Gp 33 .add 30 32,Oa 34 14,Oe 35 .rem 34 8,Oa 15 33,Oa 16 35] (So [Cd 17 Qq Ze7] (.seq (So [Oa 36 15,Oe 37 .neq 36 4] (Sc 37 (So [Oa 38 15,Ca 39 YL 38,Ob 40 2 17,Gu 2 40 39] (.ops [Oa 41 14,Oe 42 .quo 41 64,Ow 43 (.bin .shl (Ci 1) (t 42)),Ob 44 4 17,Gu 1 44 43])) .skip)) Kv)))
def Qed:PC:=So [Cd 12 QM Qfa,Oi 13 0] (.seq (So [Oa 18 1,Oa 19 0,Ou 20 19,Gp 21 .eql 18 20] (Sc 21 (Sr [Ow 22 (.build Qfa []),Gu 10 12 22,Oi 13 9]) .skip)) QcV)
theorem Qk3:In6 prog Qaq Tryz.f188 Qed:=jn6 Tryz.func188 (by kernel_rfl)
theorem QcW:Rt prog Tryz.f189 H0 k A H=ldR true 10 (A 10) H λv=>Ret H0 k (.tuple #[v,A 11]) H:=Qkr (ty:=70) (by kernel_rfl) (by kernel_rfl) (by kernel_rfl)
def Qb8:PC:=So [Oa 19 0,Oa 20 1,Oa 21 1,Oa 22 2,Gp 23 .add 21 22,Ow 24 (.slS 1 (t 19) (some (t 20)) (some (t 23))),Ca 25 Vf 24,Ob 26 5 9,Gu 1 26 25] (So [Od 28 7 9,Ca 29 Zm 28,Oa 27 29,Ot 30 27 0,Ot 31 27 1,Gu 7 9 30] (Sr [Oa 32 3,Od 33 7 9,Oa 34 1,Oa 35 2,Gp 36 .add 34 35,Ow 37 (.build Qfa [(0,1,(t 32)),(1,1,(Ci (-1))),(2,7,(t 33)),(9,1,(t 36))]),Gu 10 10 37,Oi 11 0]))
def Qdo:PC:=So [Gr 9 Qq 4,Cd 10 QM Qfa,Oi 11 0] (.seq (So [Oa 12 1,Oa 13 2,Gp 14 .add 12 13,Oa 15 0,Ou 16 15,Gp 17 .gtr 14 16] (Sc 17 (Sr [Ow 18 (.build Qfa []),Gu 10 10 18,Oi 11 9]) .skip)) Qb8)
theorem Qj4:In5 prog Xq Tryz.f189 Qdo:=jn5 Tryz.func189 (by kernel_rfl)
theorem JN:Rt prog Tryz.f190 H0 k A H=Ret H0 k (A 2) H:=Wb (by kernel_rfl)
def QcX:PC:=So [Oi 2 0] (.seq (So [Oa 3 0] (.block 0 (So [Oe 5 .eql 3 1,Oa 4 5] (Sc 4 (Sr [Oi 2 1]) (So [Oe 7 .eql 3 2,Oa 6 7] (Sc 6 (Sr [Oi 2 4]) .skip)))))) (Sr [Oi 2 0]))
theorem Qi3:In1 prog Zl Tryz.f190 QcX:=jn1 Tryz.func190 (by kernel_rfl)
theorem Qj5:Rt prog Tryz.f191 H0 k A H=ldR true 2 (A 2) H λv=>Ret H0 k v H:=QrH (ty:=43) (by kernel_rfl) (by kernel_rfl) (by kernel_rfl)
def Qee:PC:=So [Cd 2 Q5 Ze2] (Sr [Oa 3 0,Ow 4 (.build Ze2 [(0,1,(Ci 5)),(1,1,(t 3))]),Gu 2 2 4])
theorem Qk4:In1 prog YL Tryz.f191 Qee:=jn1 Tryz.func191 (by kernel_rfl)
theorem Qb9:Rt prog Tryz.f198 H0 k A H=ldR true 11 (A 2) H λv=>Ret H0 k v H:=QrH (ty:=47) (by kernel_rfl) (by kernel_rfl) (by kernel_rfl)
def Qbd:PC:=So [Oe 14 .eql 3 30,Oa 13 14] (Sc 13 (Sr [Ow 15 (.call QZ [(Ci 4),(Ci 0)]),Gu 11 2 15]) (So [Oe 17 .eql 3 31,Oa 16 17] (Sc 16 (Sr [Ow 18 (.call QZ [(Ci 5),(Ci 0)]),Gu 11 2 18]) .skip)))
def Qbe:PC:=So [Oe 11 .eql 3 29,Oa 10 11] (Sc 10 (Sr [Ow 12 (.call QZ [(Ci 3),(Ci 0)]),Gu 11 2 12]) Qbd)
def Qbf:PC:=So [Oe 8 .eql 3 32,Oa 7 8] (Sc 7 (Sr [Ow 9 (.call QZ [(Ci 1),(Ci 1)]),Gu 11 2 9]) Qbe)
def QcY:PC:=So [Cd 2 Qe Kz] (.seq (So [Oa 3 0] (.block 0 (So [Oe 5 .eql 3 28,Oa 4 5] (Sc 4 (Sr [Ow 6 (.call QZ [(Ci 1),(Ci 0)]),Gu 11 2 6]) Qbf)))) (Sr [Ow 19 (.build Kz [(0,1,(Ci 3)),(10,1,(Ci 1))]),Gu 11 2 19]))
theorem Qi4:In1 prog Gq Tryz.f198 QcY:=jn1 Tryz.func198 (by kernel_rfl)
theorem Qj6:Rt prog Tryz.f199 H0 k A H=ldR true 11 (A 4) H λv=>Ret H0 k v H:=QrH (ty:=47) (by kernel_rfl) (by kernel_rfl) (by kernel_rfl)
def Qef:PC:=So [Cd 4 Qe Kz] (Sr [Oa 5 0,Oa 6 1,Ow 7 (.build Ze2 [(0,1,(t 5)),(1,1,(t 6))]),Ow 8 (.build Kz [(0,1,(Ci 1)),(1,2,(t 7))]),Gu 11 4 8])
theorem Qk5:In2 prog QZ Tryz.f199 Qef:=jn2 Tryz.func199 (by kernel_rfl)
noncomputable abbrev Qj7:Func:=Tryz.f200
theorem JO:Rt prog Tryz.f200 H0 k A H=Ret H0 k (A 6) H:=Wb (by kernel_rfl)
def Jc:PC:=.seq (So [Oa 11 2,Oh 12 11,Oa 13 12,Oo 14 1 13 true,Ge 15 .geq 14 4 13 true,Oj 16 13 15,Oa 17 16,Oo 18 1 17 true,Ge 19 .leq 18 7 17 true,Oj 20 17 19] (Sc 20 (Sr [Oi 6 2]) .skip)) (Sr [Oi 6 1])
def Qbg:PC:=.seq (So [Oe 31 .eql 7 6,Oa 30 31] (Sc 30 .skip (.ops [Oe 32 .eql 7 14,Oa 30 32]))) (Sc 30 (Sr [Oi 6 7]) .skip)
def Qbh:PC:=Sc 27 (Sr [Oi 6 5]) Qbg
def Qbi:PC:=.seq (So [Oe 28 .eql 7 4,Oa 27 28] (Sc 27 .skip (.ops [Oe 29 .eql 7 10,Oa 27 29]))) Qbh
def Qbj:PC:=Sc 24 (Sr [Oi 6 4]) Qbi
def Qbk:PC:=.seq (So [Oe 25 .eql 7 3,Oa 24 25] (Sc 24 .skip (.ops [Oe 26 .eql 7 9,Oa 24 26]))) Qbj
def Qbl:PC:=Sc 21 (Sr [Oi 6 3]) Qbk
def Qbm:PC:=.seq (So [Oe 22 .eql 7 2,Oa 21 22] (Sc 21 .skip (.ops [Oe 23 .eql 7 8,Oa 21 23]))) Qbl
def Qbn:PC:=Sc 8 Jc Qbm
def QcZ:PC:=So [Oi 6 0] (.seq (So [Oa 7 0] (.block 0 (.seq (So [Oe 9 .eql 7 1,Oa 8 9] (Sc 8 .skip (.ops [Oe 10 .eql 7 7,Oa 8 10]))) Qbn))) (Sr [Oi 6 6]))
theorem Qi5:In3 prog WL Tryz.f200 QcZ:=jn3 Tryz.func200 (by kernel_rfl)
theorem Qc0:Rt prog Tryz.f201 H0 k A H=Ret H0 k (A 2) H:=Wb (by kernel_rfl)
def Qca:PC:=.seq (So [Oe 21 .eql 3 14,Oa 20 21] (Sc 20 .skip (.ops [Oe 22 .eql 3 19,Oa 20 22]))) (Sc 20 (Sr [Oi 2 32]) .skip)
def Qcb:PC:=Sc 17 (Sr [Oi 2 16]) Qca
def Qcc:PC:=.seq (So [Oe 18 .eql 3 13,Oa 17 18] (Sc 17 .skip (.ops [Oe 19 .eql 3 18,Oa 17 19]))) Qcb
def Qcd:PC:=Sc 13 (Sr [Oi 2 8]) Qcc
def Qce:PC:=.seq (So [Oe 14 .eql 3 10,Oa 13 14] (Sc 13 .skip (So [Oe 15 .eql 3 12,Oa 13 15] (Sc 13 .skip (.ops [Oe 16 .eql 3 17,Oa 13 16]))))) Qcd
def Qcf:PC:=Sc 9 (Sr [Oi 2 4]) Qce
def Qcg:PC:=.seq (So [Oe 10 .eql 3 9,Oa 9 10] (Sc 9 .skip (So [Oe 11 .eql 3 11,Oa 9 11] (Sc 9 .skip (.ops [Oe 12 .eql 3 16,Oa 9 12]))))) Qcf
def Qch:PC:=Sc 6 (Sr [Oi 2 2]) Qcg
def Qci:PC:=.seq (So [Oe 7 .eql 3 8,Oa 6 7] (Sc 6 .skip (.ops [Oe 8 .eql 3 34,Oa 6 8]))) Qch
def Qdp:PC:=So [Oi 2 0] (.seq (So [Oa 3 0] (.block 0 (So [Oe 5 .eql 3 7,Oa 4 5] (Sc 4 (Sr [Oi 2 1]) Qci)))) (Sr [Oi 2 0]))
theorem Qj8:In1 prog Ve Tryz.f201 Qdp:=jn1 Tryz.func201 (by kernel_rfl)
theorem Yv:Rt prog Tryz.f202 H0 k A H=Ret H0 k (A 2) H:=Wb (by kernel_rfl)
def Qaj:PC:=.seq (So [Oa 21 0,Ou 22 21,Oe 23 .gtr 22 0,Oa 24 23,Oo 25 0 24 true,Og 26 (.lenS (t 25)) 24 true,Ge 27 .lss 26 8 24 true,Oj 28 24 27,Oa 29 28,Oo 30 0 29 true,Oo 31 0 29 true,Og 32 (.lenS (t 31)) 29 true,Ge 33 .sub 32 1 29 true,Gy 34 1 30 33 29 true,Gc 35 1 34 29 true,Og 36 (.bin .geq (t 35) (.const (.int .u8 128))) 29 true,Oj 37 29 36] (Sc 37 (.ops [Oa 38 3,Oa 39 0,Ou 40 39,Ow 41 (.bin .mul (Ci 8) (t 40)),Ow 42 (.bin .shl (Ci 1) (t 41)),Gp 43 .sub 38 42,Oa 3 43]) .skip)) (Sr [Oa 44 3,Oa 2 44])
def Qak:PC:=.seq (.block 1 (.ops [Oa 11 3,Oa 12 0,Oa 13 4,Ox 14 1 12 13,Oc 15 1 14,Ow 16 (.toInt .i64 (t 15)),Oa 17 4,Ow 18 (.bin .mul (Ci 8) (t 17)),Gp 19 .shl 16 18,Gp 20 .or 11 19,Oa 3 20])) (.ops [Oa 9 4,Oe 10 .add 9 1,Oa 4 10])
def Qal:PC:=.seq (So [Oa 5 4,Oa 6 0,Ou 7 6,Gp 8 .lss 5 7] (Sc 8 .skip (.exit 0))) Qak
def Qcj:PC:=So [Oi 2 0] (So [Oi 3 0] (.seq (So [Oi 4 0] (.block 0 (.loop Qal))) Qaj))
theorem Qh4:In1 prog YW Tryz.f202 Qcj:=jn1 Tryz.func202 (by kernel_rfl)
theorem ZS:Rt prog Tryz.f254 H0 k A H=Ret H0 k (A 2) H:=Wb (by kernel_rfl)
def Qdq:PC:=So [Oe 7 .eql 3 4,Oa 6 7] (Sc 6 (Sr [Oi 2 2]) (So [Oe 9 .eql 3 2,Oa 8 9] (Sc 8 (Sr [Oi 2 3]) .skip)))
def Qe4:PC:=So [Oi 2 0] (.seq (So [Oa 3 0] (.block 0 (So [Oe 5 .eql 3 1,Oa 4 5] (Sc 4 (Sr [Oi 2 1]) Qdq)))) (Sr [Oi 2 0]))
theorem Qlx:In1 prog QbA Tryz.f254 Qe4:=jn1 Tryz.func254 (by kernel_rfl)
theorem Kw:Rt prog Tryz.f255 H0 k A H=Ret H0 k (A 2) H:=Wb (by kernel_rfl)
def Qck:PC:=.seq (So [Oa 20 0,Ou 21 20,Oe 22 .gtr 21 0,Oa 23 22,Oo 24 0 23 true,Oo 25 0 23 true,Og 26 (.lenS (t 25)) 23 true,Ge 27 .sub 26 1 23 true,Gy 28 1 24 27 23 true,Gc 29 1 28 23 true,Og 30 (.bin .geq (t 29) (.const (.int .u8 128))) 23 true,Oj 31 23 30] (Sc 31 (.ops [Oa 32 3,Oa 33 0,Ou 34 33,Ow 35 (.bin .mul (Ci 8) (t 34)),Ow 36 (.bin .shl (Ci 1) (t 35)),Gp 37 .sub 32 36,Oa 3 37]) .skip)) (Sr [Oa 38 3,Oa 2 38])
def Qcl:PC:=.seq (.block 1 (.ops [Oa 12 3,Ow 13 (.bin .mul (Ci 256) (t 12)),Oa 14 0,Oa 15 4,Ox 16 1 14 15,Oc 17 1 16,Ow 18 (.toInt .i64 (t 17)),Gp 19 .add 13 18,Oa 3 19])) (.ops [Oa 10 4,Oe 11 .sub 10 1,Oa 4 11])
def Qcm:PC:=.seq (So [Oa 8 4,Oe 9 .geq 8 0] (Sc 9 .skip (.exit 0))) Qcl
def Qdr:PC:=So [Oi 2 0] (So [Oi 3 0] (.seq (So [Oa 5 0,Ou 6 5,Oe 7 .sub 6 1,Oa 4 7] (.block 0 (.loop Qcm))) Qck))
theorem Qj9:In1 prog Vf Tryz.f255 Qdr:=jn1 Tryz.func255 (by kernel_rfl)
end Go.Proofs.YtfofbicfabokbaaGreatDoor.code
