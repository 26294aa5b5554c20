/- The code of the functions that are reached, resolved. -/
import Derived.Test.YtfofbicfabokbaaGreatDoorAbD
import Derived.Test.YtfofbicfabokbaaGreatDoorProg
import Derived.KernelRfl
import Derived.Test.YtfofbicfabokbaaGreatDoorC0Code
set_option linter.unusedVariables false
set_option maxRecDepth 100000
noncomputable section
namespace Go.Proofs.YtfofbicfabokbaaGreatDoor.code
open Go.Ab
variable (H0 H:Qa) (k:Value->Qa->Prop) (A:Env)
noncomputable abbrev Ga:Func:=Tryz.f26
theorem Qjh:Rt prog Tryz.f26 H0 k A H=ldR true 2 (A 4) H λv=>Ret H0 k (.tuple #[v,A 5,A 6]) H:=QnT (ty:=27) (by kernel_rfl) (by kernel_rfl) (by kernel_rfl)
def QkC:PC:=So [Gr 2 Qc 0,Cd 4 Qd [.int .i64 0,.slice none 0 0],Oi 5 0,Oi 6 0] (So [Od 9 10 2,Oa 10 1,Ow 11 (.build [.int .i64 0,.slice none 0 0,.slice none 0 0,.int .i64 0,.int .i64 0,.int .i64 0,.int .i64 0,.int .i64 0,.bool false,.int .i64 0,.slice none 0 0,.int .i64 0,.bool false,.int .i64 0,.int .i64 0,.int .i64 0,.int .i64 0,.int .i64 0,.int .i64 0,.int .i64 0,.int .i64 0,.int .i64 0,.int .i64 0,.int .i64 0,.int .i64 0,.int .i64 0,.int .i64 0,.int .i64 0] [(0,10,(t 9)),(10,1,(t 10))]),Cd 7 We [.int .i64 0,.slice none 0 0,.slice none 0 0,.int .i64 0,.int .i64 0,.int .i64 0,.int .i64 0,.int .i64 0,.bool false,.int .i64 0,.slice none 0 0,.int .i64 0,.bool false,.int .i64 0,.int .i64 0,.int .i64 0,.int .i64 0,.int .i64 0,.int .i64 0,.int .i64 0,.int .i64 0,.int .i64 0,.int .i64 0,.int .i64 0,.int .i64 0,.int .i64 0,.int .i64 0,.int .i64 0],Gu 28 7 11] (So [Ca 12 ZL 7,Oa 8 12] (.seq (So [Oa 13 8,Oe 14 .eql 13 0] (Sc 14 (.ops [Ca 15 YQ 7,Oa 8 15]) .skip)) (.seq (So [Oa 16 8,Oe 17 .eql 16 0] (Sc 17 (.ops [Ca 18 Zj 7,Oa 8 18]) .skip)) (.seq (So [Oa 19 8,Oe 20 .neq 19 0] (Sc 20 (Sr [Ow 21 (.build [.int .i64 0,.slice none 0 0] []),Oa 22 8,Gu 2 4 21,Oi 5 0,Oa 6 22]) .skip)) (Sr [Ca 23 Yj 7,Ot 24 23 0,Ot 25 23 1,Ot 26 23 2,Gu 2 4 24,Oa 5 25,Oa 6 26]))))))
theorem Qqz:In2 prog QaB Tryz.f26 QkC:=jn2 Tryz.func26 (by kernel_rfl)
theorem QcK:Rt prog Tryz.f40 H0 k A H=Ret H0 k (A 2) H:=Wb (by kernel_rfl)
def Qdf:PC:=So [Oi 2 0] (.seq (So [Oa 3 0,Oq 4 3,Ob 5 0 4,Ob 6 8 5,Oc 7 1 6] (Sc 7 (Sr [Oa 8 0,Ca 9 Ke 8,Oa 2 9]) .skip)) (Sr [Oa 10 0,Ca 11 Kf 10,Oa 2 11]))
theorem QjU:In1 prog ZL Tryz.f40 Qdf:=jn1 Tryz.func40 (by kernel_rfl)
theorem Z6:Rt prog Tryz.f41 H0 k A H=Ret H0 k (A 2) H:=Wb (by kernel_rfl)
def QbS:PC:=So [Oi 2 0] (.seq (So [Oa 3 0,Oq 4 3,Ob 5 0 4,Od 6 10 5,Ow 7 (.call WM [t 6,(Ci 4)]),Oe 8 .lss 7 0] (Sc 8 (Sr [Oa 9 0,Oa 10 0,Oq 11 10,Ob 12 0 11,Ob 13 5 12,Oc 14 1 13,Cb 15 Wo 9 14,Oa 2 15]) .skip)) (.seq (So [Oa 16 0,Oq 17 16,Ob 18 11 17,Oc 19 1 18,Oa 20 0,Oq 21 20,Ob 22 10 21,Oc 23 1 22,Ou 24 23,Gp 25 .geq 19 24] (Sc 25 (Sr [Oi 2 9]) .skip)) (So [Oa 26 0,Oa 27 0,Oq 28 27,Ob 29 10 28,Oc 30 1 29,Oa 31 0,Oq 32 31,Ob 33 11 32,Oc 34 1 33,Ox 35 1 30 34,Oc 36 1 35,Ow 37 (.bin .and (t 36) (.const (.int .u8 7))),Ow 38 (.toInt .i64 (t 37)),Oq 39 26,Ob 40 17 39,Gu 1 40 38] (Sr [Oa 41 0,Oa 42 0,Oq 43 42,Ob 44 0 43,Ob 45 5 44,Oc 46 1 45,Oa 47 0,Oq 48 47,Ob 49 17 48,Oc 50 1 49,Gp 51 .add 46 50,Cb 52 Wo 41 51,Oa 2 52]))))
theorem QhC:In1 prog YQ Tryz.f41 QbS:=jn1 Tryz.func41 (by kernel_rfl)
noncomputable abbrev Zp:Func:=Tryz.f42
theorem Wk:Rt prog Tryz.f42 H0 k A H=Ret H0 k (A 2) H:=Wb (by kernel_rfl)
def QaO:PC:=So [Oa 102 0,Oa 103 0,Od 104 10 6,Ob 105 9 6,⟨some 106,.ld false 1 (t 105),none,true⟩,Oq 107 102,Ob 108 18 107,⟨none,.stf 10 (t 108) (t 104) [t 105],none,true⟩,Oq 109 103,Ob 110 11 109,Gu 1 110 106] (Sr [Oi 2 0])
def Z7:PC:=So [Oa 80 0,Oq 81 80,Ob 82 10 81,Oc 83 1 82,Oa 84 0,Oq 85 84,Ob 86 11 85,Oc 87 1 86,Oa 88 0,Oq 89 88,Ob 90 14 89,Oc 91 1 90,Oa 92 0,Oq 93 92,Ob 94 15 93,Oc 95 1 94,Ow 96 (.call Qis [t 83,t 87,t 91,t 95]),Oa 79 96,Ot 97 79 0,Ot 98 79 1,Cd 6 QM Qfa,Gu 10 6 97,Oa 7 98] (.seq (So [Oa 99 7,Oe 100 .neq 99 0] (Sc 100 (Sr [Oa 101 7,Oa 2 101]) .skip)) QaO)
def Z8:PC:=.seq (So [Oa 61 4,Ow 62 (.bin .shr (t 61) (.const (.int .u64 6))),Oe 63 .eql 62 3,Oa 64 63,Oo 65 5 64 true,Og 66 (.call VU [t 65]) 64 true,Ge 67 .eql 66 0 64 true,Oj 68 64 67,Oa 69 68,Oo 70 4 69 false,Og 71 (.bin .shr (t 70) (.const (.int .u64 6))) 69 false,Ge 72 .neq 71 3 69 false,Oo 73 72 69 false,Oo 74 5 73 true,Og 75 (.call KA [t 74]) 73 true,Ge 76 .lss 75 0 73 true,Og 77 (.pick (t 73) (t 76) (.const (.bool false))) 69 false,Gk 78 69 77] (Sc 78 (Sr [Oi 2 4]) .skip)) Z7
def QaP:PC:=So [Oa 25 0,Oq 26 25,Ob 27 10 26,Oc 28 1 27,Oa 29 0,Oq 30 29,Ob 31 11 30,Oc 32 1 31,Ox 33 1 28 32,Oc 34 1 33,Ow 35 (.toInt .i64 (t 34)),Oa 36 0,Oq 37 36,Ob 38 0 37,Ob 39 1 38,Oc 40 1 39,Oa 41 3,Ox 42 1 40 41,Oc 43 1 42,Oa 4 35,Oa 5 43] (.seq (So [Oa 44 0,Oq 45 44,Ob 46 0 45,Ob 47 6 46,Oc 48 1 47,Oe 49 .geq 48 0,Oa 50 49,Oo 51 4 50 true,Og 52 (.bin .shr (t 51) (.const (.int .u64 3))) 50 true,Ge 53 .and 52 7 50 true,Oo 54 0 50 true,Og 55 (.gen (.nilCheck (t 54))) 50 true,Gb 56 0 55 50 true,Gb 57 6 56 50 true,Gc 58 1 57 50 true,Gf 59 .neq 53 58 50 true,Oj 60 50 59] (Sc 60 (Sr [Oi 2 4]) .skip)) Z8)
def QaQ:PC:=.seq (So [Oa 15 0,Oq 16 15,Ob 17 11 16,Oc 18 1 17,Oa 19 0,Oq 20 19,Ob 21 10 20,Oc 22 1 21,Ou 23 22,Gp 24 .geq 18 23] (Sc 24 (Sr [Oi 2 9]) .skip)) QaP
def QcL:PC:=So [Oi 2 0] (So [Oa 8 0,Oq 9 8,Ob 10 0 9,Od 11 10 10,Ow 12 (.call WM [t 11,(Ci 2)]),Oa 3 12] (.seq (So [Oa 13 3,Oe 14 .lss 13 0] (Sc 14 (Sr [Oi 2 0]) .skip)) QaQ))
theorem QiL:In1 prog Zj Tryz.f42 QcL:=jn1 Tryz.func42 (by kernel_rfl)
noncomputable abbrev Wd:Func:=Tryz.f43
theorem WX:Rt prog Tryz.f43 H0 k A H=ldR true 2 (A 2) H λv=>Ret H0 k (.tuple #[v,A 3,A 4]) H:=QnT (ty:=27) (by kernel_rfl) (by kernel_rfl) (by kernel_rfl)
def XE:PC:=So [Od 140 2 9,Ca 141 Qiu 140,Oa 139 141,Ot 142 139 0,Ot 143 139 1,Cd 12 Qd [.int .i64 0,.slice none 0 0],Gu 2 12 142,Oa 13 143] (.seq (So [Oa 144 13,Oe 145 .neq 144 0] (Sc 145 (Sr [Ow 146 (.build [.int .i64 0,.slice none 0 0] []),Gu 2 2 146,Oi 3 0,Oi 4 4]) .skip)) (Sr [Od 147 2 12,Oa 148 0,Oq 149 148,Ob 150 11 149,⟨some 151,.ld false 1 (t 150),none,true⟩,⟨none,.stf 2 (t 2) (t 147) [t 150],none,true⟩,Oa 3 151,Oi 4 0]))
def GJ:PC:=.seq (.block 1 (So [Oa 117 115,Ox 118 1 113 115,Oc 119 1 118,Oa 10 117,Oa 11 119] (.ops [Ob 120 1 9,⟨some 121,.ld false 1 (t 120),none,true⟩,Oa 122 0,Oa 123 11,Oa 124 0,Oq 125 124,Ob 126 0 125,Ob 127 2 126,Oc 128 1 127,Oa 129 10,Ox 130 1 128 129,Oc 131 1 130,Oa 132 7,Oa 133 6,⟨some 134,.callF Jt [t 122,t 123,t 131,t 132,t 133] [],none,true⟩,Ow 135 (.bslice Qe 11 1 Kz [(0,(t 134))]),Ow 136 (.app Qe 11 88 (t 121) (t 135)),Ob 137 1 9,Gu 1 137 136]))) (.ops [Oe 138 .add 115 1,Oa 115 138])
def YZ:PC:=So [Gp 116 .lss 115 114] (.seq (Sc 116 .skip (.exit 0)) GJ)
def WN:PC:=So [Oa 103 0,Oq 104 103,Ob 105 0 104,Ob 106 0 105,Oc 107 1 106,Ow 108 (.build [.int .i64 0,.slice none 0 0] [(0,1,(t 107))]),Cd 9 Qd [.int .i64 0,.slice none 0 0],Gu 2 9 108] (.seq (So [Oa 109 0,Oq 110 109,Ob 111 0 110,Ob 112 1 111,Oc 113 1 112,Ou 114 113,Oi 115 0] (.block 0 (.loop YZ))) XE)
def GL:PC:=So [Oa 84 0,Oq 85 84,Ob 86 10 85,Oc 87 1 86,Oa 88 0,Oq 89 88,Ob 90 11 89,Oc 91 1 90,Ox 92 1 87 91,Oc 93 1 92,Ow 94 (.bin .shr (t 93) (.const (.int .u64 4))),Ow 95 (.toInt .i64 (t 94)),Oa 6 95] (.ops [Oa 96 0,Oq 97 96,Ob 98 11 97,Oc 99 1 98,Oe 100 .add 99 1,Oq 101 96,Ob 102 11 101,Gu 1 102 100])
def GM:PC:=.seq (So [Oa 71 0,Oq 72 71,Ob 73 10 72,Oc 74 1 73,Oa 75 0,Oq 76 75,Ob 77 11 76,Oc 78 1 77,Ox 79 1 74 78,Oc 80 1 79,Ow 81 (.bin .and (t 80) (.const (.int .u8 15))),Ow 82 (.bin .neq (t 81) (.const (.int .u8 0)))] (Sc 82 (Sr [Ow 83 (.build [.int .i64 0,.slice none 0 0] []),Gu 2 2 83,Oi 3 0,Oi 4 4]) .skip)) GL
def Y0:PC:=.seq (So [Oa 60 0,Oq 61 60,Ob 62 11 61,Oc 63 1 62,Oa 64 0,Oq 65 64,Ob 66 10 65,Oc 67 1 66,Ou 68 67,Gp 69 .geq 63 68] (Sc 69 (Sr [Ow 70 (.build [.int .i64 0,.slice none 0 0] []),Gu 2 2 70,Oi 3 0,Oi 4 9]) .skip)) GM
def WO:PC:=.seq (So [Oa 54 0,Oq 55 54,Ob 56 0 55,Od 57 10 56,Ow 58 (.call WM [t 57,(Ci 7)]),Oe 59 .geq 58 0] (Sc 59 Y0 .skip)) WN
def Y1:PC:=So [Oi 8 0] (.seq (So [Oa 30 0,Oq 31 30,Ob 32 10 31,Oc 33 1 32,Oa 34 0,Oq 35 34,Ob 36 11 35,Oc 37 1 36,Oa 38 5,Ow 39 (.call QbK [(t 33),t 37,t 38,(.const (.bool true))]),Oa 29 39,Ot 40 29 0,Ot 41 29 1,Oa 7 40,Oa 8 41] (So [Oa 42 8,Oe 43 .neq 42 0] (Sc 43 (Sr [Ow 44 (.build [.int .i64 0,.slice none 0 0] []),Oa 45 8,Gu 2 2 44,Oi 3 0,Oa 4 45]) .skip))) (.ops [Oa 46 0,Oq 47 46,Ob 48 11 47,Oc 49 1 48,Oa 50 5,Gp 51 .add 49 50,Oq 52 46,Ob 53 11 52,Gu 1 53 51]))
def Xf:PC:=So [Oi 7 0] (.seq (So [Oa 27 5,Oe 28 .gtr 27 0] (Sc 28 Y1 .skip)) WO)
def V1:PC:=So [Cd 2 Qd [.int .i64 0,.slice none 0 0],Oi 3 0,Oi 4 0] (So [Oa 14 0,Oq 15 14,Ob 16 0 15,Od 17 10 16,Ca 18 Qit 17,Oa 5 18,Oi 6 0] (.seq (So [Oa 19 0,Oq 20 19,Ob 21 0 20,Od 22 10 21,Ow 23 (.call WM [t 22,(Ci 7)]),Oe 24 .geq 23 0] (Sc 24 (.ops [Oa 25 5,Oe 26 .sub 25 1,Oa 5 26]) .skip)) Xf))
theorem Qge:In1 prog Yj Tryz.f43 V1:=jn1 Tryz.func43 (by kernel_rfl)
noncomputable abbrev Y2:Func:=Tryz.f64
theorem QF:Rt prog Tryz.f64 H0 k A H=Ret H0 k (A 2) H:=Wb (by kernel_rfl)
def Zw:PC:=So [Ob 176 5 4,Oc 177 1 176,Oe 178 .neq 177 0,Oa 179 178,Oo 180 0 179 true,Og 181 (.gen (.nilCheck (t 180))) 179 true,Gb 182 0 181 179 true,Gd 183 10 182 179 true,Og 184 (.call WM [t 183,(Ci 3)]) 179 true,Ge 185 .lss 184 0 179 true,Oj 186 179 185,Oa 187 186,Oo 188 0 187 false,Og 189 (.call Xo [t 188]) 187 false,Og 190 (.not (t 189)) 187 false,Gk 191 187 190,Oa 175 191] (Sc 175 (Sr [Oi 2 4]) .skip)
def V2:PC:=So [Oa 104 0,Oa 105 0,Oa 106 0,Oa 107 0,Oa 108 0,Ob 109 0 4,Oc 110 1 109,Ob 111 1 4,⟨some 112,.ld false 1 (t 111),none,true⟩,Ob 113 2 4,⟨some 114,.ld false 1 (t 113),none,true⟩,Ob 115 5 4,⟨some 116,.ld false 1 (t 115),none,true⟩,Oa 117 5,Oq 118 104,Ob 119 13 118,⟨none,.stf 1 (t 119) (t 110) [t 111,t 113,t 115],none,true⟩,Oq 120 105,Ob 121 14 120,⟨none,.stf 1 (t 121) (t 112) [t 113,t 115],none,true⟩,Oq 122 106,Ob 123 15 122,⟨none,.stf 1 (t 123) (t 114) [t 115],none,true⟩,Oq 124 107,Ob 125 16 124,Gu 1 125 116,Oq 126 108,Ob 127 11 126,Gu 1 127 117] (.seq (.block 1 (So [Ob 129 3 4,Oc 130 1 129,Oa 131 0,Oq 132 131,Ob 133 0 132,Ob 134 4 133,Oc 135 1 134,Gp 136 .neq 130 135,Oa 137 136,Oo 138 0 137 false,Og 139 (.gen (.nilCheck (t 138))) 137 false,Gb 140 0 139 137 false,Gb 141 7 140 137 false,Gc 142 1 141 137 false,Ge 143 .neq 142 (-1) 137 false,Oo 144 143 137 false,Gb 145 4 4 144 true,Gc 146 1 145 144 true,Oo 147 0 144 true,Og 148 (.gen (.nilCheck (t 147))) 144 true,Gb 149 0 148 144 true,Gb 150 7 149 144 true,Gc 151 1 150 144 true,Gf 152 .neq 146 151 144 true,Og 153 (.pick (t 144) (t 152) (.const (.bool false))) 137 false,Gk 154 137 153,Oa 155 154,Gb 156 6 4 155 false,Gc 157 1 156 155 false,Oo 158 0 155 false,Og 159 (.gen (.nilCheck (t 158))) 155 false,Gb 160 0 159 155 false,Gb 161 9 160 155 false,Gc 162 1 161 155 false,Gf 163 .neq 157 162 155 false,Gk 164 155 163,Oa 165 164,Gb 166 7 4 165 false,Gc 167 1 166 165 false,Oo 168 0 165 false,Og 169 (.gen (.nilCheck (t 168))) 165 false,Gb 170 0 169 165 false,Gb 171 3 170 165 false,Gc 172 1 171 165 false,Gf 173 .neq 167 172 165 false,Gk 174 165 173,Oa 128 174] (Sc 128 (Sr [Oi 2 4]) Zw))) (Sr [Oi 2 0]))
def Zx:PC:=So [Oa 93 0,Oq 94 93,Ob 95 10 94,Oc 96 1 95,Ca 97 Qmr 96,Oa 92 97,Ot 98 92 0,Ot 99 92 1,Ot 100 92 2,Cd 4 QbL Ze8,Gu 8 4 98,Oa 5 99,Oa 6 100] (.seq (So [Oa 101 6,Oe 102 .neq 101 0] (Sc 102 (Sr [Oa 103 6,Oa 2 103]) .skip)) V2)
def V3:PC:=So [Oa 51 0,Oq 52 51,Ob 53 10 52,Oc 54 1 53,Oy 55 1 54 1,Oc 56 1 55,Ow 57 (.toInt .i64 (t 56)),Oa 3 57] (So [Oa 58 0,Oa 59 0,Oa 60 0,Oa 61 3,Ow 62 (.bin .shr (t 61) (.const (.int .u64 7))),Oe 63 .and 62 1,Oe 64 .xor 63 1,Oa 65 3,Ow 66 (.bin .shr (t 65) (.const (.int .u64 6))),Oe 67 .and 66 1,Oe 68 .xor 67 1,Oa 69 3,Ow 70 (.bin .shr (t 69) (.const (.int .u64 5))),Oe 71 .and 70 1,Oe 72 .xor 71 1,Oq 73 58,Ob 74 13 73,Gu 1 74 64,Oq 75 59,Ob 76 14 75,Gu 1 76 68,Oq 77 60,Ob 78 15 77,Gu 1 78 72] (So [Oa 79 3,Oe 80 .and 79 31,Oa 81 0,Oq 82 81,Ob 83 0 82,Ob 84 4 83,Oc 85 1 84,Gp 86 .neq 80 85,Oa 87 86,Oo 88 0 87 false,Og 89 (.call Xo [t 88]) 87 false,Og 90 (.not (t 89)) 87 false,Gk 91 87 90] (Sc 91 (Sr [Oi 2 4]) .skip)))
def V4:PC:=.seq (So [Oa 45 0,Oq 46 45,Ob 47 10 46,Oc 48 1 47,Ou 49 48,Oe 50 .lss 49 2] (Sc 50 (Sr [Oi 2 9]) .skip)) V3
def Zy:PC:=So [Oa 38 0,Oq 39 38,Ob 40 10 39,Oc 41 1 40,Oy 42 1 41 0,Oc 43 1 42,Ow 44 (.bin .eql (t 43) (.const (.int .u8 196))),Oa 37 44] (Sc 37 V4 (Sr [Oi 2 4]))
def V5:PC:=.seq (.block 0 (So [Oa 14 0,Oq 15 14,Ob 16 10 15,Oc 17 1 16,Oy 18 1 17 0,Oc 19 1 18,Ow 20 (.bin .eql (t 19) (.const (.int .u8 197))),Oa 21 20,Oo 22 0 21 true,Og 23 (.gen (.nilCheck (t 22))) 21 true,Gb 24 0 23 21 true,Gb 25 4 24 21 true,Gc 26 1 25 21 true,Ge 27 .eql 26 1 21 true,Oj 28 21 27,Oa 29 28,Oo 30 0 29 true,Og 31 (.gen (.nilCheck (t 30))) 29 true,Gb 32 0 31 29 true,Gb 33 7 32 29 true,Gc 34 1 33 29 true,Ge 35 .neq 34 1 29 true,Oj 36 29 35,Oa 13 36] (Sc 13 .skip Zy))) Zx
def QbT:PC:=So [Oi 2 0] (.seq (So [Oa 7 0,Oq 8 7,Ob 9 10 8,Oc 10 1 9,Ou 11 10,Oe 12 .eql 11 0] (Sc 12 (Sr [Oi 2 9]) .skip)) V5)
theorem QhD:In1 prog Ke Tryz.f64 QbT:=jn1 Tryz.func64 (by kernel_rfl)
noncomputable abbrev Y3:Func:=Tryz.f65
theorem Yp:Rt prog Tryz.f65 H0 k A H=Ret H0 k (A 2) H:=Wb (by kernel_rfl)
def V6:PC:=.block 3 (So [Ot 54 52 2,Oa 9 54] (So [Oa 55 0,Oa 56 9,Ow 57 (.toInt .i64 (t 56)),Cb 58 Wo 55 57,Oa 10 58] (So [Oa 59 10,Oe 60 .neq 59 0] (Sc 60 (Sr [Oa 61 10,Oa 2 61]) .skip))))
def V7:PC:=So [Ow 52 (.gen (.next (t 51) true)),Ot 53 52 0] (.seq (Sc 53 .skip (.exit 2)) V6)
def V8:PC:=.seq (So [Oa 45 0,Oq 46 45,Ob 47 0 46,Ob 48 4 47,Oc 49 1 48,Ca 50 KB 49,Ow 51 (.gen (.range 9 (t 50)))] (.block 2 (.loop V7))) (Sr [Oi 2 0])
def Zz:PC:=.seq (So [Oa 40 0,Ca 41 X0 40,Oa 7 41] (So [Oa 42 7,Oe 43 .neq 42 0] (Sc 43 (Sr [Oa 44 7,Oa 2 44]) .skip))) V8
def V9:PC:=.seq (So [Oa 28 0,Ow 29 (.gen (.indexAddr 133 (t 5) (Ci 1))),Oc 30 1 29,Cb 31 Wo 28 30,Oa 6 31] (So [Oa 32 6,Oe 33 .neq 32 0] (Sc 33 (Sr [Oa 34 6,Oa 2 34]) .skip))) (So [Oa 35 3,Ow 36 (.gen (.indexAddr 133 (t 5) (Ci 0))),Oc 37 1 36,Gp 38 .andNot 35 37,Oa 3 38] (.goto 0))
def Qaa:PC:=.seq (.block 1 (So [Ow 22 (.gen (.index 134 (t 19) (t 20))),Cd 5 133 Ze2,Gu 2 5 22] (.seq (So [Oa 23 3,Ow 24 (.gen (.indexAddr 133 (t 5) (Ci 0))),Oc 25 1 24,Gp 26 .and 23 25,Oe 27 .eql 26 0] (Sc 27 (.exit 1) .skip)) V9))) (.ops [Oe 39 .add 20 1,Oa 20 39])
def Qab:PC:=So [Oe 21 .lss 20 3] (.seq (Sc 21 .skip (.exit 0)) Qaa)
def X1:PC:=.seq (So [Ow 16 (.gen (.build 133 #[(0,(Ci 1)),(1,(Ci 102))])),Ow 17 (.gen (.build 133 #[(0,(Ci 2)),(1,(Ci 242))])),Ow 18 (.gen (.build 133 #[(0,(Ci 4)),(1,(Ci 243))])),Ow 19 (.gen (.build 134 #[(0,(t 16)),(1,(t 17)),(2,(t 18))])),Oi 20 0] (.block 0 (.loop Qab))) Zz
def Qgf:PC:=.block 3 (So [Ot 54 52 2,Oa 9 54] (So [Oa 55 0,Oa 56 9,Ow 57 (.toInt .i64 (t 56)),Cb 58 Wo 55 57,Oa 10 58] (So [Oa 59 10,Oe 60 .neq 59 0] (Sc 60 (Sr [Oa 61 10,Oa 2 61]) .skip))))
def QfA:PC:=So [Ow 52 (.gen (.next (t 51) true)),Ot 53 52 0] (.seq (Sc 53 .skip (.exit 2)) Qgf)
def QfB:PC:=.seq (So [Oa 45 0,Oq 46 45,Ob 47 0 46,Ob 48 4 47,Oc 49 1 48,Ca 50 KB 49,Ow 51 (.gen (.range 9 (t 50)))] (.block 2 (.loop QfA))) (Sr [Oi 2 0])
def QfC:PC:=.seq (So [Oa 40 0,Ca 41 X0 40,Oa 7 41] (So [Oa 42 7,Oe 43 .neq 42 0] (Sc 43 (Sr [Oa 44 7,Oa 2 44]) .skip))) QfB
def QfD:PC:=.seq (So [Oa 28 0,Ow 29 (.gen (.indexAddr 133 (t 5) (Ci 1))),Oc 30 1 29,Cb 31 Wo 28 30,Oa 6 31] (So [Oa 32 6,Oe 33 .neq 32 0] (Sc 33 (Sr [Oa 34 6,Oa 2 34]) .skip))) (So [Oa 35 3,Ow 36 (.gen (.indexAddr 133 (t 5) (Ci 0))),Oc 37 1 36,Gp 38 .andNot 35 37,Oa 3 38] (.goto 0))
def QfE:PC:=.seq (.block 1 (So [Ow 22 (.gen (.index 134 (t 19) (t 20))),Cd 5 133 Ze2,Gu 2 5 22] (.seq (So [Oa 23 3,Ow 24 (.gen (.indexAddr 133 (t 5) (Ci 0))),Oc 25 1 24,Gp 26 .and 23 25,Oe 27 .eql 26 0] (Sc 27 (.exit 1) .skip)) QfD))) (.ops [Oe 39 .add 20 1,Oa 20 39])
def QfF:PC:=So [Oe 21 .lss 20 3] (.seq (Sc 21 .skip (.exit 0)) QfE)
def Vj:PC:=.seq (So [Ow 16 (.gen (.build 133 #[(0,(Ci 1)),(1,(Ci 102))])),Ow 17 (.gen (.build 133 #[(0,(Ci 2)),(1,(Ci 242))])),Ow 18 (.gen (.build 133 #[(0,(Ci 4)),(1,(Ci 243))])),Ow 19 (.gen (.build 134 #[(0,(t 16)),(1,(t 17)),(2,(t 18))])),Oi 20 0] (.block 0 (.loop QfF))) QfC
def Vk:PC:=So [Oa 11 0,Oq 12 11,Ob 13 0 12,Ob 14 3 13,Oc 15 1 14,Oa 3 15] (.seq (.label 0) Vj)
def QbU:PC:=So [Oi 2 0] (.scope Vk 0 X1)
theorem QhE:In1 prog Kf Tryz.f65 QbU:=jn1 Tryz.func65 (by kernel_rfl)
theorem Z9:Rt prog Tryz.f67 H0 k A H=Ret H0 k (A 4) H:=Wb (by kernel_rfl)
def QbV:PC:=So [Oi 4 0] (.seq (So [Oa 5 0,Oq 6 5,Ob 7 11 6,Oc 8 1 7,Oa 9 0,Oq 10 9,Ob 11 10 10,Oc 12 1 11,Ou 13 12,Gp 14 .geq 8 13] (Sc 14 (Sr [Oi 4 9]) .skip)) (.seq (So [Oa 15 0,Oq 16 15,Ob 17 10 16,Oc 18 1 17,Oa 19 0,Oq 20 19,Ob 21 11 20,Oc 22 1 21,Ox 23 1 18 22,Oc 24 1 23,Ow 25 (.toInt .i64 (t 24)),Oa 26 1,Gp 27 .neq 25 26] (Sc 27 (Sr [Oi 4 4]) .skip)) (So [Oa 28 0,Oq 29 28,Ob 30 11 29,Oc 31 1 30,Oe 32 .add 31 1,Oq 33 28,Ob 34 11 33,Gu 1 34 32] (Sr [Oi 4 0]))))
theorem QhF:In2 prog Wo Tryz.f67 QbV:=jn2 Tryz.func67 (by kernel_rfl)
theorem QfG:Rt prog Tryz.f68 H0 k A H=Ret H0 k (A 2) H:=Wb (by kernel_rfl)
def QeM:PC:=.seq (So [Oe 22 .eql 3 6,Oa 21 22] (Sc 21 .skip (.ops [Oe 23 .eql 3 14,Oa 21 23]))) (Sc 21 (Sr [Oi 2 7]) .skip)
def QeN:PC:=Sc 16 (Sr [Oi 2 6]) QeM
def QeO:PC:=So [Oe 18 .eql 3 11,Oa 16 18] (Sc 16 .skip (So [Oe 19 .eql 3 12,Oa 16 19] (Sc 16 .skip (.ops [Oe 20 .eql 3 13,Oa 16 20]))))
def QeP:PC:=.seq (So [Oe 17 .eql 3 5,Oa 16 17] (Sc 16 .skip QeO)) QeN
def QeQ:PC:=Sc 13 (Sr [Oi 2 5]) QeP
def QeR:PC:=.seq (So [Oe 14 .eql 3 4,Oa 13 14] (Sc 13 .skip (.ops [Oe 15 .eql 3 10,Oa 13 15]))) QeQ
def QeS:PC:=Sc 10 (Sr [Oi 2 4]) QeR
def QeT:PC:=.seq (So [Oe 11 .eql 3 3,Oa 10 11] (Sc 10 .skip (.ops [Oe 12 .eql 3 9,Oa 10 12]))) QeS
def QeU:PC:=Sc 7 (Sr [Oi 2 3]) QeT
def Qd0:PC:=.seq (So [Oe 8 .eql 3 2,Oa 7 8] (Sc 7 .skip (.ops [Oe 9 .eql 3 8,Oa 7 9]))) QeU
def Qd1:PC:=Sc 4 (Sr [Oi 2 1]) Qd0
def QgF:PC:=So [Oi 2 0] (.seq (So [Oa 3 0] (.block 0 (.seq (So [Oe 5 .eql 3 1,Oa 4 5] (Sc 4 .skip (.ops [Oe 6 .eql 3 7,Oa 4 6]))) Qd1))) (Sr [Oi 2 0]))
theorem Qm6:In1 prog VU Tryz.f68 QgF:=jn1 Tryz.func68 (by kernel_rfl)
theorem QgG:Rt prog Tryz.f69 H0 k A H=Ret H0 k (A 2) H:=Wb (by kernel_rfl)
def QfH:PC:=.seq (So [Oe 23 .eql 3 14,Oa 22 23] (Sc 22 .skip (.ops [Oe 24 .eql 3 19,Oa 22 24]))) (Sc 22 (Sr [Oi 2 32]) .skip)
def QfI:PC:=Sc 19 (Sr [Oi 2 16]) QfH
def QfJ:PC:=.seq (So [Oe 20 .eql 3 13,Oa 19 20] (Sc 19 .skip (.ops [Oe 21 .eql 3 18,Oa 19 21]))) QfI
def QfK:PC:=Sc 15 (Sr [Oi 2 8]) QfJ
def QfL:PC:=.seq (So [Oe 16 .eql 3 10,Oa 15 16] (Sc 15 .skip (So [Oe 17 .eql 3 12,Oa 15 17] (Sc 15 .skip (.ops [Oe 18 .eql 3 17,Oa 15 18]))))) QfK
def QfM:PC:=Sc 11 (Sr [Oi 2 4]) QfL
def QfN:PC:=.seq (So [Oe 12 .eql 3 9,Oa 11 12] (Sc 11 .skip (So [Oe 13 .eql 3 11,Oa 11 13] (Sc 11 .skip (.ops [Oe 14 .eql 3 16,Oa 11 14]))))) QfM
def QfO:PC:=Sc 8 (Sr [Oi 2 2]) QfN
def QfP:PC:=.seq (So [Oe 9 .eql 3 8,Oa 8 9] (Sc 8 .skip (.ops [Oe 10 .eql 3 34,Oa 8 10]))) QfO
def QeV:PC:=So [Oe 7 .eql 3 7,Oa 6 7] (Sc 6 (Sr [Oi 2 1]) QfP)
def QhG:PC:=So [Oi 2 0] (.seq (So [Oa 3 0] (.block 0 (So [Oe 5 .eql 3 15,Oa 4 5] (Sc 4 (Sr [Oi 2 0]) QeV)))) (Sr [Oi 2 (-1)]))
theorem QnZ:In1 prog KA Tryz.f69 QhG:=jn1 Tryz.func69 (by kernel_rfl)
noncomputable abbrev Qtf:Func:=Tryz.f70
theorem WY:Rt prog Tryz.f70 H0 k A H=ldR true 10 (A 8) H λv=>Ret H0 k (.tuple #[v,A 9]) H:=Qkr (ty:=70) (by kernel_rfl) (by kernel_rfl) (by kernel_rfl)
def KF:PC:=.seq (So [Od 150 7 15,Ca 151 QgC 150,Oa 149 151,Ot 152 149 0,Ot 153 149 1,Gu 7 15 152,Oa 11 153] (So [Oa 154 11,Oe 155 .neq 154 0] (Sc 155 (Sr [Ow 156 (.build Qfa []),Gu 10 8 156,Oi 9 4]) .skip))) (Sr [Oa 157 13,Od 158 7 15,Oa 159 1,Ow 160 (.build Qfa [(0,1,(t 157)),(1,1,(Ci (-1))),(2,7,(t 158)),(9,1,(t 159))]),Gu 10 8 160,Oi 9 0])
def Qep:PC:=.seq (So [Oa 135 0,Oa 136 1,Oa 137 18,Ow 138 (.call QbK [(t 135),t 136,t 137,(.const (.bool true))]),Oa 134 138,Ot 139 134 0,Ot 140 134 1,Ob 141 5 15,Gu 1 141 139,Oa 11 140] (So [Oa 142 11,Oe 143 .neq 142 0] (Sc 143 (Sr [Ow 144 (.build Qfa []),Oa 145 11,Gu 10 8 144,Oa 9 145]) .skip))) (.ops [Oa 146 1,Oa 147 18,Gp 148 .add 146 147,Oa 1 148])
def KG:PC:=.seq (So [Oa 129 12,Od 130 7 15,Cb 131 QdO 129 130,Oa 18 131] (So [Oa 132 18,Oe 133 .neq 132 0] (Sc 133 Qep .skip))) KF
def Qji:PC:=So [Oa 103 1,Oe 104 .add 103 1,Oa 1 104] (So [Oa 106 16,Oa 107 12,Oa 108 2,Oa 109 3,Ow 110 (.call QdC [t 106,t 107,t 108,t 109]),Oa 105 110,Ot 111 105 0,Ot 112 105 1,Gu 7 15 111,Oa 17 112] (So [Oa 113 17,Oe 114 .neq 113 0] (Sc 114 (Sr [Ow 115 (.build Qfa []),Oa 116 17,Gu 10 8 115,Oa 9 116]) .skip)))
def Qeq:PC:=So [Oa 94 0,Oa 95 1,Ow 96 (.call QbK [(t 94),t 95,(Ci 1),(.const (.bool false))]),Oa 93 96,Ot 97 93 0,Ot 98 93 1,Oa 16 97,Oa 17 98] (.seq (So [Oa 99 17,Oe 100 .neq 99 0] (Sc 100 (Sr [Ow 101 (.build Qfa []),Oa 102 17,Gu 10 8 101,Oa 9 102]) .skip)) Qji)
def Qjj:PC:=.seq (So [Oa 124 3,Oe 125 .eql 124 1] (Sc 125 (Sr [Ow 126 (.build Qfa []),Gu 10 8 126,Oi 9 4]) .skip)) (.ops [Ow 127 (.build Ze2 [(0,1,(Ci 8))]),Ob 128 0 15,Gu 2 128 127])
def Qjk:PC:=So [Oa 118 12,Oe 119 .eql 118 0,Oa 120 119,Oo 121 14 120 true,Ge 122 .eql 121 5 120 true,Oj 123 120 122,Oa 117 123] (Sc 117 Qjj (.ops [Oa 74 3,Ow 75 (.bin .mul (Ci 8) (t 74)),Oa 76 14,Gp 77 .add 75 76,Ow 78 (.build Ze2 [(0,1,(Ci 5)),(1,1,(t 77))]),Ob 79 0 15,Gu 2 79 78]))
def Qer:PC:=So [Oa 91 14,Oe 92 .eql 91 4,Oa 90 92] (Sc 90 Qeq Qjk)
def Qes:PC:=So [Ow 73 (.build Ze7 []),Cd 15 Qq Ze7,Gu 7 15 73] (.seq (.block 0 (So [Oa 81 12,Oe 82 .eql 81 3,Oa 80 82] (Sc 80 (Sr [Oa 83 13,Oa 84 3,Ow 85 (.bin .mul (Ci 8) (t 84)),Oa 86 14,Gp 87 .add 85 86,Oa 88 1,Ow 89 (.build Qfa [(0,1,(t 83)),(1,1,(t 87)),(9,1,(t 88))]),Gu 10 8 89,Oi 9 0]) Qer))) KG)
def QdD:PC:=So [Oa 54 1,Oe 55 .add 54 1,Oa 1 55] (So [Oa 57 10,Ca 58 QdN 57,Oa 56 58,Ot 59 56 0,Ot 60 56 1,Ot 61 56 2,Oa 12 59,Oa 13 60,Oa 14 61] (.seq (So [Oa 62 2,Oe 63 .eql 62 1,Oa 64 63,Oo 65 12 64 true,Ge 66 .eql 65 3 64 true,Oo 67 66 64 true,Oo 68 14 67 false,Ge 69 .neq 68 4 67 false,Og 70 (.pick (t 67) (.const (.bool true)) (t 69)) 64 true,Oj 71 64 70] (Sc 71 (Sr [Ow 72 (.build Qfa []),Gu 10 8 72,Oi 9 4]) .skip)) Qes))
def QdE:PC:=So [Oa 45 0,Oa 46 1,Ow 47 (.call QbK [(t 45),t 46,(Ci 1),(.const (.bool false))]),Oa 44 47,Ot 48 44 0,Ot 49 44 1,Oa 10 48,Oa 11 49] (.seq (So [Oa 50 11,Oe 51 .neq 50 0] (Sc 51 (Sr [Ow 52 (.build Qfa []),Oa 53 11,Gu 10 8 52,Oa 9 53]) .skip)) QdD)
def QlI:PC:=So [Cd 8 QM Qfa,Oi 9 0] (.seq (So [Oa 19 1,Oe 20 .lss 19 0,Oa 21 20,Oo 22 1 21 false,Oo 23 0 21 false,Og 24 (.lenS (t 23)) 21 false,Gf 25 .gtr 22 24 21 false,Gk 26 21 25,Oa 27 26,Oo 28 2 27 false,Ge 29 .lss 28 0 27 false,Gk 30 27 29,Oa 31 30,Oo 32 2 31 false,Ge 33 .gtr 32 1 31 false,Gk 34 31 33,Oa 35 34,Oo 36 3 35 false,Ge 37 .lss 36 0 35 false,Gk 38 35 37,Oa 39 38,Oo 40 3 39 false,Ge 41 .gtr 40 1 39 false,Gk 42 39 41] (Sc 42 (Sr [Ow 43 (.build Qfa []),Gu 10 8 43,Oi 9 5]) .skip)) QdE)
theorem QrL:In4 prog Qis Tryz.f70 QlI:=jn4 Tryz.func70 (by kernel_rfl)
noncomputable abbrev Qm7:Func:=Tryz.f71
theorem QkD:Rt prog Tryz.f71 H0 k A H=Ret H0 k (A 2) H:=Wb (by kernel_rfl)
def Qet:PC:=.seq (So [Od 33 10 1,Ow 34 (.call WM [t 33,(Ci 7)]),Oe 35 .geq 34 0] (Sc 35 (.ops [Oa 36 3,Oe 37 .add 36 1,Oa 3 37]) .skip)) (Sr [Oa 38 3,Oa 2 38])
def Qjl:PC:=Sc 27 (.ops [Oi 3 4]) (So [Oe 32 .eql 20 25,Oa 31 32] (Sc 31 (.ops [Oi 3 8]) .skip))
def Qjm:PC:=.seq (So [Oe 28 .eql 20 23,Oa 27 28] (Sc 27 .skip (So [Oe 29 .eql 20 24,Oa 27 29] (Sc 27 .skip (.ops [Oe 30 .eql 20 27,Oa 27 30]))))) Qjl
def Qjn:PC:=So [Oe 26 .eql 20 22,Oa 25 26] (Sc 25 (.ops [Oi 3 2]) Qjm)
def Qjo:PC:=Sc 21 (.ops [Oi 3 1]) Qjn
def Qjp:PC:=So [Ob 16 1 1,Oc 17 1 16,Oa 18 4,Ox 19 1 17 18,Oc 20 1 19] (.block 0 (.seq (So [Oe 22 .eql 20 20,Oa 21 22] (Sc 21 .skip (So [Oe 23 .eql 20 21,Oa 21 23] (Sc 21 .skip (.ops [Oe 24 .eql 20 26,Oa 21 24]))))) Qjo))
def QlJ:PC:=So [Gr 1 Qc 0,Oi 2 0] (So [Oi 3 0] (.seq (So [Od 5 10 1,Ow 6 (.call WM [t 5,(Ci 5)]),Oa 4 6] (So [Oa 7 4,Oe 8 .geq 7 0,Oa 9 8,Oo 10 4 9 true,Gb 11 1 1 9 true,Gc 12 1 11 9 true,Og 13 (.lenS (t 12)) 9 true,Gf 14 .lss 10 13 9 true,Oj 15 9 14] (Sc 15 Qjp .skip))) Qet))
theorem QrM:In1 prog Qit Tryz.f71 QlJ:=jn1 Tryz.func71 (by kernel_rfl)
theorem Gg:Rt prog Tryz.f72 H0 k A H=Ret H0 k (.tuple #[A 8,A 9]) H:=Qtd (by kernel_rfl)
def QkE:PC:=.seq (So [Oa 46 3] (Sc 46 (Sr [Oa 47 10,Ow 48 (.toInt .i64 (t 47)),Oa 49 2,Ow 50 (.bin .mul (Ci 8) (t 49)),Cb 51 Qix 48 50,Oa 8 51,Oi 9 0]) .skip)) (Sr [Oa 52 10,Ow 53 (.toInt .i64 (t 52)),Oa 8 53,Oi 9 0])
def QkF:PC:=.seq (.block 1 (So [Oa 32 30,Oa 11 32] (.ops [Oa 33 10,Oa 34 0,Oa 35 1,Oa 36 11,Gp 37 .add 35 36,Ox 38 1 34 37,Oc 39 1 38,Ow 40 (.toInt .u64 (t 39)),Oa 41 11,Ow 42 (.bin .mul (Ci 8) (t 41)),Gp 43 .shl 40 42,Gp 44 .or 33 43,Oa 10 44]))) (.ops [Oe 45 .add 30 1,Oa 30 45])
def QkG:PC:=So [Gp 31 .lss 30 29] (.seq (Sc 31 .skip (.exit 0)) QkF)
def QkH:PC:=So [Om 10 (.const (.int .u64 0))] (.seq (So [Oa 29 2,Oi 30 0] (.block 0 (.loop QkG))) QkE)
def QkI:PC:=.seq (So [Oa 23 0,Ou 24 23,Oa 25 1,Gp 26 .sub 24 25,Oa 27 2,Gp 28 .lss 26 27] (Sc 28 (Sr [Oi 8 0,Oi 9 9]) .skip)) QkH
def QkJ:PC:=.seq (So [Oa 15 1,Oe 16 .lss 15 0,Oa 17 16,Oo 18 1 17 false,Oo 19 0 17 false,Og 20 (.lenS (t 19)) 17 false,Gf 21 .gtr 18 20 17 false,Gk 22 17 21] (Sc 22 (Sr [Oi 8 0,Oi 9 5]) .skip)) QkI
def Qm8:PC:=So [Oi 8 0,Oi 9 0] (.seq (So [Oa 12 2,Ca 13 QgV 12,Oh 14 13] (Sc 14 (Sr [Oi 8 0,Oi 9 2]) .skip)) QkJ)
theorem Qtg:In4 prog QbK Tryz.f72 Qm8:=jn4 Tryz.func72 (by kernel_rfl)
theorem QW:Rt prog Tryz.f73 H0 k A H=ldR true 11 (A 10) H λv=>Ret H0 k v H:=QrH (ty:=47) (by kernel_rfl) (by kernel_rfl) (by kernel_rfl)
def Vl:PC:=.seq (So [Oa 89 1,Oe 90 .eql 89 26,Oa 91 90,Oo 92 1 91 false,Ge 93 .eql 92 27 91 false,Gk 94 91 93] (Sc 94 (Sr [Oa 95 3,Ow 96 (.build Kz [(0,1,(Ci 4)),(10,1,(t 95))]),Gu 11 10 96]) .skip)) (Sr [Oa 97 3,Ow 98 (.build Kz [(0,1,(Ci 3)),(10,1,(t 97))]),Gu 11 10 98])
def Vm:PC:=Sr [Oa 15 0,Oa 16 1,Oa 17 0,Oq 18 17,Ob 19 13 18,Oc 20 1 19,Ow 21 (.bin .mul (Ci 8) (t 20)),Oa 22 0,Oq 23 22,Ob 24 18 23,Ob 25 0 24,Oc 26 1 25,Gp 27 .add 21 26,Cc 28 Wq 15 16 27,Gu 11 10 28]
def Vn:PC:=Sr [Oa 40 0,Oa 41 1,Oa 42 0,Oq 43 42,Ob 44 15 43,Oc 45 1 44,Ow 46 (.bin .mul (Ci 8) (t 45)),Oa 47 0,Oq 48 47,Ob 49 17 48,Oc 50 1 49,Gp 51 .add 46 50,Cc 52 Wq 40 41 51,Gu 11 10 52]
def Vo:PC:=So [Oa 79 0,Oq 80 79,Ob 81 18 80,Ob 82 2 81,Od 83 7 82,Cd 11 Qq Ze7,Gu 7 11 83] (So [Oa 84 1,Ca 85 KA 84,Ob 86 6 11,Gu 1 86 85] (Sr [Od 87 7 11,Ow 88 (.build Kz [(0,1,(Ci 2)),(3,7,(t 87))]),Gu 11 10 88]))
def Vp:PC:=.seq (So [Oa 65 0,Oq 66 65,Ob 67 18 66,Ob 68 1 67,Oc 69 1 68,Oe 70 .geq 69 0] (Sc 70 (Sr [Oa 71 0,Oa 72 1,Oa 73 0,Oq 74 73,Ob 75 18 74,Ob 76 1 75,Oc 77 1 76,Cc 78 Wq 71 72 77,Gu 11 10 78]) .skip)) Vo
def Vq:PC:=So [Oe 64 .eql 12 2,Oa 63 64] (Sc 63 Vp .skip)
def Vr:PC:=So [Oe 60 .eql 12 6,Oa 59 60] (Sc 59 (Sr [Oa 61 1,Ca 62 Qfy 61,Gu 11 10 62]) Vq)
def Vs:PC:=So [Oe 54 .eql 12 7,Oa 53 54] (Sc 53 (Sr [Oa 55 0,Oa 56 1,Oa 57 4,Cc 58 Wq 55 56 57,Gu 11 10 58]) Vr)
def Vt:PC:=So [Oe 39 .eql 12 4,Oa 38 39] (Sc 38 Vn Vs)
def GN:PC:=So [Oe 30 .eql 12 3,Oa 29 30] (Sc 29 (Sr [Oa 31 0,Oa 32 1,Oa 33 0,Oq 34 33,Ob 35 16 34,Oc 36 1 35,Cc 37 Wq 31 32 36,Gu 11 10 37]) Vt)
def QaR:PC:=So [Cd 10 Qe Kz] (.seq (So [Oa 12 2] (.block 0 (So [Oe 14 .eql 12 1,Oa 13 14] (Sc 13 Vm GN)))) Vl)
theorem QgX:In5 prog Jt Tryz.f73 QaR:=jn5 Tryz.func73 (by kernel_rfl)
theorem Qy:Rt prog Tryz.f140 H0 k A H=Ret H0 k (A 2) H:=Wb (by kernel_rfl)
def Qv:PC:=Sr [Oa 43 0,Oq 44 43,Ob 45 15 44,Oc 46 1 45,Oe 47 .eql 46 0,Oa 48 47,Oo 49 3 48 false,Ge 50 .geq 49 0 48 false,Gk 51 48 50,Oa 52 51,Oo 53 0 52 false,Og 54 (.gen (.nilCheck (t 53))) 52 false,Gb 55 0 54 52 false,Gd 56 10 55 52 false,Og 57 (.call WM [t 56,(Ci 4)]) 52 false,Ge 58 .geq 57 0 52 false,Gk 59 52 58,Oa 2 59]
def Qw:PC:=.seq (So [Oa 22 0,Oq 23 22,Ob 24 14 23,Oc 25 1 24,Oe 26 .eql 25 1,Oa 27 26,Oo 28 3 27 true,Ge 29 .lss 28 0 27 true,Oo 30 29 27 true,Oo 31 0 30 false,Og 32 (.gen (.nilCheck (t 31))) 30 false,Gb 33 0 32 30 false,Gb 34 1 33 30 false,Gc 35 1 34 30 false,Oo 36 3 30 false,Gy 37 1 35 36 30 false,Gc 38 1 37 30 false,Og 39 (.call KA [t 38]) 30 false,Ge 40 .lss 39 0 30 false,Og 41 (.pick (t 30) (.const (.bool true)) (t 40)) 27 true,Oj 42 27 41] (Sc 42 (Sr [Ol 2 false]) .skip)) Qv
def Ja:PC:=So [Ol 2 false] (So [Oa 4 0,Oq 5 4,Ob 6 0 5,Od 7 10 6,Ow 8 (.call WM [t 7,(Ci 2)]),Oa 3 8] (.seq (So [Oa 9 0,Oq 10 9,Ob 11 13 10,Oc 12 1 11,Oe 13 .eql 12 1,Oa 14 13,Oo 15 0 14 true,Og 16 (.gen (.nilCheck (t 15))) 14 true,Gb 17 0 16 14 true,Gd 18 10 17 14 true,Og 19 (.call WM [t 18,(Ci 1)]) 14 true,Ge 20 .lss 19 0 14 true,Oj 21 14 20] (Sc 21 (Sr [Ol 2 false]) .skip)) Qw))
theorem QgY:In1 prog Xo Tryz.f140 Ja:=jn1 Tryz.func140 (by kernel_rfl)
noncomputable abbrev QqA:Func:=Tryz.f141
theorem Y4:Rt prog Tryz.f141 H0 k A H=ldR true 8 (A 2) H λv=>Ret H0 k (.tuple #[v,A 3,A 4]) H:=QnT (ty:=130) (by kernel_rfl) (by kernel_rfl) (by kernel_rfl)
def QlK:PC:=So [Oa 69 0,Oy 70 1 69 2,Oc 71 1 70,Ow 72 (.toInt .i64 (t 71)),Oe 73 .xor 72 120,Oa 8 73] (Sr [Oa 74 6,Ow 75 (.bin .shr (t 74) (.const (.int .u64 7))),Oa 76 6,Ow 77 (.bin .shr (t 76) (.const (.int .u64 6))),Oe 78 .and 77 1,Oa 79 6,Ow 80 (.bin .shr (t 79) (.const (.int .u64 5))),Oe 81 .and 80 1,Oa 82 6,Oe 83 .and 82 31,Oa 84 8,Ow 85 (.bin .shr (t 84) (.const (.int .u64 7))),Oa 86 8,Ow 87 (.bin .shr (t 86) (.const (.int .u64 3))),Oe 88 .and 87 15,Oa 89 8,Ow 90 (.bin .shr (t 89) (.const (.int .u64 2))),Oe 91 .and 90 1,Oa 92 8,Oe 93 .and 92 3,Ca 94 Qfc 93,Ow 95 (.build Ze8 [(0,1,(t 75)),(1,1,(t 78)),(2,1,(t 81)),(3,1,(t 83)),(4,1,(t 85)),(5,1,(t 88)),(6,1,(t 91)),(7,1,(t 94))]),Gu 8 2 95,Oi 3 3,Oi 4 0])
def QdP:PC:=.seq (So [Oa 65 0,Ou 66 65,Oe 67 .lss 66 3] (Sc 67 (Sr [Ow 68 (.build Ze8 []),Gu 8 2 68,Oi 3 0,Oi 4 9]) .skip)) QlK
def QlL:PC:=So [Oa 51 0,Oy 52 1 51 1,Oc 53 1 52,Ow 54 (.toInt .i64 (t 53)),Oe 55 .xor 54 224,Oa 6 55] (.seq (So [Oa 56 6,Oe 57 .and 56 31,Oa 7 57] (So [Oa 58 7,Oe 59 .lss 58 1,Oa 60 59,Oo 61 7 60 false,Ge 62 .gtr 61 3 60 false,Gk 63 60 62] (Sc 63 (Sr [Ow 64 (.build Ze8 []),Gu 8 2 64,Oi 3 0,Oi 4 4]) .skip))) QdP)
def QlM:PC:=So [Oa 23 0,Oy 24 1 23 1,Oc 25 1 24,Ow 26 (.toInt .i64 (t 25)),Oe 27 .xor 26 248,Oa 5 27] (Sr [Oa 28 5,Ow 29 (.bin .shr (t 28) (.const (.int .u64 7))),Oa 30 5,Ow 31 (.bin .shr (t 30) (.const (.int .u64 3))),Oe 32 .and 31 15,Oa 33 5,Ow 34 (.bin .shr (t 33) (.const (.int .u64 2))),Oe 35 .and 34 1,Oa 36 5,Oe 37 .and 36 3,Ca 38 Qfc 37,Ow 39 (.build Ze8 [(0,1,(t 29)),(3,1,(Ci 1)),(5,1,(t 32)),(6,1,(t 35)),(7,1,(t 38))]),Gu 8 2 39,Oi 3 2,Oi 4 0])
def QgZ:PC:=.seq (So [Oa 19 0,Ou 20 19,Oe 21 .lss 20 2] (Sc 21 (Sr [Ow 22 (.build Ze8 []),Gu 8 2 22,Oi 3 0,Oi 4 9]) .skip)) QlM
def Qg0:PC:=So [Oa 47 0,Ou 48 47,Oe 49 .lss 48 2,Oa 46 49] (Sc 46 (Sr [Ow 50 (.build Ze8 []),Gu 8 2 50,Oi 3 0,Oi 4 9]) .skip)
def QlN:PC:=So [Oa 41 0,Oy 42 1 41 0,Oc 43 1 42,Ow 44 (.bin .neq (t 43) (.const (.int .u8 196))),Oa 40 44] (Sc 40 (Sr [Ow 45 (.build Ze8 []),Gu 8 2 45,Oi 3 0,Oi 4 4]) Qg0)
def QlO:PC:=So [Oa 15 0,Oy 16 1 15 0,Oc 17 1 16,Ow 18 (.bin .eql (t 17) (.const (.int .u8 197))),Oa 14 18] (Sc 14 QgZ QlN)
def QoS:PC:=So [Cd 2 QbL Ze8,Oi 3 0,Oi 4 0] (.seq (.block 0 (So [Oa 10 0,Ou 11 10,Oe 12 .eql 11 0,Oa 9 12] (Sc 9 (Sr [Ow 13 (.build Ze8 []),Gu 8 2 13,Oi 3 0,Oi 4 9]) QlO))) QlL)
theorem QuV:In1 prog Qmr Tryz.f141 QoS:=jn1 Tryz.func141 (by kernel_rfl)
noncomputable abbrev Qac:Func:=Tryz.f142
theorem XF:Rt prog Tryz.f142 H0 k A H=Ret H0 k (A 2) H:=Wb (by kernel_rfl)
def YH:PC:=.seq (So [Oa 59 3,Oa 60 0,Oq 61 60,Ob 62 0 61,Ob 63 7 62,Oc 64 1 63,Gp 65 .neq 59 64,Oa 66 65,Oo 67 0 66 false,Og 68 (.call Xo [t 67]) 66 false,Og 69 (.not (t 68)) 66 false,Gk 70 66 69] (Sc 70 (Sr [Oi 2 4]) .skip)) (Sr [Oi 2 0])
def KH:PC:=So [Oa 33 0,Oa 34 0,Oa 35 0,Oa 36 4,Oe 37 .sub 36 64,Ca 38 Qms 37,Oa 32 38,Ot 39 32 0,Ot 40 32 1,Ot 41 32 2,Ot 42 32 3,Oa 3 39,Oq 43 33,Ob 44 13 43,Gu 1 44 40,Oq 45 34,Ob 46 14 45,Gu 1 46 41,Oq 47 35,Ob 48 15 47,Gu 1 48 42] (So [Oa 49 0,Oq 50 49,Ob 51 12 50,Ov (.st 1 (t 51) (.const (.bool true)))] (.ops [Oa 52 0,Oq 53 52,Ob 54 11 53,Oc 55 1 54,Oe 56 .add 55 1,Oq 57 52,Ob 58 11 57,Gu 1 58 56]))
def KI:PC:=So [Oi 3 0] (.seq (So [Oa 15 0,Oq 16 15,Ob 17 10 16,Oc 18 1 17,Oa 19 0,Oq 20 19,Ob 21 11 20,Oc 22 1 21,Ox 23 1 18 22,Oc 24 1 23,Ow 25 (.toInt .i64 (t 24)),Oa 4 25] (So [Oa 26 4,Oe 27 .geq 26 64,Oa 28 27,Oo 29 4 28 true,Ge 30 .leq 29 79 28 true,Oj 31 28 30] (Sc 31 KH .skip))) YH)
def Vu:PC:=So [Oi 2 0] (.seq (So [Oa 5 0,Oq 6 5,Ob 7 11 6,Oc 8 1 7,Oa 9 0,Oq 10 9,Ob 11 10 10,Oc 12 1 11,Ou 13 12,Gp 14 .geq 8 13] (Sc 14 (Sr [Oi 2 9]) .skip)) KI)
theorem QfQ:In1 prog X0 Tryz.f142 Vu:=jn1 Tryz.func142 (by kernel_rfl)
theorem Qpo:Rt prog Tryz.f144 H0 k A H=Ret H0 k (.tuple #[A 2,A 3,A 4]) H:=QHT (by kernel_rfl) (by kernel_rfl)
def QkK:PC:=So [Oi 2 0,Oi 3 0,Oi 4 0] (Sr [Oa 5 0,Ow 6 (.bin .shr (t 5) (.const (.int .u64 6))),Oe 7 .and 6 3,Oa 8 0,Ow 9 (.bin .shr (t 8) (.const (.int .u64 3))),Oe 10 .and 9 7,Oa 11 0,Oe 12 .and 11 7,Oa 2 7,Oa 3 10,Oa 4 12])
theorem QqB:In1 prog QdN Tryz.f144 QkK:=jn1 Tryz.func144 (by kernel_rfl)
theorem Ki:Rt prog Tryz.f145 H0 k A H=ldR true 7 (A 8) H λv=>Ret H0 k (.tuple #[v,A 9]) H:=Qkr (ty:=45) (by kernel_rfl) (by kernel_rfl) (by kernel_rfl)
def QeW:PC:=So [Oa 55 3,Oe 56 .eql 55 1,Oa 54 56] (Sc 54 (Sr [Ow 57 (.build Ze7 []),Gu 7 8 57,Oi 9 4]) .skip)
def QeX:PC:=.seq (.block 1 (So [Oa 42 12,Oe 43 .neq 42 5,Oa 44 43,Oo 45 1 44 false,Ge 46 .neq 45 0 44 false,Gk 47 44 46,Oa 41 47] (Sc 41 (.ops [Oa 48 3,Ow 49 (.bin .mul (Ci 8) (t 48)),Oa 50 12,Gp 51 .add 49 50,Ow 52 (.build Ze2 [(0,1,(Ci 5)),(1,1,(t 51))]),Ob 53 0 13,Gu 2 53 52]) QeW))) (Sr [Od 58 7 13,Gu 7 8 58,Oi 9 0])
def QeY:PC:=So [Oa 28 2,Ow 29 (.bin .mul (Ci 8) (t 28)),Oa 30 11,Gp 31 .add 29 30,Ow 32 (.build Ze2 [(0,1,(Ci 5)),(1,1,(t 31))]),Ob 33 2 13,Gu 2 33 32] (.ops [Oa 34 10,Ow 35 (.bin .shl (Ci 1) (t 34)),Ob 36 4 13,Gu 1 36 35])
def QeZ:PC:=So [Oa 38 10,Oe 39 .neq 38 0,Oa 37 39] (Sc 37 (Sr [Ow 40 (.build Ze7 []),Gu 7 8 40,Oi 9 4]) .skip)
def QgH:PC:=So [Cd 8 Qq Ze7,Oi 9 0] (So [Oa 15 0,Ca 16 QdN 15,Oa 14 16,Ot 17 14 0,Ot 18 14 1,Ot 19 14 2,Oa 10 17,Oa 11 18,Oa 12 19] (So [Ow 20 (.build Ze7 []),Cd 13 Qq Ze7,Gu 7 13 20] (.seq (.block 0 (So [Oa 22 11,Oe 23 .neq 22 4,Oa 24 23,Oo 25 2 24 false,Ge 26 .eql 25 1 24 false,Gk 27 24 26,Oa 21 27] (Sc 21 QeY QeZ))) QeX)))
theorem Qm9:In4 prog QdC Tryz.f145 QgH:=jn4 Tryz.func145 (by kernel_rfl)
theorem Qeu:Rt prog Tryz.f146 H0 k A H=Ret H0 k (A 4) H:=Wb (by kernel_rfl)
def QkL:PC:=So [Gr 3 Qq 1,Oi 4 0] (.seq (.block 0 (So [Oa 6 0,Oe 7 .eql 6 1,Oa 5 7] (Sc 5 (Sr [Oi 4 1]) (So [Oa 9 0,Oe 10 .eql 9 2,Oa 11 10,Gb 12 0 3 11 false,Gb 13 0 12 11 false,Gc 14 1 13 11 false,Ge 15 .neq 14 5 11 false,Gk 16 11 15,Oa 8 16] (Sc 8 (Sr [Oi 4 4]) .skip))))) (Sr [Oi 4 0]))
theorem QqC:In2 prog QdO Tryz.f146 QkL:=jn2 Tryz.func146 (by kernel_rfl)
theorem Qjq:Rt prog Tryz.f148 H0 k A H=Ret H0 k (A 2) H:=Wb (by kernel_rfl)
def QkM:PC:=So [Ol 2 false] (Sr [Oa 3 0,Oe 4 .eql 3 1,Oa 5 4,Oo 6 0 5 false,Ge 7 .eql 6 2 5 false,Gk 8 5 7,Oa 9 8,Oo 10 0 9 false,Ge 11 .eql 10 4 9 false,Gk 12 9 11,Oa 13 12,Oo 14 0 13 false,Ge 15 .eql 14 8 13 false,Gk 16 13 15,Oa 2 16])
theorem QqD:In1 prog QgV Tryz.f148 QkM:=jn1 Tryz.func148 (by kernel_rfl)
theorem QkN:Rt prog Tryz.f149 H0 k A H=Ret H0 k (A 4) H:=Wb (by kernel_rfl)
def QlP:PC:=So [Oi 4 0] (.seq (So [Oa 6 1,Ca 7 Qeo 6,Oh 8 7] (Sc 8 (Sr [Oi 4 0]) .skip)) (So [Oa 9 1,Ow 10 (.bin .sub (Ci 64) (t 9)),Oa 5 10] (Sr [Oa 11 0,Ow 12 (.toInt .u64 (t 11)),Oa 13 5,Gp 14 .shl 12 13,Ow 15 (.toInt .i64 (t 14)),Oa 16 5,Gp 17 .shr 15 16,Oa 4 17])))
theorem QrN:In2 prog Qix Tryz.f149 QlP:=jn2 Tryz.func149 (by kernel_rfl)
theorem Vv:Rt prog Tryz.f150 H0 k A H=ldR true 11 (A 6) H λv=>Ret H0 k v H:=QrH (ty:=47) (by kernel_rfl) (by kernel_rfl) (by kernel_rfl)
def Qad:PC:=So [Cd 6 Qe Kz] (So [Oa 8 1,Ca 9 VU 8,Oa 7 9] (.seq (So [Oa 10 7,Oe 11 .eql 10 1,Oa 12 11,Oo 13 0 12 true,Og 14 (.gen (.nilCheck (t 13))) 12 true,Gb 15 12 14 12 true,Gc 16 1 15 12 true,Og 17 (.not (t 16)) 12 true,Oj 18 12 17,Oa 19 18,Oo 20 0 19 true,Og 21 (.gen (.nilCheck (t 20))) 19 true,Gb 22 0 21 19 true,Gb 23 8 22 19 true,Gc 24 1 23 19 true,Og 25 (.not (t 24)) 19 true,Oj 26 19 25,Oa 27 26,Oo 28 2 27 true,Ge 29 .geq 28 4 27 true,Oj 30 27 29,Oa 31 30,Oo 32 2 31 true,Ge 33 .leq 32 7 31 true,Oj 34 31 33] (Sc 34 (.ops [Oi 7 2]) .skip)) (Sr [Oa 35 7,Oa 36 2,Ow 37 (.build Ze2 [(0,1,(t 35)),(1,1,(t 36))]),Ow 38 (.build Kz [(0,1,(Ci 1)),(1,2,(t 37))]),Gu 11 6 38])))
theorem Qgg:In3 prog Wq Tryz.f150 Qad:=jn3 Tryz.func150 (by kernel_rfl)
theorem QhH:Rt prog Tryz.f151 H0 k A H=ldR true 11 (A 2) H λv=>Ret H0 k v H:=QrH (ty:=47) (by kernel_rfl) (by kernel_rfl) (by kernel_rfl)
def Qjr:PC:=So [Cd 2 Qe Kz] (.seq (So [Oa 3 0] (.block 0 (So [Oe 5 .eql 3 28,Oa 4 5] (Sc 4 (Sr [Ow 6 (.build Ze2 [(0,1,(Ci 1)),(1,1,(Ci 0))]),Ow 7 (.build Kz [(0,1,(Ci 1)),(1,2,(t 6))]),Gu 11 2 7]) (So [Oe 9 .eql 3 29,Oa 8 9] (Sc 8 (Sr [Ow 10 (.build Ze2 [(0,1,(Ci 3)),(1,1,(Ci 0))]),Ow 11 (.build Kz [(0,1,(Ci 1)),(1,2,(t 10))]),Gu 11 2 11]) (So [Oe 13 .eql 3 30,Oa 12 13] (Sc 12 (Sr [Ow 14 (.build Ze2 [(0,1,(Ci 4)),(1,1,(Ci 0))]),Ow 15 (.build Kz [(0,1,(Ci 1)),(1,2,(t 14))]),Gu 11 2 15]) (So [Oe 17 .eql 3 31,Oa 16 17] (Sc 16 (Sr [Ow 18 (.build Ze2 [(0,1,(Ci 5)),(1,1,(Ci 0))]),Ow 19 (.build Kz [(0,1,(Ci 1)),(1,2,(t 18))]),Gu 11 2 19]) (So [Oe 21 .eql 3 32,Oa 20 21] (Sc 20 (Sr [Ow 22 (.build Ze2 [(0,1,(Ci 1)),(1,1,(Ci 1))]),Ow 23 (.build Kz [(0,1,(Ci 1)),(1,2,(t 22))]),Gu 11 2 23]) .skip)))))))))))) (Sr [Ow 24 (.build Kz [(0,1,(Ci 3)),(10,1,(Ci 1))]),Gu 11 2 24]))
theorem Qpp:In1 prog Qfy Tryz.f151 Qjr:=jn1 Tryz.func151 (by kernel_rfl)
theorem QkO:Rt prog Tryz.f242 H0 k A H=Ret H0 k (A 2) H:=Wb (by kernel_rfl)
def QlQ:PC:=So [Oi 2 0] (.seq (So [Oa 3 0] (.block 0 (So [Oe 5 .eql 3 1,Oa 4 5] (Sc 4 (Sr [Oi 2 1]) (So [Oe 7 .eql 3 2,Oa 6 7] (Sc 6 (Sr [Oi 2 4]) (So [Oe 9 .eql 3 3,Oa 8 9] (Sc 8 (Sr [Oi 2 2]) .skip)))))))) (Sr [Oi 2 0]))
theorem QrO:In1 prog Qfc Tryz.f242 QlQ:=jn1 Tryz.func242 (by kernel_rfl)
noncomputable abbrev QwN:Func:=Tryz.f243
def QlR:PC:=So [Oe 29 .eql 23 4,Oa 28 29] (Sc 28 (.ops [Oi 7 1]) (So [Oe 31 .eql 23 8,Oa 30 31] (Sc 30 (.ops [Oi 6 1]) .skip)))
def QlS:PC:=So [Oe 27 .eql 23 2,Oa 26 27] (Sc 26 (.ops [Oi 8 1]) QlR)
def QlT:PC:=.seq (.block 1 (So [Oa 19 17,Oa 10 19] (So [Oa 20 0,Oa 21 10,Ow 22 (.bin .shl (Ci 1) (t 21)),Gp 23 .and 20 22] (.block 2 (So [Oe 25 .eql 23 1,Oa 24 25] (Sc 24 (.ops [Oi 9 1]) QlS)))))) (.ops [Oe 32 .add 17 1,Oa 17 32])
def QlU:PC:=So [Oe 18 .lss 17 4] (.seq (Sc 18 .skip (.exit 0)) QlT)
def QlV:PC:=.seq (So [Oi 17 0] (.block 0 (.loop QlU))) (Sr [Oa 33 6,Oa 34 7,Oa 35 8,Oa 36 9,Oa 2 33,Oa 3 34,Oa 4 35,Oa 5 36])
def QoT:PC:=So [Oi 2 0,Oi 3 0,Oi 4 0,Oi 5 0] (So [Oi 6 0,Oi 7 0,Oi 8 0,Oi 9 0] (.seq (So [Oa 11 0,Oe 12 .lss 11 0,Oa 13 12,Oo 14 0 13 false,Ge 15 .gtr 14 15 13 false,Gk 16 13 15] (Sc 16 (Sr [Oi 2 0,Oi 3 0,Oi 4 0,Oi 5 0]) .skip)) QlV))
theorem QuW:In1 prog Qms Tryz.f243 QoT:=jn1 Tryz.func243 (by kernel_rfl)
theorem QgI:Rt prog Tryz.f245 H0 k A H=Ret H0 k (A 2) H:=Wb (by kernel_rfl)
def QhI:PC:=So [Ol 2 false] (Sr [Oa 3 0,Oe 4 .geq 3 1,Oa 5 4,Oo 6 0 5 true,Ge 7 .leq 6 64 5 true,Oj 8 5 7,Oa 2 8])
theorem Qn0:In1 prog Qeo Tryz.f245 QhI:=jn1 Tryz.func245 (by kernel_rfl)
end Go.Proofs.YtfofbicfabokbaaGreatDoor.code
