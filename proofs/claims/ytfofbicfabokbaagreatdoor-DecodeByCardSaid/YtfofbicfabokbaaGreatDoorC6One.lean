/- The code of the functions that are reached, resolved. -/
import Derived.Test.YtfofbicfabokbaaGreatDoorAbD
import Derived.Test.YtfofbicfabokbaaGreatDoorProg
import Derived.KernelRfl
import Derived.Test.YtfofbicfabokbaaGreatDoorC0Code
set_option linter.unusedVariables false
set_option maxRecDepth 100000
noncomputable section
namespace Go.Proofs.YtfofbicfabokbaaGreatDoor.code
open Go.Ab
variable (H0 H:Qa) (k:Value->Qa->Prop) (A:Env)
theorem Yw:Rt prog Tryz.f11 H0 k A H=Ret H0 k (A 4) H:=Wb (by kernel_rfl)
def Qcn:PC:=So [Gr 2 Qd 0,Gr 3 Qd 1,Ol 4 false] (Sr [Ob 5 0 2,Oc 6 1 5,Ob 7 0 3,Oc 8 1 7,Gp 9 .eql 6 8,Oa 10 9,Gb 11 1 2 10 true,Gc 12 1 11 10 true,Gb 13 1 3 10 true,Gc 14 1 13 10 true,Og 15 (.call Kc [t 12,t 14]) 10 true,Oj 16 10 15,Oa 4 16])
theorem Qh7:In2 prog J9 Tryz.f11 Qcn:=jn2 Tryz.func11 (by kernel_rfl)
theorem Ql8:Rt prog Tryz.f15 H0 k A H=ldR true 2 (A 4) H λv=>Ret H0 k (.tuple #[v,A 5,A 6]) H:=QnT (ty:=27) (by kernel_rfl) (by kernel_rfl) (by kernel_rfl)
def Qnz:PC:=So [Gr 2 Qc 0,Cd 4 Qd [.int .i64 0,.slice none 0 0],Oi 5 0,Oi 6 0] (.seq (So [Ob 9 0 2,Oc 10 1 9,Ca 11 Kd 10,Ou 12 11,Oi 13 0] (.block 0 (.loop (So [Gp 14 .lss 13 12] (.seq (Sc 14 .skip (.exit 0)) (.seq (.block 1 (So [Ox 15 10 11 13,Od 16 10 15,Cd 8 Qc [.int .i64 0,.slice none 0 0,.slice none 0 0,.int .i64 0,.int .i64 0,.int .i64 0,.int .i64 0,.int .i64 0,.bool false,.int .i64 0],Gu 10 8 16] (So [Od 17 10 2,Od 18 10 8,Cb 19 Qfw 17 18] (Sc 19 (Sr [Od 20 10 8,Oa 21 1,Cb 22 QaB 20 21,Ot 23 22 0,Ot 24 22 1,Ot 25 22 2,Gu 2 4 23,Oa 5 24,Oa 6 25]) .skip)))) (.ops [Oe 26 .add 13 1,Oa 13 26]))))))) (Sr [Ow 27 (.build [.int .i64 0,.slice none 0 0] []),Gu 2 4 27,Oi 5 0,Oi 6 2]))
theorem QtS:In2 prog Qkt Tryz.f15 Qnz:=jn2 Tryz.func15 (by kernel_rfl)
theorem Jd:Rt prog Tryz.f29 H0 k A H=Ret H0 k (A 4) H:=Wb (by kernel_rfl)
def Qco:PC:=So [Ol 4 false] (.seq (So [Oa 6 0,Ou 7 6,Oa 8 1,Ou 9 8,Gp 10 .neq 7 9] (Sc 10 (Sr [Ol 4 false]) .skip)) (.seq (So [Oi 5 0] (.block 0 (.loop (.seq (So [Oa 11 5,Oa 12 0,Ou 13 12,Gp 14 .lss 11 13] (Sc 14 .skip (.exit 0))) (.seq (.block 1 (So [Oa 17 0,Oa 18 5,Ox 19 11 17 18,Od 20 11 19,Oa 21 1,Oa 22 5,Ox 23 11 21 22,Od 24 11 23,Ow 25 (.gen (.binOp .neq 47 (t 20) (t 24) 47))] (Sc 25 (Sr [Ol 4 false]) .skip))) (.ops [Oa 15 5,Oe 16 .add 15 1,Oa 5 16])))))) (Sr [Ol 4 true])))
theorem Qh8:In2 prog Kc Tryz.f29 Qco:=jn2 Tryz.func29 (by kernel_rfl)
theorem W6:Rt prog Tryz.f32 H0 k A H=Ret H0 k (A 4) H:=Wb (by kernel_rfl)
def QgQ:PC:=Sr [Ob 45 6 2,Oc 46 1 45,Ob 47 6 3,Oc 48 1 47,Gp 49 .eql 46 48,Oa 50 49,Gb 51 7 2 50 true,Gc 52 1 51 50 true,Gb 53 7 3 50 true,Gc 54 1 53 50 true,Gf 55 .eql 52 54 50 true,Oj 56 50 55,Oa 57 56,Gb 58 8 2 57 true,Gc 59 1 58 57 true,Gb 60 8 3 57 true,Gc 61 1 60 57 true,Og 62 (.beq false (t 59) (t 61)) 57 true,Oj 63 57 62,Oa 64 63,Gb 65 9 2 64 true,Gc 66 1 65 64 true,Gb 67 9 3 64 true,Gc 68 1 67 64 true,Gf 69 .eql 66 68 64 true,Oj 70 64 69,Oa 4 70]
def QgR:PC:=.seq (So [Ob 19 0 2,Oc 20 1 19,Ob 21 0 3,Oc 22 1 21,Gp 23 .neq 20 22,Oa 24 23,Gb 25 3 2 24 false,Gc 26 1 25 24 false,Gb 27 3 3 24 false,Gc 28 1 27 24 false,Gf 29 .neq 26 28 24 false,Gk 30 24 29,Oa 31 30,Gb 32 4 2 31 false,Gc 33 1 32 31 false,Gb 34 4 3 31 false,Gc 35 1 34 31 false,Gf 36 .neq 33 35 31 false,Gk 37 31 36,Oa 38 37,Gb 39 5 2 38 false,Gc 40 1 39 38 false,Gb 41 5 3 38 false,Gc 42 1 41 38 false,Gf 43 .neq 40 42 38 false,Gk 44 38 43] (Sc 44 (Sr [Ol 4 false]) .skip)) QgQ
def QjC:PC:=So [Gr 2 Qc 0,Gr 3 Qc 1,Ol 4 false] (.seq (So [Ob 5 1 2,Oc 6 1 5,Ob 7 1 3,Oc 8 1 7,Cb 9 YS 6 8,Oh 10 9,Oa 11 10,Gb 12 2 2 11 false,Gc 13 1 12 11 false,Gb 14 2 3 11 false,Gc 15 1 14 11 false,Og 16 (.call YS [t 13,t 15]) 11 false,Og 17 (.not (t 16)) 11 false,Gk 18 11 17] (Sc 18 (Sr [Ol 4 false]) .skip)) QgR)
theorem QpD:In2 prog Qfw Tryz.f32 QjC:=jn2 Tryz.func32 (by kernel_rfl)
theorem Je:Rt prog Tryz.f59 H0 k A H=Ret H0 k (A 4) H:=Wb (by kernel_rfl)
def Qcp:PC:=So [Ol 4 false] (.seq (So [Oa 6 0,Ou 7 6,Oa 8 1,Ou 9 8,Gp 10 .neq 7 9] (Sc 10 (Sr [Ol 4 false]) .skip)) (.seq (So [Oa 11 0,Ou 12 11,Oi 13 0] (.block 0 (.loop (So [Gp 14 .lss 13 12] (.seq (Sc 14 .skip (.exit 0)) (.seq (.block 1 (So [Oa 15 13,Oa 5 15] (So [Oa 16 0,Oa 17 5,Ox 18 1 16 17,Oc 19 1 18,Oa 20 1,Oa 21 5,Ox 22 1 20 21,Oc 23 1 22,Gp 24 .neq 19 23] (Sc 24 (Sr [Ol 4 false]) .skip)))) (.ops [Oe 25 .add 13 1,Oa 13 25]))))))) (Sr [Ol 4 true])))
theorem Qh9:In2 prog YS Tryz.f59 Qcp:=jn2 Tryz.func59 (by kernel_rfl)
end Go.Proofs.YtfofbicfabokbaaGreatDoor.code
