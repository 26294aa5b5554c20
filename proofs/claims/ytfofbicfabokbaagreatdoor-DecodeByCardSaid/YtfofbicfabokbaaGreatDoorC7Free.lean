/- The code of the functions that are reached, resolved. -/
import Derived.Test.YtfofbicfabokbaaGreatDoorAbD
import Derived.Test.YtfofbicfabokbaaGreatDoorProg
import Derived.KernelRfl
import Derived.Test.YtfofbicfabokbaaGreatDoorC0Code
set_option linter.unusedVariables false
set_option maxRecDepth 100000
noncomputable section
namespace Go.Proofs.YtfofbicfabokbaaGreatDoor.code
open Go.Ab
variable (H0 H:Qa) (k:Value->Qa->Prop) (A:Env)
theorem XU:Rt prog Tryz.f4 H0 k A H=Ret H0 k (A 4) H:=Wb (by kernel_rfl)
def GO:PC:=So [Oa 29 1,⟨some 30,.callF YF [t 29] [t 2],none,true⟩,⟨some 31,.ld true 10 (t 2),none,true⟩,Ca 32 Ka 31,Cd 6 Qc [.int .i64 0,.slice none 0 0,.slice none 0 0,.int .i64 0,.int .i64 0,.int .i64 0,.int .i64 0,.int .i64 0,.bool false,.int .i64 0],Oa 5 30,Gu 10 6 32] (So [Od 34 10 6,Oa 35 5,Cb 36 Qkt 34 35,Oa 33 36,Ot 37 33 0,Ot 38 33 1,Ot 39 33 2,Cd 7 Qd [.int .i64 0,.slice none 0 0],Gu 2 7 37,Oa 8 38,Oa 9 39] (So [Od 41 10 2,Oa 42 1,Cb 43 Qbw 41 42,Oa 40 43,Ot 44 40 0,Ot 45 40 1,Ot 46 40 2,Cd 10 Qd [.int .i64 0,.slice none 0 0],Gu 2 10 44,Oa 11 45,Oa 12 46] (Sr [Od 47 2 7,Od 48 2 10,Cb 49 J9 47 48,Oa 50 49,Oo 51 8 50 true,Oo 52 11 50 true,Gf 53 .eql 51 52 50 true,Oj 54 50 53,Oa 55 54,Oo 56 9 55 true,Oo 57 12 55 true,Gf 58 .eql 56 57 55 true,Oj 59 55 58,Oa 60 59,Oo 61 5 60 true,Oo 62 1 60 true,Og 63 (.call Jr [t 61,t 62]) 60 true,Oj 64 60 63,Oa 65 64,Gd 66 10 6 65 true,Gd 67 10 2 65 true,Og 68 (.call Kb [t 66,t 67]) 65 true,Oj 69 65 68,Oa 70 69,Og 71 (.call W9 []) 70 true,Oj 72 70 71,Oa 4 72])))
def Qae:PC:=So [Gr 2 Qc 0,Ol 4 false] (.seq (So [Oa 13 1,Ou 14 13,Oe 15 .gtr 14 100,Oa 16 15,Gb 17 1 2 16 false,Gc 18 1 17 16 false,Og 19 (.lenS (t 18)) 16 false,Ge 20 .gtr 19 9 16 false,Gk 21 16 20,Oa 22 21,Gb 23 2 2 22 false,Gc 24 1 23 22 false,Og 25 (.lenS (t 24)) 22 false,Ge 26 .gtr 25 9 22 false,Gk 27 22 26] (Sc 27 (Sr [Ow 28 (.call W9 []),Oa 4 28]) .skip)) GO)
theorem Qgj:In2 prog ZX Tryz.f4 Qae:=jn2 Tryz.func4 (by kernel_rfl)
theorem Qgk:Rt prog Tryz.f8 H0 k A H=Ret H0 k (A 2) H:=Wb (by kernel_rfl)
def VH:PC:=.seq (.block 1 (.ops [Oa 20 3,Oa 21 4,Oa 22 4,Oe 23 .rem 22 90,Ow 24 (.bin .add (Ci 160) (t 23)),Ow 25 (.toInt .u8 (t 24)),Ox 26 1 20 21,Gu 1 26 25])) (.ops [Oa 18 4,Oe 19 .add 18 1,Oa 4 19])
def VI:PC:=.seq (So [Oa 14 4,Oa 15 3,Ou 16 15,Gp 17 .lss 14 16] (Sc 17 .skip (.exit 0))) VH
def Qa8:PC:=So [Oz 2] (So [Oa 5 0,Ou 6 5,Oe 7 .add 6 3,Ow 8 (.mkSl 5 1 1 [.int .u8 0] (t 7) (t 7)),Oa 3 8] (So [Oa 9 3,Oa 10 0,Ow 11 (.gen (.call ⟨(.builtin .copy),#[t 9,t 10],#[22,22]⟩))] (.seq (So [Oa 12 0,Ou 13 12,Oa 4 13] (.block 0 (.loop VI))) (Sr [Oa 27 3,Oa 28 0,Ou 29 28,Ow 30 (.slS 1 (t 27) none (some (t 29))),Oa 2 30]))))
theorem Qg5:In1 prog YF Tryz.f8 Qa8:=jn1 Tryz.func8 (by kernel_rfl)
theorem Qgl:Rt prog Tryz.f12 H0 k A H=Ret H0 k (A 4) H:=Wb (by kernel_rfl)
def Qa9:PC:=So [Ol 4 false] (Sr [Oa 5 0,Ou 6 5,Oa 7 1,Ou 8 7,Gp 9 .eql 6 8,Oa 10 9,Oo 11 0 10 true,Oo 12 0 10 true,Og 13 (.gen (.call ⟨(.builtin .cap),#[t 12],#[22]⟩)) 10 true,Og 14 (.slS 1 (t 11) none (some (t 13))) 10 true,Oo 15 1 10 true,Og 16 (.call YF [t 15]) 10 true,Oo 17 1 10 true,Og 18 (.lenS (t 17)) 10 true,Ge 19 .add 18 3 10 true,Og 20 (.slS 1 (t 16) none (some (t 19))) 10 true,Og 21 (.call Js [t 14,t 20]) 10 true,Oj 22 10 21,Oa 4 22])
theorem Qg6:In2 prog Jr Tryz.f12 Qa9:=jn2 Tryz.func12 (by kernel_rfl)
theorem Qg7:Rt prog Tryz.f14 H0 k A H=ldR true 10 (A 2) H λv=>Ret H0 k v H:=QrH (ty:=37) (by kernel_rfl) (by kernel_rfl) (by kernel_rfl)
def Qb0:PC:=So [Gr 1 Qc 0,Cd 2 Qc [.int .i64 0,.slice none 0 0,.slice none 0 0,.int .i64 0,.int .i64 0,.int .i64 0,.int .i64 0,.int .i64 0,.bool false,.int .i64 0]] (So [Ow 3 (.bslice 3 1 0 [] []),Ob 4 1 1,Oc 5 1 4,Ow 6 (.app 3 1 8 (t 3) (t 5)),Ob 7 1 1,Gu 1 7 6] (So [Ow 8 (.bslice 3 1 0 [] []),Ob 9 2 1,Oc 10 1 9,Ow 11 (.app 3 1 8 (t 8) (t 10)),Ob 12 2 1,Gu 1 12 11] (Sr [Od 13 10 1,Gu 10 2 13])))
theorem Qh1:In1 prog Ka Tryz.f14 Qb0:=jn1 Tryz.func14 (by kernel_rfl)
theorem Qgm:Rt prog Tryz.f30 H0 k A H=Ret H0 k (A 4) H:=Wb (by kernel_rfl)
def Qba:PC:=So [Ol 4 false] (Sr [Oa 5 0,Ow 6 (.gen (.convert 22 9 (t 5))),Oa 7 1,Ow 8 (.gen (.convert 22 9 (t 7))),Gp 9 .eql 6 8,Oa 4 9])
theorem Qg8:In2 prog Js Tryz.f30 Qba:=jn2 Tryz.func30 (by kernel_rfl)
end Go.Proofs.YtfofbicfabokbaaGreatDoor.code
