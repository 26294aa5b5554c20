/- The code of the functions that are reached, resolved. -/
import Derived.Test.YtfofbicfabokbaaGreatDoorAbD
import Derived.Test.YtfofbicfabokbaaGreatDoorProg
import Derived.KernelRfl
import Derived.Test.YtfofbicfabokbaaGreatDoorC0Code
set_option linter.unusedVariables false
set_option maxRecDepth 100000
noncomputable section
namespace Go.Proofs.YtfofbicfabokbaaGreatDoor.code
open Go.Ab
variable (H0 H:Qa) (k:Value->Qa->Prop) (A:Env)
theorem QIn:Rt prog Tryz.f3 H0 k A H=Ret H0 k (A 2) H:=Wb (by kernel_rfl)
def QIm:PC:=So [Oa 15 0,Ca 16 YF 15,Oa 3 16] (So [Oa 18 3,Ca 19 QIz 18,Oa 17 19,Ot 20 17 0,Ot 21 17 1,Ot 22 17 2,Cd 4 Qd [.int .i64 0,.slice none 0 0],Gu 2 4 20,Oa 5 21,Oa 6 22] (So [Oa 24 0,Ca 25 QIo 24,Oa 23 25,Ot 26 23 0,Ot 27 23 1,Ot 28 23 2,Cd 7 Qd [.int .i64 0,.slice none 0 0],Gu 2 7 26,Oa 8 27,Oa 9 28] (So [Od 29 2 4,Od 30 2 7,Cb 31 J9 29 30,Oa 32 31,Oo 33 5 32 true,Oo 34 8 32 true,Gf 35 .eql 33 34 32 true,Oj 36 32 35,Oa 37 36,Oo 38 6 37 true,Oo 39 9 37 true,Gf 40 .eql 38 39 37 true,Oj 41 37 40,Oa 42 41,Oo 43 3 42 true,Oo 44 0 42 true,Og 45 (.call Jr [t 43,t 44]) 42 true,Oj 46 42 45,Oa 10 46] (So [Od 47 2 4,Ca 48 QIp 47] (Sr [Oa 49 10,Oa 50 49,Og 51 (.call W9 []) 50 true,Oj 52 50 51,Oa 2 52])))))
def QIq:PC:=So [Ol 2 false] (.seq (So [Oa 11 0,Ou 12 11,Oe 13 .gtr 12 100] (Sc 13 (Sr [Ow 14 (.call W9 []),Oa 2 14]) .skip)) QIm)
theorem QIA:In1 prog QIj Tryz.f3 QIq:=jn1 Tryz.func3 (by kernel_rfl)
theorem Qgk:Rt prog Tryz.f8 H0 k A H=Ret H0 k (A 2) H:=Wb (by kernel_rfl)
def VH:PC:=.seq (.block 1 (.ops [Oa 20 3,Oa 21 4,Oa 22 4,Oe 23 .rem 22 90,Ow 24 (.bin .add (Ci 160) (t 23)),Ow 25 (.toInt .u8 (t 24)),Ox 26 1 20 21,Gu 1 26 25])) (.ops [Oa 18 4,Oe 19 .add 18 1,Oa 4 19])
def VI:PC:=.seq (So [Oa 14 4,Oa 15 3,Ou 16 15,Gp 17 .lss 14 16] (Sc 17 .skip (.exit 0))) VH
def Qa8:PC:=So [Oz 2] (So [Oa 5 0,Ou 6 5,Oe 7 .add 6 3,Ow 8 (.mkSl 5 1 1 [.int .u8 0] (t 7) (t 7)),Oa 3 8] (So [Oa 9 3,Oa 10 0,Ow 11 (.gen (.call ⟨(.builtin .copy),#[t 9,t 10],#[22,22]⟩))] (.seq (So [Oa 12 0,Ou 13 12,Oa 4 13] (.block 0 (.loop VI))) (Sr [Oa 27 3,Oa 28 0,Ou 29 28,Ow 30 (.slS 1 (t 27) none (some (t 29))),Oa 2 30]))))
theorem Qg5:In1 prog YF Tryz.f8 Qa8:=jn1 Tryz.func8 (by kernel_rfl)
theorem Qgl:Rt prog Tryz.f12 H0 k A H=Ret H0 k (A 4) H:=Wb (by kernel_rfl)
def Qa9:PC:=So [Ol 4 false] (Sr [Oa 5 0,Ou 6 5,Oa 7 1,Ou 8 7,Gp 9 .eql 6 8,Oa 10 9,Oo 11 0 10 true,Oo 12 0 10 true,Og 13 (.gen (.call ⟨(.builtin .cap),#[t 12],#[22]⟩)) 10 true,Og 14 (.slS 1 (t 11) none (some (t 13))) 10 true,Oo 15 1 10 true,Og 16 (.call YF [t 15]) 10 true,Oo 17 1 10 true,Og 18 (.lenS (t 17)) 10 true,Ge 19 .add 18 3 10 true,Og 20 (.slS 1 (t 16) none (some (t 19))) 10 true,Og 21 (.call Js [t 14,t 20]) 10 true,Oj 22 10 21,Oa 4 22])
theorem Qg6:In2 prog Jr Tryz.f12 Qa9:=jn2 Tryz.func12 (by kernel_rfl)
theorem QID:Rt prog Tryz.f13 H0 k A H=Ret H0 k (.tuple #[]) H:=QHQ (by kernel_rfl)
def QIs:PC:=.seq (.block 1 (.ops [Ob 10 1 1,Oc 11 1 10,Oa 12 2,Ow 13 (.build Kz [(0,1,(Ci (-7))),(10,1,(Ci (-7)))]),Ox 14 11 11 12,Gu 11 14 13])) (.ops [Oa 8 2,Oe 9 .add 8 1,Oa 2 9])
def QIt:PC:=.seq (So [Oa 3 2,Ob 4 1 1,Oc 5 1 4,Ou 6 5,Gp 7 .lss 3 6] (Sc 7 .skip (.exit 0))) QIs
def QIx:PC:=So [Gr 1 Qd 0] (So [Oi 2 0] (.block 0 (.loop QIt)))
theorem QIF:In1 prog QIp Tryz.f13 QIx:=jn1 Tryz.func13 (by kernel_rfl)
theorem Qgm:Rt prog Tryz.f30 H0 k A H=Ret H0 k (A 4) H:=Wb (by kernel_rfl)
def Qba:PC:=So [Ol 4 false] (Sr [Oa 5 0,Ow 6 (.gen (.convert 22 9 (t 5))),Oa 7 1,Ow 8 (.gen (.convert 22 9 (t 7))),Gp 9 .eql 6 8,Oa 4 9])
theorem Qg8:In2 prog Js Tryz.f30 Qba:=jn2 Tryz.func30 (by kernel_rfl)
end Go.Proofs.YtfofbicfabokbaaGreatDoor.code
