/- The code of the functions that are reached, resolved. -/
import Derived.Test.YtgepgbbjfhggfaaGreatDoorAbD
import Derived.Test.YtgepgbbjfhggfaaGreatDoorProg
import Derived.KernelRfl
import Derived.Test.YtgepgbbjfhggfaaGreatDoorC0Code
set_option linter.unusedVariables false
set_option maxRecDepth 100000
noncomputable section
namespace Go.Proofs.YtgepgbbjfhggfaaGreatDoor.code
open Go.Ab
variable (H0 H:Qa) (k:Value->Qa->Prop) (A:Env)
theorem QdJ:Rt prog Tryz.f7 H0 k A H=Ret H0 k (A 0) H:=QC (by kernel_rfl)
def KS:PC:=So [Ol 0 false] (So [Ow 2 (.build Qbu [(0,1,(Ci 4)),(10,1,(Ci 5))]),Ow 3 (.bslice Qd 11 1 Qbu [(0,(t 2))]),Ow 4 (.call Qv [(Ci 54),t 3]),Cd 1 Qb [.int .i64 0,.slice none 0 0],Gu 2 1 4] (Sr [Ow 5 (.call Qr [(Ci 4),(Ci 0)]),Ow 6 (.call Xj [(Ci 5)]),Ow 7 (.bslice Qd 11 2 QoB [(0,(t 5)),(1,(t 6))]),Ow 8 (.call Qv [(Ci 1),t 7]),Ow 9 (.bslice 5 1 3 [.int .u8 0,.int .u8 0,.int .u8 0] [(0,(.const (.int .u8 131))),(1,(.const (.int .u8 192))),(2,(.const (.int .u8 5)))]),Ow 10 (.call QU [t 8,(Ci 0),t 9]),Oa 11 10,Gd 12 2 1 11 true,Og 13 (.bslice 5 1 2 [.int .u8 0,.int .u8 0] [(0,(.const (.int .u8 235))),(1,(.const (.int .u8 5)))]) 11 true,Og 14 (.call QU [t 12,(Ci 0),t 13]) 11 true,Oj 15 11 14,Oa 16 15,Gd 17 2 1 16 true,Og 18 (.bslice 5 1 5 [.int .u8 0,.int .u8 0,.int .u8 0,.int .u8 0,.int .u8 0] [(0,(.const (.int .u8 233))),(1,(.const (.int .u8 5))),(2,(.const (.int .u8 0))),(3,(.const (.int .u8 0))),(4,(.const (.int .u8 0)))]) 16 true,Og 19 (.call QU [t 17,(Ci 2),t 18]) 16 true,Oj 20 16 19,Oa 21 20,Og 22 (.call Qv [(Ci 50),(.const (.slice none 0 0))]) 21 true,Og 23 (.call XW [t 22]) 21 true,Ge 24 .eql 23 2 21 true,Oj 25 21 24,Oa 0 25]))
theorem Qeq:In0 prog XG Tryz.f7 KS:=jn0 Tryz.func7 (by kernel_rfl)
theorem Jh:Rt prog Tryz.f11 H0 k A H=Ret H0 k (A 4) H:=QC (by kernel_rfl)
def Yk:PC:=So [Ol 4 false] (Sr [Oa 5 0,Ow 6 (.gen (.convert 27 9 (t 5))),Oa 7 1,Ow 8 (.gen (.convert 27 9 (t 7))),Gp 9 .eql 6 8,Oa 4 9])
theorem JI:In2 prog Wb Tryz.f11 Yk:=jn2 Tryz.func11 (by kernel_rfl)
theorem Qgn:Rt prog Tryz.f24 H0 k A H=ldR true 2 (A 4) H λv=>Ret H0 k v H:=QwO (ty:=24) (by kernel_rfl) (by kernel_rfl) (by kernel_rfl)
def Qae:PC:=So [Cd 4 Qb [.int .i64 0,.slice none 0 0]] (Sr [Oa 5 0,Oa 6 1,Ow 7 (.build [.int .i64 0,.slice none 0 0] [(0,1,(t 5)),(1,1,(t 6))]),Gu 2 4 7])
theorem Qg0:In2 prog Qv Tryz.f24 Qae:=jn2 Tryz.func24 (by kernel_rfl)
theorem Qgo:Rt prog Tryz.f25 H0 k A H=Ret H0 k (A 6) H:=QC (by kernel_rfl)
def Qaf:PC:=So [Gr 3 Qb 0,Ol 6 false] (So [Od 10 2 3,Oa 11 1,Cb 12 JL 10 11,Oa 9 12,Ot 13 9 0,Ot 14 9 1,Oa 7 13,Oa 8 14] (Sr [Oa 15 8,Oe 16 .eql 15 0,Oa 17 16,Oo 18 7 17 true,Oo 19 2 17 true,Og 20 (.call Wb [t 18,t 19]) 17 true,Oj 21 17 20,Oa 6 21]))
theorem Qg1:In3 prog QU Tryz.f25 Qaf:=jn3 Tryz.func25 (by kernel_rfl)
theorem Qg2:Rt prog Tryz.f26 H0 k A H=ldR true 11 (A 4) H λv=>Ret H0 k v H:=QwO (ty:=58) (by kernel_rfl) (by kernel_rfl) (by kernel_rfl)
def Qbp:PC:=So [Cd 4 Qd Qbu] (Sr [Oa 5 0,Oa 6 1,Ow 7 (.build Ze2 [(0,1,(t 5)),(1,1,(t 6))]),Ow 8 (.build Qbu [(0,1,(Ci 1)),(1,2,(t 7))]),Gu 11 4 8])
theorem Qix:In2 prog Qr Tryz.f26 Qbp:=jn2 Tryz.func26 (by kernel_rfl)
theorem Qg3:Rt prog Tryz.f27 H0 k A H=ldR true 11 (A 2) H λv=>Ret H0 k v H:=QwO (ty:=58) (by kernel_rfl) (by kernel_rfl) (by kernel_rfl)
def Qbq:PC:=So [Cd 2 Qd Qbu] (Sr [Oa 3 0,Ow 4 (.build Qbu [(0,1,(Ci 3)),(10,1,(t 3))]),Gu 11 2 4])
theorem Qiy:In1 prog Xj Tryz.f27 Qbq:=jn1 Tryz.func27 (by kernel_rfl)
theorem Qer:Rt prog Tryz.f28 H0 k A H=Ret H0 k (A 2) H:=QC (by kernel_rfl)
def K2:PC:=So [Gr 1 Qb 0,Oi 2 0] (So [Od 6 2 1,Ca 7 Kn 6,Oa 5 7,Ot 8 5 0,Ot 9 5 1,Oa 3 8,Oa 4 9] (.seq (So [Oa 10 4,Oe 11 .neq 10 0] (Sc 11 (Sr [Oi 2 (-1)]) .skip)) (Sr [Oa 12 3,Ou 13 12,Oa 2 13])))
theorem Qfg:In1 prog XW Tryz.f28 K2:=jn1 Tryz.func28 (by kernel_rfl)
end Go.Proofs.YtgepgbbjfhggfaaGreatDoor.code
