/- What is known ahead of the closed runs. -/
import Derived.Test.YtgepgbbjfhggfaaGreatDoorS1Laid
import Derived.Test.YtgepgbbjfhggfaaGreatDoorS0PA
import Derived.Test.YtgepgbbjfhggfaaGreatDoorS0PB
import Derived.Test.YtgepgbbjfhggfaaGreatDoorS0PC
import Derived.Test.YtgepgbbjfhggfaaGreatDoorS0P9
import Derived.Test.YtgepgbbjfhggfaaGreatDoorS0PD
import Derived.Test.YtgepgbbjfhggfaaGreatDoorS0PE
set_option maxRecDepth 100000
namespace Go.Proofs.YtgepgbbjfhggfaaGreatDoor.tab
open Go.ChangeShapes Go.WideShapes Go.ChangeAt Go.RowKit
theorem QHV:Ab.IsExt Tryz.prog 396 .count:=⟨Tryz.f396,Tryz.func396,by kernel_rfl,by kernel_rfl,by kernel_rfl,by kernel_rfl⟩
theorem QHW:Ab.IsExt Tryz.prog 421 .indexByte:=⟨Tryz.f421,Tryz.func421,by kernel_rfl,by kernel_rfl,by kernel_rfl,by kernel_rfl⟩
theorem Qcn:Ab.CallOk Tryz.prog (Ab.xknown xt):=Ab.xknown_ok λf k h=>by
 unfold xt at h;cases h396:Nat.beq f 396 with
 | true=>
  rw[h396]at h;cases h;obtain rfl:=Nat.eq_of_beq_eq_true h396;exact QHV
 | false=>
  rw[h396]at h;cases h421:Nat.beq f 421 with
  | true=>
   rw[h421]at h;cases h;obtain rfl:=Nat.eq_of_beq_eq_true h421;exact QHW
  | false=>
   rw[h421]at h;cases h
theorem tabs_low:∀t∈tabs,t.id<Tryz.prog.globals.size:=by
 have h:(tabs.all λt=>Nat.blt t.id Tryz.prog.globals.size)=true:=by kernel_rfl
 intro t ht;have:=List.all_eq_true.1 h t ht;simpa using this
theorem Xe {kn:Ab.CallF}(hk:Ab.CallOk Tryz.prog kn){l:List Ab.SumI}(h:YH kn l=true)(he:(l.all λs=>Ab.entered Tryz.prog s.f)=true):∀s∈l,Ab.SumIOk Tryz.prog tabs s:=λs hs=>
 Ab.sumI_ok hk (List.all_eq_true.1 he s hs) (List.all_eq_true.1 h s hs)
theorem QGd:∀f,∀s∈QJj f,Ab.SumIOk Tryz.prog tabs s:=λf s hs=>by cases hs
theorem Qyb:∀s∈Qwa,Ab.SumIOk Tryz.prog tabs s:=Xe Qcn QzX (by kernel_rfl)
theorem Qyc:∀s∈Qwb,Ab.SumIOk Tryz.prog tabs s:=Xe Qcn QzY (by kernel_rfl)
theorem Qyd:∀s∈Qwc,Ab.SumIOk Tryz.prog tabs s:=Xe Qcn QzZ (by kernel_rfl)
theorem Qye:∀s∈Qwd,Ab.SumIOk Tryz.prog tabs s:=Xe Qcn Qz0 (by kernel_rfl)
theorem QA5:∀f,∀s∈QF3 f,Ab.SumIOk Tryz.prog tabs s:=λf s hs=>by
 unfold QF3 at hs;cases h:Nat.beq f 190 with
 | true=>
  rw[h,cond_true]at hs;simp only[List.mem_append]at hs;rcases hs with((hs | hs) | hs) | hs
  ·exact Qyb s hs
  ·exact Qyc s hs
  ·exact Qyd s hs
  ·exact Qye s hs
 | false=>
  rw[h,cond_false]at hs;exact QGd f s hs
theorem QHX:Ab.CallOk Tryz.prog kn1:=Ab.orKnown_ok Qcn (Ab.byFn_ok tabs_ok tabs_low QA5)
theorem Qyf:∀s∈Qwe,Ab.SumIOk Tryz.prog tabs s:=Xe QHX Qz1 (by kernel_rfl)
theorem QA6:∀f,∀s∈QF4 f,Ab.SumIOk Tryz.prog tabs s:=λf s hs=>by
 unfold QF4 at hs;cases h:Nat.beq f 315 with
 | true=>
  rw[h,cond_true]at hs;exact Qyf s hs
 | false=>
  rw[h,cond_false]at hs;exact QA5 f s hs
theorem Qlf:Ab.CallOk Tryz.prog kn2:=Ab.orKnown_ok Qcn (Ab.byFn_ok tabs_ok tabs_low QA6)
theorem Qyg:∀s∈Qwf,Ab.SumIOk Tryz.prog tabs s:=Xe Qlf Qz2 (by kernel_rfl)
theorem Qyh:∀s∈Qwg,Ab.SumIOk Tryz.prog tabs s:=Xe Qlf Qz3 (by kernel_rfl)
theorem Qyi:∀s∈Qwh,Ab.SumIOk Tryz.prog tabs s:=Xe Qlf Qz4 (by kernel_rfl)
theorem Qyj:∀s∈Qwi,Ab.SumIOk Tryz.prog tabs s:=Xe Qlf Qz5 (by kernel_rfl)
theorem Qyk:∀s∈Qwj,Ab.SumIOk Tryz.prog tabs s:=Xe Qlf Qz6 (by kernel_rfl)
theorem Qyl:∀s∈Qwk,Ab.SumIOk Tryz.prog tabs s:=Xe Qlf Qz7 (by kernel_rfl)
theorem Qym:∀s∈Qwl,Ab.SumIOk Tryz.prog tabs s:=Xe Qlf Qz8 (by kernel_rfl)
theorem Qyn:∀s∈Qwm,Ab.SumIOk Tryz.prog tabs s:=Xe Qlf Qz9 (by kernel_rfl)
theorem QA7:∀f,∀s∈QF5 f,Ab.SumIOk Tryz.prog tabs s:=λf s hs=>by
 unfold QF5 at hs;cases h:Nat.beq f 187 with
 | true=>
  rw[h,cond_true]at hs;simp only[List.mem_append]at hs;rcases hs with((((((hs | hs) | hs) | hs) | hs) | hs) | hs) | hs
  ·exact Qyg s hs
  ·exact Qyh s hs
  ·exact Qyi s hs
  ·exact Qyj s hs
  ·exact Qyk s hs
  ·exact Qyl s hs
  ·exact Qym s hs
  ·exact Qyn s hs
 | false=>
  rw[h,cond_false]at hs;exact QA6 f s hs
theorem QHY:Ab.CallOk Tryz.prog kn3:=Ab.orKnown_ok Qcn (Ab.byFn_ok tabs_ok tabs_low QA7)
theorem all_sums3_0:∀s∈Qwn,Ab.SumIOk Tryz.prog tabs s:=Xe QHY QAa (by kernel_rfl)
theorem QA8:∀f,∀s∈QF6 f,Ab.SumIOk Tryz.prog tabs s:=λf s hs=>by
 unfold QF6 at hs;cases h:Nat.beq f 97 with
 | true=>
  rw[h,cond_true]at hs;exact all_sums3_0 s hs
 | false=>
  rw[h,cond_false]at hs;exact QA7 f s hs
theorem QHZ:Ab.CallOk Tryz.prog kn4:=Ab.orKnown_ok Qcn (Ab.byFn_ok tabs_ok tabs_low QA8)
theorem all_sums4_0:∀s∈Qwo,Ab.SumIOk Tryz.prog tabs s:=Xe QHZ QAb (by kernel_rfl)
theorem QA9:∀f,∀s∈QF7 f,Ab.SumIOk Tryz.prog tabs s:=λf s hs=>by
 unfold QF7 at hs;cases h:Nat.beq f 98 with
 | true=>
  rw[h,cond_true]at hs;exact all_sums4_0 s hs
 | false=>
  rw[h,cond_false]at hs;exact QA8 f s hs
theorem QH0:Ab.CallOk Tryz.prog kn5:=Ab.orKnown_ok Qcn (Ab.byFn_ok tabs_ok tabs_low QA9)
theorem all_sums5_0:∀s∈Qwp,Ab.SumIOk Tryz.prog tabs s:=Xe QH0 QAc (by kernel_rfl)
theorem QBa:∀f,∀s∈QF8 f,Ab.SumIOk Tryz.prog tabs s:=λf s hs=>by
 unfold QF8 at hs;cases h:Nat.beq f 99 with
 | true=>
  rw[h,cond_true]at hs;exact all_sums5_0 s hs
 | false=>
  rw[h,cond_false]at hs;exact QA9 f s hs
theorem QH1:Ab.CallOk Tryz.prog kn6:=Ab.orKnown_ok Qcn (Ab.byFn_ok tabs_ok tabs_low QBa)
theorem all_sums6_0:∀s∈Qwq,Ab.SumIOk Tryz.prog tabs s:=Xe QH1 QAd (by kernel_rfl)
theorem QBb:∀f,∀s∈QF9 f,Ab.SumIOk Tryz.prog tabs s:=λf s hs=>by
 unfold QF9 at hs;cases h:Nat.beq f 100 with
 | true=>
  rw[h,cond_true]at hs;exact all_sums6_0 s hs
 | false=>
  rw[h,cond_false]at hs;exact QBa f s hs
theorem QH2:Ab.CallOk Tryz.prog kn7:=Ab.orKnown_ok Qcn (Ab.byFn_ok tabs_ok tabs_low QBb)
theorem all_sums7_0:∀s∈Qwr,Ab.SumIOk Tryz.prog tabs s:=Xe QH2 QAe (by kernel_rfl)
theorem QBc:∀f,∀s∈QGa f,Ab.SumIOk Tryz.prog tabs s:=λf s hs=>by
 unfold QGa at hs;cases h:Nat.beq f 101 with
 | true=>
  rw[h,cond_true]at hs;exact all_sums7_0 s hs
 | false=>
  rw[h,cond_false]at hs;exact QBb f s hs
theorem QH3:Ab.CallOk Tryz.prog kn8:=Ab.orKnown_ok Qcn (Ab.byFn_ok tabs_ok tabs_low QBc)
theorem all_sums8_0:∀s∈Qws,Ab.SumIOk Tryz.prog tabs s:=Xe QH3 QAf (by kernel_rfl)
theorem QBd:∀f,∀s∈QGb f,Ab.SumIOk Tryz.prog tabs s:=λf s hs=>by
 unfold QGb at hs;cases h:Nat.beq f 102 with
 | true=>
  rw[h,cond_true]at hs;exact all_sums8_0 s hs
 | false=>
  rw[h,cond_false]at hs;exact QBc f s hs
theorem QH4:Ab.CallOk Tryz.prog kn9:=Ab.orKnown_ok Qcn (Ab.byFn_ok tabs_ok tabs_low QBd)
theorem all_sums9_0:∀s∈Qwt,Ab.SumIOk Tryz.prog tabs s:=Xe QH4 QAg (by kernel_rfl)
theorem Qyo:∀f,∀s∈QA1 f,Ab.SumIOk Tryz.prog tabs s:=λf s hs=>by
 unfold QA1 at hs;cases h:Nat.beq f 91 with
 | true=>
  rw[h,cond_true]at hs;exact all_sums9_0 s hs
 | false=>
  rw[h,cond_false]at hs;exact QBd f s hs
theorem QGe:Ab.CallOk Tryz.prog QJk:=Ab.orKnown_ok Qcn (Ab.byFn_ok tabs_ok tabs_low Qyo)
theorem all_sums10_0:∀s∈Qta,Ab.SumIOk Tryz.prog tabs s:=Xe QGe Qx6 (by kernel_rfl)
theorem Qyp:∀f,∀s∈QA2 f,Ab.SumIOk Tryz.prog tabs s:=λf s hs=>by
 unfold QA2 at hs;cases h:Nat.beq f 92 with
 | true=>
  rw[h,cond_true]at hs;exact all_sums10_0 s hs
 | false=>
  rw[h,cond_false]at hs;exact Qyo f s hs
theorem QGf:Ab.CallOk Tryz.prog QJl:=Ab.orKnown_ok Qcn (Ab.byFn_ok tabs_ok tabs_low Qyp)
theorem all_sums11_0:∀s∈Qtb,Ab.SumIOk Tryz.prog tabs s:=Xe QGf Qx7 (by kernel_rfl)
theorem Qyq:∀f,∀s∈QA3 f,Ab.SumIOk Tryz.prog tabs s:=λf s hs=>by
 unfold QA3 at hs;cases h:Nat.beq f 93 with
 | true=>
  rw[h,cond_true]at hs;exact all_sums11_0 s hs
 | false=>
  rw[h,cond_false]at hs;exact Qyp f s hs
theorem QGg:Ab.CallOk Tryz.prog QJm:=Ab.orKnown_ok Qcn (Ab.byFn_ok tabs_ok tabs_low Qyq)
theorem all_sums12_0:∀s∈Qtc,Ab.SumIOk Tryz.prog tabs s:=Xe QGg Qx8 (by kernel_rfl)
theorem Qyr:∀f,∀s∈QA4 f,Ab.SumIOk Tryz.prog tabs s:=λf s hs=>by
 unfold QA4 at hs;cases h:Nat.beq f 94 with
 | true=>
  rw[h,cond_true]at hs;exact all_sums12_0 s hs
 | false=>
  rw[h,cond_false]at hs;exact Qyq f s hs
theorem QGh:Ab.CallOk Tryz.prog QJn:=Ab.orKnown_ok Qcn (Ab.byFn_ok tabs_ok tabs_low Qyr)
theorem all_sums13_0:∀s∈Qtd,Ab.SumIOk Tryz.prog tabs s:=Xe QGh Qx9 (by kernel_rfl)
theorem QEd:∀f,∀s∈QEa f,Ab.SumIOk Tryz.prog tabs s:=λf s hs=>by
 unfold QEa at hs;cases h:Nat.beq f 95 with
 | true=>
  rw[h,cond_true]at hs;exact all_sums13_0 s hs
 | false=>
  rw[h,cond_false]at hs;exact Qyr f s hs
theorem QGi:Ab.CallOk Tryz.prog QJo:=Ab.orKnown_ok Qcn (Ab.byFn_ok tabs_ok tabs_low QEd)
theorem all_sums14_0:∀s∈Qx5,Ab.SumIOk Tryz.prog tabs s:=Xe QGi Qya (by kernel_rfl)
end Go.Proofs.YtgepgbbjfhggfaaGreatDoor.tab
