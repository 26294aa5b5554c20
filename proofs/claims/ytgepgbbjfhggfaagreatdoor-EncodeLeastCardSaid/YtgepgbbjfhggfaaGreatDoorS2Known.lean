/- What is known ahead of the closed runs. -/
import Derived.Test.YtgepgbbjfhggfaaGreatDoorS1Laid
import Derived.Test.YtgepgbbjfhggfaaGreatDoorS0PA
import Derived.Test.YtgepgbbjfhggfaaGreatDoorS0PB
import Derived.Test.YtgepgbbjfhggfaaGreatDoorS0PC
set_option maxRecDepth 100000
namespace Go.Proofs.YtgepgbbjfhggfaaGreatDoor.tab
open Go.ChangeShapes Go.WideShapes Go.ChangeAt Go.RowKit
theorem QzS:Ab.IsExt Tryz.prog 396 .count:=⟨Tryz.f396,Tryz.func396,by kernel_rfl,by kernel_rfl,by kernel_rfl,by kernel_rfl⟩
theorem QzT:Ab.IsExt Tryz.prog 421 .indexByte:=⟨Tryz.f421,Tryz.func421,by kernel_rfl,by kernel_rfl,by kernel_rfl,by kernel_rfl⟩
theorem QdK:Ab.CallOk Tryz.prog (Ab.xknown xt):=Ab.xknown_ok fun f k h=>by
 unfold xt at h
 cases h396:Nat.beq f 396 with
 | true=>
  rw[h396]at h
  cases h
  obtain rfl:=Nat.eq_of_beq_eq_true h396
  exact QzS
 | false=>
  rw[h396]at h
  cases h421:Nat.beq f 421 with
  | true=>
   rw[h421]at h
   cases h
   obtain rfl:=Nat.eq_of_beq_eq_true h421
   exact QzT
  | false=>
   rw[h421]at h
   cases h
theorem tabs_low:∀t∈tabs,t.id<Tryz.prog.globals.size:=by
 have h:(tabs.all fun t=>Nat.blt t.id Tryz.prog.globals.size)=true:=by kernel_rfl
 intro t ht
 have:=List.all_eq_true.1 h t ht
 simpa using this
theorem W7 {kn:Ab.CallF} (hk:Ab.CallOk Tryz.prog kn) {l:List Ab.SumI} (h:X0 kn l=true) (he:(l.all fun s=>Ab.entered Tryz.prog s.f)=true):∀s∈l,Ab.SumIOk Tryz.prog tabs s:=fun s hs=>
 Ab.sumI_ok hk (List.all_eq_true.1 he s hs) (List.all_eq_true.1 h s hs)
theorem Qys:∀f,∀s∈QA1 f,Ab.SumIOk Tryz.prog tabs s:=fun f s hs=>by cases hs
theorem Qq3:∀s∈Qpj,Ab.SumIOk Tryz.prog tabs s:=W7 QdK QsI (by kernel_rfl)
theorem Qq4:∀s∈Qpk,Ab.SumIOk Tryz.prog tabs s:=W7 QdK QsJ (by kernel_rfl)
theorem Qq5:∀s∈Qpl,Ab.SumIOk Tryz.prog tabs s:=W7 QdK QsK (by kernel_rfl)
theorem Qq6:∀s∈Qpm,Ab.SumIOk Tryz.prog tabs s:=W7 QdK QsL (by kernel_rfl)
theorem QtS:∀f,∀s∈Qyk f,Ab.SumIOk Tryz.prog tabs s:=fun f s hs=>by
 unfold Qyk at hs
 cases h:Nat.beq f 190 with
 | true=>
  rw[h,cond_true]at hs
  simp only[List.mem_append]at hs
  rcases hs with((hs | hs) | hs) | hs
  ·exact Qq3 s hs
  ·exact Qq4 s hs
  ·exact Qq5 s hs
  ·exact Qq6 s hs
 | false=>
  rw[h,cond_false]at hs
  exact Qys f s hs
theorem QzU:Ab.CallOk Tryz.prog kn1:=Ab.orKnown_ok QdK (Ab.byFn_ok tabs_ok tabs_low QtS)
theorem Qq7:∀s∈Qpn,Ab.SumIOk Tryz.prog tabs s:=W7 QzU QsM (by kernel_rfl)
theorem QtT:∀f,∀s∈Qyl f,Ab.SumIOk Tryz.prog tabs s:=fun f s hs=>by
 unfold Qyl at hs
 cases h:Nat.beq f 315 with
 | true=>
  rw[h,cond_true]at hs
  exact Qq7 s hs
 | false=>
  rw[h,cond_false]at hs
  exact QtS f s hs
theorem QeW:Ab.CallOk Tryz.prog kn2:=Ab.orKnown_ok QdK (Ab.byFn_ok tabs_ok tabs_low QtT)
theorem Qq8:∀s∈Qpo,Ab.SumIOk Tryz.prog tabs s:=W7 QeW QsN (by kernel_rfl)
theorem Qq9:∀s∈Qpp,Ab.SumIOk Tryz.prog tabs s:=W7 QeW QsO (by kernel_rfl)
theorem Qra:∀s∈Qpq,Ab.SumIOk Tryz.prog tabs s:=W7 QeW QsP (by kernel_rfl)
theorem Qrb:∀s∈Qpr,Ab.SumIOk Tryz.prog tabs s:=W7 QeW QsQ (by kernel_rfl)
theorem Qrc:∀s∈Qps,Ab.SumIOk Tryz.prog tabs s:=W7 QeW QsR (by kernel_rfl)
theorem Qrd:∀s∈Qpt,Ab.SumIOk Tryz.prog tabs s:=W7 QeW QsS (by kernel_rfl)
theorem Qre:∀s∈Qpu,Ab.SumIOk Tryz.prog tabs s:=W7 QeW QsT (by kernel_rfl)
theorem Qrf:∀s∈Qpv,Ab.SumIOk Tryz.prog tabs s:=W7 QeW QsU (by kernel_rfl)
theorem QtU:∀f,∀s∈Qym f,Ab.SumIOk Tryz.prog tabs s:=fun f s hs=>by
 unfold Qym at hs
 cases h:Nat.beq f 187 with
 | true=>
  rw[h,cond_true]at hs
  simp only[List.mem_append]at hs
  rcases hs with((((((hs | hs) | hs) | hs) | hs) | hs) | hs) | hs
  ·exact Qq8 s hs
  ·exact Qq9 s hs
  ·exact Qra s hs
  ·exact Qrb s hs
  ·exact Qrc s hs
  ·exact Qrd s hs
  ·exact Qre s hs
  ·exact Qrf s hs
 | false=>
  rw[h,cond_false]at hs
  exact QtT f s hs
theorem QzV:Ab.CallOk Tryz.prog kn3:=Ab.orKnown_ok QdK (Ab.byFn_ok tabs_ok tabs_low QtU)
theorem all_sums3_0:∀s∈Qpw,Ab.SumIOk Tryz.prog tabs s:=W7 QzV QsV (by kernel_rfl)
theorem QtV:∀f,∀s∈Qyn f,Ab.SumIOk Tryz.prog tabs s:=fun f s hs=>by
 unfold Qyn at hs
 cases h:Nat.beq f 97 with
 | true=>
  rw[h,cond_true]at hs
  exact all_sums3_0 s hs
 | false=>
  rw[h,cond_false]at hs
  exact QtU f s hs
theorem QzW:Ab.CallOk Tryz.prog kn4:=Ab.orKnown_ok QdK (Ab.byFn_ok tabs_ok tabs_low QtV)
theorem all_sums4_0:∀s∈Qpx,Ab.SumIOk Tryz.prog tabs s:=W7 QzW QsW (by kernel_rfl)
theorem QtW:∀f,∀s∈Qyo f,Ab.SumIOk Tryz.prog tabs s:=fun f s hs=>by
 unfold Qyo at hs
 cases h:Nat.beq f 98 with
 | true=>
  rw[h,cond_true]at hs
  exact all_sums4_0 s hs
 | false=>
  rw[h,cond_false]at hs
  exact QtV f s hs
theorem QzX:Ab.CallOk Tryz.prog kn5:=Ab.orKnown_ok QdK (Ab.byFn_ok tabs_ok tabs_low QtW)
theorem all_sums5_0:∀s∈Qpy,Ab.SumIOk Tryz.prog tabs s:=W7 QzX QsX (by kernel_rfl)
theorem QtX:∀f,∀s∈Qyp f,Ab.SumIOk Tryz.prog tabs s:=fun f s hs=>by
 unfold Qyp at hs
 cases h:Nat.beq f 99 with
 | true=>
  rw[h,cond_true]at hs
  exact all_sums5_0 s hs
 | false=>
  rw[h,cond_false]at hs
  exact QtW f s hs
theorem QzY:Ab.CallOk Tryz.prog kn6:=Ab.orKnown_ok QdK (Ab.byFn_ok tabs_ok tabs_low QtX)
theorem all_sums6_0:∀s∈Qpz,Ab.SumIOk Tryz.prog tabs s:=W7 QzY QsY (by kernel_rfl)
theorem QtY:∀f,∀s∈Qyq f,Ab.SumIOk Tryz.prog tabs s:=fun f s hs=>by
 unfold Qyq at hs
 cases h:Nat.beq f 100 with
 | true=>
  rw[h,cond_true]at hs
  exact all_sums6_0 s hs
 | false=>
  rw[h,cond_false]at hs
  exact QtX f s hs
theorem QzZ:Ab.CallOk Tryz.prog kn7:=Ab.orKnown_ok QdK (Ab.byFn_ok tabs_ok tabs_low QtY)
theorem all_sums7_0:∀s∈QpA,Ab.SumIOk Tryz.prog tabs s:=W7 QzZ QsZ (by kernel_rfl)
theorem Qyt:∀f,∀s∈QzQ f,Ab.SumIOk Tryz.prog tabs s:=fun f s hs=>by
 unfold QzQ at hs
 cases h:Nat.beq f 101 with
 | true=>
  rw[h,cond_true]at hs
  exact all_sums7_0 s hs
 | false=>
  rw[h,cond_false]at hs
  exact QtY f s hs
theorem Qz0:Ab.CallOk Tryz.prog kn8:=Ab.orKnown_ok QdK (Ab.byFn_ok tabs_ok tabs_low Qyt)
theorem all_sums8_0:∀s∈QtR,Ab.SumIOk Tryz.prog tabs s:=W7 Qz0 Qs0 (by kernel_rfl)
end Go.Proofs.YtgepgbbjfhggfaaGreatDoor.tab
