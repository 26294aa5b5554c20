/- What is known ahead of the closed runs. -/
import Derived.Test.YtfofbicfabokbaaGreatDoorS1Laid
import Derived.Test.YtfofbicfabokbaaGreatDoorS0PA
import Derived.Test.YtfofbicfabokbaaGreatDoorS0PB
import Derived.Test.YtfofbicfabokbaaGreatDoorS0PC
set_option maxRecDepth 100000
namespace Go.Proofs.YtfofbicfabokbaaGreatDoor.tab
open Go.ChangeShapes Go.WideShapes Go.ChangeAt Go.RowKit
theorem Qww:Ab.IsExt Tryz.prog 323 .count:=⟨Tryz.f323,Tryz.func323,by kernel_rfl,by kernel_rfl,by kernel_rfl,by kernel_rfl⟩
theorem Qwx:Ab.IsExt Tryz.prog 339 .indexByte:=⟨Tryz.f339,Tryz.func339,by kernel_rfl,by kernel_rfl,by kernel_rfl,by kernel_rfl⟩
theorem xt_ok:Ab.CallOk Tryz.prog (Ab.xknown xt):=Ab.xknown_ok fun f k h=>by
 unfold xt at h
 cases h323:Nat.beq f 323 with
 | true=>
  rw[h323]at h
  cases h
  obtain rfl:=Nat.eq_of_beq_eq_true h323
  exact Qww
 | false=>
  rw[h323]at h
  cases h339:Nat.beq f 339 with
  | true=>
   rw[h339]at h
   cases h
   obtain rfl:=Nat.eq_of_beq_eq_true h339
   exact Qwx
  | false=>
   rw[h339]at h
   cases h
theorem tabs_low:∀t∈tabs,t.id<Tryz.prog.globals.size:=by
 have h:(tabs.all fun t=>Nat.blt t.id Tryz.prog.globals.size)=true:=by kernel_rfl
 intro t ht
 have:=List.all_eq_true.1 h t ht
 simpa using this
theorem Xg {kn:Ab.CallF} (hk:Ab.CallOk Tryz.prog kn) {l:List Ab.SumI} (h:X6 kn l=true) (he:(l.all fun s=>Ab.entered Tryz.prog s.f)=true):∀s∈l,Ab.SumIOk Tryz.prog tabs s:=fun s hs=>
 Ab.sumI_ok hk (List.all_eq_true.1 he s hs) (List.all_eq_true.1 h s hs)
theorem QuS:∀f,∀s∈Qxk f,Ab.SumIOk Tryz.prog tabs s:=fun f s hs=>by cases hs
theorem QmY:∀s∈Qlk,Ab.SumIOk Tryz.prog tabs s:=Xg xt_ok QoH (by kernel_rfl)
theorem QmZ:∀s∈Qll,Ab.SumIOk Tryz.prog tabs s:=Xg xt_ok QoI (by kernel_rfl)
theorem Qm0:∀s∈Qlm,Ab.SumIOk Tryz.prog tabs s:=Xg xt_ok QoJ (by kernel_rfl)
theorem Qm1:∀s∈Qln,Ab.SumIOk Tryz.prog tabs s:=Xg xt_ok QoK (by kernel_rfl)
theorem QpG:∀f,∀s∈QuK f,Ab.SumIOk Tryz.prog tabs s:=fun f s hs=>by
 unfold QuK at hs
 cases h:Nat.beq f 220 with
 | true=>
  rw[h,cond_true]at hs
  simp only[List.mem_append]at hs
  rcases hs with((hs | hs) | hs) | hs
  ·exact QmY s hs
  ·exact QmZ s hs
  ·exact Qm0 s hs
  ·exact Qm1 s hs
 | false=>
  rw[h,cond_false]at hs
  exact QuS f s hs
theorem Qwy:Ab.CallOk Tryz.prog kn1:=Ab.orKnown_ok xt_ok (Ab.byFn_ok tabs_ok tabs_low QpG)
theorem Qm2:∀s∈Qlo,Ab.SumIOk Tryz.prog tabs s:=Xg Qwy QoL (by kernel_rfl)
theorem QpH:∀f,∀s∈QuL f,Ab.SumIOk Tryz.prog tabs s:=fun f s hs=>by
 unfold QuL at hs
 cases h:Nat.beq f 278 with
 | true=>
  rw[h,cond_true]at hs
  exact Qm2 s hs
 | false=>
  rw[h,cond_false]at hs
  exact QpG f s hs
theorem QcZ:Ab.CallOk Tryz.prog kn2:=Ab.orKnown_ok xt_ok (Ab.byFn_ok tabs_ok tabs_low QpH)
theorem Qm3:∀s∈Qlp,Ab.SumIOk Tryz.prog tabs s:=Xg QcZ QoM (by kernel_rfl)
theorem Qm4:∀s∈Qlq,Ab.SumIOk Tryz.prog tabs s:=Xg QcZ QoN (by kernel_rfl)
theorem Qm5:∀s∈Qlr,Ab.SumIOk Tryz.prog tabs s:=Xg QcZ QoO (by kernel_rfl)
theorem Qm6:∀s∈Qls,Ab.SumIOk Tryz.prog tabs s:=Xg QcZ QoP (by kernel_rfl)
theorem Qm7:∀s∈Qlt,Ab.SumIOk Tryz.prog tabs s:=Xg QcZ QoQ (by kernel_rfl)
theorem Qm8:∀s∈Qlu,Ab.SumIOk Tryz.prog tabs s:=Xg QcZ QoR (by kernel_rfl)
theorem Qm9:∀s∈Qlv,Ab.SumIOk Tryz.prog tabs s:=Xg QcZ QoS (by kernel_rfl)
theorem Qna:∀s∈Qlw,Ab.SumIOk Tryz.prog tabs s:=Xg QcZ QoT (by kernel_rfl)
theorem QpI:∀f,∀s∈QuM f,Ab.SumIOk Tryz.prog tabs s:=fun f s hs=>by
 unfold QuM at hs
 cases h:Nat.beq f 217 with
 | true=>
  rw[h,cond_true]at hs
  simp only[List.mem_append]at hs
  rcases hs with((((((hs | hs) | hs) | hs) | hs) | hs) | hs) | hs
  ·exact Qm3 s hs
  ·exact Qm4 s hs
  ·exact Qm5 s hs
  ·exact Qm6 s hs
  ·exact Qm7 s hs
  ·exact Qm8 s hs
  ·exact Qm9 s hs
  ·exact Qna s hs
 | false=>
  rw[h,cond_false]at hs
  exact QpH f s hs
theorem Qwz:Ab.CallOk Tryz.prog kn3:=Ab.orKnown_ok xt_ok (Ab.byFn_ok tabs_ok tabs_low QpI)
theorem all_sums3_0:∀s∈Qlx,Ab.SumIOk Tryz.prog tabs s:=Xg Qwz QoU (by kernel_rfl)
theorem QpJ:∀f,∀s∈QuN f,Ab.SumIOk Tryz.prog tabs s:=fun f s hs=>by
 unfold QuN at hs
 cases h:Nat.beq f 133 with
 | true=>
  rw[h,cond_true]at hs
  exact all_sums3_0 s hs
 | false=>
  rw[h,cond_false]at hs
  exact QpI f s hs
theorem QwA:Ab.CallOk Tryz.prog kn4:=Ab.orKnown_ok xt_ok (Ab.byFn_ok tabs_ok tabs_low QpJ)
theorem all_sums4_0:∀s∈Qly,Ab.SumIOk Tryz.prog tabs s:=Xg QwA QoV (by kernel_rfl)
theorem QpK:∀f,∀s∈QuO f,Ab.SumIOk Tryz.prog tabs s:=fun f s hs=>by
 unfold QuO at hs
 cases h:Nat.beq f 134 with
 | true=>
  rw[h,cond_true]at hs
  exact all_sums4_0 s hs
 | false=>
  rw[h,cond_false]at hs
  exact QpJ f s hs
theorem QwB:Ab.CallOk Tryz.prog kn5:=Ab.orKnown_ok xt_ok (Ab.byFn_ok tabs_ok tabs_low QpK)
theorem all_sums5_0:∀s∈Qlz,Ab.SumIOk Tryz.prog tabs s:=Xg QwB QoW (by kernel_rfl)
theorem QpL:∀f,∀s∈QuP f,Ab.SumIOk Tryz.prog tabs s:=fun f s hs=>by
 unfold QuP at hs
 cases h:Nat.beq f 135 with
 | true=>
  rw[h,cond_true]at hs
  exact all_sums5_0 s hs
 | false=>
  rw[h,cond_false]at hs
  exact QpK f s hs
theorem QwC:Ab.CallOk Tryz.prog kn6:=Ab.orKnown_ok xt_ok (Ab.byFn_ok tabs_ok tabs_low QpL)
theorem all_sums6_0:∀s∈QlA,Ab.SumIOk Tryz.prog tabs s:=Xg QwC QoX (by kernel_rfl)
theorem QpM:∀f,∀s∈QuQ f,Ab.SumIOk Tryz.prog tabs s:=fun f s hs=>by
 unfold QuQ at hs
 cases h:Nat.beq f 136 with
 | true=>
  rw[h,cond_true]at hs
  exact all_sums6_0 s hs
 | false=>
  rw[h,cond_false]at hs
  exact QpL f s hs
theorem QwD:Ab.CallOk Tryz.prog kn7:=Ab.orKnown_ok xt_ok (Ab.byFn_ok tabs_ok tabs_low QpM)
theorem all_sums7_0:∀s∈QlB,Ab.SumIOk Tryz.prog tabs s:=Xg QwD QoY (by kernel_rfl)
theorem QuT:∀f,∀s∈Qwu f,Ab.SumIOk Tryz.prog tabs s:=fun f s hs=>by
 unfold Qwu at hs
 cases h:Nat.beq f 137 with
 | true=>
  rw[h,cond_true]at hs
  exact all_sums7_0 s hs
 | false=>
  rw[h,cond_false]at hs
  exact QpM f s hs
theorem QwE:Ab.CallOk Tryz.prog kn8:=Ab.orKnown_ok xt_ok (Ab.byFn_ok tabs_ok tabs_low QuT)
theorem all_sums8_0:∀s∈QpF,Ab.SumIOk Tryz.prog tabs s:=Xg QwE QoZ (by kernel_rfl)
end Go.Proofs.YtfofbicfabokbaaGreatDoor.tab
