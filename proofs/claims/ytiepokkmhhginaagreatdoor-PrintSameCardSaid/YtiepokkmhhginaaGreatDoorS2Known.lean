/- What is known ahead of the closed runs. -/
import Derived.Test.YtiepokkmhhginaaGreatDoorS1Laid
import Derived.Test.YtiepokkmhhginaaGreatDoorS0PA
import Derived.Test.YtiepokkmhhginaaGreatDoorS0PB
import Derived.Test.YtiepokkmhhginaaGreatDoorS0PC
set_option maxRecDepth 100000
namespace Go.Proofs.YtiepokkmhhginaaGreatDoor.tab
open Go.ChangeShapes Go.WideShapes Go.ChangeAt Go.RowKit
theorem QEN:Ab.IsExt Tryz.prog 282 .count:=⟨Tryz.f282,Tryz.func282,by kernel_rfl,by kernel_rfl,by kernel_rfl,by kernel_rfl⟩
theorem QEO:Ab.IsExt Tryz.prog 249 .indexByte:=⟨Tryz.f249,Tryz.func249,by kernel_rfl,by kernel_rfl,by kernel_rfl,by kernel_rfl⟩
theorem QF2:Ab.IsExt Tryz.prog 65 .noEscape:=⟨Tryz.f65,Tryz.func65,by kernel_rfl,by kernel_rfl,by kernel_rfl,by kernel_rfl⟩
theorem QfQ:Ab.CallOk Tryz.prog (Ab.xknown xt):=Ab.xknown_ok λf k h=>by
 unfold xt at h;cases h282:Nat.beq f 282 with
 | true=>
  rw[h282]at h;cases h;obtain rfl:=Nat.eq_of_beq_eq_true h282;exact QEN
 | false=>
  rw[h282]at h;cases h249:Nat.beq f 249 with
  | true=>
   rw[h249]at h;cases h;obtain rfl:=Nat.eq_of_beq_eq_true h249;exact QEO
  | false=>
   rw[h249]at h;cases h65:Nat.beq f 65 with
   | true=>
    rw[h65]at h;cases h;obtain rfl:=Nat.eq_of_beq_eq_true h65;exact QF2
   | false=>
    rw[h65]at h;cases h
theorem tabs_low:∀t∈tabs,t.id<Tryz.prog.globals.size:=by
 have h:(tabs.all λt=>Nat.blt t.id Tryz.prog.globals.size)=true:=by kernel_rfl
 intro t ht;have:=List.all_eq_true.1 h t ht;simpa using this
theorem Xq {kn:Ab.CallF} (hk:Ab.CallOk Tryz.prog kn) {l:List Ab.SumI} (h:YH kn l=true) (he:(l.all λs=>Ab.entered Tryz.prog s.f)=true):∀s∈l,Ab.SumIOk Tryz.prog tabs s:=λs hs=>
 Ab.sumI_ok hk (List.all_eq_true.1 he s hs) (List.all_eq_true.1 h s hs)
theorem QC4:∀f,∀s∈QF1 f,Ab.SumIOk Tryz.prog tabs s:=λf s hs=>by cases hs
theorem QuA:∀s∈Qss,Ab.SumIOk Tryz.prog tabs s:=Xq QfQ Qwc (by kernel_rfl)
theorem QuB:∀s∈Qst,Ab.SumIOk Tryz.prog tabs s:=Xq QfQ Qwd (by kernel_rfl)
theorem QuC:∀s∈Qsu,Ab.SumIOk Tryz.prog tabs s:=Xq QfQ Qwe (by kernel_rfl)
theorem QuD:∀s∈Qsv,Ab.SumIOk Tryz.prog tabs s:=Xq QfQ Qwf (by kernel_rfl)
theorem QxB:∀f,∀s∈QCW f,Ab.SumIOk Tryz.prog tabs s:=λf s hs=>by
 unfold QCW at hs;cases h:Nat.beq f 69 with
 | true=>
  rw[h,cond_true]at hs;simp only[List.mem_append]at hs;rcases hs with((hs | hs) | hs) | hs
  ·exact QuA s hs
  ·exact QuB s hs
  ·exact QuC s hs
  ·exact QuD s hs
 | false=>
  rw[h,cond_false]at hs;exact QC4 f s hs
theorem QEP:Ab.CallOk Tryz.prog kn1:=Ab.orKnown_ok QfQ (Ab.byFn_ok tabs_ok tabs_low QxB)
theorem QuE:∀s∈Qsw,Ab.SumIOk Tryz.prog tabs s:=Xq QEP Qwg (by kernel_rfl)
theorem QxC:∀f,∀s∈QCX f,Ab.SumIOk Tryz.prog tabs s:=λf s hs=>by
 unfold QCX at hs;cases h:Nat.beq f 221 with
 | true=>
  rw[h,cond_true]at hs;exact QuE s hs
 | false=>
  rw[h,cond_false]at hs;exact QxB f s hs
theorem Qhc:Ab.CallOk Tryz.prog kn2:=Ab.orKnown_ok QfQ (Ab.byFn_ok tabs_ok tabs_low QxC)
theorem QuF:∀s∈Qsx,Ab.SumIOk Tryz.prog tabs s:=Xq Qhc Qwh (by kernel_rfl)
theorem QuG:∀s∈Qsy,Ab.SumIOk Tryz.prog tabs s:=Xq Qhc Qwi (by kernel_rfl)
theorem QuH:∀s∈Qsz,Ab.SumIOk Tryz.prog tabs s:=Xq Qhc Qwj (by kernel_rfl)
theorem QuI:∀s∈QsA,Ab.SumIOk Tryz.prog tabs s:=Xq Qhc Qwk (by kernel_rfl)
theorem QuJ:∀s∈QsB,Ab.SumIOk Tryz.prog tabs s:=Xq Qhc Qwl (by kernel_rfl)
theorem QuK:∀s∈QsC,Ab.SumIOk Tryz.prog tabs s:=Xq Qhc Qwm (by kernel_rfl)
theorem QuL:∀s∈QsD,Ab.SumIOk Tryz.prog tabs s:=Xq Qhc Qwn (by kernel_rfl)
theorem QuM:∀s∈QsE,Ab.SumIOk Tryz.prog tabs s:=Xq Qhc Qwo (by kernel_rfl)
theorem QxD:∀f,∀s∈QCY f,Ab.SumIOk Tryz.prog tabs s:=λf s hs=>by
 unfold QCY at hs;cases h:Nat.beq f 150 with
 | true=>
  rw[h,cond_true]at hs;simp only[List.mem_append]at hs;rcases hs with((((((hs | hs) | hs) | hs) | hs) | hs) | hs) | hs
  ·exact QuF s hs
  ·exact QuG s hs
  ·exact QuH s hs
  ·exact QuI s hs
  ·exact QuJ s hs
  ·exact QuK s hs
  ·exact QuL s hs
  ·exact QuM s hs
 | false=>
  rw[h,cond_false]at hs;exact QxC f s hs
theorem QEQ:Ab.CallOk Tryz.prog kn3:=Ab.orKnown_ok QfQ (Ab.byFn_ok tabs_ok tabs_low QxD)
theorem all_sums3_0:∀s∈QsF,Ab.SumIOk Tryz.prog tabs s:=Xq QEQ Qwp (by kernel_rfl)
theorem QxE:∀f,∀s∈QCZ f,Ab.SumIOk Tryz.prog tabs s:=λf s hs=>by
 unfold QCZ at hs;cases h:Nat.beq f 78 with
 | true=>
  rw[h,cond_true]at hs;exact all_sums3_0 s hs
 | false=>
  rw[h,cond_false]at hs;exact QxD f s hs
theorem QER:Ab.CallOk Tryz.prog kn4:=Ab.orKnown_ok QfQ (Ab.byFn_ok tabs_ok tabs_low QxE)
theorem all_sums4_0:∀s∈QsG,Ab.SumIOk Tryz.prog tabs s:=Xq QER Qwq (by kernel_rfl)
theorem QxF:∀f,∀s∈QC0 f,Ab.SumIOk Tryz.prog tabs s:=λf s hs=>by
 unfold QC0 at hs;cases h:Nat.beq f 79 with
 | true=>
  rw[h,cond_true]at hs;exact all_sums4_0 s hs
 | false=>
  rw[h,cond_false]at hs;exact QxE f s hs
theorem QES:Ab.CallOk Tryz.prog kn5:=Ab.orKnown_ok QfQ (Ab.byFn_ok tabs_ok tabs_low QxF)
theorem all_sums5_0:∀s∈QsH,Ab.SumIOk Tryz.prog tabs s:=Xq QES Qwr (by kernel_rfl)
theorem QxG:∀f,∀s∈QC1 f,Ab.SumIOk Tryz.prog tabs s:=λf s hs=>by
 unfold QC1 at hs;cases h:Nat.beq f 80 with
 | true=>
  rw[h,cond_true]at hs;exact all_sums5_0 s hs
 | false=>
  rw[h,cond_false]at hs;exact QxF f s hs
theorem QET:Ab.CallOk Tryz.prog kn6:=Ab.orKnown_ok QfQ (Ab.byFn_ok tabs_ok tabs_low QxG)
theorem all_sums6_0:∀s∈QsI,Ab.SumIOk Tryz.prog tabs s:=Xq QET Qws (by kernel_rfl)
theorem QxH:∀f,∀s∈QC2 f,Ab.SumIOk Tryz.prog tabs s:=λf s hs=>by
 unfold QC2 at hs;cases h:Nat.beq f 81 with
 | true=>
  rw[h,cond_true]at hs;exact all_sums6_0 s hs
 | false=>
  rw[h,cond_false]at hs;exact QxG f s hs
theorem QEU:Ab.CallOk Tryz.prog kn7:=Ab.orKnown_ok QfQ (Ab.byFn_ok tabs_ok tabs_low QxH)
theorem all_sums7_0:∀s∈QsJ,Ab.SumIOk Tryz.prog tabs s:=Xq QEU Qwt (by kernel_rfl)
theorem QC5:∀f,∀s∈QEM f,Ab.SumIOk Tryz.prog tabs s:=λf s hs=>by
 unfold QEM at hs;cases h:Nat.beq f 82 with
 | true=>
  rw[h,cond_true]at hs;exact all_sums7_0 s hs
 | false=>
  rw[h,cond_false]at hs;exact QxH f s hs
theorem QEV:Ab.CallOk Tryz.prog kn8:=Ab.orKnown_ok QfQ (Ab.byFn_ok tabs_ok tabs_low QC5)
theorem all_sums8_0:∀s∈QxA,Ab.SumIOk Tryz.prog tabs s:=Xq QEV Qwu (by kernel_rfl)
end Go.Proofs.YtiepokkmhhginaaGreatDoor.tab
