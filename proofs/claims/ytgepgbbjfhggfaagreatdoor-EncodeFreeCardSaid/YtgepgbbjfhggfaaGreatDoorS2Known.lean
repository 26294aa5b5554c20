/- What is known ahead of the closed runs. -/
import Derived.Test.YtgepgbbjfhggfaaGreatDoorS1Laid
import Derived.Test.YtgepgbbjfhggfaaGreatDoorS0PA
import Derived.Test.YtgepgbbjfhggfaaGreatDoorS0PB
import Derived.Test.YtgepgbbjfhggfaaGreatDoorS0PC
set_option maxRecDepth 100000
namespace Go.Proofs.YtgepgbbjfhggfaaGreatDoor.tab
open Go.ChangeShapes Go.WideShapes Go.ChangeAt Go.RowKit
theorem QCv:Ab.IsExt Tryz.prog 396 .count:=⟨Tryz.f396,Tryz.func396,by kernel_rfl,by kernel_rfl,by kernel_rfl,by kernel_rfl⟩
theorem QCw:Ab.IsExt Tryz.prog 421 .indexByte:=⟨Tryz.f421,Tryz.func421,by kernel_rfl,by kernel_rfl,by kernel_rfl,by kernel_rfl⟩
theorem Qe8:Ab.CallOk Tryz.prog (Ab.xknown xt):=Ab.xknown_ok λf k h=>by
 unfold xt at h;cases h396:Nat.beq f 396 with
 | true=>
  rw[h396]at h;cases h;obtain rfl:=Nat.eq_of_beq_eq_true h396;exact QCv
 | false=>
  rw[h396]at h;cases h421:Nat.beq f 421 with
  | true=>
   rw[h421]at h;cases h;obtain rfl:=Nat.eq_of_beq_eq_true h421;exact QCw
  | false=>
   rw[h421]at h;cases h
theorem tabs_low:∀t∈tabs,t.id<Tryz.prog.globals.size:=by
 have h:(tabs.all λt=>Nat.blt t.id Tryz.prog.globals.size)=true:=by kernel_rfl
 intro t ht;have:=List.all_eq_true.1 h t ht;simpa using this
theorem Xu {kn:Ab.CallF} (hk:Ab.CallOk Tryz.prog kn) {l:List Ab.SumI} (h:YC kn l=true) (he:(l.all λs=>Ab.entered Tryz.prog s.f)=true):∀s∈l,Ab.SumIOk Tryz.prog tabs s:=λs hs=>
 Ab.sumI_ok hk (List.all_eq_true.1 he s hs) (List.all_eq_true.1 h s hs)
theorem QAT:∀f,∀s∈QDX f,Ab.SumIOk Tryz.prog tabs s:=λf s hs=>by cases hs
theorem Qs0:∀s∈Qrb,Ab.SumIOk Tryz.prog tabs s:=Xu Qe8 QuI (by kernel_rfl)
theorem Qs1:∀s∈Qrc,Ab.SumIOk Tryz.prog tabs s:=Xu Qe8 QuJ (by kernel_rfl)
theorem Qs2:∀s∈Qrd,Ab.SumIOk Tryz.prog tabs s:=Xu Qe8 QuK (by kernel_rfl)
theorem Qs3:∀s∈Qre,Ab.SumIOk Tryz.prog tabs s:=Xu Qe8 QuL (by kernel_rfl)
theorem Qv0:∀f,∀s∈QAL f,Ab.SumIOk Tryz.prog tabs s:=λf s hs=>by
 unfold QAL at hs;cases h:Nat.beq f 190 with
 | true=>
  rw[h,cond_true]at hs;simp only[List.mem_append]at hs;rcases hs with((hs | hs) | hs) | hs
  ·exact Qs0 s hs
  ·exact Qs1 s hs
  ·exact Qs2 s hs
  ·exact Qs3 s hs
 | false=>
  rw[h,cond_false]at hs;exact QAT f s hs
theorem QCx:Ab.CallOk Tryz.prog kn1:=Ab.orKnown_ok Qe8 (Ab.byFn_ok tabs_ok tabs_low Qv0)
theorem Qs4:∀s∈Qrf,Ab.SumIOk Tryz.prog tabs s:=Xu QCx QuM (by kernel_rfl)
theorem Qv1:∀f,∀s∈QAM f,Ab.SumIOk Tryz.prog tabs s:=λf s hs=>by
 unfold QAM at hs;cases h:Nat.beq f 315 with
 | true=>
  rw[h,cond_true]at hs;exact Qs4 s hs
 | false=>
  rw[h,cond_false]at hs;exact Qv0 f s hs
theorem Qgr:Ab.CallOk Tryz.prog kn2:=Ab.orKnown_ok Qe8 (Ab.byFn_ok tabs_ok tabs_low Qv1)
theorem Qs5:∀s∈Qrg,Ab.SumIOk Tryz.prog tabs s:=Xu Qgr QuN (by kernel_rfl)
theorem Qs6:∀s∈Qrh,Ab.SumIOk Tryz.prog tabs s:=Xu Qgr QuO (by kernel_rfl)
theorem Qs7:∀s∈Qri,Ab.SumIOk Tryz.prog tabs s:=Xu Qgr QuP (by kernel_rfl)
theorem Qs8:∀s∈Qrj,Ab.SumIOk Tryz.prog tabs s:=Xu Qgr QuQ (by kernel_rfl)
theorem Qs9:∀s∈Qrk,Ab.SumIOk Tryz.prog tabs s:=Xu Qgr QuR (by kernel_rfl)
theorem Qta:∀s∈Qrl,Ab.SumIOk Tryz.prog tabs s:=Xu Qgr QuS (by kernel_rfl)
theorem Qtb:∀s∈Qrm,Ab.SumIOk Tryz.prog tabs s:=Xu Qgr QuT (by kernel_rfl)
theorem Qtc:∀s∈Qrn,Ab.SumIOk Tryz.prog tabs s:=Xu Qgr QuU (by kernel_rfl)
theorem Qv2:∀f,∀s∈QAN f,Ab.SumIOk Tryz.prog tabs s:=λf s hs=>by
 unfold QAN at hs;cases h:Nat.beq f 187 with
 | true=>
  rw[h,cond_true]at hs;simp only[List.mem_append]at hs;rcases hs with((((((hs | hs) | hs) | hs) | hs) | hs) | hs) | hs
  ·exact Qs5 s hs
  ·exact Qs6 s hs
  ·exact Qs7 s hs
  ·exact Qs8 s hs
  ·exact Qs9 s hs
  ·exact Qta s hs
  ·exact Qtb s hs
  ·exact Qtc s hs
 | false=>
  rw[h,cond_false]at hs;exact Qv1 f s hs
theorem QCy:Ab.CallOk Tryz.prog kn3:=Ab.orKnown_ok Qe8 (Ab.byFn_ok tabs_ok tabs_low Qv2)
theorem all_sums3_0:∀s∈Qro,Ab.SumIOk Tryz.prog tabs s:=Xu QCy QuV (by kernel_rfl)
theorem Qv3:∀f,∀s∈QAO f,Ab.SumIOk Tryz.prog tabs s:=λf s hs=>by
 unfold QAO at hs;cases h:Nat.beq f 97 with
 | true=>
  rw[h,cond_true]at hs;exact all_sums3_0 s hs
 | false=>
  rw[h,cond_false]at hs;exact Qv2 f s hs
theorem QCz:Ab.CallOk Tryz.prog kn4:=Ab.orKnown_ok Qe8 (Ab.byFn_ok tabs_ok tabs_low Qv3)
theorem all_sums4_0:∀s∈Qrp,Ab.SumIOk Tryz.prog tabs s:=Xu QCz QuW (by kernel_rfl)
theorem Qv4:∀f,∀s∈QAP f,Ab.SumIOk Tryz.prog tabs s:=λf s hs=>by
 unfold QAP at hs;cases h:Nat.beq f 98 with
 | true=>
  rw[h,cond_true]at hs;exact all_sums4_0 s hs
 | false=>
  rw[h,cond_false]at hs;exact Qv3 f s hs
theorem QCA:Ab.CallOk Tryz.prog kn5:=Ab.orKnown_ok Qe8 (Ab.byFn_ok tabs_ok tabs_low Qv4)
theorem all_sums5_0:∀s∈Qrq,Ab.SumIOk Tryz.prog tabs s:=Xu QCA QuX (by kernel_rfl)
theorem Qv5:∀f,∀s∈QAQ f,Ab.SumIOk Tryz.prog tabs s:=λf s hs=>by
 unfold QAQ at hs;cases h:Nat.beq f 99 with
 | true=>
  rw[h,cond_true]at hs;exact all_sums5_0 s hs
 | false=>
  rw[h,cond_false]at hs;exact Qv4 f s hs
theorem QCB:Ab.CallOk Tryz.prog kn6:=Ab.orKnown_ok Qe8 (Ab.byFn_ok tabs_ok tabs_low Qv5)
theorem all_sums6_0:∀s∈Qrr,Ab.SumIOk Tryz.prog tabs s:=Xu QCB QuY (by kernel_rfl)
theorem Qv6:∀f,∀s∈QAR f,Ab.SumIOk Tryz.prog tabs s:=λf s hs=>by
 unfold QAR at hs;cases h:Nat.beq f 100 with
 | true=>
  rw[h,cond_true]at hs;exact all_sums6_0 s hs
 | false=>
  rw[h,cond_false]at hs;exact Qv5 f s hs
theorem QCC:Ab.CallOk Tryz.prog kn7:=Ab.orKnown_ok Qe8 (Ab.byFn_ok tabs_ok tabs_low Qv6)
theorem all_sums7_0:∀s∈Qrs,Ab.SumIOk Tryz.prog tabs s:=Xu QCC QuZ (by kernel_rfl)
theorem QAU:∀f,∀s∈QCt f,Ab.SumIOk Tryz.prog tabs s:=λf s hs=>by
 unfold QCt at hs;cases h:Nat.beq f 101 with
 | true=>
  rw[h,cond_true]at hs;exact all_sums7_0 s hs
 | false=>
  rw[h,cond_false]at hs;exact Qv6 f s hs
theorem QCD:Ab.CallOk Tryz.prog kn8:=Ab.orKnown_ok Qe8 (Ab.byFn_ok tabs_ok tabs_low QAU)
theorem all_sums8_0:∀s∈QvZ,Ab.SumIOk Tryz.prog tabs s:=Xu QCD Qu0 (by kernel_rfl)
end Go.Proofs.YtgepgbbjfhggfaaGreatDoor.tab
