/- What is known ahead of the closed runs. -/
import Derived.Test.YtbkbdnlfkahaaaaGreatDoorS1Laid
import Derived.Test.YtbkbdnlfkahaaaaGreatDoorS0PA
import Derived.Test.YtbkbdnlfkahaaaaGreatDoorS0PB
import Derived.Test.YtbkbdnlfkahaaaaGreatDoorS0PC
set_option maxRecDepth 100000
namespace Go.Proofs.YtbkbdnlfkahaaaaGreatDoor.tab
open Go.ChangeShapes Go.WideShapes Go.ChangeAt Go.RowKit
theorem Qkb:Ab.IsExt Tryz.prog 451 .count:=⟨Tryz.f451,Tryz.func451,by kernel_rfl,by kernel_rfl,by kernel_rfl,by kernel_rfl⟩
theorem Qkc:Ab.IsExt Tryz.prog 377 .indexByte:=⟨Tryz.f377,Tryz.func377,by kernel_rfl,by kernel_rfl,by kernel_rfl,by kernel_rfl⟩
theorem Qkd:Ab.IsExt Tryz.prog 250 .add64:=⟨Tryz.f250,Tryz.func250,by kernel_rfl,by kernel_rfl,by kernel_rfl,by kernel_rfl⟩
theorem xt_ok:Ab.CallOk Tryz.prog (Ab.xknown xt):=Ab.xknown_ok λf k h=>by
 unfold xt at h;cases h451:Nat.beq f 451 with
 | true=>
  rw[h451]at h;cases h;obtain rfl:=Nat.eq_of_beq_eq_true h451;exact Qkb
 | false=>
  rw[h451]at h;cases h377:Nat.beq f 377 with
  | true=>
   rw[h377]at h;cases h;obtain rfl:=Nat.eq_of_beq_eq_true h377;exact Qkc
  | false=>
   rw[h377]at h;cases h250:Nat.beq f 250 with
   | true=>
    rw[h250]at h;cases h;obtain rfl:=Nat.eq_of_beq_eq_true h250;exact Qkd
   | false=>
    rw[h250]at h;cases h
theorem tabs_low:∀t∈tabs,t.id<Tryz.prog.globals.size:=by
 have h:(tabs.all λt=>Nat.blt t.id Tryz.prog.globals.size)=true:=by kernel_rfl
 intro t ht;have:=List.all_eq_true.1 h t ht;simpa using this
theorem Qe {kn:Ab.CallF} (hk:Ab.CallOk Tryz.prog kn) {l:List Ab.SumI} (h:Qh kn l=true) (he:(l.all λs=>Ab.entered Tryz.prog s.f)=true):∀s∈l,Ab.SumIOk Tryz.prog tabs s:=λs hs=>
 Ab.sumI_ok hk (List.all_eq_true.1 he s hs) (List.all_eq_true.1 h s hs)
theorem QiI:∀f,∀s∈Qk1 f,Ab.SumIOk Tryz.prog tabs s:=λf s hs=>by cases hs
theorem Qa6:∀s∈V8,Ab.SumIOk Tryz.prog tabs s:=Qe xt_ok Qcy (by kernel_rfl)
theorem Qa7:∀s∈V9,Ab.SumIOk Tryz.prog tabs s:=Qe xt_ok Qcz (by kernel_rfl)
theorem Qa8:∀s∈Qaa,Ab.SumIOk Tryz.prog tabs s:=Qe xt_ok QcA (by kernel_rfl)
theorem Qa9:∀s∈Qab,Ab.SumIOk Tryz.prog tabs s:=Qe xt_ok QcB (by kernel_rfl)
theorem QdR:∀f,∀s∈QiA f,Ab.SumIOk Tryz.prog tabs s:=λf s hs=>by
 unfold QiA at hs;cases h:Nat.beq f 286 with
 | true=>
  rw[h,cond_true]at hs;simp only[List.mem_append]at hs;rcases hs with((hs | hs) | hs) | hs
  ·exact Qa6 s hs
  ·exact Qa7 s hs
  ·exact Qa8 s hs
  ·exact Qa9 s hs
 | false=>
  rw[h,cond_false]at hs;exact QiI f s hs
theorem Qke:Ab.CallOk Tryz.prog kn1:=Ab.orKnown_ok xt_ok (Ab.byFn_ok tabs_ok tabs_low QdR)
theorem Qba:∀s∈Qac,Ab.SumIOk Tryz.prog tabs s:=Qe Qke QcC (by kernel_rfl)
theorem QdS:∀f,∀s∈QiB f,Ab.SumIOk Tryz.prog tabs s:=λf s hs=>by
 unfold QiB at hs;cases h:Nat.beq f 349 with
 | true=>
  rw[h,cond_true]at hs;exact Qba s hs
 | false=>
  rw[h,cond_false]at hs;exact QdR f s hs
theorem Za:Ab.CallOk Tryz.prog kn2:=Ab.orKnown_ok xt_ok (Ab.byFn_ok tabs_ok tabs_low QdS)
theorem Qbb:∀s∈Qad,Ab.SumIOk Tryz.prog tabs s:=Qe Za QcD (by kernel_rfl)
theorem Qbc:∀s∈Qae,Ab.SumIOk Tryz.prog tabs s:=Qe Za QcE (by kernel_rfl)
theorem Qbd:∀s∈Qaf,Ab.SumIOk Tryz.prog tabs s:=Qe Za QcF (by kernel_rfl)
theorem Qbe:∀s∈Qag,Ab.SumIOk Tryz.prog tabs s:=Qe Za QcG (by kernel_rfl)
theorem Qbf:∀s∈Qah,Ab.SumIOk Tryz.prog tabs s:=Qe Za QcH (by kernel_rfl)
theorem Qbg:∀s∈Qai,Ab.SumIOk Tryz.prog tabs s:=Qe Za QcI (by kernel_rfl)
theorem Qbh:∀s∈Qaj,Ab.SumIOk Tryz.prog tabs s:=Qe Za QcJ (by kernel_rfl)
theorem Qbi:∀s∈Qak,Ab.SumIOk Tryz.prog tabs s:=Qe Za QcK (by kernel_rfl)
theorem QdT:∀f,∀s∈QiC f,Ab.SumIOk Tryz.prog tabs s:=λf s hs=>by
 unfold QiC at hs;cases h:Nat.beq f 283 with
 | true=>
  rw[h,cond_true]at hs;simp only[List.mem_append]at hs;rcases hs with((((((hs | hs) | hs) | hs) | hs) | hs) | hs) | hs
  ·exact Qbb s hs
  ·exact Qbc s hs
  ·exact Qbd s hs
  ·exact Qbe s hs
  ·exact Qbf s hs
  ·exact Qbg s hs
  ·exact Qbh s hs
  ·exact Qbi s hs
 | false=>
  rw[h,cond_false]at hs;exact QdS f s hs
theorem Qkf:Ab.CallOk Tryz.prog kn3:=Ab.orKnown_ok xt_ok (Ab.byFn_ok tabs_ok tabs_low QdT)
theorem all_sums3_0:∀s∈Qal,Ab.SumIOk Tryz.prog tabs s:=Qe Qkf QcL (by kernel_rfl)
theorem QdU:∀f,∀s∈QiD f,Ab.SumIOk Tryz.prog tabs s:=λf s hs=>by
 unfold QiD at hs;cases h:Nat.beq f 235 with
 | true=>
  rw[h,cond_true]at hs;exact all_sums3_0 s hs
 | false=>
  rw[h,cond_false]at hs;exact QdT f s hs
theorem Qkg:Ab.CallOk Tryz.prog kn4:=Ab.orKnown_ok xt_ok (Ab.byFn_ok tabs_ok tabs_low QdU)
theorem all_sums4_0:∀s∈Qam,Ab.SumIOk Tryz.prog tabs s:=Qe Qkg QcM (by kernel_rfl)
theorem QdV:∀f,∀s∈QiE f,Ab.SumIOk Tryz.prog tabs s:=λf s hs=>by
 unfold QiE at hs;cases h:Nat.beq f 236 with
 | true=>
  rw[h,cond_true]at hs;exact all_sums4_0 s hs
 | false=>
  rw[h,cond_false]at hs;exact QdU f s hs
theorem Qkh:Ab.CallOk Tryz.prog kn5:=Ab.orKnown_ok xt_ok (Ab.byFn_ok tabs_ok tabs_low QdV)
theorem all_sums5_0:∀s∈Qan,Ab.SumIOk Tryz.prog tabs s:=Qe Qkh QcN (by kernel_rfl)
theorem QdW:∀f,∀s∈QiF f,Ab.SumIOk Tryz.prog tabs s:=λf s hs=>by
 unfold QiF at hs;cases h:Nat.beq f 237 with
 | true=>
  rw[h,cond_true]at hs;exact all_sums5_0 s hs
 | false=>
  rw[h,cond_false]at hs;exact QdV f s hs
theorem Qki:Ab.CallOk Tryz.prog kn6:=Ab.orKnown_ok xt_ok (Ab.byFn_ok tabs_ok tabs_low QdW)
theorem all_sums6_0:∀s∈Qao,Ab.SumIOk Tryz.prog tabs s:=Qe Qki QcO (by kernel_rfl)
theorem QdX:∀f,∀s∈QiG f,Ab.SumIOk Tryz.prog tabs s:=λf s hs=>by
 unfold QiG at hs;cases h:Nat.beq f 238 with
 | true=>
  rw[h,cond_true]at hs;exact all_sums6_0 s hs
 | false=>
  rw[h,cond_false]at hs;exact QdW f s hs
theorem Qkj:Ab.CallOk Tryz.prog kn7:=Ab.orKnown_ok xt_ok (Ab.byFn_ok tabs_ok tabs_low QdX)
theorem all_sums7_0:∀s∈Qap,Ab.SumIOk Tryz.prog tabs s:=Qe Qkj QcP (by kernel_rfl)
theorem QiJ:∀f,∀s∈Qj8 f,Ab.SumIOk Tryz.prog tabs s:=λf s hs=>by
 unfold Qj8 at hs;cases h:Nat.beq f 239 with
 | true=>
  rw[h,cond_true]at hs;exact all_sums7_0 s hs
 | false=>
  rw[h,cond_false]at hs;exact QdX f s hs
theorem Qkk:Ab.CallOk Tryz.prog kn8:=Ab.orKnown_ok xt_ok (Ab.byFn_ok tabs_ok tabs_low QiJ)
theorem all_sums8_0:∀s∈QdQ,Ab.SumIOk Tryz.prog tabs s:=Qe Qkk QcQ (by kernel_rfl)
end Go.Proofs.YtbkbdnlfkahaaaaGreatDoor.tab
