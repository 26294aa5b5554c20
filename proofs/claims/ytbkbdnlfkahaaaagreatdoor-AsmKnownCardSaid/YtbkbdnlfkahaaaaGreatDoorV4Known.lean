/- What is known ahead of the last runs. -/
import Derived.Test.YtbkbdnlfkahaaaaGreatDoorV0P0
import Derived.Test.YtbkbdnlfkahaaaaGreatDoorV0P1
import Derived.Test.YtbkbdnlfkahaaaaGreatDoorV0P2
import Derived.Test.YtbkbdnlfkahaaaaGreatDoorV0P3
import Derived.Test.YtbkbdnlfkahaaaaGreatDoorV0P4
import Derived.Test.YtbkbdnlfkahaaaaGreatDoorV0P5
import Derived.Test.YtbkbdnlfkahaaaaGreatDoorV0P6
import Derived.Test.YtbkbdnlfkahaaaaGreatDoorV0P7
import Derived.Test.YtbkbdnlfkahaaaaGreatDoorV0P8
import Derived.Test.YtbkbdnlfkahaaaaGreatDoorV0P9
import Derived.Test.YtbkbdnlfkahaaaaGreatDoorV0P10
import Derived.Test.YtbkbdnlfkahaaaaGreatDoorV0P11
set_option maxRecDepth 100000
namespace Go.Proofs.YtbkbdnlfkahaaaaGreatDoor.code
open Go.Ab _root_.Go.Proofs.YtbkbdnlfkahaaaaGreatDoor.tab
theorem Qig:∀f,∀s∈QjK f,SumIOk Tryz.prog tab.tabs s:=λf s hs=>by cases hs
theorem Qfi:∀s∈Qhe,SumIOk Tryz.prog tab.tabs s:=Qe W4 QhL (by kernel_rfl)
theorem Qfj:∀s∈Qhf,SumIOk Tryz.prog tab.tabs s:=Qe W4 QhM (by kernel_rfl)
theorem Qfk:∀s∈Qhg,SumIOk Tryz.prog tab.tabs s:=Qe W4 QhN (by kernel_rfl)
theorem QbQ:∀f,∀s∈Qef f,SumIOk Tryz.prog tab.tabs s:=λf s hs=>by
 unfold Qef at hs;cases h:Nat.beq f 153 with
 | true=>
  rw[h,Lq]at hs;simp only[LI]at hs;rcases hs with(hs | hs) | hs
  ·exact Qfi s hs
  ·exact Qfj s hs
  ·exact Qfk s hs
 | false=>
  rw[h,Ls]at hs;exact Qig f s hs
theorem GS:CallOk Tryz.prog Qeg:=orKnown_ok W4 (byFn_ok tab.tabs_ok tab.tabs_low QbQ)
theorem Qfl:∀s∈Qhh,SumIOk Tryz.prog tab.tabs s:=Qe GS QhO (by kernel_rfl)
theorem Qfm:∀s∈Qhi,SumIOk Tryz.prog tab.tabs s:=Qe GS QhP (by kernel_rfl)
theorem Qfn:∀s∈Qhj,SumIOk Tryz.prog tab.tabs s:=Qe GS QhQ (by kernel_rfl)
theorem QbR:∀f,∀s∈Qeh f,SumIOk Tryz.prog tab.tabs s:=λf s hs=>by
 unfold Qeh at hs;cases h:Nat.beq f 252 with
 | true=>
  rw[h,Lq]at hs;simp only[LI]at hs;rcases hs with(hs | hs) | hs
  ·exact Qfl s hs
  ·exact Qfm s hs
  ·exact Qfn s hs
 | false=>
  rw[h,Ls]at hs;exact QbQ f s hs
theorem Wy:CallOk Tryz.prog Zm:=orKnown_ok W4 (byFn_ok tab.tabs_ok tab.tabs_low QbR)
theorem Qfo:∀s∈Qhk,SumIOk Tryz.prog tab.tabs s:=Qe Wy QhR (by kernel_rfl)
theorem Qfp:∀s∈Qhl,SumIOk Tryz.prog tab.tabs s:=Qe Wy QhS (by kernel_rfl)
theorem Qfq:∀s∈Qhm,SumIOk Tryz.prog tab.tabs s:=Qe Wy QhT (by kernel_rfl)
theorem Qfr:∀s∈Qhn,SumIOk Tryz.prog tab.tabs s:=Qe Wy QhU (by kernel_rfl)
theorem Qfs:∀s∈Qho,SumIOk Tryz.prog tab.tabs s:=Qe Wy QhV (by kernel_rfl)
theorem Qft:∀s∈Qhp,SumIOk Tryz.prog tab.tabs s:=Qe Wy QhW (by kernel_rfl)
theorem Qfu:∀s∈Qhq,SumIOk Tryz.prog tab.tabs s:=Qe Wy QhX (by kernel_rfl)
theorem Qfv:∀s∈Qhr,SumIOk Tryz.prog tab.tabs s:=Qe Wy QhY (by kernel_rfl)
theorem Qfw:∀s∈Qhs,SumIOk Tryz.prog tab.tabs s:=Qe Wy QhZ (by kernel_rfl)
theorem Qfx:∀s∈Qht,SumIOk Tryz.prog tab.tabs s:=Qe Wy Qh0 (by kernel_rfl)
theorem QbS:∀f,∀s∈Qei f,SumIOk Tryz.prog tab.tabs s:=λf s hs=>by
 unfold Qei at hs;cases h:Nat.beq f 228 with
 | true=>
  rw[h,Lq]at hs;simp only[LI]at hs;rcases hs with((((((((hs | hs) | hs) | hs) | hs) | hs) | hs) | hs) | hs) | hs
  ·exact Qfo s hs
  ·exact Qfp s hs
  ·exact Qfq s hs
  ·exact Qfr s hs
  ·exact Qfs s hs
  ·exact Qft s hs
  ·exact Qfu s hs
  ·exact Qfv s hs
  ·exact Qfw s hs
  ·exact Qfx s hs
 | false=>
  rw[h,Ls]at hs;exact QbR f s hs
theorem Qih:CallOk Tryz.prog QjL:=orKnown_ok W4 (byFn_ok tab.tabs_ok tab.tabs_low QbS)
theorem Qfy:∀s∈Qhu,SumIOk Tryz.prog tab.tabs s:=Qe Qih Qh1 (by kernel_rfl)
theorem QbT:∀f,∀s∈Qej f,SumIOk Tryz.prog tab.tabs s:=λf s hs=>by
 unfold Qej at hs;cases h:Nat.beq f 176 with
 | true=>
  rw[h,Lq]at hs;exact Qfy s hs
 | false=>
  rw[h,Ls]at hs;exact QbS f s hs
theorem Qii:CallOk Tryz.prog QjM:=orKnown_ok W4 (byFn_ok tab.tabs_ok tab.tabs_low QbT)
theorem Qfz:∀s∈Qhv,SumIOk Tryz.prog tab.tabs s:=Qe Qii Qh2 (by kernel_rfl)
theorem QbU:∀f,∀s∈Qek f,SumIOk Tryz.prog tab.tabs s:=λf s hs=>by
 unfold Qek at hs;cases h:Nat.beq f 109 with
 | true=>
  rw[h,Lq]at hs;exact Qfz s hs
 | false=>
  rw[h,Ls]at hs;exact QbT f s hs
theorem Qij:CallOk Tryz.prog QjN:=orKnown_ok W4 (byFn_ok tab.tabs_ok tab.tabs_low QbU)
theorem QfA:∀s∈Qhw,SumIOk Tryz.prog tab.tabs s:=Qe Qij Qh3 (by kernel_rfl)
theorem QbV:∀f,∀s∈Qel f,SumIOk Tryz.prog tab.tabs s:=λf s hs=>by
 unfold Qel at hs;cases h:Nat.beq f 108 with
 | true=>
  rw[h,Lq]at hs;exact QfA s hs
 | false=>
  rw[h,Ls]at hs;exact QbU f s hs
theorem QbW:CallOk Tryz.prog Qhx:=orKnown_ok W4 (byFn_ok tab.tabs_ok tab.tabs_low QbV)
theorem QlM:∀s∈QlL,SumIOk Tryz.prog [] s:=λs hs=>sumI_ok QbW (Li.1 (show(QlL.all λs=>entered Tryz.prog s.f)=true by kernel_rfl) s hs) (Li.1 QlN s hs)
theorem QlP (a:Nat):∀s∈QlO a,SumIOk Tryz.prog [] s:=λs hs=>by
 unfold QlO at hs;cases h5:Nat.blt a 5 with
 | true=>rw[h5,Lq]at hs;cases hs
 | false=>
  rw[h5,Ls]at hs;cases h6:Nat.blt a 133 with
  | false=>rw[h6,Ls]at hs;cases hs
  | true=>
   rw[h6,Lq]at hs;rw[XV]at h5 h6;have h5':=Ll h5;have h6':=Lg h6;refine QlM s (N4.2 ⟨a - 5,LU.2 (by omega),?_⟩);rw[Sa.1 hs,show a - 5+5=a by omega]
theorem QlQ:CallOk Tryz.prog QlT:=λf args H v H' e=>by
 unfold QlT at e;cases h:Nat.beq f 107 with
 | true=>rw[h,Lq]at e;exact byFn_ok (tabs:=[]) rfl (λt ht=>by cases ht) (λ_=>QlP (QlS args)) f args H v H' e
 | false=>rw[h,Ls]at e;cases e
theorem QlK:CallOk Tryz.prog knP:=orKnown_ok W4 QlQ
theorem QfB:∀s∈Qhy,SumIOk Tryz.prog tab.tabs s:=Qe QbW Qh4 (by kernel_rfl)
theorem QbX:∀f,∀s∈Qem f,SumIOk Tryz.prog tab.tabs s:=λf s hs=>by
 unfold Qem at hs;cases h:Nat.beq f 107 with
 | true=>
  rw[h,Lq]at hs;exact QfB s hs
 | false=>
  rw[h,Ls]at hs;exact QbV f s hs
theorem Zn:CallOk Tryz.prog VK:=orKnown_ok QlK (byFn_ok tab.tabs_ok tab.tabs_low QbX)
theorem QfD:∀s∈QhA,SumIOk Tryz.prog tab.tabs s:=Qe Zn Qh6 (by kernel_rfl)
theorem QfE:∀s∈QhB,SumIOk Tryz.prog tab.tabs s:=Qe Zn Qh7 (by kernel_rfl)
theorem QfF:∀s∈QhC,SumIOk Tryz.prog tab.tabs s:=Qe Zn Qh8 (by kernel_rfl)
theorem QfG:∀s∈QhD,SumIOk Tryz.prog tab.tabs s:=Qe Zn Qh9 (by kernel_rfl)
theorem QfH:∀s∈QhE,SumIOk Tryz.prog tab.tabs s:=Qe Zn Qia (by kernel_rfl)
theorem QbY:∀f,∀s∈Qen f,SumIOk Tryz.prog tab.tabs s:=λf s hs=>by
 unfold Qen at hs;cases h:Nat.beq f 34 with
 | true=>
  rw[h,Lq]at hs;simp only[LI]at hs;rcases hs with(((hs | hs) | hs) | hs) | hs
  ·exact QfD s hs
  ·exact QfE s hs
  ·exact QfF s hs
  ·exact QfG s hs
  ·exact QfH s hs
 | false=>
  rw[h,Ls]at hs;exact QbX f s hs
theorem QbZ:CallOk Tryz.prog QhF:=orKnown_ok QlK (byFn_ok tab.tabs_ok tab.tabs_low QbY)
theorem QfI:∀s∈QhG,SumIOk Tryz.prog tab.tabs s:=Qe QbZ Qib (by kernel_rfl)
theorem QfJ:∀s∈QhH,SumIOk Tryz.prog tab.tabs s:=Qe QbZ Qic (by kernel_rfl)
theorem Qb0:∀f,∀s∈Qeo f,SumIOk Tryz.prog tab.tabs s:=λf s hs=>by
 unfold Qeo at hs;cases h:Nat.beq f 38 with
 | true=>
  rw[h,Lq]at hs;simp only[LI]at hs;rcases hs with hs | hs
  ·exact QfI s hs
  ·exact QfJ s hs
 | false=>
  rw[h,Ls]at hs;exact QbY f s hs
theorem GT:CallOk Tryz.prog Qep:=orKnown_ok QlK (byFn_ok tab.tabs_ok tab.tabs_low Qb0)
theorem QfK:∀s∈QhI,SumIOk Tryz.prog tab.tabs s:=Qe GT Qid (by kernel_rfl)
theorem QfL:∀s∈QhJ,SumIOk Tryz.prog tab.tabs s:=Qe GT Qie (by kernel_rfl)
theorem QfM:∀s∈QhK,SumIOk Tryz.prog tab.tabs s:=Qe GT Qif (by kernel_rfl)
theorem QfN:∀f,∀s∈Qdx f,SumIOk Tryz.prog tab.tabs s:=λf s hs=>by
 unfold Qdx at hs;cases h:Nat.beq f 26 with
 | true=>
  rw[h,Lq]at hs;simp only[LI]at hs;rcases hs with(hs | hs) | hs
  ·exact QfK s hs
  ·exact QfL s hs
  ·exact QfM s hs
 | false=>
  rw[h,Ls]at hs;exact Qb0 f s hs
theorem more10_ok:CallOk Tryz.prog more10:=orKnown_ok QlK (byFn_ok tab.tabs_ok tab.tabs_low QfN)
end Go.Proofs.YtbkbdnlfkahaaaaGreatDoor.code
