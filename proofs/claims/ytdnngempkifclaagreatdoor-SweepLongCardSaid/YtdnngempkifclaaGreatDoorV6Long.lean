/- linotypelaw30.SweepLong. -/
import Derived.Test.YtdnngempkifclaaGreatDoorV5Long
import Derived.Test.YtdnngempkifclaaGreatDoorV4Known
import Derived.Test.YtdnngempkifclaaGreatDoorA0Args
set_option linter.unusedVariables false
set_option maxRecDepth 100000
namespace Go.Proofs.YtdnngempkifclaaGreatDoor.code
open Go.Ab
theorem awake_ran : isTrue ((run prog more7 100000 5 60).fn f_linotypelaw30_awake [] (tabHeap prog.globals.size tab.tabs)) = true := by kernel_rfl
theorem q_longL (x : Int) (hx : I64 x) (c : Int) (hc : 0 ≤ c ∧ c < 256) (H : Heap) (hT : TabT tab.tabs H) : CallQ prog f_linotypelaw30_SweepLong [.int .i64 x, .int .u8 c] H fun u H' => u = .bool true ∧ True := by
  refine (q_linotypelaw30_SweepLong (T := TabT tab.tabs) (fun H H' hw h hx => tabT_ext _ _ hw h hx) (fun H hT => closed_q tab.tabs_ok more7_ok (by kernel_rfl) awake_ran H hT) x hx c hc H hT).mono ?_
  rintro _ _ rfl
  exact ⟨rfl, trivial⟩
end Go.Proofs.YtdnngempkifclaaGreatDoor.code
