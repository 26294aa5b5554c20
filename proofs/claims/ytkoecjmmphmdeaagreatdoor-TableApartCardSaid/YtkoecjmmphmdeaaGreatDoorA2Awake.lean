/- linotypelaw19.awake, run. -/
import Derived.Test.YtkoecjmmphmdeaaGreatDoorK9Match
set_option maxRecDepth 100000
namespace Go.Proofs.YtkoecjmmphmdeaaGreatDoor.code
open Go.Ab
theorem awake_ran : isTrue ((run prog knM 100000 5 60).fn f_linotypelaw19_awake [] (tabHeap prog.globals.size tab.tabs)) = true := by kernel_rfl
theorem q_awake (H : Heap) (hT : TabT tab.tabs H) : CallQ prog f_linotypelaw19_awake [] H fun u H' => u = .bool true ∧ H' = H :=
  closed_q tab.tabs_ok knM_ok (by kernel_rfl) awake_ran H hT
end Go.Proofs.YtkoecjmmphmdeaaGreatDoor.code
