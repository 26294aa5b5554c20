/- linotypelaw32.BenchNone, over the laid tables. -/
import Derived.Test.YtfdeejjmfbfjnaaGreatDoorV6None
import Derived.Test.YtfdeejjmfbfjnaaGreatDoorA0Args
import Derived.Test.YtfdeejjmfbfjnaaGreatDoorV4Known
set_option linter.unusedVariables false
set_option maxRecDepth 100000
namespace Go.Proofs.YtfdeejjmfbfjnaaGreatDoor.code
open Go.Ab
theorem awake32_ran : isTrue ((run prog more12 100000 5 60).fn f_linotypelaw32_awake [] (tabHeap prog.globals.size tab.tabs)) = true := by kernel_rfl
theorem q_none (s : ByteArray) (hs : s.size ≤ maxLen) (H : Heap) (hT : TabT tab.tabs H) : CallQ prog f_linotypelaw32_BenchNone [.string s] H fun u H' => u = .bool true ∧ True := by
  refine (q_BenchNone (T := TabT tab.tabs) (fun H H' hw h hx => tabT_ext _ _ hw h hx) (fun H hT => closed_q tab.tabs_ok more12_ok (by kernel_rfl) awake32_ran H hT) s H hT).mono ?_
  rintro _ _ rfl
  exact ⟨rfl, trivial⟩
end Go.Proofs.YtfdeejjmfbfjnaaGreatDoor.code
