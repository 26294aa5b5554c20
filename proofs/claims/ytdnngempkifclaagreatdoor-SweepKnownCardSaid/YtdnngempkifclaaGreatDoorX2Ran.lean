/- The law SweepKnown's closed run. -/
import Derived.Test.YtdnngempkifclaaGreatDoorV4Known
import Derived.Test.YtdnngempkifclaaGreatDoorS1Laid
namespace Go.Proofs.YtdnngempkifclaaGreatDoor.sweepKnown
open Go.ChangeShapes Go.WideShapes Go.ChangeAt Go.RowKit _root_.Go.Proofs.YtdnngempkifclaaGreatDoor.tab
set_option maxRecDepth 100000

theorem ran : Ab.isTrue ((Ab.run Tryz.prog (code.more7) 100000 5 60).fn 5 [] (Ab.tabHeap Tryz.prog.globals.size tabs)) = true := by kernel_rfl

end Go.Proofs.YtdnngempkifclaaGreatDoor.sweepKnown
