/- The law BenchKnown's closed run. -/
import Derived.Test.YtfdeejjmfbfjnaaGreatDoorV4Known
import Derived.Test.YtfdeejjmfbfjnaaGreatDoorS1Laid
namespace Go.Proofs.YtfdeejjmfbfjnaaGreatDoor.benchKnown
open Go.ChangeShapes Go.WideShapes Go.ChangeAt Go.RowKit _root_.Go.Proofs.YtfdeejjmfbfjnaaGreatDoor.tab
set_option maxRecDepth 100000

theorem ran : Ab.isTrue ((Ab.run Tryz.prog (code.more12) 100000 5 60).fn 4 [] (Ab.tabHeap Tryz.prog.globals.size tabs)) = true := by kernel_rfl

end Go.Proofs.YtfdeejjmfbfjnaaGreatDoor.benchKnown
