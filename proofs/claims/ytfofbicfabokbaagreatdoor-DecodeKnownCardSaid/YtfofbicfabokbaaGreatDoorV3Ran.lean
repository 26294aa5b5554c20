/- DecodeKnown's run. -/
import Derived.Test.YtfofbicfabokbaaGreatDoorV2Known
namespace Go.Proofs.YtfofbicfabokbaaGreatDoor.decodeKnown
open Go.ChangeShapes Go.WideShapes Go.ChangeAt Go.RowKit _root_.Go.Proofs.YtfofbicfabokbaaGreatDoor.tab
set_option maxRecDepth 100000

theorem ran : Ab.isTrue ((Ab.run Tryz.prog (code.knD) 100000 5 60).fn 5 [] (Ab.tabHeap Tryz.prog.globals.size tabs)) = true := by kernel_rfl
end Go.Proofs.YtfofbicfabokbaaGreatDoor.decodeKnown
