/- The law AsmKnown's closed run. -/
import Derived.Test.YtbkbdnlfkahaaaaGreatDoorV4Known
import Derived.Test.YtbkbdnlfkahaaaaGreatDoorS1Laid
set_option maxRecDepth 100000
namespace Go.Proofs.YtbkbdnlfkahaaaaGreatDoor.asmKnown
open Go.ChangeShapes Go.WideShapes Go.ChangeAt Go.RowKit _root_.Go.Proofs.YtbkbdnlfkahaaaaGreatDoor.tab
theorem ran:Ab.isTrue ((Ab.run Tryz.prog (code.more10) 100000 5 60).fn 4 [] (Ab.tabHeap Tryz.prog.globals.size tabs))=true:=by kernel_rfl
end Go.Proofs.YtbkbdnlfkahaaaaGreatDoor.asmKnown
