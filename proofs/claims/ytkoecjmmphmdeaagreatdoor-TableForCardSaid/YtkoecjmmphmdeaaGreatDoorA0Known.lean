/- linotypelaw19.TableKnown, run. -/
import Derived.Test.YtkoecjmmphmdeaaGreatDoorK9Match
set_option maxRecDepth 100000
namespace Go.Proofs.YtkoecjmmphmdeaaGreatDoor.code
open Go.Ab
theorem known_ran : isTrue ((run prog knM 100000 5 60).fn f_linotypelaw19_TableKnown [] (tabHeap prog.globals.size tab.tabs)) = true := by kernel_rfl
end Go.Proofs.YtkoecjmmphmdeaaGreatDoor.code
