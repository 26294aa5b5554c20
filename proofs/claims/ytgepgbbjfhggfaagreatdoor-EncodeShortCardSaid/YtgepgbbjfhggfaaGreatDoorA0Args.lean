/- What came in, made plain. -/
import Derived.Test.YtgepgbbjfhggfaaGreatDoorLibA
import Derived.Test.YtgepgbbjfhggfaaGreatDoorAbD
import Derived.Test.YtgepgbbjfhggfaaGreatDoorS1Laid
import Derived.ProofKit
import Derived.OpenShut
import Derived.ChangeOld
import Derived.Deep.Slices
set_option linter.unusedVariables false
set_option linter.unusedSimpArgs false
set_option maxRecDepth 100000
namespace Go.Proofs.YtgepgbbjfhggfaaGreatDoor.code
open Go.Ab Go.ChangeShapes Go.WideShapes Go.ChangeAt Go.RowKit
theorem Qp3 {z:Int}(h:(Lit.int .i64 z).wf=true):I64 z:=by
 have:=bounds_i64 h;unfold I64;omega
theorem QGk:QgP (JR prog.globals.size tab.tabs):=λid b h=>by
 obtain⟨t,_,_,rfl⟩:=JB h;rfl
end Go.Proofs.YtgepgbbjfhggfaaGreatDoor.code
