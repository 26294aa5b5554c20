/- Whether a form may stand for a key. -/
import Derived.Test.YtgepgbbjfhggfaaGreatDoorLibA
import Derived.Test.YtgepgbbjfhggfaaGreatDoorN0Meet
set_option linter.unusedVariables false
set_option linter.unusedSimpArgs false
set_option maxRecDepth 100000
namespace Go.Proofs.YtgepgbbjfhggfaaGreatDoor.code
open Go.Ab
structure Ky where
 vex:Bool
 pre:Int
 w:Int
 l:Int
 map:Int
 code:Int
def Ky.cells (k:Ky):List Value:=[.bool k.vex,.int .i64 k.pre,.int .i64 k.w,.int .i64 k.l,.int .i64 k.map,.int .i64 k.code]
end Go.Proofs.YtgepgbbjfhggfaaGreatDoor.code
