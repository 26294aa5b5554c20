/- The prefixes, read one behind the other, are the bytes ahead of the opcode. -/
import Derived.Test.YtopkfjiipdjbmaaGreatDoorLibR
set_option linter.unusedVariables false
set_option linter.unusedSimpArgs false
set_option maxRecDepth 100000
set_option maxHeartbeats 4000000
namespace Go.Proofs.YtopkfjiipdjbmaaGreatDoor.code
open Go.Ab
end Go.Proofs.YtopkfjiipdjbmaaGreatDoor.code
