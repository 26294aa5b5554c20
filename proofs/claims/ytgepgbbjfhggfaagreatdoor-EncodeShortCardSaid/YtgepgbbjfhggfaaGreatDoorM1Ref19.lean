/- linotyperef19: Rows, Of, Match. -/
import Derived.Test.YtgepgbbjfhggfaaGreatDoorK7Match
import Derived.Test.YtgepgbbjfhggfaaGreatDoorLibH
set_option linter.unusedVariables false
set_option linter.unusedSimpArgs false
set_option maxRecDepth 100000
namespace Go.Proofs.YtgepgbbjfhggfaaGreatDoor.code
open Go.Ab
end Go.Proofs.YtgepgbbjfhggfaaGreatDoor.code
