/- Whether two forms meet, in plain Lean. -/
import Derived.Test.YtgepgbbjfhggfaaGreatDoorLibA
set_option linter.unusedVariables false
set_option linter.unusedSimpArgs false
namespace Go.Proofs.YtgepgbbjfhggfaaGreatDoor.code
open Go.Ab
end Go.Proofs.YtgepgbbjfhggfaaGreatDoor.code
