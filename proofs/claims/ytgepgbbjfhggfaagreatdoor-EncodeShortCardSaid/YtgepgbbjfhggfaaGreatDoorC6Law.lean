/- The code of the last ones (an import alone). -/
import Derived.Test.YtgepgbbjfhggfaaGreatDoorC7Free
