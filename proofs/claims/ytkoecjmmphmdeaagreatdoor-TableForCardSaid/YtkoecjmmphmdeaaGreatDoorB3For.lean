/- Texts for TableFor. -/
import Derived.Test.YtkoecjmmphmdeaaGreatDoorT3For
import Derived.Test.YtkoecjmmphmdeaaGreatDoorA1Args

