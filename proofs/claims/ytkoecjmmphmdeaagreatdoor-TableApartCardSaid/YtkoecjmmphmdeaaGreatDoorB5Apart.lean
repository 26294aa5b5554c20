/- Texts for TableApart. -/
import Derived.Test.YtkoecjmmphmdeaaGreatDoorT5Apart
import Derived.Test.YtkoecjmmphmdeaaGreatDoorA1Args

