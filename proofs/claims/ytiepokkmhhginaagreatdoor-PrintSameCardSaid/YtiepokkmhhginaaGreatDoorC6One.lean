/- Nothing of its own. -/
import Derived.Test.YtiepokkmhhginaaGreatDoorC7Free
