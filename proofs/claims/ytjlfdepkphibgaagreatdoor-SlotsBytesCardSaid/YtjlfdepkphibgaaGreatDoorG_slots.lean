/- All parts. -/
import Derived.Test.YtjlfdepkphibgaaGreatDoorG_slots_0
import Derived.Test.YtjlfdepkphibgaaGreatDoorG_slots_1
