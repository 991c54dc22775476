/- All parts. -/
import Derived.Test.YtjlfdepkphibgaaGreatDoorG_towpathref19_0
import Derived.Test.YtjlfdepkphibgaaGreatDoorG_towpathref19_1
