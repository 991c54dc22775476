/- All parts. -/
import Derived.Test.YtjlfdepkphibgaaGreatDoorG_towpathlaw19_0
import Derived.Test.YtjlfdepkphibgaaGreatDoorG_towpathlaw19_1
