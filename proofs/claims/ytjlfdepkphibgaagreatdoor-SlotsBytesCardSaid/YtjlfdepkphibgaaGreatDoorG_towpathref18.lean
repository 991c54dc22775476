/- All parts. -/
import Derived.Test.YtjlfdepkphibgaaGreatDoorG_towpathref18_0
import Derived.Test.YtjlfdepkphibgaaGreatDoorG_towpathref18_1
import Derived.Test.YtjlfdepkphibgaaGreatDoorG_towpathref18_2
