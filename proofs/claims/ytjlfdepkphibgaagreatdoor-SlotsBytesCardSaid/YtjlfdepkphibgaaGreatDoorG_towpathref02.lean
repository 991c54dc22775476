/- All parts. -/
import Derived.Test.YtjlfdepkphibgaaGreatDoorG_towpathref02_0
import Derived.Test.YtjlfdepkphibgaaGreatDoorG_towpathref02_1
