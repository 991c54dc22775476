/- All parts. -/
import Derived.Test.YtjlfdepkphibgaaGreatDoorG_dump_0
import Derived.Test.YtjlfdepkphibgaaGreatDoorG_dump_1
import Derived.Test.YtjlfdepkphibgaaGreatDoorG_dump_2
