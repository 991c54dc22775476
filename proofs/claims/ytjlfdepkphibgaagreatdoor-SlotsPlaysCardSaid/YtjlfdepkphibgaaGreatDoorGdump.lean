/- All parts. -/
import Derived.Test.YtjlfdepkphibgaaGreatDoorGdump0
import Derived.Test.YtjlfdepkphibgaaGreatDoorGdump1
import Derived.Test.YtjlfdepkphibgaaGreatDoorGdump2
