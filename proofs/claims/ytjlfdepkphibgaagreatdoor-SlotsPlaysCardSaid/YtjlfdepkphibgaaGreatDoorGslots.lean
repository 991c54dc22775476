/- All parts. -/
import Derived.Test.YtjlfdepkphibgaaGreatDoorGslots0
import Derived.Test.YtjlfdepkphibgaaGreatDoorGslots1
