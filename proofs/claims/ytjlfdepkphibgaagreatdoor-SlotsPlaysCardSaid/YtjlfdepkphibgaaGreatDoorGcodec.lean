/- All parts. -/
import Derived.Test.YtjlfdepkphibgaaGreatDoorGcodec0
import Derived.Test.YtjlfdepkphibgaaGreatDoorGcodec1
