/- All parts. -/
import Derived.Test.YtjlfdepkphibgaaGreatDoorGtowpathlaw190
import Derived.Test.YtjlfdepkphibgaaGreatDoorGtowpathlaw191
