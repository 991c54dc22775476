/- All parts. -/
import Derived.Test.YtjlfdepkphibgaaGreatDoorGtowpathref190
import Derived.Test.YtjlfdepkphibgaaGreatDoorGtowpathref191
