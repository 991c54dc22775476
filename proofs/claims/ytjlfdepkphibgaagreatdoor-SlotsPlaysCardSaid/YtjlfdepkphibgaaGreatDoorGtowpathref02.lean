/- All parts. -/
import Derived.Test.YtjlfdepkphibgaaGreatDoorGtowpathref020
import Derived.Test.YtjlfdepkphibgaaGreatDoorGtowpathref021
