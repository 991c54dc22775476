/- All parts. -/
import Derived.Test.YtfmkemmgakdddaaG_lane_0
import Derived.Test.YtfmkemmgakdddaaG_lane_1
