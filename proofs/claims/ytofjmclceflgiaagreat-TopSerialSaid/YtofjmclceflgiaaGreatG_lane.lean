/- All parts. -/
import Derived.Test.YtofjmclceflgiaaGreatG_lane_0
import Derived.Test.YtofjmclceflgiaaGreatG_lane_1
