/- All parts. -/
import Derived.Test.YtofjmclceflgiaaGreatG_feed_0
import Derived.Test.YtofjmclceflgiaaGreatG_feed_1
