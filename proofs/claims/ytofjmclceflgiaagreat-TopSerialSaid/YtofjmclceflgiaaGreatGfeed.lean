/- All parts. -/
import Derived.Test.YtofjmclceflgiaaGreatGfeed0
import Derived.Test.YtofjmclceflgiaaGreatGfeed1
