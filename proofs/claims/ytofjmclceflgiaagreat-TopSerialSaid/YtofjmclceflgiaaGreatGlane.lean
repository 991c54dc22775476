/- All parts. -/
import Derived.Test.YtofjmclceflgiaaGreatGlane0
import Derived.Test.YtofjmclceflgiaaGreatGlane1
