/- All parts. -/
import Derived.Test.YtofjmclceflgiaaGreatGowner0
import Derived.Test.YtofjmclceflgiaaGreatGowner1
