/- All parts. -/
import Derived.Test.YtofjmclceflgiaaGreatG_owner_0
import Derived.Test.YtofjmclceflgiaaGreatG_owner_1
