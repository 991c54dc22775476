/- All parts. -/
import Derived.Test.YtofjmclceflgiaaGreatGreplica0
import Derived.Test.YtofjmclceflgiaaGreatGreplica1
import Derived.Test.YtofjmclceflgiaaGreatGreplica2
import Derived.Test.YtofjmclceflgiaaGreatGreplica3
import Derived.Test.YtofjmclceflgiaaGreatGreplica4
import Derived.Test.YtofjmclceflgiaaGreatGreplica5
