/- All parts. -/
import Derived.Test.YtpdegdnigcnjiaaGreatDoorG_towpathref02_0
import Derived.Test.YtpdegdnigcnjiaaGreatDoorG_towpathref02_1
