/- All parts. -/
import Derived.Test.YtpdegdnigcnjiaaGreatDoorGtowpathref020
import Derived.Test.YtpdegdnigcnjiaaGreatDoorGtowpathref021
