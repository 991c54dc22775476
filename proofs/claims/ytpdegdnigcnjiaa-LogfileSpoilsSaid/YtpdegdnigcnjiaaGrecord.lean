/- All parts. -/
import Derived.Test.YtpdegdnigcnjiaaGrecord0
import Derived.Test.YtpdegdnigcnjiaaGrecord1
