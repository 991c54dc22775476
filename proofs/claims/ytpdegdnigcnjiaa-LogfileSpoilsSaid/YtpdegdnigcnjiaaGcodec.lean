/- All parts. -/
import Derived.Test.YtpdegdnigcnjiaaGcodec0
import Derived.Test.YtpdegdnigcnjiaaGcodec1
