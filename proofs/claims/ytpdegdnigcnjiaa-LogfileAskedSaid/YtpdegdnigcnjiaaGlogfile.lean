/- All parts. -/
import Derived.Test.YtpdegdnigcnjiaaGlogfile0
import Derived.Test.YtpdegdnigcnjiaaGlogfile1
