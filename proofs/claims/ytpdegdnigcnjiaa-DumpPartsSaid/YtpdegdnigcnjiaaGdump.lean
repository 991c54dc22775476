/- All parts. -/
import Derived.Test.YtpdegdnigcnjiaaGdump0
import Derived.Test.YtpdegdnigcnjiaaGdump1
import Derived.Test.YtpdegdnigcnjiaaGdump2
