/- All parts. -/
import Derived.Test.YtpdegdnigcnjiaaG_dump_0
import Derived.Test.YtpdegdnigcnjiaaG_dump_1
import Derived.Test.YtpdegdnigcnjiaaG_dump_2
