/- All parts. -/
import Derived.Test.YtpdegdnigcnjiaaG_record_0
import Derived.Test.YtpdegdnigcnjiaaG_record_1
