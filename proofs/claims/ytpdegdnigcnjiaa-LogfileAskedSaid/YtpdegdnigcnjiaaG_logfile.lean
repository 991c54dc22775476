/- All parts. -/
import Derived.Test.YtpdegdnigcnjiaaG_logfile_0
import Derived.Test.YtpdegdnigcnjiaaG_logfile_1
