/- All parts. -/
import Derived.Test.YtfmkemmgakdddaaG_record_0
import Derived.Test.YtfmkemmgakdddaaG_record_1
