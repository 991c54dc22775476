/- All parts. -/
import Derived.Test.YtfmkemmgakdddaaGtowpathlaw010
import Derived.Test.YtfmkemmgakdddaaGtowpathlaw011
