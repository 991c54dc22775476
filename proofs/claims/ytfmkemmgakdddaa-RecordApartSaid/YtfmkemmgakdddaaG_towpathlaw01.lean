/- All parts. -/
import Derived.Test.YtfmkemmgakdddaaG_towpathlaw01_0
import Derived.Test.YtfmkemmgakdddaaG_towpathlaw01_1
