/- All parts. -/
import Derived.Test.YtfmkemmgakdddaaGrecord0
import Derived.Test.YtfmkemmgakdddaaGrecord1
