/- All parts. -/
import Derived.Test.YtfmkemmgakdddaaGcodec0
import Derived.Test.YtfmkemmgakdddaaGcodec1
