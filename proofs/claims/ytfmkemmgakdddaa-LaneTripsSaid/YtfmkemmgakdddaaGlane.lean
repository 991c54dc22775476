/- All parts. -/
import Derived.Test.YtfmkemmgakdddaaGlane0
import Derived.Test.YtfmkemmgakdddaaGlane1
