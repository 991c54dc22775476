/- All parts. -/
import Derived.Test.YtpedclhflmhakaaGfeed0
import Derived.Test.YtpedclhflmhakaaGfeed1
