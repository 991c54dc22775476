/- All parts. -/
import Derived.Test.YtpedclhflmhakaaGtowpathref160
import Derived.Test.YtpedclhflmhakaaGtowpathref161
