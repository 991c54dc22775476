/- All parts. -/
import Derived.Test.YtpedclhflmhakaaGtowpathlaw010
import Derived.Test.YtpedclhflmhakaaGtowpathlaw011
import Derived.Test.YtpedclhflmhakaaGtowpathlaw012
