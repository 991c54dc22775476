/- All parts. -/
import Derived.Test.YtpedclhflmhakaaGtowpathref170
import Derived.Test.YtpedclhflmhakaaGtowpathref171
import Derived.Test.YtpedclhflmhakaaGtowpathref172
