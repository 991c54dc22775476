/- All parts. -/
import Derived.Test.YtpedclhflmhakaaG_towpathlaw01_0
import Derived.Test.YtpedclhflmhakaaG_towpathlaw01_1
import Derived.Test.YtpedclhflmhakaaG_towpathlaw01_2
