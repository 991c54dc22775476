/- All parts. -/
import Derived.Test.YtpedclhflmhakaaG_towpathref16_0
import Derived.Test.YtpedclhflmhakaaG_towpathref16_1
