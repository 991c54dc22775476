/- All parts. -/
import Derived.Test.YtpedclhflmhakaaG_towpathref17_0
import Derived.Test.YtpedclhflmhakaaG_towpathref17_1
import Derived.Test.YtpedclhflmhakaaG_towpathref17_2
