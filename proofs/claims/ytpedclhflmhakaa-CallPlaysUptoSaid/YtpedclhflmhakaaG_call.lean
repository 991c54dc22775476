/- All parts. -/
import Derived.Test.YtpedclhflmhakaaG_call_0
import Derived.Test.YtpedclhflmhakaaG_call_1
import Derived.Test.YtpedclhflmhakaaG_call_2
import Derived.Test.YtpedclhflmhakaaG_call_3
