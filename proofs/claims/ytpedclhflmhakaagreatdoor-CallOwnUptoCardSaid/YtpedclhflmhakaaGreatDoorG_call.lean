/- All parts. -/
import Derived.Test.YtpedclhflmhakaaGreatDoorG_call_0
import Derived.Test.YtpedclhflmhakaaGreatDoorG_call_1
import Derived.Test.YtpedclhflmhakaaGreatDoorG_call_2
