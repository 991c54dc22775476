/- All parts. -/
import Derived.Test.YtpedclhflmhakaaGreatDoorGfeed0
import Derived.Test.YtpedclhflmhakaaGreatDoorGfeed1
