/- All parts. -/
import Derived.Test.YtpedclhflmhakaaGreatDoorGcall0
import Derived.Test.YtpedclhflmhakaaGreatDoorGcall1
import Derived.Test.YtpedclhflmhakaaGreatDoorGcall2
