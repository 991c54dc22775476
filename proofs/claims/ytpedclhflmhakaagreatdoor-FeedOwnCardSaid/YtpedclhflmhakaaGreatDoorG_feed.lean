/- All parts. -/
import Derived.Test.YtpedclhflmhakaaGreatDoorG_feed_0
import Derived.Test.YtpedclhflmhakaaGreatDoorG_feed_1
