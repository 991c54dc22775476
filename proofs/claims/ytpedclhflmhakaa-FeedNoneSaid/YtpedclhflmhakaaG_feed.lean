/- All parts. -/
import Derived.Test.YtpedclhflmhakaaG_feed_0
import Derived.Test.YtpedclhflmhakaaG_feed_1
