/- All parts. -/
import Derived.Test.YtmcpljflohlnaaaGS0
import Derived.Test.YtmcpljflohlnaaaGS1
import Derived.Test.YtmcpljflohlnaaaGS2
