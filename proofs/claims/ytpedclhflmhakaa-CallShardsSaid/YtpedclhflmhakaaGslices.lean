/- All parts. -/
import Derived.Test.YtpedclhflmhakaaGslices0
import Derived.Test.YtpedclhflmhakaaGslices1
import Derived.Test.YtpedclhflmhakaaGslices2
import Derived.Test.YtpedclhflmhakaaGslices3
import Derived.Test.YtpedclhflmhakaaGslices4
import Derived.Test.YtpedclhflmhakaaGslices5
