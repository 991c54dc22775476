/- All parts. -/
import Derived.Test.YtpedclhflmhakaaGcall0
import Derived.Test.YtpedclhflmhakaaGcall1
import Derived.Test.YtpedclhflmhakaaGcall2
