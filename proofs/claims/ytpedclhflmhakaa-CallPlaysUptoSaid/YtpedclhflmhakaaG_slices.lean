/- All parts. -/
import Derived.Test.YtpedclhflmhakaaG_slices_0
import Derived.Test.YtpedclhflmhakaaG_slices_1
import Derived.Test.YtpedclhflmhakaaG_slices_2
import Derived.Test.YtpedclhflmhakaaG_slices_3
import Derived.Test.YtpedclhflmhakaaG_slices_4
import Derived.Test.YtpedclhflmhakaaG_slices_5
