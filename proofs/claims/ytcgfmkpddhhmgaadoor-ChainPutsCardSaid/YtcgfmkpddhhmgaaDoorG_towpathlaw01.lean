/- All parts. -/
import Derived.Test.YtcgfmkpddhhmgaaDoorG_towpathlaw01_0
import Derived.Test.YtcgfmkpddhhmgaaDoorG_towpathlaw01_1
import Derived.Test.YtcgfmkpddhhmgaaDoorG_towpathlaw01_2
import Derived.Test.YtcgfmkpddhhmgaaDoorG_towpathlaw01_3
